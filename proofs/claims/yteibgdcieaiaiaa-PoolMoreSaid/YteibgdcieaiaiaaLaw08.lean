/- Words of athanorlaw08: what a fixed answer is, right, small, told, cells, same, refused. -/
import Derived.Test.YteibgdcieaiaiaaRef08b
import Derived.Test.YteibgdcieaiaiaaOwnSet
import Derived.Test.YteibgdcieaiaiaaAppendA
namespace Go.Proofs.Yteibgdcieaiaiaa
open Go.RowKit

section
variable {w : World} {A B C D : Option Addr} {n m c d n' m' c' d' : Nat} {zs xs ts ys : List Int}
set_option maxHeartbeats 1000000 in
theorem l08_right (A B : Option Addr) (c d : Nat) (zs xs : List Int) (w : World) (hz : zs.length ≤ 1000000) (h : Rd w A zs) :
    Calls Try.prog 42 #[.agg #[.slice A zs.length c, .slice B xs.length d]] w (RetB w (.bool (tRightB zs xs))) := by
  have k0 := Blk.new w 34 #[.slice A zs.length c, .slice B xs.length d]
  obtain ⟨q0, q1⟩ := box2 k0
  have CR := Lib.hid fun n => calls_same (ref_right A c zs ((w.alloc (.cells #[.slice A zs.length c, .slice B xs.length d] 34)).drewN n) hz ((h.alloc _).drewN n))
  rcases hr : rightB zs with _ | _
  · have HV : Hid (tRightB zs xs = false) := Lib.hid (by simp [tRightB, hr])
    rw [hr] at CR
    clear hr
    go_enter Try.func42, Try.ntmps42
    go_wp2_with fail
    go_quiet ((go_at_call 48; exact Calls.quiet_of_same (CR.out _)))
    go_wp2_with fail
    go_ret
    exact ⟨ret_bool HV.out.symm, below_drewN ((Below.refl _ _).alloc (Nat.le_refl _) _) _⟩
  · have HV : Hid (tRightB zs xs = ((xs.length : Int) == prodL zs)) := Lib.hid (by simp [tRightB, hr]; exact Bool.eq_iff_iff.2 (by simp))
    obtain ⟨_, r4, rin, _⟩ := (rightB_iff zs).1 hr
    have CS := Lib.hid fun n => calls_same (ref_size A c zs ((w.alloc (.cells #[.slice A zs.length c, .slice B xs.length d] 34)).drewN n) r4 (Lib.hid rin) ((h.alloc _).drewN n))
    rw [hr] at CR
    clear hr rin
    go_enter Try.func42, Try.ntmps42
    go_wp2_with fail
    go_quiet ((first | (go_at_call 48; exact Calls.quiet_of_same (CR.out _)) | (go_at_call 29; exact Calls.quiet_of_same (CS.out _))))
    go_wp2_with fail
    go_ret
    exact ⟨ret_bool HV.out.symm, below_drewN ((Below.refl _ _).alloc (Nat.le_refl _) _) _⟩
theorem a08_right [a : Sl w A n zs] [b : Sl w B m xs] (hn : n ≤ 1000000) : Calls Try.prog 42 #[.agg #[.slice A n c, .slice B m d]] w (RetV w (.bool (tRightB zs xs))) := by
  obtain ⟨a, rfl⟩ := a
  obtain ⟨b, rfl⟩ := b
  exact retV (l08_right A B c d zs xs w hn a)
end
section
variable {w : World} {A B C D : Option Addr} {n m c d n' m' c' d' : Nat} {zs xs ts ys : List Int}
/-- A slice that may be cut. -/
def RetSc (w : World) (zs : List Int) (n : Nat) (e : Ending) (w' : World) : Prop := ∃ A c, e = .returned (.slice A n c) ∧ Sl w' A n zs ∧ Le n c ∧ Prev w' w
theorem r7_windowH {a b c v : Int} (h : Hid (winV a b c = v)) : Calls Try.prog 49 #[.int .i64 a, .int .i64 b, .int .i64 c] w (RetV w (.int .i64 v)) := retV_of r7_window (by rw [h.out])
theorem retTm_of {S X : List Int} {E : Int} {P : Program} {f : Nat} {args : Array Value} (h : Calls P f args w (RetTA w S X E)) : Calls P f args w (RetTm w S.length X.length S X E) :=
  h.mono fun _ _ ⟨A, c, B, d, he, h1, h2, _, h4, _, _, h7⟩ => ⟨A, c, B, d, he, h1, h2, h4, h7⟩
theorem pw8 : PW [3] [2] 1 3 2 2 1 := ⟨by kernel_rfl, rfl, by simp, rfl, by kernel_rfl, by kernel_rfl, by kernel_rfl, by omega, by omega, by omega, by omega, by omega, by omega, by omega, fun j hj => by omega, by omega, by omega, by omega, by kernel_rfl⟩
theorem go8 [a : Sl w A 1 [3]] [b : Sl w B 3 [1, 3, 2]] [ld : Le 3 d] : Calls Try.prog 36 #[.int .i64 1, .agg #[.slice A 1 c, .slice B 3 d], .int .i64 2, .int .i64 1] w (RetTm w 1 2 [2] [3, 3] 0) := by
  have i6 : I6s [1, 3, 2] := inferInstance
  exact retTm_of (pl_go_yes (A := A) (B := B) (c := c) (d := d) (kind := 1) (R := 1) (Z := 3) (nn := 2) (W := 2) (S := 1) (V := [2]) (X := [3, 3]) (by omega) (by kernel_rfl) (.inl rfl) (Lib.hid pw8) (Lib.hid (by kernel_rfl)))
theorem back8 [a : Sl w A 1 [3]] [b : Sl w B 3 [1, 3, 2]] [ld : Le 3 d] [a' : Sl w C 1 [2]] [b' : Sl w D 2 [5, 7]] : Calls Try.prog 41 #[.int .i64 1, .agg #[.slice A 1 c, .slice B 3 d], .agg #[.slice C 1 c', .slice D 2 d'], .int .i64 2, .int .i64 1] w (RetTm w 1 3 [3] [0, 12, 0] 0) := by
  have i6 : I6s [5, 7] := inferInstance
  exact retTm_of (pl_back_yes (A := A) (B := B) (C := C) (D := D) (c := c) (d := d) (c' := c') (d' := d') (V := [2]) (kind := 1) (R := 1) (Z := 3) (nn := 2) (W := 2) (S := 1) (X := [0, 12, 0]) (by omega) (by omega) (by kernel_rfl) (.inl rfl) (Lib.hid pw8) (by kernel_rfl) (Lib.hid (by kernel_rfl)))
theorem goNo8 [a : Sl w A 1 [3]] [b : Sl w B 3 [1, 3, 2]] : Calls Try.prog 36 #[.int .i64 3, .agg #[.slice A 1 c, .slice B 3 d], .int .i64 2, .int .i64 1] w (RetTm w 0 0 [] [] 21) :=
  retTm_of (pl_go_no (by omega) (Lib.hid (by kernel_rfl)) (by decide))
theorem best8 [a : Sl w A 3 [2, 9, 9]] : Calls Try.prog 44 #[.slice A 3 c] w (RetV w (.int .i64 1)) := retV_of (pl_best (by omega)) (by kernel_rfl)
set_option maxRecDepth 100000 in
set_option maxHeartbeats 4000000 in
theorem a08_awake : Calls Try.prog 32 #[] w (RetV w (.bool true)) := by
  have CB := @cell_bx
  have CP := @cell_prev
  go_enter Try.func32, Try.ntmps32
  go_wp2_with (first | (go_at_call 61; (try first | (with_reducible refine gen_boxK3 (fun u _ _ _ _ => ?_)) | (with_reducible refine gen_boxK2 (fun u _ _ _ => ?_)) | (with_reducible refine gen_boxK (fun u _ _ => ?_))); (with_reducible refine (aT_ofL (by omega) (by omega) (by kernel_rfl)).mono ?_); rintro e u ⟨A', c', B', d', rfl, _, _, _, _⟩) | (go_at_call 36; (try first | (with_reducible refine gen_boxK3 (fun u _ _ _ _ => ?_)) | (with_reducible refine gen_boxK2 (fun u _ _ _ => ?_)) | (with_reducible refine gen_boxK (fun u _ _ => ?_))); (with_reducible refine (go8).mono ?_); rintro e u ⟨A', c', B', d', rfl, sA, sX, lX, _⟩))
  obtain ⟨b2, o2, z2, rfl, ob2, c20, hz2⟩ := sX.get (k := 0) (by omega)
  obtain rfl : z2 = 3 := by have := hz2.out; simpa using this.symm
  have c21 := sX.rd.all (k := 1) (z := 3) rfl
  clear hz2
  obtain ⟨u1, rfl⟩ : ∃ u1 : World, u1 = u := ⟨_, rfl⟩
  go_wp2_with (first | (go_at_call 41; (try first | (with_reducible refine gen_boxK3 (fun u _ _ _ _ => ?_)) | (with_reducible refine gen_boxK2 (fun u _ _ _ => ?_)) | (with_reducible refine gen_boxK (fun u _ _ => ?_))); (with_reducible refine (back8).mono ?_); rintro e u ⟨A', c', B', d', rfl, sA, sX, lX, _⟩))
  obtain ⟨b3, o3, z3, rfl, ob3, c30, hz3⟩ := sX.get (k := 0) (by omega)
  obtain rfl : z3 = 0 := by have := hz3.out; simpa using this.symm
  have c31 := sX.rd.all (k := 1) (z := 12) rfl
  clear hz3
  simp only [Nat.add_zero] at c20 c30
  go_wp2_with (first | (go_at_call 36; (try first | (with_reducible refine gen_boxK3 (fun u _ _ _ _ => ?_)) | (with_reducible refine gen_boxK2 (fun u _ _ _ => ?_)) | (with_reducible refine gen_boxK (fun u _ _ => ?_))); (with_reducible refine (goNo8).mono ?_); rintro e u ⟨A', c', B', d', rfl, sA, sX, lX, _⟩) | (go_at_call 44; (try first | (with_reducible refine gen_boxK3 (fun u _ _ _ _ => ?_)) | (with_reducible refine gen_boxK2 (fun u _ _ _ => ?_)) | (with_reducible refine gen_boxK (fun u _ _ => ?_))); (with_reducible refine (best8).mono ?_); rintro e u ⟨rfl, _⟩))
  go_ret
  exact ⟨rfl, prev_bel _ _⟩
end
section
variable {w : World} {A B C D : Option Addr} {n m c d n' m' c' d' : Nat} {zs xs ts ys : List Int}
set_option maxRecDepth 100000 in
set_option maxHeartbeats 2000000 in
theorem a08_small {kind W S : Int} : Calls Try.prog 35 #[.agg #[.int .i64 kind, .slice A n c, .slice B m d, .slice C n' c', .slice D m' d', .int .i64 W, .int .i64 S]] w (RetV w (.bool (decide (n ≤ 9) && decide (n' ≤ 9) && decide (m ≤ 600) && decide (m' ≤ 600)))) := by
  have CB := @cell_bx
  by_cases h1 : n ≤ 9
  rotate_left
  · go_enter Try.func35, Try.ntmps35
    go_wp2_with fail
    go_ret
    exact ⟨by simp, prev_bel _ _⟩
  by_cases h2 : n' ≤ 9
  rotate_left
  · go_enter Try.func35, Try.ntmps35
    go_wp2_with fail
    go_ret
    exact ⟨by simp, prev_bel _ _⟩
  by_cases h3 : m ≤ 600
  rotate_left
  · go_enter Try.func35, Try.ntmps35
    go_wp2_with fail
    go_ret
    exact ⟨by simp, prev_bel _ _⟩
  by_cases h4 : m' ≤ 600
  rotate_left
  · go_enter Try.func35, Try.ntmps35
    go_wp2_with fail
    go_ret
    exact ⟨by simp [h1, h2, h3, h4]; omega, prev_bel _ _⟩
  go_enter Try.func35, Try.ntmps35
  go_wp2_with fail
  go_ret
  exact ⟨by simp [h1, h2, h3]; omega, prev_bel _ _⟩
set_option maxRecDepth 100000 in
set_option maxHeartbeats 2000000 in
theorem a08_told [a : Sl w A n zs] (hn : n ≤ 1000000) {W S : Int} {V : List Int} {E : Int} (hE : Hid (plE zs W S = E)) (hV : Hid (plV zs W S = V)) :
    Calls Try.prog 34 #[.slice A n c, .int .i64 W, .int .i64 S] w (RetSA w V E) := by
  obtain ⟨a, rfl⟩ := a
  have a : Sl w A zs.length zs := ⟨a, rfl⟩
  have CP := @cell_prev
  rcases hr : rightB zs with _ | _
  · obtain rfl : E = 20 := by rw [← hE.out, plE, hr]; rfl
    obtain rfl : V = [] := by rw [← hV.out, plV, hr]; rfl
    go_enter Try.func34, Try.ntmps34
    go_wp2_with (first | (go_at_call 48; (try first | (with_reducible refine gen_boxK3 (fun u _ _ _ _ => ?_)) | (with_reducible refine gen_boxK2 (fun u _ _ _ => ?_)) | (with_reducible refine gen_boxK (fun u _ _ => ?_))); (with_reducible refine (a03_right (by omega)).mono ?_); rintro e u ⟨rfl, _⟩))
    go_ret2
    exact ⟨none, 0, rfl, Sl.empty, ⟨Nat.le_refl _⟩, Fre.none, prev_bel _ _⟩
  · obtain ⟨r1, r4, -, -⟩ := (rightB_iff zs).1 hr
    obtain ⟨bz, oz, z, rfl, obz, cz, hz⟩ := a.get (k := zs.length - 1) (by omega)
    have hl : lastD zs = z := by rw [lastD, List.getD_eq_getElem?_getD, hz.out]; rfl
    have m1 : ((zs.length : Int) - 1) = ((zs.length - 1 : Nat) : Int) := by omega
    obtain ⟨k, hk⟩ : ∃ k, zs.length - 1 = k := ⟨_, rfl⟩
    rw [hk] at m1 cz
    have hkl : k < zs.length := by omega
    rcases ho : winOk z W S with _ | _
    · have he : winE z W S = 11 := by simp [winE, ho]
      have hv : winV z W S = 0 := by simp [winV, ho]
      obtain rfl : E = 11 := by rw [← hE.out, plE, if_pos hr, hl, he]
      obtain rfl : V = [] := by rw [← hV.out, plV, hl, ho]; simp
      have HW := Lib.hid hv
      clear hl hk he hv
      go_enter Try.func34, Try.ntmps34
      go_wp2_with (first | (go_at_call 48; (try first | (with_reducible refine gen_boxK3 (fun u _ _ _ _ => ?_)) | (with_reducible refine gen_boxK2 (fun u _ _ _ => ?_)) | (with_reducible refine gen_boxK (fun u _ _ => ?_))); (with_reducible refine (a03_right (by omega)).mono ?_); rintro e u ⟨rfl, _⟩) | (go_at_call 49; (try first | (with_reducible refine gen_boxK3 (fun u _ _ _ _ => ?_)) | (with_reducible refine gen_boxK2 (fun u _ _ _ => ?_)) | (with_reducible refine gen_boxK (fun u _ _ => ?_))); (with_reducible refine (r7_windowH HW).mono ?_); rintro e u ⟨rfl, _⟩))
      go_ret2
      exact ⟨none, 0, rfl, Sl.empty, ⟨Nat.le_refl _⟩, Fre.none, prev_bel _ _⟩
    · have he : winE z W S = 0 := by simp [winE, ho]
      obtain ⟨v, hv⟩ : ∃ v, winV z W S = v := ⟨_, rfl⟩
      have hv0 : v ≠ 0 := by
        have h0 := ho
        simp only [winOk, Bool.and_eq_true, decide_eq_true_eq, and_assoc] at h0
        rw [← hv, winV, if_pos ho]
        have : 0 ≤ (z - W) / S := Int.ediv_nonneg (by omega) (by omega)
        omega
      have hv1 : (v == 0) = false := by simpa using hv0
      obtain rfl : E = 0 := by rw [← hE.out, plE, if_pos hr, hl, he]
      have HVV : Hid (zs.set k v = V) := Lib.hid (by rw [← hV.out, plV, hl, ho, hr, hk, hv]; rfl)
      have HW := Lib.hid hv
      clear hl hk hv0 hv
      go_enter Try.func34, Try.ntmps34
      go_upto_region 6 with (first | (go_at_call 48; (try first | (with_reducible refine gen_boxK3 (fun u _ _ _ _ => ?_)) | (with_reducible refine gen_boxK2 (fun u _ _ _ => ?_)) | (with_reducible refine gen_boxK (fun u _ _ => ?_))); (with_reducible refine (a03_right (by omega)).mono ?_); rintro e u ⟨rfl, _⟩) | (go_at_call 49; (try first | (with_reducible refine gen_boxK3 (fun u _ _ _ _ => ?_)) | (with_reducible refine gen_boxK2 (fun u _ _ _ => ?_)) | (with_reducible refine gen_boxK (fun u _ _ => ?_))); (with_reducible refine (r7_windowH HW).mono ?_); rintro e u ⟨rfl, _⟩))
      obtain ⟨w1, rfl⟩ : ∃ w1 : World, w1 = u := ⟨_, rfl⟩
      refine wp_region_list ?_
      refine wpList_plain rfl fun K hK => ?_
      go_simp
      refine hK _ _ ?_
      clear hK K
      refine wpList_plain rfl fun K hK => ?_
      go_simp
      refine hK _ _ ?_
      clear hK K
      have a2 : Sl w1 (some ⟨bz, oz, none⟩) zs.length zs := inferInstance
      refine wpList_appendA rfl _ _ _ rfl 3 Try.underlying22 (by kernel_rfl) w1.heap.size (some ⟨w1.heap.size, 0, none⟩) 0 [] rfl (OwnA.empty Bx.new (Nat.le_refl _)) (some ⟨bz, oz, none⟩) zs.length c zs rfl rfl a2.rd.at (by simp; omega) later_size ?_
      intro A3 c3 w3 ho3 hb3 _ _
      rw [List.nil_append] at ho3
      obtain ⟨g, rfl, hg, hgl⟩ := ho3.addr (by omega)
      have pw3 : Prev w3 w1 := ⟨(bel w1 _).trans hb3⟩
      have hcg := ho3.cell (List.getElem?_eq_getElem hkl)
      have hfg := ho3.frozen k
      clear hb3
      simp only [List.nil_append]
      go_wp2_with fail
      go_ret2
      have hgw : w.heap.size ≤ g := Nat.le_trans (later_size (w := w) (w' := w1)) hg
      have o2 := ho3.set_ k v
      rw [HVV.out] at o2
      have hlen : V.length = zs.length := by rw [← HVV.out, List.length_set]
      rw [← hlen]
      exact ⟨_, _, rfl, ⟨o2.rd, rfl⟩, ⟨o2.len_le⟩, ⟨fun ad e => by injection e with e; subst e; exact hgw⟩, ⟨(bel w w3).setCell (p := ⟨g, k, none⟩) hgw _⟩⟩
set_option maxHeartbeats 1000000 in
theorem a08_cells [b : Sl w B m xs] (hm : m ≤ 1000000) : Calls Try.prog 38 #[.slice B m d] w (RetSc w xs m) := by
  obtain ⟨b, rfl⟩ := b
  have b : Sl w B xs.length xs := ⟨b, rfl⟩
  have CP := @cell_prev
  go_enter Try.func38, Try.ntmps38
  go_wp2_with fail
  go_loopw [3, 8] (fun v i wr => ∃ (k : Nat) (A' : Option Addr) (c' : Nat) (L : List Int), k ≤ xs.length ∧ i = .int .i64 k ∧ v = .slice A' L.length c' ∧ Hid (xs.take k = L) ∧ OwnA wr w.heap.size 2 A' c' L ∧ Prev wr w) (fun _ i _ => xs.length - (intOf i).toNat)
  case atStart => exact ⟨0, none, 0, [], Nat.zero_le _, rfl, rfl, Lib.hid rfl, OwnA.nil _ _ _, prev_bel _ _⟩
  case round =>
    obtain ⟨k, A', c', L, hk, rfl, rfl, HL, hown, hp⟩ := hrel
    have hLl : L.length ≤ 1000000 := by rw [← HL.out, List.length_take]; omega
    by_cases hlt : k < xs.length
    · obtain ⟨b2, o2, x, rfl, ob2, cx, hx⟩ := b.get hlt
      have HT : Hid (xs.take (k + 1) = L ++ [x]) := Lib.hid (by rw [take_at hx.out, HL.out])
      go_wp2_with (at_builtin; refine wpList_pushI rfl _ _ _ rfl 2 Try.underlying42 (by kernel_rfl) w.heap.size A' c' L rfl hown x rfl (by omega) later_size ?_; intro A3 c3 w3 ho3 hb3 _ _)
      have : Prev w3 w := ⟨(bel w wr).trans hb3⟩
      go_roundw
      case rel => exact ⟨k + 1, A3, c3, L ++ [x], by omega, by go_num, by simp, HT, ho3, prev_bel _ _⟩
      case measure => simp [intOf]; omega
    · obtain rfl : xs = L := by rw [← HL.out]; exact (List.take_of_length_le (by omega)).symm
      go_wp2_with fail
      go_ret
      exact ⟨A', c', rfl, ⟨hown.rd, rfl⟩, ⟨hown.len_le⟩, prev_bel _ _⟩
set_option maxHeartbeats 1000000 in
theorem a08_same [a : Sl w A n xs] [b : Sl w B m ys] (hn : n ≤ 1000000) (hm : m ≤ 1000000) : Calls Try.prog 40 #[.slice A n c, .slice B m d] w (RetV w (.bool (decide (xs = ys)))) := by
  have CP := @cell_prev
  by_cases hl : n = m
  · subst hl
    have HLX : Hid (xs.length = n) := Lib.hid a.len.symm
    have HLY : Hid (ys.length = n) := Lib.hid b.len.symm
    go_enter Try.func40, Try.ntmps40
    go_wp2_with fail
    go_loopw [13] (fun i wr => ∃ k : Nat, k ≤ n ∧ i = .int .i64 k ∧ Hid (xs.take k = ys.take k) ∧ Prev wr w) (fun i _ => n - (intOf i).toNat)
    case atStart => exact ⟨0, Nat.zero_le _, rfl, Lib.hid rfl, prev_bel _ _⟩
    case round =>
      obtain ⟨k, hk, rfl, HT, hp⟩ := hrel
      by_cases hlt : k < n
      · obtain ⟨b1, o1, x, rfl, ob1, cx, hx⟩ := a.get hlt
        obtain ⟨b2, o2, y, rfl, ob2, cy, hy⟩ := b.get hlt
        by_cases hxy : x = y
        · have e1 : (x != y) = false := by simp [hxy]
          have HT2 : Hid (xs.take (k + 1) = ys.take (k + 1)) := Lib.hid (by rw [take_at hx.out, take_at hy.out, HT.out, hxy])
          clear hxy
          go_wp2_with fail
          refine wp_region_up0 (by kernel_rfl) (fun vx _ => ?_)
          refine wpAnyH_on (i := 0) (d := 16) (v := ?_) rfl rfl (by kernel_rfl) (by kernel_rfl) (by kernel_rfl) (fun _ _ _ h => h) (by kernel_rfl) (prev_bel _ _) ?_ ?_
          rotate_left
          · intro uu (pu : Prev uu _)
            go_simp
            try (with_reducible rfl)
          try simp only [List.set]
          refine wpAnyH_on (i := 1) (d := 17) (v := ?_) rfl rfl (by kernel_rfl) (by kernel_rfl) (by kernel_rfl) (fun _ _ _ h => h) (by kernel_rfl) (prev_bel _ _) ?_ ?_
          rotate_left
          · intro uu (pu : Prev uu _)
            go_simp
            try (with_reducible rfl)
          try simp only [List.set]
          refine wpAnyH_on (i := 2) (d := 18) (v := ?_) rfl rfl (by kernel_rfl) (by kernel_rfl) (by kernel_rfl) (fun _ _ _ h => h) (by kernel_rfl) (prev_bel _ _) ?_ ?_
          rotate_left
          · intro uu (pu : Prev uu _)
            go_simp
            try (with_reducible rfl)
          try simp only [List.set]
          refine wpAnyH_on (i := 3) (d := 19) (v := ?_) rfl rfl (by kernel_rfl) (by kernel_rfl) (by kernel_rfl) (fun _ _ _ h => h) (by kernel_rfl) (prev_bel _ _) ?_ ?_
          rotate_left
          · intro uu (pu : Prev uu _)
            go_simp
            try (with_reducible rfl)
          try simp only [List.set]
          refine wpAnyH_on (i := 4) (d := 20) (v := ?_) rfl rfl (by kernel_rfl) (by kernel_rfl) (by kernel_rfl) (fun _ _ _ h => h) (by kernel_rfl) (prev_bel _ _) ?_ ?_
          rotate_left
          · intro uu (pu : Prev uu _)
            go_simp
            try (with_reducible rfl)
          try simp only [List.set]
          refine wpAnyH_on (i := 5) (d := 21) (v := ?_) rfl rfl (by kernel_rfl) (by kernel_rfl) (by kernel_rfl) (fun _ _ _ h => h) (by kernel_rfl) (prev_bel _ _) ?_ ?_
          rotate_left
          · intro uu (pu : Prev uu _)
            go_simp
            try (with_reducible rfl)
          try simp only [List.set]
          refine wpAnyH_on (i := 6) (d := 22) (v := ?_) rfl rfl (by kernel_rfl) (by kernel_rfl) (by kernel_rfl) (fun _ _ _ h => h) (by kernel_rfl) (prev_bel _ _) ?_ ?_
          rotate_left
          · intro uu (pu : Prev uu _)
            go_simp
            try (with_reducible rfl)
          try simp only [List.set]
          refine wpAnyH_on (i := 7) (d := 23) (v := ?_) rfl rfl (by kernel_rfl) (by kernel_rfl) (by kernel_rfl) (fun _ _ _ h => h) (by kernel_rfl) (prev_bel _ _) ?_ ?_
          rotate_left
          · intro uu (pu : Prev uu _)
            go_simp
            try (with_reducible rfl)
          try simp only [List.set]
          refine wpAnyH_on (i := 8) (d := 24) (v := ?_) rfl rfl (by kernel_rfl) (by kernel_rfl) (by kernel_rfl) (fun _ _ _ h => h) (by kernel_rfl) (prev_bel _ _) ?_ ?_
          rotate_left
          · intro uu (pu : Prev uu _)
            go_simp
            try (with_reducible rfl)
          try simp only [List.set]
          refine wpAnyH_done (by kernel_rfl) ?_ _
          go_wp2_with fail
          go_roundw
          case rel => exact ⟨k + 1, by omega, by go_num, HT2, prev_bel _ _⟩
          case measure => simp [intOf]; omega
        · have e1 : (x != y) = true := by simp [hxy]
          have HD : Hid (decide (xs = ys) = false) := Lib.hid (by simpa using ne_at hx.out hy.out hxy)
          clear hxy
          go_wp2_with fail
          refine wp_region_up0 (by kernel_rfl) (fun vx _ => ?_)
          refine wpAnyH_on (i := 0) (d := 16) (v := ?_) rfl rfl (by kernel_rfl) (by kernel_rfl) (by kernel_rfl) (fun _ _ _ h => h) (by kernel_rfl) (prev_bel _ _) ?_ ?_
          rotate_left
          · intro uu (pu : Prev uu _)
            go_simp
            try (with_reducible rfl)
          try simp only [List.set]
          refine wpAnyH_on (i := 1) (d := 17) (v := ?_) rfl rfl (by kernel_rfl) (by kernel_rfl) (by kernel_rfl) (fun _ _ _ h => h) (by kernel_rfl) (prev_bel _ _) ?_ ?_
          rotate_left
          · intro uu (pu : Prev uu _)
            go_simp
            try (with_reducible rfl)
          try simp only [List.set]
          refine wpAnyH_on (i := 2) (d := 18) (v := ?_) rfl rfl (by kernel_rfl) (by kernel_rfl) (by kernel_rfl) (fun _ _ _ h => h) (by kernel_rfl) (prev_bel _ _) ?_ ?_
          rotate_left
          · intro uu (pu : Prev uu _)
            go_simp
            try (with_reducible rfl)
          try simp only [List.set]
          refine wpAnyH_on (i := 3) (d := 19) (v := ?_) rfl rfl (by kernel_rfl) (by kernel_rfl) (by kernel_rfl) (fun _ _ _ h => h) (by kernel_rfl) (prev_bel _ _) ?_ ?_
          rotate_left
          · intro uu (pu : Prev uu _)
            go_simp
            try (with_reducible rfl)
          try simp only [List.set]
          refine wpAnyH_on (i := 4) (d := 20) (v := ?_) rfl rfl (by kernel_rfl) (by kernel_rfl) (by kernel_rfl) (fun _ _ _ h => h) (by kernel_rfl) (prev_bel _ _) ?_ ?_
          rotate_left
          · intro uu (pu : Prev uu _)
            go_simp
            try (with_reducible rfl)
          try simp only [List.set]
          refine wpAnyH_on (i := 5) (d := 21) (v := ?_) rfl rfl (by kernel_rfl) (by kernel_rfl) (by kernel_rfl) (fun _ _ _ h => h) (by kernel_rfl) (prev_bel _ _) ?_ ?_
          rotate_left
          · intro uu (pu : Prev uu _)
            go_simp
            try (with_reducible rfl)
          try simp only [List.set]
          refine wpAnyH_on (i := 6) (d := 22) (v := ?_) rfl rfl (by kernel_rfl) (by kernel_rfl) (by kernel_rfl) (fun _ _ _ h => h) (by kernel_rfl) (prev_bel _ _) ?_ ?_
          rotate_left
          · intro uu (pu : Prev uu _)
            go_simp
            try (with_reducible rfl)
          try simp only [List.set]
          refine wpAnyH_on (i := 7) (d := 23) (v := ?_) rfl rfl (by kernel_rfl) (by kernel_rfl) (by kernel_rfl) (fun _ _ _ h => h) (by kernel_rfl) (prev_bel _ _) ?_ ?_
          rotate_left
          · intro uu (pu : Prev uu _)
            go_simp
            try (with_reducible rfl)
          try simp only [List.set]
          refine wpAnyH_on (i := 8) (d := 24) (v := ?_) rfl rfl (by kernel_rfl) (by kernel_rfl) (by kernel_rfl) (fun _ _ _ h => h) (by kernel_rfl) (prev_bel _ _) ?_ ?_
          rotate_left
          · intro uu (pu : Prev uu _)
            go_simp
            try (with_reducible rfl)
          try simp only [List.set]
          refine wpAnyH_done (by kernel_rfl) ?_ _
          go_wp2_with fail
          go_ret
          exact ⟨by rw [HD.out]; rfl, prev_bel _ _⟩
      · have HD : Hid (decide (xs = ys) = true) := Lib.hid (by
          have := HT.out
          rw [List.take_of_length_le (by rw [HLX.out]; omega), List.take_of_length_le (by rw [HLY.out]; omega)] at this
          simpa using this)
        go_wp2_with fail
        go_ret
        exact ⟨by rw [HD.out]; rfl, prev_bel _ _⟩
  · have HD : Hid (decide (xs = ys) = false) := Lib.hid (by simp; rintro rfl; exact hl (a.len.trans b.len.symm))
    have e1 : ((n : Int) != (m : Int)) = true := by simp; omega
    clear hl
    go_enter Try.func40, Try.ntmps40
    go_wp2_with fail
    go_ret
    exact ⟨by rw [HD.out]; rfl, prev_bel _ _⟩
set_option maxRecDepth 100000 in
set_option maxHeartbeats 1000000 in
theorem a08_refused [a : Sl w A n zs] [b : Sl w B m xs] (hn : n ≤ 1000000) {kind W S E : Int} (hE : Hid (agE kind zs xs W S = E)) : Calls Try.prog 37 #[.agg #[.int .i64 kind, .slice A n c, .slice B m d, .slice C n' c', .slice D m' d', .int .i64 W, .int .i64 S]] w (RetV w (.int .i64 E)) := by
  have CB := @cell_bx
  have CP := @cell_prev
  by_cases hk : kind ≠ 1 ∧ kind ≠ 2
  · obtain rfl : E = 21 := by rw [← hE.out, agE, if_pos hk]
    have k1 : (kind != 1) = true := by simpa using hk.1
    have k2 : (kind != 2) = true := by simpa using hk.2
    clear hk
    go_enter Try.func37, Try.ntmps37
    go_wp2_with fail
    go_ret
    exact ⟨rfl, prev_bel _ _⟩
  · have hk2 : kind = 1 ∨ kind = 2 := by omega
    rcases hr : tRightB zs xs with _ | _
    · obtain rfl : E = 20 := by rw [← hE.out, agE, if_neg hk, hr]; rfl
      clear hk
      rcases hk2 with rfl | rfl
      · go_enter Try.func37, Try.ntmps37
        go_wp2_with (first | (go_at_call 42; (try first | (with_reducible refine gen_boxK3 (fun u _ _ _ _ => ?_)) | (with_reducible refine gen_boxK2 (fun u _ _ _ => ?_)) | (with_reducible refine gen_boxK (fun u _ _ => ?_))); (with_reducible refine (a08_right (by omega)).mono ?_); rintro e u ⟨rfl, _⟩))
        go_ret
        exact ⟨rfl, prev_bel _ _⟩
      · go_enter Try.func37, Try.ntmps37
        go_wp2_with (first | (go_at_call 42; (try first | (with_reducible refine gen_boxK3 (fun u _ _ _ _ => ?_)) | (with_reducible refine gen_boxK2 (fun u _ _ _ => ?_)) | (with_reducible refine gen_boxK (fun u _ _ => ?_))); (with_reducible refine (a08_right (by omega)).mono ?_); rintro e u ⟨rfl, _⟩))
        go_ret
        exact ⟨rfl, prev_bel _ _⟩
    · have h1 : Hid (plE zs W S = E) := Lib.hid (by rw [← hE.out, agE, if_neg hk, hr]; rfl)
      obtain ⟨V, hV⟩ : ∃ V, plV zs W S = V := ⟨_, rfl⟩
      have h2 := Lib.hid hV
      clear hk hV
      rcases hk2 with rfl | rfl
      · go_enter Try.func37, Try.ntmps37
        go_wp2_with (first | (go_at_call 42; (try first | (with_reducible refine gen_boxK3 (fun u _ _ _ _ => ?_)) | (with_reducible refine gen_boxK2 (fun u _ _ _ => ?_)) | (with_reducible refine gen_boxK (fun u _ _ => ?_))); (with_reducible refine (a08_right (by omega)).mono ?_); rintro e u ⟨rfl, _⟩) | (go_at_call 34; (try first | (with_reducible refine gen_boxK3 (fun u _ _ _ _ => ?_)) | (with_reducible refine gen_boxK2 (fun u _ _ _ => ?_)) | (with_reducible refine gen_boxK (fun u _ _ => ?_))); (with_reducible refine (a08_told (by omega) h1 h2).mono ?_); rintro e u ⟨A', c', rfl, sJ, lJ, fJ, _⟩))
        go_ret
        exact ⟨rfl, prev_bel _ _⟩
      · go_enter Try.func37, Try.ntmps37
        go_wp2_with (first | (go_at_call 42; (try first | (with_reducible refine gen_boxK3 (fun u _ _ _ _ => ?_)) | (with_reducible refine gen_boxK2 (fun u _ _ _ => ?_)) | (with_reducible refine gen_boxK (fun u _ _ => ?_))); (with_reducible refine (a08_right (by omega)).mono ?_); rintro e u ⟨rfl, _⟩) | (go_at_call 34; (try first | (with_reducible refine gen_boxK3 (fun u _ _ _ _ => ?_)) | (with_reducible refine gen_boxK2 (fun u _ _ _ => ?_)) | (with_reducible refine gen_boxK (fun u _ _ => ?_))); (with_reducible refine (a08_told (by omega) h1 h2).mono ?_); rintro e u ⟨A', c', rfl, sJ, lJ, fJ, _⟩))
        go_ret
        exact ⟨rfl, prev_bel _ _⟩
end

end Go.Proofs.Yteibgdcieaiaiaa
