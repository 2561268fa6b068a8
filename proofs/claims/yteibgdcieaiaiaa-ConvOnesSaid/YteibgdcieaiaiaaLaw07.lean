/- Words of athanorlaw07: of, right, few, small, told, cells, same, refused. -/
import Derived.Test.YteibgdcieaiaiaaConvBack2
import Derived.Test.YteibgdcieaiaiaaRef07
namespace Go.Proofs.Yteibgdcieaiaiaa
open Go.RowKit

/-- A slice that may be cut. -/
def RetSc (w : World) (zs : List Int) (n : Nat) (e : Ending) (w' : World) : Prop := ∃ A c, e = .returned (.slice A n c) ∧ Sl w' A n zs ∧ Le n c ∧ Prev w' w
/-- A tensor whose shape is the one that was given. -/
def RetOf (w : World) (A : Option Addr) (n c m : Nat) (X : List Int) (e : Ending) (w' : World) : Prop := ∃ B d, e = .returned (.agg #[.slice A n c, .slice B m d]) ∧ Sl w' B m X ∧ Le m d ∧ Prev w' w
section
variable {w : World} {A B C D : Option Addr} {n m c d n' m' c' d' : Nat} {zs xs ts ys : List Int}
theorem a03_sameH {b : Bool} [a' : Sl w A n zs] [b' : Sl w B m xs] (hn : n ≤ 1000000) (hm : m ≤ 1000000) (h : Hid (decide (zs = xs) = b)) : Calls Try.prog 18 #[.slice A n c, .slice B m d] w (RetV w (.bool b)) := retV_of (a03_same hn hm) (by rw [h.out])
theorem aF_int7 {n : Int} : Calls Try.prog 66 #[.int .i64 n] w (RetV w (.int .i64 (fint n))) := retSame (fix_int n w)
set_option maxRecDepth 100000 in
set_option maxHeartbeats 2000000 in
theorem a07_of [b : Sl w B m xs] (hm : m ≤ 1000) {X : List Int} (hX : Hid (xs.map fint = X)) : Calls Try.prog 45 #[.slice A n c, .slice B m d] w (RetOf w A n c m X) := by
  obtain ⟨b, rfl⟩ := b
  have b : Sl w B xs.length xs := ⟨b, rfl⟩
  have CB := @cell_bx
  have CP := @cell_prev
  have FB := @frozen_bx
  go_enter Try.func45, Try.ntmps45
  go_upto_region 2 with fail
  obtain ⟨w1, hw1⟩ : ∃ w1 : World, w1 = (w.alloc (.cells #[.slice none 0 0, .slice none 0 0] 34)).alloc (.cells #[.slice A n c, .slice none 0 0] 34) := ⟨_, rfl⟩
  have kR : Bx w1 w.heap.size 34 #[.slice none 0 0, .slice none 0 0] := by rw [hw1]; infer_instance
  have kT : Bx w1 (w.heap.size + 1) 34 #[.slice A n c, .slice none 0 0] := by rw [hw1]; infer_instance
  have p1 : Prev w1 w := ⟨by rw [hw1]; exact bel w _⟩
  rw [← hw1]
  clear hw1
  go_wp2_with fail
  go_loopw [12] (fun i wr => ∃ (k : Nat) (A' : Option Addr) (c' : Nat) (L : List Int), k ≤ xs.length ∧ i = .int .i64 k ∧ Hid ((xs.take k).map fint = L) ∧ L.length ≤ k ∧ OwnA wr (w.heap.size + 1 + 1) 56 A' c' L ∧ Bx wr (w.heap.size + 1) 34 #[.slice A n c, .slice A' L.length c'] ∧ Bx wr w.heap.size 34 #[.slice none 0 0, .slice none 0 0] ∧ Prev wr w) (fun i _ => xs.length - (intOf i).toNat)
  case atStart => exact ⟨0, none, 0, [], Nat.zero_le _, rfl, Lib.hid rfl, by simp, OwnA.nil _ _ _, kT, kR, p1⟩
  case round =>
    clear kR kT p1
    obtain ⟨k, A', c', L, hk, rfl, HL, hL6, hown, hT, hR, hp⟩ := hrel
    by_cases hlt : k < xs.length
    · obtain ⟨b2, o2, x, rfl, ob2, cx, hx⟩ := b.get hlt
      have HN : Hid ((xs.take (k + 1)).map fint = L ++ [fint x]) := Lib.hid (by rw [take_at hx.out, List.map_append, HL.out]; rfl)
      have hne := hown.ne_blk hT.blk (by decide)
      have hne2 := hown.ne_blk hR.blk (by decide)
      have hsz : w.heap.size + 1 + 1 ≤ wr.heap.size := hT.blk.lt
      go_wp2_with fail
      refine wp_region_up w (by kernel_rfl) (fun vx _ => ?_)
      refine wpAnyH_on (i := 0) (d := 16) (v := ?_) rfl rfl (by kernel_rfl) (by kernel_rfl) (by kernel_rfl) (fun _ _ _ h => h) (by kernel_rfl) (prev_bel _ _) ?_ ?_
      rotate_left
      · intro uu (pu : Prev uu _)
        go_simp
        try (with_reducible rfl)
      try simp only [List.set]
      refine wpAnyH_on (i := 2) (d := 18) (v := ?_) rfl rfl (by kernel_rfl) (by kernel_rfl) (by kernel_rfl) (fun _ _ _ h => h) (by kernel_rfl) (prev_bel _ _) ?_ ?_
      rotate_left
      · intro uu (pu : Prev uu _)
        go_simp
        try (with_reducible rfl)
      try simp only [List.set]
      refine wpAnyH_ready (rs := [1, 3]) (by kernel_rfl) (by simp) ?_
      refine AllReadyH.cons rfl (fun K hK => ?_) (AllReadyH.cons rfl (fun K hK => ?_) AllReadyH.nil)
      · go_simp
        refine hK.out _ _ (prev_bel w _) (fun hHeld => ?_)
        clear hHeld hK K
        try dsimp only [Act.put, List.setIfInBounds_toArray, List.set_cons_zero, List.set_cons_succ]
        refine wpAnyH_ready (rs := [3]) (by kernel_rfl) (by simp) ?_
        refine AllReadyH.cons rfl (fun K hK => ?_) AllReadyH.nil
        go_simp
        (with_reducible refine (aF_int7).mono ?_)
        rintro e vx ⟨rfl, _⟩
        dsimp only
        refine hK.out _ _ (prev_bel w _) (fun hHeld => ?_)
        clear hHeld hK K
        try dsimp only [Act.put, List.setIfInBounds_toArray, List.set_cons_zero, List.set_cons_succ]
        refine wpAnyH_ready (rs := [4]) (by kernel_rfl) (by simp) ?_
        refine AllReadyH.cons rfl (fun K hK => ?_) AllReadyH.nil
        go_simp
        refine hK.out _ _ (prev_bel w _) (fun hHeld => ?_)
        clear hHeld hK K
        try dsimp only [Act.put, List.setIfInBounds_toArray, List.set_cons_zero, List.set_cons_succ]
        refine gen_boxH (fun vx _ _ => ?_)
        refine wpAnyH_ready (rs := [5]) (by kernel_rfl) (by simp) ?_
        refine AllReadyH.cons rfl (fun K hK => ?_) AllReadyH.nil
        refine step_pushI (by kernel_rfl) _ _ _ rfl 56 Try.underlying32 (by kernel_rfl) (w.heap.size + 1 + 1) _ _ _ rfl hown.at _ _ rfl cell_one (by omega) (Nat.le_trans hsz (later_size (w := wr))) ?_
        intro A3 c3 w3 ho3 hb3 _ _
        have hT3 : Bx w3 (w.heap.size + 1) 34 #[.slice A n c, .slice A' L.length c'] := ⟨(hT.blk.at (w' := vx)).below hb3 (by omega)⟩
        have hR3 : Bx w3 w.heap.size 34 #[.slice none 0 0, .slice none 0 0] := ⟨(hR.blk.at (w' := vx)).below hb3 (by omega)⟩
        have hp3 : Prev w3 w := ⟨(bel w vx).trans (hb3.mono (by omega))⟩
        clear hb3
        refine hK.out _ _ (prev_bel w _) (fun hHeld => ?_)
        clear hHeld hK K
        try dsimp only [Act.put, List.setIfInBounds_toArray, List.set_cons_zero, List.set_cons_succ]
        refine wpAnyH_on (i := 6) (d := 22) (v := ?_) rfl rfl (by kernel_rfl) (by kernel_rfl) (by kernel_rfl) (fun _ _ _ h => h) (by kernel_rfl) (prev_bel _ _) ?_ ?_
        rotate_left
        · intro uu (pu : Prev uu _)
          go_simp
          try (with_reducible rfl)
        try simp only [List.set]
        refine wpAnyH_ready (rs := [7]) (by kernel_rfl) (by simp) ?_
        refine AllReadyH.cons rfl (fun K hK => ?_) AllReadyH.nil
        have e1 := hT3.blk
        have f1 := e1.frozen 1
        have r1 := e1.cell 1
        go_simp
        refine hK.out _ _ ⟨(bel w w3).setCell (p := ⟨w.heap.size + 1, 1, none⟩) (by simp) _⟩ (fun hHeld => ?_)
        clear hHeld hK K r1 f1
        try dsimp only [Act.put, List.setIfInBounds_toArray, List.set_cons_zero, List.set_cons_succ]
        refine wpAnyH_done (by kernel_rfl) ?_ _
        go_wp2_with fail
        have hne3 := ho3.ne_blk hT3.blk (by decide)
        go_roundw
        case rel => exact ⟨k + 1, A3, c3, L ++ [fint x], by omega, by go_num, HN, by simp; omega, ho3.same fun ad e => Below.heap_setCell _ _ _ _ (hne3 ad e), ⟨by simpa using hT3.blk.set_ 1 _⟩, ⟨hR3.blk.far (by simp) _⟩, ⟨(bel w w3).setCell (by simp) _⟩⟩
        case measure => simp [intOf]; omega
      · go_simp
        (with_reducible refine (aF_int7).mono ?_)
        rintro e vx ⟨rfl, _⟩
        dsimp only
        refine hK.out _ _ (prev_bel w _) (fun hHeld => ?_)
        clear hHeld hK K
        try dsimp only [Act.put, List.setIfInBounds_toArray, List.set_cons_zero, List.set_cons_succ]
        refine wpAnyH_ready (rs := [1, 4]) (by kernel_rfl) (by simp) ?_
        refine AllReadyH.cons rfl (fun K hK => ?_) (AllReadyH.cons rfl (fun K hK => ?_) AllReadyH.nil)
        · go_simp
          refine hK.out _ _ (prev_bel w _) (fun hHeld => ?_)
          clear hHeld hK K
          try dsimp only [Act.put, List.setIfInBounds_toArray, List.set_cons_zero, List.set_cons_succ]
          refine wpAnyH_ready (rs := [4]) (by kernel_rfl) (by simp) ?_
          refine AllReadyH.cons rfl (fun K hK => ?_) AllReadyH.nil
          go_simp
          refine hK.out _ _ (prev_bel w _) (fun hHeld => ?_)
          clear hHeld hK K
          try dsimp only [Act.put, List.setIfInBounds_toArray, List.set_cons_zero, List.set_cons_succ]
          refine gen_boxH (fun vx _ _ => ?_)
          refine wpAnyH_ready (rs := [5]) (by kernel_rfl) (by simp) ?_
          refine AllReadyH.cons rfl (fun K hK => ?_) AllReadyH.nil
          refine step_pushI (by kernel_rfl) _ _ _ rfl 56 Try.underlying32 (by kernel_rfl) (w.heap.size + 1 + 1) _ _ _ rfl hown.at _ _ rfl cell_one (by omega) (Nat.le_trans hsz (later_size (w := wr))) ?_
          intro A3 c3 w3 ho3 hb3 _ _
          have hT3 : Bx w3 (w.heap.size + 1) 34 #[.slice A n c, .slice A' L.length c'] := ⟨(hT.blk.at (w' := vx)).below hb3 (by omega)⟩
          have hR3 : Bx w3 w.heap.size 34 #[.slice none 0 0, .slice none 0 0] := ⟨(hR.blk.at (w' := vx)).below hb3 (by omega)⟩
          have hp3 : Prev w3 w := ⟨(bel w vx).trans (hb3.mono (by omega))⟩
          clear hb3
          refine hK.out _ _ (prev_bel w _) (fun hHeld => ?_)
          clear hHeld hK K
          try dsimp only [Act.put, List.setIfInBounds_toArray, List.set_cons_zero, List.set_cons_succ]
          refine wpAnyH_on (i := 6) (d := 22) (v := ?_) rfl rfl (by kernel_rfl) (by kernel_rfl) (by kernel_rfl) (fun _ _ _ h => h) (by kernel_rfl) (prev_bel _ _) ?_ ?_
          rotate_left
          · intro uu (pu : Prev uu _)
            go_simp
            try (with_reducible rfl)
          try simp only [List.set]
          refine wpAnyH_ready (rs := [7]) (by kernel_rfl) (by simp) ?_
          refine AllReadyH.cons rfl (fun K hK => ?_) AllReadyH.nil
          have e1 := hT3.blk
          have f1 := e1.frozen 1
          have r1 := e1.cell 1
          go_simp
          refine hK.out _ _ ⟨(bel w w3).setCell (p := ⟨w.heap.size + 1, 1, none⟩) (by simp) _⟩ (fun hHeld => ?_)
          clear hHeld hK K r1 f1
          try dsimp only [Act.put, List.setIfInBounds_toArray, List.set_cons_zero, List.set_cons_succ]
          refine wpAnyH_done (by kernel_rfl) ?_ _
          go_wp2_with fail
          have hne3 := ho3.ne_blk hT3.blk (by decide)
          go_roundw
          case rel => exact ⟨k + 1, A3, c3, L ++ [fint x], by omega, by go_num, HN, by simp; omega, ho3.same fun ad e => Below.heap_setCell _ _ _ _ (hne3 ad e), ⟨by simpa using hT3.blk.set_ 1 _⟩, ⟨hR3.blk.far (by simp) _⟩, ⟨(bel w w3).setCell (by simp) _⟩⟩
          case measure => simp [intOf]; omega
        · go_simp
          refine hK.out _ _ (prev_bel w _) (fun hHeld => ?_)
          clear hHeld hK K
          try dsimp only [Act.put, List.setIfInBounds_toArray, List.set_cons_zero, List.set_cons_succ]
          refine gen_boxH (fun vx _ _ => ?_)
          refine wpAnyH_ready (rs := [1]) (by kernel_rfl) (by simp) ?_
          refine AllReadyH.cons rfl (fun K hK => ?_) AllReadyH.nil
          go_simp
          refine hK.out _ _ (prev_bel w _) (fun hHeld => ?_)
          clear hHeld hK K
          try dsimp only [Act.put, List.setIfInBounds_toArray, List.set_cons_zero, List.set_cons_succ]
          refine wpAnyH_ready (rs := [5]) (by kernel_rfl) (by simp) ?_
          refine AllReadyH.cons rfl (fun K hK => ?_) AllReadyH.nil
          refine step_pushI (by kernel_rfl) _ _ _ rfl 56 Try.underlying32 (by kernel_rfl) (w.heap.size + 1 + 1) _ _ _ rfl hown.at _ _ rfl cell_one (by omega) (Nat.le_trans hsz (later_size (w := wr))) ?_
          intro A3 c3 w3 ho3 hb3 _ _
          have hT3 : Bx w3 (w.heap.size + 1) 34 #[.slice A n c, .slice A' L.length c'] := ⟨(hT.blk.at (w' := vx)).below hb3 (by omega)⟩
          have hR3 : Bx w3 w.heap.size 34 #[.slice none 0 0, .slice none 0 0] := ⟨(hR.blk.at (w' := vx)).below hb3 (by omega)⟩
          have hp3 : Prev w3 w := ⟨(bel w vx).trans (hb3.mono (by omega))⟩
          clear hb3
          refine hK.out _ _ (prev_bel w _) (fun hHeld => ?_)
          clear hHeld hK K
          try dsimp only [Act.put, List.setIfInBounds_toArray, List.set_cons_zero, List.set_cons_succ]
          refine wpAnyH_on (i := 6) (d := 22) (v := ?_) rfl rfl (by kernel_rfl) (by kernel_rfl) (by kernel_rfl) (fun _ _ _ h => h) (by kernel_rfl) (prev_bel _ _) ?_ ?_
          rotate_left
          · intro uu (pu : Prev uu _)
            go_simp
            try (with_reducible rfl)
          try simp only [List.set]
          refine wpAnyH_ready (rs := [7]) (by kernel_rfl) (by simp) ?_
          refine AllReadyH.cons rfl (fun K hK => ?_) AllReadyH.nil
          have e1 := hT3.blk
          have f1 := e1.frozen 1
          have r1 := e1.cell 1
          go_simp
          refine hK.out _ _ ⟨(bel w w3).setCell (p := ⟨w.heap.size + 1, 1, none⟩) (by simp) _⟩ (fun hHeld => ?_)
          clear hHeld hK K r1 f1
          try dsimp only [Act.put, List.setIfInBounds_toArray, List.set_cons_zero, List.set_cons_succ]
          refine wpAnyH_done (by kernel_rfl) ?_ _
          go_wp2_with fail
          have hne3 := ho3.ne_blk hT3.blk (by decide)
          go_roundw
          case rel => exact ⟨k + 1, A3, c3, L ++ [fint x], by omega, by go_num, HN, by simp; omega, ho3.same fun ad e => Below.heap_setCell _ _ _ _ (hne3 ad e), ⟨by simpa using hT3.blk.set_ 1 _⟩, ⟨hR3.blk.far (by simp) _⟩, ⟨(bel w w3).setCell (by simp) _⟩⟩
          case measure => simp [intOf]; omega
    · obtain rfl : k = xs.length := by omega
      have hL : L = X := by rw [← HL.out, ← hX.out, List.take_length]
      subst hL
      have hXl : L.length = xs.length := by rw [← hX.out]; simp
      rw [hXl] at hT
      go_wp2_with fail
      have k2 := hR.blk.set2 (.slice A n c) (.slice A' xs.length c')
      have r0 := k2.cell 0
      have r1 := k2.cell 1
      have hf := hown.ne_blk hR.blk (by decide)
      refine bodyPost_ret (v := .agg #[.slice A n c, .slice A' xs.length c']) (by simp [results, Try.results45, go_sem, r0, r1]) rfl ?_
      exact ⟨A', c', rfl, ⟨(hown.far2 hf _ _).rd, hXl.symm⟩, ⟨by rw [← hXl]; exact hown.len_le⟩, ⟨bset2 (bel w wr) (Nat.le_refl _) _ _⟩⟩
set_option maxHeartbeats 1000000 in
theorem l07_right (A B : Option Addr) (c d : Nat) (zs xs : List Int) (w : World) (hz : zs.length ≤ 1000000) (h : Rd w A zs) :
    Calls Try.prog 27 #[.agg #[.slice A zs.length c, .slice B xs.length d]] w (RetB w (.bool (tRightB zs xs))) := by
  have k0 := Blk.new w 34 #[.slice A zs.length c, .slice B xs.length d]
  obtain ⟨q0, q1⟩ := box2 k0
  have CR := Lib.hid fun n => calls_same (ref_right A c zs ((w.alloc (.cells #[.slice A zs.length c, .slice B xs.length d] 34)).drewN n) hz ((h.alloc _).drewN n))
  rcases hr : rightB zs with _ | _
  · have HV : Hid (tRightB zs xs = false) := Lib.hid (by simp [tRightB, hr])
    rw [hr] at CR
    clear hr
    go_enter Try.func27, Try.ntmps27
    go_wp2_with fail
    go_quiet ((go_at_call 48; exact Calls.quiet_of_same (CR.out _)))
    go_wp2_with fail
    go_ret
    exact ⟨ret_bool HV.out.symm, below_drewN ((Below.refl _ _).alloc (Nat.le_refl _) _) _⟩
  · have HV : Hid (tRightB zs xs = ((xs.length : Int) == prodL zs)) := Lib.hid (by simp [tRightB, hr]; exact Bool.eq_iff_iff.2 (by simp))
    obtain ⟨_, r4, rin, _⟩ := (rightB_iff zs).1 hr
    have CS := Lib.hid fun n => calls_same (ref_size A c zs ((w.alloc (.cells #[.slice A zs.length c, .slice B xs.length d] 34)).drewN n) r4 (Lib.hid rin) ((h.alloc _).drewN n))
    rw [hr] at CR
    clear hr rin
    go_enter Try.func27, Try.ntmps27
    go_wp2_with fail
    go_quiet ((first | (go_at_call 48; exact Calls.quiet_of_same (CR.out _)) | (go_at_call 29; exact Calls.quiet_of_same (CS.out _))))
    go_wp2_with fail
    go_ret
    exact ⟨ret_bool HV.out.symm, below_drewN ((Below.refl _ _).alloc (Nat.le_refl _) _) _⟩
theorem a07_right [a : Sl w A n zs] [b : Sl w B m xs] (hn : n ≤ 1000000) : Calls Try.prog 27 #[.agg #[.slice A n c, .slice B m d]] w (RetV w (.bool (tRightB zs xs))) := by
  obtain ⟨a, rfl⟩ := a
  obtain ⟨b, rfl⟩ := b
  exact retV (l07_right A B c d zs xs w hn a)
end
section
variable {w : World} {A B C D : Option Addr} {n m c d n' m' c' d' : Nat} {zs xs ts ys : List Int}
set_option maxRecDepth 100000 in
theorem a07_few : Calls Try.prog 14 #[.slice A n c, .slice B m d] w (RetV w (.bool (decide (n ≤ 9) && decide (m ≤ 9)))) := by
  by_cases h1 : n ≤ 9
  rotate_left
  · go_enter Try.func14, Try.ntmps14
    go_wp2_with fail
    go_ret
    exact ⟨by simp, prev_bel _ _⟩
  go_enter Try.func14, Try.ntmps14
  go_wp2_with fail
  go_ret
  exact ⟨by simp [h1]; omega, prev_bel _ _⟩
theorem a07_fewH {b : Bool} (h : (decide (n ≤ 9) && decide (m ≤ 9)) = b) : Calls Try.prog 14 #[.slice A n c, .slice B m d] w (RetV w (.bool b)) := retV_of a07_few (by rw [h])
set_option maxRecDepth 100000 in
set_option maxHeartbeats 2000000 in
theorem a07_small {E F : Option Addr} {p q e f : Nat} {S : Int} : Calls Try.prog 19 #[.agg #[.slice A n c, .slice B m d, .slice C n' c', .slice D m' d', .slice E p e, .slice F q f, .int .i64 S]] w
    (RetV w (.bool ((decide (n ≤ 9) && decide (n' ≤ 9)) && decide (p ≤ 9) && decide (m ≤ 200) && decide (m' ≤ 200) && decide (q ≤ 400)))) := by
  have CB := @cell_bx
  have CP := @cell_prev
  rcases h1 : (decide (n ≤ 9) && decide (n' ≤ 9)) with _ | _
  · go_enter Try.func19, Try.ntmps19
    go_wp2_with (first | (go_at_call 14; (try first | (with_reducible refine gen_boxK3 (fun u _ _ _ _ => ?_)) | (with_reducible refine gen_boxK2 (fun u _ _ _ => ?_)) | (with_reducible refine gen_boxK (fun u _ _ => ?_))); (with_reducible refine (a07_fewH h1).mono ?_); rintro e u ⟨rfl, _⟩))
    go_ret
    exact ⟨by simp, prev_bel _ _⟩
  by_cases h2 : p ≤ 9
  rotate_left
  · go_enter Try.func19, Try.ntmps19
    go_wp2_with (first | (go_at_call 14; (try first | (with_reducible refine gen_boxK3 (fun u _ _ _ _ => ?_)) | (with_reducible refine gen_boxK2 (fun u _ _ _ => ?_)) | (with_reducible refine gen_boxK (fun u _ _ => ?_))); (with_reducible refine (a07_fewH h1).mono ?_); rintro e u ⟨rfl, _⟩))
    go_ret
    exact ⟨by first | (simp; done) | (simp; omega), prev_bel _ _⟩
  by_cases h3 : m ≤ 200
  rotate_left
  · go_enter Try.func19, Try.ntmps19
    go_wp2_with (first | (go_at_call 14; (try first | (with_reducible refine gen_boxK3 (fun u _ _ _ _ => ?_)) | (with_reducible refine gen_boxK2 (fun u _ _ _ => ?_)) | (with_reducible refine gen_boxK (fun u _ _ => ?_))); (with_reducible refine (a07_fewH h1).mono ?_); rintro e u ⟨rfl, _⟩))
    go_ret
    exact ⟨by first | (simp; done) | (simp; omega), prev_bel _ _⟩
  by_cases h4 : m' ≤ 200
  rotate_left
  · go_enter Try.func19, Try.ntmps19
    go_wp2_with (first | (go_at_call 14; (try first | (with_reducible refine gen_boxK3 (fun u _ _ _ _ => ?_)) | (with_reducible refine gen_boxK2 (fun u _ _ _ => ?_)) | (with_reducible refine gen_boxK (fun u _ _ => ?_))); (with_reducible refine (a07_fewH h1).mono ?_); rintro e u ⟨rfl, _⟩))
    go_ret
    exact ⟨by first | (simp; done) | (simp; omega), prev_bel _ _⟩
  by_cases h5 : q ≤ 400
  rotate_left
  · go_enter Try.func19, Try.ntmps19
    go_wp2_with (first | (go_at_call 14; (try first | (with_reducible refine gen_boxK3 (fun u _ _ _ _ => ?_)) | (with_reducible refine gen_boxK2 (fun u _ _ _ => ?_)) | (with_reducible refine gen_boxK (fun u _ _ => ?_))); (with_reducible refine (a07_fewH h1).mono ?_); rintro e u ⟨rfl, _⟩))
    go_ret
    exact ⟨by simp [h2, h3, h4]; omega, prev_bel _ _⟩
  go_enter Try.func19, Try.ntmps19
  go_wp2_with (first | (go_at_call 14; (try first | (with_reducible refine gen_boxK3 (fun u _ _ _ _ => ?_)) | (with_reducible refine gen_boxK2 (fun u _ _ _ => ?_)) | (with_reducible refine gen_boxK (fun u _ _ => ?_))); (with_reducible refine (a07_fewH h1).mono ?_); rintro e u ⟨rfl, _⟩))
  go_ret
  exact ⟨by simp [h2, h3, h4]; omega, prev_bel _ _⟩
set_option maxHeartbeats 1000000 in
theorem a07_cells [b : Sl w B m xs] (hm : m ≤ 1000000) : Calls Try.prog 25 #[.agg #[.slice A n c, .slice B m d]] w (RetSc w xs m) := by
  obtain ⟨b, rfl⟩ := b
  have b : Sl w B xs.length xs := ⟨b, rfl⟩
  have CB := @cell_bx
  have CP := @cell_prev
  go_enter Try.func25, Try.ntmps25
  go_wp2_with fail
  go_loopw [3, 9] (fun v i wr => ∃ (k : Nat) (A' : Option Addr) (c' : Nat) (L : List Int), k ≤ xs.length ∧ i = .int .i64 k ∧ v = .slice A' L.length c' ∧ Hid (xs.take k = L) ∧ OwnA wr w.heap.size 2 A' c' L ∧ Prev wr w) (fun _ i _ => xs.length - (intOf i).toNat)
  case atStart => exact ⟨0, none, 0, [], Nat.zero_le _, rfl, rfl, Lib.hid rfl, OwnA.nil _ _ _, prev_bel _ _⟩
  case round =>
    obtain ⟨k, A', c', L, hk, rfl, rfl, HL, hown, hp⟩ := hrel
    have hLl : L.length ≤ 1000000 := by rw [← HL.out, List.length_take]; omega
    by_cases hlt : k < xs.length
    · obtain ⟨b2, o2, x, rfl, ob2, cx, hx⟩ := b.get hlt
      have HT : Hid (xs.take (k + 1) = L ++ [x]) := Lib.hid (by rw [take_at hx.out, HL.out])
      go_wp2_with (at_builtin; refine wpList_pushI rfl _ _ _ rfl 2 Try.underlying42 (by kernel_rfl) w.heap.size A' c' L rfl hown x rfl (by omega) later_size ?_; intro A3 c3 w3 ho3 hb3 _ _)
      have : Prev w3 w := ⟨(bel w wr).trans hb3⟩
      go_roundw
      case rel => exact ⟨k + 1, A3, c3, L ++ [x], by omega, by go_num, by simp, HT, ho3, prev_bel _ _⟩
      case measure => simp [intOf]; omega
    · obtain rfl : xs = L := by rw [← HL.out]; exact (List.take_of_length_le (by omega)).symm
      go_wp2_with fail
      go_ret
      exact ⟨A', c', rfl, ⟨hown.rd, rfl⟩, ⟨hown.len_le⟩, prev_bel _ _⟩
set_option maxRecDepth 100000 in
set_option maxHeartbeats 2000000 in
theorem a07_same {E F : Option Addr} {p q e f : Nat} {vs us : List Int} [a : Sl w A n zs] [b : Sl w B m xs] [a' : Sl w E p vs] [b' : Sl w F q us] (hn : n ≤ 1000000) (hm : m ≤ 1000000) (hp : p ≤ 1000000) (hq : q ≤ 1000000) :
    Calls Try.prog 22 #[.agg #[.slice A n c, .slice B m d], .slice E p e, .slice F q f] w (RetV w (.bool (decide (zs = vs) && decide (xs = us)))) := by
  have CB := @cell_bx
  have CP := @cell_prev
  rcases hs : decide (zs = vs) with _ | _
  · have HS := Lib.hid hs
    clear hs
    go_enter Try.func22, Try.ntmps22
    go_wp2_with (first | (go_at_call 18; (try first | (with_reducible refine gen_boxK3 (fun u _ _ _ _ => ?_)) | (with_reducible refine gen_boxK2 (fun u _ _ _ => ?_)) | (with_reducible refine gen_boxK (fun u _ _ => ?_))); (with_reducible refine (a03_sameH (by omega) (by omega) HS).mono ?_); rintro e u ⟨rfl, _⟩))
    go_ret
    exact ⟨by simp, prev_bel _ _⟩
  have HS := Lib.hid hs
  clear hs
  by_cases hl : m = q
  · subst hl
    have HLX : Hid (xs.length = m) := Lib.hid b.len.symm
    have HLY : Hid (us.length = m) := Lib.hid b'.len.symm
    go_enter Try.func22, Try.ntmps22
    go_wp2_with (first | (go_at_call 18; (try first | (with_reducible refine gen_boxK3 (fun u _ _ _ _ => ?_)) | (with_reducible refine gen_boxK2 (fun u _ _ _ => ?_)) | (with_reducible refine gen_boxK (fun u _ _ => ?_))); (with_reducible refine (a03_sameH (by omega) (by omega) HS).mono ?_); rintro e u ⟨rfl, _⟩))
    obtain ⟨w1, rfl⟩ : ∃ w1 : World, w1 = u := ⟨_, rfl⟩
    go_loopw [23] (fun i wr => ∃ k : Nat, k ≤ m ∧ i = .int .i64 k ∧ Hid (xs.take k = us.take k) ∧ Prev wr w1) (fun i _ => m - (intOf i).toNat)
    case atStart => exact ⟨0, Nat.zero_le _, rfl, Lib.hid rfl, prev_bel _ _⟩
    case round =>
      obtain ⟨k, hk, rfl, HT, hp⟩ := hrel
      by_cases hlt : k < m
      · obtain ⟨b1, o1, x, rfl, ob1, cx, hx⟩ := b.get hlt
        obtain ⟨b2, o2, y, rfl, ob2, cy, hy⟩ := b'.get hlt
        by_cases hxy : x = y
        · have e1 : (x != y) = false := by simp [hxy]
          have HT2 : Hid (xs.take (k + 1) = us.take (k + 1)) := Lib.hid (by rw [take_at hx.out, take_at hy.out, HT.out, hxy])
          clear hxy
          go_wp2_with fail
          refine wp_region_up0 (by kernel_rfl) (fun vx _ => ?_)
          refine wpAnyH_on (i := 0) (d := 26) (v := ?_) rfl rfl (by kernel_rfl) (by kernel_rfl) (by kernel_rfl) (fun _ _ _ h => h) (by kernel_rfl) (prev_bel _ _) ?_ ?_
          rotate_left
          · intro uu (pu : Prev uu _)
            go_simp
            try (with_reducible rfl)
          try simp only [List.set]
          refine wpAnyH_on (i := 1) (d := 27) (v := ?_) rfl rfl (by kernel_rfl) (by kernel_rfl) (by kernel_rfl) (fun _ _ _ h => h) (by kernel_rfl) (prev_bel _ _) ?_ ?_
          rotate_left
          · intro uu (pu : Prev uu _)
            go_simp
            try (with_reducible rfl)
          try simp only [List.set]
          refine wpAnyH_on (i := 2) (d := 28) (v := ?_) rfl rfl (by kernel_rfl) (by kernel_rfl) (by kernel_rfl) (fun _ _ _ h => h) (by kernel_rfl) (prev_bel _ _) ?_ ?_
          rotate_left
          · intro uu (pu : Prev uu _)
            go_simp
            try (with_reducible rfl)
          try simp only [List.set]
          refine wpAnyH_on (i := 3) (d := 29) (v := ?_) rfl rfl (by kernel_rfl) (by kernel_rfl) (by kernel_rfl) (fun _ _ _ h => h) (by kernel_rfl) (prev_bel _ _) ?_ ?_
          rotate_left
          · intro uu (pu : Prev uu _)
            go_simp
            try (with_reducible rfl)
          try simp only [List.set]
          refine wpAnyH_on (i := 4) (d := 30) (v := ?_) rfl rfl (by kernel_rfl) (by kernel_rfl) (by kernel_rfl) (fun _ _ _ h => h) (by kernel_rfl) (prev_bel _ _) ?_ ?_
          rotate_left
          · intro uu (pu : Prev uu _)
            go_simp
            try (with_reducible rfl)
          try simp only [List.set]
          refine wpAnyH_on (i := 5) (d := 31) (v := ?_) rfl rfl (by kernel_rfl) (by kernel_rfl) (by kernel_rfl) (fun _ _ _ h => h) (by kernel_rfl) (prev_bel _ _) ?_ ?_
          rotate_left
          · intro uu (pu : Prev uu _)
            go_simp
            try (with_reducible rfl)
          try simp only [List.set]
          refine wpAnyH_on (i := 6) (d := 32) (v := ?_) rfl rfl (by kernel_rfl) (by kernel_rfl) (by kernel_rfl) (fun _ _ _ h => h) (by kernel_rfl) (prev_bel _ _) ?_ ?_
          rotate_left
          · intro uu (pu : Prev uu _)
            go_simp
            try (with_reducible rfl)
          try simp only [List.set]
          refine wpAnyH_on (i := 7) (d := 33) (v := ?_) rfl rfl (by kernel_rfl) (by kernel_rfl) (by kernel_rfl) (fun _ _ _ h => h) (by kernel_rfl) (prev_bel _ _) ?_ ?_
          rotate_left
          · intro uu (pu : Prev uu _)
            go_simp
            try (with_reducible rfl)
          try simp only [List.set]
          refine wpAnyH_on (i := 8) (d := 34) (v := ?_) rfl rfl (by kernel_rfl) (by kernel_rfl) (by kernel_rfl) (fun _ _ _ h => h) (by kernel_rfl) (prev_bel _ _) ?_ ?_
          rotate_left
          · intro uu (pu : Prev uu _)
            go_simp
            try (with_reducible rfl)
          try simp only [List.set]
          refine wpAnyH_on (i := 9) (d := 35) (v := ?_) rfl rfl (by kernel_rfl) (by kernel_rfl) (by kernel_rfl) (fun _ _ _ h => h) (by kernel_rfl) (prev_bel _ _) ?_ ?_
          rotate_left
          · intro uu (pu : Prev uu _)
            go_simp
            try (with_reducible rfl)
          try simp only [List.set]
          refine wpAnyH_done (by kernel_rfl) ?_ _
          go_wp2_with fail
          go_roundw
          case rel => exact ⟨k + 1, by omega, by go_num, HT2, prev_bel _ _⟩
          case measure => simp [intOf]; omega
        · have e1 : (x != y) = true := by simp [hxy]
          have HD : Hid (decide (xs = us) = false) := Lib.hid (by simpa using ne_at hx.out hy.out hxy)
          clear hxy
          go_wp2_with fail
          refine wp_region_up0 (by kernel_rfl) (fun vx _ => ?_)
          refine wpAnyH_on (i := 0) (d := 26) (v := ?_) rfl rfl (by kernel_rfl) (by kernel_rfl) (by kernel_rfl) (fun _ _ _ h => h) (by kernel_rfl) (prev_bel _ _) ?_ ?_
          rotate_left
          · intro uu (pu : Prev uu _)
            go_simp
            try (with_reducible rfl)
          try simp only [List.set]
          refine wpAnyH_on (i := 1) (d := 27) (v := ?_) rfl rfl (by kernel_rfl) (by kernel_rfl) (by kernel_rfl) (fun _ _ _ h => h) (by kernel_rfl) (prev_bel _ _) ?_ ?_
          rotate_left
          · intro uu (pu : Prev uu _)
            go_simp
            try (with_reducible rfl)
          try simp only [List.set]
          refine wpAnyH_on (i := 2) (d := 28) (v := ?_) rfl rfl (by kernel_rfl) (by kernel_rfl) (by kernel_rfl) (fun _ _ _ h => h) (by kernel_rfl) (prev_bel _ _) ?_ ?_
          rotate_left
          · intro uu (pu : Prev uu _)
            go_simp
            try (with_reducible rfl)
          try simp only [List.set]
          refine wpAnyH_on (i := 3) (d := 29) (v := ?_) rfl rfl (by kernel_rfl) (by kernel_rfl) (by kernel_rfl) (fun _ _ _ h => h) (by kernel_rfl) (prev_bel _ _) ?_ ?_
          rotate_left
          · intro uu (pu : Prev uu _)
            go_simp
            try (with_reducible rfl)
          try simp only [List.set]
          refine wpAnyH_on (i := 4) (d := 30) (v := ?_) rfl rfl (by kernel_rfl) (by kernel_rfl) (by kernel_rfl) (fun _ _ _ h => h) (by kernel_rfl) (prev_bel _ _) ?_ ?_
          rotate_left
          · intro uu (pu : Prev uu _)
            go_simp
            try (with_reducible rfl)
          try simp only [List.set]
          refine wpAnyH_on (i := 5) (d := 31) (v := ?_) rfl rfl (by kernel_rfl) (by kernel_rfl) (by kernel_rfl) (fun _ _ _ h => h) (by kernel_rfl) (prev_bel _ _) ?_ ?_
          rotate_left
          · intro uu (pu : Prev uu _)
            go_simp
            try (with_reducible rfl)
          try simp only [List.set]
          refine wpAnyH_on (i := 6) (d := 32) (v := ?_) rfl rfl (by kernel_rfl) (by kernel_rfl) (by kernel_rfl) (fun _ _ _ h => h) (by kernel_rfl) (prev_bel _ _) ?_ ?_
          rotate_left
          · intro uu (pu : Prev uu _)
            go_simp
            try (with_reducible rfl)
          try simp only [List.set]
          refine wpAnyH_on (i := 7) (d := 33) (v := ?_) rfl rfl (by kernel_rfl) (by kernel_rfl) (by kernel_rfl) (fun _ _ _ h => h) (by kernel_rfl) (prev_bel _ _) ?_ ?_
          rotate_left
          · intro uu (pu : Prev uu _)
            go_simp
            try (with_reducible rfl)
          try simp only [List.set]
          refine wpAnyH_on (i := 8) (d := 34) (v := ?_) rfl rfl (by kernel_rfl) (by kernel_rfl) (by kernel_rfl) (fun _ _ _ h => h) (by kernel_rfl) (prev_bel _ _) ?_ ?_
          rotate_left
          · intro uu (pu : Prev uu _)
            go_simp
            try (with_reducible rfl)
          try simp only [List.set]
          refine wpAnyH_on (i := 9) (d := 35) (v := ?_) rfl rfl (by kernel_rfl) (by kernel_rfl) (by kernel_rfl) (fun _ _ _ h => h) (by kernel_rfl) (prev_bel _ _) ?_ ?_
          rotate_left
          · intro uu (pu : Prev uu _)
            go_simp
            try (with_reducible rfl)
          try simp only [List.set]
          refine wpAnyH_done (by kernel_rfl) ?_ _
          go_wp2_with fail
          go_ret
          exact ⟨by rw [HD.out]; rfl, prev_bel _ _⟩
      · have HD : Hid (decide (xs = us) = true) := Lib.hid (by
          have := HT.out
          rw [List.take_of_length_le (by rw [HLX.out]; omega), List.take_of_length_le (by rw [HLY.out]; omega)] at this
          simpa using this)
        go_wp2_with fail
        go_ret
        exact ⟨by rw [HD.out]; rfl, prev_bel _ _⟩
  · have HD : Hid (decide (xs = us) = false) := Lib.hid (by simp; rintro rfl; exact hl (b.len.trans b'.len.symm))
    have e1 : ((m : Int) != (q : Int)) = true := by simp; omega
    clear hl
    go_enter Try.func22, Try.ntmps22
    go_wp2_with (first | (go_at_call 18; (try first | (with_reducible refine gen_boxK3 (fun u _ _ _ _ => ?_)) | (with_reducible refine gen_boxK2 (fun u _ _ _ => ?_)) | (with_reducible refine gen_boxK (fun u _ _ => ?_))); (with_reducible refine (a03_sameH (by omega) (by omega) HS).mono ?_); rintro e u ⟨rfl, _⟩))
    go_ret
    exact ⟨by rw [HD.out]; rfl, prev_bel _ _⟩
end

end Go.Proofs.Yteibgdcieaiaiaa
