/- move's Turn, TurnBack, and the shape of a join. -/
import Derived.Test.YtingmabmglpmaaaFresh
import Derived.LoopN
namespace Go.Proofs.Ytingmabmglpmaaa
open Go.RowKit

section
variable {w : World} {A B C D : Option Addr} {n m c d n' m' c' d' : Nat} {zs xs ts ys : List Int} {side : Int} {us : List Tn}
set_option maxRecDepth 100000 in
set_option maxHeartbeats 2000000 in
theorem mv_turn_no [a : Sl w A n zs] [b : Sl w B m xs] [a' : Sl w C n' ts] (hn : n ≤ 1000000) (hn' : n' ≤ 1000000) (h : (tRightB zs xs && tRightB ts xs) = false) : Calls Try.prog 19 #[.agg #[.slice A n c, .slice B m d], .slice C n' c'] w (RetTA w [] [] 20) := by
  have CB := @cell_bx
  have FB := @frozen_bx
  rcases hr : tRightB zs xs with _ | _
  · clear h
    go_enter Try.func19, Try.ntmps19
    go_wp2_with (first | (go_at_call 43; (try first | (with_reducible refine gen_boxK3 (fun u _ _ _ _ => ?_)) | (with_reducible refine gen_boxK2 (fun u _ _ _ => ?_)) | (with_reducible refine gen_boxK (fun u _ _ => ?_))); (with_reducible refine (aT_right (by omega)).mono ?_); rintro e u ⟨rfl, _⟩))
    have kR : Bx u (w.heap.size + 1) 26 #[.slice none 0 0, .slice none 0 0] := inferInstance
    have k3 := kR.blk.set2 (.slice none 0 0) (.slice none 0 0)
    have B3 := bset2 (bel w u) (p := w.heap.size + 1) (by omega) (.slice none 0 0) (.slice none 0 0)
    obtain ⟨r0, r1⟩ := box2 k3
    refine bodyPost_ret (v := .tuple #[.agg #[.slice none 0 0, .slice none 0 0], .int .i64 20]) (by simp [results, Try.results19, go_sem, r0, r1]) rfl ?_
    exact ⟨none, 0, none, 0, rfl, Sl.empty, Sl.empty, ⟨Nat.le_refl _⟩, ⟨Nat.le_refl _⟩, Fre.none, Fre.none, ⟨B3⟩⟩
  · have h2 : tRightB ts xs = false := by simpa [hr] using h
    clear h
    go_enter Try.func19, Try.ntmps19
    go_wp2_with (first | (go_at_call 43; (try first | (with_reducible refine gen_boxK3 (fun u _ _ _ _ => ?_)) | (with_reducible refine gen_boxK2 (fun u _ _ _ => ?_)) | (with_reducible refine gen_boxK (fun u _ _ => ?_))); (with_reducible refine (aT_right (by omega)).mono ?_); rintro e u ⟨rfl, _⟩) | (go_at_call 40; (try first | (with_reducible refine gen_boxK3 (fun u _ _ _ _ => ?_)) | (with_reducible refine gen_boxK2 (fun u _ _ _ => ?_)) | (with_reducible refine gen_boxK (fun u _ _ => ?_))); (with_reducible refine (aT_ofA_no (by omega) h2).mono ?_); rintro e u ⟨A', c', B', d', rfl, sA, sX, lA, lX, fA, fX, _⟩))
    have kR : Bx u (w.heap.size + 1) 26 #[.slice none 0 0, .slice none 0 0] := inferInstance
    have k3 := kR.blk.set2 (.slice A' 0 c') (.slice B' 0 d')
    have B3 := bset2 (bel w u) (p := w.heap.size + 1) (by omega) (.slice A' 0 c') (.slice B' 0 d')
    have sA2 := sA.far2 fA (Bx.blk (g := w.heap.size + 1)).lt (.slice A' 0 c') (.slice B' 0 d')
    have sX2 := sX.far2 fX (Bx.blk (g := w.heap.size + 1)).lt (.slice A' 0 c') (.slice B' 0 d')
    obtain ⟨r0, r1⟩ := box2 k3
    refine bodyPost_ret (v := .tuple #[.agg #[.slice A' 0 c', .slice B' 0 d'], .int .i64 20]) (by simp [results, Try.results19, go_sem, r0, r1]) rfl ?_
    exact ⟨A', c', B', d', rfl, sA2, sX2, lA, lX, fA.less later_size, fX.less later_size, ⟨B3⟩⟩
set_option maxRecDepth 100000 in
set_option maxHeartbeats 2000000 in
theorem mv_turn_yes [a : Sl w A n zs] [b : Sl w B m xs] [a' : Sl w C n' ts] (hn : n ≤ 1000000) (hm : m ≤ 1000000) (hn' : n' ≤ 1000000) (hr : tRightB zs xs = true) (h2 : tRightB ts xs = true) : Calls Try.prog 19 #[.agg #[.slice A n c, .slice B m d], .slice C n' c'] w (RetTA w ts xs 0) := by
  have CB := @cell_bx
  have FB := @frozen_bx
  go_enter Try.func19, Try.ntmps19
  go_wp2_with (first | (go_at_call 43; (try first | (with_reducible refine gen_boxK3 (fun u _ _ _ _ => ?_)) | (with_reducible refine gen_boxK2 (fun u _ _ _ => ?_)) | (with_reducible refine gen_boxK (fun u _ _ => ?_))); (with_reducible refine (aT_right (by omega)).mono ?_); rintro e u ⟨rfl, _⟩) | (go_at_call 40; (try first | (with_reducible refine gen_boxK3 (fun u _ _ _ _ => ?_)) | (with_reducible refine gen_boxK2 (fun u _ _ _ => ?_)) | (with_reducible refine gen_boxK (fun u _ _ => ?_))); (with_reducible refine (aT_ofA (by omega) (by omega) h2).mono ?_); rintro e u ⟨A', c', B', d', rfl, sA, sX, lA, lX, fA, fX, _⟩))
  have kR : Bx u (w.heap.size + 1) 26 #[.slice none 0 0, .slice none 0 0] := inferInstance
  have k3 := kR.blk.set2 (.slice A' ts.length c') (.slice B' xs.length d')
  have B3 := bset2 (bel w u) (p := w.heap.size + 1) (by omega) (.slice A' ts.length c') (.slice B' xs.length d')
  have sA2 := sA.far2 fA (Bx.blk (g := w.heap.size + 1)).lt (.slice A' ts.length c') (.slice B' xs.length d')
  have sX2 := sX.far2 fX (Bx.blk (g := w.heap.size + 1)).lt (.slice A' ts.length c') (.slice B' xs.length d')
  obtain ⟨r0, r1⟩ := box2 k3
  refine bodyPost_ret (v := .tuple #[.agg #[.slice A' ts.length c', .slice B' xs.length d'], .int .i64 0]) (by simp [results, Try.results19, go_sem, r0, r1]) rfl ?_
  exact ⟨A', c', B', d', rfl, sA2, sX2, lA, lX, fA.less later_size, fX.less later_size, ⟨B3⟩⟩

set_option maxRecDepth 100000 in
set_option maxHeartbeats 2000000 in
theorem mv_turnback_no [a : Sl w A n zs] [b : Sl w B m xs] [a' : Sl w C n' ts] [b' : Sl w D m' ys] (hn : n ≤ 1000000) (hn' : n' ≤ 1000000) (h : (tRightB zs xs && tRightB ts ys && tRightB zs ys) = false) : Calls Try.prog 22 #[.agg #[.slice A n c, .slice B m d], .agg #[.slice C n' c', .slice D m' d']] w (RetTA w [] [] 20) := by
  have CB := @cell_bx
  have CP := @cell_prev
  have FB := @frozen_bx
  rcases hr : tRightB zs xs with _ | _
  · clear h
    go_enter Try.func22, Try.ntmps22
    go_wp2_with (first | (go_at_call 43; (try first | (with_reducible refine gen_boxK3 (fun u _ _ _ _ => ?_)) | (with_reducible refine gen_boxK2 (fun u _ _ _ => ?_)) | (with_reducible refine gen_boxK (fun u _ _ => ?_))); (with_reducible refine (aT_right (by omega)).mono ?_); rintro e u ⟨rfl, _⟩))
    have kR : Bx u (w.heap.size + 1 + 1) 26 #[.slice none 0 0, .slice none 0 0] := inferInstance
    have k3 := kR.blk.set2 (.slice none 0 0) (.slice none 0 0)
    have B3 := bset2 (bel w u) (p := w.heap.size + 1 + 1) (by omega) (.slice none 0 0) (.slice none 0 0)
    obtain ⟨r0, r1⟩ := box2 k3
    refine bodyPost_ret (v := .tuple #[.agg #[.slice none 0 0, .slice none 0 0], .int .i64 20]) (by simp [results, Try.results22, go_sem, r0, r1]) rfl ?_
    exact ⟨none, 0, none, 0, rfl, Sl.empty, Sl.empty, ⟨Nat.le_refl _⟩, ⟨Nat.le_refl _⟩, Fre.none, Fre.none, ⟨B3⟩⟩
  · rcases hr2 : tRightB ts ys with _ | _
    · clear h
      go_enter Try.func22, Try.ntmps22
      go_wp2_with (first | (go_at_call 43; (try first | (with_reducible refine gen_boxK3 (fun u _ _ _ _ => ?_)) | (with_reducible refine gen_boxK2 (fun u _ _ _ => ?_)) | (with_reducible refine gen_boxK (fun u _ _ => ?_))); (with_reducible refine (aT_right (by omega)).mono ?_); rintro e u ⟨rfl, _⟩))
      have kR : Bx u (w.heap.size + 1 + 1) 26 #[.slice none 0 0, .slice none 0 0] := inferInstance
      have k3 := kR.blk.set2 (.slice none 0 0) (.slice none 0 0)
      have B3 := bset2 (bel w u) (p := w.heap.size + 1 + 1) (by omega) (.slice none 0 0) (.slice none 0 0)
      obtain ⟨r0, r1⟩ := box2 k3
      refine bodyPost_ret (v := .tuple #[.agg #[.slice none 0 0, .slice none 0 0], .int .i64 20]) (by simp [results, Try.results22, go_sem, r0, r1]) rfl ?_
      exact ⟨none, 0, none, 0, rfl, Sl.empty, Sl.empty, ⟨Nat.le_refl _⟩, ⟨Nat.le_refl _⟩, Fre.none, Fre.none, ⟨B3⟩⟩
    · have h2 : tRightB zs ys = false := by simpa [hr, hr2] using h
      clear h
      go_enter Try.func22, Try.ntmps22
      go_wp2_with (first | (go_at_call 43; (try first | (with_reducible refine gen_boxK3 (fun u _ _ _ _ => ?_)) | (with_reducible refine gen_boxK2 (fun u _ _ _ => ?_)) | (with_reducible refine gen_boxK (fun u _ _ => ?_))); (with_reducible refine (aT_right (by omega)).mono ?_); rintro e u ⟨rfl, _⟩) | (go_at_call 40; (try first | (with_reducible refine gen_boxK3 (fun u _ _ _ _ => ?_)) | (with_reducible refine gen_boxK2 (fun u _ _ _ => ?_)) | (with_reducible refine gen_boxK (fun u _ _ => ?_))); (with_reducible refine (aT_ofA_no (by omega) h2).mono ?_); rintro e u ⟨A', c', B', d', rfl, sA, sX, lA, lX, fA, fX, _⟩))
      have kR : Bx u (w.heap.size + 1 + 1) 26 #[.slice none 0 0, .slice none 0 0] := inferInstance
      have k3 := kR.blk.set2 (.slice A' 0 c') (.slice B' 0 d')
      have B3 := bset2 (bel w u) (p := w.heap.size + 1 + 1) (by omega) (.slice A' 0 c') (.slice B' 0 d')
      have sA2 := sA.far2 fA (Bx.blk (g := w.heap.size + 1 + 1)).lt (.slice A' 0 c') (.slice B' 0 d')
      have sX2 := sX.far2 fX (Bx.blk (g := w.heap.size + 1 + 1)).lt (.slice A' 0 c') (.slice B' 0 d')
      obtain ⟨r0, r1⟩ := box2 k3
      refine bodyPost_ret (v := .tuple #[.agg #[.slice A' 0 c', .slice B' 0 d'], .int .i64 20]) (by simp [results, Try.results22, go_sem, r0, r1]) rfl ?_
      exact ⟨A', c', B', d', rfl, sA2, sX2, lA, lX, fA.less later_size, fX.less later_size, ⟨B3⟩⟩
set_option maxRecDepth 100000 in
set_option maxHeartbeats 2000000 in
theorem mv_turnback_yes [a : Sl w A n zs] [b : Sl w B m xs] [a' : Sl w C n' ts] [b' : Sl w D m' ys] (hn : n ≤ 1000000) (hn' : n' ≤ 1000000) (hm' : m' ≤ 1000000) (hr : tRightB zs xs = true) (hr2 : tRightB ts ys = true) (h2 : tRightB zs ys = true) : Calls Try.prog 22 #[.agg #[.slice A n c, .slice B m d], .agg #[.slice C n' c', .slice D m' d']] w (RetTA w zs ys 0) := by
  have CB := @cell_bx
  have CP := @cell_prev
  have FB := @frozen_bx
  go_enter Try.func22, Try.ntmps22
  go_wp2_with (first | (go_at_call 43; (try first | (with_reducible refine gen_boxK3 (fun u _ _ _ _ => ?_)) | (with_reducible refine gen_boxK2 (fun u _ _ _ => ?_)) | (with_reducible refine gen_boxK (fun u _ _ => ?_))); (with_reducible refine (aT_right (by omega)).mono ?_); rintro e u ⟨rfl, _⟩) | (go_at_call 40; (try first | (with_reducible refine gen_boxK3 (fun u _ _ _ _ => ?_)) | (with_reducible refine gen_boxK2 (fun u _ _ _ => ?_)) | (with_reducible refine gen_boxK (fun u _ _ => ?_))); (with_reducible refine (aT_ofA (by omega) (by omega) h2).mono ?_); rintro e u ⟨A', c', B', d', rfl, sA, sX, lA, lX, fA, fX, _⟩))
  have kR : Bx u (w.heap.size + 1 + 1) 26 #[.slice none 0 0, .slice none 0 0] := inferInstance
  have k3 := kR.blk.set2 (.slice A' zs.length c') (.slice B' ys.length d')
  have B3 := bset2 (bel w u) (p := w.heap.size + 1 + 1) (by omega) (.slice A' zs.length c') (.slice B' ys.length d')
  have sA2 := sA.far2 fA (Bx.blk (g := w.heap.size + 1 + 1)).lt (.slice A' zs.length c') (.slice B' ys.length d')
  have sX2 := sX.far2 fX (Bx.blk (g := w.heap.size + 1 + 1)).lt (.slice A' zs.length c') (.slice B' ys.length d')
  obtain ⟨r0, r1⟩ := box2 k3
  refine bodyPost_ret (v := .tuple #[.agg #[.slice A' zs.length c', .slice B' ys.length d'], .int .i64 0]) (by simp [results, Try.results22, go_sem, r0, r1]) rfl ?_
  exact ⟨A', c', B', d', rfl, sA2, sX2, lA, lX, fA.less later_size, fX.less later_size, ⟨B3⟩⟩

/-- 'l[1:]' of tensors. -/
theorem slice_fromT (A : Option Addr) (l c : Nat) (hlc : l + 1 ≤ c) :
    ∃ A', (∀ w, (Instr.slice 27 (.slice A (l + 1) c) (some (.int .i64 1)) none none).run Try.prog w = .ok (.slice A' l (c - 1)) w) ∧ ∀ w us, TRd w A us → us.length = l + 1 → TRd w A' (us.drop 1) := by
  have hs : ∀ w, (sizeOf (Try.prog.elem 27)).run Try.prog w = .ok 2 w := fun w => by
    obtain ⟨i, hi, e⟩ := Option.map_eq_some_iff.1 (show (Try.prog.info? (Try.prog.elem 27)).map (·.size) = some 2 from by kernel_rfl)
    simp [sizeOf, typeInfo, hi, e]
  refine ⟨if c = 1 then A else A.map (·.add 2), fun w => ?_, fun w us h hl j t hj => ?_⟩
  · rw [run_slice_l w 27 A (l + 1) c (by kernel_rfl) .i64 1 (by omega) (by omega), hs]
    simp [Result.andThen, sliced]
  · rw [List.getElem?_drop] at hj
    obtain ⟨b, o, rfl, k⟩ := h _ t hj
    have hlt := (List.getElem?_eq_some_iff.1 hj).1
    rw [if_neg (by omega)]
    exact ⟨b, o + 2, by simp [Addr.add], by rw [show o + 2 + j * 2 = o + (1 + j) * 2 from by omega]; exact k⟩
theorem joinV_len {zs ts : List Int} {side : Int} : (joinV zs ts side).length ≤ zs.length := by
  unfold joinV joinL; split <;> simp
set_option maxRecDepth 100000 in
set_option maxHeartbeats 4000000 in
theorem mv_joined [a : Ts w A n us] [lc : Le n c] (hn : n ≤ 1000000) (hz : Hid (∀ t ∈ us, t.zs.length ≤ 1000000)) {S : List Int} {E : Int} (hE : Hid (jnE side us = E)) (hS : Hid (S = if E = 0 then jnS side us else [])) :
    Calls Try.prog 41 #[.int .i64 side, .slice A n c] w (RetSA w S E) := by
  have CB := @cell_bx
  have CP := @cell_prev
  have FB := @frozen_bx
  by_cases h0 : n = 0
  · subst h0
    obtain rfl : us = [] := List.eq_nil_of_length_eq_zero a.len.symm
    obtain rfl : E = 20 := hE.out.symm
    obtain rfl : S = [] := by rw [hS.out]; rfl
    go_enter Try.func41, Try.ntmps41
    go_wp2_with fail
    go_ret2
    exact ⟨none, 0, rfl, Sl.empty, ⟨Nat.le_refl _⟩, Fre.none, prev_bel _ _⟩
  obtain ⟨l, rfl⟩ : ∃ l, n = l + 1 := ⟨n - 1, by omega⟩
  obtain ⟨t0, r, rfl⟩ : ∃ t0 r, us = t0 :: r := by
    cases us with
    | nil => have := a.len; simp at this
    | cons t0 r => exact ⟨t0, r, rfl⟩
  have HL : Hid (r.length = l) := Lib.hid (by have := a.len; simp at this; omega)
  obtain ⟨b, o, A0, c0, z0, B0, d0, x0, rfl, ob, q0, q1, s0, sx0, hd0, i0, ht0⟩ := a.get (k := 0) (by omega)
  simp only [Nat.zero_mul, Nat.add_zero] at q0 q1
  obtain rfl : t0 = ⟨A0, c0, z0, B0, d0, x0⟩ := by have := ht0.out; simpa using this
  have hz0 : z0.length ≤ 1000000 := hz.out _ (List.mem_cons_self)
  have hE' := hE.out
  rw [jnE_cons] at hE'
  simp only at hE'
  rcases hr : tRightB z0 x0 with _ | _
  · obtain rfl : E = 20 := by rw [hr] at hE'; simpa using hE'.symm
    obtain rfl : S = [] := by rw [hS.out]; rfl
    clear hE' h0 hE hS
    go_enter Try.func41, Try.ntmps41
    go_wp2_with (first | (go_at_call 43; (try first | (with_reducible refine gen_boxK3 (fun u _ _ _ _ => ?_)) | (with_reducible refine gen_boxK2 (fun u _ _ _ => ?_)) | (with_reducible refine gen_boxK (fun u _ _ => ?_))); (with_reducible refine (aT_right (by omega)).mono ?_); rintro e u ⟨rfl, _⟩))
    go_ret2
    exact ⟨none, 0, rfl, Sl.empty, ⟨Nat.le_refl _⟩, Fre.none, prev_bel _ _⟩
  rw [hr, if_pos rfl] at hE'
  by_cases hone : l = 0 ∧ ¬ (0 ≤ side ∧ side < z0.length)
  · obtain ⟨rfl, hside⟩ := hone
    obtain rfl : r = [] := List.eq_nil_of_length_eq_zero HL.out
    obtain rfl : E = 11 := by rw [← hE']; simp; omega
    obtain rfl : S = [] := by rw [hS.out]; rfl
    clear hE' h0 hE hS
    by_cases hs0 : side < 0
    · go_enter Try.func41, Try.ntmps41
      go_wp2_with (first | (go_at_call 43; (try first | (with_reducible refine gen_boxK3 (fun u _ _ _ _ => ?_)) | (with_reducible refine gen_boxK2 (fun u _ _ _ => ?_)) | (with_reducible refine gen_boxK (fun u _ _ => ?_))); (with_reducible refine (aT_right (by omega)).mono ?_); rintro e u ⟨rfl, _⟩) | (go_at_call 63; (try first | (with_reducible refine gen_boxK3 (fun u _ _ _ _ => ?_)) | (with_reducible refine gen_boxK2 (fun u _ _ _ => ?_)) | (with_reducible refine gen_boxK (fun u _ _ => ?_))); (with_reducible refine (aS_copy (by omega)).mono ?_); rintro e u ⟨gS, rfl, sS, fS, _⟩))
      go_ret2
      exact ⟨none, 0, rfl, Sl.empty, ⟨Nat.le_refl _⟩, Fre.none, prev_bel _ _⟩
    · have hs1 : (z0.length : Int) ≤ side := by omega
      clear hside
      go_enter Try.func41, Try.ntmps41
      go_wp2_with (first | (go_at_call 43; (try first | (with_reducible refine gen_boxK3 (fun u _ _ _ _ => ?_)) | (with_reducible refine gen_boxK2 (fun u _ _ _ => ?_)) | (with_reducible refine gen_boxK (fun u _ _ => ?_))); (with_reducible refine (aT_right (by omega)).mono ?_); rintro e u ⟨rfl, _⟩) | (go_at_call 63; (try first | (with_reducible refine gen_boxK3 (fun u _ _ _ _ => ?_)) | (with_reducible refine gen_boxK2 (fun u _ _ _ => ?_)) | (with_reducible refine gen_boxK (fun u _ _ => ?_))); (with_reducible refine (aS_copy (by omega)).mono ?_); rintro e u ⟨gS, rfl, sS, fS, _⟩))
      go_ret2
      exact ⟨none, 0, rfl, Sl.empty, ⟨Nat.le_refl _⟩, Fre.none, prev_bel _ _⟩
  have HJ : Hid (jdE side z0 r = E) := Lib.hid (by
    rw [← hE', if_neg]
    intro hc
    simp at hc
    obtain ⟨rfl, hc⟩ := hc
    exact hone ⟨by simpa using HL.out.symm, by omega⟩)
  have HS : Hid (S = if E = 0 then jdS side z0 r else []) := hS
  obtain ⟨A', hsl, hrd⟩ := slice_fromT (some ⟨b, o, none⟩) l c lc.le
  have HRD := Lib.hid hrd
  have ar : Ts w A' l r := ⟨hrd w _ a.rd a.len.symm, HL.out.symm⟩
  have hzr : Hid (∀ t ∈ r, t.zs.length ≤ 1000000) := Lib.hid fun t ht => hz.out t (List.mem_cons_of_mem _ ht)
  clear hE' hE hS hrd
  have hone' : l = 0 → 0 ≤ side ∧ side < z0.length := fun h => by
    rcases Classical.em (0 ≤ side ∧ side < z0.length) with h' | h'
    · exact h'
    · exact absurd ⟨h, h'⟩ hone
  clear hone
  by_cases hl0 : l = 0
  · obtain ⟨p0, p1⟩ := hone' hl0
    subst hl0
    obtain rfl : r = [] := List.eq_nil_of_length_eq_zero HL.out
    obtain rfl : E = 0 := HJ.out.symm
    obtain rfl : S = z0 := by rw [HS.out]; rfl
    clear hone'
    go_enter Try.func41, Try.ntmps41
    go_wp2_with (first | (go_at_call 43; (try first | (with_reducible refine gen_boxK3 (fun u _ _ _ _ => ?_)) | (with_reducible refine gen_boxK2 (fun u _ _ _ => ?_)) | (with_reducible refine gen_boxK (fun u _ _ => ?_))); (with_reducible refine (aT_right (by omega)).mono ?_); rintro e u ⟨rfl, _⟩) | (go_at_call 63; (try first | (with_reducible refine gen_boxK3 (fun u _ _ _ _ => ?_)) | (with_reducible refine gen_boxK2 (fun u _ _ _ => ?_)) | (with_reducible refine gen_boxK (fun u _ _ => ?_))); (with_reducible refine (aS_copy (by omega)).mono ?_); rintro e u ⟨gS, rfl, sS, fS, _⟩))
    refine wp_loop_rounds 1 ?_
    rw [rounds_succ]
    go_wp2_with fail
    go_ret2
    exact ⟨_, _, rfl, sS, ⟨Nat.le_refl _⟩, fS.less later_size, prev_bel _ _⟩
  have hl1 : 0 < l := by omega
  clear hone' hl0
  go_enter Try.func41, Try.ntmps41
  go_wp2_with (first | (go_at_call 43; (try first | (with_reducible refine gen_boxK3 (fun u _ _ _ _ => ?_)) | (with_reducible refine gen_boxK2 (fun u _ _ _ => ?_)) | (with_reducible refine gen_boxK (fun u _ _ => ?_))); (with_reducible refine (aT_right (by omega)).mono ?_); rintro e u ⟨rfl, _⟩) | (go_at_call 63; (try first | (with_reducible refine gen_boxK3 (fun u _ _ _ _ => ?_)) | (with_reducible refine gen_boxK2 (fun u _ _ _ => ?_)) | (with_reducible refine gen_boxK (fun u _ _ => ?_))); (with_reducible refine (aS_copy (by omega)).mono ?_); rintro e u ⟨gS, rfl, sS, fS, _⟩))
  go_loopw [6, 42] (fun s i wr => ∃ (k : Nat) (A2 : Option Addr) (c2 : Nat) (T : List Int), k ≤ l ∧ i = .int .i64 k ∧ s = .slice A2 T.length c2 ∧ Sl wr A2 T.length T ∧ Le T.length c2 ∧ Fre w.heap.size A2 ∧ T.length ≤ 1000000 ∧ Hid (jdE side T (r.drop k) = E) ∧ Hid (jdS side T (r.drop k) = jdS side z0 r) ∧ Prev wr u) (fun _ i _ => l - (intOf i).toNat)
  case atStart => exact ⟨0, _, _, z0, Nat.zero_le _, rfl, rfl, sS, ⟨Nat.le_refl _⟩, fS.less later_size, hz0, HJ, Lib.hid rfl, prev_bel _ _⟩
  case round =>
    obtain ⟨k, A2, c2, T, hk, rfl, rfl, sT, lT, fT, hT, HJk, HSk, hp⟩ := hrel
    by_cases hlt : k < l
    · obtain ⟨b', o', A1, c1, z1, B1, d1, x1, rfl, ob', q2, q3, s1, t1, hd1, i1, ht⟩ := ar.get hlt
      have hz1 := hzr.out _ (List.mem_of_getElem? ht.out)
      simp only at hz1
      have HD : Hid (r.drop k = ⟨A1, c1, z1, B1, d1, x1⟩ :: r.drop (k + 1)) := Lib.hid (by
        obtain ⟨hkl, e⟩ := List.getElem?_eq_some_iff.1 ht.out
        rw [← e]; exact List.drop_eq_getElem_cons hkl)
      rcases hr1 : tRightB z1 x1 with _ | _
      · obtain rfl : E = 20 := by have := HJk.out; rw [HD.out] at this; simpa [jdE, hr1] using this.symm
        obtain rfl : S = [] := by rw [HS.out]; rfl
        go_wp2_with (first | (go_at_call 43; (try first | (with_reducible refine gen_boxK3 (fun u _ _ _ _ => ?_)) | (with_reducible refine gen_boxK2 (fun u _ _ _ => ?_)) | (with_reducible refine gen_boxK (fun u _ _ => ?_))); (with_reducible refine (aT_right (by omega)).mono ?_); rintro e u ⟨rfl, _⟩))
        go_ret2
        exact ⟨none, 0, rfl, Sl.empty, ⟨Nat.le_refl _⟩, Fre.none, prev_bel _ _⟩
      obtain ⟨J, hJ⟩ : ∃ J, joinE T z1 side = J := ⟨_, rfl⟩
      obtain ⟨V, hV⟩ : ∃ V, joinV T z1 side = V := ⟨_, rfl⟩
      have HJ1 := Lib.hid hJ
      have HV1 := Lib.hid hV
      clear hJ hV
      by_cases hj0 : J = 0
      · subst hj0
        go_wp2_with (first | (go_at_call 43; (try first | (with_reducible refine gen_boxK3 (fun u _ _ _ _ => ?_)) | (with_reducible refine gen_boxK2 (fun u _ _ _ => ?_)) | (with_reducible refine gen_boxK (fun u _ _ => ?_))); (with_reducible refine (aT_right (by omega)).mono ?_); rintro e u ⟨rfl, _⟩) | (go_at_call 45; (try first | (with_reducible refine gen_boxK3 (fun u _ _ _ _ => ?_)) | (with_reducible refine gen_boxK2 (fun u _ _ _ => ?_)) | (with_reducible refine gen_boxK (fun u _ _ => ?_))); (with_reducible refine (aS_join (by omega) (by omega) HJ1 HV1).mono ?_); rintro e u ⟨A', c', rfl, sJ, lJ, fJ, _⟩))
        go_roundw
        case rel => exact ⟨k + 1, A', c', V, by omega, by go_num, rfl, sJ, lJ, fJ.less later_size, by rw [← HV1.out]; have := joinV_len (zs := T) (ts := z1) (side := side); omega, Lib.hid (by have := HJk.out; rw [HD.out] at this; simpa [jdE, hr1, HJ1.out, HV1.out] using this), Lib.hid (by have := HSk.out; rw [HD.out] at this; simpa [jdS, HV1.out] using this), prev_bel _ _⟩
        case measure => simp [intOf]; omega
      · have e1 : (J != 0) = true := by simp [hj0]
        obtain rfl : E = J := by have := HJk.out; rw [HD.out] at this; simp [jdE, hr1, HJ1.out, hj0] at this; exact this.symm
        obtain rfl : S = [] := by rw [HS.out, if_neg hj0]
        clear hj0
        go_wp2_with (first | (go_at_call 43; (try first | (with_reducible refine gen_boxK3 (fun u _ _ _ _ => ?_)) | (with_reducible refine gen_boxK2 (fun u _ _ _ => ?_)) | (with_reducible refine gen_boxK (fun u _ _ => ?_))); (with_reducible refine (aT_right (by omega)).mono ?_); rintro e u ⟨rfl, _⟩) | (go_at_call 45; (try first | (with_reducible refine gen_boxK3 (fun u _ _ _ _ => ?_)) | (with_reducible refine gen_boxK2 (fun u _ _ _ => ?_)) | (with_reducible refine gen_boxK (fun u _ _ => ?_))); (with_reducible refine (aS_join (by omega) (by omega) HJ1 HV1).mono ?_); rintro e u ⟨A', c', rfl, sJ, lJ, fJ, _⟩))
        go_ret2
        exact ⟨none, 0, rfl, Sl.empty, ⟨Nat.le_refl _⟩, Fre.none, prev_bel _ _⟩
    · have HDR : Hid (r.drop k = []) := Lib.hid (List.drop_of_length_le (by rw [HL.out]; omega))
      obtain rfl : E = 0 := by have := HJk.out; rw [HDR.out] at this; exact this.symm
      obtain rfl : S = T := by rw [HS.out, if_pos rfl, ← HSk.out, HDR.out]; rfl
      go_wp2_with fail
      go_ret2
      exact ⟨A2, c2, rfl, sT, lT, fT, prev_bel _ _⟩
end

end Go.Proofs.Ytingmabmglpmaaa
