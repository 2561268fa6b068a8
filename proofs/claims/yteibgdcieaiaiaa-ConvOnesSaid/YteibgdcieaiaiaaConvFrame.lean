/- The walk of frameOf: the sides of a convolution. -/
import Derived.Test.YteibgdcieaiaiaaConvEach
import Derived.Test.YteibgdcieaiaiaaCopyOwn
import Derived.Test.YteibgdcieaiaiaaAppend2
import Derived.Deep.DeepCutAuto
namespace Go.Proofs.Yteibgdcieaiaiaa
open Go.RowKit

/-- A slice from lo on. -/
theorem slice_lo {P : Program} (t : TypeId) (ht : P.underlying t = some (.slice (P.elem t))) (hs : (P.info? (P.elem t)).map (·.size) = some 1) (b off m d lo : Nat) (h1 : lo ≤ m) (h4 : lo < d) :
    ∀ w, (Instr.slice t (.slice (some ⟨b, off, none⟩) m d) (some (.int .i64 (lo : Int))) none none).run P w = .ok (.slice (some ⟨b, off + lo, none⟩) (m - lo) (d - lo)) w := by
  intro w
  rw [run_slice_l w t _ m d ht .i64 lo (by omega) (by omega), sizeOf_one hs]
  have hne : d ≠ lo := by omega
  by_cases h0 : lo = 0
  · subst h0; simp [Result.andThen, sliced, Addr.add, hne]
  · simp [Result.andThen, sliced, Addr.add, hne, h0]
theorem Sl.cut {w : World} {b off m : Nat} {xs : List Int} (h : Sl w (some ⟨b, off, none⟩) m xs) {F W : Nat} (hF : F + W ≤ m) : Sl w (some ⟨b, off + F, none⟩) W ((xs.drop F).take W) := by
  refine ⟨fun j z hj => ?_, by have := h.len; simp; omega⟩
  rw [List.getElem?_take] at hj
  split at hj
  · rw [List.getElem?_drop] at hj
    obtain ⟨b', off', e, hb, hc⟩ := h.rd _ z hj
    injection e with e; injection e with e1 e2; subst e1; subst e2
    exact ⟨b, off + F, rfl, hb, by rw [Nat.add_assoc]; exact hc⟩
  · cases hj
section
variable {w : World} {A B D : Option Addr} {c d e : Nat}
set_option maxRecDepth 100000 in
set_option maxHeartbeats 8000000 in
theorem frame_line {O C L W N S : Nat} [a : Sl w A 3 [(O : Int), C, L]] [b : Sl w B 2 [(C : Int), W]] [g : Sl w D 2 [(O : Int), N]] (h3 : 3 ≤ c) (h2 : 2 ≤ d) (he : 2 ≤ e) (hL : L ≤ 1024) (hW : W ≤ 1024) :
    Calls Try.prog 70 #[.slice A 3 c, .slice B 2 d, .slice D 2 e, .int .i64 S] w (RetV w (frV ⟨O, C, 1, L, 1, W, 1, N, S⟩)) := by
  have CB := @cell_bx
  have CP := @cell_prev
  obtain ⟨ba, oa, z, rfl, oba, ca0, hz⟩ := a.get (k := 0) (by omega)
  obtain rfl : z = (O : Int) := by have := hz.out; simpa using this.symm
  have ca1 := a.rd.all (k := 1) (z := (C : Int)) rfl
  obtain ⟨bb, ob, z, rfl, obb, -, -⟩ := b.get (k := 0) (by omega)
  obtain ⟨bg, og, z, rfl, obg, -, -⟩ := g.get (k := 0) (by omega)
  simp only [Nat.add_zero] at ca0
  clear hz
  go_enter Try.func70, Try.ntmps70
  go_wp2_with fail
  have FB := @frozen_bx
  refine wp_region_up w (by kernel_rfl) (fun u1 _ => ?_)
  refine wpAnyH_on (i := 0) (d := 11) (v := ?_) rfl rfl (by kernel_rfl) (by kernel_rfl) (by kernel_rfl) (fun _ _ _ h => h) (by kernel_rfl) (prev_bel _ _) ?_ ?_
  rotate_left
  · intro uu (pu : Prev uu _)
    go_simp
    try (with_reducible rfl)
  try simp only [List.set]
  refine wpAnyH_on (i := 1) (d := 12) (v := ?_) rfl rfl (by kernel_rfl) (by kernel_rfl) (by kernel_rfl) (fun _ _ _ h => h) (by kernel_rfl) (prev_bel _ _) ?_ ?_
  rotate_left
  · intro uu (pu : Prev uu _)
    go_simp
    try (with_reducible rfl)
  try simp only [List.set]
  refine wpAnyH_on (i := 2) (d := 13) (v := ?_) rfl rfl (by kernel_rfl) (by kernel_rfl) (by kernel_rfl) (fun _ _ _ h => h) (by kernel_rfl) (prev_bel _ _) ?_ ?_
  rotate_left
  · intro uu (pu : Prev uu _)
    go_simp
    try (with_reducible rfl)
  try simp only [List.set]
  refine wpAnyH_on (i := 3) (d := 14) (v := ?_) rfl rfl (by kernel_rfl) (by kernel_rfl) (by kernel_rfl) (fun _ _ _ h => h) (by kernel_rfl) (prev_bel _ _) ?_ ?_
  rotate_left
  · intro uu (pu : Prev uu _)
    go_simp
    try (with_reducible rfl)
  try simp only [List.set]
  refine wpAnyH_on (i := 4) (d := 15) (v := ?_) rfl rfl (by kernel_rfl) (by kernel_rfl) (by kernel_rfl) (fun _ _ _ h => h) (by kernel_rfl) (prev_bel _ _) ?_ ?_
  rotate_left
  · intro uu (pu : Prev uu _)
    go_simp
    try (with_reducible rfl)
  try simp only [List.set]
  refine wpAnyH_on (i := 5) (d := 16) (v := ?_) rfl rfl (by kernel_rfl) (by kernel_rfl) (by kernel_rfl) (fun _ _ _ h => h) (by kernel_rfl) (prev_bel _ _) ?_ ?_
  rotate_left
  · intro uu (pu : Prev uu _)
    go_simp
    try (with_reducible rfl)
  try simp only [List.set]
  refine wpAnyH_on (i := 6) (d := 17) (v := ?_) rfl rfl (by kernel_rfl) (by kernel_rfl) (by kernel_rfl) (fun _ _ _ h => h) (by kernel_rfl) (prev_bel _ _) ?_ ?_
  rotate_left
  · intro uu (pu : Prev uu _)
    go_simp
    try (with_reducible rfl)
  try simp only [List.set]
  refine wpAnyH_on (i := 7) (d := 18) (v := ?_) rfl rfl (by kernel_rfl) (by kernel_rfl) (by kernel_rfl) (fun _ _ _ h => h) (by kernel_rfl) (prev_bel _ _) ?_ ?_
  rotate_left
  · intro uu (pu : Prev uu _)
    go_simp
    try (with_reducible rfl)
  try simp only [List.set]
  refine wpAnyH_ready (rs := [8]) (by kernel_rfl) (by simp) ?_
  refine AllReadyH.cons rfl (fun K hK => ?_) AllReadyH.nil
  go_simp
  refine hK.out _ _ (prev_bel w _) (fun hHeld => ?_)
  clear hHeld hK K
  try dsimp only [Act.put, List.setIfInBounds_toArray, List.set_cons_zero, List.set_cons_succ]
  refine wpAnyH_ready (rs := [9]) (by kernel_rfl) (by simp) ?_
  refine AllReadyH.cons rfl (fun K hK => ?_) AllReadyH.nil
  go_simp
  refine hK.out _ _ (prev_bel w _) (fun hHeld => ?_)
  clear hHeld hK K
  try dsimp only [Act.put, List.setIfInBounds_toArray, List.set_cons_zero, List.set_cons_succ]
  refine wpAnyH_done (by kernel_rfl) ?_ _
  obtain ⟨v1, hv1⟩ : ∃ v1 : World, v1 = u1.alloc (.cells #[.int .i64 O, .int .i64 C, .int .i64 0, .int .i64 0, .int .i64 0, .int .i64 0, .int .i64 0, .int .i64 0, .int .i64 S, .int .i64 0, .int .i64 0, .int .i64 0] 101) := ⟨_, rfl⟩
  rw [← hv1]
  have O1 : Own v1 u1.heap.size 101 [(O : Int), C, 0, 0, 0, 0, 0, 0, S, 0, 0, 0] := by rw [hv1]; exact Own.new u1 101 [(O : Int), C, 0, 0, 0, 0, 0, 0, S, 0, 0, 0]
  have p1 : Prev v1 u1 := hv1 ▸ Prev.alloc _ _
  have hB : Bx v1 u1.heap.size 101 #[.int .i64 O, .int .i64 C, .int .i64 0, .int .i64 0, .int .i64 0, .int .i64 0, .int .i64 0, .int .i64 0, .int .i64 S, .int .i64 0, .int .i64 0, .int .i64 0] := ⟨O1⟩
  clear hv1
  go_upto_region 3 with fail
  have hF : w.heap.size ≤ u1.heap.size := later_size
  obtain ⟨v2, hv2⟩ : ∃ v2 : World, v2 = (((((v1.setCell ⟨u1.heap.size, 2, none⟩ (.int .i64 1)).setCell ⟨u1.heap.size, 3, none⟩ (.int .i64 1)).setCell ⟨u1.heap.size, 4, none⟩ (.int .i64 1)).setCell ⟨u1.heap.size, 5, none⟩ (.int .i64 1)).setCell ⟨u1.heap.size, 6, none⟩ (.int .i64 1)).setCell ⟨u1.heap.size, 7, none⟩ (.int .i64 1) := ⟨_, rfl⟩
  rw [← hv2]
  have O2 : Own v2 u1.heap.size 101 [(O : Int), C, 1, 1, 1, 1, 1, 1, S, 0, 0, 0] := by rw [hv2]; exact (((((O1.set_ 2 1).set_ 3 1).set_ 4 1).set_ 5 1).set_ 6 1).set_ 7 1
  have p2 : Prev v2 u1 := ⟨by rw [hv2]; exact ((((((bel u1 v1).setCell (Nat.le_refl _) _).setCell (Nat.le_refl _) _).setCell (Nat.le_refl _) _).setCell (Nat.le_refl _) _).setCell (Nat.le_refl _) _).setCell (Nat.le_refl _) _⟩
  clear hv2 hB p1 O1
  have l1 := slice_lo (P := Try.prog) 23 (by kernel_rfl) (by kernel_rfl) bg og 2 e 1 (by omega) (by omega)
  have l2 := slice_lo (P := Try.prog) 23 (by kernel_rfl) (by kernel_rfl) ba oa 3 c 2 (by omega) (by omega)
  have l3 := slice_lo (P := Try.prog) 23 (by kernel_rfl) (by kernel_rfl) bb ob 2 d 1 (by omega) (by omega)
  simp only [Int.cast_ofNat_Int, Nat.reduceSub] at l1 l2 l3
  have sa : Sl w (some ⟨ba, oa + 2, none⟩) 1 [(L : Int)] := a.cut (F := 2) (W := 1) (by omega)
  have sb : Sl w (some ⟨bb, ob + 1, none⟩) 1 [(W : Int)] := b.cut (F := 1) (W := 1) (by omega)
  have sg : Sl w (some ⟨bg, og + 1, none⟩) 1 [(N : Int)] := g.cut (F := 1) (W := 1) (by omega)
  go_wp2_with fail
  refine wp_region_up u1 (by kernel_rfl) (fun u4 _ => ?_)
  refine wpAnyH_on (i := 0) (d := 29) (v := ?_) rfl rfl (by kernel_rfl) (by kernel_rfl) (by kernel_rfl) (fun _ _ _ h => h) (by kernel_rfl) (prev_bel _ _) ?_ ?_
  rotate_left
  · intro uu (pu : Prev uu _)
    go_simp
    try (with_reducible rfl)
  try simp only [List.set]
  refine wpAnyH_on (i := 1) (d := 30) (v := ?_) rfl rfl (by kernel_rfl) (by kernel_rfl) (by kernel_rfl) (fun _ _ _ h => h) (by kernel_rfl) (prev_bel _ _) ?_ ?_
  rotate_left
  · intro uu (pu : Prev uu _)
    go_simp
    try (with_reducible rfl)
  try simp only [List.set]
  refine wpAnyH_on (i := 2) (d := 31) (v := ?_) rfl rfl (by kernel_rfl) (by kernel_rfl) (by kernel_rfl) (fun _ _ _ h => h) (by kernel_rfl) (prev_bel _ _) ?_ ?_
  rotate_left
  · intro uu (pu : Prev uu _)
    go_simp
    try (with_reducible rfl)
  try simp only [List.set]
  refine wpAnyH_on (i := 3) (d := 32) (v := ?_) rfl rfl (by kernel_rfl) (by kernel_rfl) (by kernel_rfl) (fun _ _ _ h => h) (by kernel_rfl) (prev_bel _ _) ?_ ?_
  rotate_left
  · intro uu (pu : Prev uu _)
    go_simp
    try (with_reducible rfl)
  try simp only [List.set]
  refine wpAnyH_on (i := 4) (d := 33) (v := ?_) rfl rfl (by kernel_rfl) (by kernel_rfl) (by kernel_rfl) (fun _ _ _ h => h) (by kernel_rfl) (prev_bel _ _) ?_ ?_
  rotate_left
  · intro uu (pu : Prev uu _)
    go_simp
    try (with_reducible rfl)
  try simp only [List.set]
  refine wpAnyH_ready (rs := [5]) (by kernel_rfl) (by simp) ?_
  refine AllReadyH.cons rfl (fun K hK => ?_) AllReadyH.nil
  have hcp := fun ty => run_copy_own (P := Try.prog) 22 23 ty 3 Try.underlying22 (by kernel_rfl) ((O2).at (w' := u4)) (o := 3) (dLen := 1) (dCap := 1) (sLen := 1) (sCap := c - 2) (zs := [(L : Int)]) ((sa).rd.at (w' := u4)) rfl (by simp)
  go_simp
  refine hK.out _ _ ⟨below_setRow (bel u1 u4) (Nat.le_refl _) _⟩ (fun _ => ?_)
  clear hK K hcp
  try dsimp only [Act.put, List.setIfInBounds_toArray, List.set_cons_zero, List.set_cons_succ]
  refine wpAnyH_done (by kernel_rfl) ?_ _
  obtain ⟨v3, hv3⟩ : ∃ v : World, v = (u4).setRow u1.heap.size (ints (over [(O : Int), C, 1, 1, 1, 1, 1, 1, S, 0, 0, 0] [(L : Int)] 3)) := ⟨_, rfl⟩
  rw [← hv3]
  have O3 : Own v3 u1.heap.size 101 [(O : Int), C, 1, L, 1, 1, 1, 1, S, 0, 0, 0] := by rw [hv3]; exact ((O2).at (w' := u4)).setRow [(O : Int), C, 1, L, 1, 1, 1, 1, S, 0, 0, 0]
  have p3 : Prev v3 u1 := ⟨by rw [hv3]; exact below_setRow (bel u1 u4) (Nat.le_refl _) _⟩
  clear hv3
  go_wp2_with fail
  refine wp_region_up u1 (by kernel_rfl) (fun u5 _ => ?_)
  refine wpAnyH_on (i := 0) (d := 35) (v := ?_) rfl rfl (by kernel_rfl) (by kernel_rfl) (by kernel_rfl) (fun _ _ _ h => h) (by kernel_rfl) (prev_bel _ _) ?_ ?_
  rotate_left
  · intro uu (pu : Prev uu _)
    go_simp
    try (with_reducible rfl)
  try simp only [List.set]
  refine wpAnyH_on (i := 1) (d := 36) (v := ?_) rfl rfl (by kernel_rfl) (by kernel_rfl) (by kernel_rfl) (fun _ _ _ h => h) (by kernel_rfl) (prev_bel _ _) ?_ ?_
  rotate_left
  · intro uu (pu : Prev uu _)
    go_simp
    try (with_reducible rfl)
  try simp only [List.set]
  refine wpAnyH_on (i := 2) (d := 37) (v := ?_) rfl rfl (by kernel_rfl) (by kernel_rfl) (by kernel_rfl) (fun _ _ _ h => h) (by kernel_rfl) (prev_bel _ _) ?_ ?_
  rotate_left
  · intro uu (pu : Prev uu _)
    go_simp
    try (with_reducible rfl)
  try simp only [List.set]
  refine wpAnyH_on (i := 3) (d := 38) (v := ?_) rfl rfl (by kernel_rfl) (by kernel_rfl) (by kernel_rfl) (fun _ _ _ h => h) (by kernel_rfl) (prev_bel _ _) ?_ ?_
  rotate_left
  · intro uu (pu : Prev uu _)
    go_simp
    try (with_reducible rfl)
  try simp only [List.set]
  refine wpAnyH_on (i := 4) (d := 39) (v := ?_) rfl rfl (by kernel_rfl) (by kernel_rfl) (by kernel_rfl) (fun _ _ _ h => h) (by kernel_rfl) (prev_bel _ _) ?_ ?_
  rotate_left
  · intro uu (pu : Prev uu _)
    go_simp
    try (with_reducible rfl)
  try simp only [List.set]
  refine wpAnyH_ready (rs := [5]) (by kernel_rfl) (by simp) ?_
  refine AllReadyH.cons rfl (fun K hK => ?_) AllReadyH.nil
  have hcp := fun ty => run_copy_own (P := Try.prog) 22 23 ty 3 Try.underlying22 (by kernel_rfl) ((O3).at (w' := u5)) (o := 5) (dLen := 1) (dCap := 1) (sLen := 1) (sCap := d - 1) (zs := [(W : Int)]) ((sb).rd.at (w' := u5)) rfl (by simp)
  go_simp
  refine hK.out _ _ ⟨below_setRow (bel u1 u5) (Nat.le_refl _) _⟩ (fun _ => ?_)
  clear hK K hcp
  try dsimp only [Act.put, List.setIfInBounds_toArray, List.set_cons_zero, List.set_cons_succ]
  refine wpAnyH_done (by kernel_rfl) ?_ _
  obtain ⟨v4, hv4⟩ : ∃ v : World, v = (u5).setRow u1.heap.size (ints (over [(O : Int), C, 1, L, 1, 1, 1, 1, S, 0, 0, 0] [(W : Int)] 5)) := ⟨_, rfl⟩
  rw [← hv4]
  have O4 : Own v4 u1.heap.size 101 [(O : Int), C, 1, L, 1, W, 1, 1, S, 0, 0, 0] := by rw [hv4]; exact ((O3).at (w' := u5)).setRow [(O : Int), C, 1, L, 1, W, 1, 1, S, 0, 0, 0]
  have p4 : Prev v4 u1 := ⟨by rw [hv4]; exact below_setRow (bel u1 u5) (Nat.le_refl _) _⟩
  clear hv4
  go_wp2_with fail
  refine wp_region_up u1 (by kernel_rfl) (fun u6 _ => ?_)
  refine wpAnyH_on (i := 0) (d := 41) (v := ?_) rfl rfl (by kernel_rfl) (by kernel_rfl) (by kernel_rfl) (fun _ _ _ h => h) (by kernel_rfl) (prev_bel _ _) ?_ ?_
  rotate_left
  · intro uu (pu : Prev uu _)
    go_simp
    try (with_reducible rfl)
  try simp only [List.set]
  refine wpAnyH_on (i := 1) (d := 42) (v := ?_) rfl rfl (by kernel_rfl) (by kernel_rfl) (by kernel_rfl) (fun _ _ _ h => h) (by kernel_rfl) (prev_bel _ _) ?_ ?_
  rotate_left
  · intro uu (pu : Prev uu _)
    go_simp
    try (with_reducible rfl)
  try simp only [List.set]
  refine wpAnyH_on (i := 2) (d := 43) (v := ?_) rfl rfl (by kernel_rfl) (by kernel_rfl) (by kernel_rfl) (fun _ _ _ h => h) (by kernel_rfl) (prev_bel _ _) ?_ ?_
  rotate_left
  · intro uu (pu : Prev uu _)
    go_simp
    try (with_reducible rfl)
  try simp only [List.set]
  refine wpAnyH_on (i := 3) (d := 44) (v := ?_) rfl rfl (by kernel_rfl) (by kernel_rfl) (by kernel_rfl) (fun _ _ _ h => h) (by kernel_rfl) (prev_bel _ _) ?_ ?_
  rotate_left
  · intro uu (pu : Prev uu _)
    go_simp
    try (with_reducible rfl)
  try simp only [List.set]
  refine wpAnyH_on (i := 4) (d := 45) (v := ?_) rfl rfl (by kernel_rfl) (by kernel_rfl) (by kernel_rfl) (fun _ _ _ h => h) (by kernel_rfl) (prev_bel _ _) ?_ ?_
  rotate_left
  · intro uu (pu : Prev uu _)
    go_simp
    try (with_reducible rfl)
  try simp only [List.set]
  refine wpAnyH_ready (rs := [5]) (by kernel_rfl) (by simp) ?_
  refine AllReadyH.cons rfl (fun K hK => ?_) AllReadyH.nil
  have hcp := fun ty => run_copy_own (P := Try.prog) 22 23 ty 3 Try.underlying22 (by kernel_rfl) ((O4).at (w' := u6)) (o := 7) (dLen := 1) (dCap := 1) (sLen := 1) (sCap := e - 1) (zs := [(N : Int)]) ((sg).rd.at (w' := u6)) rfl (by simp)
  go_simp
  refine hK.out _ _ ⟨below_setRow (bel u1 u6) (Nat.le_refl _) _⟩ (fun _ => ?_)
  clear hK K hcp
  try dsimp only [Act.put, List.setIfInBounds_toArray, List.set_cons_zero, List.set_cons_succ]
  refine wpAnyH_done (by kernel_rfl) ?_ _
  obtain ⟨v5, hv5⟩ : ∃ v : World, v = (u6).setRow u1.heap.size (ints (over [(O : Int), C, 1, L, 1, W, 1, 1, S, 0, 0, 0] [(N : Int)] 7)) := ⟨_, rfl⟩
  rw [← hv5]
  have O5 : Own v5 u1.heap.size 101 [(O : Int), C, 1, L, 1, W, 1, N, S, 0, 0, 0] := by rw [hv5]; exact ((O4).at (w' := u6)).setRow [(O : Int), C, 1, L, 1, W, 1, N, S, 0, 0, 0]
  have p5 : Prev v5 u1 := ⟨by rw [hv5]; exact below_setRow (bel u1 u6) (Nat.le_refl _) _⟩
  clear hv5
  have B5 : Bx v5 u1.heap.size 101 #[.int .i64 (O : Int), .int .i64 C, .int .i64 1, .int .i64 L, .int .i64 1, .int .i64 W, .int .i64 1, .int .i64 N, .int .i64 S, .int .i64 0, .int .i64 0, .int .i64 0] := ⟨O5⟩
  go_upto_region 8 with fail
  obtain ⟨v6, hv6⟩ : ∃ v : World, v = (v5).setCell ⟨u1.heap.size, 9, none⟩ (.int .i64 (L : Int)) := ⟨_, rfl⟩
  rw [← hv6]
  have O6 : Own v6 u1.heap.size 101 [(O : Int), C, 1, L, 1, W, 1, N, S, L, 0, 0] := by rw [hv6]; exact (O5).set_ 9 (L : Int)
  have p6 : Prev v6 u1 := ⟨by rw [hv6]; exact (bel u1 v5).setCell (Nat.le_refl _) _⟩
  clear hv6
  have B6 : Bx v6 u1.heap.size 101 #[.int .i64 (O : Int), .int .i64 C, .int .i64 1, .int .i64 L, .int .i64 1, .int .i64 W, .int .i64 1, .int .i64 N, .int .i64 S, .int .i64 L, .int .i64 0, .int .i64 0] := ⟨O6⟩
  go_upto_region 9 with fail
  obtain ⟨v7, hv7⟩ : ∃ v : World, v = (v6).setCell ⟨u1.heap.size, 10, none⟩ (.int .i64 (L : Int)) := ⟨_, rfl⟩
  rw [← hv7]
  have O7 : Own v7 u1.heap.size 101 [(O : Int), C, 1, L, 1, W, 1, N, S, L, L, 0] := by rw [hv7]; exact (O6).set_ 10 (L : Int)
  have p7 : Prev v7 u1 := ⟨by rw [hv7]; exact (bel u1 v6).setCell (Nat.le_refl _) _⟩
  clear hv7
  have B7 : Bx v7 u1.heap.size 101 #[.int .i64 (O : Int), .int .i64 C, .int .i64 1, .int .i64 L, .int .i64 1, .int .i64 W, .int .i64 1, .int .i64 N, .int .i64 S, .int .i64 L, .int .i64 L, .int .i64 0] := ⟨O7⟩
  go_upto_region 10 with fail
  obtain ⟨v8, hv8⟩ : ∃ v : World, v = (v7).setCell ⟨u1.heap.size, 11, none⟩ (.int .i64 (W : Int)) := ⟨_, rfl⟩
  rw [← hv8]
  have O8 : Own v8 u1.heap.size 101 [(O : Int), C, 1, L, 1, W, 1, N, S, L, L, W] := by rw [hv8]; exact (O7).set_ 11 (W : Int)
  have p8 : Prev v8 u1 := ⟨by rw [hv8]; exact (bel u1 v7).setCell (Nat.le_refl _) _⟩
  clear hv8
  have B8 : Bx v8 u1.heap.size 101 #[.int .i64 (O : Int), .int .i64 C, .int .i64 1, .int .i64 L, .int .i64 1, .int .i64 W, .int .i64 1, .int .i64 N, .int .i64 S, .int .i64 L, .int .i64 L, .int .i64 W] := ⟨O8⟩
  have BR : Bx v8 w.heap.size 101 #[.int .i64 0, .int .i64 0, .int .i64 0, .int .i64 0, .int .i64 0, .int .i64 0, .int .i64 0, .int .i64 0, .int .i64 0, .int .i64 0, .int .i64 0, .int .i64 0] := inferInstance
  go_wp2_with fail
  have OR0 : Own v8 w.heap.size 101 [0, 0, 0, 0, 0, 0, 0, 0, 0, 0, 0, 0] := (BR).blk
  have OR := (((((((((((OR0.set_ 0 (O : Int)).set_ 1 (C : Int)).set_ 2 1).set_ 3 (L : Int)).set_ 4 1).set_ 5 (W : Int)).set_ 6 1).set_ 7 (N : Int)).set_ 8 (S : Int)).set_ 9 (L : Int)).set_ 10 (L : Int)).set_ 11 (W : Int)
  have BF := ((((((((((((bel w v8).setCell (p := ⟨w.heap.size, 0, none⟩) (Nat.le_refl _) (.int .i64 (O : Int))).setCell (p := ⟨w.heap.size, 1, none⟩) (Nat.le_refl _) (.int .i64 (C : Int))).setCell (p := ⟨w.heap.size, 2, none⟩) (Nat.le_refl _) (.int .i64 1)).setCell (p := ⟨w.heap.size, 3, none⟩) (Nat.le_refl _) (.int .i64 (L : Int))).setCell (p := ⟨w.heap.size, 4, none⟩) (Nat.le_refl _) (.int .i64 1)).setCell (p := ⟨w.heap.size, 5, none⟩) (Nat.le_refl _) (.int .i64 (W : Int))).setCell (p := ⟨w.heap.size, 6, none⟩) (Nat.le_refl _) (.int .i64 1)).setCell (p := ⟨w.heap.size, 7, none⟩) (Nat.le_refl _) (.int .i64 (N : Int))).setCell (p := ⟨w.heap.size, 8, none⟩) (Nat.le_refl _) (.int .i64 (S : Int))).setCell (p := ⟨w.heap.size, 9, none⟩) (Nat.le_refl _) (.int .i64 (L : Int))).setCell (p := ⟨w.heap.size, 10, none⟩) (Nat.le_refl _) (.int .i64 (L : Int))).setCell (p := ⟨w.heap.size, 11, none⟩) (Nat.le_refl _) (.int .i64 (W : Int))
  have r0 := OR.cell (i := 0) (z := (O : Int)) rfl
  have r1 := OR.cell (i := 1) (z := (C : Int)) rfl
  have r2 := OR.cell (i := 2) (z := 1) rfl
  have r3 := OR.cell (i := 3) (z := (L : Int)) rfl
  have r4 := OR.cell (i := 4) (z := 1) rfl
  have r5 := OR.cell (i := 5) (z := (W : Int)) rfl
  have r6 := OR.cell (i := 6) (z := 1) rfl
  have r7 := OR.cell (i := 7) (z := (N : Int)) rfl
  have r8 := OR.cell (i := 8) (z := (S : Int)) rfl
  have r9 := OR.cell (i := 9) (z := (L : Int)) rfl
  have r10 := OR.cell (i := 10) (z := (L : Int)) rfl
  have r11 := OR.cell (i := 11) (z := (W : Int)) rfl
  refine bodyPost_ret (v := .agg #[.int .i64 (O : Int), .int .i64 (C : Int), .int .i64 1, .int .i64 (L : Int), .int .i64 1, .int .i64 (W : Int), .int .i64 1, .int .i64 (N : Int), .int .i64 (S : Int), .int .i64 (L : Int), .int .i64 (L : Int), .int .i64 (W : Int)]) (by simp [results, Try.results70, go_sem, r0, r1, r2, r3, r4, r5, r6, r7, r8, r9, r10, r11]) rfl ?_
  exact ⟨by rw [frV, Nat.one_mul, Nat.one_mul] <;> rfl, ⟨BF⟩⟩
set_option maxRecDepth 100000 in
set_option maxHeartbeats 8000000 in
theorem frame_plane {O C KK L H W M N S : Nat} [a : Sl w A 4 [(O : Int), C, KK, L]] [b : Sl w B 3 [(C : Int), H, W]] [g : Sl w D 3 [(O : Int), M, N]] (h3 : 4 ≤ c) (h2 : 3 ≤ d) (he : 3 ≤ e) (hK : KK ≤ 1024) (hL : L ≤ 1024) (hH : H ≤ 1024) (hW : W ≤ 1024) :
    Calls Try.prog 70 #[.slice A 4 c, .slice B 3 d, .slice D 3 e, .int .i64 S] w (RetV w (frV ⟨O, C, KK, L, H, W, M, N, S⟩)) := by
  have CB := @cell_bx
  have CP := @cell_prev
  obtain ⟨ba, oa, z, rfl, oba, ca0, hz⟩ := a.get (k := 0) (by omega)
  obtain rfl : z = (O : Int) := by have := hz.out; simpa using this.symm
  have ca1 := a.rd.all (k := 1) (z := (C : Int)) rfl
  obtain ⟨bb, ob, z, rfl, obb, -, -⟩ := b.get (k := 0) (by omega)
  obtain ⟨bg, og, z, rfl, obg, -, -⟩ := g.get (k := 0) (by omega)
  simp only [Nat.add_zero] at ca0
  obtain ⟨KL, hKL⟩ : ∃ KL, KK * L = KL := ⟨_, rfl⟩
  obtain ⟨HW, hHW⟩ : ∃ HW, H * W = HW := ⟨_, rfl⟩
  have m1 : (KK : Int) * (L : Int) = (KL : Int) := by rw [← hKL, Int.natCast_mul]
  have m2 : (H : Int) * (W : Int) = (HW : Int) := by rw [← hHW, Int.natCast_mul]
  have bKL : KL ≤ 1048576 := by rw [← hKL]; exact Nat.mul_le_mul hK hL
  have bHW : HW ≤ 1048576 := by rw [← hHW]; exact Nat.mul_le_mul hH hW
  have HKL := Lib.hid hKL
  have HHW := Lib.hid hHW
  clear hz hKL hHW
  go_enter Try.func70, Try.ntmps70
  go_wp2_with fail
  have FB := @frozen_bx
  refine wp_region_up w (by kernel_rfl) (fun u1 _ => ?_)
  refine wpAnyH_on (i := 0) (d := 11) (v := ?_) rfl rfl (by kernel_rfl) (by kernel_rfl) (by kernel_rfl) (fun _ _ _ h => h) (by kernel_rfl) (prev_bel _ _) ?_ ?_
  rotate_left
  · intro uu (pu : Prev uu _)
    go_simp
    try (with_reducible rfl)
  try simp only [List.set]
  refine wpAnyH_on (i := 1) (d := 12) (v := ?_) rfl rfl (by kernel_rfl) (by kernel_rfl) (by kernel_rfl) (fun _ _ _ h => h) (by kernel_rfl) (prev_bel _ _) ?_ ?_
  rotate_left
  · intro uu (pu : Prev uu _)
    go_simp
    try (with_reducible rfl)
  try simp only [List.set]
  refine wpAnyH_on (i := 2) (d := 13) (v := ?_) rfl rfl (by kernel_rfl) (by kernel_rfl) (by kernel_rfl) (fun _ _ _ h => h) (by kernel_rfl) (prev_bel _ _) ?_ ?_
  rotate_left
  · intro uu (pu : Prev uu _)
    go_simp
    try (with_reducible rfl)
  try simp only [List.set]
  refine wpAnyH_on (i := 3) (d := 14) (v := ?_) rfl rfl (by kernel_rfl) (by kernel_rfl) (by kernel_rfl) (fun _ _ _ h => h) (by kernel_rfl) (prev_bel _ _) ?_ ?_
  rotate_left
  · intro uu (pu : Prev uu _)
    go_simp
    try (with_reducible rfl)
  try simp only [List.set]
  refine wpAnyH_on (i := 4) (d := 15) (v := ?_) rfl rfl (by kernel_rfl) (by kernel_rfl) (by kernel_rfl) (fun _ _ _ h => h) (by kernel_rfl) (prev_bel _ _) ?_ ?_
  rotate_left
  · intro uu (pu : Prev uu _)
    go_simp
    try (with_reducible rfl)
  try simp only [List.set]
  refine wpAnyH_on (i := 5) (d := 16) (v := ?_) rfl rfl (by kernel_rfl) (by kernel_rfl) (by kernel_rfl) (fun _ _ _ h => h) (by kernel_rfl) (prev_bel _ _) ?_ ?_
  rotate_left
  · intro uu (pu : Prev uu _)
    go_simp
    try (with_reducible rfl)
  try simp only [List.set]
  refine wpAnyH_on (i := 6) (d := 17) (v := ?_) rfl rfl (by kernel_rfl) (by kernel_rfl) (by kernel_rfl) (fun _ _ _ h => h) (by kernel_rfl) (prev_bel _ _) ?_ ?_
  rotate_left
  · intro uu (pu : Prev uu _)
    go_simp
    try (with_reducible rfl)
  try simp only [List.set]
  refine wpAnyH_on (i := 7) (d := 18) (v := ?_) rfl rfl (by kernel_rfl) (by kernel_rfl) (by kernel_rfl) (fun _ _ _ h => h) (by kernel_rfl) (prev_bel _ _) ?_ ?_
  rotate_left
  · intro uu (pu : Prev uu _)
    go_simp
    try (with_reducible rfl)
  try simp only [List.set]
  refine wpAnyH_ready (rs := [8]) (by kernel_rfl) (by simp) ?_
  refine AllReadyH.cons rfl (fun K hK => ?_) AllReadyH.nil
  go_simp
  refine hK.out _ _ (prev_bel w _) (fun hHeld => ?_)
  clear hHeld hK K
  try dsimp only [Act.put, List.setIfInBounds_toArray, List.set_cons_zero, List.set_cons_succ]
  refine wpAnyH_ready (rs := [9]) (by kernel_rfl) (by simp) ?_
  refine AllReadyH.cons rfl (fun K hK => ?_) AllReadyH.nil
  go_simp
  refine hK.out _ _ (prev_bel w _) (fun hHeld => ?_)
  clear hHeld hK K
  try dsimp only [Act.put, List.setIfInBounds_toArray, List.set_cons_zero, List.set_cons_succ]
  refine wpAnyH_done (by kernel_rfl) ?_ _
  obtain ⟨v1, hv1⟩ : ∃ v1 : World, v1 = u1.alloc (.cells #[.int .i64 O, .int .i64 C, .int .i64 0, .int .i64 0, .int .i64 0, .int .i64 0, .int .i64 0, .int .i64 0, .int .i64 S, .int .i64 0, .int .i64 0, .int .i64 0] 101) := ⟨_, rfl⟩
  rw [← hv1]
  have O1 : Own v1 u1.heap.size 101 [(O : Int), C, 0, 0, 0, 0, 0, 0, S, 0, 0, 0] := by rw [hv1]; exact Own.new u1 101 [(O : Int), C, 0, 0, 0, 0, 0, 0, S, 0, 0, 0]
  have p1 : Prev v1 u1 := hv1 ▸ Prev.alloc _ _
  have hB : Bx v1 u1.heap.size 101 #[.int .i64 O, .int .i64 C, .int .i64 0, .int .i64 0, .int .i64 0, .int .i64 0, .int .i64 0, .int .i64 0, .int .i64 S, .int .i64 0, .int .i64 0, .int .i64 0] := ⟨O1⟩
  clear hv1
  go_upto_region 3 with fail
  have hF : w.heap.size ≤ u1.heap.size := later_size
  obtain ⟨v2, hv2⟩ : ∃ v2 : World, v2 = (((((v1.setCell ⟨u1.heap.size, 2, none⟩ (.int .i64 1)).setCell ⟨u1.heap.size, 3, none⟩ (.int .i64 1)).setCell ⟨u1.heap.size, 4, none⟩ (.int .i64 1)).setCell ⟨u1.heap.size, 5, none⟩ (.int .i64 1)).setCell ⟨u1.heap.size, 6, none⟩ (.int .i64 1)).setCell ⟨u1.heap.size, 7, none⟩ (.int .i64 1) := ⟨_, rfl⟩
  rw [← hv2]
  have O2 : Own v2 u1.heap.size 101 [(O : Int), C, 1, 1, 1, 1, 1, 1, S, 0, 0, 0] := by rw [hv2]; exact (((((O1.set_ 2 1).set_ 3 1).set_ 4 1).set_ 5 1).set_ 6 1).set_ 7 1
  have p2 : Prev v2 u1 := ⟨by rw [hv2]; exact ((((((bel u1 v1).setCell (Nat.le_refl _) _).setCell (Nat.le_refl _) _).setCell (Nat.le_refl _) _).setCell (Nat.le_refl _) _).setCell (Nat.le_refl _) _).setCell (Nat.le_refl _) _⟩
  clear hv2 hB p1 O1
  have l1 := slice_lo (P := Try.prog) 23 (by kernel_rfl) (by kernel_rfl) bg og 3 e 1 (by omega) (by omega)
  have l2 := slice_lo (P := Try.prog) 23 (by kernel_rfl) (by kernel_rfl) ba oa 4 c 2 (by omega) (by omega)
  have l3 := slice_lo (P := Try.prog) 23 (by kernel_rfl) (by kernel_rfl) bb ob 3 d 1 (by omega) (by omega)
  simp only [Int.cast_ofNat_Int, Nat.reduceSub] at l1 l2 l3
  have sa : Sl w (some ⟨ba, oa + 2, none⟩) 2 [(KK : Int), L] := a.cut (F := 2) (W := 2) (by omega)
  have sb : Sl w (some ⟨bb, ob + 1, none⟩) 2 [(H : Int), W] := b.cut (F := 1) (W := 2) (by omega)
  have sg : Sl w (some ⟨bg, og + 1, none⟩) 2 [(M : Int), N] := g.cut (F := 1) (W := 2) (by omega)
  go_wp2_with fail
  refine wp_region_up u1 (by kernel_rfl) (fun u4 _ => ?_)
  refine wpAnyH_on (i := 0) (d := 29) (v := ?_) rfl rfl (by kernel_rfl) (by kernel_rfl) (by kernel_rfl) (fun _ _ _ h => h) (by kernel_rfl) (prev_bel _ _) ?_ ?_
  rotate_left
  · intro uu (pu : Prev uu _)
    go_simp
    try (with_reducible rfl)
  try simp only [List.set]
  refine wpAnyH_on (i := 1) (d := 30) (v := ?_) rfl rfl (by kernel_rfl) (by kernel_rfl) (by kernel_rfl) (fun _ _ _ h => h) (by kernel_rfl) (prev_bel _ _) ?_ ?_
  rotate_left
  · intro uu (pu : Prev uu _)
    go_simp
    try (with_reducible rfl)
  try simp only [List.set]
  refine wpAnyH_on (i := 2) (d := 31) (v := ?_) rfl rfl (by kernel_rfl) (by kernel_rfl) (by kernel_rfl) (fun _ _ _ h => h) (by kernel_rfl) (prev_bel _ _) ?_ ?_
  rotate_left
  · intro uu (pu : Prev uu _)
    go_simp
    try (with_reducible rfl)
  try simp only [List.set]
  refine wpAnyH_on (i := 3) (d := 32) (v := ?_) rfl rfl (by kernel_rfl) (by kernel_rfl) (by kernel_rfl) (fun _ _ _ h => h) (by kernel_rfl) (prev_bel _ _) ?_ ?_
  rotate_left
  · intro uu (pu : Prev uu _)
    go_simp
    try (with_reducible rfl)
  try simp only [List.set]
  refine wpAnyH_on (i := 4) (d := 33) (v := ?_) rfl rfl (by kernel_rfl) (by kernel_rfl) (by kernel_rfl) (fun _ _ _ h => h) (by kernel_rfl) (prev_bel _ _) ?_ ?_
  rotate_left
  · intro uu (pu : Prev uu _)
    go_simp
    try (with_reducible rfl)
  try simp only [List.set]
  refine wpAnyH_ready (rs := [5]) (by kernel_rfl) (by simp) ?_
  refine AllReadyH.cons rfl (fun K hK => ?_) AllReadyH.nil
  have hcp := fun ty => run_copy_own (P := Try.prog) 22 23 ty 3 Try.underlying22 (by kernel_rfl) ((O2).at (w' := u4)) (o := 2) (dLen := 2) (dCap := 2) (sLen := 2) (sCap := c - 2) (zs := [(KK : Int), L]) ((sa).rd.at (w' := u4)) rfl (by simp)
  go_simp
  refine hK.out _ _ ⟨below_setRow (bel u1 u4) (Nat.le_refl _) _⟩ (fun _ => ?_)
  clear hK K hcp
  try dsimp only [Act.put, List.setIfInBounds_toArray, List.set_cons_zero, List.set_cons_succ]
  refine wpAnyH_done (by kernel_rfl) ?_ _
  obtain ⟨v3, hv3⟩ : ∃ v : World, v = (u4).setRow u1.heap.size (ints (over [(O : Int), C, 1, 1, 1, 1, 1, 1, S, 0, 0, 0] [(KK : Int), L] 2)) := ⟨_, rfl⟩
  rw [← hv3]
  have O3 : Own v3 u1.heap.size 101 [(O : Int), C, KK, L, 1, 1, 1, 1, S, 0, 0, 0] := by rw [hv3]; exact ((O2).at (w' := u4)).setRow [(O : Int), C, KK, L, 1, 1, 1, 1, S, 0, 0, 0]
  have p3 : Prev v3 u1 := ⟨by rw [hv3]; exact below_setRow (bel u1 u4) (Nat.le_refl _) _⟩
  clear hv3
  go_wp2_with fail
  refine wp_region_up u1 (by kernel_rfl) (fun u5 _ => ?_)
  refine wpAnyH_on (i := 0) (d := 35) (v := ?_) rfl rfl (by kernel_rfl) (by kernel_rfl) (by kernel_rfl) (fun _ _ _ h => h) (by kernel_rfl) (prev_bel _ _) ?_ ?_
  rotate_left
  · intro uu (pu : Prev uu _)
    go_simp
    try (with_reducible rfl)
  try simp only [List.set]
  refine wpAnyH_on (i := 1) (d := 36) (v := ?_) rfl rfl (by kernel_rfl) (by kernel_rfl) (by kernel_rfl) (fun _ _ _ h => h) (by kernel_rfl) (prev_bel _ _) ?_ ?_
  rotate_left
  · intro uu (pu : Prev uu _)
    go_simp
    try (with_reducible rfl)
  try simp only [List.set]
  refine wpAnyH_on (i := 2) (d := 37) (v := ?_) rfl rfl (by kernel_rfl) (by kernel_rfl) (by kernel_rfl) (fun _ _ _ h => h) (by kernel_rfl) (prev_bel _ _) ?_ ?_
  rotate_left
  · intro uu (pu : Prev uu _)
    go_simp
    try (with_reducible rfl)
  try simp only [List.set]
  refine wpAnyH_on (i := 3) (d := 38) (v := ?_) rfl rfl (by kernel_rfl) (by kernel_rfl) (by kernel_rfl) (fun _ _ _ h => h) (by kernel_rfl) (prev_bel _ _) ?_ ?_
  rotate_left
  · intro uu (pu : Prev uu _)
    go_simp
    try (with_reducible rfl)
  try simp only [List.set]
  refine wpAnyH_on (i := 4) (d := 39) (v := ?_) rfl rfl (by kernel_rfl) (by kernel_rfl) (by kernel_rfl) (fun _ _ _ h => h) (by kernel_rfl) (prev_bel _ _) ?_ ?_
  rotate_left
  · intro uu (pu : Prev uu _)
    go_simp
    try (with_reducible rfl)
  try simp only [List.set]
  refine wpAnyH_ready (rs := [5]) (by kernel_rfl) (by simp) ?_
  refine AllReadyH.cons rfl (fun K hK => ?_) AllReadyH.nil
  have hcp := fun ty => run_copy_own (P := Try.prog) 22 23 ty 3 Try.underlying22 (by kernel_rfl) ((O3).at (w' := u5)) (o := 4) (dLen := 2) (dCap := 2) (sLen := 2) (sCap := d - 1) (zs := [(H : Int), W]) ((sb).rd.at (w' := u5)) rfl (by simp)
  go_simp
  refine hK.out _ _ ⟨below_setRow (bel u1 u5) (Nat.le_refl _) _⟩ (fun _ => ?_)
  clear hK K hcp
  try dsimp only [Act.put, List.setIfInBounds_toArray, List.set_cons_zero, List.set_cons_succ]
  refine wpAnyH_done (by kernel_rfl) ?_ _
  obtain ⟨v4, hv4⟩ : ∃ v : World, v = (u5).setRow u1.heap.size (ints (over [(O : Int), C, KK, L, 1, 1, 1, 1, S, 0, 0, 0] [(H : Int), W] 4)) := ⟨_, rfl⟩
  rw [← hv4]
  have O4 : Own v4 u1.heap.size 101 [(O : Int), C, KK, L, H, W, 1, 1, S, 0, 0, 0] := by rw [hv4]; exact ((O3).at (w' := u5)).setRow [(O : Int), C, KK, L, H, W, 1, 1, S, 0, 0, 0]
  have p4 : Prev v4 u1 := ⟨by rw [hv4]; exact below_setRow (bel u1 u5) (Nat.le_refl _) _⟩
  clear hv4
  go_wp2_with fail
  refine wp_region_up u1 (by kernel_rfl) (fun u6 _ => ?_)
  refine wpAnyH_on (i := 0) (d := 41) (v := ?_) rfl rfl (by kernel_rfl) (by kernel_rfl) (by kernel_rfl) (fun _ _ _ h => h) (by kernel_rfl) (prev_bel _ _) ?_ ?_
  rotate_left
  · intro uu (pu : Prev uu _)
    go_simp
    try (with_reducible rfl)
  try simp only [List.set]
  refine wpAnyH_on (i := 1) (d := 42) (v := ?_) rfl rfl (by kernel_rfl) (by kernel_rfl) (by kernel_rfl) (fun _ _ _ h => h) (by kernel_rfl) (prev_bel _ _) ?_ ?_
  rotate_left
  · intro uu (pu : Prev uu _)
    go_simp
    try (with_reducible rfl)
  try simp only [List.set]
  refine wpAnyH_on (i := 2) (d := 43) (v := ?_) rfl rfl (by kernel_rfl) (by kernel_rfl) (by kernel_rfl) (fun _ _ _ h => h) (by kernel_rfl) (prev_bel _ _) ?_ ?_
  rotate_left
  · intro uu (pu : Prev uu _)
    go_simp
    try (with_reducible rfl)
  try simp only [List.set]
  refine wpAnyH_on (i := 3) (d := 44) (v := ?_) rfl rfl (by kernel_rfl) (by kernel_rfl) (by kernel_rfl) (fun _ _ _ h => h) (by kernel_rfl) (prev_bel _ _) ?_ ?_
  rotate_left
  · intro uu (pu : Prev uu _)
    go_simp
    try (with_reducible rfl)
  try simp only [List.set]
  refine wpAnyH_on (i := 4) (d := 45) (v := ?_) rfl rfl (by kernel_rfl) (by kernel_rfl) (by kernel_rfl) (fun _ _ _ h => h) (by kernel_rfl) (prev_bel _ _) ?_ ?_
  rotate_left
  · intro uu (pu : Prev uu _)
    go_simp
    try (with_reducible rfl)
  try simp only [List.set]
  refine wpAnyH_ready (rs := [5]) (by kernel_rfl) (by simp) ?_
  refine AllReadyH.cons rfl (fun K hK => ?_) AllReadyH.nil
  have hcp := fun ty => run_copy_own (P := Try.prog) 22 23 ty 3 Try.underlying22 (by kernel_rfl) ((O4).at (w' := u6)) (o := 6) (dLen := 2) (dCap := 2) (sLen := 2) (sCap := e - 1) (zs := [(M : Int), N]) ((sg).rd.at (w' := u6)) rfl (by simp)
  go_simp
  refine hK.out _ _ ⟨below_setRow (bel u1 u6) (Nat.le_refl _) _⟩ (fun _ => ?_)
  clear hK K hcp
  try dsimp only [Act.put, List.setIfInBounds_toArray, List.set_cons_zero, List.set_cons_succ]
  refine wpAnyH_done (by kernel_rfl) ?_ _
  obtain ⟨v5, hv5⟩ : ∃ v : World, v = (u6).setRow u1.heap.size (ints (over [(O : Int), C, KK, L, H, W, 1, 1, S, 0, 0, 0] [(M : Int), N] 6)) := ⟨_, rfl⟩
  rw [← hv5]
  have O5 : Own v5 u1.heap.size 101 [(O : Int), C, KK, L, H, W, M, N, S, 0, 0, 0] := by rw [hv5]; exact ((O4).at (w' := u6)).setRow [(O : Int), C, KK, L, H, W, M, N, S, 0, 0, 0]
  have p5 : Prev v5 u1 := ⟨by rw [hv5]; exact below_setRow (bel u1 u6) (Nat.le_refl _) _⟩
  clear hv5
  have B5 : Bx v5 u1.heap.size 101 #[.int .i64 (O : Int), .int .i64 C, .int .i64 KK, .int .i64 L, .int .i64 H, .int .i64 W, .int .i64 M, .int .i64 N, .int .i64 S, .int .i64 0, .int .i64 0, .int .i64 0] := ⟨O5⟩
  go_upto_region 8 with fail
  obtain ⟨v6, hv6⟩ : ∃ v : World, v = (v5).setCell ⟨u1.heap.size, 9, none⟩ (.int .i64 (L : Int)) := ⟨_, rfl⟩
  rw [← hv6]
  have O6 : Own v6 u1.heap.size 101 [(O : Int), C, KK, L, H, W, M, N, S, L, 0, 0] := by rw [hv6]; exact (O5).set_ 9 (L : Int)
  have p6 : Prev v6 u1 := ⟨by rw [hv6]; exact (bel u1 v5).setCell (Nat.le_refl _) _⟩
  clear hv6
  have B6 : Bx v6 u1.heap.size 101 #[.int .i64 (O : Int), .int .i64 C, .int .i64 KK, .int .i64 L, .int .i64 H, .int .i64 W, .int .i64 M, .int .i64 N, .int .i64 S, .int .i64 L, .int .i64 0, .int .i64 0] := ⟨O6⟩
  go_upto_region 9 with fail
  obtain ⟨v7, hv7⟩ : ∃ v : World, v = (v6).setCell ⟨u1.heap.size, 10, none⟩ (.int .i64 (KL : Int)) := ⟨_, rfl⟩
  rw [← hv7]
  have O7 : Own v7 u1.heap.size 101 [(O : Int), C, KK, L, H, W, M, N, S, L, KL, 0] := by rw [hv7]; exact (O6).set_ 10 (KL : Int)
  have p7 : Prev v7 u1 := ⟨by rw [hv7]; exact (bel u1 v6).setCell (Nat.le_refl _) _⟩
  clear hv7
  have B7 : Bx v7 u1.heap.size 101 #[.int .i64 (O : Int), .int .i64 C, .int .i64 KK, .int .i64 L, .int .i64 H, .int .i64 W, .int .i64 M, .int .i64 N, .int .i64 S, .int .i64 L, .int .i64 KL, .int .i64 0] := ⟨O7⟩
  go_upto_region 10 with fail
  obtain ⟨v8, hv8⟩ : ∃ v : World, v = (v7).setCell ⟨u1.heap.size, 11, none⟩ (.int .i64 (HW : Int)) := ⟨_, rfl⟩
  rw [← hv8]
  have O8 : Own v8 u1.heap.size 101 [(O : Int), C, KK, L, H, W, M, N, S, L, KL, HW] := by rw [hv8]; exact (O7).set_ 11 (HW : Int)
  have p8 : Prev v8 u1 := ⟨by rw [hv8]; exact (bel u1 v7).setCell (Nat.le_refl _) _⟩
  clear hv8
  have B8 : Bx v8 u1.heap.size 101 #[.int .i64 (O : Int), .int .i64 C, .int .i64 KK, .int .i64 L, .int .i64 H, .int .i64 W, .int .i64 M, .int .i64 N, .int .i64 S, .int .i64 L, .int .i64 KL, .int .i64 HW] := ⟨O8⟩
  have BR : Bx v8 w.heap.size 101 #[.int .i64 0, .int .i64 0, .int .i64 0, .int .i64 0, .int .i64 0, .int .i64 0, .int .i64 0, .int .i64 0, .int .i64 0, .int .i64 0, .int .i64 0, .int .i64 0] := inferInstance
  go_wp2_with fail
  have OR0 : Own v8 w.heap.size 101 [0, 0, 0, 0, 0, 0, 0, 0, 0, 0, 0, 0] := (BR).blk
  have OR := (((((((((((OR0.set_ 0 (O : Int)).set_ 1 (C : Int)).set_ 2 (KK : Int)).set_ 3 (L : Int)).set_ 4 (H : Int)).set_ 5 (W : Int)).set_ 6 (M : Int)).set_ 7 (N : Int)).set_ 8 (S : Int)).set_ 9 (L : Int)).set_ 10 (KL : Int)).set_ 11 (HW : Int)
  have BF := ((((((((((((bel w v8).setCell (p := ⟨w.heap.size, 0, none⟩) (Nat.le_refl _) (.int .i64 (O : Int))).setCell (p := ⟨w.heap.size, 1, none⟩) (Nat.le_refl _) (.int .i64 (C : Int))).setCell (p := ⟨w.heap.size, 2, none⟩) (Nat.le_refl _) (.int .i64 (KK : Int))).setCell (p := ⟨w.heap.size, 3, none⟩) (Nat.le_refl _) (.int .i64 (L : Int))).setCell (p := ⟨w.heap.size, 4, none⟩) (Nat.le_refl _) (.int .i64 (H : Int))).setCell (p := ⟨w.heap.size, 5, none⟩) (Nat.le_refl _) (.int .i64 (W : Int))).setCell (p := ⟨w.heap.size, 6, none⟩) (Nat.le_refl _) (.int .i64 (M : Int))).setCell (p := ⟨w.heap.size, 7, none⟩) (Nat.le_refl _) (.int .i64 (N : Int))).setCell (p := ⟨w.heap.size, 8, none⟩) (Nat.le_refl _) (.int .i64 (S : Int))).setCell (p := ⟨w.heap.size, 9, none⟩) (Nat.le_refl _) (.int .i64 (L : Int))).setCell (p := ⟨w.heap.size, 10, none⟩) (Nat.le_refl _) (.int .i64 (KL : Int))).setCell (p := ⟨w.heap.size, 11, none⟩) (Nat.le_refl _) (.int .i64 (HW : Int))
  have r0 := OR.cell (i := 0) (z := (O : Int)) rfl
  have r1 := OR.cell (i := 1) (z := (C : Int)) rfl
  have r2 := OR.cell (i := 2) (z := (KK : Int)) rfl
  have r3 := OR.cell (i := 3) (z := (L : Int)) rfl
  have r4 := OR.cell (i := 4) (z := (H : Int)) rfl
  have r5 := OR.cell (i := 5) (z := (W : Int)) rfl
  have r6 := OR.cell (i := 6) (z := (M : Int)) rfl
  have r7 := OR.cell (i := 7) (z := (N : Int)) rfl
  have r8 := OR.cell (i := 8) (z := (S : Int)) rfl
  have r9 := OR.cell (i := 9) (z := (L : Int)) rfl
  have r10 := OR.cell (i := 10) (z := (KL : Int)) rfl
  have r11 := OR.cell (i := 11) (z := (HW : Int)) rfl
  refine bodyPost_ret (v := .agg #[.int .i64 (O : Int), .int .i64 (C : Int), .int .i64 (KK : Int), .int .i64 (L : Int), .int .i64 (H : Int), .int .i64 (W : Int), .int .i64 (M : Int), .int .i64 (N : Int), .int .i64 (S : Int), .int .i64 (L : Int), .int .i64 (KL : Int), .int .i64 (HW : Int)]) (by simp [results, Try.results70, go_sem, r0, r1, r2, r3, r4, r5, r6, r7, r8, r9, r10, r11]) rfl ?_
  exact ⟨by rw [frV, HKL.out, HHW.out] <;> rfl, ⟨BF⟩⟩
end

end Go.Proofs.Yteibgdcieaiaiaa
