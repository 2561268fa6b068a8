/- The walks of the reference of convolutions: Of, and Run in its three ways. -/
import Derived.Test.YteibgdcieaiaiaaRefWin
import Derived.Test.YteibgdcieaiaiaaConvTouch
import Derived.Test.YteibgdcieaiaiaaConvFold
import Derived.Deep.DeepCutAuto
namespace Go.Proofs.Yteibgdcieaiaiaa
open Go.RowKit

def plnV (O C K L H W D R : Int) : Value := .agg #[.int .i64 O, .int .i64 C, .int .i64 K, .int .i64 L, .int .i64 H, .int .i64 W, .int .i64 D, .int .i64 R]
section
variable {f : CF} {p i j k t s D : Nat}
theorem r7_place (hf : CFok f) (hp : p < f.O) (hi : i < f.M) (hj : j < f.N) : ∃ A1 A2 PL : Nat, (p : Int) * (f.M : Int) = (A1 : Int) ∧ ((A1 : Int) + (i : Int)) * (f.N : Int) = (A2 : Int) ∧ (A2 : Int) + (j : Int) = (PL : Int) ∧ Hid (f.place p i j = PL) ∧ PL < f.O * (f.M * f.N) ∧ (A1 ≤ 65536 ∧ A2 ≤ 65536 ∧ PL ≤ 65536) := by
  have h1 := place_lt hp hi hj
  have h2 : p * f.M + i ≤ (p * f.M + i) * f.N := Nat.le_mul_of_pos_right _ hf.n1
  have h3 := hf.oy
  have h4 : f.place p i j = (p * f.M + i) * f.N + j := rfl
  refine ⟨p * f.M, (p * f.M + i) * f.N, f.place p i j, by push_cast; rfl, by push_cast; rfl, by rw [h4]; push_cast; rfl, Lib.hid rfl, h1, by omega, by omega, by omega⟩
theorem r7_wt (hf : CFok f) (hp : p < f.O) (hk : k < f.C) (ht : t < f.K) (hs : s < f.L) : ∃ D1 X1 X2 WT : Nat, (p : Int) * (f.C : Int) = (D1 : Int) ∧ ((D1 : Int) + (k : Int)) * (f.K : Int) = (X1 : Int) ∧ ((X1 : Int) + (t : Int)) * (f.L : Int) = (X2 : Int) ∧ (X2 : Int) + (s : Int) = (WT : Int) ∧ Hid (f.wt p k t s = WT) ∧ WT < f.O * (f.C * (f.K * f.L)) ∧ (D1 ≤ 65536 ∧ X1 ≤ 65536 ∧ X2 ≤ 65536 ∧ WT ≤ 65536) := by
  have h1 := wt_lt hp hk ht hs
  have h4 : f.wt p k t s = ((p * f.C + k) * f.K + t) * f.L + s := by rw [CF.wt, ← Nat.mul_assoc, ← Nat.add_mul]
  have h2 : (p * f.C + k) * f.K + t ≤ ((p * f.C + k) * f.K + t) * f.L := Nat.le_mul_of_pos_right _ hf.l1
  have h3 : p * f.C + k ≤ (p * f.C + k) * f.K := Nat.le_mul_of_pos_right _ hf.k1
  have h5 := hf.ow
  refine ⟨p * f.C, (p * f.C + k) * f.K, ((p * f.C + k) * f.K + t) * f.L, f.wt p k t s, by push_cast; rfl, by push_cast; rfl, by push_cast; rfl, by rw [h4]; push_cast; rfl, Lib.hid rfl, h1, by omega, by omega, by omega, by omega⟩
theorem r7_frm (hf : CFok f) (hD : i * D = i * f.S) (hi : i < f.M) (hj : j < f.N) (hk : k < f.C) (ht : t < f.K) (hs : s < f.L) : ∃ Y1 Y2 Y3 Y4 FR : Nat, (k : Int) * (f.H : Int) = (Y1 : Int) ∧ (i : Int) * (D : Int) = (Y2 : Int) ∧ ((Y1 : Int) + (Y2 : Int) + (t : Int)) * (f.W : Int) = (Y3 : Int) ∧ (j : Int) * (f.S : Int) = (Y4 : Int) ∧ (Y3 : Int) + (Y4 : Int) + (s : Int) = (FR : Int) ∧ Hid (f.frm i j k t s = FR) ∧ FR < f.C * (f.H * f.W) ∧ (Y1 ≤ 65536 ∧ Y2 ≤ 65536 ∧ Y3 ≤ 65536 ∧ Y4 ≤ 65536 ∧ FR ≤ 65536) := by
  have h1 := frm_lt hf hi hj hk ht hs
  have h4 : f.frm i j k t s = (k * f.H + i * D + t) * f.W + j * f.S + s := by
    rw [CF.frm, hD, Nat.add_mul, Nat.add_mul, Nat.mul_assoc k]
    omega
  have hW : 1 ≤ f.W := by have := hf.w j hj; have := hf.l1; omega
  have h2 : k * f.H + i * D + t ≤ (k * f.H + i * D + t) * f.W := Nat.le_mul_of_pos_right _ hW
  have h5 := hf.ox
  refine ⟨k * f.H, i * D, (k * f.H + i * D + t) * f.W, j * f.S, f.frm i j k t s, by push_cast; rfl, by push_cast; rfl, by push_cast; rfl, by push_cast; rfl, by rw [h4]; push_cast; rfl, Lib.hid rfl, h1, by omega, by omega, by omega, by omega, by omega⟩
variable {us vs : List Int} {N x1 x2 x3 : Nat} {pre : List Tri} {o y z : Int}
theorem goFold_at (h1 : us[x2]? = some y) (h2 : vs[x3]? = some z) (ho : (goFold us vs N pre)[x1]? = some o) : (goFold us vs N pre).set x1 (fadd o (fmul y z)) = goFold us vs N (pre ++ [(x1, x2, x3)]) := by
  rw [goFold_snoc, goStep]
  simp only
  rw [List.getD_eq_getElem?_getD, ho, List.getD_eq_getElem?_getD, h1, List.getD_eq_getElem?_getD, h2]
  rfl
theorem bwFold_at (h1 : us[x1]? = some y) (h2 : vs[x3]? = some z) (ho : (bwFold us vs N pre)[x2]? = some o) : (bwFold us vs N pre).set x2 (fadd o (fmul y z)) = bwFold us vs N (pre ++ [(x1, x2, x3)]) := by
  rw [bwFold_snoc, bwStep]
  simp only
  rw [List.getD_eq_getElem?_getD, ho, List.getD_eq_getElem?_getD, h1, List.getD_eq_getElem?_getD, h2]
  rfl
theorem bxFold_at (h1 : us[x1]? = some y) (h2 : vs[x2]? = some z) (ho : (bxFold us vs N pre)[x3]? = some o) : (bxFold us vs N pre).set x3 (fadd o (fmul y z)) = bxFold us vs N (pre ++ [(x1, x2, x3)]) := by
  rw [bxFold_snoc, bxStep]
  simp only
  rw [List.getD_eq_getElem?_getD, ho, List.getD_eq_getElem?_getD, h1, List.getD_eq_getElem?_getD, h2]
  rfl
end
section
variable {w : World} {A B G : Option Addr} {n m q c d e : Nat}
theorem r7_windowH {a b c v : Int} (h : Hid (winV a b c = v)) : Calls Try.prog 49 #[.int .i64 a, .int .i64 b, .int .i64 c] w (RetV w (.int .i64 v)) := retV_of r7_window (by rw [h.out])
set_option maxRecDepth 100000 in
set_option maxHeartbeats 4000000 in
theorem r7_of_line {O C L W S : Int} [a : Sl w A 3 [O, C, L]] [b : Sl w B 2 [C, W]] : Calls Try.prog 24 #[.slice A 3 c, .slice B 2 d, .int .i64 S] w (RetV w (plnV O C 1 L 1 W 1 S)) := by
  have CB := @cell_bx
  have CP := @cell_prev
  obtain ⟨ba, oa, z, rfl, oba, ca0, hz⟩ := a.get (k := 0) (by omega)
  obtain rfl : z = O := by have := hz.out; simpa using this.symm
  have ca1 := a.rd.all (k := 1) (z := C) rfl
  have ca2 := a.rd.all (k := 2) (z := L) rfl
  obtain ⟨bb, ob, z2, rfl, obb, -, -⟩ := b.get (k := 0) (by omega)
  have cb1 := b.rd.all (k := 1) (z := W) rfl
  simp only [Nat.add_zero] at ca0
  clear hz
  go_enter Try.func24, Try.ntmps24
  go_wp2_with fail
  obtain ⟨wb, hwb⟩ : ∃ wb : World, wb = w.alloc (.cells #[.int .i64 0, .int .i64 0, .int .i64 0, .int .i64 0, .int .i64 0, .int .i64 0, .int .i64 0, .int .i64 0] 45) := ⟨_, rfl⟩
  have kB : Bx wb w.heap.size 45 #[.int .i64 0, .int .i64 0, .int .i64 0, .int .i64 0, .int .i64 0, .int .i64 0, .int .i64 0, .int .i64 0] := by rw [hwb]; exact Bx.new
  have pB : Prev wb w := hwb ▸ Prev.alloc _ _
  rw [← hwb]
  clear hwb
  refine wp_region_up w (by kernel_rfl) (fun UX _ => ?_)
  refine wpAnyH_on (i := 0) (d := 10) (v := ?_) rfl rfl (by kernel_rfl) (by kernel_rfl) (by kernel_rfl) (fun _ _ _ h => h) (by kernel_rfl) (prev_bel _ _) ?_ ?_
  rotate_left
  · intro uu (pu : Prev uu _)
    go_simp
    try (with_reducible rfl)
  try simp only [List.set]
  refine wpAnyH_on (i := 1) (d := 11) (v := ?_) rfl rfl (by kernel_rfl) (by kernel_rfl) (by kernel_rfl) (fun _ _ _ h => h) (by kernel_rfl) (prev_bel _ _) ?_ ?_
  rotate_left
  · intro uu (pu : Prev uu _)
    go_simp
    try (with_reducible rfl)
  try simp only [List.set]
  refine wpAnyH_on (i := 2) (d := 12) (v := ?_) rfl rfl (by kernel_rfl) (by kernel_rfl) (by kernel_rfl) (fun _ _ _ h => h) (by kernel_rfl) (prev_bel _ _) ?_ ?_
  rotate_left
  · intro uu (pu : Prev uu _)
    go_simp
    try (with_reducible rfl)
  try simp only [List.set]
  refine wpAnyH_on (i := 3) (d := 13) (v := ?_) rfl rfl (by kernel_rfl) (by kernel_rfl) (by kernel_rfl) (fun _ _ _ h => h) (by kernel_rfl) (prev_bel _ _) ?_ ?_
  rotate_left
  · intro uu (pu : Prev uu _)
    go_simp
    try (with_reducible rfl)
  try simp only [List.set]
  refine wpAnyH_on (i := 4) (d := 14) (v := ?_) rfl rfl (by kernel_rfl) (by kernel_rfl) (by kernel_rfl) (fun _ _ _ h => h) (by kernel_rfl) (prev_bel _ _) ?_ ?_
  rotate_left
  · intro uu (pu : Prev uu _)
    go_simp
    try (with_reducible rfl)
  try simp only [List.set]
  refine wpAnyH_on (i := 5) (d := 15) (v := ?_) rfl rfl (by kernel_rfl) (by kernel_rfl) (by kernel_rfl) (fun _ _ _ h => h) (by kernel_rfl) (prev_bel _ _) ?_ ?_
  rotate_left
  · intro uu (pu : Prev uu _)
    go_simp
    try (with_reducible rfl)
  try simp only [List.set]
  refine wpAnyH_on (i := 6) (d := 16) (v := ?_) rfl rfl (by kernel_rfl) (by kernel_rfl) (by kernel_rfl) (fun _ _ _ h => h) (by kernel_rfl) (prev_bel _ _) ?_ ?_
  rotate_left
  · intro uu (pu : Prev uu _)
    go_simp
    try (with_reducible rfl)
  try simp only [List.set]
  refine wpAnyH_on (i := 7) (d := 17) (v := ?_) rfl rfl (by kernel_rfl) (by kernel_rfl) (by kernel_rfl) (fun _ _ _ h => h) (by kernel_rfl) (prev_bel _ _) ?_ ?_
  rotate_left
  · intro uu (pu : Prev uu _)
    go_simp
    try (with_reducible rfl)
  try simp only [List.set]
  refine wpAnyH_on (i := 8) (d := 18) (v := ?_) rfl rfl (by kernel_rfl) (by kernel_rfl) (by kernel_rfl) (fun _ _ _ h => h) (by kernel_rfl) (prev_bel _ _) ?_ ?_
  rotate_left
  · intro uu (pu : Prev uu _)
    go_simp
    try (with_reducible rfl)
  try simp only [List.set]
  refine wpAnyH_on (i := 9) (d := 19) (v := ?_) rfl rfl (by kernel_rfl) (by kernel_rfl) (by kernel_rfl) (fun _ _ _ h => h) (by kernel_rfl) (prev_bel _ _) ?_ ?_
  rotate_left
  · intro uu (pu : Prev uu _)
    go_simp
    try (with_reducible rfl)
  try simp only [List.set]
  refine wpAnyH_on (i := 10) (d := 20) (v := ?_) rfl rfl (by kernel_rfl) (by kernel_rfl) (by kernel_rfl) (fun _ _ _ h => h) (by kernel_rfl) (prev_bel _ _) ?_ ?_
  rotate_left
  · intro uu (pu : Prev uu _)
    go_simp
    try (with_reducible rfl)
  try simp only [List.set]
  refine wpAnyH_on (i := 11) (d := 21) (v := ?_) rfl rfl (by kernel_rfl) (by kernel_rfl) (by kernel_rfl) (fun _ _ _ h => h) (by kernel_rfl) (prev_bel _ _) ?_ ?_
  rotate_left
  · intro uu (pu : Prev uu _)
    go_simp
    try (with_reducible rfl)
  try simp only [List.set]
  refine wpAnyH_on (i := 12) (d := 22) (v := ?_) rfl rfl (by kernel_rfl) (by kernel_rfl) (by kernel_rfl) (fun _ _ _ h => h) (by kernel_rfl) (prev_bel _ _) ?_ ?_
  rotate_left
  · intro uu (pu : Prev uu _)
    go_simp
    try (with_reducible rfl)
  try simp only [List.set]
  refine wpAnyH_on (i := 13) (d := 23) (v := ?_) rfl rfl (by kernel_rfl) (by kernel_rfl) (by kernel_rfl) (fun _ _ _ h => h) (by kernel_rfl) (prev_bel _ _) ?_ ?_
  rotate_left
  · intro uu (pu : Prev uu _)
    go_simp
    try (with_reducible rfl)
  try simp only [List.set]
  refine wpAnyH_ready (rs := [14]) (by kernel_rfl) (by simp) ?_
  refine AllReadyH.cons rfl (fun K hK => ?_) AllReadyH.nil
  have OR0 : Own UX w.heap.size 45 [0, 0, 0, 0, 0, 0, 0, 0] := (Bx.blk (w := UX) (g := w.heap.size))
  have f0 := OR0.frozen 0
  have f1 := OR0.frozen 1
  have f2 := OR0.frozen 2
  have f3 := OR0.frozen 3
  have f4 := OR0.frozen 4
  have f5 := OR0.frozen 5
  have f6 := OR0.frozen 6
  have f7 := OR0.frozen 7
  have hc0 := OR0.cell (i := 0) (z := 0) rfl
  have hc1 := OR0.cell (i := 1) (z := 0) rfl
  have hc2 := OR0.cell (i := 2) (z := 0) rfl
  have hc3 := OR0.cell (i := 3) (z := 0) rfl
  have hc4 := OR0.cell (i := 4) (z := 0) rfl
  have hc5 := OR0.cell (i := 5) (z := 0) rfl
  have hc6 := OR0.cell (i := 6) (z := 0) rfl
  have hc7 := OR0.cell (i := 7) (z := 0) rfl
  have OR := (((((((OR0.set_ 0 z).set_ 1 C).set_ 2 1).set_ 3 L).set_ 4 1).set_ 5 W).set_ 6 1).set_ 7 S
  have BF := ((((((((bel w UX).setCell (p := ⟨w.heap.size, 0, none⟩) (Nat.le_refl _) (.int .i64 z)).setCell (p := ⟨w.heap.size, 1, none⟩) (Nat.le_refl _) (.int .i64 C)).setCell (p := ⟨w.heap.size, 2, none⟩) (Nat.le_refl _) (.int .i64 1)).setCell (p := ⟨w.heap.size, 3, none⟩) (Nat.le_refl _) (.int .i64 L)).setCell (p := ⟨w.heap.size, 4, none⟩) (Nat.le_refl _) (.int .i64 1)).setCell (p := ⟨w.heap.size, 5, none⟩) (Nat.le_refl _) (.int .i64 W)).setCell (p := ⟨w.heap.size, 6, none⟩) (Nat.le_refl _) (.int .i64 1)).setCell (p := ⟨w.heap.size, 7, none⟩) (Nat.le_refl _) (.int .i64 S)
  obtain ⟨V8, hV8⟩ : ∃ V8 : World, V8 = ((((((((UX.setCell ⟨w.heap.size, 0, none⟩ (.int .i64 z)).setCell ⟨w.heap.size, 1, none⟩ (.int .i64 C)).setCell ⟨w.heap.size, 2, none⟩ (.int .i64 1)).setCell ⟨w.heap.size, 3, none⟩ (.int .i64 L)).setCell ⟨w.heap.size, 4, none⟩ (.int .i64 1)).setCell ⟨w.heap.size, 5, none⟩ (.int .i64 W)).setCell ⟨w.heap.size, 6, none⟩ (.int .i64 1)).setCell ⟨w.heap.size, 7, none⟩ (.int .i64 S)) := ⟨_, rfl⟩
  rw [← hV8] at OR BF
  go_simp
  rw [← hV8]
  clear hV8
  refine hK.out _ _ ⟨BF⟩ (fun hHeld => ?_)
  clear hHeld hK K f0 f1 f2 f3 f4 f5 f6 f7 hc0 hc1 hc2 hc3 hc4 hc5 hc6 hc7 OR0
  try dsimp only [Act.put, List.setIfInBounds_toArray, List.set_cons_zero, List.set_cons_succ]
  refine wpAnyH_done (by kernel_rfl) ?_ _
  go_wp2_with fail
  have r0 := OR.cell (i := 0) (z := z) rfl
  have r1 := OR.cell (i := 1) (z := C) rfl
  have r2 := OR.cell (i := 2) (z := 1) rfl
  have r3 := OR.cell (i := 3) (z := L) rfl
  have r4 := OR.cell (i := 4) (z := 1) rfl
  have r5 := OR.cell (i := 5) (z := W) rfl
  have r6 := OR.cell (i := 6) (z := 1) rfl
  have r7 := OR.cell (i := 7) (z := S) rfl
  refine bodyPost_ret (v := .agg #[.int .i64 z, .int .i64 C, .int .i64 1, .int .i64 L, .int .i64 1, .int .i64 W, .int .i64 1, .int .i64 S]) (by simp [results, Try.results24, go_sem, r0, r1, r2, r3, r4, r5, r6, r7]) rfl ?_
  exact ⟨rfl, ⟨BF⟩⟩
set_option maxRecDepth 100000 in
set_option maxHeartbeats 4000000 in
theorem r7_of_plane {O C KK L H W S : Int} [a : Sl w A 4 [O, C, KK, L]] [b : Sl w B 3 [C, H, W]] : Calls Try.prog 24 #[.slice A 4 c, .slice B 3 d, .int .i64 S] w (RetV w (plnV O C KK L H W S S)) := by
  have CB := @cell_bx
  have CP := @cell_prev
  obtain ⟨ba, oa, z, rfl, oba, ca0, hz⟩ := a.get (k := 0) (by omega)
  obtain rfl : z = O := by have := hz.out; simpa using this.symm
  have ca1 := a.rd.all (k := 1) (z := C) rfl
  have ca2 := a.rd.all (k := 2) (z := KK) rfl
  have ca3 := a.rd.all (k := 3) (z := L) rfl
  obtain ⟨bb, ob, z2, rfl, obb, -, -⟩ := b.get (k := 0) (by omega)
  have cb1 := b.rd.all (k := 1) (z := H) rfl
  have cb2 := b.rd.all (k := 2) (z := W) rfl
  simp only [Nat.add_zero] at ca0
  clear hz
  go_enter Try.func24, Try.ntmps24
  go_wp2_with fail
  obtain ⟨wb, hwb⟩ : ∃ wb : World, wb = w.alloc (.cells #[.int .i64 0, .int .i64 0, .int .i64 0, .int .i64 0, .int .i64 0, .int .i64 0, .int .i64 0, .int .i64 0] 45) := ⟨_, rfl⟩
  have kB : Bx wb w.heap.size 45 #[.int .i64 0, .int .i64 0, .int .i64 0, .int .i64 0, .int .i64 0, .int .i64 0, .int .i64 0, .int .i64 0] := by rw [hwb]; exact Bx.new
  have pB : Prev wb w := hwb ▸ Prev.alloc _ _
  rw [← hwb]
  clear hwb
  refine wp_region_up w (by kernel_rfl) (fun UX _ => ?_)
  refine wpAnyH_on (i := 0) (d := 24) (v := ?_) rfl rfl (by kernel_rfl) (by kernel_rfl) (by kernel_rfl) (fun _ _ _ h => h) (by kernel_rfl) (prev_bel _ _) ?_ ?_
  rotate_left
  · intro uu (pu : Prev uu _)
    go_simp
    try (with_reducible rfl)
  try simp only [List.set]
  refine wpAnyH_on (i := 1) (d := 25) (v := ?_) rfl rfl (by kernel_rfl) (by kernel_rfl) (by kernel_rfl) (fun _ _ _ h => h) (by kernel_rfl) (prev_bel _ _) ?_ ?_
  rotate_left
  · intro uu (pu : Prev uu _)
    go_simp
    try (with_reducible rfl)
  try simp only [List.set]
  refine wpAnyH_on (i := 2) (d := 26) (v := ?_) rfl rfl (by kernel_rfl) (by kernel_rfl) (by kernel_rfl) (fun _ _ _ h => h) (by kernel_rfl) (prev_bel _ _) ?_ ?_
  rotate_left
  · intro uu (pu : Prev uu _)
    go_simp
    try (with_reducible rfl)
  try simp only [List.set]
  refine wpAnyH_on (i := 3) (d := 27) (v := ?_) rfl rfl (by kernel_rfl) (by kernel_rfl) (by kernel_rfl) (fun _ _ _ h => h) (by kernel_rfl) (prev_bel _ _) ?_ ?_
  rotate_left
  · intro uu (pu : Prev uu _)
    go_simp
    try (with_reducible rfl)
  try simp only [List.set]
  refine wpAnyH_on (i := 4) (d := 28) (v := ?_) rfl rfl (by kernel_rfl) (by kernel_rfl) (by kernel_rfl) (fun _ _ _ h => h) (by kernel_rfl) (prev_bel _ _) ?_ ?_
  rotate_left
  · intro uu (pu : Prev uu _)
    go_simp
    try (with_reducible rfl)
  try simp only [List.set]
  refine wpAnyH_on (i := 5) (d := 29) (v := ?_) rfl rfl (by kernel_rfl) (by kernel_rfl) (by kernel_rfl) (fun _ _ _ h => h) (by kernel_rfl) (prev_bel _ _) ?_ ?_
  rotate_left
  · intro uu (pu : Prev uu _)
    go_simp
    try (with_reducible rfl)
  try simp only [List.set]
  refine wpAnyH_on (i := 6) (d := 30) (v := ?_) rfl rfl (by kernel_rfl) (by kernel_rfl) (by kernel_rfl) (fun _ _ _ h => h) (by kernel_rfl) (prev_bel _ _) ?_ ?_
  rotate_left
  · intro uu (pu : Prev uu _)
    go_simp
    try (with_reducible rfl)
  try simp only [List.set]
  refine wpAnyH_on (i := 7) (d := 31) (v := ?_) rfl rfl (by kernel_rfl) (by kernel_rfl) (by kernel_rfl) (fun _ _ _ h => h) (by kernel_rfl) (prev_bel _ _) ?_ ?_
  rotate_left
  · intro uu (pu : Prev uu _)
    go_simp
    try (with_reducible rfl)
  try simp only [List.set]
  refine wpAnyH_on (i := 8) (d := 32) (v := ?_) rfl rfl (by kernel_rfl) (by kernel_rfl) (by kernel_rfl) (fun _ _ _ h => h) (by kernel_rfl) (prev_bel _ _) ?_ ?_
  rotate_left
  · intro uu (pu : Prev uu _)
    go_simp
    try (with_reducible rfl)
  try simp only [List.set]
  refine wpAnyH_on (i := 9) (d := 33) (v := ?_) rfl rfl (by kernel_rfl) (by kernel_rfl) (by kernel_rfl) (fun _ _ _ h => h) (by kernel_rfl) (prev_bel _ _) ?_ ?_
  rotate_left
  · intro uu (pu : Prev uu _)
    go_simp
    try (with_reducible rfl)
  try simp only [List.set]
  refine wpAnyH_on (i := 10) (d := 34) (v := ?_) rfl rfl (by kernel_rfl) (by kernel_rfl) (by kernel_rfl) (fun _ _ _ h => h) (by kernel_rfl) (prev_bel _ _) ?_ ?_
  rotate_left
  · intro uu (pu : Prev uu _)
    go_simp
    try (with_reducible rfl)
  try simp only [List.set]
  refine wpAnyH_on (i := 11) (d := 35) (v := ?_) rfl rfl (by kernel_rfl) (by kernel_rfl) (by kernel_rfl) (fun _ _ _ h => h) (by kernel_rfl) (prev_bel _ _) ?_ ?_
  rotate_left
  · intro uu (pu : Prev uu _)
    go_simp
    try (with_reducible rfl)
  try simp only [List.set]
  refine wpAnyH_on (i := 12) (d := 36) (v := ?_) rfl rfl (by kernel_rfl) (by kernel_rfl) (by kernel_rfl) (fun _ _ _ h => h) (by kernel_rfl) (prev_bel _ _) ?_ ?_
  rotate_left
  · intro uu (pu : Prev uu _)
    go_simp
    try (with_reducible rfl)
  try simp only [List.set]
  refine wpAnyH_on (i := 13) (d := 37) (v := ?_) rfl rfl (by kernel_rfl) (by kernel_rfl) (by kernel_rfl) (fun _ _ _ h => h) (by kernel_rfl) (prev_bel _ _) ?_ ?_
  rotate_left
  · intro uu (pu : Prev uu _)
    go_simp
    try (with_reducible rfl)
  try simp only [List.set]
  refine wpAnyH_on (i := 14) (d := 38) (v := ?_) rfl rfl (by kernel_rfl) (by kernel_rfl) (by kernel_rfl) (fun _ _ _ h => h) (by kernel_rfl) (prev_bel _ _) ?_ ?_
  rotate_left
  · intro uu (pu : Prev uu _)
    go_simp
    try (with_reducible rfl)
  try simp only [List.set]
  refine wpAnyH_on (i := 15) (d := 39) (v := ?_) rfl rfl (by kernel_rfl) (by kernel_rfl) (by kernel_rfl) (fun _ _ _ h => h) (by kernel_rfl) (prev_bel _ _) ?_ ?_
  rotate_left
  · intro uu (pu : Prev uu _)
    go_simp
    try (with_reducible rfl)
  try simp only [List.set]
  refine wpAnyH_on (i := 16) (d := 40) (v := ?_) rfl rfl (by kernel_rfl) (by kernel_rfl) (by kernel_rfl) (fun _ _ _ h => h) (by kernel_rfl) (prev_bel _ _) ?_ ?_
  rotate_left
  · intro uu (pu : Prev uu _)
    go_simp
    try (with_reducible rfl)
  try simp only [List.set]
  refine wpAnyH_on (i := 17) (d := 41) (v := ?_) rfl rfl (by kernel_rfl) (by kernel_rfl) (by kernel_rfl) (fun _ _ _ h => h) (by kernel_rfl) (prev_bel _ _) ?_ ?_
  rotate_left
  · intro uu (pu : Prev uu _)
    go_simp
    try (with_reducible rfl)
  try simp only [List.set]
  refine wpAnyH_on (i := 18) (d := 42) (v := ?_) rfl rfl (by kernel_rfl) (by kernel_rfl) (by kernel_rfl) (fun _ _ _ h => h) (by kernel_rfl) (prev_bel _ _) ?_ ?_
  rotate_left
  · intro uu (pu : Prev uu _)
    go_simp
    try (with_reducible rfl)
  try simp only [List.set]
  refine wpAnyH_on (i := 19) (d := 43) (v := ?_) rfl rfl (by kernel_rfl) (by kernel_rfl) (by kernel_rfl) (fun _ _ _ h => h) (by kernel_rfl) (prev_bel _ _) ?_ ?_
  rotate_left
  · intro uu (pu : Prev uu _)
    go_simp
    try (with_reducible rfl)
  try simp only [List.set]
  refine wpAnyH_on (i := 20) (d := 44) (v := ?_) rfl rfl (by kernel_rfl) (by kernel_rfl) (by kernel_rfl) (fun _ _ _ h => h) (by kernel_rfl) (prev_bel _ _) ?_ ?_
  rotate_left
  · intro uu (pu : Prev uu _)
    go_simp
    try (with_reducible rfl)
  try simp only [List.set]
  refine wpAnyH_ready (rs := [21]) (by kernel_rfl) (by simp) ?_
  refine AllReadyH.cons rfl (fun K hK => ?_) AllReadyH.nil
  have OR0 : Own UX w.heap.size 45 [0, 0, 0, 0, 0, 0, 0, 0] := (Bx.blk (w := UX) (g := w.heap.size))
  have f0 := OR0.frozen 0
  have f1 := OR0.frozen 1
  have f2 := OR0.frozen 2
  have f3 := OR0.frozen 3
  have f4 := OR0.frozen 4
  have f5 := OR0.frozen 5
  have f6 := OR0.frozen 6
  have f7 := OR0.frozen 7
  have hc0 := OR0.cell (i := 0) (z := 0) rfl
  have hc1 := OR0.cell (i := 1) (z := 0) rfl
  have hc2 := OR0.cell (i := 2) (z := 0) rfl
  have hc3 := OR0.cell (i := 3) (z := 0) rfl
  have hc4 := OR0.cell (i := 4) (z := 0) rfl
  have hc5 := OR0.cell (i := 5) (z := 0) rfl
  have hc6 := OR0.cell (i := 6) (z := 0) rfl
  have hc7 := OR0.cell (i := 7) (z := 0) rfl
  have OR := (((((((OR0.set_ 0 z).set_ 1 C).set_ 2 KK).set_ 3 L).set_ 4 H).set_ 5 W).set_ 6 S).set_ 7 S
  have BF := ((((((((bel w UX).setCell (p := ⟨w.heap.size, 0, none⟩) (Nat.le_refl _) (.int .i64 z)).setCell (p := ⟨w.heap.size, 1, none⟩) (Nat.le_refl _) (.int .i64 C)).setCell (p := ⟨w.heap.size, 2, none⟩) (Nat.le_refl _) (.int .i64 KK)).setCell (p := ⟨w.heap.size, 3, none⟩) (Nat.le_refl _) (.int .i64 L)).setCell (p := ⟨w.heap.size, 4, none⟩) (Nat.le_refl _) (.int .i64 H)).setCell (p := ⟨w.heap.size, 5, none⟩) (Nat.le_refl _) (.int .i64 W)).setCell (p := ⟨w.heap.size, 6, none⟩) (Nat.le_refl _) (.int .i64 S)).setCell (p := ⟨w.heap.size, 7, none⟩) (Nat.le_refl _) (.int .i64 S)
  obtain ⟨V8, hV8⟩ : ∃ V8 : World, V8 = ((((((((UX.setCell ⟨w.heap.size, 0, none⟩ (.int .i64 z)).setCell ⟨w.heap.size, 1, none⟩ (.int .i64 C)).setCell ⟨w.heap.size, 2, none⟩ (.int .i64 KK)).setCell ⟨w.heap.size, 3, none⟩ (.int .i64 L)).setCell ⟨w.heap.size, 4, none⟩ (.int .i64 H)).setCell ⟨w.heap.size, 5, none⟩ (.int .i64 W)).setCell ⟨w.heap.size, 6, none⟩ (.int .i64 S)).setCell ⟨w.heap.size, 7, none⟩ (.int .i64 S)) := ⟨_, rfl⟩
  rw [← hV8] at OR BF
  go_simp
  rw [← hV8]
  clear hV8
  refine hK.out _ _ ⟨BF⟩ (fun hHeld => ?_)
  clear hHeld hK K f0 f1 f2 f3 f4 f5 f6 f7 hc0 hc1 hc2 hc3 hc4 hc5 hc6 hc7 OR0
  try dsimp only [Act.put, List.setIfInBounds_toArray, List.set_cons_zero, List.set_cons_succ]
  refine wpAnyH_done (by kernel_rfl) ?_ _
  go_wp2_with fail
  have r0 := OR.cell (i := 0) (z := z) rfl
  have r1 := OR.cell (i := 1) (z := C) rfl
  have r2 := OR.cell (i := 2) (z := KK) rfl
  have r3 := OR.cell (i := 3) (z := L) rfl
  have r4 := OR.cell (i := 4) (z := H) rfl
  have r5 := OR.cell (i := 5) (z := W) rfl
  have r6 := OR.cell (i := 6) (z := S) rfl
  have r7 := OR.cell (i := 7) (z := S) rfl
  refine bodyPost_ret (v := .agg #[.int .i64 z, .int .i64 C, .int .i64 KK, .int .i64 L, .int .i64 H, .int .i64 W, .int .i64 S, .int .i64 S]) (by simp [results, Try.results24, go_sem, r0, r1, r2, r3, r4, r5, r6, r7]) rfl ?_
  exact ⟨rfl, ⟨BF⟩⟩
end

end Go.Proofs.Yteibgdcieaiaiaa
