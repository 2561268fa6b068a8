/- The walk of conv.Back. -/
import Derived.Test.YteibgdcieaiaiaaConvGo
namespace Go.Proofs.Yteibgdcieaiaiaa
open Go.RowKit Go.Shelf
attribute [local go_sem] Oper.semAt_some

/-- Two tensors and an error. -/
def RetGr (w : World) (zw xw zx xx : List Int) (E : Int) (e : Ending) (w' : World) : Prop :=
  ∃ A c B d C c' D d', e = .returned (.tuple #[.agg #[.slice A zw.length c, .slice B xw.length d, .slice C zx.length c', .slice D xx.length d'], .int .i64 E]) ∧ Sl w' A zw.length zw ∧ Sl w' B xw.length xw ∧ Sl w' C zx.length zx ∧ Sl w' D xx.length xx ∧ Prev w' w
theorem Blk.set4 {w : World} {g : Nat} {T : TypeId} {a b c d : Value} (h : Blk w g T #[a, b, c, d]) (v0 v1 v2 v3 : Value) : Blk ((((w.setCell ⟨g, 0, none⟩ v0).setCell ⟨g, 1, none⟩ v1).setCell ⟨g, 2, none⟩ v2).setCell ⟨g, 3, none⟩ v3) g T #[v0, v1, v2, v3] := by
  simpa using (((h.set_ 0 v0).set_ 1 v1).set_ 2 v2).set_ 3 v3
theorem bset4 {w w' : World} {n p : Nat} (h : Below n w w') (hp : n ≤ p) (v0 v1 v2 v3 : Value) : Below n w ((((w'.setCell ⟨p, 0, none⟩ v0).setCell ⟨p, 1, none⟩ v1).setCell ⟨p, 2, none⟩ v2).setCell ⟨p, 3, none⟩ v3) :=
  (((h.setCell (p := ⟨p, 0, none⟩) hp v0).setCell (p := ⟨p, 1, none⟩) hp v1).setCell (p := ⟨p, 2, none⟩) hp v2).setCell (p := ⟨p, 3, none⟩) hp v3
theorem Own.far4 {w : World} {g p : Nat} {T : TypeId} {zs : List Int} (h : Own w g T zs) (hp : g ≠ p) (v0 v1 v2 v3 : Value) : Own ((((w.setCell ⟨p, 0, none⟩ v0).setCell ⟨p, 1, none⟩ v1).setCell ⟨p, 2, none⟩ v2).setCell ⟨p, 3, none⟩ v3) g T zs :=
  (((h.far (p := ⟨p, 0, none⟩) hp v0).far (p := ⟨p, 1, none⟩) hp v1).far (p := ⟨p, 2, none⟩) hp v2).far (p := ⟨p, 3, none⟩) hp v3
section
variable {w : World} {A B C D F G : Option Addr} {n m n' m' p q c d c' d' e e' : Nat} {zw xw zx xx zg xg : List Int}
set_option maxRecDepth 100000 in
set_option maxHeartbeats 2000000 in
theorem cv_back_no [a : Sl w A n zw] [b : Sl w B m xw] [a' : Sl w C n' zx] [b' : Sl w D m' xx] [lx : Le n' c'] (hn : n ≤ 1000000) (hn' : n' ≤ 1000000) {S E : Int} (hE : Hid (goE7 zw xw zx xx S = E)) (h0 : (E != 0) = true) :
    Calls Try.prog 26 #[.agg #[.slice A n c, .slice B m d], .agg #[.slice C n' c', .slice D m' d'], .agg #[.slice F p e, .slice G q e'], .int .i64 S] w (RetGr w [] [] [] [] E) := by
  have CB := @cell_bx
  have CP := @cell_prev
  have FB := @frozen_bx
  rcases h1 : tRightB zw xw with _ | _
  · obtain rfl : E = 20 := by rw [← hE.out, goE7, h1]; rfl
    go_enter Try.func26, Try.ntmps26
    go_upto_region 1 with fail
    obtain ⟨u0, hu0⟩ : ∃ u0 : World, u0 = (((w.alloc (.cells #[.slice A n c, .slice B m d] 34)).alloc (.cells #[.slice C n' c', .slice D m' d'] 34)).alloc (.cells #[.slice F p e, .slice G q e'] 34)).alloc (.cells #[.slice none 0 0, .slice none 0 0, .slice none 0 0, .slice none 0 0] 49) := ⟨_, rfl⟩
    have q1 : Bx u0 w.heap.size 34 #[.slice A n c, .slice B m d] := ⟨by rw [hu0]; exact (((Blk.new _ _ _).alloc _).alloc _).alloc _⟩
    have q2 : Bx u0 (w.heap.size + 1) 34 #[.slice C n' c', .slice D m' d'] := ⟨by rw [hu0]; exact ((Blk.new' _ _ _ (by simp)).alloc _).alloc _⟩
    have q3 : Bx u0 (w.heap.size + 1 + 1) 34 #[.slice F p e, .slice G q e'] := ⟨by rw [hu0]; exact (Blk.new' _ _ _ (by simp)).alloc _⟩
    have q4 : Bx u0 (w.heap.size + 1 + 1 + 1) 49 #[.slice none 0 0, .slice none 0 0, .slice none 0 0, .slice none 0 0] := ⟨by rw [hu0]; exact Blk.new' _ _ _ (by simp)⟩
    have qu : Prev u0 w := ⟨by rw [hu0]; exact bel w _⟩
    rw [← hu0]
    clear hu0
    go_wp2_with (first | (go_at_call 50; (try first | (with_reducible refine gen_boxK3 (fun u _ _ _ _ => ?_)) | (with_reducible refine gen_boxK2 (fun u _ _ _ => ?_)) | (with_reducible refine gen_boxK (fun u _ _ => ?_))); (with_reducible refine (aT_right (by omega)).mono ?_); rintro e u ⟨rfl, _⟩))
    have kR : Bx u (w.heap.size + 1 + 1 + 1) 49 #[.slice none 0 0, .slice none 0 0, .slice none 0 0, .slice none 0 0] := inferInstance
    have k3 := kR.blk.set4 (.slice none 0 0) (.slice none 0 0) (.slice none 0 0) (.slice none 0 0)
    have B3 := bset4 (bel w u) (p := w.heap.size + 1 + 1 + 1) (by omega) (.slice none 0 0) (.slice none 0 0) (.slice none 0 0) (.slice none 0 0)
    have r0 := k3.cell 0
    have r1 := k3.cell 1
    have r2 := k3.cell 2
    have r3 := k3.cell 3
    refine bodyPost_ret (v := .tuple #[.agg #[.slice none 0 0, .slice none 0 0, .slice none 0 0, .slice none 0 0], .int .i64 20]) (by simp [results, Try.results26, go_sem, r0, r1, r2, r3]) rfl ?_
    exact ⟨none, 0, none, 0, none, 0, none, 0, rfl, Sl.empty, Sl.empty, Sl.empty, Sl.empty, ⟨B3⟩⟩
  rcases h2 : tRightB zx xx with _ | _
  · obtain rfl : E = 20 := by rw [← hE.out, goE7, h1, h2]; rfl
    go_enter Try.func26, Try.ntmps26
    go_upto_region 1 with fail
    obtain ⟨u0, hu0⟩ : ∃ u0 : World, u0 = (((w.alloc (.cells #[.slice A n c, .slice B m d] 34)).alloc (.cells #[.slice C n' c', .slice D m' d'] 34)).alloc (.cells #[.slice F p e, .slice G q e'] 34)).alloc (.cells #[.slice none 0 0, .slice none 0 0, .slice none 0 0, .slice none 0 0] 49) := ⟨_, rfl⟩
    have q1 : Bx u0 w.heap.size 34 #[.slice A n c, .slice B m d] := ⟨by rw [hu0]; exact (((Blk.new _ _ _).alloc _).alloc _).alloc _⟩
    have q2 : Bx u0 (w.heap.size + 1) 34 #[.slice C n' c', .slice D m' d'] := ⟨by rw [hu0]; exact ((Blk.new' _ _ _ (by simp)).alloc _).alloc _⟩
    have q3 : Bx u0 (w.heap.size + 1 + 1) 34 #[.slice F p e, .slice G q e'] := ⟨by rw [hu0]; exact (Blk.new' _ _ _ (by simp)).alloc _⟩
    have q4 : Bx u0 (w.heap.size + 1 + 1 + 1) 49 #[.slice none 0 0, .slice none 0 0, .slice none 0 0, .slice none 0 0] := ⟨by rw [hu0]; exact Blk.new' _ _ _ (by simp)⟩
    have qu : Prev u0 w := ⟨by rw [hu0]; exact bel w _⟩
    rw [← hu0]
    clear hu0
    go_wp2_with (first | (go_at_call 50; (try first | (with_reducible refine gen_boxK3 (fun u _ _ _ _ => ?_)) | (with_reducible refine gen_boxK2 (fun u _ _ _ => ?_)) | (with_reducible refine gen_boxK (fun u _ _ => ?_))); (with_reducible refine (aT_right (by omega)).mono ?_); rintro e u ⟨rfl, _⟩))
    have kR : Bx u (w.heap.size + 1 + 1 + 1) 49 #[.slice none 0 0, .slice none 0 0, .slice none 0 0, .slice none 0 0] := inferInstance
    have k3 := kR.blk.set4 (.slice none 0 0) (.slice none 0 0) (.slice none 0 0) (.slice none 0 0)
    have B3 := bset4 (bel w u) (p := w.heap.size + 1 + 1 + 1) (by omega) (.slice none 0 0) (.slice none 0 0) (.slice none 0 0) (.slice none 0 0)
    have r0 := k3.cell 0
    have r1 := k3.cell 1
    have r2 := k3.cell 2
    have r3 := k3.cell 3
    refine bodyPost_ret (v := .tuple #[.agg #[.slice none 0 0, .slice none 0 0, .slice none 0 0, .slice none 0 0], .int .i64 20]) (by simp [results, Try.results26, go_sem, r0, r1, r2, r3]) rfl ?_
    exact ⟨none, 0, none, 0, none, 0, none, 0, rfl, Sl.empty, Sl.empty, Sl.empty, Sl.empty, ⟨B3⟩⟩
  have HE : Hid (cvE zw zx S = E) := Lib.hid (by rw [← hE.out, goE7, h1, h2]; rfl)
  have hV : Hid (cvV zw zx S = []) := Lib.hid (by rw [cvV, HE.out, if_neg (by simpa using h0)])
  go_enter Try.func26, Try.ntmps26
  go_upto_region 1 with fail
  obtain ⟨u0, hu0⟩ : ∃ u0 : World, u0 = (((w.alloc (.cells #[.slice A n c, .slice B m d] 34)).alloc (.cells #[.slice C n' c', .slice D m' d'] 34)).alloc (.cells #[.slice F p e, .slice G q e'] 34)).alloc (.cells #[.slice none 0 0, .slice none 0 0, .slice none 0 0, .slice none 0 0] 49) := ⟨_, rfl⟩
  have q1 : Bx u0 w.heap.size 34 #[.slice A n c, .slice B m d] := ⟨by rw [hu0]; exact (((Blk.new _ _ _).alloc _).alloc _).alloc _⟩
  have q2 : Bx u0 (w.heap.size + 1) 34 #[.slice C n' c', .slice D m' d'] := ⟨by rw [hu0]; exact ((Blk.new' _ _ _ (by simp)).alloc _).alloc _⟩
  have q3 : Bx u0 (w.heap.size + 1 + 1) 34 #[.slice F p e, .slice G q e'] := ⟨by rw [hu0]; exact (Blk.new' _ _ _ (by simp)).alloc _⟩
  have q4 : Bx u0 (w.heap.size + 1 + 1 + 1) 49 #[.slice none 0 0, .slice none 0 0, .slice none 0 0, .slice none 0 0] := ⟨by rw [hu0]; exact Blk.new' _ _ _ (by simp)⟩
  have qu : Prev u0 w := ⟨by rw [hu0]; exact bel w _⟩
  rw [← hu0]
  clear hu0
  go_wp2_with (first | (go_at_call 50; (try first | (with_reducible refine gen_boxK3 (fun u _ _ _ _ => ?_)) | (with_reducible refine gen_boxK2 (fun u _ _ _ => ?_)) | (with_reducible refine gen_boxK (fun u _ _ => ?_))); (with_reducible refine (aT_right (by omega)).mono ?_); rintro e u ⟨rfl, _⟩) | (go_at_call 16; (try first | (with_reducible refine gen_boxK3 (fun u _ _ _ _ => ?_)) | (with_reducible refine gen_boxK2 (fun u _ _ _ => ?_)) | (with_reducible refine gen_boxK (fun u _ _ => ?_))); (with_reducible refine (cv_shape (by omega) (by omega) HE hV).mono ?_); rintro e u ⟨A', c', rfl, sJ, lJ, fJ, _⟩))
  have kR : Bx u (w.heap.size + 1 + 1 + 1) 49 #[.slice none 0 0, .slice none 0 0, .slice none 0 0, .slice none 0 0] := inferInstance
  have k3 := kR.blk.set4 (.slice none 0 0) (.slice none 0 0) (.slice none 0 0) (.slice none 0 0)
  have B3 := bset4 (bel w u) (p := w.heap.size + 1 + 1 + 1) (by omega) (.slice none 0 0) (.slice none 0 0) (.slice none 0 0) (.slice none 0 0)
  have r0 := k3.cell 0
  have r1 := k3.cell 1
  have r2 := k3.cell 2
  have r3 := k3.cell 3
  refine bodyPost_ret (v := .tuple #[.agg #[.slice none 0 0, .slice none 0 0, .slice none 0 0, .slice none 0 0], .int .i64 E]) (by simp [results, Try.results26, go_sem, r0, r1, r2, r3]) rfl ?_
  exact ⟨none, 0, none, 0, none, 0, none, 0, rfl, Sl.empty, Sl.empty, Sl.empty, Sl.empty, ⟨B3⟩⟩
set_option maxRecDepth 100000 in
set_option maxHeartbeats 2000000 in
theorem cv_back_shape [a : Sl w A n zw] [b : Sl w B m xw] [a' : Sl w C n' zx] [b' : Sl w D m' xx] [ag : Sl w F p zg] [bg : Sl w G q xg] [lx : Le n' c'] (hn : n ≤ 1000000) (hn' : n' ≤ 1000000) (hp : p ≤ 1000000) {S : Int} {V : List Int} (hE : Hid (goE7 zw xw zx xx S = 0)) (hV : Hid (cvV zw zx S = V)) (hVl : V.length ≤ 1000000) (h : (tRightB zg xg && decide (zg = V)) = false) :
    Calls Try.prog 26 #[.agg #[.slice A n c, .slice B m d], .agg #[.slice C n' c', .slice D m' d'], .agg #[.slice F p e, .slice G q e'], .int .i64 S] w (RetGr w [] [] [] [] 20) := by
  have CB := @cell_bx
  have CP := @cell_prev
  have FB := @frozen_bx
  obtain ⟨h1, h2, HE⟩ : tRightB zw xw = true ∧ tRightB zx xx = true ∧ Hid (cvE zw zx S = 0) := by
    have := hE.out
    rcases h1 : tRightB zw xw with _ | _
    · rw [goE7, h1] at this; simp at this
    · rcases h2 : tRightB zx xx with _ | _
      · rw [goE7, h1, h2] at this; simp at this
      · rw [goE7, h1, h2] at this; exact ⟨rfl, rfl, Lib.hid this⟩
  rcases h3 : tRightB zg xg with _ | _
  · clear h
    go_enter Try.func26, Try.ntmps26
    go_upto_region 1 with fail
    obtain ⟨u0, hu0⟩ : ∃ u0 : World, u0 = (((w.alloc (.cells #[.slice A n c, .slice B m d] 34)).alloc (.cells #[.slice C n' c', .slice D m' d'] 34)).alloc (.cells #[.slice F p e, .slice G q e'] 34)).alloc (.cells #[.slice none 0 0, .slice none 0 0, .slice none 0 0, .slice none 0 0] 49) := ⟨_, rfl⟩
    have q1 : Bx u0 w.heap.size 34 #[.slice A n c, .slice B m d] := ⟨by rw [hu0]; exact (((Blk.new _ _ _).alloc _).alloc _).alloc _⟩
    have q2 : Bx u0 (w.heap.size + 1) 34 #[.slice C n' c', .slice D m' d'] := ⟨by rw [hu0]; exact ((Blk.new' _ _ _ (by simp)).alloc _).alloc _⟩
    have q3 : Bx u0 (w.heap.size + 1 + 1) 34 #[.slice F p e, .slice G q e'] := ⟨by rw [hu0]; exact (Blk.new' _ _ _ (by simp)).alloc _⟩
    have q4 : Bx u0 (w.heap.size + 1 + 1 + 1) 49 #[.slice none 0 0, .slice none 0 0, .slice none 0 0, .slice none 0 0] := ⟨by rw [hu0]; exact Blk.new' _ _ _ (by simp)⟩
    have qu : Prev u0 w := ⟨by rw [hu0]; exact bel w _⟩
    rw [← hu0]
    clear hu0
    go_wp2_with (first | (go_at_call 50; (try first | (with_reducible refine gen_boxK3 (fun u _ _ _ _ => ?_)) | (with_reducible refine gen_boxK2 (fun u _ _ _ => ?_)) | (with_reducible refine gen_boxK (fun u _ _ => ?_))); (with_reducible refine (aT_right (by omega)).mono ?_); rintro e u ⟨rfl, _⟩) | (go_at_call 16; (try first | (with_reducible refine gen_boxK3 (fun u _ _ _ _ => ?_)) | (with_reducible refine gen_boxK2 (fun u _ _ _ => ?_)) | (with_reducible refine gen_boxK (fun u _ _ => ?_))); (with_reducible refine (cv_shape (by omega) (by omega) HE hV).mono ?_); rintro e u ⟨A', c', rfl, sJ, lJ, fJ, _⟩))
    have kR : Bx u (w.heap.size + 1 + 1 + 1) 49 #[.slice none 0 0, .slice none 0 0, .slice none 0 0, .slice none 0 0] := inferInstance
    have k3 := kR.blk.set4 (.slice none 0 0) (.slice none 0 0) (.slice none 0 0) (.slice none 0 0)
    have B3 := bset4 (bel w u) (p := w.heap.size + 1 + 1 + 1) (by omega) (.slice none 0 0) (.slice none 0 0) (.slice none 0 0) (.slice none 0 0)
    have r0 := k3.cell 0
    have r1 := k3.cell 1
    have r2 := k3.cell 2
    have r3 := k3.cell 3
    refine bodyPost_ret (v := .tuple #[.agg #[.slice none 0 0, .slice none 0 0, .slice none 0 0, .slice none 0 0], .int .i64 20]) (by simp [results, Try.results26, go_sem, r0, r1, r2, r3]) rfl ?_
    exact ⟨none, 0, none, 0, none, 0, none, 0, rfl, Sl.empty, Sl.empty, Sl.empty, Sl.empty, ⟨B3⟩⟩
  · have hs : decide (zg = V) = false := by simpa [h3] using h
    clear h
    go_enter Try.func26, Try.ntmps26
    go_upto_region 1 with fail
    obtain ⟨u0, hu0⟩ : ∃ u0 : World, u0 = (((w.alloc (.cells #[.slice A n c, .slice B m d] 34)).alloc (.cells #[.slice C n' c', .slice D m' d'] 34)).alloc (.cells #[.slice F p e, .slice G q e'] 34)).alloc (.cells #[.slice none 0 0, .slice none 0 0, .slice none 0 0, .slice none 0 0] 49) := ⟨_, rfl⟩
    have q1 : Bx u0 w.heap.size 34 #[.slice A n c, .slice B m d] := ⟨by rw [hu0]; exact (((Blk.new _ _ _).alloc _).alloc _).alloc _⟩
    have q2 : Bx u0 (w.heap.size + 1) 34 #[.slice C n' c', .slice D m' d'] := ⟨by rw [hu0]; exact ((Blk.new' _ _ _ (by simp)).alloc _).alloc _⟩
    have q3 : Bx u0 (w.heap.size + 1 + 1) 34 #[.slice F p e, .slice G q e'] := ⟨by rw [hu0]; exact (Blk.new' _ _ _ (by simp)).alloc _⟩
    have q4 : Bx u0 (w.heap.size + 1 + 1 + 1) 49 #[.slice none 0 0, .slice none 0 0, .slice none 0 0, .slice none 0 0] := ⟨by rw [hu0]; exact Blk.new' _ _ _ (by simp)⟩
    have qu : Prev u0 w := ⟨by rw [hu0]; exact bel w _⟩
    rw [← hu0]
    clear hu0
    go_wp2_with (first | (go_at_call 50; (try first | (with_reducible refine gen_boxK3 (fun u _ _ _ _ => ?_)) | (with_reducible refine gen_boxK2 (fun u _ _ _ => ?_)) | (with_reducible refine gen_boxK (fun u _ _ => ?_))); (with_reducible refine (aT_right (by omega)).mono ?_); rintro e u ⟨rfl, _⟩) | (go_at_call 16; (try first | (with_reducible refine gen_boxK3 (fun u _ _ _ _ => ?_)) | (with_reducible refine gen_boxK2 (fun u _ _ _ => ?_)) | (with_reducible refine gen_boxK (fun u _ _ => ?_))); (with_reducible refine (cv_shape (by omega) (by omega) HE hV).mono ?_); rintro e u ⟨A', c', rfl, sJ, lJ, fJ, _⟩) | (go_at_call 56; (try first | (with_reducible refine gen_boxK3 (fun u _ _ _ _ => ?_)) | (with_reducible refine gen_boxK2 (fun u _ _ _ => ?_)) | (with_reducible refine gen_boxK (fun u _ _ => ?_))); (with_reducible refine (aS_equal (by omega) (by omega)).mono ?_); rintro e u ⟨rfl, _⟩))
    have kR : Bx u (w.heap.size + 1 + 1 + 1) 49 #[.slice none 0 0, .slice none 0 0, .slice none 0 0, .slice none 0 0] := inferInstance
    have k3 := kR.blk.set4 (.slice none 0 0) (.slice none 0 0) (.slice none 0 0) (.slice none 0 0)
    have B3 := bset4 (bel w u) (p := w.heap.size + 1 + 1 + 1) (by omega) (.slice none 0 0) (.slice none 0 0) (.slice none 0 0) (.slice none 0 0)
    have r0 := k3.cell 0
    have r1 := k3.cell 1
    have r2 := k3.cell 2
    have r3 := k3.cell 3
    refine bodyPost_ret (v := .tuple #[.agg #[.slice none 0 0, .slice none 0 0, .slice none 0 0, .slice none 0 0], .int .i64 20]) (by simp [results, Try.results26, go_sem, r0, r1, r2, r3]) rfl ?_
    exact ⟨none, 0, none, 0, none, 0, none, 0, rfl, Sl.empty, Sl.empty, Sl.empty, Sl.empty, ⟨B3⟩⟩
end

end Go.Proofs.Yteibgdcieaiaiaa
