/- Plain law: a kernel that is one cell, One, changes nothing. -/
import Derived.Test.YteibgdcieaiaiaaConvTouch
import Derived.Test.YteibgdcieaiaiaaConvFold
import Derived.Test.YteibgdcieaiaiaaFixLawMath
namespace Go.Proofs.Yteibgdcieaiaiaa

/-- A kernel of one cell, step 1. -/
structure OneF (f : CF) : Prop where
  O : f.O = 1
  C : f.C = 1
  K : f.K = 1
  L : f.L = 1
  S : f.S = 1
  M : f.M = f.H
  N : f.N = f.W
theorem fm_range_mul {α : Type} (N : Nat) (g : Nat → α) : ∀ M, (List.range M).flatMap (fun i => (List.range N).map fun j => g (i * N + j)) = (List.range (M * N)).map g
  | 0 => by simp
  | M + 1 => by
    rw [fm_succ, fm_range_mul N g M, Nat.succ_mul, List.range_add, List.map_append, List.map_map]
    rfl
theorem all_one {f : CF} (h : OneF f) : f.all = (List.range (f.M * f.N)).map fun k => (k, 0, k) := by
  have hN := h.N
  obtain ⟨O, C, K, L, H, W, M, N, S⟩ := f
  obtain ⟨rfl, rfl, rfl, rfl, rfl, h1, h2⟩ := h
  simp only at h1 h2 hN
  subst h1 h2
  rw [← fm_range_mul N (fun k => (k, 0, k)) M]
  have e : ∀ i j, CF.cT ⟨1, 1, 1, 1, M, N, M, N, 1⟩ 0 i j = [(i * N + j, 0, i * N + j)] := fun i j => by
    simp [CF.cT, CF.qT, CF.tT, CF.uT, CF.tri, CF.place, CF.wt, CF.frm]
  rw [CF.all, CF.pT, fm_succ, fm_zero, List.nil_append, CF.iT]
  congr 1
  funext i
  rw [CF.jT]
  simp only [e]
  rw [← List.map_eq_flatMap]
theorem fadd_0 {y : Int} (h : I64 y) : fadd 0 y = y := by
  unfold I64 at h
  unfold fadd clampI
  rw [if_neg (by omega), if_neg (by omega)]
  omega
theorem fold_one {ys : List Int} (hy : ∀ z ∈ ys, I64 z) {v : Nat → Int} (hv : ∀ q, q < ys.length → v q = ys.getD q 0) : ∀ k, k ≤ ys.length →
    (List.range k).foldl (fun L q => L.set q (fadd (L.getD q 0) (v q))) (List.replicate ys.length 0) = ys.take k ++ List.replicate (ys.length - k) 0
  | 0, _ => by simp
  | k + 1, hk => by
    have hy' : ys[k]? = some ys[k] := List.getElem?_eq_getElem (by omega)
    have hv' : v k = ys[k] := by rw [hv k (by omega), List.getD_eq_getElem?_getD, hy']; rfl
    rw [List.range_succ, List.foldl_append, fold_one hy hv k (by omega)]
    simp only [List.foldl_cons, List.foldl_nil]
    have h0 : (ys.take k ++ List.replicate (ys.length - k) 0).getD k 0 = 0 := by
      rw [List.getD_eq_getElem?_getD, List.getElem?_append_right (by simp; omega), List.getElem?_replicate]
      split <;> rfl
    rw [h0, hv', fadd_0 (hy _ (List.getElem_mem _)), List.set_append_right _ _ (by simp; omega), take_at hy', List.append_assoc]
    congr 1
    rw [show k - (ys.take k).length = 0 from by simp; omega, show ys.length - k = ys.length - (k + 1) + 1 from by omega, List.replicate_succ]
    rfl
theorem goFold_one {f : CF} (h : OneF f) {xs : List Int} (hx : ∀ z ∈ xs, I64 z) (hn : xs.length = f.M * f.N) : goFold [4294967296] xs xs.length f.all = xs := by
  rw [all_one h, goFold, List.foldl_map, ← hn]
  have := fold_one hx (v := fun q => fmul 4294967296 (xs.getD q 0)) (fun q hq => by
    rw [fmul_comm, fmul_one]
    rw [List.getD_eq_getElem?_getD, List.getElem?_eq_getElem hq]
    exact hx _ (List.getElem_mem _)) xs.length (Nat.le_refl _)
  rw [List.take_length, Nat.sub_self, List.replicate_zero, List.append_nil] at this
  exact this
theorem bxFold_one {f : CF} (h : OneF f) {gs : List Int} (hx : ∀ z ∈ gs, I64 z) (hn : gs.length = f.M * f.N) : bxFold gs [4294967296] gs.length f.all = gs := by
  rw [all_one h, bxFold, List.foldl_map, ← hn]
  have := fold_one hx (v := fun q => fmul (gs.getD q 0) 4294967296) (fun q hq => by
    rw [fmul_one]
    rw [List.getD_eq_getElem?_getD, List.getElem?_eq_getElem hq]
    exact hx _ (List.getElem_mem _)) gs.length (Nat.le_refl _)
  rw [List.take_length, Nat.sub_self, List.replicate_zero, List.append_nil] at this
  exact this
theorem win_one {z : Int} (h : 1 ≤ z ∧ z ≤ 1024) : winOk z 1 1 = true ∧ winV z 1 1 = z := by
  have e : winOk z 1 1 = true := by simp [winOk]; omega
  refine ⟨e, ?_⟩
  rw [winV, if_pos e, Int.ediv_one]
  omega
/-- What comes in has a side 1 ahead of one or two others. -/
theorem cv_one {xs ws : List Int} (hr : rightB xs = true) (h2 : 2 ≤ xs.length) (h3 : xs.length ≤ 3) (h1 : xs.getD 0 0 = 1) (hw : ws = List.replicate (xs.length + 1) 1) :
    cvE ws xs 1 = 0 ∧ cvV ws xs 1 = xs ∧ rightB ws = true ∧ prodL ws = 1 ∧ ∃ f, CFof f ws xs xs 1 ∧ OneF f := by
  obtain ⟨_, _, hin, _⟩ := (rightB_iff xs).1 hr
  have hside : ∀ i, i < xs.length → 1 ≤ xs.getD i 0 ∧ xs.getD i 0 ≤ 1024 := fun i hi => by
    rw [List.getD_eq_getElem?_getD, List.getElem?_eq_getElem hi]
    exact inSides_mem hin (List.getElem_mem _)
  have hwd : ∀ i, i ≤ xs.length → ws.getD i 0 = 1 := fun i hi => by
    rw [hw, List.getD_eq_getElem?_getD, List.getElem?_replicate, if_pos (by omega)]; rfl
  have hwr : rightB ws = true ∧ prodL ws = 1 := by
    have : xs.length = 2 ∨ xs.length = 3 := by omega
    rcases this with e | e <;> rw [hw, e] <;> exact ⟨by decide, by decide⟩
  have hpre : cvPre ws xs = true := by
    simp only [cvPre, Bool.and_eq_true, decide_eq_true_eq]
    exact ⟨⟨⟨⟨⟨hwr.1, hr⟩, h2⟩, h3⟩, by rw [hw]; simp⟩, by rw [hwd 1 (by omega), h1]⟩
  have hwin : ∀ i, i < xs.length - 1 → winOk (xs.getD (i + 1) 0) (ws.getD (i + 2) 0) 1 = true ∧ winV (xs.getD (i + 1) 0) (ws.getD (i + 2) 0) 1 = xs.getD (i + 1) 0 := fun i hi => by
    rw [hwd (i + 2) (by omega)]
    exact win_one (hside (i + 1) (by omega))
  have hall : cvAll ws xs 1 = true := cvAll_yes fun i hi => (hwin i hi).1
  have hV0 : cvV0 ws xs 1 = xs := by
    have : xs.length = 2 ∨ xs.length = 3 := by omega
    have e0 : ws.getD 0 0 = xs.getD 0 0 := by rw [hwd 0 (by omega), h1]
    rw [cvV0, e0]
    have a0 := (hwin 0 (by omega)).2
    rcases this with e | e
    · match xs, e with
      | [x, y], _ =>
        simp only [List.length_cons, List.length_nil, cvWins]
        simpa [List.range_succ] using a0
    · have a1 := (hwin 1 (by omega)).2
      match xs, e with
      | [x, y, z], _ =>
        simp only [List.length_cons, List.length_nil, cvWins]
        simp [List.range_succ] at a0 a1 ⊢
        exact ⟨a0, a1⟩
  have hE : cvE ws xs 1 = 0 := by rw [cvE, hpre, hall, hV0, hr]; rfl
  have hV : cvV ws xs 1 = xs := by rw [cvV, if_pos hE, hV0]
  refine ⟨hE, hV, hwr.1, hwr.2, ?_⟩
  obtain ⟨f, hf⟩ := cv_nats hE
  rw [hV] at hf
  refine ⟨f, hf, ?_⟩
  have hS : f.S = 1 := by have := hf.s; omega
  rcases hf.is with ⟨e1, e2, e3, hK, hH, hM⟩ | ⟨e1, e2, e3⟩
  · rw [e1] at hw e3
    simp only [List.length_cons, List.length_nil, List.replicate_succ, List.replicate_zero] at hw
    rw [e2] at hw
    simp only [List.cons.injEq] at hw e3
    exact ⟨by omega, by omega, hK, by omega, hS, by omega, by omega⟩
  · rw [e1] at hw e3
    simp only [List.length_cons, List.length_nil, List.replicate_succ, List.replicate_zero] at hw
    rw [e2] at hw
    simp only [List.cons.injEq] at hw e3
    exact ⟨by omega, by omega, by omega, by omega, hS, by omega, by omega⟩

end Go.Proofs.Yteibgdcieaiaiaa
