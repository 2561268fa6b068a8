/- Plain law: what a convolution adds up, product by product. -/
import Derived.Test.YteibgdcieaiaiaaConvMath
import Derived.Test.YteibgdcieaiaiaaI6
namespace Go.Proofs.Yteibgdcieaiaiaa

def goStep (ws xs L : List Int) (x : Tri) : List Int := L.set x.1 (fadd (L.getD x.1 0) (fmul (ws.getD x.2.1 0) (xs.getD x.2.2 0)))
def goFold (ws xs : List Int) (N : Nat) (pre : List Tri) : List Int := pre.foldl (goStep ws xs) (List.replicate N 0)
def bwStep (gs xs L : List Int) (x : Tri) : List Int := L.set x.2.1 (fadd (L.getD x.2.1 0) (fmul (gs.getD x.1 0) (xs.getD x.2.2 0)))
def bwFold (gs xs : List Int) (N : Nat) (pre : List Tri) : List Int := pre.foldl (bwStep gs xs) (List.replicate N 0)
def bxStep (gs ws L : List Int) (x : Tri) : List Int := L.set x.2.2 (fadd (L.getD x.2.2 0) (fmul (gs.getD x.1 0) (ws.getD x.2.1 0)))
def bxFold (gs ws : List Int) (N : Nat) (pre : List Tri) : List Int := pre.foldl (bxStep gs ws) (List.replicate N 0)
section
variable {us vs L : List Int} {N : Nat} {pre : List Tri} {x : Tri}
theorem goFold_snoc : goFold us vs N (pre ++ [x]) = goStep us vs (goFold us vs N pre) x := by simp [goFold]
theorem bwFold_snoc : bwFold us vs N (pre ++ [x]) = bwStep us vs (bwFold us vs N pre) x := by simp [bwFold]
theorem bxFold_snoc : bxFold us vs N (pre ++ [x]) = bxStep us vs (bxFold us vs N pre) x := by simp [bxFold]
theorem fold_len (f : List Int → Tri → List Int) (h : ∀ L x, (f L x).length = L.length) : ∀ (pre : List Tri) (L : List Int), (pre.foldl f L).length = L.length
  | [], _ => rfl
  | x :: pre, L => by rw [List.foldl_cons, fold_len f h pre, h]
theorem fold_bd (f : List Int → Tri → List Int) (h : ∀ L x, (∀ z ∈ L, I64 z) → ∀ z ∈ f L x, I64 z) : ∀ (pre : List Tri) (L : List Int), (∀ z ∈ L, I64 z) → ∀ z ∈ pre.foldl f L, I64 z
  | [], _, hL => hL
  | x :: pre, L, hL => by rw [List.foldl_cons]; exact fold_bd f h pre _ (h L x hL)
theorem set_bd {L : List Int} {k : Nat} {v : Int} (hL : ∀ z ∈ L, I64 z) (hv : I64 v) : ∀ z ∈ L.set k v, I64 z := fun z hz => by
  rcases List.mem_or_eq_of_mem_set hz with h | rfl
  · exact hL z h
  · exact hv
theorem zeros_bd : ∀ z ∈ List.replicate N (0 : Int), I64 z := fun z hz => by
  obtain ⟨-, rfl⟩ := List.mem_replicate.1 hz
  unfold I64; omega
theorem goFold_len : (goFold us vs N pre).length = N := by rw [goFold, fold_len _ (fun L x => by simp [goStep])]; simp
theorem bwFold_len : (bwFold us vs N pre).length = N := by rw [bwFold, fold_len _ (fun L x => by simp [bwStep])]; simp
theorem bxFold_len : (bxFold us vs N pre).length = N := by rw [bxFold, fold_len _ (fun L x => by simp [bxStep])]; simp
theorem goFold_bd : ∀ z ∈ goFold us vs N pre, I64 z := fold_bd _ (fun _ _ h => set_bd h (fadd_bd _ _)) _ _ zeros_bd
theorem bwFold_bd : ∀ z ∈ bwFold us vs N pre, I64 z := fold_bd _ (fun _ _ h => set_bd h (fadd_bd _ _)) _ _ zeros_bd
theorem bxFold_bd : ∀ z ∈ bxFold us vs N pre, I64 z := fold_bd _ (fun _ _ h => set_bd h (fadd_bd _ _)) _ _ zeros_bd
end

end Go.Proofs.Yteibgdcieaiaiaa
