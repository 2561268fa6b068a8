/- The plain laws of a dense layer: rows, answers, what goes back. -/
import Derived.Test.YteibgdcieaiaiaaFixDot
namespace Go.Proofs.Yteibgdcieaiaiaa

/-- Row i of a weight with rows of n cells. -/
def rowL (n : Nat) (xs : List Int) (i : Nat) : List Int := (xs.drop (i * n)).take n
theorem rowL_length {n i m : Nat} {xs : List Int} (h : xs.length = m * n) (hi : i < m) : (rowL n xs i).length = n := by
  have : i * n + n ≤ m * n := by rw [← Nat.succ_mul]; exact Nat.mul_le_mul_right _ hi
  simp [rowL]; omega
theorem rowL_mem {n i : Nat} {xs : List Int} {z : Int} (h : z ∈ rowL n xs i) : z ∈ xs := List.mem_of_mem_drop (List.mem_of_mem_take h)
theorem rowL_at {n i j : Nat} {xs : List Int} (hj : j < n) : (rowL n xs i)[j]? = xs[i * n + j]? := by
  rw [rowL, List.getElem?_take, if_pos hj, List.getElem?_drop]
/-- The cells of the answer. -/
def goCell (xs ys vs : List Int) (i : Nat) : Int := fadd (fdot ((rowL vs.length xs i).zip vs)) (ys.getD i 0)
def goCells (xs ys vs : List Int) (m : Nat) : List Int := (List.range m).map (goCell xs ys vs)
theorem goCells_length (xs ys vs : List Int) (m : Nat) : (goCells xs ys vs m).length = m := by simp [goCells]
theorem goCells_succ (xs ys vs : List Int) (m : Nat) : goCells xs ys vs (m + 1) = goCells xs ys vs m ++ [goCell xs ys vs m] := by simp [goCells, List.range_succ]
/-- A list under way: the first k are new, the others as they were. -/
def upTo (f : Nat → List Int) (ys : List Int) (k : Nat) : List Int := f k ++ ys.drop k
theorem upTo_at {f : Nat → List Int} {ys : List Int} {k : Nat} {y : Int} (hf : (f k).length = k) (hy : ys[k]? = some y) : (upTo f ys k)[k]? = some y := by
  rw [upTo, List.getElem?_append_right (by omega), hf, Nat.sub_self, List.getElem?_drop]; exact hy
theorem upTo_set {f : Nat → List Int} {ys : List Int} {k : Nat} {y z : Int} (hf : (f k).length = k) (hs : f (k + 1) = f k ++ [z]) (hy : ys[k]? = some y) : (upTo f ys k).set k z = upTo f ys (k + 1) := by
  obtain ⟨hk, _⟩ := List.getElem?_eq_some_iff.1 hy
  rw [upTo, List.set_append_right _ _ (by omega), hf, Nat.sub_self, upTo, hs, List.append_assoc]
  congr 1
  rw [List.drop_eq_getElem_cons hk, List.set_cons_zero]
  rfl
theorem upTo_all {f : Nat → List Int} {ys : List Int} {k : Nat} (hk : ¬ k < ys.length) : upTo f ys k = f k := by
  rw [upTo, List.drop_of_length_le (by omega), List.append_nil]
/-- What goes back to the weight. -/
def backW (gs vs : List Int) : List Int := gs.flatMap fun g => vs.map fun v => fmul g v
theorem backW_length (gs vs : List Int) : (backW gs vs).length = gs.length * vs.length := by
  induction gs with
  | nil => simp [backW]
  | cons g gs ih =>
    rw [backW] at ih
    simp only [backW, List.flatMap_cons, List.length_append, List.length_map, List.length_cons, ih, Nat.succ_mul]
    omega
theorem backW_at {gs vs : List Int} {i j : Nat} {g v : Int} (hg : gs[i]? = some g) (hv : vs[j]? = some v) : (backW gs vs)[i * vs.length + j]? = some (fmul g v) := by
  induction gs generalizing i with
  | nil => simp at hg
  | cons a gs ih =>
    have hj : j < vs.length := (List.getElem?_eq_some_iff.1 hv).1
    simp only [backW, List.flatMap_cons]
    cases i with
    | zero =>
      simp at hg; subst hg
      rw [Nat.zero_mul, Nat.zero_add, List.getElem?_append_left (by simpa using hj), List.getElem?_map, hv]; rfl
    | succ i =>
      simp at hg
      rw [List.getElem?_append_right (by simp [Nat.succ_mul]; omega), List.length_map, show (i + 1) * vs.length + j - vs.length = i * vs.length + j from by rw [Nat.succ_mul]; omega]
      exact ih hg
/-- What goes back to the in: the sum of the first m rows at place j. -/
def accX (n : Nat) (xs gs : List Int) (j m : Nat) : Int := (List.range m).foldl (fun s i => fadd s (fmul (xs.getD (i * n + j) 0) (gs.getD i 0))) 0
theorem accX_succ {n : Nat} {xs gs : List Int} {j m : Nat} {x g : Int} (hx : xs[m * n + j]? = some x) (hg : gs[m]? = some g) : accX n xs gs j (m + 1) = fadd (accX n xs gs j m) (fmul x g) := by
  simp [accX, List.range_succ, List.getD_eq_getElem?_getD, hx, hg]
theorem accX_bd (n : Nat) (xs gs : List Int) (j m : Nat) : I64 (accX n xs gs j m) := by
  cases m with
  | zero => simp [accX, I64]
  | succ m =>
    simp only [accX, List.range_succ, List.foldl_append, List.foldl_cons, List.foldl_nil]
    exact fadd_bd _ _
def backX (n : Nat) (xs gs : List Int) : List Int := (List.range n).map fun j => accX n xs gs j gs.length
def backXTo (n : Nat) (xs gs : List Int) (k j : Nat) : List Int := (List.range n).map fun t => accX n xs gs t (if t < j then k + 1 else k)
theorem backXTo_length (n : Nat) (xs gs : List Int) (k j : Nat) : (backXTo n xs gs k j).length = n := by simp [backXTo]
theorem backXTo_at {n : Nat} {xs gs : List Int} {k j : Nat} (hj : j < n) : (backXTo n xs gs k j)[j]? = some (accX n xs gs j k) := by
  simp [backXTo, hj]
theorem backXTo_set {n : Nat} {xs gs : List Int} {k j : Nat} {x g : Int} (hj : j < n) (hx : xs[k * n + j]? = some x) (hg : gs[k]? = some g) :
    (backXTo n xs gs k j).set j (fadd (accX n xs gs j k) (fmul x g)) = backXTo n xs gs k (j + 1) := by
  apply List.ext_getElem?
  intro i
  rw [List.getElem?_set]
  by_cases hi : j = i
  · subst hi
    simp [backXTo, hj, accX_succ hx hg]
  · rw [if_neg hi]
    simp only [backXTo, List.getElem?_map]
    by_cases hin : i < n
    · simp only [List.getElem?_range hin, Option.map_some]
      by_cases h : i < j
      · rw [if_pos h, if_pos (by omega)]
      · rw [if_neg h, if_neg (by omega)]
    · rw [List.getElem?_eq_none (by simpa using hin)]; rfl
theorem backXTo_row (n : Nat) (xs gs : List Int) (k : Nat) : backXTo n xs gs k n = backXTo n xs gs (k + 1) 0 := by
  apply List.map_congr_left
  intro t ht
  rw [List.mem_range] at ht
  rw [if_pos ht, if_neg (by omega)]
theorem backXTo_zero (n : Nat) (xs gs : List Int) : backXTo n xs gs 0 0 = List.replicate n 0 := by
  rw [List.eq_replicate_iff]
  refine ⟨by simp [backXTo], fun z hz => ?_⟩
  obtain ⟨t, _, rfl⟩ := List.mem_map.1 hz
  simp [accX]
theorem backXTo_end (n : Nat) (xs gs : List Int) : backXTo n xs gs gs.length 0 = backX n xs gs := by simp [backXTo, backX]
theorem take_snoc_at {l : List Int} {p : Nat} {z : Int} (h : l[p]? = some z) : l.take (p + 1) = l.take p ++ [z] := by
  obtain ⟨hp, e⟩ := List.getElem?_eq_some_iff.1 h
  rw [List.take_succ_eq_append_getElem hp, e]
end Go.Proofs.Yteibgdcieaiaiaa
