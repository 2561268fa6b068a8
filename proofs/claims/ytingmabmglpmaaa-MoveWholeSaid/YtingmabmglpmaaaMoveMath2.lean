/- Plain law: joining one more; the parts of a join joined again. -/
import Derived.Test.YtingmabmglpmaaaMoveMath
namespace Go.Proofs.Ytingmabmglpmaaa

section
variable {P I nn : Nat} {ts : List Tn} {t : Tn} {xs : List Int}
theorem mvRow_length {j : Nat} (h : P * (xs.length / P) = xs.length) (hj : j < P) : (mvRow P j xs).length = xs.length / P := by
  have h1 : (j + 1) * (xs.length / P) ≤ P * (xs.length / P) := Nat.mul_le_mul_right _ hj
  rw [Nat.succ_mul] at h1
  simp [mvRow]; omega
theorem mvPart_length {j : Nat} (hall : ∀ t ∈ ts, P * (t.xs.length / P) = t.xs.length) (hj : j < P) : (mvPart P j ts ts.length).length = rowS P ts := by
  rw [mvPart, List.take_of_length_le (Nat.le_refl _), rowS]
  induction ts with
  | nil => simp
  | cons t l ih =>
    have := ih fun u hu => hall u (List.mem_cons_of_mem _ hu)
    simp only [List.flatMap_cons, List.length_append, List.map_cons, List.sum_cons, mvRow_length (hall t List.mem_cons_self) hj, this]
theorem mvX_length {i : Nat} (hall : ∀ t ∈ ts, P * (t.xs.length / P) = t.xs.length) (hi : i ≤ P) : (mvX P ts i).length = i * rowS P ts := by
  induction i with
  | zero => simp [mvX]
  | succ i ih => rw [mvX_succ, List.length_append, ih (by omega), mvPart_length hall (by omega), Nat.succ_mul]
theorem mvX_block {i j : Nat} (hall : ∀ t ∈ ts, P * (t.xs.length / P) = t.xs.length) (hi : i ≤ P) (hj : j < i) : ((mvX P ts i).drop (j * rowS P ts)).take (rowS P ts) = mvPart P j ts ts.length := by
  induction i with
  | zero => omega
  | succ i ih =>
    have hl := mvX_length hall (show i ≤ P by omega)
    rw [mvX_succ]
    by_cases hji : j < i
    · have h1 : (j + 1) * rowS P ts ≤ i * rowS P ts := Nat.mul_le_mul_right _ hji
      rw [Nat.succ_mul] at h1
      rw [List.drop_append_of_le_length (by omega), List.take_append_of_le_length (by simp; omega), ih (by omega) hji]
    · obtain rfl : j = i := by omega
      rw [List.drop_append, List.drop_of_length_le (by omega), hl, Nat.sub_self, List.drop_zero, List.nil_append, List.take_of_length_le (by rw [mvPart_length hall (by omega)]; exact Nat.le_refl _)]
/-- One more is joined. -/
theorem mvX_snoc (hall : ∀ t ∈ ts, P * (t.xs.length / P) = t.xs.length) : joinCells (rowS P ts) (t.xs.length / P) (mvX P ts P) t.xs P = mvX P (ts ++ [t]) P := by
  have key : ∀ i, i ≤ P → joinCells (rowS P ts) (t.xs.length / P) (mvX P ts P) t.xs i = mvX P (ts ++ [t]) i := by
    intro i
    induction i with
    | zero => intro _; rfl
    | succ i ih =>
      intro hi
      rw [joinCells_succ, mvX_succ, ih (by omega), mvX_block hall (Nat.le_refl _) (by omega)]
      congr 1
      rw [mvPart, mvPart, List.take_of_length_le (Nat.le_refl _), List.take_of_length_le (Nat.le_refl _)]
      simp [mvRow]
  exact key P (Nat.le_refl _)
/-- One alone is itself. -/
theorem mvX_one (h : P * (t.xs.length / P) = t.xs.length) : mvX P [t] P = t.xs := by
  have key : ∀ i, mvX P [t] i = t.xs.take (i * (t.xs.length / P)) := by
    intro i
    induction i with
    | zero => simp [mvX]
    | succ i ih =>
      rw [mvX_succ, ih, Nat.succ_mul, List.take_add]
      simp [mvPart, mvRow]
  rw [key, h, List.take_of_length_le (Nat.le_refl _)]
theorem rowS_snoc : rowS P (ts ++ [t]) = rowS P ts + t.xs.length / P := by simp [rowS]
theorem JW.div {s : List Int} {Z : Nat} (h : JW nn P I Z s) (hr : tRightB s xs = true) : P * (xs.length / P) = xs.length ∧ xs.length ≤ 65536 := by
  rw [h.row hr, h.cells hr]
  exact ⟨rfl, h.small⟩
/-- What has been joined so far. -/
structure MJ (nn P I : Nat) (us : List Tn) (k : Nat) (S X : List Int) : Prop where
  z : ∃ Z, JW nn P I Z S ∧ Z * I = rowS P (us.take (k + 1))
  x : X = mvX P (us.take (k + 1)) P
end

end Go.Proofs.Ytingmabmglpmaaa
