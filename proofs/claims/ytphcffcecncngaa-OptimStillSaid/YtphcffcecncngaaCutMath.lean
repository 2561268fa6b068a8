/- Plain law: parts of a list, row by row. -/
import Derived.Test.YtphcffcecncngaaShapeMath
namespace Go.Proofs.Ytphcffcecncngaa

/-- Of n rows the cells from lo on, len of them. -/
def cutCells (row lo len : Nat) (xs : List Int) (n : Nat) : List Int := (List.range n).flatMap fun j => (xs.drop (j * row + lo)).take len
theorem cutCells_zero (row lo len : Nat) (xs : List Int) : cutCells row lo len xs 0 = [] := rfl
theorem cutCells_succ (row lo len : Nat) (xs : List Int) (n : Nat) : cutCells row lo len xs (n + 1) = cutCells row lo len xs n ++ (xs.drop (n * row + lo)).take len := by
  simp [cutCells, List.range_succ, List.flatMap_append]
theorem cutCells_length {row lo len : Nat} {xs : List Int} {n : Nat} (h : n * row ≤ xs.length) (hl : lo + len ≤ row) : (cutCells row lo len xs n).length = n * len := by
  induction n with
  | zero => simp [cutCells]
  | succ n ih =>
    have e : (n + 1) * row = n * row + row := Nat.succ_mul n row
    rw [cutCells_succ, List.length_append, ih (by omega)]
    simp only [List.length_take, List.length_drop]
    rw [Nat.succ_mul]
    omega
theorem cutCells_mem {row lo len : Nat} {xs : List Int} {n : Nat} {z : Int} (h : z ∈ cutCells row lo len xs n) : z ∈ xs := by
  simp only [cutCells, List.mem_flatMap] at h
  obtain ⟨j, _, hz⟩ := h
  exact List.mem_of_mem_drop (List.mem_of_mem_take hz)

/-- The sides ahead of one, it, and those behind it. -/
theorem sides_split {zs : List Int} {n : Nat} {z : Int} (hz : zs[n]? = some z) : prodL zs = prodL (zs.take n) * (z * prodL (zs.drop (n + 1))) := by
  have e : zs = zs.take n ++ (z :: zs.drop (n + 1)) := by rw [← drop_at hz, List.take_append_drop]
  conv => lhs; rw [e]
  rw [prodL_append, prodL_cons]
theorem nat_of_pos {x : Int} (h : 1 ≤ x) : ∃ n : Nat, x = (n : Int) ∧ 1 ≤ n := ⟨x.toNat, by omega, by omega⟩
/-- All of a right shape's parts, as natural numbers. -/
theorem sides_nat {zs : List Int} {n : Nat} {z : Int} (hin : inSides zs = true) (hz : zs[n]? = some z) :
    ∃ P Z I : Nat, prodL (zs.take n) = (P : Int) ∧ z = (Z : Int) ∧ prodL (zs.drop (n + 1)) = (I : Int) ∧ 1 ≤ P ∧ 1 ≤ Z ∧ 1 ≤ I ∧ prodL zs = ((P * (Z * I) : Nat) : Int) := by
  have hp : ∀ y ∈ zs, 1 ≤ y := fun y hy => (inSides_mem hin hy).1
  obtain ⟨P, hP, hP1⟩ := nat_of_pos (prodL_pos (l := zs.take n) fun y hy => hp y (List.mem_of_mem_take hy))
  obtain ⟨I, hI, hI1⟩ := nat_of_pos (prodL_pos (l := zs.drop (n + 1)) fun y hy => hp y (List.mem_of_mem_drop hy))
  obtain ⟨Z, hZ, hZ1⟩ := nat_of_pos (hp z (List.mem_of_getElem? hz))
  refine ⟨P, Z, I, hP, hZ, hI, hP1, hZ1, hI1, ?_⟩
  rw [sides_split hz, hP, hI, hZ]
  simp [Int.natCast_mul]
theorem inSides_set {zs : List Int} (h : inSides zs = true) (n : Nat) {v : Int} (h1 : 1 ≤ v) (h2 : v ≤ 1024) : inSides (zs.set n v) = true := by
  refine List.all_eq_true.2 fun y hy => ?_
  rcases List.mem_or_eq_of_mem_set hy with hm | rfl
  · exact List.all_eq_true.1 h y hm
  · simp [h1, h2]
theorem prodL_set {zs : List Int} {n : Nat} (v : Int) (hn : n < zs.length) : prodL (zs.set n v) = prodL (zs.take n) * (v * prodL (zs.drop (n + 1))) := by
  have hz : (zs.set n v)[n]? = some v := by rw [List.getElem?_set_self hn]
  rw [sides_split hz, List.take_set_of_le (Nat.le_refl n), List.drop_set, if_pos (by omega)]
end Go.Proofs.Ytphcffcecncngaa
