/- The rows of least costs, as they are filled. -/
import Derived.Test.YtphcffcecncngaaChainMem
namespace Go.Proofs.Ytphcffcecncngaa
open Go.RowKit

section
variable {c : Ch} {cap : Int} {l r j M : Nat}
/-- Split j + 1 has been looked at for all words below M. -/
def Ch.rowM (c : Ch) (cap : Int) (l r j M : Nat) : List Int := (List.range (c.rl cap l)).map fun (i : Nat) => if i < M then c.pv c.V l r (i : Int) (j + 1) else c.pv c.V l r (i : Int) j
theorem Ch.rowM_len : (c.rowM cap l r j M).length = c.rl cap l := by simp [Ch.rowM]
theorem Ch.rowJ_len : (c.rowJ cap l r j).length = c.rl cap l := by simp [Ch.rowJ]
theorem Ch.pv_skip {m : Int} (h : m < c.nd l r (j + 1)) : c.pv c.V l r m (j + 1) = c.pv c.V l r m j := by
  rw [Ch.pv, if_neg (by omega)]
theorem Ch.pv_take {m : Int} (h : c.nd l r (j + 1) ≤ m) : c.pv c.V l r m (j + 1) = min (c.pv c.V l r m j) (c.cs l (j + 1) + c.V (l + j + 1) r (m - c.w (l + j + 1)) + c.V l (l + j + 1) m) := by
  rw [Ch.pv, if_pos h]
theorem Ch.rowM_start (h : (M : Int) ≤ c.nd l r (j + 1)) : c.rowM cap l r j M = c.rowJ cap l r j := by
  unfold Ch.rowM Ch.rowJ
  refine List.map_congr_left fun i _ => ?_
  split
  · exact Ch.pv_skip (by omega)
  · rfl
theorem Ch.rowM_end (h : c.rl cap l ≤ M) : c.rowM cap l r j M = c.rowJ cap l r (j + 1) := by
  unfold Ch.rowM Ch.rowJ
  refine List.map_congr_left fun i hi => ?_
  rw [if_pos (by have := List.mem_range.1 hi; omega)]
/-- A split that needs more than there is. -/
theorem Ch.rowJ_skip (h : (c.rl cap l : Int) ≤ c.nd l r (j + 1)) : c.rowJ cap l r (j + 1) = c.rowJ cap l r j := by
  unfold Ch.rowJ
  refine List.map_congr_left fun i hi => ?_
  exact Ch.pv_skip (by have := List.mem_range.1 hi; omega)
theorem Ch.rowM_at (h : M < c.rl cap l) : (c.rowM cap l r j M)[M]? = some (c.pv c.V l r (M : Int) j) := by simp [Ch.rowM, h]
theorem Ch.rowM_set (h : M < c.rl cap l) : (c.rowM cap l r j M).set M (c.pv c.V l r (M : Int) (j + 1)) = c.rowM cap l r j (M + 1) := by
  apply List.ext_getElem?
  intro i
  rw [List.getElem?_set, Ch.rowM_len]
  by_cases e : M = i
  · subst e
    rw [if_pos rfl, if_pos h]
    simp [Ch.rowM, h]
  · rw [if_neg e]
    by_cases hi : i < c.rl cap l
    · simp only [Ch.rowM, List.getElem?_map, List.getElem?_range hi, Option.map_some]
      congr 1
      by_cases h2 : i < M
      · rw [if_pos h2, if_pos (by omega)]
      · rw [if_neg h2, if_neg (by omega)]
    · rw [List.getElem?_eq_none (by rw [Ch.rowM_len]; omega), List.getElem?_eq_none (by rw [Ch.rowM_len]; omega)]
/-- All splits have been looked at: the row. -/
theorem Ch.rowJ_full (h : l + 1 < r) : c.rowJ cap l r (r - l - 1) = c.row cap l r := by
  unfold Ch.rowJ Ch.row
  refine List.map_congr_left fun i _ => ?_
  rw [Ch.V_more h]
/-- No split yet: there is no way. -/
theorem Ch.rowJ_zero : c.rowJ cap l r 0 = List.replicate (c.rl cap l) 1152921504606846976 := by
  rw [Ch.rowJ]
  apply List.ext_getElem?
  intro i
  by_cases hi : i < c.rl cap l
  · simp [hi, Ch.pv]
  · rw [List.getElem?_eq_none (by simp; omega), List.getElem?_eq_none (by simp; omega)]
/-- A part of one node, looked at for all words below M. -/
def Ch.rowS (c : Ch) (cap : Int) (l M : Nat) : List Int := (List.range (c.rl cap l)).map fun (i : Nat) => if i < M then c.V l (l + 1) (i : Int) else 1152921504606846976
theorem Ch.rowS_len : (c.rowS cap l M).length = c.rl cap l := by simp [Ch.rowS]
theorem Ch.rowS_start (h : (M : Int) ≤ c.single l (l + 1)) : c.rowS cap l M = List.replicate (c.rl cap l) 1152921504606846976 := by
  rw [Ch.rowS]
  apply List.ext_getElem?
  intro i
  by_cases hi : i < c.rl cap l
  · simp only [List.getElem?_map, List.getElem?_range hi, Option.map_some, List.getElem?_replicate, if_pos hi]
    congr 1
    split
    · rw [Ch.V_one, if_neg (by omega)]
    · rfl
  · rw [List.getElem?_eq_none (by simp; omega), List.getElem?_eq_none (by simp; omega)]
theorem Ch.rowS_end (h : c.rl cap l ≤ M) : c.rowS cap l M = c.row cap l (l + 1) := by
  unfold Ch.rowS Ch.row
  refine List.map_congr_left fun i hi => ?_
  rw [if_pos (by have := List.mem_range.1 hi; omega)]
theorem Ch.rowS_none (h : (c.rl cap l : Int) ≤ c.single l (l + 1)) : List.replicate (c.rl cap l) 1152921504606846976 = c.row cap l (l + 1) := by
  rw [← Ch.rowS_start (M := c.rl cap l) h, Ch.rowS_end (Nat.le_refl _)]
theorem Ch.rowS_set (h : M < c.rl cap l) (hs : c.single l (l + 1) ≤ (M : Int)) : (c.rowS cap l M).set M (c.own (l + 1)) = c.rowS cap l (M + 1) := by
  apply List.ext_getElem?
  intro i
  rw [List.getElem?_set, Ch.rowS_len]
  by_cases e : M = i
  · subst e
    rw [if_pos rfl, if_pos h]
    simp only [Ch.rowS, List.getElem?_map, List.getElem?_range h, Option.map_some]
    rw [if_pos (by omega), Ch.V_one, if_pos hs]
  · rw [if_neg e]
    by_cases hi : i < c.rl cap l
    · simp only [Ch.rowS, List.getElem?_map, List.getElem?_range hi, Option.map_some]
      congr 1
      by_cases h2 : i < M
      · rw [if_pos h2, if_pos (by omega)]
      · rw [if_neg h2, if_neg (by omega)]
    · rw [List.getElem?_eq_none (by rw [Ch.rowS_len]; omega), List.getElem?_eq_none (by rw [Ch.rowS_len]; omega)]
end

end Go.Proofs.Ytphcffcecncngaa
