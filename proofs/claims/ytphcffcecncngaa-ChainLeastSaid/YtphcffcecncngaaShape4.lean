/- The walk of Shape.Join. -/
import Derived.Test.YtphcffcecncngaaShape3
namespace Go.Proofs.Ytphcffcecncngaa
open Go.RowKit

/-- All sides but one are alike. -/
def restSame (zs ts : List Int) (n : Nat) : Bool := decide (zs.take n = ts.take n) && decide (zs.drop (n + 1) = ts.drop (n + 1))
def joinL (zs ts : List Int) (n : Nat) : List Int := zs.set n (zs.getD n 0 + ts.getD n 0)
def joinE (zs ts : List Int) (side : Int) : Int :=
  if rightB zs && rightB ts && decide (zs.length = ts.length) then
    (if decide (0 ≤ side) && decide (side < zs.length) then (if restSame zs ts side.toNat && rightB (joinL zs ts side.toNat) then 0 else 20) else 11)
  else 20
def joinV (zs ts : List Int) (side : Int) : List Int := if joinE zs ts side = 0 then joinL zs ts side.toNat else []

/-- The shape under way: the side that is joined is joined once it has been passed. -/
def joinTo (zs ts : List Int) (n k : Nat) : List Int := if n < k then joinL zs ts n else zs
/-- What has been met so far is alike. -/
def sameTo (zs ts : List Int) (n k : Nat) : Prop := ∀ j z t, j < k → j ≠ n → zs[j]? = some z → ts[j]? = some t → z = t
theorem restSame_of {zs ts : List Int} {n k : Nat} (hl : zs.length = ts.length) (h : sameTo zs ts n k) (hk : zs.length ≤ k) : restSame zs ts n = true := by
  have key : ∀ j, j ≠ n → zs[j]? = ts[j]? := by
    intro j hj
    by_cases hlt : j < zs.length
    · have h1 := List.getElem?_eq_getElem hlt
      have h2 := List.getElem?_eq_getElem (l := ts) (i := j) (by omega)
      rw [h1, h2, h j _ _ (by omega) hj h1 h2]
    · rw [List.getElem?_eq_none (by omega), List.getElem?_eq_none (by omega)]
  simp only [restSame, Bool.and_eq_true, decide_eq_true_eq]
  constructor
  · apply List.ext_getElem?
    intro j
    rw [List.getElem?_take, List.getElem?_take]
    split
    · exact key j (by omega)
    · rfl
  · apply List.ext_getElem?
    intro j
    rw [List.getElem?_drop, List.getElem?_drop]
    exact key _ (by omega)
theorem restSame_not {zs ts : List Int} {n j : Nat} {z t : Int} (hj : j ≠ n) (hz : zs[j]? = some z) (ht : ts[j]? = some t) (h : z ≠ t) : restSame zs ts n = false := by
  rcases hb : restSame zs ts n with _ | _
  · rfl
  · simp only [restSame, Bool.and_eq_true, decide_eq_true_eq] at hb
    exfalso
    rcases Nat.lt_or_gt_of_ne hj with hlt | hgt
    · have := congrArg (fun l => l[j]?) hb.1
      simp only [List.getElem?_take, if_pos hlt, hz, ht] at this
      injection this with this; exact h this
    · have := congrArg (fun l => l[j - (n + 1)]?) hb.2
      simp only [List.getElem?_drop] at this
      rw [show n + 1 + (j - (n + 1)) = j from by omega, hz, ht] at this
      injection this with this; exact h this
theorem joinTo_length (zs ts : List Int) (n k : Nat) : (joinTo zs ts n k).length = zs.length := by unfold joinTo joinL; split <;> simp
theorem joinTo_at {zs ts : List Int} {n k : Nat} {z : Int} (hk : k ≤ n) (h : zs[n]? = some z) : (joinTo zs ts n k)[n]? = some z := by rw [joinTo, if_neg (by omega)]; exact h
theorem joinTo_here {zs ts : List Int} {n : Nat} {z t : Int} (hz : zs[n]? = some z) (ht : ts[n]? = some t) : (joinTo zs ts n n).set n (z + t) = joinTo zs ts n (n + 1) := by
  rw [joinTo, if_neg (by omega), joinTo, if_pos (by omega), joinL]; simp [List.getD, hz, ht]
theorem joinTo_past {zs ts : List Int} {n k : Nat} (h : k ≠ n) : joinTo zs ts n (k + 1) = joinTo zs ts n k := by
  unfold joinTo
  by_cases h1 : n < k
  · rw [if_pos h1, if_pos (by omega)]
  · rw [if_neg h1, if_neg (by omega)]

end Go.Proofs.Ytphcffcecncngaa
