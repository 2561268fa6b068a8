/- The walks of package shape: places, indices, cuts and windows. -/
import Derived.Test.YtphcffcecncngaaShape
namespace Go.Proofs.Ytphcffcecncngaa
open Go.RowKit

/-- What 'Place' tells. -/
def placeE (zs ats : List Int) : Int := if rightB zs then (if decide (ats.length = zs.length) && inPlace (zs.zip ats) then 0 else 11) else 20
def placeV (zs ats : List Int) : Int := if rightB zs && decide (ats.length = zs.length) && inPlace (zs.zip ats) then placeOf (zs.zip ats) else 0

theorem take_zip (xs ys : List Int) (k : Nat) : (xs.zip ys).take k = (xs.take k).zip (ys.take k) := by
  induction xs generalizing ys k with
  | nil => simp
  | cons x xs ih => cases ys <;> cases k <;> simp [ih]

theorem placeOf_take_bd {zs ats : List Int} {k : Nat} (h : inPlace ((zs.zip ats).take k) = true) (hk : k ≤ zs.length) (hl : ats.length = zs.length) :
    0 ≤ placeOf ((zs.zip ats).take k) ∧ placeOf ((zs.zip ats).take k) < prodL (zs.take k) := by
  have := placeOf_bd (zs.take k) (ats.take k) (by rw [← take_zip]; exact h) k (by simp; omega) (by simp [hl])
  rw [← take_zip] at this
  simpa [List.take_take] using this

/-- What 'Window' tells. -/
def winOk (a b c : Int) : Bool := decide (1 ≤ a) && decide (a ≤ 1024) && decide (1 ≤ b) && decide (b ≤ 1024) && decide (1 ≤ c) && decide (c ≤ 1024) && decide (b ≤ a)
def winV (a b c : Int) : Int := if winOk a b c then 1 + (a - b) / c else 0
def winE (a b c : Int) : Int := if winOk a b c then 0 else 11

end Go.Proofs.Ytphcffcecncngaa
