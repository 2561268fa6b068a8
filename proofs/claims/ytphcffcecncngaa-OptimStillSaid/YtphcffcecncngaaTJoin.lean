/- The walks of Shape.Join and of tensor.Join where they are joined. -/
import Derived.Test.YtphcffcecncngaaTCut
import Derived.Test.YtphcffcecncngaaJoinMath
namespace Go.Proofs.Ytphcffcecncngaa
open Go.RowKit

theorem restSame_at {zs ts : List Int} {n j : Nat} {z t : Int} (h : restSame zs ts n = true) (hj : j ≠ n) (hz : zs[j]? = some z) (ht : ts[j]? = some t) : z = t := by
  by_cases e : z = t
  · exact e
  · rw [restSame_not hj hz ht e] at h; cases h

def tjoinE (zs xs ts ys : List Int) (side : Int) : Int := if tRightB zs xs && tRightB ts ys then joinE zs ts side else 20

end Go.Proofs.Ytphcffcecncngaa
