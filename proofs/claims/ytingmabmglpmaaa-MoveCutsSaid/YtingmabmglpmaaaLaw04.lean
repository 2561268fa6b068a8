/- The walks of the small functions of the statements on tensors, and of their fixed answer. -/
import Derived.Test.YtingmabmglpmaaaTensor5
namespace Go.Proofs.Ytingmabmglpmaaa
open Go.RowKit

def smallB (zs xs : List Int) : Bool := decide (zs.length ≤ 50) && decide (xs.length ≤ 600)
theorem own_lit4 (w : World) (T : TypeId) (zs : List Int) (cs : Array Value) (h : cs = ints zs) : Own (w.alloc (.cells cs T)) w.heap.size T zs := by subst h; exact Own.new _ _ _

end Go.Proofs.Ytingmabmglpmaaa
