/-
  No cell of these rows narrows 'for every input' (looked for: loops, veiled, ifaces, maps, wideKeys, modest, calm, conditions, laid).
  DERIVED. THE GIVEN ROWS OF THIS SEAT. 11 by the template 'for every input the law returns true; each argument reads behind the call as it read before'; 0 by the template 'total and deterministic' (their statements: YteibgdcieaiaiaaTotals.lean).
  GIVEN WITH THE SEED: the statements are not yours to turn. If you find one false, say at which input.
  Laid BY PROGRAM, IN A SANDBOX (cutbox-rows.mjs): the forced cells as the released guide's own fill.sh prints them over the translation 11a691d713164c44… (all of the seat's roots in one cut). By AI agents, Wed Nov 11 2026. No macro, syntax, notation, axiom, sorry.
-/
import Derived.Test.YteibgdcieaiaiaaChecked
import GoSem.Claim
import GoSem.ClaimJoined
import GoSem.ClaimMapViews
import Derived.JoinedTies
import Derived.KernelRfl
namespace Go.Proofs.Yteibgdcieaiaiaa
/- THE CELL 'sum', in the pinned program and in every row, IS THE sha256 OF THE DUMP (.gsa) THAT YteibgdcieaiaiaaProg.lean LOADS. Nothing in Lean hashes anything: it is a label: what it is worth is what the hold of that sum in a sandbox is worth. -/
noncomputable def Try.pinned : Pinned := { name := "yteibgdcieaiaiaa", sum := "11a691d713164c44c529ce9af09dba8c4e03fa189d0055c9f21b63f4644d3575", checked := Try.checked }
namespace Rows
def none {H : Type} : Left H := { results := [], args := [] }

/-- 'athanorlaw07.ConvShapes': WHATEVER THE INPUT: true; the input reads as it did. -/
def convShapesSpec : ChangeSpec := { name := "convShapes", fn := fun _ => fun
  | [d1, d2, d3] => { results := [.lit (.bool true)], args := [d1, d2, d3] }
  | _ => none }
def convShapesRow : OpenClaim := { program := "yteibgdcieaiaiaa", sum := "11a691d713164c44c529ce9af09dba8c4e03fa189d0055c9f21b63f4644d3575", func := "athanor/athanorlaw07.ConvShapes", spec := "convShapes", unfollowed := true, recurses := true, apart := false }
def ConvShapesSaid : Prop := convShapesRow.holds Try.pinned (OpenSpec.ofChange convShapesSpec)

/-- ITS FALSE NEIGHBOUR: 'it returns false'. Refute it at one input. -/
def convShapesWrong : ChangeSpec := { name := "convShapes", fn := fun _ => fun
  | [d1, d2, d3] => { results := [.lit (.bool false)], args := [d1, d2, d3] }
  | _ => none }
def ConvShapesWrongFalsely : Prop := convShapesRow.holds Try.pinned (OpenSpec.ofChange convShapesWrong)

/-- 'athanorlaw07.ConvGoes': WHATEVER THE INPUT: true; the input reads as it did. -/
def convGoesSpec : ChangeSpec := { name := "convGoes", fn := fun _ => fun
  | [d] => { results := [.lit (.bool true)], args := [d] }
  | _ => none }
def convGoesRow : OpenClaim := { program := "yteibgdcieaiaiaa", sum := "11a691d713164c44c529ce9af09dba8c4e03fa189d0055c9f21b63f4644d3575", func := "athanor/athanorlaw07.ConvGoes", spec := "convGoes", unfollowed := true, recurses := true, apart := false }
def ConvGoesSaid : Prop := convGoesRow.holds Try.pinned (OpenSpec.ofChange convGoesSpec)

/-- ITS FALSE NEIGHBOUR: 'it returns false'. Refute it at one input. -/
def convGoesWrong : ChangeSpec := { name := "convGoes", fn := fun _ => fun
  | [d] => { results := [.lit (.bool false)], args := [d] }
  | _ => none }
def ConvGoesWrongFalsely : Prop := convGoesRow.holds Try.pinned (OpenSpec.ofChange convGoesWrong)

/-- 'athanorlaw07.ConvBacks': WHATEVER THE INPUT: true; the input reads as it did. -/
def convBacksSpec : ChangeSpec := { name := "convBacks", fn := fun _ => fun
  | [d] => { results := [.lit (.bool true)], args := [d] }
  | _ => none }
def convBacksRow : OpenClaim := { program := "yteibgdcieaiaiaa", sum := "11a691d713164c44c529ce9af09dba8c4e03fa189d0055c9f21b63f4644d3575", func := "athanor/athanorlaw07.ConvBacks", spec := "convBacks", unfollowed := true, recurses := true, apart := false }
def ConvBacksSaid : Prop := convBacksRow.holds Try.pinned (OpenSpec.ofChange convBacksSpec)

/-- ITS FALSE NEIGHBOUR: 'it returns false'. Refute it at one input. -/
def convBacksWrong : ChangeSpec := { name := "convBacks", fn := fun _ => fun
  | [d] => { results := [.lit (.bool false)], args := [d] }
  | _ => none }
def ConvBacksWrongFalsely : Prop := convBacksRow.holds Try.pinned (OpenSpec.ofChange convBacksWrong)

/-- 'athanorlaw07.ConvTouches': WHATEVER THE INPUT: true; the input reads as it did. -/
def convTouchesSpec : ChangeSpec := { name := "convTouches", fn := fun _ => fun
  | [d1, d2, d3] => { results := [.lit (.bool true)], args := [d1, d2, d3] }
  | _ => none }
def convTouchesRow : OpenClaim := { program := "yteibgdcieaiaiaa", sum := "11a691d713164c44c529ce9af09dba8c4e03fa189d0055c9f21b63f4644d3575", func := "athanor/athanorlaw07.ConvTouches", spec := "convTouches", unfollowed := true, recurses := true, apart := false }
def ConvTouchesSaid : Prop := convTouchesRow.holds Try.pinned (OpenSpec.ofChange convTouchesSpec)

/-- ITS FALSE NEIGHBOUR: 'it returns false'. Refute it at one input. -/
def convTouchesWrong : ChangeSpec := { name := "convTouches", fn := fun _ => fun
  | [d1, d2, d3] => { results := [.lit (.bool false)], args := [d1, d2, d3] }
  | _ => none }
def ConvTouchesWrongFalsely : Prop := convTouchesRow.holds Try.pinned (OpenSpec.ofChange convTouchesWrong)

/-- 'athanorlaw07.ConvOnes': WHATEVER THE INPUT: true; the input reads as it did. -/
def convOnesSpec : ChangeSpec := { name := "convOnes", fn := fun _ => fun
  | [d1, d2] => { results := [.lit (.bool true)], args := [d1, d2] }
  | _ => none }
def convOnesRow : OpenClaim := { program := "yteibgdcieaiaiaa", sum := "11a691d713164c44c529ce9af09dba8c4e03fa189d0055c9f21b63f4644d3575", func := "athanor/athanorlaw07.ConvOnes", spec := "convOnes", unfollowed := true, recurses := true, apart := false }
def ConvOnesSaid : Prop := convOnesRow.holds Try.pinned (OpenSpec.ofChange convOnesSpec)

/-- ITS FALSE NEIGHBOUR: 'it returns false'. Refute it at one input. -/
def convOnesWrong : ChangeSpec := { name := "convOnes", fn := fun _ => fun
  | [d1, d2] => { results := [.lit (.bool false)], args := [d1, d2] }
  | _ => none }
def ConvOnesWrongFalsely : Prop := convOnesRow.holds Try.pinned (OpenSpec.ofChange convOnesWrong)

/-- 'athanorlaw08.PoolShapes': WHATEVER THE INPUT: true; the input reads as it did. -/
def poolShapesSpec : ChangeSpec := { name := "poolShapes", fn := fun _ => fun
  | [d1, d2, d3] => { results := [.lit (.bool true)], args := [d1, d2, d3] }
  | _ => none }
def poolShapesRow : OpenClaim := { program := "yteibgdcieaiaiaa", sum := "11a691d713164c44c529ce9af09dba8c4e03fa189d0055c9f21b63f4644d3575", func := "athanor/athanorlaw08.PoolShapes", spec := "poolShapes", unfollowed := true, recurses := true, named := ["math/bits.divideError", "math/bits.overflowError"], apart := false }
def PoolShapesSaid : Prop := poolShapesRow.holds Try.pinned (OpenSpec.ofChange poolShapesSpec)

/-- ITS FALSE NEIGHBOUR: 'it returns false'. Refute it at one input. -/
def poolShapesWrong : ChangeSpec := { name := "poolShapes", fn := fun _ => fun
  | [d1, d2, d3] => { results := [.lit (.bool false)], args := [d1, d2, d3] }
  | _ => none }
def PoolShapesWrongFalsely : Prop := poolShapesRow.holds Try.pinned (OpenSpec.ofChange poolShapesWrong)

/-- 'athanorlaw08.PoolGoes': WHATEVER THE INPUT: true; the input reads as it did. -/
def poolGoesSpec : ChangeSpec := { name := "poolGoes", fn := fun _ => fun
  | [d] => { results := [.lit (.bool true)], args := [d] }
  | _ => none }
def poolGoesRow : OpenClaim := { program := "yteibgdcieaiaiaa", sum := "11a691d713164c44c529ce9af09dba8c4e03fa189d0055c9f21b63f4644d3575", func := "athanor/athanorlaw08.PoolGoes", spec := "poolGoes", unfollowed := true, recurses := true, named := ["math/bits.divideError", "math/bits.overflowError"], apart := false }
def PoolGoesSaid : Prop := poolGoesRow.holds Try.pinned (OpenSpec.ofChange poolGoesSpec)

/-- ITS FALSE NEIGHBOUR: 'it returns false'. Refute it at one input. -/
def poolGoesWrong : ChangeSpec := { name := "poolGoes", fn := fun _ => fun
  | [d] => { results := [.lit (.bool false)], args := [d] }
  | _ => none }
def PoolGoesWrongFalsely : Prop := poolGoesRow.holds Try.pinned (OpenSpec.ofChange poolGoesWrong)

/-- 'athanorlaw08.PoolBacks': WHATEVER THE INPUT: true; the input reads as it did. -/
def poolBacksSpec : ChangeSpec := { name := "poolBacks", fn := fun _ => fun
  | [d] => { results := [.lit (.bool true)], args := [d] }
  | _ => none }
def poolBacksRow : OpenClaim := { program := "yteibgdcieaiaiaa", sum := "11a691d713164c44c529ce9af09dba8c4e03fa189d0055c9f21b63f4644d3575", func := "athanor/athanorlaw08.PoolBacks", spec := "poolBacks", unfollowed := true, recurses := true, named := ["math/bits.divideError", "math/bits.overflowError"], apart := false }
def PoolBacksSaid : Prop := poolBacksRow.holds Try.pinned (OpenSpec.ofChange poolBacksSpec)

/-- ITS FALSE NEIGHBOUR: 'it returns false'. Refute it at one input. -/
def poolBacksWrong : ChangeSpec := { name := "poolBacks", fn := fun _ => fun
  | [d] => { results := [.lit (.bool false)], args := [d] }
  | _ => none }
def PoolBacksWrongFalsely : Prop := poolBacksRow.holds Try.pinned (OpenSpec.ofChange poolBacksWrong)

/-- 'athanorlaw08.PoolBest': WHATEVER THE INPUT: true; the input reads as it did. -/
def poolBestSpec : ChangeSpec := { name := "poolBest", fn := fun _ => fun
  | [d] => { results := [.lit (.bool true)], args := [d] }
  | _ => none }
def poolBestRow : OpenClaim := { program := "yteibgdcieaiaiaa", sum := "11a691d713164c44c529ce9af09dba8c4e03fa189d0055c9f21b63f4644d3575", func := "athanor/athanorlaw08.PoolBest", spec := "poolBest", unfollowed := true, recurses := true, named := ["math/bits.divideError", "math/bits.overflowError"], apart := false }
def PoolBestSaid : Prop := poolBestRow.holds Try.pinned (OpenSpec.ofChange poolBestSpec)

/-- ITS FALSE NEIGHBOUR: 'it returns false'. Refute it at one input. -/
def poolBestWrong : ChangeSpec := { name := "poolBest", fn := fun _ => fun
  | [d] => { results := [.lit (.bool false)], args := [d] }
  | _ => none }
def PoolBestWrongFalsely : Prop := poolBestRow.holds Try.pinned (OpenSpec.ofChange poolBestWrong)

/-- 'athanorlaw08.PoolMore': WHATEVER THE INPUT: true; the input reads as it did. -/
def poolMoreSpec : ChangeSpec := { name := "poolMore", fn := fun _ => fun
  | [d1, d2] => { results := [.lit (.bool true)], args := [d1, d2] }
  | _ => none }
def poolMoreRow : OpenClaim := { program := "yteibgdcieaiaiaa", sum := "11a691d713164c44c529ce9af09dba8c4e03fa189d0055c9f21b63f4644d3575", func := "athanor/athanorlaw08.PoolMore", spec := "poolMore", unfollowed := true, recurses := true, named := ["math/bits.divideError", "math/bits.overflowError"], apart := false }
def PoolMoreSaid : Prop := poolMoreRow.holds Try.pinned (OpenSpec.ofChange poolMoreSpec)

/-- ITS FALSE NEIGHBOUR: 'it returns false'. Refute it at one input. -/
def poolMoreWrong : ChangeSpec := { name := "poolMore", fn := fun _ => fun
  | [d1, d2] => { results := [.lit (.bool false)], args := [d1, d2] }
  | _ => none }
def PoolMoreWrongFalsely : Prop := poolMoreRow.holds Try.pinned (OpenSpec.ofChange poolMoreWrong)

/-- 'athanorlaw08.PoolWhole': WHATEVER THE INPUT: true; the input reads as it did. -/
def poolWholeSpec : ChangeSpec := { name := "poolWhole", fn := fun _ => fun
  | [d1, d2] => { results := [.lit (.bool true)], args := [d1, d2] }
  | _ => none }
def poolWholeRow : OpenClaim := { program := "yteibgdcieaiaiaa", sum := "11a691d713164c44c529ce9af09dba8c4e03fa189d0055c9f21b63f4644d3575", func := "athanor/athanorlaw08.PoolWhole", spec := "poolWhole", unfollowed := true, recurses := true, named := ["math/bits.divideError", "math/bits.overflowError"], apart := false }
def PoolWholeSaid : Prop := poolWholeRow.holds Try.pinned (OpenSpec.ofChange poolWholeSpec)

/-- ITS FALSE NEIGHBOUR: 'it returns false'. Refute it at one input. -/
def poolWholeWrong : ChangeSpec := { name := "poolWhole", fn := fun _ => fun
  | [d1, d2] => { results := [.lit (.bool false)], args := [d1, d2] }
  | _ => none }
def PoolWholeWrongFalsely : Prop := poolWholeRow.holds Try.pinned (OpenSpec.ofChange poolWholeWrong)

/- THE SECOND FORM. 'bulk': how many values and letters a reading holds, each counted each time it is reached (what is shared counts as often as it is met; a slice's spare places count too). A statement '..UptoSaid' is the law's where the arguments, and the package variables that the reading takes, are together of bulk at most 1048576: NARROWER than '..Said'. Prove '..Said' where nothing that the law and all that it calls make is longer than what came in: it says more and counts as full. Else prove '..UptoSaid'. A law counts once. -/
mutual
def uptoBulk {H : Type} : DataW H → Nat
  | .lit (.string bytes) => bytes.length + 1
  | .lit _ => 1
  | .nil => 1
  | .ptr d => uptoBulk d + 1
  | .slice elems spare => uptoBulkAll elems + uptoBulkAll spare + 1
  | .agg parts => uptoBulkAll parts + 1
  | .iface _ d => uptoBulk d + 1
  | .map entries => uptoBulkEntries entries + 1
  | .held _ => 1
def uptoBulkAll {H : Type} : List (DataW H) → Nat
  | [] => 0
  | d :: r => uptoBulk d + uptoBulkAll r
def uptoBulkEntries {H : Type} : List (Lit × DataW H) → Nat
  | [] => 0
  | x :: r => uptoBulkEntry x + uptoBulkEntries r
def uptoBulkEntry {H : Type} : Lit × DataW H → Nat
  | (.string bytes, d) => bytes.length + uptoBulk d + 1
  | (_, d) => uptoBulk d + 1
 end
def uptoSmall : (H : Type) → List (DataW H) → Bool := fun _ ds => decide (uptoBulkAll ds ≤ 1048576)
def OpenSpec.upto (s : _root_.Go.ChangeSpec) : _root_.Go.OpenSpec := { _root_.Go.OpenSpec.ofChange s with cond := some uptoSmall }

/-- 'athanorlaw07.ConvShapes', WHERE WHAT IT READS IS OF BULK AT MOST 1048576: true; the input reads as it did. -/
def convShapesUptoRow : OpenClaim := { program := "yteibgdcieaiaiaa", sum := "11a691d713164c44c529ce9af09dba8c4e03fa189d0055c9f21b63f4644d3575", func := "athanor/athanorlaw07.ConvShapes", spec := "convShapes", unfollowed := true, recurses := true, apart := false, narrowed := true }
def ConvShapesUptoSaid : Prop := convShapesUptoRow.holds Try.pinned (OpenSpec.upto convShapesSpec)

/-- 'athanorlaw07.ConvGoes', WHERE WHAT IT READS IS OF BULK AT MOST 1048576: true; the input reads as it did. -/
def convGoesUptoRow : OpenClaim := { program := "yteibgdcieaiaiaa", sum := "11a691d713164c44c529ce9af09dba8c4e03fa189d0055c9f21b63f4644d3575", func := "athanor/athanorlaw07.ConvGoes", spec := "convGoes", unfollowed := true, recurses := true, apart := false, narrowed := true }
def ConvGoesUptoSaid : Prop := convGoesUptoRow.holds Try.pinned (OpenSpec.upto convGoesSpec)

/-- 'athanorlaw07.ConvBacks', WHERE WHAT IT READS IS OF BULK AT MOST 1048576: true; the input reads as it did. -/
def convBacksUptoRow : OpenClaim := { program := "yteibgdcieaiaiaa", sum := "11a691d713164c44c529ce9af09dba8c4e03fa189d0055c9f21b63f4644d3575", func := "athanor/athanorlaw07.ConvBacks", spec := "convBacks", unfollowed := true, recurses := true, apart := false, narrowed := true }
def ConvBacksUptoSaid : Prop := convBacksUptoRow.holds Try.pinned (OpenSpec.upto convBacksSpec)

/-- 'athanorlaw07.ConvTouches', WHERE WHAT IT READS IS OF BULK AT MOST 1048576: true; the input reads as it did. -/
def convTouchesUptoRow : OpenClaim := { program := "yteibgdcieaiaiaa", sum := "11a691d713164c44c529ce9af09dba8c4e03fa189d0055c9f21b63f4644d3575", func := "athanor/athanorlaw07.ConvTouches", spec := "convTouches", unfollowed := true, recurses := true, apart := false, narrowed := true }
def ConvTouchesUptoSaid : Prop := convTouchesUptoRow.holds Try.pinned (OpenSpec.upto convTouchesSpec)

/-- 'athanorlaw07.ConvOnes', WHERE WHAT IT READS IS OF BULK AT MOST 1048576: true; the input reads as it did. -/
def convOnesUptoRow : OpenClaim := { program := "yteibgdcieaiaiaa", sum := "11a691d713164c44c529ce9af09dba8c4e03fa189d0055c9f21b63f4644d3575", func := "athanor/athanorlaw07.ConvOnes", spec := "convOnes", unfollowed := true, recurses := true, apart := false, narrowed := true }
def ConvOnesUptoSaid : Prop := convOnesUptoRow.holds Try.pinned (OpenSpec.upto convOnesSpec)

/-- 'athanorlaw08.PoolShapes', WHERE WHAT IT READS IS OF BULK AT MOST 1048576: true; the input reads as it did. -/
def poolShapesUptoRow : OpenClaim := { program := "yteibgdcieaiaiaa", sum := "11a691d713164c44c529ce9af09dba8c4e03fa189d0055c9f21b63f4644d3575", func := "athanor/athanorlaw08.PoolShapes", spec := "poolShapes", unfollowed := true, recurses := true, named := ["math/bits.divideError", "math/bits.overflowError"], apart := false, narrowed := true }
def PoolShapesUptoSaid : Prop := poolShapesUptoRow.holds Try.pinned (OpenSpec.upto poolShapesSpec)

/-- 'athanorlaw08.PoolGoes', WHERE WHAT IT READS IS OF BULK AT MOST 1048576: true; the input reads as it did. -/
def poolGoesUptoRow : OpenClaim := { program := "yteibgdcieaiaiaa", sum := "11a691d713164c44c529ce9af09dba8c4e03fa189d0055c9f21b63f4644d3575", func := "athanor/athanorlaw08.PoolGoes", spec := "poolGoes", unfollowed := true, recurses := true, named := ["math/bits.divideError", "math/bits.overflowError"], apart := false, narrowed := true }
def PoolGoesUptoSaid : Prop := poolGoesUptoRow.holds Try.pinned (OpenSpec.upto poolGoesSpec)

/-- 'athanorlaw08.PoolBacks', WHERE WHAT IT READS IS OF BULK AT MOST 1048576: true; the input reads as it did. -/
def poolBacksUptoRow : OpenClaim := { program := "yteibgdcieaiaiaa", sum := "11a691d713164c44c529ce9af09dba8c4e03fa189d0055c9f21b63f4644d3575", func := "athanor/athanorlaw08.PoolBacks", spec := "poolBacks", unfollowed := true, recurses := true, named := ["math/bits.divideError", "math/bits.overflowError"], apart := false, narrowed := true }
def PoolBacksUptoSaid : Prop := poolBacksUptoRow.holds Try.pinned (OpenSpec.upto poolBacksSpec)

/-- 'athanorlaw08.PoolBest', WHERE WHAT IT READS IS OF BULK AT MOST 1048576: true; the input reads as it did. -/
def poolBestUptoRow : OpenClaim := { program := "yteibgdcieaiaiaa", sum := "11a691d713164c44c529ce9af09dba8c4e03fa189d0055c9f21b63f4644d3575", func := "athanor/athanorlaw08.PoolBest", spec := "poolBest", unfollowed := true, recurses := true, named := ["math/bits.divideError", "math/bits.overflowError"], apart := false, narrowed := true }
def PoolBestUptoSaid : Prop := poolBestUptoRow.holds Try.pinned (OpenSpec.upto poolBestSpec)

/-- 'athanorlaw08.PoolMore', WHERE WHAT IT READS IS OF BULK AT MOST 1048576: true; the input reads as it did. -/
def poolMoreUptoRow : OpenClaim := { program := "yteibgdcieaiaiaa", sum := "11a691d713164c44c529ce9af09dba8c4e03fa189d0055c9f21b63f4644d3575", func := "athanor/athanorlaw08.PoolMore", spec := "poolMore", unfollowed := true, recurses := true, named := ["math/bits.divideError", "math/bits.overflowError"], apart := false, narrowed := true }
def PoolMoreUptoSaid : Prop := poolMoreUptoRow.holds Try.pinned (OpenSpec.upto poolMoreSpec)

/-- 'athanorlaw08.PoolWhole', WHERE WHAT IT READS IS OF BULK AT MOST 1048576: true; the input reads as it did. -/
def poolWholeUptoRow : OpenClaim := { program := "yteibgdcieaiaiaa", sum := "11a691d713164c44c529ce9af09dba8c4e03fa189d0055c9f21b63f4644d3575", func := "athanor/athanorlaw08.PoolWhole", spec := "poolWhole", unfollowed := true, recurses := true, named := ["math/bits.divideError", "math/bits.overflowError"], apart := false, narrowed := true }
def PoolWholeUptoSaid : Prop := poolWholeUptoRow.holds Try.pinned (OpenSpec.upto poolWholeSpec)

end Rows
end Go.Proofs.Yteibgdcieaiaiaa
