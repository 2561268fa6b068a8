/-
  No cell of these rows narrows 'for every input' (looked for: loops, veiled, ifaces, maps, wideKeys, modest, calm, conditions, laid).
  DERIVED. THE GIVEN ROWS OF THIS SEAT. 10 by the template 'for every input the law returns true; each argument reads behind the call as it read before'; 0 by the template 'total and deterministic' (their statements: YthcdjdhnjbdfeaaTotals.lean).
  GIVEN WITH THE SEED: the statements are not yours to turn. If you find one false, say at which input.
  Laid BY PROGRAM, IN A SANDBOX (cutbox-rows.mjs): the forced cells as the released guide's own fill.sh prints them over the translation 90b6a4f2a8f31584… (all of the seat's roots in one cut). By AI agents, Wed Nov 11 2026. No macro, syntax, notation, axiom, sorry.
-/
import Derived.Test.YthcdjdhnjbdfeaaChecked
import GoSem.Claim
import GoSem.ClaimJoined
import GoSem.ClaimMapViews
import Derived.JoinedTies
import Derived.KernelRfl
namespace Go.Proofs.Ythcdjdhnjbdfeaa
/- THE CELL 'sum', in the pinned program and in every row, IS THE sha256 OF THE DUMP (.gsa) THAT YthcdjdhnjbdfeaaProg.lean LOADS. Nothing in Lean hashes anything: it is a label: what it is worth is what the hold of that sum in a sandbox is worth. -/
noncomputable def Try.pinned : Pinned := { name := "ythcdjdhnjbdfeaa", sum := "90b6a4f2a8f3158491051f9fda012bea990949c30e1b26512368247822b6369d", checked := Try.checked }
namespace Rows
def none {H : Type} : Left H := { results := [], args := [] }

/-- 'athanorlaw04.TensorMakes': WHATEVER THE INPUT: true; the input reads as it did. -/
def tensorMakesSpec : ChangeSpec := { name := "tensorMakes", fn := fun _ => fun
  | [d1, d2] => { results := [.lit (.bool true)], args := [d1, d2] }
  | _ => none }
def tensorMakesRow : OpenClaim := { program := "ythcdjdhnjbdfeaa", sum := "90b6a4f2a8f3158491051f9fda012bea990949c30e1b26512368247822b6369d", func := "athanor/athanorlaw04.TensorMakes", spec := "tensorMakes", unfollowed := true, recurses := true, apart := false }
def TensorMakesSaid : Prop := tensorMakesRow.holds Try.pinned (OpenSpec.ofChange tensorMakesSpec)

/-- ITS FALSE NEIGHBOUR: 'it returns false'. Refute it at one input. -/
def tensorMakesWrong : ChangeSpec := { name := "tensorMakes", fn := fun _ => fun
  | [d1, d2] => { results := [.lit (.bool false)], args := [d1, d2] }
  | _ => none }
def TensorMakesWrongFalsely : Prop := tensorMakesRow.holds Try.pinned (OpenSpec.ofChange tensorMakesWrong)

/-- 'athanorlaw04.TensorCells': WHATEVER THE INPUT: true; the input reads as it did. -/
def tensorCellsSpec : ChangeSpec := { name := "tensorCells", fn := fun _ => fun
  | [d1, d2, d3] => { results := [.lit (.bool true)], args := [d1, d2, d3] }
  | _ => none }
def tensorCellsRow : OpenClaim := { program := "ythcdjdhnjbdfeaa", sum := "90b6a4f2a8f3158491051f9fda012bea990949c30e1b26512368247822b6369d", func := "athanor/athanorlaw04.TensorCells", spec := "tensorCells", unfollowed := true, recurses := true, apart := false }
def TensorCellsSaid : Prop := tensorCellsRow.holds Try.pinned (OpenSpec.ofChange tensorCellsSpec)

/-- ITS FALSE NEIGHBOUR: 'it returns false'. Refute it at one input. -/
def tensorCellsWrong : ChangeSpec := { name := "tensorCells", fn := fun _ => fun
  | [d1, d2, d3] => { results := [.lit (.bool false)], args := [d1, d2, d3] }
  | _ => none }
def TensorCellsWrongFalsely : Prop := tensorCellsRow.holds Try.pinned (OpenSpec.ofChange tensorCellsWrong)

/-- 'athanorlaw04.TensorCuts': WHATEVER THE INPUT: true; the input reads as it did. -/
def tensorCutsSpec : ChangeSpec := { name := "tensorCuts", fn := fun _ => fun
  | [d] => { results := [.lit (.bool true)], args := [d] }
  | _ => none }
def tensorCutsRow : OpenClaim := { program := "ythcdjdhnjbdfeaa", sum := "90b6a4f2a8f3158491051f9fda012bea990949c30e1b26512368247822b6369d", func := "athanor/athanorlaw04.TensorCuts", spec := "tensorCuts", unfollowed := true, recurses := true, apart := false }
def TensorCutsSaid : Prop := tensorCutsRow.holds Try.pinned (OpenSpec.ofChange tensorCutsSpec)

/-- ITS FALSE NEIGHBOUR: 'it returns false'. Refute it at one input. -/
def tensorCutsWrong : ChangeSpec := { name := "tensorCuts", fn := fun _ => fun
  | [d] => { results := [.lit (.bool false)], args := [d] }
  | _ => none }
def TensorCutsWrongFalsely : Prop := tensorCutsRow.holds Try.pinned (OpenSpec.ofChange tensorCutsWrong)

/-- 'athanorlaw06.DenseGoes': WHATEVER THE INPUT: true; the input reads as it did. -/
def denseGoesSpec : ChangeSpec := { name := "denseGoes", fn := fun _ => fun
  | [d] => { results := [.lit (.bool true)], args := [d] }
  | _ => none }
def denseGoesRow : OpenClaim := { program := "ythcdjdhnjbdfeaa", sum := "90b6a4f2a8f3158491051f9fda012bea990949c30e1b26512368247822b6369d", func := "athanor/athanorlaw06.DenseGoes", spec := "denseGoes", unfollowed := true, recurses := true, apart := false }
def DenseGoesSaid : Prop := denseGoesRow.holds Try.pinned (OpenSpec.ofChange denseGoesSpec)

/-- ITS FALSE NEIGHBOUR: 'it returns false'. Refute it at one input. -/
def denseGoesWrong : ChangeSpec := { name := "denseGoes", fn := fun _ => fun
  | [d] => { results := [.lit (.bool false)], args := [d] }
  | _ => none }
def DenseGoesWrongFalsely : Prop := denseGoesRow.holds Try.pinned (OpenSpec.ofChange denseGoesWrong)

/-- 'athanorlaw06.DenseBacks': WHATEVER THE INPUT: true; the input reads as it did. -/
def denseBacksSpec : ChangeSpec := { name := "denseBacks", fn := fun _ => fun
  | [d] => { results := [.lit (.bool true)], args := [d] }
  | _ => none }
def denseBacksRow : OpenClaim := { program := "ythcdjdhnjbdfeaa", sum := "90b6a4f2a8f3158491051f9fda012bea990949c30e1b26512368247822b6369d", func := "athanor/athanorlaw06.DenseBacks", spec := "denseBacks", unfollowed := true, recurses := true, apart := false }
def DenseBacksSaid : Prop := denseBacksRow.holds Try.pinned (OpenSpec.ofChange denseBacksSpec)

/-- ITS FALSE NEIGHBOUR: 'it returns false'. Refute it at one input. -/
def denseBacksWrong : ChangeSpec := { name := "denseBacks", fn := fun _ => fun
  | [d] => { results := [.lit (.bool false)], args := [d] }
  | _ => none }
def DenseBacksWrongFalsely : Prop := denseBacksRow.holds Try.pinned (OpenSpec.ofChange denseBacksWrong)

/-- 'athanorlaw06.DenseNoughts': WHATEVER THE INPUT: true; the input reads as it did. -/
def denseNoughtsSpec : ChangeSpec := { name := "denseNoughts", fn := fun _ => fun
  | [d] => { results := [.lit (.bool true)], args := [d] }
  | _ => none }
def denseNoughtsRow : OpenClaim := { program := "ythcdjdhnjbdfeaa", sum := "90b6a4f2a8f3158491051f9fda012bea990949c30e1b26512368247822b6369d", func := "athanor/athanorlaw06.DenseNoughts", spec := "denseNoughts", unfollowed := true, recurses := true, apart := false }
def DenseNoughtsSaid : Prop := denseNoughtsRow.holds Try.pinned (OpenSpec.ofChange denseNoughtsSpec)

/-- ITS FALSE NEIGHBOUR: 'it returns false'. Refute it at one input. -/
def denseNoughtsWrong : ChangeSpec := { name := "denseNoughts", fn := fun _ => fun
  | [d] => { results := [.lit (.bool false)], args := [d] }
  | _ => none }
def DenseNoughtsWrongFalsely : Prop := denseNoughtsRow.holds Try.pinned (OpenSpec.ofChange denseNoughtsWrong)

/-- 'athanorlaw06.DenseBias': WHATEVER THE INPUT: true; the input reads as it did. -/
def denseBiasSpec : ChangeSpec := { name := "denseBias", fn := fun _ => fun
  | [d1, d2] => { results := [.lit (.bool true)], args := [d1, d2] }
  | _ => none }
def denseBiasRow : OpenClaim := { program := "ythcdjdhnjbdfeaa", sum := "90b6a4f2a8f3158491051f9fda012bea990949c30e1b26512368247822b6369d", func := "athanor/athanorlaw06.DenseBias", spec := "denseBias", unfollowed := true, recurses := true, apart := false }
def DenseBiasSaid : Prop := denseBiasRow.holds Try.pinned (OpenSpec.ofChange denseBiasSpec)

/-- ITS FALSE NEIGHBOUR: 'it returns false'. Refute it at one input. -/
def denseBiasWrong : ChangeSpec := { name := "denseBias", fn := fun _ => fun
  | [d1, d2] => { results := [.lit (.bool false)], args := [d1, d2] }
  | _ => none }
def DenseBiasWrongFalsely : Prop := denseBiasRow.holds Try.pinned (OpenSpec.ofChange denseBiasWrong)

/-- 'athanorlaw06.DenseRows': WHATEVER THE INPUT: true; the input reads as it did. -/
def denseRowsSpec : ChangeSpec := { name := "denseRows", fn := fun _ => fun
  | [d1, d2, d3] => { results := [.lit (.bool true)], args := [d1, d2, d3] }
  | _ => none }
def denseRowsRow : OpenClaim := { program := "ythcdjdhnjbdfeaa", sum := "90b6a4f2a8f3158491051f9fda012bea990949c30e1b26512368247822b6369d", func := "athanor/athanorlaw06.DenseRows", spec := "denseRows", unfollowed := true, recurses := true, apart := false }
def DenseRowsSaid : Prop := denseRowsRow.holds Try.pinned (OpenSpec.ofChange denseRowsSpec)

/-- ITS FALSE NEIGHBOUR: 'it returns false'. Refute it at one input. -/
def denseRowsWrong : ChangeSpec := { name := "denseRows", fn := fun _ => fun
  | [d1, d2, d3] => { results := [.lit (.bool false)], args := [d1, d2, d3] }
  | _ => none }
def DenseRowsWrongFalsely : Prop := denseRowsRow.holds Try.pinned (OpenSpec.ofChange denseRowsWrong)

/-- 'athanorlaw04.TensorSums': WHATEVER THE INPUT: true; the input reads as it did. -/
def tensorSumsSpec : ChangeSpec := { name := "tensorSums", fn := fun _ => fun
  | [d1, d2] => { results := [.lit (.bool true)], args := [d1, d2] }
  | _ => none }
def tensorSumsRow : OpenClaim := { program := "ythcdjdhnjbdfeaa", sum := "90b6a4f2a8f3158491051f9fda012bea990949c30e1b26512368247822b6369d", func := "athanor/athanorlaw04.TensorSums", spec := "tensorSums", unfollowed := true, recurses := true, apart := false }
def TensorSumsSaid : Prop := tensorSumsRow.holds Try.pinned (OpenSpec.ofChange tensorSumsSpec)

/-- ITS FALSE NEIGHBOUR: 'it returns false'. Refute it at one input. -/
def tensorSumsWrong : ChangeSpec := { name := "tensorSums", fn := fun _ => fun
  | [d1, d2] => { results := [.lit (.bool false)], args := [d1, d2] }
  | _ => none }
def TensorSumsWrongFalsely : Prop := tensorSumsRow.holds Try.pinned (OpenSpec.ofChange tensorSumsWrong)

/-- 'athanorlaw04.TensorJoins': WHATEVER THE INPUT: true; the input reads as it did. -/
def tensorJoinsSpec : ChangeSpec := { name := "tensorJoins", fn := fun _ => fun
  | [d] => { results := [.lit (.bool true)], args := [d] }
  | _ => none }
def tensorJoinsRow : OpenClaim := { program := "ythcdjdhnjbdfeaa", sum := "90b6a4f2a8f3158491051f9fda012bea990949c30e1b26512368247822b6369d", func := "athanor/athanorlaw04.TensorJoins", spec := "tensorJoins", unfollowed := true, recurses := true, apart := false }
def TensorJoinsSaid : Prop := tensorJoinsRow.holds Try.pinned (OpenSpec.ofChange tensorJoinsSpec)

/-- ITS FALSE NEIGHBOUR: 'it returns false'. Refute it at one input. -/
def tensorJoinsWrong : ChangeSpec := { name := "tensorJoins", fn := fun _ => fun
  | [d] => { results := [.lit (.bool false)], args := [d] }
  | _ => none }
def TensorJoinsWrongFalsely : Prop := tensorJoinsRow.holds Try.pinned (OpenSpec.ofChange tensorJoinsWrong)

/- THE SECOND FORM. 'bulk': how many values and letters a reading holds, each counted each time it is reached (what is shared counts as often as it is met; a slice's spare places count too). A statement '..UptoSaid' is the law's where the arguments, and the package variables that the reading takes, are together of bulk at most 1048576: NARROWER than '..Said'. Prove '..Said' where nothing that the law and all that it calls make is longer than what came in: it says more and counts as full. Else prove '..UptoSaid'. A law counts once. -/
mutual
def uptoBulk {H : Type} : DataW H → Nat
  | .lit (.string bytes) => bytes.length + 1
  | .lit _ => 1
  | .nil => 1
  | .ptr d => uptoBulk d + 1
  | .slice elems spare => uptoBulkAll elems + uptoBulkAll spare + 1
  | .agg parts => uptoBulkAll parts + 1
  | .iface _ d => uptoBulk d + 1
  | .map entries => uptoBulkEntries entries + 1
  | .held _ => 1
def uptoBulkAll {H : Type} : List (DataW H) → Nat
  | [] => 0
  | d :: r => uptoBulk d + uptoBulkAll r
def uptoBulkEntries {H : Type} : List (Lit × DataW H) → Nat
  | [] => 0
  | x :: r => uptoBulkEntry x + uptoBulkEntries r
def uptoBulkEntry {H : Type} : Lit × DataW H → Nat
  | (.string bytes, d) => bytes.length + uptoBulk d + 1
  | (_, d) => uptoBulk d + 1
 end
def uptoSmall : (H : Type) → List (DataW H) → Bool := fun _ ds => decide (uptoBulkAll ds ≤ 1048576)
def OpenSpec.upto (s : _root_.Go.ChangeSpec) : _root_.Go.OpenSpec := { _root_.Go.OpenSpec.ofChange s with cond := some uptoSmall }

/-- 'athanorlaw04.TensorMakes', WHERE WHAT IT READS IS OF BULK AT MOST 1048576: true; the input reads as it did. -/
def tensorMakesUptoRow : OpenClaim := { program := "ythcdjdhnjbdfeaa", sum := "90b6a4f2a8f3158491051f9fda012bea990949c30e1b26512368247822b6369d", func := "athanor/athanorlaw04.TensorMakes", spec := "tensorMakes", unfollowed := true, recurses := true, apart := false, narrowed := true }
def TensorMakesUptoSaid : Prop := tensorMakesUptoRow.holds Try.pinned (OpenSpec.upto tensorMakesSpec)

/-- 'athanorlaw04.TensorCells', WHERE WHAT IT READS IS OF BULK AT MOST 1048576: true; the input reads as it did. -/
def tensorCellsUptoRow : OpenClaim := { program := "ythcdjdhnjbdfeaa", sum := "90b6a4f2a8f3158491051f9fda012bea990949c30e1b26512368247822b6369d", func := "athanor/athanorlaw04.TensorCells", spec := "tensorCells", unfollowed := true, recurses := true, apart := false, narrowed := true }
def TensorCellsUptoSaid : Prop := tensorCellsUptoRow.holds Try.pinned (OpenSpec.upto tensorCellsSpec)

/-- 'athanorlaw04.TensorCuts', WHERE WHAT IT READS IS OF BULK AT MOST 1048576: true; the input reads as it did. -/
def tensorCutsUptoRow : OpenClaim := { program := "ythcdjdhnjbdfeaa", sum := "90b6a4f2a8f3158491051f9fda012bea990949c30e1b26512368247822b6369d", func := "athanor/athanorlaw04.TensorCuts", spec := "tensorCuts", unfollowed := true, recurses := true, apart := false, narrowed := true }
def TensorCutsUptoSaid : Prop := tensorCutsUptoRow.holds Try.pinned (OpenSpec.upto tensorCutsSpec)

/-- 'athanorlaw06.DenseGoes', WHERE WHAT IT READS IS OF BULK AT MOST 1048576: true; the input reads as it did. -/
def denseGoesUptoRow : OpenClaim := { program := "ythcdjdhnjbdfeaa", sum := "90b6a4f2a8f3158491051f9fda012bea990949c30e1b26512368247822b6369d", func := "athanor/athanorlaw06.DenseGoes", spec := "denseGoes", unfollowed := true, recurses := true, apart := false, narrowed := true }
def DenseGoesUptoSaid : Prop := denseGoesUptoRow.holds Try.pinned (OpenSpec.upto denseGoesSpec)

/-- 'athanorlaw06.DenseBacks', WHERE WHAT IT READS IS OF BULK AT MOST 1048576: true; the input reads as it did. -/
def denseBacksUptoRow : OpenClaim := { program := "ythcdjdhnjbdfeaa", sum := "90b6a4f2a8f3158491051f9fda012bea990949c30e1b26512368247822b6369d", func := "athanor/athanorlaw06.DenseBacks", spec := "denseBacks", unfollowed := true, recurses := true, apart := false, narrowed := true }
def DenseBacksUptoSaid : Prop := denseBacksUptoRow.holds Try.pinned (OpenSpec.upto denseBacksSpec)

/-- 'athanorlaw06.DenseNoughts', WHERE WHAT IT READS IS OF BULK AT MOST 1048576: true; the input reads as it did. -/
def denseNoughtsUptoRow : OpenClaim := { program := "ythcdjdhnjbdfeaa", sum := "90b6a4f2a8f3158491051f9fda012bea990949c30e1b26512368247822b6369d", func := "athanor/athanorlaw06.DenseNoughts", spec := "denseNoughts", unfollowed := true, recurses := true, apart := false, narrowed := true }
def DenseNoughtsUptoSaid : Prop := denseNoughtsUptoRow.holds Try.pinned (OpenSpec.upto denseNoughtsSpec)

/-- 'athanorlaw06.DenseBias', WHERE WHAT IT READS IS OF BULK AT MOST 1048576: true; the input reads as it did. -/
def denseBiasUptoRow : OpenClaim := { program := "ythcdjdhnjbdfeaa", sum := "90b6a4f2a8f3158491051f9fda012bea990949c30e1b26512368247822b6369d", func := "athanor/athanorlaw06.DenseBias", spec := "denseBias", unfollowed := true, recurses := true, apart := false, narrowed := true }
def DenseBiasUptoSaid : Prop := denseBiasUptoRow.holds Try.pinned (OpenSpec.upto denseBiasSpec)

/-- 'athanorlaw06.DenseRows', WHERE WHAT IT READS IS OF BULK AT MOST 1048576: true; the input reads as it did. -/
def denseRowsUptoRow : OpenClaim := { program := "ythcdjdhnjbdfeaa", sum := "90b6a4f2a8f3158491051f9fda012bea990949c30e1b26512368247822b6369d", func := "athanor/athanorlaw06.DenseRows", spec := "denseRows", unfollowed := true, recurses := true, apart := false, narrowed := true }
def DenseRowsUptoSaid : Prop := denseRowsUptoRow.holds Try.pinned (OpenSpec.upto denseRowsSpec)

/-- 'athanorlaw04.TensorSums', WHERE WHAT IT READS IS OF BULK AT MOST 1048576: true; the input reads as it did. -/
def tensorSumsUptoRow : OpenClaim := { program := "ythcdjdhnjbdfeaa", sum := "90b6a4f2a8f3158491051f9fda012bea990949c30e1b26512368247822b6369d", func := "athanor/athanorlaw04.TensorSums", spec := "tensorSums", unfollowed := true, recurses := true, apart := false, narrowed := true }
def TensorSumsUptoSaid : Prop := tensorSumsUptoRow.holds Try.pinned (OpenSpec.upto tensorSumsSpec)

/-- 'athanorlaw04.TensorJoins', WHERE WHAT IT READS IS OF BULK AT MOST 1048576: true; the input reads as it did. -/
def tensorJoinsUptoRow : OpenClaim := { program := "ythcdjdhnjbdfeaa", sum := "90b6a4f2a8f3158491051f9fda012bea990949c30e1b26512368247822b6369d", func := "athanor/athanorlaw04.TensorJoins", spec := "tensorJoins", unfollowed := true, recurses := true, apart := false, narrowed := true }
def TensorJoinsUptoSaid : Prop := tensorJoinsUptoRow.holds Try.pinned (OpenSpec.upto tensorJoinsSpec)

end Rows
end Go.Proofs.Ythcdjdhnjbdfeaa
