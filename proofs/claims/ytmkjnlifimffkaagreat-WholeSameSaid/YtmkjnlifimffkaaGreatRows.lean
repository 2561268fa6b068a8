/-
  No cell of these rows narrows 'for every input' (looked for: loops, veiled, ifaces, maps, wideKeys, modest, calm, conditions, laid).
  DERIVED. THE GIVEN ROWS OF THIS SEAT. 4 by the template 'for every input the law returns true; each argument reads behind the call as it read before'; 0 by the template 'total and deterministic' (their statements: YtmkjnlifimffkaaGreatTotals.lean).
  GIVEN WITH THE SEED: the statements are not yours to turn. If you find one false, say at which input.
  Laid BY PROGRAM, IN A SANDBOX (cutbox-rows.mjs): the forced cells as the released guide's own fill.sh prints them over the translation 61b7a289f67cc3d5… (all of the seat's roots in one cut). By AI agents, Wed Nov 11 2026. No macro, syntax, notation, axiom, sorry.
-/
import Derived.Test.YtmkjnlifimffkaaGreatChecked
import GoSem.Claim
import GoSem.ClaimJoined
import GoSem.ClaimMapViews
import Derived.JoinedTies
import Derived.KernelRfl
namespace Go.Proofs.YtmkjnlifimffkaaGreat
/- THE CELL 'sum', in the pinned program and in every row, IS THE sha256 OF THE DUMP (.gsa) THAT YtmkjnlifimffkaaGreatProg.lean LOADS. Nothing in Lean hashes anything: it is a label: what it is worth is what the hold of that sum in a sandbox is worth. -/
noncomputable def Tryz.pinned : Pinned := { name := "ytmkjnlifimffkaagreat", sum := "61b7a289f67cc3d5ed9e03ff44b32930fcaa0eb613bb61abfe35a31e24847a4b", checked := Tryz.checked }
namespace Rows
def none {H : Type} : Left H := { results := [], args := [] }

/-- 'athanortop.WholeCosts': WHATEVER THE INPUT: true; the input reads as it did. -/
def wholeCostsSpec : ChangeSpec := { name := "wholeCosts", fn := fun _ => fun
  | [d1, d2] => { results := [.lit (.bool true)], args := [d1, d2] }
  | _ => none }
def wholeCostsRow : OpenClaim := { program := "ytmkjnlifimffkaagreat", sum := "61b7a289f67cc3d5ed9e03ff44b32930fcaa0eb613bb61abfe35a31e24847a4b", func := "athanor/athanortop.WholeCosts", spec := "wholeCosts", inPlace := ["slices.overlaps[int]", "slices.overlaps[athanor/arena.Block]", "slices.overlaps[athanor/table.entry[int, int]]", "slices.overlaps[[]athanor/table.entry[int, int]]"], unfollowed := true, recurses := true, named := ["math/bits.divideError", "math/bits.overflowError"], plainKeys := false, apart := false }
def WholeCostsSaid : Prop := wholeCostsRow.holds Tryz.pinned (OpenSpec.ofChange wholeCostsSpec)

/-- ITS FALSE NEIGHBOUR: 'it returns false'. Refute it at one input. -/
def wholeCostsWrong : ChangeSpec := { name := "wholeCosts", fn := fun _ => fun
  | [d1, d2] => { results := [.lit (.bool false)], args := [d1, d2] }
  | _ => none }
def WholeCostsWrongFalsely : Prop := wholeCostsRow.holds Tryz.pinned (OpenSpec.ofChange wholeCostsWrong)

/-- 'athanortop.WholeFiles': WHATEVER THE INPUT: true; the input reads as it did. -/
def wholeFilesSpec : ChangeSpec := { name := "wholeFiles", fn := fun _ => fun
  | [d] => { results := [.lit (.bool true)], args := [d] }
  | _ => none }
def wholeFilesRow : OpenClaim := { program := "ytmkjnlifimffkaagreat", sum := "61b7a289f67cc3d5ed9e03ff44b32930fcaa0eb613bb61abfe35a31e24847a4b", func := "athanor/athanortop.WholeFiles", spec := "wholeFiles", inPlace := ["slices.overlaps[int]", "slices.overlaps[athanor/arena.Block]", "slices.overlaps[athanor/table.entry[int, int]]", "slices.overlaps[[]athanor/table.entry[int, int]]"], unfollowed := true, recurses := true, named := ["math/bits.divideError", "math/bits.overflowError"], plainKeys := false, apart := false }
def WholeFilesSaid : Prop := wholeFilesRow.holds Tryz.pinned (OpenSpec.ofChange wholeFilesSpec)

/-- ITS FALSE NEIGHBOUR: 'it returns false'. Refute it at one input. -/
def wholeFilesWrong : ChangeSpec := { name := "wholeFiles", fn := fun _ => fun
  | [d] => { results := [.lit (.bool false)], args := [d] }
  | _ => none }
def WholeFilesWrongFalsely : Prop := wholeFilesRow.holds Tryz.pinned (OpenSpec.ofChange wholeFilesWrong)

/-- 'athanortop.WholeSame': WHATEVER THE INPUT: true; the input reads as it did. -/
def wholeSameSpec : ChangeSpec := { name := "wholeSame", fn := fun _ => fun
  | [d] => { results := [.lit (.bool true)], args := [d] }
  | _ => none }
def wholeSameRow : OpenClaim := { program := "ytmkjnlifimffkaagreat", sum := "61b7a289f67cc3d5ed9e03ff44b32930fcaa0eb613bb61abfe35a31e24847a4b", func := "athanor/athanortop.WholeSame", spec := "wholeSame", inPlace := ["slices.overlaps[int]", "slices.overlaps[athanor/arena.Block]", "slices.overlaps[athanor/table.entry[int, int]]", "slices.overlaps[[]athanor/table.entry[int, int]]"], unfollowed := true, recurses := true, named := ["math/bits.divideError", "math/bits.overflowError"], plainKeys := false, apart := false }
def WholeSameSaid : Prop := wholeSameRow.holds Tryz.pinned (OpenSpec.ofChange wholeSameSpec)

/-- ITS FALSE NEIGHBOUR: 'it returns false'. Refute it at one input. -/
def wholeSameWrong : ChangeSpec := { name := "wholeSame", fn := fun _ => fun
  | [d] => { results := [.lit (.bool false)], args := [d] }
  | _ => none }
def WholeSameWrongFalsely : Prop := wholeSameRow.holds Tryz.pinned (OpenSpec.ofChange wholeSameWrong)

/-- 'athanortop.WholePlans': WHATEVER THE INPUT: true; the input reads as it did. -/
def wholePlansSpec : ChangeSpec := { name := "wholePlans", fn := fun _ => fun
  | [d1, d2] => { results := [.lit (.bool true)], args := [d1, d2] }
  | _ => none }
def wholePlansRow : OpenClaim := { program := "ytmkjnlifimffkaagreat", sum := "61b7a289f67cc3d5ed9e03ff44b32930fcaa0eb613bb61abfe35a31e24847a4b", func := "athanor/athanortop.WholePlans", spec := "wholePlans", inPlace := ["slices.overlaps[int]", "slices.overlaps[athanor/arena.Block]", "slices.overlaps[athanor/table.entry[int, int]]", "slices.overlaps[[]athanor/table.entry[int, int]]"], unfollowed := true, recurses := true, named := ["math/bits.divideError", "math/bits.overflowError"], plainKeys := false, apart := false }
def WholePlansSaid : Prop := wholePlansRow.holds Tryz.pinned (OpenSpec.ofChange wholePlansSpec)

/-- ITS FALSE NEIGHBOUR: 'it returns false'. Refute it at one input. -/
def wholePlansWrong : ChangeSpec := { name := "wholePlans", fn := fun _ => fun
  | [d1, d2] => { results := [.lit (.bool false)], args := [d1, d2] }
  | _ => none }
def WholePlansWrongFalsely : Prop := wholePlansRow.holds Tryz.pinned (OpenSpec.ofChange wholePlansWrong)

/- THE SECOND FORM. 'bulk': how many values and letters a reading holds, each counted each time it is reached (what is shared counts as often as it is met; a slice's spare places count too). A statement '..UptoSaid' is the law's where the arguments, and the package variables that the reading takes, are together of bulk at most 1048576: NARROWER than '..Said'. Prove '..Said' where nothing that the law and all that it calls make is longer than what came in: it says more and counts as full. Else prove '..UptoSaid'. A law counts once. -/
mutual
def uptoBulk {H : Type} : DataW H → Nat
  | .lit (.string bytes) => bytes.length + 1
  | .lit _ => 1
  | .nil => 1
  | .ptr d => uptoBulk d + 1
  | .slice elems spare => uptoBulkAll elems + uptoBulkAll spare + 1
  | .agg parts => uptoBulkAll parts + 1
  | .iface _ d => uptoBulk d + 1
  | .map entries => uptoBulkEntries entries + 1
  | .held _ => 1
def uptoBulkAll {H : Type} : List (DataW H) → Nat
  | [] => 0
  | d :: r => uptoBulk d + uptoBulkAll r
def uptoBulkEntries {H : Type} : List (Lit × DataW H) → Nat
  | [] => 0
  | x :: r => uptoBulkEntry x + uptoBulkEntries r
def uptoBulkEntry {H : Type} : Lit × DataW H → Nat
  | (.string bytes, d) => bytes.length + uptoBulk d + 1
  | (_, d) => uptoBulk d + 1
 end
def uptoSmall : (H : Type) → List (DataW H) → Bool := fun _ ds => decide (uptoBulkAll ds ≤ 1048576)
def OpenSpec.upto (s : _root_.Go.ChangeSpec) : _root_.Go.OpenSpec := { _root_.Go.OpenSpec.ofChange s with cond := some uptoSmall }

/-- 'athanortop.WholeCosts', WHERE WHAT IT READS IS OF BULK AT MOST 1048576: true; the input reads as it did. -/
def wholeCostsUptoRow : OpenClaim := { program := "ytmkjnlifimffkaagreat", sum := "61b7a289f67cc3d5ed9e03ff44b32930fcaa0eb613bb61abfe35a31e24847a4b", func := "athanor/athanortop.WholeCosts", spec := "wholeCosts", inPlace := ["slices.overlaps[int]", "slices.overlaps[athanor/arena.Block]", "slices.overlaps[athanor/table.entry[int, int]]", "slices.overlaps[[]athanor/table.entry[int, int]]"], unfollowed := true, recurses := true, named := ["math/bits.divideError", "math/bits.overflowError"], plainKeys := false, apart := false, narrowed := true }
def WholeCostsUptoSaid : Prop := wholeCostsUptoRow.holds Tryz.pinned (OpenSpec.upto wholeCostsSpec)

/-- 'athanortop.WholeFiles', WHERE WHAT IT READS IS OF BULK AT MOST 1048576: true; the input reads as it did. -/
def wholeFilesUptoRow : OpenClaim := { program := "ytmkjnlifimffkaagreat", sum := "61b7a289f67cc3d5ed9e03ff44b32930fcaa0eb613bb61abfe35a31e24847a4b", func := "athanor/athanortop.WholeFiles", spec := "wholeFiles", inPlace := ["slices.overlaps[int]", "slices.overlaps[athanor/arena.Block]", "slices.overlaps[athanor/table.entry[int, int]]", "slices.overlaps[[]athanor/table.entry[int, int]]"], unfollowed := true, recurses := true, named := ["math/bits.divideError", "math/bits.overflowError"], plainKeys := false, apart := false, narrowed := true }
def WholeFilesUptoSaid : Prop := wholeFilesUptoRow.holds Tryz.pinned (OpenSpec.upto wholeFilesSpec)

/-- 'athanortop.WholeSame', WHERE WHAT IT READS IS OF BULK AT MOST 1048576: true; the input reads as it did. -/
def wholeSameUptoRow : OpenClaim := { program := "ytmkjnlifimffkaagreat", sum := "61b7a289f67cc3d5ed9e03ff44b32930fcaa0eb613bb61abfe35a31e24847a4b", func := "athanor/athanortop.WholeSame", spec := "wholeSame", inPlace := ["slices.overlaps[int]", "slices.overlaps[athanor/arena.Block]", "slices.overlaps[athanor/table.entry[int, int]]", "slices.overlaps[[]athanor/table.entry[int, int]]"], unfollowed := true, recurses := true, named := ["math/bits.divideError", "math/bits.overflowError"], plainKeys := false, apart := false, narrowed := true }
def WholeSameUptoSaid : Prop := wholeSameUptoRow.holds Tryz.pinned (OpenSpec.upto wholeSameSpec)

/-- 'athanortop.WholePlans', WHERE WHAT IT READS IS OF BULK AT MOST 1048576: true; the input reads as it did. -/
def wholePlansUptoRow : OpenClaim := { program := "ytmkjnlifimffkaagreat", sum := "61b7a289f67cc3d5ed9e03ff44b32930fcaa0eb613bb61abfe35a31e24847a4b", func := "athanor/athanortop.WholePlans", spec := "wholePlans", inPlace := ["slices.overlaps[int]", "slices.overlaps[athanor/arena.Block]", "slices.overlaps[athanor/table.entry[int, int]]", "slices.overlaps[[]athanor/table.entry[int, int]]"], unfollowed := true, recurses := true, named := ["math/bits.divideError", "math/bits.overflowError"], plainKeys := false, apart := false, narrowed := true }
def WholePlansUptoSaid : Prop := wholePlansUptoRow.holds Tryz.pinned (OpenSpec.upto wholePlansSpec)

end Rows
end Go.Proofs.YtmkjnlifimffkaaGreat
