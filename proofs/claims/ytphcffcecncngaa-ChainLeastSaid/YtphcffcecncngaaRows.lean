/-
  No cell of these rows narrows 'for every input' (looked for: loops, veiled, ifaces, maps, wideKeys, modest, calm, conditions, laid).
  DERIVED. THE GIVEN ROWS OF THIS SEAT. 10 by the template 'for every input the law returns true; each argument reads behind the call as it read before'; 0 by the template 'total and deterministic' (their statements: YtphcffcecncngaaTotals.lean).
  GIVEN WITH THE SEED: the statements are not yours to turn. If you find one false, say at which input.
  Laid BY PROGRAM, IN A SANDBOX (cutbox-rows.mjs): the forced cells as the released guide's own fill.sh prints them over the translation 07064d04228857c7… (all of the seat's roots in one cut). By AI agents, Wed Nov 11 2026. No macro, syntax, notation, axiom, sorry.
-/
import Derived.Test.YtphcffcecncngaaChecked
import GoSem.Claim
import GoSem.ClaimJoined
import GoSem.ClaimMapViews
import Derived.JoinedTies
import Derived.KernelRfl
namespace Go.Proofs.Ytphcffcecncngaa
/- THE CELL 'sum', in the pinned program and in every row, IS THE sha256 OF THE DUMP (.gsa) THAT YtphcffcecncngaaProg.lean LOADS. Nothing in Lean hashes anything: it is a label: what it is worth is what the hold of that sum in a sandbox is worth. -/
noncomputable def Try.pinned : Pinned := { name := "ytphcffcecncngaa", sum := "07064d04228857c777b73ae3ef986188bbb2639fac08fc183f4ed9cdd65ca1d0", checked := Try.checked }
namespace Rows
def none {H : Type} : Left H := { results := [], args := [] }

/-- 'athanorlaw20.ChainPlans': WHATEVER THE INPUT: true; the input reads as it did. -/
def chainPlansSpec : ChangeSpec := { name := "chainPlans", fn := fun _ => fun
  | [d1, d2] => { results := [.lit (.bool true)], args := [d1, d2] }
  | _ => none }
def chainPlansRow : OpenClaim := { program := "ytphcffcecncngaa", sum := "07064d04228857c777b73ae3ef986188bbb2639fac08fc183f4ed9cdd65ca1d0", func := "athanor/athanorlaw20.ChainPlans", spec := "chainPlans", recurses := true, plainKeys := false, apart := false }
def ChainPlansSaid : Prop := chainPlansRow.holds Try.pinned (OpenSpec.ofChange chainPlansSpec)

/-- ITS FALSE NEIGHBOUR: 'it returns false'. Refute it at one input. -/
def chainPlansWrong : ChangeSpec := { name := "chainPlans", fn := fun _ => fun
  | [d1, d2] => { results := [.lit (.bool false)], args := [d1, d2] }
  | _ => none }
def ChainPlansWrongFalsely : Prop := chainPlansRow.holds Try.pinned (OpenSpec.ofChange chainPlansWrong)

/-- 'athanorlaw20.ChainWalks': WHATEVER THE INPUT: true; the input reads as it did. -/
def chainWalksSpec : ChangeSpec := { name := "chainWalks", fn := fun _ => fun
  | [d1, d2, d3] => { results := [.lit (.bool true)], args := [d1, d2, d3] }
  | _ => none }
def chainWalksRow : OpenClaim := { program := "ytphcffcecncngaa", sum := "07064d04228857c777b73ae3ef986188bbb2639fac08fc183f4ed9cdd65ca1d0", func := "athanor/athanorlaw20.ChainWalks", spec := "chainWalks", recurses := true, plainKeys := false, apart := false }
def ChainWalksSaid : Prop := chainWalksRow.holds Try.pinned (OpenSpec.ofChange chainWalksSpec)

/-- ITS FALSE NEIGHBOUR: 'it returns false'. Refute it at one input. -/
def chainWalksWrong : ChangeSpec := { name := "chainWalks", fn := fun _ => fun
  | [d1, d2, d3] => { results := [.lit (.bool false)], args := [d1, d2, d3] }
  | _ => none }
def ChainWalksWrongFalsely : Prop := chainWalksRow.holds Try.pinned (OpenSpec.ofChange chainWalksWrong)

/-- 'athanorlaw20.ChainMore': WHATEVER THE INPUT: true; the input reads as it did. -/
def chainMoreSpec : ChangeSpec := { name := "chainMore", fn := fun _ => fun
  | [d1, d2, d3] => { results := [.lit (.bool true)], args := [d1, d2, d3] }
  | _ => none }
def chainMoreRow : OpenClaim := { program := "ytphcffcecncngaa", sum := "07064d04228857c777b73ae3ef986188bbb2639fac08fc183f4ed9cdd65ca1d0", func := "athanor/athanorlaw20.ChainMore", spec := "chainMore", recurses := true, plainKeys := false, apart := false }
def ChainMoreSaid : Prop := chainMoreRow.holds Try.pinned (OpenSpec.ofChange chainMoreSpec)

/-- ITS FALSE NEIGHBOUR: 'it returns false'. Refute it at one input. -/
def chainMoreWrong : ChangeSpec := { name := "chainMore", fn := fun _ => fun
  | [d1, d2, d3] => { results := [.lit (.bool false)], args := [d1, d2, d3] }
  | _ => none }
def ChainMoreWrongFalsely : Prop := chainMoreRow.holds Try.pinned (OpenSpec.ofChange chainMoreWrong)

/-- 'athanorlaw20.ChainLowest': WHATEVER THE INPUT: true; the input reads as it did. -/
def chainLowestSpec : ChangeSpec := { name := "chainLowest", fn := fun _ => fun
  | [d] => { results := [.lit (.bool true)], args := [d] }
  | _ => none }
def chainLowestRow : OpenClaim := { program := "ytphcffcecncngaa", sum := "07064d04228857c777b73ae3ef986188bbb2639fac08fc183f4ed9cdd65ca1d0", func := "athanor/athanorlaw20.ChainLowest", spec := "chainLowest", recurses := true, plainKeys := false, apart := false }
def ChainLowestSaid : Prop := chainLowestRow.holds Try.pinned (OpenSpec.ofChange chainLowestSpec)

/-- ITS FALSE NEIGHBOUR: 'it returns false'. Refute it at one input. -/
def chainLowestWrong : ChangeSpec := { name := "chainLowest", fn := fun _ => fun
  | [d] => { results := [.lit (.bool false)], args := [d] }
  | _ => none }
def ChainLowestWrongFalsely : Prop := chainLowestRow.holds Try.pinned (OpenSpec.ofChange chainLowestWrong)

/-- 'athanorlaw20.ChainLeast': WHATEVER THE INPUT: true; the input reads as it did. -/
def chainLeastSpec : ChangeSpec := { name := "chainLeast", fn := fun _ => fun
  | [d1, d2] => { results := [.lit (.bool true)], args := [d1, d2] }
  | _ => none }
def chainLeastRow : OpenClaim := { program := "ytphcffcecncngaa", sum := "07064d04228857c777b73ae3ef986188bbb2639fac08fc183f4ed9cdd65ca1d0", func := "athanor/athanorlaw20.ChainLeast", spec := "chainLeast", recurses := true, plainKeys := false, apart := false }
def ChainLeastSaid : Prop := chainLeastRow.holds Try.pinned (OpenSpec.ofChange chainLeastSpec)

/-- ITS FALSE NEIGHBOUR: 'it returns false'. Refute it at one input. -/
def chainLeastWrong : ChangeSpec := { name := "chainLeast", fn := fun _ => fun
  | [d1, d2] => { results := [.lit (.bool false)], args := [d1, d2] }
  | _ => none }
def ChainLeastWrongFalsely : Prop := chainLeastRow.holds Try.pinned (OpenSpec.ofChange chainLeastWrong)

/-- 'athanorlaw24.OptimRates': WHATEVER THE INPUT: true; the input reads as it did. -/
def optimRatesSpec : ChangeSpec := { name := "optimRates", fn := fun _ => fun
  | [d1, d2] => { results := [.lit (.bool true)], args := [d1, d2] }
  | _ => none }
def optimRatesRow : OpenClaim := { program := "ytphcffcecncngaa", sum := "07064d04228857c777b73ae3ef986188bbb2639fac08fc183f4ed9cdd65ca1d0", func := "athanor/athanorlaw24.OptimRates", spec := "optimRates", unfollowed := true, recurses := true, named := ["math/bits.divideError", "math/bits.overflowError"], plainKeys := false, apart := false }
def OptimRatesSaid : Prop := optimRatesRow.holds Try.pinned (OpenSpec.ofChange optimRatesSpec)

/-- ITS FALSE NEIGHBOUR: 'it returns false'. Refute it at one input. -/
def optimRatesWrong : ChangeSpec := { name := "optimRates", fn := fun _ => fun
  | [d1, d2] => { results := [.lit (.bool false)], args := [d1, d2] }
  | _ => none }
def OptimRatesWrongFalsely : Prop := optimRatesRow.holds Try.pinned (OpenSpec.ofChange optimRatesWrong)

/-- 'athanorlaw24.OptimMeans': WHATEVER THE INPUT: true; the input reads as it did. -/
def optimMeansSpec : ChangeSpec := { name := "optimMeans", fn := fun _ => fun
  | [d] => { results := [.lit (.bool true)], args := [d] }
  | _ => none }
def optimMeansRow : OpenClaim := { program := "ytphcffcecncngaa", sum := "07064d04228857c777b73ae3ef986188bbb2639fac08fc183f4ed9cdd65ca1d0", func := "athanor/athanorlaw24.OptimMeans", spec := "optimMeans", unfollowed := true, recurses := true, named := ["math/bits.divideError", "math/bits.overflowError"], plainKeys := false, apart := false }
def OptimMeansSaid : Prop := optimMeansRow.holds Try.pinned (OpenSpec.ofChange optimMeansSpec)

/-- ITS FALSE NEIGHBOUR: 'it returns false'. Refute it at one input. -/
def optimMeansWrong : ChangeSpec := { name := "optimMeans", fn := fun _ => fun
  | [d] => { results := [.lit (.bool false)], args := [d] }
  | _ => none }
def OptimMeansWrongFalsely : Prop := optimMeansRow.holds Try.pinned (OpenSpec.ofChange optimMeansWrong)

/-- 'athanorlaw24.OptimSteps': WHATEVER THE INPUT: true; the input reads as it did. -/
def optimStepsSpec : ChangeSpec := { name := "optimSteps", fn := fun _ => fun
  | [d] => { results := [.lit (.bool true)], args := [d] }
  | _ => none }
def optimStepsRow : OpenClaim := { program := "ytphcffcecncngaa", sum := "07064d04228857c777b73ae3ef986188bbb2639fac08fc183f4ed9cdd65ca1d0", func := "athanor/athanorlaw24.OptimSteps", spec := "optimSteps", unfollowed := true, recurses := true, named := ["math/bits.divideError", "math/bits.overflowError"], plainKeys := false, apart := false }
def OptimStepsSaid : Prop := optimStepsRow.holds Try.pinned (OpenSpec.ofChange optimStepsSpec)

/-- ITS FALSE NEIGHBOUR: 'it returns false'. Refute it at one input. -/
def optimStepsWrong : ChangeSpec := { name := "optimSteps", fn := fun _ => fun
  | [d] => { results := [.lit (.bool false)], args := [d] }
  | _ => none }
def OptimStepsWrongFalsely : Prop := optimStepsRow.holds Try.pinned (OpenSpec.ofChange optimStepsWrong)

/-- 'athanorlaw24.OptimBegins': WHATEVER THE INPUT: true; the input reads as it did. -/
def optimBeginsSpec : ChangeSpec := { name := "optimBegins", fn := fun _ => fun
  | [d] => { results := [.lit (.bool true)], args := [d] }
  | _ => none }
def optimBeginsRow : OpenClaim := { program := "ytphcffcecncngaa", sum := "07064d04228857c777b73ae3ef986188bbb2639fac08fc183f4ed9cdd65ca1d0", func := "athanor/athanorlaw24.OptimBegins", spec := "optimBegins", unfollowed := true, recurses := true, named := ["math/bits.divideError", "math/bits.overflowError"], plainKeys := false, apart := false }
def OptimBeginsSaid : Prop := optimBeginsRow.holds Try.pinned (OpenSpec.ofChange optimBeginsSpec)

/-- ITS FALSE NEIGHBOUR: 'it returns false'. Refute it at one input. -/
def optimBeginsWrong : ChangeSpec := { name := "optimBegins", fn := fun _ => fun
  | [d] => { results := [.lit (.bool false)], args := [d] }
  | _ => none }
def OptimBeginsWrongFalsely : Prop := optimBeginsRow.holds Try.pinned (OpenSpec.ofChange optimBeginsWrong)

/-- 'athanorlaw24.OptimStill': WHATEVER THE INPUT: true; the input reads as it did. -/
def optimStillSpec : ChangeSpec := { name := "optimStill", fn := fun _ => fun
  | [d] => { results := [.lit (.bool true)], args := [d] }
  | _ => none }
def optimStillRow : OpenClaim := { program := "ytphcffcecncngaa", sum := "07064d04228857c777b73ae3ef986188bbb2639fac08fc183f4ed9cdd65ca1d0", func := "athanor/athanorlaw24.OptimStill", spec := "optimStill", unfollowed := true, recurses := true, named := ["math/bits.divideError", "math/bits.overflowError"], plainKeys := false, apart := false }
def OptimStillSaid : Prop := optimStillRow.holds Try.pinned (OpenSpec.ofChange optimStillSpec)

/-- ITS FALSE NEIGHBOUR: 'it returns false'. Refute it at one input. -/
def optimStillWrong : ChangeSpec := { name := "optimStill", fn := fun _ => fun
  | [d] => { results := [.lit (.bool false)], args := [d] }
  | _ => none }
def OptimStillWrongFalsely : Prop := optimStillRow.holds Try.pinned (OpenSpec.ofChange optimStillWrong)

/- THE SECOND FORM. 'bulk': how many values and letters a reading holds, each counted each time it is reached (what is shared counts as often as it is met; a slice's spare places count too). A statement '..UptoSaid' is the law's where the arguments, and the package variables that the reading takes, are together of bulk at most 1048576: NARROWER than '..Said'. Prove '..Said' where nothing that the law and all that it calls make is longer than what came in: it says more and counts as full. Else prove '..UptoSaid'. A law counts once. -/
mutual
def uptoBulk {H : Type} : DataW H → Nat
  | .lit (.string bytes) => bytes.length + 1
  | .lit _ => 1
  | .nil => 1
  | .ptr d => uptoBulk d + 1
  | .slice elems spare => uptoBulkAll elems + uptoBulkAll spare + 1
  | .agg parts => uptoBulkAll parts + 1
  | .iface _ d => uptoBulk d + 1
  | .map entries => uptoBulkEntries entries + 1
  | .held _ => 1
def uptoBulkAll {H : Type} : List (DataW H) → Nat
  | [] => 0
  | d :: r => uptoBulk d + uptoBulkAll r
def uptoBulkEntries {H : Type} : List (Lit × DataW H) → Nat
  | [] => 0
  | x :: r => uptoBulkEntry x + uptoBulkEntries r
def uptoBulkEntry {H : Type} : Lit × DataW H → Nat
  | (.string bytes, d) => bytes.length + uptoBulk d + 1
  | (_, d) => uptoBulk d + 1
 end
def uptoSmall : (H : Type) → List (DataW H) → Bool := fun _ ds => decide (uptoBulkAll ds ≤ 1048576)
def OpenSpec.upto (s : _root_.Go.ChangeSpec) : _root_.Go.OpenSpec := { _root_.Go.OpenSpec.ofChange s with cond := some uptoSmall }

/-- 'athanorlaw20.ChainPlans', WHERE WHAT IT READS IS OF BULK AT MOST 1048576: true; the input reads as it did. -/
def chainPlansUptoRow : OpenClaim := { program := "ytphcffcecncngaa", sum := "07064d04228857c777b73ae3ef986188bbb2639fac08fc183f4ed9cdd65ca1d0", func := "athanor/athanorlaw20.ChainPlans", spec := "chainPlans", recurses := true, plainKeys := false, apart := false, narrowed := true }
def ChainPlansUptoSaid : Prop := chainPlansUptoRow.holds Try.pinned (OpenSpec.upto chainPlansSpec)

/-- 'athanorlaw20.ChainWalks', WHERE WHAT IT READS IS OF BULK AT MOST 1048576: true; the input reads as it did. -/
def chainWalksUptoRow : OpenClaim := { program := "ytphcffcecncngaa", sum := "07064d04228857c777b73ae3ef986188bbb2639fac08fc183f4ed9cdd65ca1d0", func := "athanor/athanorlaw20.ChainWalks", spec := "chainWalks", recurses := true, plainKeys := false, apart := false, narrowed := true }
def ChainWalksUptoSaid : Prop := chainWalksUptoRow.holds Try.pinned (OpenSpec.upto chainWalksSpec)

/-- 'athanorlaw20.ChainMore', WHERE WHAT IT READS IS OF BULK AT MOST 1048576: true; the input reads as it did. -/
def chainMoreUptoRow : OpenClaim := { program := "ytphcffcecncngaa", sum := "07064d04228857c777b73ae3ef986188bbb2639fac08fc183f4ed9cdd65ca1d0", func := "athanor/athanorlaw20.ChainMore", spec := "chainMore", recurses := true, plainKeys := false, apart := false, narrowed := true }
def ChainMoreUptoSaid : Prop := chainMoreUptoRow.holds Try.pinned (OpenSpec.upto chainMoreSpec)

/-- 'athanorlaw20.ChainLowest', WHERE WHAT IT READS IS OF BULK AT MOST 1048576: true; the input reads as it did. -/
def chainLowestUptoRow : OpenClaim := { program := "ytphcffcecncngaa", sum := "07064d04228857c777b73ae3ef986188bbb2639fac08fc183f4ed9cdd65ca1d0", func := "athanor/athanorlaw20.ChainLowest", spec := "chainLowest", recurses := true, plainKeys := false, apart := false, narrowed := true }
def ChainLowestUptoSaid : Prop := chainLowestUptoRow.holds Try.pinned (OpenSpec.upto chainLowestSpec)

/-- 'athanorlaw20.ChainLeast', WHERE WHAT IT READS IS OF BULK AT MOST 1048576: true; the input reads as it did. -/
def chainLeastUptoRow : OpenClaim := { program := "ytphcffcecncngaa", sum := "07064d04228857c777b73ae3ef986188bbb2639fac08fc183f4ed9cdd65ca1d0", func := "athanor/athanorlaw20.ChainLeast", spec := "chainLeast", recurses := true, plainKeys := false, apart := false, narrowed := true }
def ChainLeastUptoSaid : Prop := chainLeastUptoRow.holds Try.pinned (OpenSpec.upto chainLeastSpec)

/-- 'athanorlaw24.OptimRates', WHERE WHAT IT READS IS OF BULK AT MOST 1048576: true; the input reads as it did. -/
def optimRatesUptoRow : OpenClaim := { program := "ytphcffcecncngaa", sum := "07064d04228857c777b73ae3ef986188bbb2639fac08fc183f4ed9cdd65ca1d0", func := "athanor/athanorlaw24.OptimRates", spec := "optimRates", unfollowed := true, recurses := true, named := ["math/bits.divideError", "math/bits.overflowError"], plainKeys := false, apart := false, narrowed := true }
def OptimRatesUptoSaid : Prop := optimRatesUptoRow.holds Try.pinned (OpenSpec.upto optimRatesSpec)

/-- 'athanorlaw24.OptimMeans', WHERE WHAT IT READS IS OF BULK AT MOST 1048576: true; the input reads as it did. -/
def optimMeansUptoRow : OpenClaim := { program := "ytphcffcecncngaa", sum := "07064d04228857c777b73ae3ef986188bbb2639fac08fc183f4ed9cdd65ca1d0", func := "athanor/athanorlaw24.OptimMeans", spec := "optimMeans", unfollowed := true, recurses := true, named := ["math/bits.divideError", "math/bits.overflowError"], plainKeys := false, apart := false, narrowed := true }
def OptimMeansUptoSaid : Prop := optimMeansUptoRow.holds Try.pinned (OpenSpec.upto optimMeansSpec)

/-- 'athanorlaw24.OptimSteps', WHERE WHAT IT READS IS OF BULK AT MOST 1048576: true; the input reads as it did. -/
def optimStepsUptoRow : OpenClaim := { program := "ytphcffcecncngaa", sum := "07064d04228857c777b73ae3ef986188bbb2639fac08fc183f4ed9cdd65ca1d0", func := "athanor/athanorlaw24.OptimSteps", spec := "optimSteps", unfollowed := true, recurses := true, named := ["math/bits.divideError", "math/bits.overflowError"], plainKeys := false, apart := false, narrowed := true }
def OptimStepsUptoSaid : Prop := optimStepsUptoRow.holds Try.pinned (OpenSpec.upto optimStepsSpec)

/-- 'athanorlaw24.OptimBegins', WHERE WHAT IT READS IS OF BULK AT MOST 1048576: true; the input reads as it did. -/
def optimBeginsUptoRow : OpenClaim := { program := "ytphcffcecncngaa", sum := "07064d04228857c777b73ae3ef986188bbb2639fac08fc183f4ed9cdd65ca1d0", func := "athanor/athanorlaw24.OptimBegins", spec := "optimBegins", unfollowed := true, recurses := true, named := ["math/bits.divideError", "math/bits.overflowError"], plainKeys := false, apart := false, narrowed := true }
def OptimBeginsUptoSaid : Prop := optimBeginsUptoRow.holds Try.pinned (OpenSpec.upto optimBeginsSpec)

/-- 'athanorlaw24.OptimStill', WHERE WHAT IT READS IS OF BULK AT MOST 1048576: true; the input reads as it did. -/
def optimStillUptoRow : OpenClaim := { program := "ytphcffcecncngaa", sum := "07064d04228857c777b73ae3ef986188bbb2639fac08fc183f4ed9cdd65ca1d0", func := "athanor/athanorlaw24.OptimStill", spec := "optimStill", unfollowed := true, recurses := true, named := ["math/bits.divideError", "math/bits.overflowError"], plainKeys := false, apart := false, narrowed := true }
def OptimStillUptoSaid : Prop := optimStillUptoRow.holds Try.pinned (OpenSpec.upto optimStillSpec)

end Rows
end Go.Proofs.Ytphcffcecncngaa
