/- PoolWhole: for every input the statement returns true, and each argument reads afterwards as it read before. No condition. -/
import Derived.Test.YteibgdcieaiaiaaRows
import Derived.Test.YteibgdcieaiaiaaOpen
import Derived.Test.YteibgdcieaiaiaaPoolWhole
namespace Go.Proofs.Yteibgdcieaiaiaa
open Go.ChangeShapes Go.WideShapes Go.ChangeAt Go.RowKit

set_option maxRecDepth 100000 in
theorem poolWhole_lifted (os : Os) (started : os.Started) (H : Type) (enc : TypeId × Value → H) :
    ReturnsInHanded {} Try.checked os 13 .any (Rows.poolWholeSpec.pre6 enc Try.prog Try.f13 Rows.poolWholeRow.domain false) (Rows.poolWholeSpec.post enc Try.prog Try.f13 false true false false) := by
  refine returnsInHanded_of_change (C := Try.checked) ownKnob_none started (by kernel_rfl) Try.func13
    (ChangeSpec.witness6 (enc := enc) (C := Try.checked) false ⟨#[], #[.int .i64 0, .agg #[.slice none 0 0, .slice none 0 0]], []⟩ 8 (by kernel_rfl) (by kernel_rfl) (by kernel_rfl) (by kernel_rfl)) ?_
  intro W base args ds gs before hval0 hW _ _
  have hval : ∀ (j : Nat) t v, Try.f13.params[j]? = some t → args[j]? = some v → Value.okWide Try.prog W .any base t v := hval0
  have hW' := hW
  obtain ⟨p, q, hA0, hV, rfl, _, _⟩ := hW
  have hA : DataW.TrodAll enc Try.prog W 0 (fun _ => true) true Try.f13.params.toList args.toList ds p := hA0
  rw [Try.params13] at hA hval
  have hAll := hA
  obtain ⟨v0, vs0, d0, ds0, p0, q0, hargs, rfl, rfl, h0, r0⟩ := trodAll_cons hA
  obtain ⟨v1, vs1, d1, ds1, p1, q1, rfl, rfl, rfl, h1, r1⟩ := trodAll_cons r0
  obtain ⟨rfl, rfl, rfl⟩ := trodAll_nil r1
  obtain rfl : args = #[v0, v1] := by cases args; simp_all
  obtain ⟨rfl, rfl⟩ := trodVars_none hV
  obtain ⟨a0, rfl, w0⟩ := arg_int Try.underlying3 (hval 0 3 v0 rfl rfl) h0
  obtain ⟨cs1, rfl, hsz1⟩ := okWide_struct Try.underlying34 (hval 1 34 v1 rfl rfl)
  obtain ⟨q1a, q1b, rfl⟩ := arr2 (hsz1.trans (by kernel_rfl))
  obtain ⟨fuel1, hf1⟩ := h1
  replace hf1 : DataW.trod enc Try.prog W 0 (fun _ => true) true fuel1 34 [q1a, q1b] = some _ := hf1
  obtain ⟨_, _, hf1_0⟩ := fld Try.underlying34 hf1 0 _ rfl
  replace hf1_0 : DataW.trod enc Try.prog W 0 (fun _ => true) true _ 23 [q1a] = some _ := hf1_0
  obtain ⟨A1a, c1a, z1a, rfl, w1a⟩ := trod_ints Try.underlying23 Try.underlying3 (by kernel_rfl) hf1_0
  obtain ⟨_, _, hf1_1⟩ := fld Try.underlying34 hf1 1 _ rfl
  replace hf1_1 : DataW.trod enc Try.prog W 0 (fun _ => true) true _ 32 [q1b] = some _ := hf1_1
  obtain ⟨A1b, c1b, z1b, rfl, w1b⟩ := trod_ints Try.underlying32 Try.underlying56 (by kernel_rfl) hf1_1
  clear hA0 hval0
  refine (poolWhole_calls a0 A1a A1b c1a c1b z1a z1b W w1a w1b).mono fun e W' ⟨he, bel⟩ => ?_
  subst he
  exact ⟨_, rfl, _, _, _, [], _, [], hW', trodAll_mk1 (shut_bool Try.underlying4 _), trodAll_below laidOut_all (by decide +kernel) hAll bel, rfl, bel.frame _, fun h => by cases h⟩

theorem poolWhole_holds : Rows.PoolWholeSaid :=
  OpenClaim.holds_of_wide 13 Try.f13 rfl rfl rfl rfl rfl rfl rfl ⟨rfl, rfl, rfl, rfl, rfl⟩ rfl rfl rfl rfl rfl (by kernel_rfl) Try.func13 (by kernel_rfl)
    (of_decide_eq_true (by kernel_rfl)) (by unfold Func.isWrapper; first | (rw [if_pos (by decide +kernel)]; kernel_rfl) | (rw [if_neg (by decide +kernel)]; exact ⟨rfl, rfl⟩))
    (fun os started H enc _ => poolWhole_lifted os started H enc)

end Go.Proofs.Yteibgdcieaiaiaa
