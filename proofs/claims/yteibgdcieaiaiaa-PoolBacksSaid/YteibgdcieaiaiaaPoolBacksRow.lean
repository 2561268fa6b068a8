/- PoolBacks: for every input the statement returns true, and each argument reads afterwards as it read before. No condition. -/
import Derived.Test.YteibgdcieaiaiaaRows
import Derived.Test.YteibgdcieaiaiaaOpen
import Derived.Test.YteibgdcieaiaiaaPoolBacks
namespace Go.Proofs.Yteibgdcieaiaiaa
open Go.ChangeShapes Go.WideShapes Go.ChangeAt Go.RowKit

set_option maxRecDepth 100000 in
theorem poolBacks_lifted (os : Os) (started : os.Started) (H : Type) (enc : TypeId × Value → H) :
    ReturnsInHanded {} Try.checked os 10 .any (Rows.poolBacksSpec.pre6 enc Try.prog Try.f10 Rows.poolBacksRow.domain false) (Rows.poolBacksSpec.post enc Try.prog Try.f10 false true false false) := by
  refine returnsInHanded_of_change (C := Try.checked) ownKnob_none started (by kernel_rfl) Try.func10
    (ChangeSpec.witness6 (enc := enc) (C := Try.checked) false ⟨#[], #[.agg #[.int .i64 0, .slice none 0 0, .slice none 0 0, .slice none 0 0, .slice none 0 0, .int .i64 0, .int .i64 0]], []⟩ 8 (by kernel_rfl) (by kernel_rfl) (by kernel_rfl) (by kernel_rfl)) ?_
  intro W base args ds gs before hval0 hW _ _
  have hval : ∀ (j : Nat) t v, Try.f10.params[j]? = some t → args[j]? = some v → Value.okWide Try.prog W .any base t v := hval0
  have hW' := hW
  obtain ⟨p, q, hA0, hV, rfl, _, _⟩ := hW
  have hA : DataW.TrodAll enc Try.prog W 0 (fun _ => true) true Try.f10.params.toList args.toList ds p := hA0
  rw [Try.params10] at hA hval
  have hAll := hA
  obtain ⟨v0, vs0, d0, ds0, p0, q0, hargs, rfl, rfl, h0, r0⟩ := trodAll_cons hA
  obtain ⟨rfl, rfl, rfl⟩ := trodAll_nil r0
  obtain rfl : args = #[v0] := by cases args; simp_all
  obtain ⟨rfl, rfl⟩ := trodVars_none hV
  obtain ⟨cs0, rfl, hsz0⟩ := okWide_struct Try.underlying62 (hval 0 62 v0 rfl rfl)
  obtain ⟨q0a, q0b, q0c, q0d, q0e, q0f, q0g, rfl⟩ := arr7 (hsz0.trans (by kernel_rfl))
  obtain ⟨fuel0, hf0⟩ := h0
  replace hf0 : DataW.trod enc Try.prog W 0 (fun _ => true) true fuel0 62 [q0a, q0b, q0c, q0d, q0e, q0f, q0g] = some _ := hf0
  obtain ⟨_, _, hf0_0⟩ := fld Try.underlying62 hf0 0 _ rfl
  replace hf0_0 : DataW.trod enc Try.prog W 0 (fun _ => true) true _ 3 [q0a] = some _ := hf0_0
  obtain ⟨a0a, rfl, w0a⟩ := trod_int1 Try.underlying3 hf0_0
  obtain ⟨_, _, hf0_1⟩ := fld Try.underlying62 hf0 1 _ rfl
  replace hf0_1 : DataW.trod enc Try.prog W 0 (fun _ => true) true _ 34 [q0b, q0c] = some _ := hf0_1
  obtain ⟨_, _, hf0_1_0⟩ := fld Try.underlying34 hf0_1 0 _ rfl
  replace hf0_1_0 : DataW.trod enc Try.prog W 0 (fun _ => true) true _ 23 [q0b] = some _ := hf0_1_0
  obtain ⟨A0b, c0b, z0b, rfl, w0b⟩ := trod_ints Try.underlying23 Try.underlying3 (by kernel_rfl) hf0_1_0
  obtain ⟨_, _, hf0_1_1⟩ := fld Try.underlying34 hf0_1 1 _ rfl
  replace hf0_1_1 : DataW.trod enc Try.prog W 0 (fun _ => true) true _ 32 [q0c] = some _ := hf0_1_1
  obtain ⟨A0c, c0c, z0c, rfl, w0c⟩ := trod_ints Try.underlying32 Try.underlying56 (by kernel_rfl) hf0_1_1
  obtain ⟨_, _, hf0_2⟩ := fld Try.underlying62 hf0 2 _ rfl
  replace hf0_2 : DataW.trod enc Try.prog W 0 (fun _ => true) true _ 34 [q0d, q0e] = some _ := hf0_2
  obtain ⟨_, _, hf0_2_0⟩ := fld Try.underlying34 hf0_2 0 _ rfl
  replace hf0_2_0 : DataW.trod enc Try.prog W 0 (fun _ => true) true _ 23 [q0d] = some _ := hf0_2_0
  obtain ⟨A0d, c0d, z0d, rfl, w0d⟩ := trod_ints Try.underlying23 Try.underlying3 (by kernel_rfl) hf0_2_0
  obtain ⟨_, _, hf0_2_1⟩ := fld Try.underlying34 hf0_2 1 _ rfl
  replace hf0_2_1 : DataW.trod enc Try.prog W 0 (fun _ => true) true _ 32 [q0e] = some _ := hf0_2_1
  obtain ⟨A0e, c0e, z0e, rfl, w0e⟩ := trod_ints Try.underlying32 Try.underlying56 (by kernel_rfl) hf0_2_1
  obtain ⟨_, _, hf0_3⟩ := fld Try.underlying62 hf0 3 _ rfl
  replace hf0_3 : DataW.trod enc Try.prog W 0 (fun _ => true) true _ 3 [q0f] = some _ := hf0_3
  obtain ⟨a0f, rfl, w0f⟩ := trod_int1 Try.underlying3 hf0_3
  obtain ⟨_, _, hf0_4⟩ := fld Try.underlying62 hf0 4 _ rfl
  replace hf0_4 : DataW.trod enc Try.prog W 0 (fun _ => true) true _ 3 [q0g] = some _ := hf0_4
  obtain ⟨a0g, rfl, w0g⟩ := trod_int1 Try.underlying3 hf0_4
  clear hA0 hval0
  refine (poolBacks_calls a0a A0b A0c A0d A0e c0b c0c c0d c0e z0b z0c z0d z0e a0f a0g W w0b w0c w0d w0e).mono fun e W' ⟨he, bel⟩ => ?_
  subst he
  exact ⟨_, rfl, _, _, _, [], _, [], hW', trodAll_mk1 (shut_bool Try.underlying4 _), trodAll_below laidOut_all (by decide +kernel) hAll bel, rfl, bel.frame _, fun h => by cases h⟩

theorem poolBacks_holds : Rows.PoolBacksSaid :=
  OpenClaim.holds_of_wide 10 Try.f10 rfl rfl rfl rfl rfl rfl rfl ⟨rfl, rfl, rfl, rfl, rfl⟩ rfl rfl rfl rfl rfl (by kernel_rfl) Try.func10 (by kernel_rfl)
    (of_decide_eq_true (by kernel_rfl)) (by unfold Func.isWrapper; first | (rw [if_pos (by decide +kernel)]; kernel_rfl) | (rw [if_neg (by decide +kernel)]; exact ⟨rfl, rfl⟩))
    (fun os started H enc _ => poolBacks_lifted os started H enc)

end Go.Proofs.Yteibgdcieaiaiaa
