/- DenseNoughts: for every input the statement returns true, and each argument reads afterwards as it read before. No condition. -/
import Derived.Test.YthcdjdhnjbdfeaaRows
import Derived.Test.YthcdjdhnjbdfeaaOpen
import Derived.Test.YthcdjdhnjbdfeaaDenseNoughts
namespace Go.Proofs.Ythcdjdhnjbdfeaa
open Go.ChangeShapes Go.WideShapes Go.ChangeAt Go.RowKit

set_option maxRecDepth 100000 in
theorem denseNoughts_lifted (os : Os) (started : os.Started) (H : Type) (enc : TypeId × Value → H) :
    ReturnsInHanded {} Try.checked os 8 .any (Rows.denseNoughtsSpec.pre6 enc Try.prog Try.f8 Rows.denseNoughtsRow.domain false) (Rows.denseNoughtsSpec.post enc Try.prog Try.f8 false true false false) := by
  refine returnsInHanded_of_change (C := Try.checked) ownKnob_none started (by kernel_rfl) Try.func8
    (ChangeSpec.witness6 (enc := enc) (C := Try.checked) false ⟨#[], #[.agg #[.slice none 0 0, .slice none 0 0, .slice none 0 0, .slice none 0 0, .slice none 0 0, .slice none 0 0, .slice none 0 0, .slice none 0 0]], []⟩ 8 (by kernel_rfl) (by kernel_rfl) (by kernel_rfl) (by kernel_rfl)) ?_
  intro W base args ds gs before hval0 hW _ _
  have hval : ∀ (j : Nat) t v, Try.f8.params[j]? = some t → args[j]? = some v → Value.okWide Try.prog W .any base t v := hval0
  have hW' := hW
  obtain ⟨p, q, hA0, hV, rfl, _, _⟩ := hW
  have hA : DataW.TrodAll enc Try.prog W 0 (fun _ => true) true Try.f8.params.toList args.toList ds p := hA0
  rw [Try.params8] at hA hval
  have hAll := hA
  obtain ⟨v0, vs0, d0, ds0, p0, q0, hargs, rfl, rfl, h0, r0⟩ := trodAll_cons hA
  obtain ⟨rfl, rfl, rfl⟩ := trodAll_nil r0
  obtain rfl : args = #[v0] := by cases args; simp_all
  obtain ⟨rfl, rfl⟩ := trodVars_none hV
  obtain ⟨cs0, rfl, hsz0⟩ := okWide_struct Try.underlying57 (hval 0 57 v0 rfl rfl)
  obtain ⟨q0a, q0b, q0c, q0d, q0e, q0f, q0g, q0h, rfl⟩ := arr8 (hsz0.trans (by kernel_rfl))
  obtain ⟨fuel0, hf0⟩ := h0
  replace hf0 : DataW.trod enc Try.prog W 0 (fun _ => true) true fuel0 57 [q0a, q0b, q0c, q0d, q0e, q0f, q0g, q0h] = some _ := hf0
  obtain ⟨_, _, hf0_0⟩ := fld Try.underlying57 hf0 0 _ rfl
  replace hf0_0 : DataW.trod enc Try.prog W 0 (fun _ => true) true _ 26 [q0a, q0b] = some _ := hf0_0
  obtain ⟨_, _, hf0_0_0⟩ := fld Try.underlying26 hf0_0 0 _ rfl
  replace hf0_0_0 : DataW.trod enc Try.prog W 0 (fun _ => true) true _ 23 [q0a] = some _ := hf0_0_0
  obtain ⟨A0a, c0a, z0a, rfl, w0a⟩ := trod_ints Try.underlying23 Try.underlying3 (by kernel_rfl) hf0_0_0
  obtain ⟨_, _, hf0_0_1⟩ := fld Try.underlying26 hf0_0 1 _ rfl
  replace hf0_0_1 : DataW.trod enc Try.prog W 0 (fun _ => true) true _ 24 [q0b] = some _ := hf0_0_1
  obtain ⟨A0b, c0b, z0b, rfl, w0b⟩ := trod_ints Try.underlying24 Try.underlying27 (by kernel_rfl) hf0_0_1
  obtain ⟨_, _, hf0_1⟩ := fld Try.underlying57 hf0 1 _ rfl
  replace hf0_1 : DataW.trod enc Try.prog W 0 (fun _ => true) true _ 26 [q0c, q0d] = some _ := hf0_1
  obtain ⟨_, _, hf0_1_0⟩ := fld Try.underlying26 hf0_1 0 _ rfl
  replace hf0_1_0 : DataW.trod enc Try.prog W 0 (fun _ => true) true _ 23 [q0c] = some _ := hf0_1_0
  obtain ⟨A0c, c0c, z0c, rfl, w0c⟩ := trod_ints Try.underlying23 Try.underlying3 (by kernel_rfl) hf0_1_0
  obtain ⟨_, _, hf0_1_1⟩ := fld Try.underlying26 hf0_1 1 _ rfl
  replace hf0_1_1 : DataW.trod enc Try.prog W 0 (fun _ => true) true _ 24 [q0d] = some _ := hf0_1_1
  obtain ⟨A0d, c0d, z0d, rfl, w0d⟩ := trod_ints Try.underlying24 Try.underlying27 (by kernel_rfl) hf0_1_1
  obtain ⟨_, _, hf0_2⟩ := fld Try.underlying57 hf0 2 _ rfl
  replace hf0_2 : DataW.trod enc Try.prog W 0 (fun _ => true) true _ 26 [q0e, q0f] = some _ := hf0_2
  obtain ⟨_, _, hf0_2_0⟩ := fld Try.underlying26 hf0_2 0 _ rfl
  replace hf0_2_0 : DataW.trod enc Try.prog W 0 (fun _ => true) true _ 23 [q0e] = some _ := hf0_2_0
  obtain ⟨A0e, c0e, z0e, rfl, w0e⟩ := trod_ints Try.underlying23 Try.underlying3 (by kernel_rfl) hf0_2_0
  obtain ⟨_, _, hf0_2_1⟩ := fld Try.underlying26 hf0_2 1 _ rfl
  replace hf0_2_1 : DataW.trod enc Try.prog W 0 (fun _ => true) true _ 24 [q0f] = some _ := hf0_2_1
  obtain ⟨A0f, c0f, z0f, rfl, w0f⟩ := trod_ints Try.underlying24 Try.underlying27 (by kernel_rfl) hf0_2_1
  obtain ⟨_, _, hf0_3⟩ := fld Try.underlying57 hf0 3 _ rfl
  replace hf0_3 : DataW.trod enc Try.prog W 0 (fun _ => true) true _ 26 [q0g, q0h] = some _ := hf0_3
  obtain ⟨_, _, hf0_3_0⟩ := fld Try.underlying26 hf0_3 0 _ rfl
  replace hf0_3_0 : DataW.trod enc Try.prog W 0 (fun _ => true) true _ 23 [q0g] = some _ := hf0_3_0
  obtain ⟨A0g, c0g, z0g, rfl, w0g⟩ := trod_ints Try.underlying23 Try.underlying3 (by kernel_rfl) hf0_3_0
  obtain ⟨_, _, hf0_3_1⟩ := fld Try.underlying26 hf0_3 1 _ rfl
  replace hf0_3_1 : DataW.trod enc Try.prog W 0 (fun _ => true) true _ 24 [q0h] = some _ := hf0_3_1
  obtain ⟨A0h, c0h, z0h, rfl, w0h⟩ := trod_ints Try.underlying24 Try.underlying27 (by kernel_rfl) hf0_3_1
  clear hA0 hval0
  refine (denseNoughts_calls A0a A0b A0c A0d A0e A0f A0g A0h c0a c0b c0c c0d c0e c0f c0g c0h z0a z0b z0c z0d z0e z0f z0g z0h W w0a w0b w0c w0d w0e w0f w0g w0h).mono fun e W' ⟨he, bel⟩ => ?_
  subst he
  exact ⟨_, rfl, _, _, _, [], _, [], hW', trodAll_mk1 (shut_bool Try.underlying4 _), trodAll_below laidOut_all (by decide +kernel) hAll bel, rfl, bel.frame _, fun h => by cases h⟩

theorem denseNoughts_holds : Rows.DenseNoughtsSaid :=
  OpenClaim.holds_of_wide 8 Try.f8 rfl rfl rfl rfl rfl rfl rfl ⟨rfl, rfl, rfl, rfl, rfl⟩ rfl rfl rfl rfl rfl (by kernel_rfl) Try.func8 (by kernel_rfl)
    (of_decide_eq_true (by kernel_rfl)) (by unfold Func.isWrapper; first | (rw [if_pos (by decide +kernel)]; kernel_rfl) | (rw [if_neg (by decide +kernel)]; exact ⟨rfl, rfl⟩))
    (fun os started H enc _ => denseNoughts_lifted os started H enc)

end Go.Proofs.Ythcdjdhnjbdfeaa
