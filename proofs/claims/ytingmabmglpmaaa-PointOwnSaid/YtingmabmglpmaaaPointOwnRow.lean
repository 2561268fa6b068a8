/- PointOwn: for every input the statement returns true, and each argument reads afterwards as it read before. No condition. -/
import Derived.Test.YtingmabmglpmaaaRows
import Derived.Test.YtingmabmglpmaaaOpen
import Derived.Test.YtingmabmglpmaaaPointOwn
import Derived.Test.YtingmabmglpmaaaOpenB
namespace Go.Proofs.Ytingmabmglpmaaa
open Go.ChangeShapes Go.WideShapes Go.ChangeAt Go.RowKit

set_option maxRecDepth 100000 in
theorem pointOwn_lifted (os : Os) (started : os.Started) (H : Type) (enc : TypeId × Value → H) :
    ReturnsInHanded {} Try.checked os 10 .any (Rows.pointOwnSpec.pre6 enc Try.prog Try.f10 Rows.pointOwnRow.domain false) (Rows.pointOwnSpec.post enc Try.prog Try.f10 false true false false) := by
  refine returnsInHanded_of_change_sized (C := Try.checked) ownKnob_none started (by kernel_rfl) Try.func10
    (ChangeSpec.witness6 (enc := enc) (C := Try.checked) false ⟨#[], #[.agg #[.int .i64 0, .int .i64 0, .slice none 0 0, .slice none 0 0, .slice none 0 0]], []⟩ 8 (by kernel_rfl) (by kernel_rfl) (by kernel_rfl) (by kernel_rfl)) ?_
  intro W base args ds gs before hval0 hW _ hsz0 _
  have hsz : (DataW.weightsEach Try.prog (Try.f10.params.toList ++ Rows.pointOwnSpec.plain.varTypes Try.prog) (ds ++ gs)).all (· ≤ reachBytes) = true := hsz0
  have hval : ∀ (j : Nat) t v, Try.f10.params[j]? = some t → args[j]? = some v → Value.okWide Try.prog W .any base t v := hval0
  have hW' := hW
  obtain ⟨p, q, hA0, hV, rfl, _, _⟩ := hW
  have hA : DataW.TrodAll enc Try.prog W 0 (fun _ => true) true Try.f10.params.toList args.toList ds p := hA0
  rw [Try.params10] at hA hval hsz
  have hAll := hA
  obtain ⟨v0, vs0, d0, ds0, p0, q0, hargs, rfl, rfl, h0, r0⟩ := trodAll_cons hA
  obtain ⟨rfl, rfl, rfl⟩ := trodAll_nil r0
  obtain rfl : args = #[v0] := by cases args; simp_all
  obtain ⟨rfl, rfl⟩ := trodVars_none hV
  obtain ⟨kd0, kk0, A0, c0, t0, B0, d0, z0, C0, e0, x0, rfl, ik0, tw0, iz0, ix0, lz0, lx0⟩ := arg_backed (hval 0 64 v0 rfl rfl) h0 (wt_each hsz (j := 0) rfl rfl)
  clear hA0 hval0 hsz0
  refine (pointOwn_calls kd0 kk0 A0 B0 C0 c0 d0 e0 t0 z0 x0 W ik0 tw0 iz0 ix0 lz0 lx0).mono fun e W' ⟨he, bel⟩ => ?_
  subst he
  exact ⟨_, rfl, _, _, _, [], _, [], hW', trodAll_mk1 (shut_bool Try.underlying4 _), trodAll_below laidOut_all (by decide +kernel) hAll bel, rfl, bel.frame _, fun h => by cases h⟩

theorem pointOwn_holds : Rows.PointOwnSaid :=
  OpenClaim.holds_of_wide 10 Try.f10 rfl rfl rfl rfl rfl rfl rfl ⟨rfl, rfl, rfl, rfl, rfl⟩ rfl rfl rfl rfl rfl (by kernel_rfl) Try.func10 (by kernel_rfl)
    (of_decide_eq_true (by kernel_rfl)) (by unfold Func.isWrapper; first | (rw [if_pos (by decide +kernel)]; kernel_rfl) | (rw [if_neg (by decide +kernel)]; exact ⟨rfl, rfl⟩))
    (fun os started H enc _ => pointOwn_lifted os started H enc)

end Go.Proofs.Ytingmabmglpmaaa
