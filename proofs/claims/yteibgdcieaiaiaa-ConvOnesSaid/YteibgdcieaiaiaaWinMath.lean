/- Plain law: where windows lie. -/
import Derived.Test.YteibgdcieaiaiaaShape2
namespace Go.Proofs.Yteibgdcieaiaiaa
open Go.RowKit

theorem win_nats {Z W S : Nat} (h : winOk (Z : Int) (W : Int) (S : Int) = true) : ∃ n : Nat, winV (Z : Int) (W : Int) (S : Int) = (n : Int) ∧ 1 ≤ n ∧ 1 ≤ W ∧ 1 ≤ S ∧ W ≤ 1024 ∧ S ≤ 1024 ∧ Z ≤ 1024 ∧ (∀ j, j < n → j * S + W ≤ Z) ∧ Z < n * S + W ∧ n ≤ Z := by
  have h0 := h
  simp only [winOk, Bool.and_eq_true, decide_eq_true_eq, and_assoc] at h
  obtain ⟨h1, h2, h3, h4, h5, h6, h7⟩ := h
  have hS : 0 < S := by omega
  refine ⟨1 + (Z - W) / S, ?_, Nat.le_add_right _ _, by omega, by omega, by omega, by omega, by omega, fun j hj => ?_, ?_, ?_⟩
  · rw [winV, if_pos h0, show (Z : Int) - (W : Int) = ((Z - W : Nat) : Int) from by omega, ← Int.natCast_ediv, Int.natCast_add]
    rfl
  · have a1 : j * S ≤ (Z - W) / S * S := Nat.mul_le_mul_right _ (by omega)
    have a2 := Nat.div_mul_le_self (Z - W) S
    omega
  · have a1 := Nat.div_add_mod (Z - W) S
    have a2 := Nat.mod_lt (Z - W) hS
    rw [Nat.add_mul, Nat.mul_comm ((Z - W) / S) S]
    omega
  · have a2 := Nat.div_le_self (Z - W) S
    omega

end Go.Proofs.Yteibgdcieaiaiaa
