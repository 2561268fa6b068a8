/- The walk of the reference of windows. -/
import Derived.Test.YteibgdcieaiaiaaWinMath
import Derived.Test.YteibgdcieaiaiaaRef01Div
import Derived.Test.YteibgdcieaiaiaaPush
import Derived.Test.YteibgdcieaiaiaaTAuto
namespace Go.Proofs.Yteibgdcieaiaiaa
open Go.RowKit

section
variable {w : World}
set_option maxHeartbeats 2000000 in
theorem r7_window {a b c : Int} : Calls Try.prog 49 #[.int .i64 a, .int .i64 b, .int .i64 c] w (RetV w (.int .i64 (winV a b c))) := by
  by_cases hok : winOk a b c = true
  rotate_left
  · have HV : Hid (winV a b c = 0) := Lib.hid (by simp [winV, hok])
    simp only [winOk, Bool.and_eq_true, decide_eq_true_eq, and_assoc] at hok
    by_cases h1 : a < 1
    · clear hok
      go_enter Try.func49, Try.ntmps49
      go_wp2_with fail
      go_ret
      exact ⟨by rw [HV.out]; rfl, prev_bel _ _⟩
    by_cases h2 : b < 1
    · clear hok
      go_enter Try.func49, Try.ntmps49
      go_wp2_with fail
      go_ret
      exact ⟨by rw [HV.out]; rfl, prev_bel _ _⟩
    by_cases h3 : c < 1
    · clear hok
      go_enter Try.func49, Try.ntmps49
      go_wp2_with fail
      go_ret
      exact ⟨by rw [HV.out]; rfl, prev_bel _ _⟩
    by_cases h4 : 1024 < a
    · clear hok
      go_enter Try.func49, Try.ntmps49
      go_wp2_with fail
      go_ret
      exact ⟨by rw [HV.out]; rfl, prev_bel _ _⟩
    by_cases h5 : 1024 < b
    · clear hok
      go_enter Try.func49, Try.ntmps49
      go_wp2_with fail
      go_ret
      exact ⟨by rw [HV.out]; rfl, prev_bel _ _⟩
    by_cases h6 : 1024 < c
    · clear hok
      go_enter Try.func49, Try.ntmps49
      go_wp2_with fail
      go_ret
      exact ⟨by rw [HV.out]; rfl, prev_bel _ _⟩
    have h7 : a < b := by omega
    clear hok
    go_enter Try.func49, Try.ntmps49
    go_wp2_with fail
    go_ret
    exact ⟨by rw [HV.out]; rfl, prev_bel _ _⟩
  have hok' := hok
  simp only [winOk, Bool.and_eq_true, decide_eq_true_eq, and_assoc] at hok'
  obtain ⟨Z, rfl⟩ := Int.eq_ofNat_of_zero_le (show 0 ≤ a by omega)
  obtain ⟨W, rfl⟩ := Int.eq_ofNat_of_zero_le (show 0 ≤ b by omega)
  obtain ⟨S, rfl⟩ := Int.eq_ofNat_of_zero_le (show 0 ≤ c by omega)
  obtain ⟨N, e, n1, w1, s1, w2, s2, z2, fit, most, nZ⟩ := win_nats hok
  rw [e]
  have hWZ : W ≤ Z := by omega
  have HF := Lib.hid fit
  have HM := Lib.hid most
  clear hok hok' e fit most
  go_enter Try.func49, Try.ntmps49
  go_wp2_with fail
  go_loop [7, 8] (fun k t => ∃ i T : Nat, i ≤ N ∧ k = .int .i64 i ∧ t = .int .i64 T ∧ T ≤ 3000 ∧ Hid (i * S = T)) (fun k _ => N - (intOf k).toNat)
  case atStart => exact ⟨0, 0, Nat.zero_le _, rfl, rfl, by omega, Lib.hid (by simp)⟩
  case round =>
    obtain ⟨i, T, hi, rfl, rfl, hT, HT⟩ := hrel
    by_cases hlt : i < N
    · have hfit : T + W ≤ Z := by have := HF.out i hlt; rw [HT.out] at this; exact this
      go_wp2_with fail
      go_round
      case rel => exact ⟨i + 1, T + S, by omega, by go_num, by go_num, by omega, Lib.hid (by rw [Nat.succ_mul, HT.out])⟩
      case measure => simp [intOf]; omega
    · obtain rfl : i = N := by omega
      have hfit : Z < T + W := by have := HM.out; rw [HT.out] at this; exact this
      go_wp2_with fail
      go_ret
      exact ⟨rfl, prev_bel _ _⟩
end

end Go.Proofs.Yteibgdcieaiaiaa
