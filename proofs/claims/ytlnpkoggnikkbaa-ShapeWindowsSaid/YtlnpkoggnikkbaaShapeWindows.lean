/- The walk of the statement ShapeWindows. -/
import Derived.Test.YtlnpkoggnikkbaaOpen
import Derived.Test.YtlnpkoggnikkbaaLaw03Awake
namespace Go.Proofs.Ytlnpkoggnikkbaa
open Go.RowKit

def sideB (n : Int) : Bool := decide (1 ≤ n) && decide (n ≤ 1024)
theorem sw_in (n : Int) (w : World) : Calls Try.prog 23 #[.int .i64 n] w fun e w' => e = .returned (.bool (sideB n)) ∧ w = w' := by
  go_enter Try.func23, Try.ntmps23
  go_wp2
  all_goals
    go_ret
    exact ⟨ret_bool (by simp_all [sideB]; try omega), rfl⟩

set_option maxHeartbeats 2000000 in
theorem shapeWindows_calls (a b c : Int) (w : World) : Calls Try.prog 4 #[.int .i64 a, .int .i64 b, .int .i64 c] w (LawTrue w) := by
  by_cases h : winOk a b c = true
  · have HV : Hid (winV a b c = 1 + (a - b) / c) := Lib.hid (by simp [winV, h])
    have HE : Hid (winE a b c = 0) := Lib.hid (by simp [winE, h])
    simp only [winOk, Bool.and_eq_true, decide_eq_true_eq, and_assoc] at h
    obtain ⟨h1, h2, h3, h4, h5, h6, h7⟩ := h
    have HA : Hid (sideB a = true ∧ sideB b = true ∧ sideB c = true) := Lib.hid (by simp [sideB, *])
    go_enter Try.func4, Try.ntmps4
    go_wp2_with fail
    refine (sh_window a b c w).mono ?_
    rintro e w' ⟨rfl, rfl⟩
    rw [HV.out, HE.out]
    go_wp2_with fail
    refine (sw_in a w).mono ?_
    rintro e w' ⟨rfl, rfl⟩
    rw [HA.out.1]
    go_wp2_with fail
    refine (sw_in b w).mono ?_
    rintro e w' ⟨rfl, rfl⟩
    rw [HA.out.2.1]
    go_wp2_with fail
    refine (sw_in c w).mono ?_
    rintro e w' ⟨rfl, rfl⟩
    rw [HA.out.2.2]
    go_wp2_with fail
    generalize hq : 1 + (a - b) / c = q
    have hqq : ∀ k : Int, 0 ≤ k → (k * c + b ≤ a ↔ k < q) := by
      intro k _
      rw [← hq]
      have := Int.le_ediv_iff_mul_le (a := k) (b := a - b) (c := c) (by omega)
      omega
    have HQ := Lib.hid hqq
    clear hqq hq
    have hq0 : 0 ≤ q := by
      have := (HQ.out 0 (by omega)).1 (by omega)
      omega
    have hq1 : q ≤ 1024 := by
      by_cases hc : q ≤ 1024
      · exact hc
      · have := (HQ.out 1024 (by omega)).2 (by omega)
        omega
    go_loop [10, 11] (fun n i => ∃ k : Nat, (k : Int) ≤ q ∧ n = .int .i64 k ∧ i = .int .i64 (k * c)) (fun n _ => q.toNat - (intOf n).toNat)
    case atStart => exact ⟨0, hq0, rfl, by simp⟩
    case round =>
      obtain ⟨k, hk, rfl, rfl⟩ := hrel
      have hkc0 : 0 ≤ (k : Int) * c := Int.mul_nonneg (by omega) (by omega)
      have hkc1 : (k : Int) * c ≤ 1024 * 1024 := Int.mul_le_mul (by omega) h6 (by omega) (by omega)
      by_cases hlt : (k : Int) < q
      · have ht := (HQ.out k (by omega)).2 hlt
        go_wp2_with fail
        go_round
        case rel => exact ⟨k + 1, by omega, by go_num, by rw [show ((k + 1 : Nat) : Int) = (k : Int) + 1 from by omega, Int.add_mul, Int.one_mul]⟩
        case measure => simp [intOf]; omega
      · have ht : ¬ ((k : Int) * c + b ≤ a) := fun hx => hlt ((HQ.out k (by omega)).1 hx)
        have hkq : Hid (q = k) := Lib.hid (by omega)
        clear hlt
        rw [hkq.out]
        go_wp2_with fail
        refine (l03_awake w).mono ?_
        rintro e w2 ⟨rfl, hb⟩
        go_wp2_with fail
        go_ret
        exact ⟨rfl, hb⟩
  · have HV : Hid (winV a b c = 0) := Lib.hid (by simp [winV, h])
    have HE : Hid (winE a b c = 11) := Lib.hid (by simp [winE, h])
    have HN : Hid (winOk a b c = false) := Lib.hid (by simpa using h)
    have hd : Hid (sideB a = true → sideB b = true → sideB c = true → a < b) := Lib.hid (by
      simp only [winOk, Bool.and_eq_true, decide_eq_true_eq, and_assoc] at h
      simp only [sideB, Bool.and_eq_true, decide_eq_true_eq]
      omega)
    clear h
    go_enter Try.func4, Try.ntmps4
    go_wp2_with fail
    refine (sh_window a b c w).mono ?_
    rintro e w' ⟨rfl, rfl⟩
    rw [HV.out, HE.out]
    go_wp2_with fail
    refine (sw_in a w).mono ?_
    rintro e w' ⟨rfl, rfl⟩
    rcases ha : sideB a with _ | _
    · clear ha
      go_wp2_with fail
      refine (l03_awake w).mono ?_
      rintro e w2 ⟨rfl, hb⟩
      go_wp2_with fail
      go_ret
      exact ⟨rfl, hb⟩
    · have HA := Lib.hid ha
      clear ha
      go_wp2_with fail
      refine (sw_in b w).mono ?_
      rintro e w' ⟨rfl, rfl⟩
      rcases hb : sideB b with _ | _
      · clear hb
        go_wp2_with fail
        refine (l03_awake w).mono ?_
        rintro e w2 ⟨rfl, hb⟩
        go_wp2_with fail
        go_ret
        exact ⟨rfl, hb⟩
      · have HB := Lib.hid hb
        clear hb
        go_wp2_with fail
        refine (sw_in c w).mono ?_
        rintro e w' ⟨rfl, rfl⟩
        rcases hc : sideB c with _ | _
        · clear hc
          go_wp2_with fail
          refine (l03_awake w).mono ?_
          rintro e w2 ⟨rfl, hb⟩
          go_wp2_with fail
          go_ret
          exact ⟨rfl, hb⟩
        · have hlt := hd.out HA.out HB.out hc
          clear hc
          go_wp2_with fail
          refine (l03_awake w).mono ?_
          rintro e w2 ⟨rfl, hb⟩
          go_wp2_with fail
          go_ret
          exact ⟨rfl, hb⟩
end Go.Proofs.Ytlnpkoggnikkbaa
