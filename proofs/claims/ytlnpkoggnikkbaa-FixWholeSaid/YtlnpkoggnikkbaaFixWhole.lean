/- The walk of the statement FixWhole. -/
import Derived.Test.YtlnpkoggnikkbaaFixProducts
namespace Go.Proofs.Ytlnpkoggnikkbaa
open Go.RowKit

theorem fint_held (a : Int) (h : I64 a) : fint a = heldO (absI a * 4294967296 % 18446744073709551616) (decide (4294967296 ≤ absI a)) (decide (a < 0)) := by
  obtain ⟨h1, h2⟩ := h
  unfold heldO fint
  by_cases ho : 4294967296 ≤ absI a
  · have e : decide (4294967296 ≤ absI a) = true := by simpa using ho
    rw [e, if_pos rfl]
    by_cases hn : a < 0
    · have e2 : decide (a < 0) = true := by simpa using hn
      rw [absI, if_pos hn] at ho
      rw [e2, clampI, if_pos (by omega)]; rfl
    · have e2 : decide (a < 0) = false := by simpa using hn
      rw [absI, if_neg hn] at ho
      rw [e2, clampI, if_neg (by omega), if_pos (by omega)]; rfl
  · have e : decide (4294967296 ≤ absI a) = false := by simpa using ho
    rw [e, if_neg (by simp)]
    have h0 : 0 ≤ absI a := by unfold absI; split <;> omega
    rw [Int.emod_eq_of_lt (by omega) (by omega)]
    unfold heldI
    by_cases hn : a < 0
    · have e2 : decide (a < 0) = true := by simpa using hn
      rw [absI, if_pos hn, e2] at *
      unfold clampI
      by_cases hb : 9223372036854775808 ≤ -a * 4294967296
      · rw [if_pos hb]
        show _ = (-9223372036854775808 : Int)
        split <;> (try split) <;> omega
      · rw [if_neg hb]
        show _ = - (-a * 4294967296)
        split <;> (try split) <;> omega
    · have e2 : decide (a < 0) = false := by simpa using hn
      rw [absI, if_neg hn, e2] at *
      unfold clampI
      by_cases hb : 9223372036854775808 ≤ a * 4294967296
      · rw [if_pos hb]
        show _ = (9223372036854775807 : Int)
        split <;> (try split) <;> omega
      · rw [if_neg hb]
        show _ = a * 4294967296
        split <;> (try split) <;> omega
theorem fint_floor {a : Int} (h1 : -2147483648 ≤ a) (h2 : a < 2147483648) : fint a / 4294967296 = a := by
  have : fint a = a * 4294967296 := by rw [fint, clampI, if_neg (by omega), if_neg (by omega)]
  rw [this]; omega
theorem fneg_neg {y : Int} (h : I64 y) (hm : y ≠ -9223372036854775808) : fneg (fneg y) = y := by
  obtain ⟨h1, h2⟩ := h
  have e : fneg y = -y := by rw [fneg, clampI, if_neg (by omega), if_neg (by omega)]
  rw [e, fneg, clampI, if_neg (by omega), if_neg (by omega)]; omega
theorem fabs_nonneg {y : Int} (h : I64 y) : 0 ≤ fabs y := by
  obtain ⟨h1, h2⟩ := h
  unfold fabs fneg clampI; split <;> (try split) <;> (try split) <;> omega

set_option maxRecDepth 100000 in
set_option maxHeartbeats 4000000 in
theorem fixWhole_calls (a b : Int) (w : World) (ha : I64 a) (hb : I64 b) : Calls Try.prog 11 #[.int .i64 a, .int .i64 b] w (LawTrue w) := by
  have HI := Lib.hid (fint_held a ha)
  have HFI : Hid (-2147483648 ≤ a ∧ a < 2147483648 → fint a / 4294967296 = a) := Lib.hid (fun h => fint_floor h.1 h.2)
  obtain ⟨x0, x1⟩ := absI_bd ha
  have CS := Lib.hid (fun W => r1_size a W ha)
  generalize absI a = X at *
  have es : IntKind.u64.wrap (X * 4294967296) = X * 4294967296 % 18446744073709551616 := IntKind.wrap_u64 _
  go_enter Try.func11, Try.ntmps11
  go_wp2_with fail
  refine (fix_int a w).mono ?_
  rintro e w' ⟨rfl, rfl⟩
  go_wp2_with fail
  refine (CS.out w).mono ?_
  rintro e w' ⟨rfl, rfl⟩
  go_wp2_with fail
  refine (CS.out w).mono ?_
  rintro e w' ⟨rfl, rfl⟩
  go_wp2_with fail
  refine (r1_held (X * 4294967296 % 18446744073709551616) _ _ w (by omega) (by omega)).mono ?_
  rintro e w' ⟨rfl, rfl⟩
  rw [← HI.out]
  go_wp2_with fail
  refine (fix_ratio a b w ha hb).mono ?_
  rintro e w1 ⟨rfl, b1⟩
  go_wp2_with fail
  refine (r1_div a b w1 ha hb).mono ?_
  rintro e w2 ⟨rfl, b2⟩
  have bb := btr b1 b2
  clear b1 b2
  have hfb := fint_bd a
  have hfl1 : b / 4294967296 * 4294967296 ≤ b := by omega
  have hfl2 : b - b / 4294967296 * 4294967296 < 4294967296 := by omega
  have hfl3 : 0 ≤ b - b / 4294967296 * 4294967296 := by omega
  obtain ⟨hb1, hb2⟩ := id hb
  by_cases hr1 : a < 2147483648
  · by_cases hr2 : -2147483648 ≤ a
    · have HF := Lib.hid (HFI.out ⟨hr2, hr1⟩)
      have d1 : decide (a < 2147483648) = true := by simpa using hr1
      have d2 : decide (-2147483648 ≤ a) = true := by simpa using hr2
      go_wp2_with fail
      refine (fix_floor (fint a) w2 hfb).mono ?_
      rintro e w' ⟨rfl, rfl⟩
      rw [HF.out]
      go_wp2_with fail
      refine (fix_floor b w2 hb).mono ?_
      rintro e w' ⟨rfl, rfl⟩
      by_cases hbn : b < 0
      · have HA : Hid (fabs b = fneg b) := Lib.hid (by rw [fabs, if_pos hbn])
        have n0 : 0 ≤ fneg b := by have := fabs_nonneg hb; rw [HA.out] at this; exact this
        have e1 : (fneg b == b) = false := by simp; omega
        have e2 : (fneg b == fneg b) = true := by simp
        go_wp2_with fail
        refine (fix_abs b w2 hb).mono ?_
        rintro e w' ⟨rfl, rfl⟩
        rw [HA.out]
        go_wp2_with fail
        refine (fix_abs b w2 hb).mono ?_
        rintro e w' ⟨rfl, rfl⟩
        rw [HA.out]
        go_wp2_with fail
        refine (fix_abs b w2 hb).mono ?_
        rintro e w' ⟨rfl, rfl⟩
        rw [HA.out]
        go_wp2_with fail
        refine (fix_neg b w2 hb).mono ?_
        rintro e w' ⟨rfl, rfl⟩
        by_cases hm : b = -9223372036854775808
        · have e3 : (b == -9223372036854775808) = true := by simpa using hm
          clear hm
          go_wp2_with fail
          refine (l01_awake w2).mono ?_
          rintro e w3 ⟨rfl, b3⟩
          go_wp2_with fail
          go_ret
          exact ⟨rfl, btr bb b3⟩
        · have e3 : (b == -9223372036854775808) = false := by simpa using hm
          have HNN := Lib.hid (fneg_neg hb hm)
          clear hm
          go_wp2_with fail
          refine (fix_neg b w2 hb).mono ?_
          rintro e w' ⟨rfl, rfl⟩
          go_wp2_with fail
          refine (fix_neg (fneg b) w2 (fneg_bd b)).mono ?_
          rintro e w' ⟨rfl, rfl⟩
          rw [HNN.out]
          go_wp2_with fail
          refine (l01_awake w2).mono ?_
          rintro e w3 ⟨rfl, b3⟩
          go_wp2_with fail
          go_ret
          exact ⟨rfl, btr bb b3⟩
      · have HA : Hid (fabs b = b) := Lib.hid (by rw [fabs, if_neg hbn])
        have e3 : (b == -9223372036854775808) = false := by simp; omega
        have HNN := Lib.hid (fneg_neg hb (by omega))
        go_wp2_with fail
        refine (fix_abs b w2 hb).mono ?_
        rintro e w' ⟨rfl, rfl⟩
        rw [HA.out]
        go_wp2_with fail
        refine (fix_abs b w2 hb).mono ?_
        rintro e w' ⟨rfl, rfl⟩
        rw [HA.out]
        go_wp2_with fail
        refine (fix_neg b w2 hb).mono ?_
        rintro e w' ⟨rfl, rfl⟩
        go_wp2_with fail
        refine (fix_neg (fneg b) w2 (fneg_bd b)).mono ?_
        rintro e w' ⟨rfl, rfl⟩
        rw [HNN.out]
        go_wp2_with fail
        refine (l01_awake w2).mono ?_
        rintro e w3 ⟨rfl, b3⟩
        go_wp2_with fail
        go_ret
        exact ⟨rfl, btr bb b3⟩
    · have d1 : decide (a < 2147483648) = true := by simpa using hr1
      have d2 : decide (-2147483648 ≤ a) = false := by simpa using hr2
      go_wp2_with fail
      refine (fix_floor b w2 hb).mono ?_
      rintro e w' ⟨rfl, rfl⟩
      by_cases hbn : b < 0
      · have HA : Hid (fabs b = fneg b) := Lib.hid (by rw [fabs, if_pos hbn])
        have n0 : 0 ≤ fneg b := by have := fabs_nonneg hb; rw [HA.out] at this; exact this
        have e1 : (fneg b == b) = false := by simp; omega
        have e2 : (fneg b == fneg b) = true := by simp
        go_wp2_with fail
        refine (fix_abs b w2 hb).mono ?_
        rintro e w' ⟨rfl, rfl⟩
        rw [HA.out]
        go_wp2_with fail
        refine (fix_abs b w2 hb).mono ?_
        rintro e w' ⟨rfl, rfl⟩
        rw [HA.out]
        go_wp2_with fail
        refine (fix_abs b w2 hb).mono ?_
        rintro e w' ⟨rfl, rfl⟩
        rw [HA.out]
        go_wp2_with fail
        refine (fix_neg b w2 hb).mono ?_
        rintro e w' ⟨rfl, rfl⟩
        by_cases hm : b = -9223372036854775808
        · have e3 : (b == -9223372036854775808) = true := by simpa using hm
          clear hm
          go_wp2_with fail
          refine (l01_awake w2).mono ?_
          rintro e w3 ⟨rfl, b3⟩
          go_wp2_with fail
          go_ret
          exact ⟨rfl, btr bb b3⟩
        · have e3 : (b == -9223372036854775808) = false := by simpa using hm
          have HNN := Lib.hid (fneg_neg hb hm)
          clear hm
          go_wp2_with fail
          refine (fix_neg b w2 hb).mono ?_
          rintro e w' ⟨rfl, rfl⟩
          go_wp2_with fail
          refine (fix_neg (fneg b) w2 (fneg_bd b)).mono ?_
          rintro e w' ⟨rfl, rfl⟩
          rw [HNN.out]
          go_wp2_with fail
          refine (l01_awake w2).mono ?_
          rintro e w3 ⟨rfl, b3⟩
          go_wp2_with fail
          go_ret
          exact ⟨rfl, btr bb b3⟩
      · have HA : Hid (fabs b = b) := Lib.hid (by rw [fabs, if_neg hbn])
        have e3 : (b == -9223372036854775808) = false := by simp; omega
        have HNN := Lib.hid (fneg_neg hb (by omega))
        go_wp2_with fail
        refine (fix_abs b w2 hb).mono ?_
        rintro e w' ⟨rfl, rfl⟩
        rw [HA.out]
        go_wp2_with fail
        refine (fix_abs b w2 hb).mono ?_
        rintro e w' ⟨rfl, rfl⟩
        rw [HA.out]
        go_wp2_with fail
        refine (fix_neg b w2 hb).mono ?_
        rintro e w' ⟨rfl, rfl⟩
        go_wp2_with fail
        refine (fix_neg (fneg b) w2 (fneg_bd b)).mono ?_
        rintro e w' ⟨rfl, rfl⟩
        rw [HNN.out]
        go_wp2_with fail
        refine (l01_awake w2).mono ?_
        rintro e w3 ⟨rfl, b3⟩
        go_wp2_with fail
        go_ret
        exact ⟨rfl, btr bb b3⟩
  · have d1 : decide (a < 2147483648) = false := by simpa using hr1
    go_wp2_with fail
    refine (fix_floor b w2 hb).mono ?_
    rintro e w' ⟨rfl, rfl⟩
    by_cases hbn : b < 0
    · have HA : Hid (fabs b = fneg b) := Lib.hid (by rw [fabs, if_pos hbn])
      have n0 : 0 ≤ fneg b := by have := fabs_nonneg hb; rw [HA.out] at this; exact this
      have e1 : (fneg b == b) = false := by simp; omega
      have e2 : (fneg b == fneg b) = true := by simp
      go_wp2_with fail
      refine (fix_abs b w2 hb).mono ?_
      rintro e w' ⟨rfl, rfl⟩
      rw [HA.out]
      go_wp2_with fail
      refine (fix_abs b w2 hb).mono ?_
      rintro e w' ⟨rfl, rfl⟩
      rw [HA.out]
      go_wp2_with fail
      refine (fix_abs b w2 hb).mono ?_
      rintro e w' ⟨rfl, rfl⟩
      rw [HA.out]
      go_wp2_with fail
      refine (fix_neg b w2 hb).mono ?_
      rintro e w' ⟨rfl, rfl⟩
      by_cases hm : b = -9223372036854775808
      · have e3 : (b == -9223372036854775808) = true := by simpa using hm
        clear hm
        go_wp2_with fail
        refine (l01_awake w2).mono ?_
        rintro e w3 ⟨rfl, b3⟩
        go_wp2_with fail
        go_ret
        exact ⟨rfl, btr bb b3⟩
      · have e3 : (b == -9223372036854775808) = false := by simpa using hm
        have HNN := Lib.hid (fneg_neg hb hm)
        clear hm
        go_wp2_with fail
        refine (fix_neg b w2 hb).mono ?_
        rintro e w' ⟨rfl, rfl⟩
        go_wp2_with fail
        refine (fix_neg (fneg b) w2 (fneg_bd b)).mono ?_
        rintro e w' ⟨rfl, rfl⟩
        rw [HNN.out]
        go_wp2_with fail
        refine (l01_awake w2).mono ?_
        rintro e w3 ⟨rfl, b3⟩
        go_wp2_with fail
        go_ret
        exact ⟨rfl, btr bb b3⟩
    · have HA : Hid (fabs b = b) := Lib.hid (by rw [fabs, if_neg hbn])
      have e3 : (b == -9223372036854775808) = false := by simp; omega
      have HNN := Lib.hid (fneg_neg hb (by omega))
      go_wp2_with fail
      refine (fix_abs b w2 hb).mono ?_
      rintro e w' ⟨rfl, rfl⟩
      rw [HA.out]
      go_wp2_with fail
      refine (fix_abs b w2 hb).mono ?_
      rintro e w' ⟨rfl, rfl⟩
      rw [HA.out]
      go_wp2_with fail
      refine (fix_neg b w2 hb).mono ?_
      rintro e w' ⟨rfl, rfl⟩
      go_wp2_with fail
      refine (fix_neg (fneg b) w2 (fneg_bd b)).mono ?_
      rintro e w' ⟨rfl, rfl⟩
      rw [HNN.out]
      go_wp2_with fail
      refine (l01_awake w2).mono ?_
      rintro e w3 ⟨rfl, b3⟩
      go_wp2_with fail
      go_ret
      exact ⟨rfl, btr bb b3⟩
end Go.Proofs.Ytlnpkoggnikkbaa
