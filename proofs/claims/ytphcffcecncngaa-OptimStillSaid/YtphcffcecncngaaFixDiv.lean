/- The walks of fix.Div and fix.Ratio. -/
import Derived.Test.YtphcffcecncngaaDiv64
import Derived.Test.YtphcffcecncngaaFix2
namespace Go.Proofs.Ytphcffcecncngaa
open Go.RowKit

set_option maxHeartbeats 1000000 in
theorem fix_div (x y : Int) (w : World) (hx : I64 x) (hy : I64 y) :
    Calls Try.prog 68 #[.int .i64 x, .int .i64 y] w fun e w' => e = .returned (.int .i64 (fdiv x y)) ∧ Below w.heap.size w w' := by
  by_cases hy0 : y = 0
  · subst hy0
    by_cases hx0 : x = 0
    · subst hx0
      go_enter Try.func68, Try.ntmps68
      go_wp2_with fail
      go_ret
      exact ⟨ret_int (by decide), Below.refl _ _⟩
    · have hb : (x == 0) = false := by simpa using hx0
      have HE : Hid (fdiv x 0 = edgeI (decide (x < 0))) := Lib.hid (by simp [fdiv, hx0])
      clear hx0
      go_enter Try.func68, Try.ntmps68
      go_wp2_with fail
      refine (fix_edge _ w).mono ?_
      rintro e w' ⟨rfl, rfl⟩
      go_wp2_with fail
      go_ret
      exact ⟨ret_int HE.out.symm, Below.refl _ _⟩
  · have hb : (y == 0) = false := by simpa using hy0
    obtain ⟨a0, a1⟩ := absI_bd hx
    obtain ⟨b0, b1⟩ := absI_bd hy
    have b2 : 1 ≤ absI y := by unfold absI; split <;> omega
    have HF : Hid (fdiv x y = heldI (rnd (absI x * 4294967296) (absI y)) (negB x y)) := Lib.hid (by rw [fdiv, if_neg hy0])
    have CX := Lib.hid (fix_size x w hx)
    have CY := Lib.hid (fix_size y w hy)
    clear hy0
    have HN : Hid ((!decide (x < 0) == decide (y < 0)) = negB x y) := Lib.hid rfl
    generalize absI x = a at *
    generalize absI y = b at *
    have el : IntKind.u64.wrap (a * 4294967296) = a * 4294967296 % 18446744073709551616 := IntKind.wrap_u64 _
    have HS : Hid (a / 4294967296 * 18446744073709551616 + a * 4294967296 % 18446744073709551616 = a * 4294967296) := Lib.hid (by omega)
    have l0 : 0 ≤ a * 4294967296 % 18446744073709551616 := by omega
    have l1 : a * 4294967296 % 18446744073709551616 ≤ 18446744073709551615 := by omega
    have c0 : 0 ≤ a / 4294967296 := by omega
    have c1 : a / 4294967296 ≤ 2147483648 := by omega
    generalize hM : a * 4294967296 = M at *
    generalize M % 18446744073709551616 = lo at *
    generalize hH : a / 4294967296 = hi at *
    have HM : Hid (0 ≤ M) := Lib.hid (by omega)

    go_enter Try.func68, Try.ntmps68
    go_wp2_with fail
    refine CX.out.mono ?_
    rintro e w' ⟨rfl, rfl⟩
    go_wp2_with fail
    refine CY.out.mono ?_
    rintro e w' ⟨rfl, rfl⟩
    by_cases hbig : b ≤ hi
    · have HE : Hid (fdiv x y = edgeI (negB x y)) := Lib.hid (by
        have hs := HS.out
        have : 9223372036854775808 ≤ M / b := (Int.le_ediv_iff_mul_le (by omega)).2 (by
          have : 9223372036854775808 * b ≤ 9223372036854775808 * hi := Int.mul_le_mul_of_nonneg_left hbig (by decide)
          omega)
        rw [HF.out, heldI, if_pos]
        unfold rnd; split <;> omega)
      clear HF HS
      go_wp2_with fail
      rw [HN.out]
      refine (fix_edge _ w).mono ?_
      rintro e w' ⟨rfl, rfl⟩
      go_wp2_with fail
      go_ret
      exact ⟨ret_int HE.out.symm, Below.refl _ _⟩
    · have hlt : hi < b := by omega
      have CD := Lib.hid (bits_div64 hi lo b w c0 hlt (by omega) l0 l1)
      rw [HS.out] at CD
      have HR : Hid (rnd M b = if b < 2 * (M % b) ∨ (2 * (M % b) = b ∧ (M / b) % 2 = 1) then M / b + 1 else M / b) := Lib.hid rfl
      have q0 : 0 ≤ M / b := Int.ediv_nonneg HM.out (by omega)
      have q1 : M / b ≤ 18446744073709551615 := by
        have : M / b < 18446744073709551616 := Int.ediv_lt_of_lt_mul (by omega) (by
          have hs := HS.out
          have : 18446744073709551616 * (hi + 1) ≤ 18446744073709551616 * b := Int.mul_le_mul_of_nonneg_left (by omega) (by decide)
          omega)
        omega
      have r0 : 0 ≤ M % b := Int.emod_nonneg _ (by omega)
      have r1 : M % b < b := Int.emod_lt_of_pos _ (by omega)
      clear hbig HS
      generalize M / b = q at *
      generalize M % b = r at *
      have ho := u64_odd q q0 q1
      go_wp2_with fail
      refine CD.out.mono ?_
      rintro e w1 ⟨rfl, hb1⟩
      clear CD CX CY
      by_cases htop : 9223372036854775808 ≤ q
      · have HE : Hid (fdiv x y = edgeI (negB x y)) := Lib.hid (by
          rw [HF.out, heldI, if_pos]
          rw [HR.out]; split <;> omega)
        go_wp2_with fail
        rw [HN.out]
        refine (fix_edge _ w1).mono ?_
        rintro e w' ⟨rfl, rfl⟩
        go_wp2_with fail
        go_ret
        exact ⟨ret_int HE.out.symm, hb1⟩
      · by_cases hup : b < 2 * r ∨ (2 * r = b ∧ q % 2 = 1)
        · have HE : Hid (fdiv x y = heldI (q + 1) (negB x y)) := Lib.hid (by rw [HF.out, HR.out, if_pos hup])
          rcases hup with hup | ⟨hup, hodd⟩
          · have d1 : decide (b - r < r) = true := by simp; omega
            go_wp2_with fail
            rw [HN.out]
            refine (fix_signed (q + 1) _ w1 (by omega) (by omega)).mono ?_
            rintro e w' ⟨rfl, rfl⟩
            go_wp2_with fail
            go_ret
            exact ⟨ret_int HE.out.symm, hb1⟩
          · have d1 : decide (b - r < r) = false := by simp; omega
            have d2 : (r == b - r) = true := by simp; omega
            rw [hodd] at ho
            clear hup hodd
            go_wp2_with fail
            rw [HN.out]
            refine (fix_signed (q + 1) _ w1 (by omega) (by omega)).mono ?_
            rintro e w' ⟨rfl, rfl⟩
            go_wp2_with fail
            go_ret
            exact ⟨ret_int HE.out.symm, hb1⟩
        · have HE : Hid (fdiv x y = heldI q (negB x y)) := Lib.hid (by rw [HF.out, HR.out, if_neg hup])
          by_cases hr2 : 2 * r = b
          · have d1 : decide (b - r < r) = false := by simp; omega
            have d2 : (r == b - r) = true := by simp; omega
            have hodd : q % 2 = 0 := by omega
            rw [hodd] at ho
            clear hup hodd hr2
            go_wp2_with fail
            rw [HN.out]
            refine (fix_signed q _ w1 (by omega) (by omega)).mono ?_
            rintro e w' ⟨rfl, rfl⟩
            go_wp2_with fail
            go_ret
            exact ⟨ret_int HE.out.symm, hb1⟩
          · have d1 : decide (b - r < r) = false := by simp; omega
            have d2 : (r == b - r) = false := by simp; omega
            clear hup hr2
            go_wp2_with fail
            rw [HN.out]
            refine (fix_signed q _ w1 (by omega) (by omega)).mono ?_
            rintro e w' ⟨rfl, rfl⟩
            go_wp2_with fail
            go_ret
            exact ⟨ret_int HE.out.symm, hb1⟩
end Go.Proofs.Ytphcffcecncngaa
