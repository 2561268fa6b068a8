/- The walk of the statement FixOrder. -/
import Derived.Test.YtlnpkoggnikkbaaFixProducts
namespace Go.Proofs.Ytlnpkoggnikkbaa
open Go.RowKit

theorem clamp_order {z a b : Int} (h : a ≤ b) : a ≤ fclamp z a b ∧ fclamp z a b ≤ b ∧ (fclamp z a b = z ∨ fclamp z a b = a ∨ fclamp z a b = b) ∧ (a ≤ z → z ≤ b → fclamp z a b = z) := by
  unfold fclamp; split <;> (try split) <;> omega
set_option maxHeartbeats 2000000 in
theorem fixOrder_calls (x y z : Int) (w : World) (hx : I64 x) (hy : I64 y) (hz : I64 z) : Calls Try.prog 14 #[.int .i64 x, .int .i64 y, .int .i64 z] w (LawTrue w) := by
  by_cases hxy : x ≤ y
  · by_cases hz0 : 0 ≤ z
    · have m1 : fmul x z ≤ fmul y z := fmul_mono (by omega) (by omega)
      have g1 : min x y = x := by omega
      have g2 : max x y = y := by omega
      have g3 : max z 0 = z := by omega
      have m2 : fadd x z ≤ fadd y z := fadd_mono (by omega)
      obtain ⟨c1, c2, c3, c4⟩ := clamp_order (z := z) (a := x) (b := y) (by omega)
      have HC3 := Lib.hid c3
      have HC4 := Lib.hid c4
      clear c3 c4
      go_enter Try.func14, Try.ntmps14
      go_wp2_with fail
      refine (fix_clamp z x y w).mono ?_
      rintro e w' ⟨rfl, rfl⟩
      go_wp2_with fail
      refine (fix_mul x z w (by first | exact hx | exact hy) (by first | exact hz | exact i64_of (by decide) (by decide))).mono ?_
      rintro e w' ⟨rfl, rfl⟩
      go_wp2_with fail
      refine (fix_mul y z w (by first | exact hx | exact hy) (by first | exact hz | exact i64_of (by decide) (by decide))).mono ?_
      rintro e w' ⟨rfl, rfl⟩
      go_wp2_with fail
      refine (fix_add x z w (by first | exact hx | exact hy) hz).mono ?_
      rintro e w' ⟨rfl, rfl⟩
      go_wp2_with fail
      refine (fix_add y z w (by first | exact hx | exact hy) hz).mono ?_
      rintro e w' ⟨rfl, rfl⟩
      generalize fmul x z = p1 at *
      generalize fmul y z = p2 at *
      generalize fadd x z = s1 at *
      generalize fadd y z = s2 at *
      generalize fclamp z x y = c at *
      have d0 : decide (p1 ≤ p2) = true := by simpa using m1
      have d1 : decide (s1 ≤ s2) = true := by simpa using m2
      have d2 : decide (x ≤ c) = true := by simpa using c1
      have d3 : decide (c ≤ y) = true := by simpa using c2
      clear m1 m2 c1 c2
      by_cases hcz : c = z
      · subst hcz
        have e1 : (c == c) = true := by simp
        by_cases hlt : c < x
        · have f1 : decide (c < x) = true := by simpa using hlt
          go_wp2_with fail
          refine (l01_awake w).mono ?_
          rintro e w2 ⟨rfl, b2⟩
          go_wp2_with fail
          go_ret
          exact ⟨rfl, b2⟩
        · have f1 : decide (c < x) = false := by simpa using hlt
          by_cases hgt : y < c
          · have f2 : decide (y < c) = true := by simpa using hgt
            go_wp2_with fail
            refine (l01_awake w).mono ?_
            rintro e w2 ⟨rfl, b2⟩
            go_wp2_with fail
            go_ret
            exact ⟨rfl, b2⟩
          · have f2 : decide (y < c) = false := by simpa using hgt
            go_wp2_with fail
            refine (l01_awake w).mono ?_
            rintro e w2 ⟨rfl, b2⟩
            go_wp2_with fail
            go_ret
            exact ⟨rfl, b2⟩
      · have e1 : (c == z) = false := by simpa using hcz
        have hout : ¬ (x ≤ z ∧ z ≤ y) := fun h => hcz (HC4.out h.1 h.2)
        have hc2 : c = x ∨ c = y := by rcases HC3.out with h | h | h; exact absurd h hcz; exact .inl h; exact .inr h
        by_cases hca : c = x
        · have e2 : (c == x) = true := by simpa using hca
          have HCA := Lib.hid hca
          by_cases hlt : z < x
          · have f1 : decide (z < x) = true := by simpa using hlt
            clear hca hcz hc2 hout
            go_wp2_with fail
            refine (l01_awake w).mono ?_
            rintro e w2 ⟨rfl, b2⟩
            go_wp2_with fail
            go_ret
            exact ⟨rfl, b2⟩
          · have f1 : decide (z < x) = false := by simpa using hlt
            have f2 : decide (y < z) = true := by simp; omega
            clear hca hcz hc2 hout
            go_wp2_with fail
            refine (l01_awake w).mono ?_
            rintro e w2 ⟨rfl, b2⟩
            go_wp2_with fail
            go_ret
            exact ⟨rfl, b2⟩
        · have e2 : (c == x) = false := by simpa using hca
          have e3 : (c == y) = true := by simp; rcases hc2 with h | h; exact absurd h hca; exact h
          by_cases hlt : z < x
          · have f1 : decide (z < x) = true := by simpa using hlt
            clear hca hcz hc2 hout
            go_wp2_with fail
            refine (l01_awake w).mono ?_
            rintro e w2 ⟨rfl, b2⟩
            go_wp2_with fail
            go_ret
            exact ⟨rfl, b2⟩
          · have f1 : decide (z < x) = false := by simpa using hlt
            have f2 : decide (y < z) = true := by simp; omega
            clear hca hcz hc2 hout
            go_wp2_with fail
            refine (l01_awake w).mono ?_
            rintro e w2 ⟨rfl, b2⟩
            go_wp2_with fail
            go_ret
            exact ⟨rfl, b2⟩
    · have m1 : fmul x 0 ≤ fmul y 0 := fmul_mono (by omega) (by omega)
      have g1 : min x y = x := by omega
      have g2 : max x y = y := by omega
      have g3 : max z 0 = 0 := by omega
      have m2 : fadd x z ≤ fadd y z := fadd_mono (by omega)
      obtain ⟨c1, c2, c3, c4⟩ := clamp_order (z := z) (a := x) (b := y) (by omega)
      have HC3 := Lib.hid c3
      have HC4 := Lib.hid c4
      clear c3 c4
      go_enter Try.func14, Try.ntmps14
      go_wp2_with fail
      refine (fix_clamp z x y w).mono ?_
      rintro e w' ⟨rfl, rfl⟩
      go_wp2_with fail
      refine (fix_mul x 0 w (by first | exact hx | exact hy) (by first | exact hz | exact i64_of (by decide) (by decide))).mono ?_
      rintro e w' ⟨rfl, rfl⟩
      go_wp2_with fail
      refine (fix_mul y 0 w (by first | exact hx | exact hy) (by first | exact hz | exact i64_of (by decide) (by decide))).mono ?_
      rintro e w' ⟨rfl, rfl⟩
      go_wp2_with fail
      refine (fix_add x z w (by first | exact hx | exact hy) hz).mono ?_
      rintro e w' ⟨rfl, rfl⟩
      go_wp2_with fail
      refine (fix_add y z w (by first | exact hx | exact hy) hz).mono ?_
      rintro e w' ⟨rfl, rfl⟩
      generalize fmul x 0 = p1 at *
      generalize fmul y 0 = p2 at *
      generalize fadd x z = s1 at *
      generalize fadd y z = s2 at *
      generalize fclamp z x y = c at *
      have d0 : decide (p1 ≤ p2) = true := by simpa using m1
      have d1 : decide (s1 ≤ s2) = true := by simpa using m2
      have d2 : decide (x ≤ c) = true := by simpa using c1
      have d3 : decide (c ≤ y) = true := by simpa using c2
      clear m1 m2 c1 c2
      by_cases hcz : c = z
      · subst hcz
        have e1 : (c == c) = true := by simp
        by_cases hlt : c < x
        · have f1 : decide (c < x) = true := by simpa using hlt
          go_wp2_with fail
          refine (l01_awake w).mono ?_
          rintro e w2 ⟨rfl, b2⟩
          go_wp2_with fail
          go_ret
          exact ⟨rfl, b2⟩
        · have f1 : decide (c < x) = false := by simpa using hlt
          by_cases hgt : y < c
          · have f2 : decide (y < c) = true := by simpa using hgt
            go_wp2_with fail
            refine (l01_awake w).mono ?_
            rintro e w2 ⟨rfl, b2⟩
            go_wp2_with fail
            go_ret
            exact ⟨rfl, b2⟩
          · have f2 : decide (y < c) = false := by simpa using hgt
            go_wp2_with fail
            refine (l01_awake w).mono ?_
            rintro e w2 ⟨rfl, b2⟩
            go_wp2_with fail
            go_ret
            exact ⟨rfl, b2⟩
      · have e1 : (c == z) = false := by simpa using hcz
        have hout : ¬ (x ≤ z ∧ z ≤ y) := fun h => hcz (HC4.out h.1 h.2)
        have hc2 : c = x ∨ c = y := by rcases HC3.out with h | h | h; exact absurd h hcz; exact .inl h; exact .inr h
        by_cases hca : c = x
        · have e2 : (c == x) = true := by simpa using hca
          have HCA := Lib.hid hca
          by_cases hlt : z < x
          · have f1 : decide (z < x) = true := by simpa using hlt
            clear hca hcz hc2 hout
            go_wp2_with fail
            refine (l01_awake w).mono ?_
            rintro e w2 ⟨rfl, b2⟩
            go_wp2_with fail
            go_ret
            exact ⟨rfl, b2⟩
          · have f1 : decide (z < x) = false := by simpa using hlt
            have f2 : decide (y < z) = true := by simp; omega
            clear hca hcz hc2 hout
            go_wp2_with fail
            refine (l01_awake w).mono ?_
            rintro e w2 ⟨rfl, b2⟩
            go_wp2_with fail
            go_ret
            exact ⟨rfl, b2⟩
        · have e2 : (c == x) = false := by simpa using hca
          have e3 : (c == y) = true := by simp; rcases hc2 with h | h; exact absurd h hca; exact h
          by_cases hlt : z < x
          · have f1 : decide (z < x) = true := by simpa using hlt
            clear hca hcz hc2 hout
            go_wp2_with fail
            refine (l01_awake w).mono ?_
            rintro e w2 ⟨rfl, b2⟩
            go_wp2_with fail
            go_ret
            exact ⟨rfl, b2⟩
          · have f1 : decide (z < x) = false := by simpa using hlt
            have f2 : decide (y < z) = true := by simp; omega
            clear hca hcz hc2 hout
            go_wp2_with fail
            refine (l01_awake w).mono ?_
            rintro e w2 ⟨rfl, b2⟩
            go_wp2_with fail
            go_ret
            exact ⟨rfl, b2⟩
  · by_cases hz0 : 0 ≤ z
    · have m1 : fmul y z ≤ fmul x z := fmul_mono (by omega) (by omega)
      have g1 : min x y = y := by omega
      have g2 : max x y = x := by omega
      have g3 : max z 0 = z := by omega
      have m2 : fadd y z ≤ fadd x z := fadd_mono (by omega)
      obtain ⟨c1, c2, c3, c4⟩ := clamp_order (z := z) (a := y) (b := x) (by omega)
      have HC3 := Lib.hid c3
      have HC4 := Lib.hid c4
      clear c3 c4
      go_enter Try.func14, Try.ntmps14
      go_wp2_with fail
      refine (fix_clamp z y x w).mono ?_
      rintro e w' ⟨rfl, rfl⟩
      go_wp2_with fail
      refine (fix_mul y z w (by first | exact hx | exact hy) (by first | exact hz | exact i64_of (by decide) (by decide))).mono ?_
      rintro e w' ⟨rfl, rfl⟩
      go_wp2_with fail
      refine (fix_mul x z w (by first | exact hx | exact hy) (by first | exact hz | exact i64_of (by decide) (by decide))).mono ?_
      rintro e w' ⟨rfl, rfl⟩
      go_wp2_with fail
      refine (fix_add y z w (by first | exact hx | exact hy) hz).mono ?_
      rintro e w' ⟨rfl, rfl⟩
      go_wp2_with fail
      refine (fix_add x z w (by first | exact hx | exact hy) hz).mono ?_
      rintro e w' ⟨rfl, rfl⟩
      generalize fmul y z = p1 at *
      generalize fmul x z = p2 at *
      generalize fadd y z = s1 at *
      generalize fadd x z = s2 at *
      generalize fclamp z y x = c at *
      have d0 : decide (p1 ≤ p2) = true := by simpa using m1
      have d1 : decide (s1 ≤ s2) = true := by simpa using m2
      have d2 : decide (y ≤ c) = true := by simpa using c1
      have d3 : decide (c ≤ x) = true := by simpa using c2
      clear m1 m2 c1 c2
      by_cases hcz : c = z
      · subst hcz
        have e1 : (c == c) = true := by simp
        by_cases hlt : c < y
        · have f1 : decide (c < y) = true := by simpa using hlt
          go_wp2_with fail
          refine (l01_awake w).mono ?_
          rintro e w2 ⟨rfl, b2⟩
          go_wp2_with fail
          go_ret
          exact ⟨rfl, b2⟩
        · have f1 : decide (c < y) = false := by simpa using hlt
          by_cases hgt : x < c
          · have f2 : decide (x < c) = true := by simpa using hgt
            go_wp2_with fail
            refine (l01_awake w).mono ?_
            rintro e w2 ⟨rfl, b2⟩
            go_wp2_with fail
            go_ret
            exact ⟨rfl, b2⟩
          · have f2 : decide (x < c) = false := by simpa using hgt
            go_wp2_with fail
            refine (l01_awake w).mono ?_
            rintro e w2 ⟨rfl, b2⟩
            go_wp2_with fail
            go_ret
            exact ⟨rfl, b2⟩
      · have e1 : (c == z) = false := by simpa using hcz
        have hout : ¬ (y ≤ z ∧ z ≤ x) := fun h => hcz (HC4.out h.1 h.2)
        have hc2 : c = y ∨ c = x := by rcases HC3.out with h | h | h; exact absurd h hcz; exact .inl h; exact .inr h
        by_cases hca : c = y
        · have e2 : (c == y) = true := by simpa using hca
          have HCA := Lib.hid hca
          by_cases hlt : z < y
          · have f1 : decide (z < y) = true := by simpa using hlt
            clear hca hcz hc2 hout
            go_wp2_with fail
            refine (l01_awake w).mono ?_
            rintro e w2 ⟨rfl, b2⟩
            go_wp2_with fail
            go_ret
            exact ⟨rfl, b2⟩
          · have f1 : decide (z < y) = false := by simpa using hlt
            have f2 : decide (x < z) = true := by simp; omega
            clear hca hcz hc2 hout
            go_wp2_with fail
            refine (l01_awake w).mono ?_
            rintro e w2 ⟨rfl, b2⟩
            go_wp2_with fail
            go_ret
            exact ⟨rfl, b2⟩
        · have e2 : (c == y) = false := by simpa using hca
          have e3 : (c == x) = true := by simp; rcases hc2 with h | h; exact absurd h hca; exact h
          by_cases hlt : z < y
          · have f1 : decide (z < y) = true := by simpa using hlt
            clear hca hcz hc2 hout
            go_wp2_with fail
            refine (l01_awake w).mono ?_
            rintro e w2 ⟨rfl, b2⟩
            go_wp2_with fail
            go_ret
            exact ⟨rfl, b2⟩
          · have f1 : decide (z < y) = false := by simpa using hlt
            have f2 : decide (x < z) = true := by simp; omega
            clear hca hcz hc2 hout
            go_wp2_with fail
            refine (l01_awake w).mono ?_
            rintro e w2 ⟨rfl, b2⟩
            go_wp2_with fail
            go_ret
            exact ⟨rfl, b2⟩
    · have m1 : fmul y 0 ≤ fmul x 0 := fmul_mono (by omega) (by omega)
      have g1 : min x y = y := by omega
      have g2 : max x y = x := by omega
      have g3 : max z 0 = 0 := by omega
      have m2 : fadd y z ≤ fadd x z := fadd_mono (by omega)
      obtain ⟨c1, c2, c3, c4⟩ := clamp_order (z := z) (a := y) (b := x) (by omega)
      have HC3 := Lib.hid c3
      have HC4 := Lib.hid c4
      clear c3 c4
      go_enter Try.func14, Try.ntmps14
      go_wp2_with fail
      refine (fix_clamp z y x w).mono ?_
      rintro e w' ⟨rfl, rfl⟩
      go_wp2_with fail
      refine (fix_mul y 0 w (by first | exact hx | exact hy) (by first | exact hz | exact i64_of (by decide) (by decide))).mono ?_
      rintro e w' ⟨rfl, rfl⟩
      go_wp2_with fail
      refine (fix_mul x 0 w (by first | exact hx | exact hy) (by first | exact hz | exact i64_of (by decide) (by decide))).mono ?_
      rintro e w' ⟨rfl, rfl⟩
      go_wp2_with fail
      refine (fix_add y z w (by first | exact hx | exact hy) hz).mono ?_
      rintro e w' ⟨rfl, rfl⟩
      go_wp2_with fail
      refine (fix_add x z w (by first | exact hx | exact hy) hz).mono ?_
      rintro e w' ⟨rfl, rfl⟩
      generalize fmul y 0 = p1 at *
      generalize fmul x 0 = p2 at *
      generalize fadd y z = s1 at *
      generalize fadd x z = s2 at *
      generalize fclamp z y x = c at *
      have d0 : decide (p1 ≤ p2) = true := by simpa using m1
      have d1 : decide (s1 ≤ s2) = true := by simpa using m2
      have d2 : decide (y ≤ c) = true := by simpa using c1
      have d3 : decide (c ≤ x) = true := by simpa using c2
      clear m1 m2 c1 c2
      by_cases hcz : c = z
      · subst hcz
        have e1 : (c == c) = true := by simp
        by_cases hlt : c < y
        · have f1 : decide (c < y) = true := by simpa using hlt
          go_wp2_with fail
          refine (l01_awake w).mono ?_
          rintro e w2 ⟨rfl, b2⟩
          go_wp2_with fail
          go_ret
          exact ⟨rfl, b2⟩
        · have f1 : decide (c < y) = false := by simpa using hlt
          by_cases hgt : x < c
          · have f2 : decide (x < c) = true := by simpa using hgt
            go_wp2_with fail
            refine (l01_awake w).mono ?_
            rintro e w2 ⟨rfl, b2⟩
            go_wp2_with fail
            go_ret
            exact ⟨rfl, b2⟩
          · have f2 : decide (x < c) = false := by simpa using hgt
            go_wp2_with fail
            refine (l01_awake w).mono ?_
            rintro e w2 ⟨rfl, b2⟩
            go_wp2_with fail
            go_ret
            exact ⟨rfl, b2⟩
      · have e1 : (c == z) = false := by simpa using hcz
        have hout : ¬ (y ≤ z ∧ z ≤ x) := fun h => hcz (HC4.out h.1 h.2)
        have hc2 : c = y ∨ c = x := by rcases HC3.out with h | h | h; exact absurd h hcz; exact .inl h; exact .inr h
        by_cases hca : c = y
        · have e2 : (c == y) = true := by simpa using hca
          have HCA := Lib.hid hca
          by_cases hlt : z < y
          · have f1 : decide (z < y) = true := by simpa using hlt
            clear hca hcz hc2 hout
            go_wp2_with fail
            refine (l01_awake w).mono ?_
            rintro e w2 ⟨rfl, b2⟩
            go_wp2_with fail
            go_ret
            exact ⟨rfl, b2⟩
          · have f1 : decide (z < y) = false := by simpa using hlt
            have f2 : decide (x < z) = true := by simp; omega
            clear hca hcz hc2 hout
            go_wp2_with fail
            refine (l01_awake w).mono ?_
            rintro e w2 ⟨rfl, b2⟩
            go_wp2_with fail
            go_ret
            exact ⟨rfl, b2⟩
        · have e2 : (c == y) = false := by simpa using hca
          have e3 : (c == x) = true := by simp; rcases hc2 with h | h; exact absurd h hca; exact h
          by_cases hlt : z < y
          · have f1 : decide (z < y) = true := by simpa using hlt
            clear hca hcz hc2 hout
            go_wp2_with fail
            refine (l01_awake w).mono ?_
            rintro e w2 ⟨rfl, b2⟩
            go_wp2_with fail
            go_ret
            exact ⟨rfl, b2⟩
          · have f1 : decide (z < y) = false := by simpa using hlt
            have f2 : decide (x < z) = true := by simp; omega
            clear hca hcz hc2 hout
            go_wp2_with fail
            refine (l01_awake w).mono ?_
            rintro e w2 ⟨rfl, b2⟩
            go_wp2_with fail
            go_ret
            exact ⟨rfl, b2⟩
end Go.Proofs.Ytlnpkoggnikkbaa
