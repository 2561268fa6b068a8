/- Plain laws of numbers with 32 bits behind the point. No program in sight. -/
import Derived.Test.YteibgdcieaiaiaaFixMath
namespace Go.Proofs.Yteibgdcieaiaiaa

theorem negB_comm (x y : Int) : negB x y = negB y x := by unfold negB; cases decide (x < 0) <;> cases decide (y < 0) <;> rfl
theorem fmul_comm (x y : Int) : fmul x y = fmul y x := by unfold fmul; rw [Int.mul_comm, negB_comm]
theorem rnd_exact {n d : Int} (hd : 0 < d) : rnd (n * d) d = n := by
  unfold rnd
  rw [Int.mul_emod_left, Int.mul_ediv_cancel _ (by omega), if_neg (by omega)]
theorem held_abs {x : Int} (h : I64 x) : heldI (absI x) (decide (x < 0)) = x := by
  obtain ⟨h1, h2⟩ := h
  by_cases hn : x < 0
  · have e : decide (x < 0) = true := by simpa using hn
    rw [e, absI, if_pos hn, heldI]
    by_cases hm : 9223372036854775808 ≤ -x
    · rw [if_pos hm]; show (-9223372036854775808 : Int) = x; omega
    · rw [if_neg hm]; show - -x = x; omega
  · have e : decide (x < 0) = false := by simpa using hn
    rw [e, absI, if_neg hn, heldI, if_neg (by omega)]; rfl
theorem fmul_one {x : Int} (h : I64 x) : fmul x 4294967296 = x := by
  have e : absI 4294967296 = 4294967296 := by decide
  have e2 : negB x 4294967296 = decide (x < 0) := by unfold negB; cases decide (x < 0) <;> rfl
  rw [fmul, e, e2, rnd_exact (by decide), held_abs h]
theorem fmul_zero (x : Int) : fmul x 0 = 0 := by
  have e : absI 0 = 0 := by decide
  rw [fmul, e, Int.mul_zero]
  have e2 : rnd 0 4294967296 = 0 := by decide
  rw [e2, heldI, if_neg (by decide)]
  split <;> rfl
theorem absI_pos {x : Int} (h : x ≠ 0) : 0 < absI x := by unfold absI; split <;> omega
theorem fdiv_one {x : Int} (h : I64 x) : fdiv x 4294967296 = x := by
  have e : absI 4294967296 = 4294967296 := by decide
  have e2 : negB x 4294967296 = decide (x < 0) := by unfold negB; cases decide (x < 0) <;> rfl
  rw [fdiv, if_neg (by decide), e, e2, rnd_exact (by decide), held_abs h]
theorem fdiv_self {x : Int} (h : x ≠ 0) : fdiv x x = 4294967296 := by
  have e2 : negB x x = false := by unfold negB; cases decide (x < 0) <;> rfl
  rw [fdiv, if_neg h, e2, Int.mul_comm, rnd_exact (absI_pos h)]
  rfl
theorem fadd_comm (x y : Int) : fadd x y = fadd y x := by unfold fadd; rw [Int.add_comm]
theorem fsub_self (x : Int) : fsub x x = 0 := by unfold fsub; rw [Int.sub_self]; decide
theorem fsub_min {x : Int} (hx : I64 x) (h : x < 0) : fsub x (-9223372036854775808) = x + 9223372036854775808 := by
  obtain ⟨h1, h2⟩ := hx
  rw [fsub, clampI, if_neg (by omega), if_neg (by omega)]; omega
theorem fsub_min_pos {x : Int} (h : 0 ≤ x) : fsub x (-9223372036854775808) = 9223372036854775807 := by
  rw [fsub, clampI, if_neg (by omega), if_pos (by omega)]
theorem fsub_add (x y : Int) : fsub x y = fadd x (-y) := by unfold fsub fadd; rw [Int.sub_eq_add_neg]

theorem clampI_mono {x y : Int} (h : x ≤ y) : clampI x ≤ clampI y := by unfold clampI; split <;> split <;> (try split) <;> (try split) <;> omega
theorem fadd_mono {x y z : Int} (h : x ≤ y) : fadd x z ≤ fadd y z := clampI_mono (by omega)
theorem rnd_mono {n m d : Int} (hd : 0 < d) (h : n ≤ m) : rnd n d ≤ rnd m d := by
  have e1 := Int.mul_ediv_add_emod n d
  have e2 := Int.mul_ediv_add_emod m d
  have a1 := Int.emod_nonneg n (b := d) (by omega)
  have a2 := Int.emod_nonneg m (b := d) (by omega)
  have hq : n / d ≤ m / d := Int.ediv_le_ediv hd h
  unfold rnd
  generalize n / d = p at *
  generalize m / d = q at *
  generalize n % d = r at *
  generalize m % d = s at *
  rcases Int.lt_or_eq_of_le hq with hlt | rfl
  · split <;> split <;> omega
  · have hrs : r ≤ s := by omega
    split <;> split <;> omega
/-- The product with a number that is not below 0. -/
def pmul (x k : Int) : Int := if x < 0 then -(min (rnd (-x * k) 4294967296) 9223372036854775808) else min (rnd (x * k) 4294967296) 9223372036854775807
theorem fmul_pos {x k : Int} (hk : 0 ≤ k) : fmul x k = pmul x k := by
  have ek : absI k = k := by unfold absI; rw [if_neg (by omega)]
  have en : negB x k = decide (x < 0) := by
    have : decide (k < 0) = false := by simpa using hk
    unfold negB; rw [this]; cases decide (x < 0) <;> rfl
  rw [fmul, ek, en]
  unfold pmul
  by_cases hx : x < 0
  · have e : decide (x < 0) = true := by simpa using hx
    rw [e, absI, if_pos hx, if_pos hx, heldI]
    split
    · show (-9223372036854775808 : Int) = _; omega
    · show - _ = _; omega
  · have e : decide (x < 0) = false := by simpa using hx
    rw [e, absI, if_neg hx, if_neg hx, heldI]
    split
    · show (9223372036854775807 : Int) = _; omega
    · show rnd _ _ = _; omega
theorem fmul_mono {x y k : Int} (hk : 0 ≤ k) (h : x ≤ y) : fmul x k ≤ fmul y k := by
  rw [fmul_pos hk, fmul_pos hk]
  unfold pmul
  by_cases hx : x < 0
  · rw [if_pos hx]
    have n1 : 0 ≤ rnd (-x * k) 4294967296 := rnd_nonneg (Int.mul_nonneg (by omega) hk) (by decide)
    by_cases hy : y < 0
    · rw [if_pos hy]
      have := rnd_mono (n := -y * k) (m := -x * k) (d := 4294967296) (by decide) (Int.mul_le_mul_of_nonneg_right (by omega) hk)
      omega
    · rw [if_neg hy]
      have n2 : 0 ≤ rnd (y * k) 4294967296 := rnd_nonneg (Int.mul_nonneg (by omega) hk) (by decide)
      omega
  · rw [if_neg hx, if_neg (by omega)]
    have := rnd_mono (n := x * k) (m := y * k) (d := 4294967296) (by decide) (Int.mul_le_mul_of_nonneg_right h hk)
    omega
end Go.Proofs.Yteibgdcieaiaiaa
