/- Plain facts on long division by one digit of 32 bits. No program in sight. -/
namespace Go.Proofs.Ytphcffcecncngaa

/-- The true digit. -/
def digit (T y : Int) : Int := T / y

/-- What holds at the head of the loop that corrects a digit: y = y1 * B + y0, T = u * B + d. -/
structure DigOk (y1 y0 u d q r : Int) : Prop where
  sum : q * y1 + r = u
  low : (u * 4294967296 + d) / (y1 * 4294967296 + y0) ≤ q
  r0 : 0 ≤ r
  q0 : 0 ≤ q
  high : q ≤ 4294967298

section
variable {y1 y0 u d q r : Int}
theorem dig_lt (h1 : 2147483648 ≤ y1) (h3 : 0 ≤ y0) (hu : u < y1 * 4294967296 + y0) (hd : d < 4294967296) :
    (u * 4294967296 + d) / (y1 * 4294967296 + y0) < 4294967296 := by
  apply Int.ediv_lt_of_lt_mul (by omega)
  omega
theorem dig_start (h1 : 2147483648 ≤ y1) (h2 : y1 < 4294967296) (h3 : 0 ≤ y0) (h4 : y0 < 4294967296) (hu0 : 0 ≤ u) (hu : u < y1 * 4294967296 + y0) (hd0 : 0 ≤ d) (hd : d < 4294967296) :
    DigOk y1 y0 u d (u / y1) (u - u / y1 * y1) := by
  have e := Int.mul_ediv_add_emod u y1
  have r0 := Int.emod_nonneg u (b := y1) (by omega)
  have r1 := Int.emod_lt_of_pos u (b := y1) (by omega)
  have q0 : 0 ≤ u / y1 := Int.ediv_nonneg hu0 (by omega)
  generalize hq : u / y1 = q at *
  generalize u % y1 = r at *
  have e2 : q * y1 = y1 * q := Int.mul_comm _ _
  refine ⟨by omega, ?_, by omega, q0, ?_⟩
  · -- T < (q + 1) * y
    apply Int.le_of_lt_add_one
    apply Int.ediv_lt_of_lt_mul (by omega)
    have e3 : (q + 1) * (y1 * 4294967296 + y0) = (y1 * q) * 4294967296 + y1 * 4294967296 + (q + 1) * y0 := by
      rw [Int.mul_add, ← Int.mul_assoc, Int.add_mul, Int.one_mul, Int.mul_comm q y1, Int.add_mul]
    have e4 : 0 ≤ (q + 1) * y0 := Int.mul_nonneg (by omega) h3
    omega
  · -- u < (y1 + 1) * B
    by_cases hc : q ≤ 4294967298
    · exact hc
    · exfalso
      have : 4294967299 * y1 ≤ q * y1 := Int.mul_le_mul_of_nonneg_right (by omega) (by omega)
      omega
/-- The test says no: the digit is found. -/
theorem dig_done (h : DigOk y1 y0 u d q r) (h1 : 2147483648 ≤ y1) (h3 : 0 ≤ y0) (ht : q * y0 ≤ 4294967296 * r + d) : q = (u * 4294967296 + d) / (y1 * 4294967296 + y0) := by
  refine Int.le_antisymm ?_ h.low
  apply (Int.le_ediv_iff_mul_le (by omega)).2
  have e : q * (y1 * 4294967296 + y0) = q * y1 * 4294967296 + q * y0 := by rw [Int.mul_add, ← Int.mul_assoc]
  have := h.sum
  omega
/-- The test says yes: the digit is less. -/
theorem dig_more (h : DigOk y1 y0 u d q r) (h1 : 2147483648 ≤ y1) (h3 : 0 ≤ y0) (hu : u < y1 * 4294967296 + y0) (hd : d < 4294967296) (ht : 4294967296 ≤ q ∨ 4294967296 * r + d < q * y0) :
    (u * 4294967296 + d) / (y1 * 4294967296 + y0) ≤ q - 1 := by
  have hl := dig_lt h1 h3 hu hd
  rcases ht with ht | ht
  · omega
  · have : (u * 4294967296 + d) / (y1 * 4294967296 + y0) < q := by
      apply Int.ediv_lt_of_lt_mul (by omega)
      have e : q * (y1 * 4294967296 + y0) = q * y1 * 4294967296 + q * y0 := by rw [Int.mul_add, ← Int.mul_assoc]
      have := h.sum
      omega
    omega
theorem dig_next (h : DigOk y1 y0 u d q r) (h1 : 2147483648 ≤ y1) (hd0 : 0 ≤ (u * 4294967296 + d) / (y1 * 4294967296 + y0)) (hm : (u * 4294967296 + d) / (y1 * 4294967296 + y0) ≤ q - 1) : DigOk y1 y0 u d (q - 1) (r + y1) := by
  refine ⟨?_, hm, ?_, by omega, ?_⟩
  · have := h.sum
    rw [Int.sub_mul, Int.one_mul]; omega
  · have := h.r0; omega
  · have := h.high; omega
/-- The remainder has grown wide: the digit is found. -/
theorem dig_wide (h : DigOk y1 y0 u d q r) (h1 : 2147483648 ≤ y1) (h3 : 0 ≤ y0) (h4 : y0 < 4294967296) (hd0 : 0 ≤ d) (hq : q ≤ 4294967297) (hr : 4294967296 ≤ r) : q = (u * 4294967296 + d) / (y1 * 4294967296 + y0) := by
  apply dig_done h h1 h3
  have : q * y0 ≤ 4294967297 * 4294967295 := Int.mul_le_mul hq (by omega) h3 (by omega)
  omega
end

/-- How far a number must be moved up so that its first bit is the highest. -/
theorem pow_step (k : Nat) : (2 : Int) ^ (k + 1) = 2 * 2 ^ k := by rw [Int.pow_succ, Int.mul_comm]

/-- What moving up does. -/
theorem move_up {hi lo y D E : Int} (hD : 0 < D) (hE : 0 < E) (hDE : D * E = 18446744073709551616) (h0 : 0 ≤ hi) (h1 : hi < y) (h3 : 0 ≤ lo) (h4 : lo ≤ 18446744073709551615) (hY : y * D ≤ 18446744073709551615) :
    0 ≤ hi * D ∧ hi * D ≤ 18446744073709551615 ∧ 0 ≤ lo / E ∧ lo / E < D ∧ 0 ≤ hi * D + lo / E ∧ hi * D + lo / E < y * D ∧
      (hi * 18446744073709551616 + lo) * D = (hi * D + lo / E) * 18446744073709551616 + lo * D % 18446744073709551616 := by
  have a1 : 0 ≤ hi * D := Int.mul_nonneg h0 (by omega)
  have a2 : (hi + 1) * D ≤ y * D := Int.mul_le_mul_of_nonneg_right (by omega) (by omega)
  rw [Int.add_mul, Int.one_mul] at a2
  have a3 : 0 ≤ lo / E := Int.ediv_nonneg h3 (by omega)
  have a4 : lo / E < D := by
    apply Int.ediv_lt_of_lt_mul hE
    omega
  refine ⟨a1, by omega, a3, a4, by omega, by omega, ?_⟩
  have a5 : lo * D / 18446744073709551616 = lo / E := by
    rw [← hDE, Int.mul_comm D E, Int.mul_ediv_mul_of_pos_left _ _ hD]
  have a6 := Int.mul_ediv_add_emod (lo * D) 18446744073709551616
  rw [a5] at a6
  rw [Int.add_mul, Int.mul_assoc, Int.mul_comm 18446744073709551616 D, ← Int.mul_assoc]
  omega
/-- The last step: the two digits are the quotient; the rest, moved down, is the remainder. -/
theorem move_down {N y D u L q1 q0 v v2 : Int} (hD : 0 < D) (hy : 0 < y) (hN : N * D = u * 18446744073709551616 + L)
    (h1 : q1 * (y * D) + v = u * 4294967296 + L / 4294967296) (h2 : q0 * (y * D) + v2 = v * 4294967296 + L % 4294967296) (hv0 : 0 ≤ v2) (hv1 : v2 < y * D) :
    q1 * 4294967296 + q0 = N / y ∧ v2 / D = N % y := by
  have e : N * D = (q1 * 4294967296 + q0) * (y * D) + v2 := by
    have e1 : (q1 * 4294967296 + q0) * (y * D) = q1 * (y * D) * 4294967296 + q0 * (y * D) := by
      rw [Int.add_mul, Int.mul_assoc, Int.mul_comm 4294967296 (y * D), ← Int.mul_assoc]
    have : L = L / 4294967296 * 4294967296 + L % 4294967296 := by omega
    omega
  generalize q1 * 4294967296 + q0 = q at *
  have hYD : 0 < y * D := Int.mul_pos hy hD
  have hq : N * D / (y * D) = q := by
    rw [e, Int.add_comm, Int.add_mul_ediv_right _ _ (by omega), Int.ediv_eq_zero_of_lt hv0 hv1, Int.zero_add]
  rw [Int.mul_ediv_mul_of_pos_left _ _ hD] at hq
  refine ⟨hq.symm, ?_⟩
  have e2 : v2 = (N - q * y) * D := by rw [Int.sub_mul, Int.mul_assoc]; omega
  rw [e2, Int.mul_ediv_cancel _ (by omega), Int.emod_def, hq, Int.mul_comm]
theorem dig_rest {T Y q : Int} (hq : q = T / Y) (hY : 0 < Y) : 0 ≤ T - q * Y ∧ T - q * Y < Y := by
  subst hq
  have e := Int.emod_def T Y
  rw [Int.mul_comm] at e
  have a := Int.emod_nonneg T (b := Y) (by omega)
  have b := Int.emod_lt_of_pos T hY
  omega
theorem dig_first {u y1 : Int} (h0 : 0 ≤ u) (h1 : 1 ≤ y1) : 0 ≤ u / y1 * y1 ∧ u / y1 * y1 ≤ u ∧ u - u / y1 * y1 < y1 := by
  have e := Int.emod_def u y1
  rw [Int.mul_comm] at e
  have a := Int.emod_nonneg u (b := y1) (by omega)
  have b := Int.emod_lt_of_pos u (b := y1) (by omega)
  exact ⟨Int.mul_nonneg (Int.ediv_nonneg h0 (by omega)) (by omega), by omega, by omega⟩
/-- Long division bit by bit: what has come of the bits of M down to bit k. -/
structure DivSt (M b : Int) (k : Nat) (r n : Int) (o : Bool) : Prop where
  rest : r = M / 2 ^ k % b
  quo : n = M / 2 ^ k / b % 18446744073709551616
  over : o = decide (18446744073709551616 ≤ M / 2 ^ k / b)
theorem shr_bit (M : Int) (k : Nat) : M / 2 ^ k = 2 * (M / 2 ^ (k + 1)) + M / 2 ^ k % 2 := by
  rw [Int.pow_succ, ← Int.ediv_ediv_of_nonneg (by have := Int.pow_pos (n := 2) (m := k) (by decide); omega)]
  omega
theorem div_step {M b : Int} {k : Nat} {r n : Int} {o : Bool} (hM : 0 ≤ M) (hb : 1 ≤ b) (h : DivSt M b (k + 1) r n o) :
    (b ≤ 2 * r + M / 2 ^ k % 2 → DivSt M b k (2 * r + M / 2 ^ k % 2 - b) (n * 2 % 18446744073709551616 + 1) (o || decide (9223372036854775808 ≤ n))) ∧
    (2 * r + M / 2 ^ k % 2 < b → DivSt M b k (2 * r + M / 2 ^ k % 2) (n * 2 % 18446744073709551616) (o || decide (9223372036854775808 ≤ n))) := by
  obtain ⟨h1, h2, h3⟩ := h
  have hs := shr_bit M k
  have hp : 0 ≤ M / 2 ^ (k + 1) := Int.ediv_nonneg hM (Int.le_of_lt (Int.pow_pos (by decide)))
  have hbit : 0 ≤ M / 2 ^ k % 2 ∧ M / 2 ^ k % 2 ≤ 1 := by omega
  generalize hB : M / 2 ^ k % 2 = t at *
  generalize M / 2 ^ (k + 1) = P at *
  have e := Int.mul_ediv_add_emod P b
  have r0 := Int.emod_nonneg P (b := b) (by omega)
  have r1 := Int.emod_lt_of_pos P (b := b) (by omega)
  have hq0 : 0 ≤ P / b := Int.ediv_nonneg hp (by omega)
  rw [← h1] at e r0 r1
  generalize P / b = Q at *
  have key : M / 2 ^ k = (2 * Q) * b + (2 * r + t) := by
    rw [hs, ← e, Int.mul_add, ← Int.mul_assoc, Int.mul_comm (2 * b) Q, Int.mul_comm 2 b, ← Int.mul_assoc, Int.mul_comm 2 Q, Int.mul_assoc Q 2 b, Int.mul_comm 2 b, ← Int.mul_assoc]
    omega
  have ho : (o || decide (9223372036854775808 ≤ n)) = decide (9223372036854775808 ≤ Q) := by
    rw [h3, h2]
    by_cases hq : 18446744073709551616 ≤ Q
    · have : 9223372036854775808 ≤ Q := by omega
      simp [hq, this]
    · have e2 : Q % 18446744073709551616 = Q := by omega
      rw [e2]; simp [hq]
  constructor
  · intro hge
    have e3 : M / 2 ^ k = (2 * r + t - b) + (2 * Q + 1) * b := by rw [key, Int.add_mul (2 * Q) 1 b, Int.one_mul]; omega
    have hd : M / 2 ^ k / b = 2 * Q + 1 := by rw [e3, Int.add_mul_ediv_right _ _ (by omega), Int.ediv_eq_zero_of_lt (by omega) (by omega), Int.zero_add]
    have hm : M / 2 ^ k % b = 2 * r + t - b := by rw [e3, Int.add_mul_emod_self_right]; exact Int.emod_eq_of_lt (by omega) (by omega)
    refine ⟨hm.symm, ?_, ?_⟩
    · rw [hd, h2]; omega
    · rw [hd, ho]; apply decide_eq_decide.2; omega
  · intro hlt
    have e3 : M / 2 ^ k = (2 * r + t) + (2 * Q) * b := by rw [key]; omega
    have hd : M / 2 ^ k / b = 2 * Q := by rw [e3, Int.add_mul_ediv_right _ _ (by omega), Int.ediv_eq_zero_of_lt (by omega) (by omega), Int.zero_add]
    have hm : M / 2 ^ k % b = 2 * r + t := by rw [e3, Int.add_mul_emod_self_right]; exact Int.emod_eq_of_lt (by omega) (by omega)
    refine ⟨hm.symm, ?_, ?_⟩
    · rw [hd, h2]; omega
    · rw [hd, ho]; apply decide_eq_decide.2; omega
/-- The bits of a number with 32 noughts behind it. -/
theorem bit_high (X : Int) (m : Nat) : X * 4294967296 / 2 ^ (m + 32) % 2 = X / 2 ^ m % 2 := by
  rw [Int.pow_add, show (2 : Int) ^ 32 = 4294967296 from rfl, Int.mul_ediv_mul_of_pos_left _ _ (by decide)]
theorem bit_low (X : Int) (k : Nat) (h : k < 32) : X * 4294967296 / 2 ^ k % 2 = 0 := by
  have e : (4294967296 : Int) = 2 ^ (31 - k) * 2 * 2 ^ k := by
    rw [← Int.pow_succ, ← Int.pow_add, show 31 - k + 1 + k = 32 from by omega]; rfl
  rw [e, ← Int.mul_assoc, Int.mul_ediv_cancel _ (by have := Int.pow_pos (n := 2) (m := k) (by decide); omega), ← Int.mul_assoc, Int.mul_emod_left]
theorem pow_split (s : Nat) (h : s ≤ 63) : (2 : Int) ^ s * 2 ^ (64 - s) = 18446744073709551616 := by
  rw [← Int.pow_add, show s + (64 - s) = 64 from by omega]; rfl
end Go.Proofs.Ytphcffcecncngaa
