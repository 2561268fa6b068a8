/- Plain facts on numbers with 32 bits behind the point: what products and quotients are, rounded half to even, and held within bounds. No program in sight. -/
namespace Go.Proofs.Ytphcffcecncngaa

def two31 : Int := 2147483648
def two32 : Int := 4294967296
def two63 : Int := 9223372036854775808
def two64 : Int := 18446744073709551616

/-- n divided by d, rounded to the nearest, half to even. -/
def rnd (n d : Int) : Int := if d < 2 * (n % d) ∨ (2 * (n % d) = d ∧ (n / d) % 2 = 1) then n / d + 1 else n / d
/-- The least or the greatest number. -/
def edgeI (neg : Bool) : Int := if neg then -9223372036854775808 else 9223372036854775807
/-- A magnitude with a sign, held within bounds. -/
def heldI (q : Int) (neg : Bool) : Int := if 9223372036854775808 ≤ q then edgeI neg else (if neg then -q else q)
/-- A number without its sign. -/
def absI (x : Int) : Int := if x < 0 then -x else x
def negB (x y : Int) : Bool := decide (x < 0) != decide (y < 0)
def fmul (x y : Int) : Int := heldI (rnd (absI x * absI y) 4294967296) (negB x y)
def fdiv (x y : Int) : Int := if y = 0 then (if x = 0 then 0 else edgeI (decide (x < 0))) else heldI (rnd (absI x * 4294967296) (absI y)) (negB x y)
def clampI (x : Int) : Int := if x < -9223372036854775808 then -9223372036854775808 else if 9223372036854775807 < x then 9223372036854775807 else x
def fadd (x y : Int) : Int := clampI (x + y)
def fsub (x y : Int) : Int := clampI (x - y)
def fneg (x : Int) : Int := clampI (-x)
/-- Within the bounds of int64. -/
def I64 (x : Int) : Prop := -9223372036854775808 ≤ x ∧ x ≤ 9223372036854775807

theorem absI_bd {x : Int} (h : I64 x) : 0 ≤ absI x ∧ absI x ≤ 9223372036854775808 := by unfold I64 at h; unfold absI; split <;> omega
theorem clampI_bd (x : Int) : I64 (clampI x) := by unfold clampI I64; split <;> (try split) <;> omega
theorem heldI_bd {q : Int} (h : 0 ≤ q) (b : Bool) : I64 (heldI q b) := by unfold heldI edgeI I64; cases b <;> simp <;> split <;> omega
theorem rnd_nonneg {n d : Int} (hn : 0 ≤ n) (hd : 0 < d) : 0 ≤ rnd n d := by
  have := Int.ediv_nonneg hn (Int.le_of_lt hd)
  unfold rnd; split <;> omega
theorem fmul_bd {x y : Int} (hx : I64 x) (hy : I64 y) : I64 (fmul x y) :=
  heldI_bd (rnd_nonneg (Int.mul_nonneg (absI_bd hx).1 (absI_bd hy).1) (by decide)) _
theorem fadd_bd (x y : Int) : I64 (fadd x y) := clampI_bd _
theorem fsub_bd (x y : Int) : I64 (fsub x y) := clampI_bd _
theorem fneg_bd (x : Int) : I64 (fneg x) := clampI_bd _
theorem fdiv_bd {x y : Int} (hx : I64 x) (hy : I64 y) : I64 (fdiv x y) := by
  unfold fdiv
  by_cases h : y = 0
  · rw [if_pos h]
    split
    · exact ⟨by decide, by decide⟩
    · unfold edgeI I64; split <;> omega
  · rw [if_neg h]
    refine heldI_bd (rnd_nonneg (Int.mul_nonneg (absI_bd hx).1 (by decide)) ?_) _
    have := (absI_bd hy).1
    unfold absI; split <;> omega
end Go.Proofs.Ytphcffcecncngaa
