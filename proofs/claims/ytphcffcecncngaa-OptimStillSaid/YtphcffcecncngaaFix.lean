/- The walks of package fix: sizes, signs, sums, products. -/
import Derived.Test.YtphcffcecncngaaBase
import Derived.Test.YtphcffcecncngaaFixMath
import Derived.Lib.Mul64
import Derived.Laws.Bits64b
namespace Go.Proofs.Ytphcffcecncngaa
open Go.RowKit

/-! Signs of bits. -/
theorem wrap_toInt (v : BitVec 64) : IntKind.i64.wrap (v.toNat : Int) = v.toInt := by
  rw [IntKind.wrap_i64, BitVec.toInt_eq_toNat_cond]
  have := v.isLt
  split <;> omega
theorem msb_ofInt (a : Int) (h : I64 a) : (BitVec.ofInt 64 a).msb = decide (a < 0) := by
  obtain ⟨h1, h2⟩ := h
  rw [BitVec.msb_eq_toInt, BitVec.toInt_ofInt]
  have : a.bmod (2 ^ 64) = a := by rw [Int.bmod_def]; split <;> omega
  rw [this]
theorem bits_xor_i64 (a b : Int) : bits .xor .i64 a b = (BitVec.ofInt 64 a ^^^ BitVec.ofInt 64 b).toInt := wrap_toInt _
theorem bits_and_i64 (a b : Int) : bits .and .i64 a b = (BitVec.ofInt 64 a &&& BitVec.ofInt 64 b).toInt := wrap_toInt _
theorem sign_test {x y s : Int} (hx : I64 x) (hy : I64 y) (hs : I64 s) :
    decide (bits .and .i64 (bits .xor .i64 x s) (bits .xor .i64 y s) < 0) = ((decide (x < 0) ^^ decide (s < 0)) && (decide (y < 0) ^^ decide (s < 0))) := by
  rw [bits_xor_i64, bits_xor_i64, bits_and_i64, BitVec.ofInt_toInt, BitVec.ofInt_toInt, ← BitVec.msb_eq_toInt, BitVec.msb_and, BitVec.msb_xor, BitVec.msb_xor, msb_ofInt x hx, msb_ofInt y hy, msb_ofInt s hs]
theorem sign_test2 {x y d : Int} (hx : I64 x) (hy : I64 y) (hd : I64 d) :
    decide (bits .and .i64 (bits .xor .i64 x y) (bits .xor .i64 x d) < 0) = ((decide (x < 0) ^^ decide (y < 0)) && (decide (x < 0) ^^ decide (d < 0))) := by
  rw [bits_xor_i64, bits_xor_i64, bits_and_i64, BitVec.ofInt_toInt, BitVec.ofInt_toInt, ← BitVec.msb_eq_toInt, BitVec.msb_and, BitVec.msb_xor, BitVec.msb_xor, msb_ofInt x hx, msb_ofInt y hy, msb_ofInt d hd]
theorem wrap64_bd (n : Int) : I64 (wrap64 n) := by unfold wrap64 I64; omega
theorem wrap64_eq (n : Int) : wrap64 n = (n + 9223372036854775808) % 18446744073709551616 - 9223372036854775808 := by unfold wrap64; rfl

/-! Unsigned words. -/
theorem u64_mask (a : Int) (h0 : 0 ≤ a) (h1 : a ≤ 18446744073709551615) : bits .and .u64 a 4294967295 = a % 4294967296 := by
  obtain ⟨n, rfl⟩ := Int.eq_ofNat_of_zero_le h0
  have h := bits_and_u64_nat n 4294967295 (by omega) (by omega)
  have e : n &&& 4294967295 = n % 4294967296 := Nat.and_two_pow_sub_one_eq_mod n 32
  rw [e] at h
  exact h
theorem u64_odd (a : Int) (h0 : 0 ≤ a) (h1 : a ≤ 18446744073709551615) : bits .and .u64 a 1 = a % 2 := by
  obtain ⟨n, rfl⟩ := Int.eq_ofNat_of_zero_le h0
  have h := bits_and_u64_nat n 1 (by omega) (by omega)
  have e : n &&& 1 = n % 2 := Nat.and_one_is_mod n
  rw [e] at h
  exact h
theorem u64_join (a b : Int) (h0 : 0 ≤ a) (h1 : a < 4294967296) (h2 : 0 ≤ b) (h3 : b < 4294967296) : bits .or .u64 (a * 4294967296) b = a * 4294967296 + b := by
  obtain ⟨n, rfl⟩ := Int.eq_ofNat_of_zero_le h0
  obtain ⟨m, rfl⟩ := Int.eq_ofNat_of_zero_le h2
  have e1 : (n : Int) * 4294967296 = ((n * 4294967296 : Nat) : Int) := by omega
  rw [e1, bits_or_u64_nat (n * 4294967296) m (by omega) (by omega)]
  have e : n * 4294967296 ||| m = n * 4294967296 + m := by
    have := Nat.two_pow_add_eq_or_of_lt (i := 32) (b := m) (by omega) n
    rw [show (2 : Nat) ^ 32 = 4294967296 from rfl] at this
    rw [Nat.mul_comm]; omega
  rw [e]; omega

theorem fix_size (x : Int) (w : World) (h : I64 x) : Calls Try.prog 98 #[.int .i64 x] w fun e w' => e = .returned (.int .u64 (absI x)) ∧ w = w' := by
  obtain ⟨h1, h2⟩ := h
  by_cases h : x < 0
  · go_enter Try.func98, Try.ntmps98
    go_wp2
    go_ret
    refine ⟨ret_int ?_, rfl⟩
    rw [IntKind.wrap_u64, IntKind.wrap_u64, absI, if_pos h]; omega
  · go_enter Try.func98, Try.ntmps98
    go_wp2
    go_ret
    exact ⟨ret_int (by rw [absI, if_neg (by omega)]), rfl⟩
theorem fix_edge (b : Bool) (w : World) : Calls Try.prog 99 #[.bool b] w fun e w' => e = .returned (.int .i64 (edgeI b)) ∧ w = w' := by
  cases b
  · go_enter Try.func99, Try.ntmps99
    go_wp2
    go_ret
    exact ⟨rfl, rfl⟩
  · go_enter Try.func99, Try.ntmps99
    go_wp2
    go_ret
    exact ⟨rfl, rfl⟩
theorem fix_signed (q : Int) (b : Bool) (w : World) (h0 : 0 ≤ q) (h2 : q ≤ 18446744073709551615) :
    Calls Try.prog 100 #[.int .u64 q, .bool b] w fun e w' => e = .returned (.int .i64 (heldI q b)) ∧ w = w' := by
  by_cases h : 9223372036854775807 < q
  · have HE : Hid (heldI q b = edgeI b) := Lib.hid (by rw [heldI, if_pos (by omega)])
    go_enter Try.func100, Try.ntmps100
    go_wp2_with fail
    refine (fix_edge b w).mono ?_
    rintro e w' ⟨rfl, rfl⟩
    go_wp2_with fail
    go_ret
    exact ⟨ret_int HE.out.symm, rfl⟩
  · go_enter Try.func100, Try.ntmps100
    cases b
    · go_wp2_with fail
      go_ret
      exact ⟨ret_int (by rw [heldI, if_neg (by omega)]; rfl), rfl⟩
    · go_wp2_with fail
      go_ret
      exact ⟨ret_int (by rw [heldI, if_neg (by omega)]; rfl), rfl⟩

set_option maxHeartbeats 1000000 in
theorem bits_mul64 (x y : Nat) (hx : x < 18446744073709551616) (hy : y < 18446744073709551616) (w : World) :
    Calls Try.prog 97 #[.int .u64 x, .int .u64 y] w fun e w' => e = .returned (.tuple #[.int .u64 ((x * y / 18446744073709551616 : Nat) : Int), .int .u64 ((x * y % 18446744073709551616 : Nat) : Int)]) ∧ w = w' := by
  have maskN : ∀ a : Nat, a < 18446744073709551616 → bits .and .u64 (a : Int) 4294967295 = ((a % 4294967296 : Nat) : Int) := fun a ha => by
    rw [u64_mask a (by omega) (by omega)]; omega
  have divN : ∀ a : Nat, (a : Int) / 4294967296 = ((a / 4294967296 : Nat) : Int) := fun a => by omega
  have mulN : ∀ a b : Nat, (a : Int) * (b : Int) = ((a * b : Nat) : Int) := fun a b => (Int.natCast_mul a b).symm
  have addN : ∀ a b : Nat, (a : Int) + (b : Int) = ((a + b : Nat) : Int) := fun a b => (Int.natCast_add a b).symm
  have wrapN : ∀ a : Nat, a < 18446744073709551616 → IntKind.u64.wrap (a : Int) = (a : Int) := fun a ha => by rw [IntKind.wrap_u64]; omega
  have wrapM : ∀ a : Nat, IntKind.u64.wrap (a : Int) = ((a % 18446744073709551616 : Nat) : Int) := fun a => by rw [IntKind.wrap_u64]; omega
  have MN := Lib.hid maskN
  have DN := Lib.hid divN
  have UN := Lib.hid mulN
  have AN := Lib.hid addN
  have WN := Lib.hid wrapN
  have WM := Lib.hid wrapM
  clear maskN divN mulN addN wrapN wrapM
  obtain ⟨bd, bt, bw, hhi⟩ := Lib.mul64_hi x y hx hy
  have ba := Lib.half_mul_le (a := x / 4294967296) (b := y / 4294967296) (by omega) (by omega)
  have bb := Lib.half_mul_le (a := x / 4294967296) (b := y % 4294967296) (by omega) (by omega)
  have bc := Lib.half_mul_le (a := x % 4294967296) (b := y / 4294967296) (by omega) (by omega)
  have ba' : x / 4294967296 * (y / 4294967296) < 18446744073709551616 := by omega
  have bb' : x / 4294967296 * (y % 4294967296) < 18446744073709551616 := by omega
  have bc' : x % 4294967296 * (y / 4294967296) < 18446744073709551616 := by omega
  have bh1 : x / 4294967296 * (y / 4294967296) + (x / 4294967296 * (y % 4294967296) + x % 4294967296 * (y % 4294967296) / 4294967296) / 4294967296 < 18446744073709551616 := by omega
  have bh : x / 4294967296 * (y / 4294967296) + (x / 4294967296 * (y % 4294967296) + x % 4294967296 * (y % 4294967296) / 4294967296) / 4294967296 + ((x / 4294967296 * (y % 4294967296) + x % 4294967296 * (y % 4294967296) / 4294967296) % 4294967296 + x % 4294967296 * (y / 4294967296)) / 4294967296 < 18446744073709551616 := by omega
  go_enter Try.func97, Try.ntmps97
  go_wp2
  simp only [MN.out x hx, MN.out y hy, DN.out, UN.out, AN.out, WN.out _ bd, WN.out _ bb', WN.out _ bt, MN.out _ bt, WN.out _ bc', WN.out _ bw, WN.out _ ba', WN.out _ bh1, WN.out _ bh, WM.out (x * y)]
  rw [hhi]
  go_ret2
  exact ⟨rfl, rfl⟩

theorem mul_parts {p : Int} (_h0 : 0 ≤ p) (_h1 : p / 18446744073709551616 < 2147483648) :
    p / 18446744073709551616 * 4294967296 + p % 18446744073709551616 / 4294967296 = p / 4294967296 ∧ p % 18446744073709551616 % 4294967296 = p % 4294967296 := by omega
set_option maxHeartbeats 1000000 in
theorem fix_mul (x y : Int) (w : World) (hx : I64 x) (hy : I64 y) :
    Calls Try.prog 61 #[.int .i64 x, .int .i64 y] w fun e w' => e = .returned (.int .i64 (fmul x y)) ∧ w = w' := by
  obtain ⟨a, ea⟩ := Int.eq_ofNat_of_zero_le (absI_bd hx).1
  obtain ⟨b, eb⟩ := Int.eq_ofNat_of_zero_le (absI_bd hy).1
  have ha : a < 18446744073709551616 := by have := (absI_bd hx).2; omega
  have hb : b < 18446744073709551616 := by have := (absI_bd hy).2; omega
  have CM := Lib.hid (bits_mul64 a b ha hb)
  have CX := Lib.hid (fix_size x)
  have CY := Lib.hid (fix_size y)
  rw [ea] at CX
  rw [eb] at CY
  have HF : Hid (fmul x y = heldI (rnd ((a * b : Nat) : Int) 4294967296) (negB x y)) := Lib.hid (by rw [fmul, ea, eb, Int.natCast_mul])
  clear ea eb
  generalize hp : a * b = p at *
  have e1 : ((p / 18446744073709551616 : Nat) : Int) = (p : Int) / 18446744073709551616 := by omega
  have e2 : ((p % 18446744073709551616 : Nat) : Int) = (p : Int) % 18446744073709551616 := by omega
  rw [e1, e2] at CM
  have hp0 : 0 ≤ (p : Int) := by omega
  clear hp e1 e2 ha hb
  generalize (p : Int) = P at *
  have PH := Lib.hid (mul_parts (p := P) hp0)
  generalize hhi : P / 18446744073709551616 = hi at *
  generalize hlo : P % 18446744073709551616 = lo at *
  have b1 : 0 ≤ hi := by omega
  have b2 : 0 ≤ lo := by omega
  have b3 : lo ≤ 18446744073709551615 := by omega
  have HHI := Lib.hid hhi
  clear hhi hlo
  go_enter Try.func61, Try.ntmps61
  go_wp2_with fail
  refine (CX.out w hx).mono ?_
  rintro e w' ⟨rfl, rfl⟩
  go_wp2_with fail
  refine (CY.out w hy).mono ?_
  rintro e w' ⟨rfl, rfl⟩
  go_wp2_with fail
  refine (CM.out w).mono ?_
  rintro e w' ⟨rfl, rfl⟩
  have HN : Hid ((!decide (x < 0) == decide (y < 0)) = negB x y) := Lib.hid rfl
  by_cases hbig : 2147483648 ≤ hi
  · have HE : Hid (fmul x y = edgeI (negB x y)) := Lib.hid (by
      have := HHI.out
      rw [HF.out, heldI, if_pos]
      unfold rnd; split <;> omega)
    clear hp0
    go_wp2_with fail
    rw [HN.out]
    refine (fix_edge _ w).mono ?_
    rintro e w' ⟨rfl, rfl⟩
    go_wp2_with fail
    go_ret
    exact ⟨ret_int HE.out.symm, rfl⟩
  · have hlt : hi < 2147483648 := by omega
    obtain ⟨HQ, HM⟩ := PH.out hlt
    have hq := u64_join hi (lo / 4294967296) b1 (by omega) (by omega) (by omega)
    rw [HQ] at hq
    have hr := u64_mask lo b2 b3
    rw [HM] at hr
    have hq0 : 0 ≤ P / 4294967296 := by omega
    have hq1 : P / 4294967296 < 9223372036854775808 := by have := HHI.out; omega
    have ho := u64_odd (P / 4294967296) hq0 (by omega)
    have hr0 : 0 ≤ P % 4294967296 := by omega
    have hr1 : P % 4294967296 < 4294967296 := by omega
    have HR : Hid (rnd P 4294967296 = if 4294967296 < 2 * (P % 4294967296) ∨ (2 * (P % 4294967296) = 4294967296 ∧ (P / 4294967296) % 2 = 1) then P / 4294967296 + 1 else P / 4294967296) := Lib.hid rfl
    clear HQ HM hbig PH
    generalize P / 4294967296 = q at *
    generalize P % 4294967296 = r at *
    generalize ho2 : q % 2 = o at *
    have ho3 : 0 ≤ o ∧ o ≤ 1 := by omega
    clear ho2
    by_cases hup : 2147483648 < r ∨ (r = 2147483648 ∧ o = 1)
    · have HE : Hid (fmul x y = heldI (q + 1) (negB x y)) := Lib.hid (by rw [HF.out, HR.out, if_pos (by omega)])
      rcases hup with hup | ⟨hup, hodd⟩
      · go_wp2_with fail
        rw [HN.out]
        refine (fix_signed (q + 1) _ w (by omega) (by omega)).mono ?_
        rintro e w' ⟨rfl, rfl⟩
        go_wp2_with fail
        go_ret
        exact ⟨ret_int HE.out.symm, rfl⟩
      · subst hodd
        subst hup
        go_wp2_with fail
        rw [HN.out]
        refine (fix_signed (q + 1) _ w (by omega) (by omega)).mono ?_
        rintro e w' ⟨rfl, rfl⟩
        go_wp2_with fail
        go_ret
        exact ⟨ret_int HE.out.symm, rfl⟩
    · have HE : Hid (fmul x y = heldI q (negB x y)) := Lib.hid (by rw [HF.out, HR.out, if_neg (by omega)])
      by_cases hr2 : r = 2147483648
      · subst hr2
        obtain rfl : o = 0 := by omega
        clear hup
        go_wp2_with fail
        rw [HN.out]
        refine (fix_signed q _ w (by omega) (by omega)).mono ?_
        rintro e w' ⟨rfl, rfl⟩
        go_wp2_with fail
        go_ret
        exact ⟨ret_int HE.out.symm, rfl⟩
      · have hr3 : r < 2147483648 := by omega
        have hr4 : (r == 2147483648) = false := by simpa using hr2
        clear hup hr2
        go_wp2_with fail
        rw [HN.out]
        refine (fix_signed q _ w (by omega) (by omega)).mono ?_
        rintro e w' ⟨rfl, rfl⟩
        go_wp2_with fail
        go_ret
        exact ⟨ret_int HE.out.symm, rfl⟩
end Go.Proofs.Ytphcffcecncngaa
