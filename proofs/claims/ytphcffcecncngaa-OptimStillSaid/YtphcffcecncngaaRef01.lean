/- The walks of the reference's functions on numbers: sizes, sums, products by bits. -/
import Derived.Test.YtphcffcecncngaaFix
namespace Go.Proofs.Ytphcffcecncngaa
open Go.RowKit

/-- A word twice as wide, as a value. -/
def wideV (n : Int) : Value := .agg #[.int .u64 (n / 18446744073709551616), .int .u64 (n % 18446744073709551616)]

theorem r1_size (x : Int) (w : World) (h : I64 x) : Calls Try.prog 102 #[.int .i64 x] w fun e w' => e = .returned (.int .u64 (absI x)) ∧ w = w' := by
  obtain ⟨h1, h2⟩ := h
  by_cases h : x < 0
  · go_enter Try.func102, Try.ntmps102
    go_wp2
    go_ret
    refine ⟨ret_int ?_, rfl⟩
    rw [absI, if_pos h]; omega
  · go_enter Try.func102, Try.ntmps102
    go_wp2
    go_ret
    exact ⟨ret_int (by rw [absI, if_neg (by omega)]), rfl⟩
theorem r1_add (x y : Int) (w : World) (hx : I64 x) (hy : I64 y) : Calls Try.prog 43 #[.int .i64 x, .int .i64 y] w fun e w' => e = .returned (.int .i64 (fadd x y)) ∧ w = w' := by
  obtain ⟨h1, h2⟩ := hx
  obtain ⟨h3, h4⟩ := hy
  by_cases hp : 0 < x
  · by_cases ho : 9223372036854775807 - x < y
    · go_enter Try.func43, Try.ntmps43
      go_wp2
      go_ret
      exact ⟨ret_int (by rw [fadd, clampI, if_neg (by omega), if_pos (by omega)]), rfl⟩
    · go_enter Try.func43, Try.ntmps43
      go_wp2
      go_ret
      exact ⟨ret_int (by rw [fadd, clampI, if_neg (by omega), if_neg (by omega)]), rfl⟩
  · by_cases hn : x < 0
    · by_cases ho : y < -9223372036854775808 - x
      · go_enter Try.func43, Try.ntmps43
        go_wp2
        go_ret
        exact ⟨ret_int (by rw [fadd, clampI, if_pos (by omega)]), rfl⟩
      · go_enter Try.func43, Try.ntmps43
        go_wp2
        go_ret
        exact ⟨ret_int (by rw [fadd, clampI, if_neg (by omega), if_neg (by omega)]), rfl⟩
    · go_enter Try.func43, Try.ntmps43
      go_wp2
      go_ret
      exact ⟨ret_int (by rw [fadd, clampI, if_neg (by omega), if_neg (by omega)]), rfl⟩
/-- What 'Held' tells. -/
def heldO (n : Int) (over neg : Bool) : Int := if over then edgeI neg else heldI n neg
theorem r1_held (n : Int) (over neg : Bool) (w : World) (h0 : 0 ≤ n) (h1 : n ≤ 18446744073709551615) :
    Calls Try.prog 103 #[.int .u64 n, .bool over, .bool neg] w fun e w' => e = .returned (.int .i64 (heldO n over neg)) ∧ w = w' := by
  cases neg <;> cases over
  · by_cases h : 9223372036854775808 ≤ n
    · go_enter Try.func103, Try.ntmps103
      go_wp2
      go_ret
      exact ⟨ret_int (by rw [heldO, if_neg (by simp), heldI, if_pos (by omega)]; rfl), rfl⟩
    · go_enter Try.func103, Try.ntmps103
      go_wp2
      go_ret
      exact ⟨ret_int (by rw [heldO, if_neg (by simp), heldI, if_neg (by omega)]; rfl), rfl⟩
  · go_enter Try.func103, Try.ntmps103
    go_wp2
    go_ret
    exact ⟨ret_int rfl, rfl⟩
  · by_cases h : 9223372036854775808 < n
    · go_enter Try.func103, Try.ntmps103
      go_wp2
      go_ret
      exact ⟨ret_int (by rw [heldO, if_neg (by simp), heldI, if_pos (by omega)]; rfl), rfl⟩
    · by_cases h2 : n = 9223372036854775808
      · subst h2
        go_enter Try.func103, Try.ntmps103
        go_wp2
        go_ret
        exact ⟨ret_int (by decide), rfl⟩
      · have h3 : (n == 9223372036854775808) = false := by simpa using h2
        have h4 : n < 9223372036854775808 := by omega
        clear h h2
        go_enter Try.func103, Try.ntmps103
        go_wp2
        go_ret
        exact ⟨ret_int (by rw [heldO, if_neg (by simp), heldI, if_neg (by omega)]; rfl), rfl⟩
  · go_enter Try.func103, Try.ntmps103
    go_wp2
    go_ret
    exact ⟨ret_int rfl, rfl⟩

theorem u64_or1 (a b : Int) (h0 : 0 ≤ a) (h1 : a < 9223372036854775808) (h2 : 0 ≤ b) (h3 : b ≤ 1) : bits .or .u64 (a * 2) b = a * 2 + b := by
  obtain ⟨n, rfl⟩ := Int.eq_ofNat_of_zero_le h0
  obtain ⟨m, rfl⟩ := Int.eq_ofNat_of_zero_le h2
  have e1 : (n : Int) * 2 = ((n * 2 : Nat) : Int) := by omega
  rw [e1, bits_or_u64_nat (n * 2) m (by omega) (by omega)]
  have e : n * 2 ||| m = n * 2 + m := by
    have := Nat.two_pow_add_eq_or_of_lt (i := 1) (b := m) (by omega) n
    rw [show (2 : Nat) ^ 1 = 2 from rfl] at this
    rw [Nat.mul_comm]; omega
  rw [e]; omega
set_option maxHeartbeats 1000000 in
theorem r1_double (n : Int) (w : World) (h0 : 0 ≤ n) (h1 : n < 170141183460469231731687303715884105728) :
    Calls Try.prog 105 #[wideV n] w fun e w' => e = .returned (wideV (2 * n)) ∧ Below w.heap.size w w' := by
  unfold wideV
  have b0 : 0 ≤ n / 18446744073709551616 := by omega
  have b1 : n / 18446744073709551616 < 9223372036854775808 := by omega
  have b2 : 0 ≤ n % 18446744073709551616 := by omega
  have b3 : n % 18446744073709551616 ≤ 18446744073709551615 := by omega
  have E1 : Hid (n / 18446744073709551616 * 2 + n % 18446744073709551616 / 9223372036854775808 = 2 * n / 18446744073709551616) := Lib.hid (by omega)
  have E2 : Hid (n % 18446744073709551616 * 2 % 18446744073709551616 = 2 * n % 18446744073709551616) := Lib.hid (by omega)
  generalize 2 * n / 18446744073709551616 = p1 at *
  generalize 2 * n % 18446744073709551616 = p2 at *
  generalize n / 18446744073709551616 = hi at *
  generalize n % 18446744073709551616 = lo at *
  clear h0 h1
  go_enter Try.func105, Try.ntmps105
  go_wp2
  refine bodyPost_ret (v := .agg #[.int .u64 p1, .int .u64 p2]) ?_ rfl ⟨rfl, ?_⟩
  · simp [results, Try.results105, go_sem]
    rw [u64_or1 hi (lo / 9223372036854775808) b0 b1 (by omega) (by omega), IntKind.wrap_u64]
    exact ⟨E1.out, E2.out⟩
  · exact ((Below.refl _ _).alloc (Nat.le_refl _) _).alloc (by simp) _
set_option maxHeartbeats 1000000 in
theorem r1_plus (n m : Int) (w : World) (h0 : 0 ≤ n) (h1 : 0 ≤ m) (h2 : n + m < 340282366920938463463374607431768211456) :
    Calls Try.prog 112 #[wideV n, wideV m] w fun e w' => e = .returned (wideV (n + m)) ∧ Below w.heap.size w w' := by
  unfold wideV
  have b0 : 0 ≤ n / 18446744073709551616 := by omega
  have b2 : 0 ≤ n % 18446744073709551616 := by omega
  have b3 : n % 18446744073709551616 ≤ 18446744073709551615 := by omega
  have c0 : 0 ≤ m / 18446744073709551616 := by omega
  have c2 : 0 ≤ m % 18446744073709551616 := by omega
  have c3 : m % 18446744073709551616 ≤ 18446744073709551615 := by omega
  have bs : n / 18446744073709551616 + m / 18446744073709551616 ≤ 18446744073709551615 := by omega
  have bt : 18446744073709551616 ≤ n % 18446744073709551616 + m % 18446744073709551616 → n / 18446744073709551616 + m / 18446744073709551616 + 1 ≤ 18446744073709551615 := by omega
  have E1 : Hid (18446744073709551616 ≤ n % 18446744073709551616 + m % 18446744073709551616 → n / 18446744073709551616 + m / 18446744073709551616 + 1 = (n + m) / 18446744073709551616) := Lib.hid (by omega)
  have E2 : Hid (¬ 18446744073709551616 ≤ n % 18446744073709551616 + m % 18446744073709551616 → n / 18446744073709551616 + m / 18446744073709551616 = (n + m) / 18446744073709551616) := Lib.hid (by omega)
  have E3 : Hid ((n % 18446744073709551616 + m % 18446744073709551616) % 18446744073709551616 = (n + m) % 18446744073709551616) := Lib.hid (by omega)
  generalize (n + m) / 18446744073709551616 = p1 at *
  generalize (n + m) % 18446744073709551616 = p2 at *
  generalize n / 18446744073709551616 = hi at *
  generalize n % 18446744073709551616 = lo at *
  generalize m / 18446744073709551616 = hi2 at *
  generalize m % 18446744073709551616 = lo2 at *
  clear h0 h1 h2
  have e := IntKind.wrap_u64 (lo + lo2)
  rw [E3.out] at e
  have hbl : ∀ o1 o2 o3 o4 : Obj, Below w.heap.size w ((((w.alloc o1).alloc o2).alloc o3).alloc o4) := fun o1 o2 o3 o4 =>
    ((((Below.refl _ _).alloc (Nat.le_refl _) o1).alloc (by simp) o2).alloc (by simp; omega) o3).alloc (by simp; omega) o4
  have HBL := Lib.hid hbl
  clear hbl
  have p20 : 0 ≤ p2 := by have := E3.out; omega
  by_cases hc : 18446744073709551616 ≤ lo + lo2
  · have hlt : p2 < lo := by have := E3.out; omega
    have bt2 := bt hc
    have E1' := Lib.hid (E1.out hc)
    clear bt hc
    go_enter Try.func112, Try.ntmps112
    go_wp2
    refine bodyPost_ret (v := .agg #[.int .u64 p1, .int .u64 p2]) ?_ rfl ⟨rfl, ?_⟩
    · simp [results, Try.results112, go_sem]
      exact E1'.out
    · exact HBL.out _ _ _ _
  · have hlt : lo ≤ p2 := by have := E3.out; omega
    have E1' := Lib.hid (E2.out hc)
    clear bt hc
    go_enter Try.func112, Try.ntmps112
    go_wp2
    refine bodyPost_ret (v := .agg #[.int .u64 p1, .int .u64 p2]) ?_ rfl ⟨rfl, ?_⟩
    · simp [results, Try.results112, go_sem]
      exact E1'.out
    · exact HBL.out _ _ _ _

theorem shr_step (b : Int) (j : Nat) : b / 2 ^ j = 2 * (b / 2 ^ (j + 1)) + (b / 2 ^ j) % 2 := by
  rw [Int.pow_succ, ← Int.ediv_ediv_of_nonneg (by have := Int.pow_pos (n := 2) (m := j) (by decide); omega)]
  omega
theorem Blk.set2 {w : World} {g : Nat} {T : TypeId} {v0 v1 : Value} (h : Blk w g T #[v0, v1]) (u0 u1 : Value) : Blk ((w.setCell ⟨g, 0, none⟩ u0).setCell ⟨g, 1, none⟩ u1) g T #[u0, u1] := (h.set_ 0 u0).set_ 1 u1
theorem Blk.box2 {w : World} {g : Nat} {T : TypeId} {v0 v1 : Value} (h : Blk w g T #[v0, v1]) : w.cell? ⟨g, 0, none⟩ = some v0 ∧ w.cell? ⟨g, 1, none⟩ = some v1 ∧ w.frozen? ⟨g, 0, none⟩ = false ∧ w.frozen? ⟨g, 1, none⟩ = false :=
  ⟨h.cell 0, h.cell 1, h.frozen 0, h.frozen 1⟩

set_option maxHeartbeats 1000000 in
theorem r1_product (a b : Int) (w : World) (h0 : 0 ≤ a) (h1 : a ≤ 18446744073709551615) (h2 : 0 ≤ b) (h3 : b ≤ 18446744073709551615) :
    Calls Try.prog 101 #[.int .u64 a, .int .u64 b] w fun e w' => e = .returned (wideV (a * b)) ∧ Below w.heap.size w w' := by
  have hsh : ∀ k : Nat, 0 ≤ b / 2 ^ k ∧ b / 2 ^ k ≤ b := fun k => by
    have hp : 0 < (2 : Int) ^ k := Int.pow_pos (by decide)
    exact ⟨Int.ediv_nonneg h2 (by omega), Int.ediv_le_self _ h2⟩
  have HSH := Lib.hid hsh
  clear hsh
  go_enter Try.func101, Try.ntmps101
  go_wp2_with fail
  go_loopw [6] (fun i wr => ∃ (k : Nat) (N : Int), k ≤ 64 ∧ i = .int .i64 ((k : Int) - 1) ∧ Blk wr w.heap.size 154 #[.int .u64 0, .int .u64 0] ∧ Blk wr (w.heap.size + 1) 154 #[.int .u64 (N / 18446744073709551616), .int .u64 (N % 18446744073709551616)] ∧ Below w.heap.size w wr ∧ N = a * (b / 2 ^ k)) (fun i _ => (intOf i + 1).toNat)
  case atStart =>
    refine ⟨64, 0, Nat.le_refl _, rfl, (Blk.new w _ _).alloc _, ?_, ((Below.refl _ _).alloc (Nat.le_refl _) _).alloc (by simp) _, ?_⟩
    · have := Blk.new (w.alloc (.cells #[.int .u64 0, .int .u64 0] 154)) 154 #[.int .u64 0, .int .u64 0]
      rw [World.size_alloc] at this
      exact this
    · have : b / 2 ^ 64 = 0 := by omega
      rw [this, Int.mul_zero]
  case round =>
    obtain ⟨k, N, hk, rfl, k0, k1, hbel, hN⟩ := hrel
    have hNb : 0 ≤ N ∧ N ≤ 18446744073709551615 * 18446744073709551615 := by
      obtain ⟨s1, s2⟩ := HSH.out k
      rw [hN]
      exact ⟨Int.mul_nonneg h0 s1, Int.mul_le_mul h1 (by omega) s1 (by omega)⟩
    obtain ⟨n0, n1⟩ := hNb
    have HN := Lib.hid hN
    clear hN
    obtain ⟨q0, q1, f0, f1⟩ := k1.box2
    cases k with
    | zero =>
      obtain ⟨r0, r1, g0, g1⟩ := k0.box2
      clear n0 n1
      go_wp2_with fail
      refine bodyPost_ret (v := wideV N) ?_ rfl ⟨by rw [HN.out]; simp, ?_⟩
      · simp [results, Try.results101, go_sem, r0, r1, wideV]
      · exact (hbel.setCell (p := ⟨w.heap.size, 0, none⟩) (Nat.le_refl _) _).setCell (p := ⟨w.heap.size, 1, none⟩) (Nat.le_refl _) _
    | succ j =>
      obtain ⟨s1, s2⟩ := HSH.out (j + 1)
      have HST := Lib.hid (shr_step b j)
      obtain ⟨t1, t2⟩ := HSH.out j
      have hodd := u64_odd (b / 2 ^ j) t1 (by omega)
      have hN2 : 2 * N + a * (b / 2 ^ j % 2) = a * (b / 2 ^ j) := by
        have e : a * (b / 2 ^ j) = a * (2 * (b / 2 ^ (j + 1)) + (b / 2 ^ j) % 2) := congrArg (a * ·) HST.out
        rw [e, HN.out, Int.mul_add, ← Int.mul_assoc, ← Int.mul_assoc, Int.mul_comm 2 a]
      have hNmax : a * (b / 2 ^ j) ≤ 18446744073709551615 * 18446744073709551615 := Int.mul_le_mul h1 (by omega) t1 (by omega)
      have HN2 := Lib.hid hN2
      have ho : 0 ≤ b / 2 ^ j % 2 ∧ b / 2 ^ j % 2 ≤ 1 := by omega
      have hn2 : 2 * N ≤ 18446744073709551615 * 18446744073709551615 := by
        have : 0 ≤ a * (b / 2 ^ j % 2) := Int.mul_nonneg h0 ho.1
        omega
      clear hN2 hNmax HST s1 s2 t1 t2
      have e1 : ((j + 1 : Nat) : Int) - 1 = j := by omega
      rw [e1]
      clear e1
      have CD := Lib.hid (r1_double N wr n0 (by omega))
      go_wp2_with fail
      refine CD.out.mono ?_
      rintro e w1 ⟨rfl, hb1⟩
      have k1' := k1.keep hb1
      have k0' := (k0.keep hb1)
      have b1 := btr hbel hb1
      clear q0 q1 f0 f1
      obtain ⟨q0, q1, f0, f1⟩ := k1'.box2
      have k2 := k1'.set2 (.int .u64 (2 * N / 18446744073709551616)) (.int .u64 (2 * N % 18446744073709551616))
      have k3 := (k0'.far (p := ⟨w.heap.size + 1, 0, none⟩) (by simp) (.int .u64 (2 * N / 18446744073709551616))).far (p := ⟨w.heap.size + 1, 1, none⟩) (by simp) (.int .u64 (2 * N % 18446744073709551616))
      have b2 := (b1.setCell (p := ⟨w.heap.size + 1, 0, none⟩) (by simp) (.int .u64 (2 * N / 18446744073709551616))).setCell (p := ⟨w.heap.size + 1, 1, none⟩) (by simp) (.int .u64 (2 * N % 18446744073709551616))
      simp only [wideV]
      generalize hob : b / 2 ^ j % 2 = o at *
      by_cases hz : o = 0
      · subst hz
        go_wp2_with fail
        go_roundw
        case rel => exact ⟨j, 2 * N, by omega, rfl, k3, k2, b2, by have := HN2.out; rw [← this]; simp⟩
        case measure => simp [intOf]
      · obtain rfl : o = 1 := by omega
        clear hz
        go_wp2_with fail
        generalize (w1.setCell ⟨w.heap.size + 1, 0, none⟩ (.int .u64 (2 * N / 18446744073709551616))).setCell ⟨w.heap.size + 1, 1, none⟩ (.int .u64 (2 * N % 18446744073709551616)) = w2 at *
        have ea : wideV a = .agg #[.int .u64 0, .int .u64 a] := by
          unfold wideV
          rw [show a / 18446744073709551616 = 0 from by omega, show a % 18446744073709551616 = a from by omega]
        have hsum := HN2.out
        rw [Int.mul_one] at hsum
        have CP := Lib.hid (r1_plus (2 * N) a w2 (by omega) h0 (by omega))
        rw [ea] at CP
        have HS := Lib.hid hsum
        clear hsum ea CD
        refine CP.out.mono ?_
        rintro e w3 ⟨rfl, hb3⟩
        have k4 := k2.keep hb3
        have k5 := k3.keep hb3
        have b3 := btr b2 hb3
        clear q0 q1 f0 f1
        obtain ⟨q0, q1, f0, f1⟩ := k4.box2
        have k6 := k4.set2 (.int .u64 ((2 * N + a) / 18446744073709551616)) (.int .u64 ((2 * N + a) % 18446744073709551616))
        have k7 := (k5.far (p := ⟨w.heap.size + 1, 0, none⟩) (by simp) (.int .u64 ((2 * N + a) / 18446744073709551616))).far (p := ⟨w.heap.size + 1, 1, none⟩) (by simp) (.int .u64 ((2 * N + a) % 18446744073709551616))
        have b4 := (b3.setCell (p := ⟨w.heap.size + 1, 0, none⟩) (by simp) (.int .u64 ((2 * N + a) / 18446744073709551616))).setCell (p := ⟨w.heap.size + 1, 1, none⟩) (by simp) (.int .u64 ((2 * N + a) % 18446744073709551616))
        simp only [wideV]
        go_wp2_with fail
        go_roundw
        case rel => exact ⟨j, 2 * N + a, by omega, rfl, k7, k6, b4, HS.out⟩
        case measure => simp [intOf]

set_option maxHeartbeats 1000000 in
theorem r1_mul (x y : Int) (w : World) (hx : I64 x) (hy : I64 y) :
    Calls Try.prog 64 #[.int .i64 x, .int .i64 y] w fun e w' => e = .returned (.int .i64 (fmul x y)) ∧ Below w.heap.size w w' := by
  obtain ⟨a0, a1⟩ := absI_bd hx
  obtain ⟨b0, b1⟩ := absI_bd hy
  have HF : Hid (fmul x y = heldI (rnd (absI x * absI y) 4294967296) (negB x y)) := Lib.hid rfl
  go_enter Try.func64, Try.ntmps64
  go_wp2_with fail
  refine (r1_size x w hx).mono ?_
  rintro e w' ⟨rfl, rfl⟩
  go_wp2_with fail
  refine (r1_size y w hy).mono ?_
  rintro e w' ⟨rfl, rfl⟩
  go_wp2_with fail
  refine (r1_product _ _ w a0 (by omega) b0 (by omega)).mono ?_
  rintro e w1 ⟨rfl, hb1⟩
  have hp0 : 0 ≤ absI x * absI y := Int.mul_nonneg a0 b0
  have hp1 : absI x * absI y ≤ 9223372036854775808 * 9223372036854775808 := Int.mul_le_mul a1 b1 b0 (by omega)
  have HN : Hid ((!decide (x < 0) == decide (y < 0)) = negB x y) := Lib.hid rfl
  generalize absI x * absI y = P at *
  simp only [wideV]
  have E0 : Hid (P / 4294967296 = P / 18446744073709551616 * 4294967296 + P % 18446744073709551616 / 4294967296) := Lib.hid (by omega)
  have E1 : Hid (P % 4294967296 = P % 18446744073709551616 % 4294967296) := Lib.hid (by omega)
  have c0 : 0 ≤ P / 18446744073709551616 := by omega
  have c1 : P / 18446744073709551616 ≤ 4611686018427387904 := by omega
  have c2 : 0 ≤ P % 18446744073709551616 := by omega
  have c3 : P % 18446744073709551616 ≤ 18446744073709551615 := by omega
  have HR : Hid (rnd P 4294967296 = if 4294967296 < 2 * (P % 4294967296) ∨ (2 * (P % 4294967296) = 4294967296 ∧ (P / 4294967296) % 2 = 1) then P / 4294967296 + 1 else P / 4294967296) := Lib.hid rfl
  rw [E0.out, E1.out] at HR
  generalize P / 18446744073709551616 = hi at *
  generalize P % 18446744073709551616 = lo at *
  have er : IntKind.u64.wrap (lo * 4294967296) / 4294967296 = lo % 4294967296 := by rw [IntKind.wrap_u64]; omega
  have ew : IntKind.u64.wrap (hi * 4294967296) = hi % 4294967296 * 4294967296 := by rw [IntKind.wrap_u64]; omega
  have eo := u64_join (hi % 4294967296) (lo / 4294967296) (by omega) (by omega) (by omega) (by omega)
  by_cases hov : 4294967296 ≤ hi
  · have HE : Hid (fmul x y = edgeI (negB x y)) := Lib.hid (by
      rw [HF.out, heldI, if_pos]
      rw [HR.out]; split <;> omega)
    have hn0 : 0 ≤ hi % 4294967296 * 4294967296 + lo / 4294967296 := by omega
    have hn1 : hi % 4294967296 * 4294967296 + lo / 4294967296 ≤ 18446744073709551615 := by omega
    have hd : decide (0 < hi / 4294967296) = true := by simp; omega
    clear HF HR E0 E1 hp0 hp1
    generalize hn : hi % 4294967296 * 4294967296 + lo / 4294967296 = n at *
    generalize hr : lo % 4294967296 = r at *
    clear hn hr
    have hwb : 0 ≤ IntKind.u64.wrap (n + 1) ∧ IntKind.u64.wrap (n + 1) ≤ 18446744073709551615 := by rw [IntKind.wrap_u64]; omega
    obtain ⟨wb0, wb1⟩ := hwb
    go_wp2_with fail
    all_goals
      rw [HN.out]
      refine (r1_held _ true _ _ (by first | exact wb0 | exact hn0) (by first | exact wb1 | exact hn1)).mono ?_
      rintro e w2 ⟨rfl, rfl⟩
      go_wp2_with fail
      go_ret
      exact ⟨ret_int (by rw [HE.out]; rfl), hb1.alloc hb1.size _⟩
  · have e3 : hi % 4294967296 = hi := by omega
    rw [e3] at eo
    have hn0 : 0 ≤ hi * 4294967296 + lo / 4294967296 := by omega
    have hn1 : hi * 4294967296 + lo / 4294967296 ≤ 18446744073709551615 := by omega
    have hd : decide (0 < hi / 4294967296) = false := by simp; omega
    have hr0 : 0 ≤ lo % 4294967296 := by omega
    have hr1 : lo % 4294967296 < 4294967296 := by omega
    clear E0 E1 hp0 hp1 e3 ew
    have ew : IntKind.u64.wrap (hi * 4294967296) = hi * 4294967296 := by rw [IntKind.wrap_u64]; omega
    generalize hn : hi * 4294967296 + lo / 4294967296 = n at *
    generalize hr : lo % 4294967296 = r at *
    clear hn hr
    have HG : Hid (∀ m, heldI m (negB x y) = heldO m false (negB x y)) := Lib.hid (fun m => rfl)
    by_cases hup : 2147483648 < r ∨ (r = 2147483648 ∧ n % 2 = 1)
    · have HE : Hid (fmul x y = heldI (n + 1) (negB x y)) := Lib.hid (by rw [HF.out, HR.out, if_pos (by omega)])
      by_cases hmax : n = 18446744073709551615
      · have HE2 : Hid (fmul x y = edgeI (negB x y)) := Lib.hid (by rw [HE.out, heldI, if_pos (by omega)])
        subst hmax
        have hmx : IntKind.u64.wrap (18446744073709551615 + 1) = 0 := by decide
        rcases hup with hup | ⟨rfl, -⟩
        · go_wp2_with fail
          rw [HN.out]
          refine (r1_held _ true _ _ (by decide) (by decide)).mono ?_
          rintro e w2 ⟨rfl, rfl⟩
          go_wp2_with fail
          go_ret
          exact ⟨ret_int (by rw [HE2.out]; rfl), hb1.alloc hb1.size _⟩
        · go_wp2_with fail
          rw [HN.out]
          refine (r1_held _ true _ _ (by decide) (by decide)).mono ?_
          rintro e w2 ⟨rfl, rfl⟩
          go_wp2_with fail
          go_ret
          exact ⟨ret_int (by rw [HE2.out]; rfl), hb1.alloc hb1.size _⟩
      · have hn2 : n + 1 ≤ 18446744073709551615 := by omega
        have hnz : (n + 1 == 0) = false := by simp; omega
        clear hmax
        rcases hup with hup | ⟨rfl, hodd⟩
        · go_wp2_with fail
          rw [HN.out]
          refine (r1_held _ false _ _ (by omega) (by omega)).mono ?_
          rintro e w2 ⟨rfl, rfl⟩
          go_wp2_with fail
          go_ret
          exact ⟨ret_int (by rw [HE.out, HG.out]), hb1.alloc hb1.size _⟩
        · go_wp2_with fail
          rw [HN.out]
          refine (r1_held _ false _ _ (by omega) (by omega)).mono ?_
          rintro e w2 ⟨rfl, rfl⟩
          go_wp2_with fail
          go_ret
          exact ⟨ret_int (by rw [HE.out, HG.out]), hb1.alloc hb1.size _⟩
    · have HE : Hid (fmul x y = heldI n (negB x y)) := Lib.hid (by rw [HF.out, HR.out, if_neg (by omega)])
      by_cases hr2 : r = 2147483648
      · subst hr2
        have hodd : n % 2 = 0 := by omega
        clear hup
        go_wp2_with fail
        rw [HN.out]
        refine (r1_held _ false _ _ (by omega) (by omega)).mono ?_
        rintro e w2 ⟨rfl, rfl⟩
        go_wp2_with fail
        go_ret
        exact ⟨ret_int (by rw [HE.out, HG.out]), hb1.alloc hb1.size _⟩
      · have hr3 : r < 2147483648 := by omega
        have hr4 : (r == 2147483648) = false := by simpa using hr2
        clear hup hr2
        go_wp2_with fail
        rw [HN.out]
        refine (r1_held _ false _ _ (by omega) (by omega)).mono ?_
        rintro e w2 ⟨rfl, rfl⟩
        go_wp2_with fail
        go_ret
        exact ⟨ret_int (by rw [HE.out, HG.out]), hb1.alloc hb1.size _⟩
end Go.Proofs.Ytphcffcecncngaa
