/- The walk of the reference's quotient, bit by bit. -/
import Derived.Test.YtphcffcecncngaaRef01
import Derived.Test.YtphcffcecncngaaDivMath
namespace Go.Proofs.Ytphcffcecncngaa
open Go.RowKit

theorem wideV_low {n : Int} (h0 : 0 ≤ n) (h1 : n ≤ 18446744073709551615) : wideV n = .agg #[.int .u64 0, .int .u64 n] := by
  unfold wideV
  rw [show n / 18446744073709551616 = 0 from by omega, show n % 18446744073709551616 = n from by omega]
theorem u64_or_even (a : Int) (h0 : 0 ≤ a) (h1 : a ≤ 18446744073709551615) (h2 : a % 2 = 0) : bits .or .u64 a 1 = a + 1 := by
  have := u64_or1 (a / 2) 1 (by omega) (by omega) (by omega) (by omega)
  rwa [show a / 2 * 2 = a from by omega] at this

set_option maxRecDepth 100000 in
set_option maxHeartbeats 4000000 in
theorem r1_div_main (x y : Int) (w : World) (hx : I64 x) (hy : I64 y) (hx0 : (x == 0) = false) (hy0 : (y == 0) = false) (hya : 1 ≤ absI y) (HF : Hid (fdiv x y = heldI (rnd (absI x * 4294967296) (absI y)) (negB x y))) :
    Calls Try.prog 70 #[.int .i64 x, .int .i64 y] w fun e w' => e = .returned (.int .i64 (fdiv x y)) ∧ Below w.heap.size w w' := by
  obtain ⟨a0, a1⟩ := absI_bd hx
  obtain ⟨b0, b1⟩ := absI_bd hy
  have CX := Lib.hid (fun W => r1_size x W hx)
  have CY := Lib.hid (r1_size y w hy)
  have HN : Hid ((!decide (x < 0) == decide (y < 0)) = negB x y) := Lib.hid rfl
  generalize absI x = X at *
  generalize absI y = b at *
  have HM : Hid (0 ≤ X * 4294967296) := Lib.hid (by omega)
  go_enter Try.func70, Try.ntmps70
  go_wp2_with fail
  refine CY.out.mono ?_
  rintro e w' ⟨rfl, rfl⟩
  go_wp2_with fail
  go_loopw [8, 9, 10] (fun v8 v9 i wr => ∃ (k : Nat) (r n : Int) (o : Bool), k ≤ 96 ∧ i = .int .i64 ((k : Int) - 1) ∧ v8 = .int .u64 n ∧ v9 = .bool o ∧ Blk wr w.heap.size 154 #[.int .u64 0, .int .u64 r] ∧ Below w.heap.size w wr ∧ DivSt (X * 4294967296) b k r n o) (fun _ _ i _ => (intOf i + 1).toNat)
  case atStart =>
    refine ⟨96, 0, 0, false, Nat.le_refl _, rfl, rfl, rfl, Blk.new w _ _, (Below.refl _ _).alloc (Nat.le_refl _) _, ?_⟩
    have e : X * 4294967296 / 2 ^ 96 = 0 := by omega
    exact ⟨by rw [e]; simp, by rw [e]; simp, by rw [e]; simp⟩
  case round =>
    obtain ⟨k, r, n, o, hk, rfl, rfl, rfl, k1, hbel, hst⟩ := hrel
    have hr0 : 0 ≤ r := by rw [hst.rest]; exact Int.emod_nonneg _ (by omega)
    have hr1 : r < b := by rw [hst.rest]; exact Int.emod_lt_of_pos _ (by omega)
    have hn0 : 0 ≤ n := by rw [hst.quo]; omega
    have hn1 : n ≤ 18446744073709551615 := by rw [hst.quo]; omega
    have HST := Lib.hid hst
    clear hst
    obtain ⟨q0, q1, f0, f1⟩ := k1.box2
    have CD := Lib.hid (r1_double r wr hr0 (by omega))
    rw [wideV_low hr0 (by omega), wideV_low (n := 2 * r) (by omega) (by omega)] at CD
    cases k with
    | zero =>
      have hq : X * 4294967296 / 2 ^ 0 = X * 4294967296 := by simp
      obtain ⟨s1, s2, s3⟩ := HST.out
      rw [hq] at s1 s2 s3
      have HR : Hid (rnd (X * 4294967296) b = if b < 2 * (X * 4294967296 % b) ∨ (2 * (X * 4294967296 % b) = b ∧ (X * 4294967296 / b) % 2 = 1) then X * 4294967296 / b + 1 else X * 4294967296 / b) := Lib.hid rfl
      rw [← s1] at HR
      have hQ0 : 0 ≤ X * 4294967296 / b := Int.ediv_nonneg HM.out (by omega)
      have ho := u64_odd n hn0 hn1
      have HG : Hid (∀ m, heldI m (negB x y) = heldO m false (negB x y)) := Lib.hid (fun m => rfl)
      cases o with
      | true =>
        have hov : 18446744073709551616 ≤ X * 4294967296 / b := by simpa using s3.symm
        have HE : Hid (fdiv x y = edgeI (negB x y)) := Lib.hid (by
          rw [HF.out, heldI, if_pos]
          rw [HR.out]; split <;> omega)
        have hwb : 0 ≤ IntKind.u64.wrap (n + 1) ∧ IntKind.u64.wrap (n + 1) ≤ 18446744073709551615 := by rw [IntKind.wrap_u64]; omega
        obtain ⟨wb0, wb1⟩ := hwb
        clear s1 s2 s3 hq HR hQ0 hov HST
        go_wp2_with fail
        refine CD.out.mono ?_
        rintro e w1 ⟨rfl, hb1⟩
        have b1' := btr hbel hb1
        go_wp2_with fail
        all_goals
          rw [HN.out]
          refine (r1_held _ true _ _ (by first | exact wb0 | exact hn0) (by first | exact wb1 | exact hn1)).mono ?_
          rintro e w2 ⟨rfl, rfl⟩
          go_wp2_with fail
          go_ret
          exact ⟨ret_int (by rw [HE.out]; rfl), b1'.alloc b1'.size _⟩
      | false =>
        have hov : X * 4294967296 / b < 18446744073709551616 := by simpa using s3.symm
        rw [Int.emod_eq_of_lt hQ0 hov] at s2
        rw [← s2] at HR
        clear s1 s2 s3 hq hQ0 hov HST
        by_cases hup : b < 2 * r ∨ (2 * r = b ∧ n % 2 = 1)
        · have HE : Hid (fdiv x y = heldI (n + 1) (negB x y)) := Lib.hid (by rw [HF.out, HR.out, if_pos hup])
          by_cases hmax : n = 18446744073709551615
          · have HE2 : Hid (fdiv x y = edgeI (negB x y)) := Lib.hid (by rw [HE.out, heldI, if_pos (by omega)])
            subst hmax
            have hmx : IntKind.u64.wrap (18446744073709551615 + 1) = 0 := by decide
            rcases hup with hup | ⟨hup, -⟩
            · go_wp2_with fail
              refine CD.out.mono ?_
              rintro e w1 ⟨rfl, hb1⟩
              have b1' := btr hbel hb1
              go_wp2_with fail
              rw [HN.out]
              refine (r1_held _ true _ _ (by first | omega | decide) (by first | omega | decide)).mono ?_
              rintro e w2 ⟨rfl, rfl⟩
              go_wp2_with fail
              go_ret
              exact ⟨ret_int (by rw [HE2.out]; rfl), b1'.alloc b1'.size _⟩
            · have d1 : decide (b < 2 * r) = false := by simp; omega
              have d2 : (2 * r == b) = true := by simpa using hup
              clear hup
              go_wp2_with fail
              refine CD.out.mono ?_
              rintro e w1 ⟨rfl, hb1⟩
              have b1' := btr hbel hb1
              go_wp2_with fail
              rw [HN.out]
              refine (r1_held _ true _ _ (by first | omega | decide) (by first | omega | decide)).mono ?_
              rintro e w2 ⟨rfl, rfl⟩
              go_wp2_with fail
              go_ret
              exact ⟨ret_int (by rw [HE2.out]; rfl), b1'.alloc b1'.size _⟩
          · have hn2 : n + 1 ≤ 18446744073709551615 := by omega
            have hnz : (n + 1 == 0) = false := by simp; omega
            clear hmax
            rcases hup with hup | ⟨hup, hodd⟩
            · go_wp2_with fail
              refine CD.out.mono ?_
              rintro e w1 ⟨rfl, hb1⟩
              have b1' := btr hbel hb1
              go_wp2_with fail
              rw [HN.out]
              refine (r1_held _ false _ _ (by first | omega | decide) (by first | omega | decide)).mono ?_
              rintro e w2 ⟨rfl, rfl⟩
              go_wp2_with fail
              go_ret
              exact ⟨ret_int (by rw [HE.out, HG.out]), b1'.alloc b1'.size _⟩
            · have d1 : decide (b < 2 * r) = false := by simp; omega
              have d2 : (2 * r == b) = true := by simpa using hup
              clear hup
              go_wp2_with fail
              refine CD.out.mono ?_
              rintro e w1 ⟨rfl, hb1⟩
              have b1' := btr hbel hb1
              go_wp2_with fail
              rw [HN.out]
              refine (r1_held _ false _ _ (by first | omega | decide) (by first | omega | decide)).mono ?_
              rintro e w2 ⟨rfl, rfl⟩
              go_wp2_with fail
              go_ret
              exact ⟨ret_int (by rw [HE.out, HG.out]), b1'.alloc b1'.size _⟩
        · have HE : Hid (fdiv x y = heldI n (negB x y)) := Lib.hid (by rw [HF.out, HR.out, if_neg hup])
          have d1 : decide (b < 2 * r) = false := by simp; omega
          by_cases hr2 : 2 * r = b
          · have d2 : (2 * r == b) = true := by simpa using hr2
            have hodd : n % 2 = 0 := by omega
            clear hup hr2
            go_wp2_with fail
            refine CD.out.mono ?_
            rintro e w1 ⟨rfl, hb1⟩
            have b1' := btr hbel hb1
            go_wp2_with fail
            rw [HN.out]
            refine (r1_held _ false _ _ (by first | omega | decide) (by first | omega | decide)).mono ?_
            rintro e w2 ⟨rfl, rfl⟩
            go_wp2_with fail
            go_ret
            exact ⟨ret_int (by rw [HE.out, HG.out]), b1'.alloc b1'.size _⟩
          · have d2 : (2 * r == b) = false := by simpa using hr2
            clear hup hr2
            go_wp2_with fail
            refine CD.out.mono ?_
            rintro e w1 ⟨rfl, hb1⟩
            have b1' := btr hbel hb1
            go_wp2_with fail
            rw [HN.out]
            refine (r1_held _ false _ _ (by first | omega | decide) (by first | omega | decide)).mono ?_
            rintro e w2 ⟨rfl, rfl⟩
            go_wp2_with fail
            go_ret
            exact ⟨ret_int (by rw [HE.out, HG.out]), b1'.alloc b1'.size _⟩
    | succ j =>
      have hstep := div_step HM.out hya HST.out
      have e1 : ((j + 1 : Nat) : Int) - 1 = j := by omega
      rw [e1]
      clear e1
      have hbit : 0 ≤ X * 4294967296 / 2 ^ j % 2 ∧ X * 4294967296 / 2 ^ j % 2 ≤ 1 := by omega
      have enw : IntKind.u64.wrap (n * 2) = n * 2 % 18446744073709551616 := IntKind.wrap_u64 _
      have hm0 : 0 ≤ n * 2 % 18446744073709551616 := by omega
      have hm1 : n * 2 % 18446744073709551616 ≤ 18446744073709551614 := by omega
      have eor := u64_or_even (n * 2 % 18446744073709551616) hm0 (by omega) (by omega)
      have er := u64_or_even (2 * r) (by omega) (by omega) (by omega)
      generalize n * 2 % 18446744073709551616 = m at *
      go_wp2_with fail
      refine CD.out.mono ?_
      rintro e w1 ⟨rfl, hb1⟩
      have k2 := k1.keep hb1
      have b1' := btr hbel hb1
      clear q0 q1 f0 f1
      obtain ⟨q0, q1, f0, f1⟩ := k2.box2
      have k3 := k2.set2 (.int .u64 0) (.int .u64 (2 * r))
      have b3 := (b1'.setCell (p := ⟨w.heap.size, 0, none⟩) (Nat.le_refl _) (.int .u64 0)).setCell (p := ⟨w.heap.size, 1, none⟩) (Nat.le_refl _) (.int .u64 (2 * r))
      obtain ⟨p0, p1, g0, g1⟩ := k3.box2
      by_cases h32 : 32 ≤ j
      · obtain ⟨i, rfl⟩ : ∃ i, j = i + 32 := ⟨j - 32, by omega⟩
        rw [bit_high] at hstep hbit
        have e2 : (((i + 32 : Nat) : Int)) = (i : Int) + 32 := by omega
        rw [e2]
        have hX0 : 0 ≤ X / 2 ^ i := Int.ediv_nonneg a0 (Int.le_of_lt (Int.pow_pos (by decide)))
        have hX1 : X / 2 ^ i ≤ X := Int.ediv_le_self _ a0
        have eodd := u64_odd (X / 2 ^ i) hX0 (by omega)
        go_wp2_with fail
        generalize (w1.setCell ⟨w.heap.size, 0, none⟩ (.int .u64 0)).setCell ⟨w.heap.size, 1, none⟩ (.int .u64 (2 * r)) = w2 at *
        refine (CX.out w2).mono ?_
        rintro e w' ⟨rfl, rfl⟩
        generalize X / 2 ^ i % 2 = t at *
        clear q0 q1 f0 f1
        by_cases ht : t = 0
        · subst ht
          clear p0 p1 g0 g1
          have k4 := k3
          have b4 := b3
          clear k3 b3
          rw [Int.add_zero] at hstep
          obtain ⟨p0, p1, g0, g1⟩ := k4.box2
          have c0 : 0 ≤ 2 * r := by omega
          have c1 : 2 * r ≤ 18446744073709551615 := by omega
          by_cases hge : b ≤ 2 * r
          · have HS := Lib.hid (hstep.1 (by omega))
            have e5 : IntKind.u64.wrap (2 * r - b) = 2 * r - b := by rw [IntKind.wrap_u64]; omega
            have k5 := k4.set_ 1 (.int .u64 (2 * r - b))
            have b5 := b4.setCell (p := ⟨w.heap.size, 1, none⟩) (Nat.le_refl _) (.int .u64 (2 * r - b))
            clear hstep
            by_cases hbig : 9223372036854775808 ≤ n
            · have HO : Hid ((o || decide (9223372036854775808 ≤ n)) = true) := Lib.hid (by simp [hbig])
              rw [HO.out] at HS
              go_wp2_with fail
              go_roundw
              case rel => exact ⟨i + 32, _, _, true, by omega, congrArg (Value.int .i64) (by omega), rfl, rfl, k5, b5, HS.out⟩
              case measure => first | (simp [intOf]; done) | (simp [intOf]; omega)
            · have HO : Hid ((o || decide (9223372036854775808 ≤ n)) = o) := Lib.hid (by simp; omega)
              rw [HO.out] at HS
              go_wp2_with fail
              go_roundw
              case rel => exact ⟨i + 32, _, _, o, by omega, congrArg (Value.int .i64) (by omega), rfl, rfl, k5, b5, HS.out⟩
              case measure => first | (simp [intOf]; done) | (simp [intOf]; omega)
          · have HS := Lib.hid (hstep.2 (by omega))
            clear hstep
            by_cases hbig : 9223372036854775808 ≤ n
            · have HO : Hid ((o || decide (9223372036854775808 ≤ n)) = true) := Lib.hid (by simp [hbig])
              rw [HO.out] at HS
              go_wp2_with fail
              go_roundw
              case rel => exact ⟨i + 32, _, _, true, by omega, congrArg (Value.int .i64) (by omega), rfl, rfl, k4, b4, HS.out⟩
              case measure => first | (simp [intOf]; done) | (simp [intOf]; omega)
            · have HO : Hid ((o || decide (9223372036854775808 ≤ n)) = o) := Lib.hid (by simp; omega)
              rw [HO.out] at HS
              go_wp2_with fail
              go_roundw
              case rel => exact ⟨i + 32, _, _, o, by omega, congrArg (Value.int .i64) (by omega), rfl, rfl, k4, b4, HS.out⟩
              case measure => first | (simp [intOf]; done) | (simp [intOf]; omega)
        · obtain rfl : t = 1 := by omega
          have k4 := k3.set_ 1 (.int .u64 (2 * r + 1))
          have b4 := b3.setCell (p := ⟨w.heap.size, 1, none⟩) (Nat.le_refl _) (.int .u64 (2 * r + 1))
          obtain ⟨x0, x1, y0', y1'⟩ := k3.box2
          clear p0 p1 g0 g1
          obtain ⟨p0, p1, g0, g1⟩ := k4.box2
          have c0 : 0 ≤ 2 * r + 1 := by omega
          have c1 : 2 * r + 1 ≤ 18446744073709551615 := by omega
          by_cases hge : b ≤ 2 * r + 1
          · have HS := Lib.hid (hstep.1 (by omega))
            have e5 : IntKind.u64.wrap (2 * r + 1 - b) = 2 * r + 1 - b := by rw [IntKind.wrap_u64]; omega
            have k5 := k4.set_ 1 (.int .u64 (2 * r + 1 - b))
            have b5 := b4.setCell (p := ⟨w.heap.size, 1, none⟩) (Nat.le_refl _) (.int .u64 (2 * r + 1 - b))
            clear hstep
            by_cases hbig : 9223372036854775808 ≤ n
            · have HO : Hid ((o || decide (9223372036854775808 ≤ n)) = true) := Lib.hid (by simp [hbig])
              rw [HO.out] at HS
              go_wp2_with fail
              go_roundw
              case rel => exact ⟨i + 32, _, _, true, by omega, congrArg (Value.int .i64) (by omega), rfl, rfl, k5, b5, HS.out⟩
              case measure => first | (simp [intOf]; done) | (simp [intOf]; omega)
            · have HO : Hid ((o || decide (9223372036854775808 ≤ n)) = o) := Lib.hid (by simp; omega)
              rw [HO.out] at HS
              go_wp2_with fail
              go_roundw
              case rel => exact ⟨i + 32, _, _, o, by omega, congrArg (Value.int .i64) (by omega), rfl, rfl, k5, b5, HS.out⟩
              case measure => first | (simp [intOf]; done) | (simp [intOf]; omega)
          · have HS := Lib.hid (hstep.2 (by omega))
            clear hstep
            by_cases hbig : 9223372036854775808 ≤ n
            · have HO : Hid ((o || decide (9223372036854775808 ≤ n)) = true) := Lib.hid (by simp [hbig])
              rw [HO.out] at HS
              go_wp2_with fail
              go_roundw
              case rel => exact ⟨i + 32, _, _, true, by omega, congrArg (Value.int .i64) (by omega), rfl, rfl, k4, b4, HS.out⟩
              case measure => first | (simp [intOf]; done) | (simp [intOf]; omega)
            · have HO : Hid ((o || decide (9223372036854775808 ≤ n)) = o) := Lib.hid (by simp; omega)
              rw [HO.out] at HS
              go_wp2_with fail
              go_roundw
              case rel => exact ⟨i + 32, _, _, o, by omega, congrArg (Value.int .i64) (by omega), rfl, rfl, k4, b4, HS.out⟩
              case measure => first | (simp [intOf]; done) | (simp [intOf]; omega)
      · rw [bit_low _ _ (by omega), Int.add_zero] at hstep
        have e32 : decide (32 ≤ (j : Int)) = false := by simp; omega
        clear p0 p1 g0 g1
        have k4 := k3
        have b4 := b3
        clear k3 b3
        obtain ⟨p0, p1, g0, g1⟩ := k4.box2
        have c0 : 0 ≤ 2 * r := by omega
        have c1 : 2 * r ≤ 18446744073709551615 := by omega
        by_cases hge : b ≤ 2 * r
        · have HS := Lib.hid (hstep.1 (by omega))
          have e5 : IntKind.u64.wrap (2 * r - b) = 2 * r - b := by rw [IntKind.wrap_u64]; omega
          have k5 := k4.set_ 1 (.int .u64 (2 * r - b))
          have b5 := b4.setCell (p := ⟨w.heap.size, 1, none⟩) (Nat.le_refl _) (.int .u64 (2 * r - b))
          clear hstep
          by_cases hbig : 9223372036854775808 ≤ n
          · have HO : Hid ((o || decide (9223372036854775808 ≤ n)) = true) := Lib.hid (by simp [hbig])
            rw [HO.out] at HS
            go_wp2_with fail
            go_roundw
            case rel => exact ⟨j, _, _, true, by omega, congrArg (Value.int .i64) (by omega), rfl, rfl, k5, b5, HS.out⟩
            case measure => first | (simp [intOf]; done) | (simp [intOf]; omega)
          · have HO : Hid ((o || decide (9223372036854775808 ≤ n)) = o) := Lib.hid (by simp; omega)
            rw [HO.out] at HS
            go_wp2_with fail
            go_roundw
            case rel => exact ⟨j, _, _, o, by omega, congrArg (Value.int .i64) (by omega), rfl, rfl, k5, b5, HS.out⟩
            case measure => first | (simp [intOf]; done) | (simp [intOf]; omega)
        · have HS := Lib.hid (hstep.2 (by omega))
          clear hstep
          by_cases hbig : 9223372036854775808 ≤ n
          · have HO : Hid ((o || decide (9223372036854775808 ≤ n)) = true) := Lib.hid (by simp [hbig])
            rw [HO.out] at HS
            go_wp2_with fail
            go_roundw
            case rel => exact ⟨j, _, _, true, by omega, congrArg (Value.int .i64) (by omega), rfl, rfl, k4, b4, HS.out⟩
            case measure => first | (simp [intOf]; done) | (simp [intOf]; omega)
          · have HO : Hid ((o || decide (9223372036854775808 ≤ n)) = o) := Lib.hid (by simp; omega)
            rw [HO.out] at HS
            go_wp2_with fail
            go_roundw
            case rel => exact ⟨j, _, _, o, by omega, congrArg (Value.int .i64) (by omega), rfl, rfl, k4, b4, HS.out⟩
            case measure => first | (simp [intOf]; done) | (simp [intOf]; omega)

theorem r1_div (x y : Int) (w : World) (hx : I64 x) (hy : I64 y) :
    Calls Try.prog 70 #[.int .i64 x, .int .i64 y] w fun e w' => e = .returned (.int .i64 (fdiv x y)) ∧ Below w.heap.size w w' := by
  by_cases hx0 : x = 0
  · subst hx0
    have HE : Hid (fdiv 0 y = 0) := Lib.hid (by
      unfold fdiv
      by_cases h : y = 0
      · simp [h]
      · rw [if_neg h]
        have e : absI 0 * 4294967296 = 0 := by decide
        rw [e, rnd]
        simp only [Int.zero_emod, Int.zero_ediv]
        have hb : 1 ≤ absI y := by unfold absI; split <;> omega
        rw [if_neg (by omega), heldI, if_neg (by decide)]
        split <;> rfl)
    go_enter Try.func70, Try.ntmps70
    go_wp2_with fail
    go_ret
    exact ⟨ret_int HE.out.symm, Below.refl _ _⟩
  · have hxb : (x == 0) = false := by simpa using hx0
    by_cases hy0 : y = 0
    · subst hy0
      have HE : Hid (fdiv x 0 = edgeI (decide (x < 0))) := Lib.hid (by simp [fdiv, hx0])
      clear hx0
      go_enter Try.func70, Try.ntmps70
      go_wp2_with fail
      refine (r1_held 0 true _ w (by omega) (by omega)).mono ?_
      rintro e w' ⟨rfl, rfl⟩
      go_wp2_with fail
      go_ret
      exact ⟨ret_int (by rw [HE.out]; rfl), Below.refl _ _⟩
    · have hyb : (y == 0) = false := by simpa using hy0
      exact r1_div_main x y w hx hy hxb hyb (by unfold absI; split <;> omega) (Lib.hid (by rw [fdiv, if_neg hy0]))
end Go.Proofs.Ytphcffcecncngaa
