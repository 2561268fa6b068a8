/- The walk of the library's Div64. -/
import Derived.Test.YtphcffcecncngaaFix
import Derived.Test.YtphcffcecncngaaBits
import Derived.Test.YtphcffcecncngaaDivMath
namespace Go.Proofs.Ytphcffcecncngaa
open Go.RowKit

theorem u64_orp (a b : Int) (s : Nat) (h0 : 0 ≤ a) (h1 : a * 2 ^ s ≤ 18446744073709551615) (h2 : 0 ≤ b) (h3 : b < 2 ^ s) (h4 : b ≤ 18446744073709551615) : bits .or .u64 (a * 2 ^ s) b = a * 2 ^ s + b := by
  obtain ⟨n, rfl⟩ := Int.eq_ofNat_of_zero_le h0
  obtain ⟨m, rfl⟩ := Int.eq_ofNat_of_zero_le h2
  have e1 : (n : Int) * 2 ^ s = ((n * 2 ^ s : Nat) : Int) := by rw [Int.natCast_mul, Int.natCast_pow]; rfl
  have e2 : ((2 : Int) ^ s) = ((2 ^ s : Nat) : Int) := by rw [Int.natCast_pow]; rfl
  rw [e1] at h1
  rw [e2] at h3
  rw [e1, bits_or_u64_nat (n * 2 ^ s) m (by omega) (by omega)]
  have e : n * 2 ^ s ||| m = n * 2 ^ s + m := by
    have := Nat.two_pow_add_eq_or_of_lt (i := s) (b := m) (by omega) n
    rw [Nat.mul_comm]; omega
  rw [e]; omega

set_option maxRecDepth 100000 in
set_option maxHeartbeats 4000000 in
theorem bits_div64 (hi lo y : Int) (w : World) (h0 : 0 ≤ hi) (h1 : hi < y) (h2 : y ≤ 18446744073709551615) (h3 : 0 ≤ lo) (h4 : lo ≤ 18446744073709551615) :
    Calls Try.prog 104 #[.int .u64 hi, .int .u64 lo, .int .u64 y] w fun e w' => e = .returned (.tuple #[.int .u64 ((hi * 18446744073709551616 + lo) / y), .int .u64 ((hi * 18446744073709551616 + lo) % y)]) ∧ Below w.heap.size w w' := by
  by_cases hz : hi = 0
  · subst hz
    go_enter Try.func104, Try.ntmps104
    go_wp2_with fail
    go_big_quiet (fail)
    go_wp2_with fail
    go_ret2
    exact ⟨by simp, below_drewN (Below.refl _ _) _⟩
  · have hz1 : (hi == 0) = false := by simpa using hz
    have hz2 : 1 ≤ hi := by omega
    clear hz
    go_enter Try.func104, Try.ntmps104
    go_wp2_with fail
    refine (bits_lz64 y w (by omega) h2).mono ?_
    rintro e w1 ⟨s, rfl, rfl, s1, s2, s3⟩
    have hD : 0 < (2 : Int) ^ s := Int.pow_pos (by decide)
    have hE : 0 < (2 : Int) ^ (64 - s) := Int.pow_pos (by decide)
    obtain ⟨m1, m2, m3, m4, m5, m6, m7⟩ := move_up hD hE (pow_split s s1) h0 h1 h3 h4 s3
    have eO := u64_orp hi (lo / 2 ^ (64 - s)) s h0 m2 m3 m4 (by omega)
    have eL : IntKind.u64.wrap (lo * 2 ^ s) = lo * 2 ^ s % 18446744073709551616 := IntKind.wrap_u64 _
    have hL0 : 0 ≤ lo * 2 ^ s % 18446744073709551616 := by omega
    have hL1 : lo * 2 ^ s % 18446744073709551616 ≤ 18446744073709551615 := by omega
    generalize hNN : hi * 18446744073709551616 + lo = N at *
    generalize hLL : lo * 2 ^ s % 18446744073709551616 = L at *
    generalize hUU : hi * 2 ^ s + lo / 2 ^ (64 - s) = u at *
    have FIN : Hid (∀ q1 q0 v v2 : Int, q1 * (y * 2 ^ s) + v = u * 4294967296 + L / 4294967296 → q0 * (y * 2 ^ s) + v2 = v * 4294967296 + L % 4294967296 → 0 ≤ v2 → v2 < y * 2 ^ s → q1 * 4294967296 + q0 = N / y ∧ v2 / 2 ^ s = N % y) :=
      Lib.hid (fun q1 q0 v v2 a b c d => move_down hD (by omega) m7 a b c d)
    have eA := u64_mask (y * 2 ^ s) (by omega) s3
    have eB := u64_mask L hL0 hL1
    have hy0 : 0 ≤ y * 2 ^ s % 4294967296 := by omega
    have hy0' : y * 2 ^ s % 4294967296 < 4294967296 := by omega
    have hy1 : 2147483648 ≤ y * 2 ^ s / 4294967296 := by omega
    have hy1' : y * 2 ^ s / 4294967296 < 4294967296 := by omega
    have hYY : Hid (y * 2 ^ s / 4294967296 * 4294967296 + y * 2 ^ s % 4294967296 = y * 2 ^ s) := Lib.hid (by omega)
    have hd1 : 0 ≤ L / 4294967296 := by omega
    have hd1' : L / 4294967296 < 4294967296 := by omega
    have hd0 : 0 ≤ L % 4294967296 := by omega
    have hd0' : L % 4294967296 < 4294967296 := by omega
    have HNN := Lib.hid hNN
    clear m7 hNN hLL hUU
    generalize hYe : y * 2 ^ s = Y at *
    generalize hy1e : Y / 4294967296 = y1 at *
    generalize hy0e : Y % 4294967296 = y0 at *
    generalize hd1e : L / 4294967296 = d1 at *
    generalize hd0e : L % 4294967296 = d0 at *
    clear hy0e hd0e
    have DS1 := dig_start hy1 hy1' hy0 hy0' m5 (by rw [hYY.out]; exact m6) hd1 hd1'
    have DL1 := dig_lt (y1 := y1) (y0 := y0) (u := u) (d := d1) hy1 hy0 (by rw [hYY.out]; exact m6) hd1'
    obtain ⟨g1, g2, g3⟩ := dig_first (u := u) (y1 := y1) m5 (by omega)
    have hqb := DS1.high
    have hqb0 := DS1.q0
    generalize hq : u / y1 = q at *
    generalize hre : u - q * y1 = r at *
    have HDS1 := Lib.hid DS1
    clear DS1
    go_wp2_with fail
    go_loop [15, 16] (fun a b => ∃ q r : Int, a = .int .u64 q ∧ b = .int .u64 r ∧ DigOk y1 y0 u d1 q r ∧ r < 4294967296) (fun a _ => (intOf a).toNat)
    case atStart => exact ⟨q, r, by rw [hq], rfl, HDS1.out, by omega⟩
    case round =>
      clear hq hre hqb hqb0 HDS1 g1 g2 g3
      obtain ⟨q, r, rfl, rfl, hdk, hr4⟩ := hrel
      have hqb := hdk.high
      have hqb0 := hdk.q0
      have hr0 := hdk.r0
      have hdig0 : 0 ≤ (u * 4294967296 + d1) / (y1 * 4294967296 + y0) := Int.ediv_nonneg (by omega) (by omega)
      have HU : Hid (u < y1 * 4294967296 + y0) := Lib.hid (by rw [hYY.out]; exact m6)
      have HD := Lib.hid hdk
      clear hdk
      by_cases hbig : 4294967296 ≤ q
      · have hmore := dig_more HD.out hy1 hy0 HU.out hd1' (.inl hbig)
        have HN := Lib.hid (dig_next HD.out hy1 hdig0 hmore)
        have hqp : 1 ≤ q := by omega
        clear hmore
        by_cases hwide : 4294967296 ≤ r + y1
        · have HQ := Lib.hid (dig_wide HN.out hy1 hy0 hy0' hd1 (by omega) hwide)
          obtain ⟨hv0, hv1⟩ := dig_rest (T := u * 4294967296 + d1) (Y := Y) (q := (q - 1)) (by rw [← hYY.out]; exact HQ.out) (by omega)
          have HQL : Hid ((q - 1) < 4294967296) := Lib.hid (by have := HQ.out; omega)
          have hq10 : 0 ≤ (q - 1) := by have := HQ.out; omega
          generalize hq1e : (q - 1) = q1 at *
          have HV : Hid (q1 * Y + (u * 4294967296 + d1 - q1 * Y) = u * 4294967296 + d1) := Lib.hid (by omega)
          have E21 : IntKind.u64.wrap (IntKind.u64.wrap (IntKind.u64.wrap (u * 4294967296) + d1) - IntKind.u64.wrap (q1 * Y)) = u * 4294967296 + d1 - q1 * Y := by
            rw [IntKind.wrap_u64, IntKind.wrap_u64, IntKind.wrap_u64, IntKind.wrap_u64]; omega
          have hq11 := HQL.out
          generalize hve : u * 4294967296 + d1 - q1 * Y = v at *
          clear hve
          obtain ⟨g1, g2, g3⟩ := dig_first (u := v) (y1 := y1) hv0 (by omega)
          have DS2 := dig_start hy1 hy1' hy0 hy0' hv0 (by rw [hYY.out]; exact hv1) hd0 hd0'
          have DL2 := dig_lt (y1 := y1) (y0 := y0) (u := v) (d := d0) hy1 hy0 (by rw [hYY.out]; exact hv1) hd0'
          have hqb := DS2.high
          have hqb0 := DS2.q0
          generalize hpe : v / y1 = p at *
          generalize hte : v - p * y1 = t at *
          have HDS2 := Lib.hid DS2
          clear DS2
          go_wp2_with fail
          go_loop [18, 16] (fun a b => ∃ p t : Int, a = .int .u64 p ∧ b = .int .u64 t ∧ DigOk y1 y0 v d0 p t ∧ t < 4294967296) (fun a _ => (intOf a).toNat)
          case atStart => exact ⟨p, t, rfl, rfl, HDS2.out, by omega⟩
          case round =>
            clear hpe hte hqb hqb0 HDS2 g1 g2 g3
            obtain ⟨p, t, rfl, rfl, hdk2, ht4⟩ := hrel
            have hqb := hdk2.high
            have hqb0 := hdk2.q0
            have hr0 := hdk2.r0
            have hdig2 : 0 ≤ (v * 4294967296 + d0) / (y1 * 4294967296 + y0) := Int.ediv_nonneg (by omega) (by omega)
            have HU2 : Hid (v < y1 * 4294967296 + y0) := Lib.hid (by rw [hYY.out]; exact hv1)
            have HD2 := Lib.hid hdk2
            clear hdk2
            by_cases hbig2 : 4294967296 ≤ p
            · have hmore := dig_more HD2.out hy1 hy0 HU2.out hd0' (.inl hbig2)
              have HN2 := Lib.hid (dig_next HD2.out hy1 hdig2 hmore)
              have hqp : 1 ≤ p := by omega
              clear hmore
              by_cases hwide : 4294967296 ≤ t + y1
              · have HQ2 := Lib.hid (dig_wide HN2.out hy1 hy0 hy0' hd0 (by omega) hwide)
                obtain ⟨hx0, hx1⟩ := dig_rest (T := v * 4294967296 + d0) (Y := Y) (q := (p - 1)) (by rw [← hYY.out]; exact HQ2.out) (by omega)
                have HPL : Hid ((p - 1) < 4294967296) := Lib.hid (by have := HQ2.out; omega)
                have hp10 : 0 ≤ (p - 1) := by have := HQ2.out; omega
                generalize hp1e : (p - 1) = p1 at *
                have HX : Hid (p1 * Y + (v * 4294967296 + d0 - p1 * Y) = v * 4294967296 + d0) := Lib.hid (by omega)
                have E22 : IntKind.u64.wrap (IntKind.u64.wrap (IntKind.u64.wrap (v * 4294967296) + d0) - IntKind.u64.wrap (p1 * Y)) = v * 4294967296 + d0 - p1 * Y := by
                  rw [IntKind.wrap_u64, IntKind.wrap_u64, IntKind.wrap_u64, IntKind.wrap_u64]; omega
                have hp11 := HPL.out
                generalize hxe : v * 4294967296 + d0 - p1 * Y = x at *
                clear hxe
                have FF := Lib.hid (FIN.out q1 p1 v x HV.out HX.out hx0 hx1)
                go_wp2_with fail
                go_ret2
                exact ⟨by rw [HNN.out, ← FF.out.1, ← FF.out.2]; rfl, Below.refl _ _⟩
              · go_wp2_with fail
                go_round
                case rel => exact ⟨p - 1, t + y1, rfl, rfl, HN2.out, by omega⟩
                case measure => simp [intOf]; omega
            · have hqy0 : 0 ≤ p * y0 := Int.mul_nonneg hqb0 hy0
              have hqy1 : p * y0 ≤ 4294967295 * 4294967295 := Int.mul_le_mul (by omega) (by omega) hy0 (by omega)
              by_cases htest : 4294967296 * t + d0 < p * y0
              · have hmore := dig_more HD2.out hy1 hy0 HU2.out hd0' (.inr htest)
                have HN2 := Lib.hid (dig_next HD2.out hy1 hdig2 hmore)
                have hqp : 1 ≤ p := by omega
                clear hmore
                by_cases hwide : 4294967296 ≤ t + y1
                · have HQ2 := Lib.hid (dig_wide HN2.out hy1 hy0 hy0' hd0 (by omega) hwide)
                  obtain ⟨hx0, hx1⟩ := dig_rest (T := v * 4294967296 + d0) (Y := Y) (q := (p - 1)) (by rw [← hYY.out]; exact HQ2.out) (by omega)
                  have HPL : Hid ((p - 1) < 4294967296) := Lib.hid (by have := HQ2.out; omega)
                  have hp10 : 0 ≤ (p - 1) := by have := HQ2.out; omega
                  generalize hp1e : (p - 1) = p1 at *
                  have HX : Hid (p1 * Y + (v * 4294967296 + d0 - p1 * Y) = v * 4294967296 + d0) := Lib.hid (by omega)
                  have E22 : IntKind.u64.wrap (IntKind.u64.wrap (IntKind.u64.wrap (v * 4294967296) + d0) - IntKind.u64.wrap (p1 * Y)) = v * 4294967296 + d0 - p1 * Y := by
                    rw [IntKind.wrap_u64, IntKind.wrap_u64, IntKind.wrap_u64, IntKind.wrap_u64]; omega
                  have hp11 := HPL.out
                  generalize hxe : v * 4294967296 + d0 - p1 * Y = x at *
                  clear hxe
                  have FF := Lib.hid (FIN.out q1 p1 v x HV.out HX.out hx0 hx1)
                  go_wp2_with fail
                  go_ret2
                  exact ⟨by rw [HNN.out, ← FF.out.1, ← FF.out.2]; rfl, Below.refl _ _⟩
                · go_wp2_with fail
                  go_round
                  case rel => exact ⟨p - 1, t + y1, rfl, rfl, HN2.out, by omega⟩
                  case measure => simp [intOf]; omega
              · have HQ2 := Lib.hid (dig_done HD2.out hy1 hy0 (by omega))
                obtain ⟨hx0, hx1⟩ := dig_rest (T := v * 4294967296 + d0) (Y := Y) (q := p) (by rw [← hYY.out]; exact HQ2.out) (by omega)
                have HPL : Hid (p < 4294967296) := Lib.hid (by have := HQ2.out; omega)
                have hp10 : 0 ≤ p := by have := HQ2.out; omega
                generalize hp1e : p = p1 at *
                have HX : Hid (p1 * Y + (v * 4294967296 + d0 - p1 * Y) = v * 4294967296 + d0) := Lib.hid (by omega)
                have E22 : IntKind.u64.wrap (IntKind.u64.wrap (IntKind.u64.wrap (v * 4294967296) + d0) - IntKind.u64.wrap (p1 * Y)) = v * 4294967296 + d0 - p1 * Y := by
                  rw [IntKind.wrap_u64, IntKind.wrap_u64, IntKind.wrap_u64, IntKind.wrap_u64]; omega
                have hp11 := HPL.out
                generalize hxe : v * 4294967296 + d0 - p1 * Y = x at *
                clear hxe
                have FF := Lib.hid (FIN.out q1 p1 v x HV.out HX.out hx0 hx1)
                go_wp2_with fail
                go_ret2
                exact ⟨by rw [HNN.out, ← FF.out.1, ← FF.out.2]; rfl, Below.refl _ _⟩
        · go_wp2_with fail
          go_round
          case rel => exact ⟨q - 1, r + y1, rfl, rfl, HN.out, by omega⟩
          case measure => simp [intOf]; omega
      · have hqy0 : 0 ≤ q * y0 := Int.mul_nonneg hqb0 hy0
        have hqy1 : q * y0 ≤ 4294967295 * 4294967295 := Int.mul_le_mul (by omega) (by omega) hy0 (by omega)
        by_cases htest : 4294967296 * r + d1 < q * y0
        · have hmore := dig_more HD.out hy1 hy0 HU.out hd1' (.inr htest)
          have HN := Lib.hid (dig_next HD.out hy1 hdig0 hmore)
          have hqp : 1 ≤ q := by omega
          clear hmore
          by_cases hwide : 4294967296 ≤ r + y1
          · have HQ := Lib.hid (dig_wide HN.out hy1 hy0 hy0' hd1 (by omega) hwide)
            obtain ⟨hv0, hv1⟩ := dig_rest (T := u * 4294967296 + d1) (Y := Y) (q := (q - 1)) (by rw [← hYY.out]; exact HQ.out) (by omega)
            have HQL : Hid ((q - 1) < 4294967296) := Lib.hid (by have := HQ.out; omega)
            have hq10 : 0 ≤ (q - 1) := by have := HQ.out; omega
            generalize hq1e : (q - 1) = q1 at *
            have HV : Hid (q1 * Y + (u * 4294967296 + d1 - q1 * Y) = u * 4294967296 + d1) := Lib.hid (by omega)
            have E21 : IntKind.u64.wrap (IntKind.u64.wrap (IntKind.u64.wrap (u * 4294967296) + d1) - IntKind.u64.wrap (q1 * Y)) = u * 4294967296 + d1 - q1 * Y := by
              rw [IntKind.wrap_u64, IntKind.wrap_u64, IntKind.wrap_u64, IntKind.wrap_u64]; omega
            have hq11 := HQL.out
            generalize hve : u * 4294967296 + d1 - q1 * Y = v at *
            clear hve
            obtain ⟨g1, g2, g3⟩ := dig_first (u := v) (y1 := y1) hv0 (by omega)
            have DS2 := dig_start hy1 hy1' hy0 hy0' hv0 (by rw [hYY.out]; exact hv1) hd0 hd0'
            have DL2 := dig_lt (y1 := y1) (y0 := y0) (u := v) (d := d0) hy1 hy0 (by rw [hYY.out]; exact hv1) hd0'
            have hqb := DS2.high
            have hqb0 := DS2.q0
            generalize hpe : v / y1 = p at *
            generalize hte : v - p * y1 = t at *
            have HDS2 := Lib.hid DS2
            clear DS2
            go_wp2_with fail
            go_loop [18, 16] (fun a b => ∃ p t : Int, a = .int .u64 p ∧ b = .int .u64 t ∧ DigOk y1 y0 v d0 p t ∧ t < 4294967296) (fun a _ => (intOf a).toNat)
            case atStart => exact ⟨p, t, rfl, rfl, HDS2.out, by omega⟩
            case round =>
              clear hpe hte hqb hqb0 HDS2 g1 g2 g3
              obtain ⟨p, t, rfl, rfl, hdk2, ht4⟩ := hrel
              have hqb := hdk2.high
              have hqb0 := hdk2.q0
              have hr0 := hdk2.r0
              have hdig2 : 0 ≤ (v * 4294967296 + d0) / (y1 * 4294967296 + y0) := Int.ediv_nonneg (by omega) (by omega)
              have HU2 : Hid (v < y1 * 4294967296 + y0) := Lib.hid (by rw [hYY.out]; exact hv1)
              have HD2 := Lib.hid hdk2
              clear hdk2
              by_cases hbig2 : 4294967296 ≤ p
              · have hmore := dig_more HD2.out hy1 hy0 HU2.out hd0' (.inl hbig2)
                have HN2 := Lib.hid (dig_next HD2.out hy1 hdig2 hmore)
                have hqp : 1 ≤ p := by omega
                clear hmore
                by_cases hwide : 4294967296 ≤ t + y1
                · have HQ2 := Lib.hid (dig_wide HN2.out hy1 hy0 hy0' hd0 (by omega) hwide)
                  obtain ⟨hx0, hx1⟩ := dig_rest (T := v * 4294967296 + d0) (Y := Y) (q := (p - 1)) (by rw [← hYY.out]; exact HQ2.out) (by omega)
                  have HPL : Hid ((p - 1) < 4294967296) := Lib.hid (by have := HQ2.out; omega)
                  have hp10 : 0 ≤ (p - 1) := by have := HQ2.out; omega
                  generalize hp1e : (p - 1) = p1 at *
                  have HX : Hid (p1 * Y + (v * 4294967296 + d0 - p1 * Y) = v * 4294967296 + d0) := Lib.hid (by omega)
                  have E22 : IntKind.u64.wrap (IntKind.u64.wrap (IntKind.u64.wrap (v * 4294967296) + d0) - IntKind.u64.wrap (p1 * Y)) = v * 4294967296 + d0 - p1 * Y := by
                    rw [IntKind.wrap_u64, IntKind.wrap_u64, IntKind.wrap_u64, IntKind.wrap_u64]; omega
                  have hp11 := HPL.out
                  generalize hxe : v * 4294967296 + d0 - p1 * Y = x at *
                  clear hxe
                  have FF := Lib.hid (FIN.out q1 p1 v x HV.out HX.out hx0 hx1)
                  go_wp2_with fail
                  go_ret2
                  exact ⟨by rw [HNN.out, ← FF.out.1, ← FF.out.2]; rfl, Below.refl _ _⟩
                · go_wp2_with fail
                  go_round
                  case rel => exact ⟨p - 1, t + y1, rfl, rfl, HN2.out, by omega⟩
                  case measure => simp [intOf]; omega
              · have hqy0 : 0 ≤ p * y0 := Int.mul_nonneg hqb0 hy0
                have hqy1 : p * y0 ≤ 4294967295 * 4294967295 := Int.mul_le_mul (by omega) (by omega) hy0 (by omega)
                by_cases htest : 4294967296 * t + d0 < p * y0
                · have hmore := dig_more HD2.out hy1 hy0 HU2.out hd0' (.inr htest)
                  have HN2 := Lib.hid (dig_next HD2.out hy1 hdig2 hmore)
                  have hqp : 1 ≤ p := by omega
                  clear hmore
                  by_cases hwide : 4294967296 ≤ t + y1
                  · have HQ2 := Lib.hid (dig_wide HN2.out hy1 hy0 hy0' hd0 (by omega) hwide)
                    obtain ⟨hx0, hx1⟩ := dig_rest (T := v * 4294967296 + d0) (Y := Y) (q := (p - 1)) (by rw [← hYY.out]; exact HQ2.out) (by omega)
                    have HPL : Hid ((p - 1) < 4294967296) := Lib.hid (by have := HQ2.out; omega)
                    have hp10 : 0 ≤ (p - 1) := by have := HQ2.out; omega
                    generalize hp1e : (p - 1) = p1 at *
                    have HX : Hid (p1 * Y + (v * 4294967296 + d0 - p1 * Y) = v * 4294967296 + d0) := Lib.hid (by omega)
                    have E22 : IntKind.u64.wrap (IntKind.u64.wrap (IntKind.u64.wrap (v * 4294967296) + d0) - IntKind.u64.wrap (p1 * Y)) = v * 4294967296 + d0 - p1 * Y := by
                      rw [IntKind.wrap_u64, IntKind.wrap_u64, IntKind.wrap_u64, IntKind.wrap_u64]; omega
                    have hp11 := HPL.out
                    generalize hxe : v * 4294967296 + d0 - p1 * Y = x at *
                    clear hxe
                    have FF := Lib.hid (FIN.out q1 p1 v x HV.out HX.out hx0 hx1)
                    go_wp2_with fail
                    go_ret2
                    exact ⟨by rw [HNN.out, ← FF.out.1, ← FF.out.2]; rfl, Below.refl _ _⟩
                  · go_wp2_with fail
                    go_round
                    case rel => exact ⟨p - 1, t + y1, rfl, rfl, HN2.out, by omega⟩
                    case measure => simp [intOf]; omega
                · have HQ2 := Lib.hid (dig_done HD2.out hy1 hy0 (by omega))
                  obtain ⟨hx0, hx1⟩ := dig_rest (T := v * 4294967296 + d0) (Y := Y) (q := p) (by rw [← hYY.out]; exact HQ2.out) (by omega)
                  have HPL : Hid (p < 4294967296) := Lib.hid (by have := HQ2.out; omega)
                  have hp10 : 0 ≤ p := by have := HQ2.out; omega
                  generalize hp1e : p = p1 at *
                  have HX : Hid (p1 * Y + (v * 4294967296 + d0 - p1 * Y) = v * 4294967296 + d0) := Lib.hid (by omega)
                  have E22 : IntKind.u64.wrap (IntKind.u64.wrap (IntKind.u64.wrap (v * 4294967296) + d0) - IntKind.u64.wrap (p1 * Y)) = v * 4294967296 + d0 - p1 * Y := by
                    rw [IntKind.wrap_u64, IntKind.wrap_u64, IntKind.wrap_u64, IntKind.wrap_u64]; omega
                  have hp11 := HPL.out
                  generalize hxe : v * 4294967296 + d0 - p1 * Y = x at *
                  clear hxe
                  have FF := Lib.hid (FIN.out q1 p1 v x HV.out HX.out hx0 hx1)
                  go_wp2_with fail
                  go_ret2
                  exact ⟨by rw [HNN.out, ← FF.out.1, ← FF.out.2]; rfl, Below.refl _ _⟩
          · go_wp2_with fail
            go_round
            case rel => exact ⟨q - 1, r + y1, rfl, rfl, HN.out, by omega⟩
            case measure => simp [intOf]; omega
        · have HQ := Lib.hid (dig_done HD.out hy1 hy0 (by omega))
          obtain ⟨hv0, hv1⟩ := dig_rest (T := u * 4294967296 + d1) (Y := Y) (q := q) (by rw [← hYY.out]; exact HQ.out) (by omega)
          have HQL : Hid (q < 4294967296) := Lib.hid (by have := HQ.out; omega)
          have hq10 : 0 ≤ q := by have := HQ.out; omega
          generalize hq1e : q = q1 at *
          have HV : Hid (q1 * Y + (u * 4294967296 + d1 - q1 * Y) = u * 4294967296 + d1) := Lib.hid (by omega)
          have E21 : IntKind.u64.wrap (IntKind.u64.wrap (IntKind.u64.wrap (u * 4294967296) + d1) - IntKind.u64.wrap (q1 * Y)) = u * 4294967296 + d1 - q1 * Y := by
            rw [IntKind.wrap_u64, IntKind.wrap_u64, IntKind.wrap_u64, IntKind.wrap_u64]; omega
          have hq11 := HQL.out
          generalize hve : u * 4294967296 + d1 - q1 * Y = v at *
          clear hve
          obtain ⟨g1, g2, g3⟩ := dig_first (u := v) (y1 := y1) hv0 (by omega)
          have DS2 := dig_start hy1 hy1' hy0 hy0' hv0 (by rw [hYY.out]; exact hv1) hd0 hd0'
          have DL2 := dig_lt (y1 := y1) (y0 := y0) (u := v) (d := d0) hy1 hy0 (by rw [hYY.out]; exact hv1) hd0'
          have hqb := DS2.high
          have hqb0 := DS2.q0
          generalize hpe : v / y1 = p at *
          generalize hte : v - p * y1 = t at *
          have HDS2 := Lib.hid DS2
          clear DS2
          go_wp2_with fail
          go_loop [18, 16] (fun a b => ∃ p t : Int, a = .int .u64 p ∧ b = .int .u64 t ∧ DigOk y1 y0 v d0 p t ∧ t < 4294967296) (fun a _ => (intOf a).toNat)
          case atStart => exact ⟨p, t, rfl, rfl, HDS2.out, by omega⟩
          case round =>
            clear hpe hte hqb hqb0 HDS2 g1 g2 g3
            obtain ⟨p, t, rfl, rfl, hdk2, ht4⟩ := hrel
            have hqb := hdk2.high
            have hqb0 := hdk2.q0
            have hr0 := hdk2.r0
            have hdig2 : 0 ≤ (v * 4294967296 + d0) / (y1 * 4294967296 + y0) := Int.ediv_nonneg (by omega) (by omega)
            have HU2 : Hid (v < y1 * 4294967296 + y0) := Lib.hid (by rw [hYY.out]; exact hv1)
            have HD2 := Lib.hid hdk2
            clear hdk2
            by_cases hbig2 : 4294967296 ≤ p
            · have hmore := dig_more HD2.out hy1 hy0 HU2.out hd0' (.inl hbig2)
              have HN2 := Lib.hid (dig_next HD2.out hy1 hdig2 hmore)
              have hqp : 1 ≤ p := by omega
              clear hmore
              by_cases hwide : 4294967296 ≤ t + y1
              · have HQ2 := Lib.hid (dig_wide HN2.out hy1 hy0 hy0' hd0 (by omega) hwide)
                obtain ⟨hx0, hx1⟩ := dig_rest (T := v * 4294967296 + d0) (Y := Y) (q := (p - 1)) (by rw [← hYY.out]; exact HQ2.out) (by omega)
                have HPL : Hid ((p - 1) < 4294967296) := Lib.hid (by have := HQ2.out; omega)
                have hp10 : 0 ≤ (p - 1) := by have := HQ2.out; omega
                generalize hp1e : (p - 1) = p1 at *
                have HX : Hid (p1 * Y + (v * 4294967296 + d0 - p1 * Y) = v * 4294967296 + d0) := Lib.hid (by omega)
                have E22 : IntKind.u64.wrap (IntKind.u64.wrap (IntKind.u64.wrap (v * 4294967296) + d0) - IntKind.u64.wrap (p1 * Y)) = v * 4294967296 + d0 - p1 * Y := by
                  rw [IntKind.wrap_u64, IntKind.wrap_u64, IntKind.wrap_u64, IntKind.wrap_u64]; omega
                have hp11 := HPL.out
                generalize hxe : v * 4294967296 + d0 - p1 * Y = x at *
                clear hxe
                have FF := Lib.hid (FIN.out q1 p1 v x HV.out HX.out hx0 hx1)
                go_wp2_with fail
                go_ret2
                exact ⟨by rw [HNN.out, ← FF.out.1, ← FF.out.2]; rfl, Below.refl _ _⟩
              · go_wp2_with fail
                go_round
                case rel => exact ⟨p - 1, t + y1, rfl, rfl, HN2.out, by omega⟩
                case measure => simp [intOf]; omega
            · have hqy0 : 0 ≤ p * y0 := Int.mul_nonneg hqb0 hy0
              have hqy1 : p * y0 ≤ 4294967295 * 4294967295 := Int.mul_le_mul (by omega) (by omega) hy0 (by omega)
              by_cases htest : 4294967296 * t + d0 < p * y0
              · have hmore := dig_more HD2.out hy1 hy0 HU2.out hd0' (.inr htest)
                have HN2 := Lib.hid (dig_next HD2.out hy1 hdig2 hmore)
                have hqp : 1 ≤ p := by omega
                clear hmore
                by_cases hwide : 4294967296 ≤ t + y1
                · have HQ2 := Lib.hid (dig_wide HN2.out hy1 hy0 hy0' hd0 (by omega) hwide)
                  obtain ⟨hx0, hx1⟩ := dig_rest (T := v * 4294967296 + d0) (Y := Y) (q := (p - 1)) (by rw [← hYY.out]; exact HQ2.out) (by omega)
                  have HPL : Hid ((p - 1) < 4294967296) := Lib.hid (by have := HQ2.out; omega)
                  have hp10 : 0 ≤ (p - 1) := by have := HQ2.out; omega
                  generalize hp1e : (p - 1) = p1 at *
                  have HX : Hid (p1 * Y + (v * 4294967296 + d0 - p1 * Y) = v * 4294967296 + d0) := Lib.hid (by omega)
                  have E22 : IntKind.u64.wrap (IntKind.u64.wrap (IntKind.u64.wrap (v * 4294967296) + d0) - IntKind.u64.wrap (p1 * Y)) = v * 4294967296 + d0 - p1 * Y := by
                    rw [IntKind.wrap_u64, IntKind.wrap_u64, IntKind.wrap_u64, IntKind.wrap_u64]; omega
                  have hp11 := HPL.out
                  generalize hxe : v * 4294967296 + d0 - p1 * Y = x at *
                  clear hxe
                  have FF := Lib.hid (FIN.out q1 p1 v x HV.out HX.out hx0 hx1)
                  go_wp2_with fail
                  go_ret2
                  exact ⟨by rw [HNN.out, ← FF.out.1, ← FF.out.2]; rfl, Below.refl _ _⟩
                · go_wp2_with fail
                  go_round
                  case rel => exact ⟨p - 1, t + y1, rfl, rfl, HN2.out, by omega⟩
                  case measure => simp [intOf]; omega
              · have HQ2 := Lib.hid (dig_done HD2.out hy1 hy0 (by omega))
                obtain ⟨hx0, hx1⟩ := dig_rest (T := v * 4294967296 + d0) (Y := Y) (q := p) (by rw [← hYY.out]; exact HQ2.out) (by omega)
                have HPL : Hid (p < 4294967296) := Lib.hid (by have := HQ2.out; omega)
                have hp10 : 0 ≤ p := by have := HQ2.out; omega
                generalize hp1e : p = p1 at *
                have HX : Hid (p1 * Y + (v * 4294967296 + d0 - p1 * Y) = v * 4294967296 + d0) := Lib.hid (by omega)
                have E22 : IntKind.u64.wrap (IntKind.u64.wrap (IntKind.u64.wrap (v * 4294967296) + d0) - IntKind.u64.wrap (p1 * Y)) = v * 4294967296 + d0 - p1 * Y := by
                  rw [IntKind.wrap_u64, IntKind.wrap_u64, IntKind.wrap_u64, IntKind.wrap_u64]; omega
                have hp11 := HPL.out
                generalize hxe : v * 4294967296 + d0 - p1 * Y = x at *
                clear hxe
                have FF := Lib.hid (FIN.out q1 p1 v x HV.out HX.out hx0 hx1)
                go_wp2_with fail
                go_ret2
                exact ⟨by rw [HNN.out, ← FF.out.1, ← FF.out.2]; rfl, Below.refl _ _⟩
end Go.Proofs.Ytphcffcecncngaa
