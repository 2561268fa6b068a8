/- The walks of the library's Len64 and LeadingZeros64. -/
import Derived.Test.YtphcffcecncngaaBase
import Derived.Lib.Strings
import Derived.Lib.Slices
import Derived.Lib.Small
import Derived.Lib.Walk
import Derived.Lib.BitFns
namespace Go.Proofs.Ytphcffcecncngaa
open Go.RowKit

theorem bitLen_bounds (x : Nat) (h0 : 0 < x) (h : x < 18446744073709551616) : x < 2 ^ Lib.bitLen x ∧ 2 ^ Lib.bitLen x ≤ 2 * x := by
  induction x using Nat.strongRecOn with
  | _ x ih =>
    rw [Lib.bitLen_half x (by omega) h, Nat.add_comm, Nat.pow_succ]
    by_cases h1 : x = 1
    · subst h1
      have : Lib.bitLen (1 / 2) = 0 := rfl
      rw [this]; decide
    · obtain ⟨i1, i2⟩ := ih (x / 2) (by omega) (by omega) (by omega)
      omega
theorem len8_at (i : Int) (h0 : 0 ≤ i) (h1 : i ≤ 255) : Lib.len8 i = (Lib.bitLen i.toNat : Int) ∧ Lib.bitLen i.toNat ≤ 8 := ⟨Lib.len8_of i h0 h1, Lib.bitLen_le8' i h0 h1⟩
set_option maxHeartbeats 4000000 in
set_option maxRecDepth 100000 in
theorem bits_len64 (x : Int) (w : World) (h0 : 0 ≤ x) (h1 : x ≤ 18446744073709551615) :
    Calls Try.prog 117 #[.int .u64 x] w fun e w' => e = .returned (.int .i64 (Lib.bitLen x.toNat)) ∧ w = w' := by
  by_cases c0 : x < 256
  · obtain ⟨i, hi⟩ : ∃ i, i = x := ⟨_, rfl⟩
    have i0 : 0 ≤ x := by omega
    have i1 : x ≤ 255 := by omega
    obtain ⟨e8, l8⟩ := len8_at (x) i0 i1
    have HE : Hid (0 + Lib.len8 (x) = (Lib.bitLen x.toNat : Int)) := Lib.hid (by rw [e8]; omega)
    have b0 : 0 ≤ Lib.len8 (x) := by omega
    have b1 : Lib.len8 (x) ≤ 8 := by omega
    have hidx := fun W => Lib.run_index_len8tab (P := Try.prog) W 9 .u8 (x) Try.underlying9 i0 i1
    clear hi i e8 l8
    go_enter Try.func117, Try.ntmps117
    go_wp2_with fail
    go_ret
    exact ⟨ret_int (by have := HE.out; omega), rfl⟩
  by_cases c1 : x < 65536
  · obtain ⟨i, hi⟩ : ∃ i, i = x / 256 := ⟨_, rfl⟩
    have i0 : 0 ≤ x / 256 := by omega
    have i1 : x / 256 ≤ 255 := by omega
    obtain ⟨e8, l8⟩ := len8_at (x / 256) i0 i1
    have sh := Lib.bitLen_shift8 x.toNat (by omega) (by omega)
    have ei : (x / 256).toNat = x.toNat / 256 := by omega
    rw [ei] at e8 l8
    have HE : Hid (8 + Lib.len8 (x / 256) = (Lib.bitLen x.toNat : Int)) := Lib.hid (by rw [e8, sh]; omega)
    have b0 : 0 ≤ Lib.len8 (x / 256) := by omega
    have b1 : Lib.len8 (x / 256) ≤ 8 := by omega
    have hidx := fun W => Lib.run_index_len8tab (P := Try.prog) W 9 .u8 (x / 256) Try.underlying9 i0 i1
    clear hi i e8 l8 sh ei
    go_enter Try.func117, Try.ntmps117
    go_wp2_with fail
    go_ret
    exact ⟨ret_int (by have := HE.out; omega), rfl⟩
  by_cases c2 : x < 16777216
  · obtain ⟨i, hi⟩ : ∃ i, i = x / 65536 := ⟨_, rfl⟩
    have i0 : 0 ≤ x / 65536 := by omega
    have i1 : x / 65536 ≤ 255 := by omega
    obtain ⟨e8, l8⟩ := len8_at (x / 65536) i0 i1
    have sh := Lib.bitLen_shift16 x.toNat (by omega) (by omega)
    have ei : (x / 65536).toNat = x.toNat / 65536 := by omega
    rw [ei] at e8 l8
    have HE : Hid (16 + Lib.len8 (x / 65536) = (Lib.bitLen x.toNat : Int)) := Lib.hid (by rw [e8, sh]; omega)
    have b0 : 0 ≤ Lib.len8 (x / 65536) := by omega
    have b1 : Lib.len8 (x / 65536) ≤ 8 := by omega
    have hidx := fun W => Lib.run_index_len8tab (P := Try.prog) W 9 .u8 (x / 65536) Try.underlying9 i0 i1
    clear hi i e8 l8 sh ei
    go_enter Try.func117, Try.ntmps117
    go_wp2_with fail
    go_ret
    exact ⟨ret_int (by have := HE.out; omega), rfl⟩
  by_cases c3 : x < 4294967296
  · obtain ⟨i, hi⟩ : ∃ i, i = x / 65536 / 256 := ⟨_, rfl⟩
    have i0 : 0 ≤ x / 65536 / 256 := by omega
    have i1 : x / 65536 / 256 ≤ 255 := by omega
    obtain ⟨e8, l8⟩ := len8_at (x / 65536 / 256) i0 i1
    have sh := Lib.bitLen_shift24 x.toNat (by omega) (by omega)
    have ei : (x / 65536 / 256).toNat = x.toNat / 16777216 := by omega
    rw [ei] at e8 l8
    have HE : Hid (24 + Lib.len8 (x / 65536 / 256) = (Lib.bitLen x.toNat : Int)) := Lib.hid (by rw [e8, sh]; omega)
    have b0 : 0 ≤ Lib.len8 (x / 65536 / 256) := by omega
    have b1 : Lib.len8 (x / 65536 / 256) ≤ 8 := by omega
    have hidx := fun W => Lib.run_index_len8tab (P := Try.prog) W 9 .u8 (x / 65536 / 256) Try.underlying9 i0 i1
    clear hi i e8 l8 sh ei
    go_enter Try.func117, Try.ntmps117
    go_wp2_with fail
    go_ret
    exact ⟨ret_int (by have := HE.out; omega), rfl⟩
  by_cases c4 : x < 1099511627776
  · obtain ⟨i, hi⟩ : ∃ i, i = x / 4294967296 := ⟨_, rfl⟩
    have i0 : 0 ≤ x / 4294967296 := by omega
    have i1 : x / 4294967296 ≤ 255 := by omega
    obtain ⟨e8, l8⟩ := len8_at (x / 4294967296) i0 i1
    have sh := Lib.bitLen_shift32 x.toNat (by omega) (by omega)
    have ei : (x / 4294967296).toNat = x.toNat / 4294967296 := by omega
    rw [ei] at e8 l8
    have HE : Hid (32 + Lib.len8 (x / 4294967296) = (Lib.bitLen x.toNat : Int)) := Lib.hid (by rw [e8, sh]; omega)
    have b0 : 0 ≤ Lib.len8 (x / 4294967296) := by omega
    have b1 : Lib.len8 (x / 4294967296) ≤ 8 := by omega
    have hidx := fun W => Lib.run_index_len8tab (P := Try.prog) W 9 .u8 (x / 4294967296) Try.underlying9 i0 i1
    clear hi i e8 l8 sh ei
    go_enter Try.func117, Try.ntmps117
    go_wp2_with fail
    go_ret
    exact ⟨ret_int (by have := HE.out; omega), rfl⟩
  by_cases c5 : x < 281474976710656
  · obtain ⟨i, hi⟩ : ∃ i, i = x / 4294967296 / 256 := ⟨_, rfl⟩
    have i0 : 0 ≤ x / 4294967296 / 256 := by omega
    have i1 : x / 4294967296 / 256 ≤ 255 := by omega
    obtain ⟨e8, l8⟩ := len8_at (x / 4294967296 / 256) i0 i1
    have sh := Lib.bitLen_shift40 x.toNat (by omega) (by omega)
    have ei : (x / 4294967296 / 256).toNat = x.toNat / 1099511627776 := by omega
    rw [ei] at e8 l8
    have HE : Hid (40 + Lib.len8 (x / 4294967296 / 256) = (Lib.bitLen x.toNat : Int)) := Lib.hid (by rw [e8, sh]; omega)
    have b0 : 0 ≤ Lib.len8 (x / 4294967296 / 256) := by omega
    have b1 : Lib.len8 (x / 4294967296 / 256) ≤ 8 := by omega
    have hidx := fun W => Lib.run_index_len8tab (P := Try.prog) W 9 .u8 (x / 4294967296 / 256) Try.underlying9 i0 i1
    clear hi i e8 l8 sh ei
    go_enter Try.func117, Try.ntmps117
    go_wp2_with fail
    go_ret
    exact ⟨ret_int (by have := HE.out; omega), rfl⟩
  by_cases c6 : x < 72057594037927936
  · obtain ⟨i, hi⟩ : ∃ i, i = x / 4294967296 / 65536 := ⟨_, rfl⟩
    have i0 : 0 ≤ x / 4294967296 / 65536 := by omega
    have i1 : x / 4294967296 / 65536 ≤ 255 := by omega
    obtain ⟨e8, l8⟩ := len8_at (x / 4294967296 / 65536) i0 i1
    have sh := Lib.bitLen_shift48 x.toNat (by omega) (by omega)
    have ei : (x / 4294967296 / 65536).toNat = x.toNat / 281474976710656 := by omega
    rw [ei] at e8 l8
    have HE : Hid (48 + Lib.len8 (x / 4294967296 / 65536) = (Lib.bitLen x.toNat : Int)) := Lib.hid (by rw [e8, sh]; omega)
    have b0 : 0 ≤ Lib.len8 (x / 4294967296 / 65536) := by omega
    have b1 : Lib.len8 (x / 4294967296 / 65536) ≤ 8 := by omega
    have hidx := fun W => Lib.run_index_len8tab (P := Try.prog) W 9 .u8 (x / 4294967296 / 65536) Try.underlying9 i0 i1
    clear hi i e8 l8 sh ei
    go_enter Try.func117, Try.ntmps117
    go_wp2_with fail
    go_ret
    exact ⟨ret_int (by have := HE.out; omega), rfl⟩
  obtain ⟨i, hi⟩ : ∃ i, i = x / 4294967296 / 65536 / 256 := ⟨_, rfl⟩
  have i0 : 0 ≤ x / 4294967296 / 65536 / 256 := by omega
  have i1 : x / 4294967296 / 65536 / 256 ≤ 255 := by omega
  obtain ⟨e8, l8⟩ := len8_at (x / 4294967296 / 65536 / 256) i0 i1
  have sh := Lib.bitLen_shift56 x.toNat (by omega) (by omega)
  have ei : (x / 4294967296 / 65536 / 256).toNat = x.toNat / 72057594037927936 := by omega
  rw [ei] at e8 l8
  have HE : Hid (56 + Lib.len8 (x / 4294967296 / 65536 / 256) = (Lib.bitLen x.toNat : Int)) := Lib.hid (by rw [e8, sh]; omega)
  have b0 : 0 ≤ Lib.len8 (x / 4294967296 / 65536 / 256) := by omega
  have b1 : Lib.len8 (x / 4294967296 / 65536 / 256) ≤ 8 := by omega
  have hidx := fun W => Lib.run_index_len8tab (P := Try.prog) W 9 .u8 (x / 4294967296 / 65536 / 256) Try.underlying9 i0 i1
  clear hi i e8 l8 sh ei
  go_enter Try.func117, Try.ntmps117
  go_wp2_with fail
  go_ret
  exact ⟨ret_int (by have := HE.out; omega), rfl⟩
/-- A number is returned by which x can be moved up so that its highest bit is the word's. -/
def RetLZ (x : Int) (w : World) (e : Ending) (w' : World) : Prop := ∃ s : Nat, e = .returned (.int .i64 s) ∧ w = w' ∧ s ≤ 63 ∧ 9223372036854775808 ≤ x * 2 ^ s ∧ x * 2 ^ s ≤ 18446744073709551615
theorem bits_lz64 (x : Int) (w : World) (h0 : 1 ≤ x) (h1 : x ≤ 18446744073709551615) : Calls Try.prog 113 #[.int .u64 x] w (RetLZ x w) := by
  have hb := bitLen_bounds x.toNat (by omega) (by omega)
  have hle : Lib.bitLen x.toNat ≤ 64 := by
    by_cases h : Lib.bitLen x.toNat ≤ 64
    · exact h
    · have : 2 ^ 65 ≤ 2 ^ Lib.bitLen x.toNat := Nat.pow_le_pow_right (by decide) (by omega)
      omega
  have hge : 1 ≤ Lib.bitLen x.toNat := by
    by_cases h : 1 ≤ Lib.bitLen x.toNat
    · exact h
    · have e : Lib.bitLen x.toNat = 0 := by omega
      rw [e] at hb; omega
  have HB := Lib.hid hb
  clear hb
  go_enter Try.func113, Try.ntmps113
  go_wp2_with fail
  refine (bits_len64 x w (by omega) h1).mono ?_
  rintro e w' ⟨rfl, rfl⟩
  generalize Lib.bitLen x.toNat = n at *
  go_wp2_with fail
  go_ret
  refine ⟨64 - n, ret_int (by omega), rfl, by omega, ?_, ?_⟩
  · have e : (2 : Nat) ^ n * 2 ^ (64 - n) = 2 ^ 64 := by rw [← Nat.pow_add]; congr 1; omega
    have h2 := Nat.mul_le_mul_right (2 ^ (64 - n)) HB.out.2
    rw [e] at h2
    obtain ⟨m, rfl⟩ := Int.eq_ofNat_of_zero_le (show 0 ≤ x by omega)
    have e2 : ((m : Int) * 2 ^ (64 - n)) = ((m * 2 ^ (64 - n) : Nat) : Int) := by rw [Int.natCast_mul, Int.natCast_pow]; rfl
    rw [e2]
    rw [Int.toNat_natCast, Nat.mul_assoc] at h2
    omega
  · have e : (2 : Nat) ^ n * 2 ^ (64 - n) = 2 ^ 64 := by rw [← Nat.pow_add]; congr 1; omega
    have hp : 0 < 2 ^ (64 - n) := Nat.two_pow_pos _
    have h2 := Nat.mul_lt_mul_of_pos_right HB.out.1 hp
    rw [e] at h2
    obtain ⟨m, rfl⟩ := Int.eq_ofNat_of_zero_le (show 0 ≤ x by omega)
    have e2 : ((m : Int) * 2 ^ (64 - n)) = ((m * 2 ^ (64 - n) : Nat) : Int) := by rw [Int.natCast_mul, Int.natCast_pow]; rfl
    rw [e2]
    rw [Int.toNat_natCast] at h2
    omega
end Go.Proofs.Ytphcffcecncngaa
