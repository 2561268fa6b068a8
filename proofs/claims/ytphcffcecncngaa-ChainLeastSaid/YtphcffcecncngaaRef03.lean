/- The walks of the reference's functions on shapes. -/
import Derived.Test.YtphcffcecncngaaBase
import Derived.Test.YtphcffcecncngaaShapeMath
namespace Go.Proofs.Ytphcffcecncngaa
open Go.RowKit

set_option maxHeartbeats 400000 in
theorem ref_right (A : Option Addr) (c : Nat) (zs : List Int) (w : World) (hs : zs.length ≤ 1000000) (h : Rd w A zs) :
    Calls Try.prog 75 #[.slice A zs.length c] w fun e w' => e = .returned (.bool (rightB zs)) ∧ w = w' := by
  by_cases h1 : 1 ≤ zs.length ∧ zs.length ≤ 4
  · obtain ⟨h1, h4⟩ := h1
    go_enter Try.func75, Try.ntmps75
    go_wp2
    go_loop [3, 4] (fun n i => ∃ k : Nat, k ≤ zs.length ∧ i = .int .i64 k ∧ n = .int .i64 (prodL (zs.take k)) ∧ inSides (zs.take k) = true) (fun _ i => zs.length - (intOf i).toNat)
    case atStart => exact ⟨0, Nat.zero_le _, rfl, rfl, rfl⟩
    case round =>
      obtain ⟨k, hk, rfl, rfl, hin⟩ := hrel
      have HIN := Lib.hid hin
      clear hin
      obtain ⟨hp1, hp2⟩ := prodL_bd4 (zs.take k) HIN.out (by simp; omega)
      by_cases hlt : k < zs.length
      · obtain ⟨b, off, z, rfl, hb, hc, hz⟩ := h.get hlt
        by_cases hzb : 1 ≤ z ∧ z ≤ 1024
        · obtain ⟨hz1, hz2⟩ := hzb
          obtain ⟨hm1, hm2⟩ := mul_le_1024 hp1 hp2 hz1 hz2
          go_wp2
          go_round
          case rel => exact ⟨k + 1, by omega, by go_num, by rw [take_at hz.out, prodL_snoc], by rw [take_at hz.out, inSides_snoc, HIN.out]; simp [hz1, hz2]⟩
          case measure => simp [intOf]; omega
        · have HF := Lib.hid (rightB_sides (inSides_false hz.out hzb))
          go_wp2
          all_goals first | (go_ret; exact ⟨ret_bool (by rw [HF.out]), rfl⟩) | omega
      · have e : zs.take k = zs := List.take_of_length_le (by omega)
        have HR : Hid (rightB zs = decide (prodL (zs.take k) ≤ 65536)) := by rw [e]; rw [e] at HIN; exact rightB_prod h1 h4 HIN.out
        clear e
        go_wp2
        go_ret
        exact ⟨ret_bool (by rw [HR.out]), rfl⟩
  · have HF := Lib.hid (rightB_len h1)
    go_enter Try.func75, Try.ntmps75
    go_wp2
    all_goals first | (go_ret; exact ⟨ret_bool (by rw [HF.out]), rfl⟩) | omega

set_option maxHeartbeats 400000 in
theorem ref_size (A : Option Addr) (c : Nat) (zs : List Int) (w : World) (h4 : zs.length ≤ 4) (hin : Hid (inSides zs = true)) (h : Rd w A zs) :
    Calls Try.prog 76 #[.slice A zs.length c] w fun e w' => e = .returned (.int .i64 (prodL zs)) ∧ w = w' := by
  go_enter Try.func76, Try.ntmps76
  go_wp2
  go_loop [3, 4] (fun n i => ∃ k : Nat, k ≤ zs.length ∧ i = .int .i64 k ∧ n = .int .i64 (prodL (zs.take k))) (fun _ i => zs.length - (intOf i).toNat)
  case atStart => exact ⟨0, Nat.zero_le _, rfl, rfl⟩
  case round =>
    obtain ⟨k, hk, rfl, rfl⟩ := hrel
    obtain ⟨hp1, hp2⟩ := prodL_take_bd zs hin.out h4 k
    by_cases hlt : k < zs.length
    · obtain ⟨b, off, z, rfl, hb, hc, hz⟩ := h.get hlt
      obtain ⟨hz1, hz2⟩ := inSides_get hin.out hz.out
      obtain ⟨hm1, hm2⟩ := mul_le_1024 hp1 hp2 hz1 hz2
      go_wp2
      go_round
      case rel => exact ⟨k + 1, by omega, by go_num, by rw [take_at hz.out, prodL_snoc]⟩
      case measure => simp [intOf]; omega
    · have e : Hid (zs.take k = zs) := List.take_of_length_le (by omega)
      go_wp2
      go_ret
      exact ⟨ret_int (by rw [e.out]), rfl⟩

/-- Two slices of one length, held element by element: the test draws its order, the world moves on by draws alone. -/
def RetBoolDrew (w : World) (b : Bool) (e : Ending) (w' : World) : Prop := e = .returned (.bool b) ∧ ∃ n, w' = w.drewN n
theorem ne_at {xs ys : List Int} {k : Nat} {x y : Int} (hx : xs[k]? = some x) (hy : ys[k]? = some y) (h : x ≠ y) : xs ≠ ys := by
  rintro rfl; rw [hx] at hy; injection hy with hy; exact h hy
theorem eq_of_takes {xs ys : List Int} {k : Nat} (hl : xs.length = ys.length) (h : xs.take k = ys.take k) (hk : ¬ k < xs.length) : xs = ys := by
  rw [List.take_of_length_le (by omega), List.take_of_length_le (by omega)] at h; exact h

set_option maxHeartbeats 400000 in
theorem ref_same (A B : Option Addr) (c d : Nat) (xs ys : List Int) (w : World) (hs : xs.length ≤ 1000000) (hs' : ys.length ≤ 1000000) (h : Rd w A xs) (h' : Rd w B ys) :
    Calls Try.prog 69 #[.slice A xs.length c, .slice B ys.length d] w (RetBoolDrew w (decide (xs = ys))) := by
  by_cases hl : xs.length = ys.length
  · have hl1 : ((xs.length : Int) != (ys.length : Int)) = false := by rw [hl]; simp
    have hl2 : ((xs.length : Int) != (ys.length : Int)) = false := hl1
    have HL := Lib.hid hl
    clear hl
    go_enter Try.func69, Try.ntmps69
    go_wp2
    go_loopw [5] (fun i wr => ∃ k n : Nat, k ≤ xs.length ∧ i = .int .i64 k ∧ wr = w.drewN n ∧ xs.take k = ys.take k) (fun i _ => xs.length - (intOf i).toNat)
    case atStart => exact ⟨0, 0, Nat.zero_le _, rfl, rfl, rfl⟩
    case round =>
      obtain ⟨k, n, hk, rfl, rfl, ht⟩ := hrel
      have HT := Lib.hid ht
      clear ht
      by_cases hlt : k < xs.length
      · obtain ⟨b, off, x, rfl, hb, hc, hx⟩ := h.get hlt
        have hlt' : k < ys.length := by rw [← HL.out]; exact hlt
        obtain ⟨b', off', y, rfl, hb', hc', hy⟩ := h'.get hlt'
        by_cases hxy : x = y
        · have hne : (x != y) = false := by simp [hxy]
          have HX := Lib.hid hxy
          clear hxy
          go_wp2
          go_quiet (fail)
          go_wp2
          go_roundw
          case rel => exact ⟨k + 1, _, by omega, by go_num, rfl, by rw [take_at hx.out, take_at hy.out, HT.out, HX.out]⟩
          case measure => simp [intOf]; omega
        · have hne : (x != y) = true := by simp [hxy]
          have HF : Hid (decide (xs = ys) = false) := decide_eq_false (ne_at hx.out hy.out hxy)
          clear hxy
          go_wp2
          go_quiet (fail)
          go_wp2
          go_ret
          exact ⟨ret_bool (by rw [HF.out]), _, World.drewN_drewN _ _ _⟩
      · have HE : Hid (decide (xs = ys) = true) := decide_eq_true (eq_of_takes HL.out HT.out hlt)
        go_wp2
        go_ret
        exact ⟨ret_bool (by rw [HE.out]), _, rfl⟩
  · have hne : ((xs.length : Int) != (ys.length : Int)) = true := by simp; omega
    have HF : Hid (decide (xs = ys) = false) := by
      refine decide_eq_false ?_
      rintro rfl; exact hl rfl
    go_enter Try.func69, Try.ntmps69
    go_wp2
    go_ret
    exact ⟨ret_bool (by rw [HF.out]), 0, rfl⟩

end Go.Proofs.Ytphcffcecncngaa
