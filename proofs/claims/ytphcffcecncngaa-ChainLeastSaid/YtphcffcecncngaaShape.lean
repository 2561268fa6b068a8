/- The walks of package shape. -/
import Derived.Test.YtphcffcecncngaaRef03
import Derived.Test.YtphcffcecncngaaSafe
namespace Go.Proofs.Ytphcffcecncngaa
open Go.RowKit

/-- A result, and nothing that was there has turned. -/
def RetB (w : World) (v : Value) (e : Ending) (w' : World) : Prop := e = .returned v ∧ Below w.heap.size w w'

set_option maxHeartbeats 400000 in
theorem sl_equal (A B : Option Addr) (c d : Nat) (xs ys : List Int) (w : World) (hs : xs.length ≤ 1000000) (hs' : ys.length ≤ 1000000) (h : Rd w A xs) (h' : Rd w B ys) :
    Calls Try.prog 108 #[.slice A xs.length c, .slice B ys.length d] w (RetBoolDrew w (decide (xs = ys))) := by
  by_cases hl : xs.length = ys.length
  · have hl1 : ((xs.length : Int) != (ys.length : Int)) = false := by rw [hl]; simp
    have HL := Lib.hid hl
    clear hl
    go_enter Try.func108, Try.ntmps108
    go_wp2
    go_loopw [13] (fun i wr => ∃ k n : Nat, k ≤ xs.length ∧ i = .int .i64 k ∧ wr = w.drewN n ∧ xs.take k = ys.take k) (fun i _ => xs.length - (intOf i).toNat)
    case atStart => exact ⟨0, 0, Nat.zero_le _, rfl, rfl, rfl⟩
    case round =>
      obtain ⟨k, n, hk, rfl, rfl, ht⟩ := hrel
      have HT := Lib.hid ht
      clear ht
      by_cases hlt : k < xs.length
      · obtain ⟨b, off, x, rfl, hb, hc, hx⟩ := h.get hlt
        have hlt' : k < ys.length := by rw [← HL.out]; exact hlt
        obtain ⟨b', off', y, rfl, hb', hc', hy⟩ := h'.get hlt'
        by_cases hxy : x = y
        · have hne : (x != y) = false := by simp [hxy]
          have HX := Lib.hid hxy
          clear hxy
          go_wp2
          go_quiet (fail)
          go_wp2
          go_roundw
          case rel => exact ⟨k + 1, _, by omega, by go_num, rfl, by rw [take_at hx.out, take_at hy.out, HT.out, HX.out]⟩
          case measure => simp [intOf]; omega
        · have hne : (x != y) = true := by simp [hxy]
          have HF : Hid (decide (xs = ys) = false) := decide_eq_false (ne_at hx.out hy.out hxy)
          clear hxy
          go_wp2
          go_quiet (fail)
          go_wp2
          go_ret
          exact ⟨ret_bool (by rw [HF.out]), _, World.drewN_drewN _ _ _⟩
      · have HE : Hid (decide (xs = ys) = true) := decide_eq_true (eq_of_takes HL.out HT.out hlt)
        go_wp2
        go_ret
        exact ⟨ret_bool (by rw [HE.out]), _, rfl⟩
  · have hne : ((xs.length : Int) != (ys.length : Int)) = true := by simp; omega
    have HF : Hid (decide (xs = ys) = false) := by
      refine decide_eq_false ?_
      rintro rfl; exact hl rfl
    go_enter Try.func108, Try.ntmps108
    go_wp2
    go_ret
    exact ⟨ret_bool (by rw [HF.out]), 0, rfl⟩

theorem sh_equal (A B : Option Addr) (c d : Nat) (xs ys : List Int) (w : World) (hs : xs.length ≤ 1000000) (hs' : ys.length ≤ 1000000) (h : Rd w A xs) (h' : Rd w B ys) :
    Calls Try.prog 78 #[.slice A xs.length c, .slice B ys.length d] w (RetBoolDrew w (decide (xs = ys))) := by
  go_enter Try.func78, Try.ntmps78
  go_wp2_with fail
  refine (sl_equal A B c d xs ys w hs hs' h h').mono ?_
  rintro e w' ⟨rfl, n, rfl⟩
  go_wp2_with fail
  go_ret
  exact ⟨rfl, n, rfl⟩

set_option maxHeartbeats 400000 in
theorem sh_right (A : Option Addr) (c : Nat) (zs : List Int) (w : World) (hs : zs.length ≤ 1000000) (h : Rd w A zs) :
    Calls Try.prog 110 #[.slice A zs.length c] w (RetB w (.bool (rightB zs))) := by
  by_cases h1 : 1 ≤ zs.length ∧ zs.length ≤ 4
  · obtain ⟨h1, h4⟩ := h1
    go_enter Try.func110, Try.ntmps110
    go_wp2_with fail
    go_loop [17] (fun i => ∃ k : Nat, k ≤ zs.length ∧ i = .int .i64 k ∧ inSides (zs.take k) = true) (fun i => zs.length - (intOf i).toNat)
    case atStart => exact ⟨0, Nat.zero_le _, rfl, rfl⟩
    case round =>
      obtain ⟨k, hk, rfl, hin⟩ := hrel
      have HIN := Lib.hid hin
      clear hin
      by_cases hlt : k < zs.length
      · obtain ⟨b, off, z, rfl, hb, hc, hz⟩ := h.get hlt
        by_cases hzb : 1 ≤ z ∧ z ≤ 1024
        · obtain ⟨hz1, hz2⟩ := hzb
          go_wp2_with fail
          go_round
          case rel => exact ⟨k + 1, by omega, by go_num, by rw [take_at hz.out, inSides_snoc, HIN.out]; simp [hz1, hz2]⟩
          case measure => simp [intOf]; omega
        · have HF := Lib.hid (rightB_sides (inSides_false hz.out hzb))
          go_wp2_with fail
          all_goals first | (go_ret; exact ⟨ret_bool (by rw [HF.out]), Below.refl _ _⟩) | omega
      · have e : zs.take k = zs := List.take_of_length_le (by omega)
        rw [e] at HIN
        have HR := Lib.hid (rightB_prod h1 h4 HIN.out)
        have HM := Lib.hid (mul_sides HIN.out h4)
        clear e
        go_wp2_with fail
        refine (safe_mul A c zs w hs h).mono ?_
        rintro e w' ⟨rfl, hb⟩
        rw [HM.out.1, HM.out.2]
        go_wp2_with fail
        go_ret
        exact ⟨ret_bool (by rw [HR.out]), hb⟩
  · have HF := Lib.hid (rightB_len h1)
    go_enter Try.func110, Try.ntmps110
    go_wp2_with fail
    all_goals first | (go_ret; exact ⟨ret_bool (by rw [HF.out]), Below.refl _ _⟩) | omega

set_option maxHeartbeats 400000 in
theorem sh_size (A : Option Addr) (c : Nat) (zs : List Int) (w : World) (hs : zs.length ≤ 1000000) (h : Rd w A zs) :
    Calls Try.prog 80 #[.slice A zs.length c] w (RetB w (.tuple #[.int .i64 (sizeV zs), .int .i64 (sizeE zs)])) := by
  rcases hr : rightB zs with _ | _
  · have HV : Hid (sizeV zs = 0) := Lib.hid (by simp [sizeV, hr])
    have HE : Hid (sizeE zs = 20) := Lib.hid (by simp [sizeE, hr])
    have HR := Lib.hid hr
    clear hr
    go_enter Try.func80, Try.ntmps80
    go_wp2_with fail
    refine (sh_right A c zs w hs h).mono ?_
    rintro e w' ⟨rfl, hb⟩
    rw [HR.out]
    go_wp2_with fail
    go_ret2
    exact ⟨by rw [HV.out, HE.out]; rfl, hb⟩
  · have HV : Hid (sizeV zs = prodL zs) := Lib.hid (by simp [sizeV, hr])
    have HE : Hid (sizeE zs = 0) := Lib.hid (by simp [sizeE, hr])
    have HR := Lib.hid hr
    have HM := Lib.hid (mul_sides ((rightB_iff zs).1 hr).2.2.1 ((rightB_iff zs).1 hr).2.1)
    clear hr
    go_enter Try.func80, Try.ntmps80
    go_wp2_with fail
    refine (sh_right A c zs w hs h).mono ?_
    rintro e w1 ⟨rfl, hb⟩
    rw [HR.out]
    go_wp2_with fail
    refine (safe_mul A c zs w1 hs (h.below hb)).mono ?_
    rintro e w2 ⟨rfl, hb2⟩
    rw [HM.out.1, HM.out.2]
    go_wp2_with fail
    go_ret2
    exact ⟨by rw [HV.out, HE.out]; rfl, hb.trans (hb2.mono hb.size)⟩

set_option maxHeartbeats 400000 in
theorem sh_copy (A : Option Addr) (c : Nat) (zs : List Int) (w : World) (hs : zs.length ≤ 1000000) (h : Rd w A zs) :
    Calls Try.prog 81 #[.slice A zs.length c] w (RetInts w 3 zs) := by
  have hmk := fun W => run_make_row' (P := Try.prog) 62 3 (.int .i64 0) 8 Try.underlying62 (by kernel_rfl) rfl .i64 .i64 zs.length (by omega) (by omega) W
  have hcp := fun ty => run_copy_new (P := Try.prog) 62 62 ty 3 3 Try.underlying62 (by kernel_rfl) zs A c w h
  go_enter Try.func81, Try.ntmps81
  go_wp2
  go_ret
  exact ⟨w.heap.size, rfl, Nat.le_refl _, Own.new _ _ _, (Below.refl _ _).alloc (Nat.le_refl _) _⟩
end Go.Proofs.Ytphcffcecncngaa
