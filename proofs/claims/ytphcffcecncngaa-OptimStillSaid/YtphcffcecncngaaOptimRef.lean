/- athanorref24's Right, At, sub, Cell, Mean; athanorlaw24's ref. -/
import Derived.Test.YtphcffcecncngaaOptim
namespace Go.Proofs.Ytphcffcecncngaa
open Go.RowKit

section
variable {w : World} {r m d cl dr ev : Int}
set_option maxRecDepth 100000 in
set_option maxHeartbeats 4000000 in
theorem r24_ref : Calls Try.prog 28 #[.agg #[.int .i64 r, .int .i64 m, .int .i64 d, .int .i64 cl, .int .i64 dr, .int .i64 ev]] w (RetV w (.agg #[.int .i64 r, .int .i64 m, .int .i64 d, .int .i64 cl, .int .i64 dr, .int .i64 ev])) := by
  have CB := @cell_bx
  have CP := @cell_prev
  have FB := @frozen_bx
  go_enter Try.func28, Try.ntmps28
  go_wp2_with fail
  refine bodyPost_ret (v := .agg #[.int .i64 r, .int .i64 m, .int .i64 d, .int .i64 cl, .int .i64 dr, .int .i64 ev]) (by simp [results, Try.results28, go_sem, CB]) rfl ?_
  exact ⟨rfl, prev_bel _ _⟩
set_option maxRecDepth 100000 in
set_option maxHeartbeats 8000000 in
theorem r24_right : Calls Try.prog 27 #[.agg #[.int .i64 r, .int .i64 m, .int .i64 d, .int .i64 cl, .int .i64 dr, .int .i64 ev]] w (RetV w (.bool (hyB r m d cl dr ev))) := by
  have CB := @cell_bx
  have CP := @cell_prev
  by_cases h0 : r < 0
  · have HB : Hid (hyB r m d cl dr ev = false) := Lib.hid (by simp [hyB]; omega)
    have e : decide (0 ≤ r) = false := by simp; omega
    clear h0
    go_enter Try.func27, Try.ntmps27
    go_wp2_with fail
    go_ret
    exact ⟨by rw [HB.out]; rfl, prev_bel _ _⟩
  have e0 : decide (0 ≤ r) = true := by simp; omega
  by_cases h1 : m < 0
  · have HB : Hid (hyB r m d cl dr ev = false) := Lib.hid (by simp [hyB]; omega)
    have e : decide (0 ≤ m) = false := by simp; omega
    clear h1
    go_enter Try.func27, Try.ntmps27
    go_wp2_with fail
    go_ret
    exact ⟨by rw [HB.out]; rfl, prev_bel _ _⟩
  have e1 : decide (0 ≤ m) = true := by simp; omega
  by_cases h2 : d < 0
  · have HB : Hid (hyB r m d cl dr ev = false) := Lib.hid (by simp [hyB]; omega)
    have e : decide (0 ≤ d) = false := by simp; omega
    clear h2
    go_enter Try.func27, Try.ntmps27
    go_wp2_with fail
    go_ret
    exact ⟨by rw [HB.out]; rfl, prev_bel _ _⟩
  have e2 : decide (0 ≤ d) = true := by simp; omega
  by_cases h3 : cl < 0
  · have HB : Hid (hyB r m d cl dr ev = false) := Lib.hid (by simp [hyB]; omega)
    have e : decide (0 ≤ cl) = false := by simp; omega
    clear h3
    go_enter Try.func27, Try.ntmps27
    go_wp2_with fail
    go_ret
    exact ⟨by rw [HB.out]; rfl, prev_bel _ _⟩
  have e3 : decide (0 ≤ cl) = true := by simp; omega
  by_cases h4 : dr < 0
  · have HB : Hid (hyB r m d cl dr ev = false) := Lib.hid (by simp [hyB]; omega)
    have e : decide (0 ≤ dr) = false := by simp; omega
    clear h4
    go_enter Try.func27, Try.ntmps27
    go_wp2_with fail
    go_ret
    exact ⟨by rw [HB.out]; rfl, prev_bel _ _⟩
  have e4 : decide (0 ≤ dr) = true := by simp; omega
  by_cases h5 : ev < 0
  · have HB : Hid (hyB r m d cl dr ev = false) := Lib.hid (by simp [hyB]; omega)
    have e : decide (0 ≤ ev) = false := by simp; omega
    clear h5
    go_enter Try.func27, Try.ntmps27
    go_wp2_with fail
    go_ret
    exact ⟨by rw [HB.out]; rfl, prev_bel _ _⟩
  have e5 : decide (0 ≤ ev) = true := by simp; omega
  by_cases h6 : 1024 < ev
  · have HB : Hid (hyB r m d cl dr ev = false) := Lib.hid (by simp [hyB]; omega)
    have e : decide (ev ≤ 1024) = false := by simp; omega
    clear h6
    go_enter Try.func27, Try.ntmps27
    go_wp2_with fail
    go_ret
    exact ⟨by rw [HB.out]; rfl, prev_bel _ _⟩
  have e6 : decide (ev ≤ 1024) = true := by simp; omega
  have HB : Hid (hyB r m d cl dr ev = true) := Lib.hid (by simp [hyB]; omega)
  clear h0 h1 h2 h3 h4 h5 h6
  go_enter Try.func27, Try.ntmps27
  go_wp2_with fail
  go_ret
  exact ⟨by rw [HB.out]; rfl, prev_bel _ _⟩
set_option maxRecDepth 100000 in
set_option maxHeartbeats 4000000 in
theorem r24_sub {x y : Int} [a : I6 x] [b : I6 y] : Calls Try.prog 73 #[.int .i64 x, .int .i64 y] w (RetV w (.int .i64 (fsub x y))) := by
  have ha := a.bd
  have hb := b.bd
  by_cases h0 : y = -9223372036854775808
  · by_cases h1 : 0 ≤ x
    · have HS : Hid (fsub x y = 9223372036854775807) := Lib.hid (by unfold I64 at ha; unfold fsub clampI; split <;> (try split) <;> omega)
      subst h0
      go_enter Try.func73, Try.ntmps73
      go_wp2_with fail
      go_ret
      exact ⟨by rw [HS.out]; rfl, prev_bel _ _⟩
    · have HS : Hid (fsub x y = x + 9223372036854775808) := Lib.hid (by unfold I64 at ha; unfold fsub clampI; split <;> (try split) <;> omega)
      have w1 : IntKind.i64.wrap (x + 9223372036854775808) = x + 9223372036854775808 := IntWalk.i64_in _ (by unfold I64 at ha; omega)
      subst h0
      go_enter Try.func73, Try.ntmps73
      go_wp2_with fail
      go_ret
      exact ⟨by rw [HS.out]; simp, prev_bel _ _⟩
  · have e0 : (y == -9223372036854775808) = false := by simpa using h0
    have HS : Hid (fsub x y = fadd x (-y)) := Lib.hid (by unfold fsub fadd; rw [Int.sub_eq_add_neg])
    have i2 : I6 (-y) := ⟨by unfold I64 at hb ⊢; omega⟩
    have w1 : IntKind.i64.wrap (-y) = -y := IntWalk.i64_in _ (by unfold I64 at hb; omega)
    clear h0
    go_enter Try.func73, Try.ntmps73
    go_wp2_with (first | (go_at_call 43; (try first | (with_reducible refine gen_boxK3 (fun u _ _ _ _ => ?_)) | (with_reducible refine gen_boxK2 (fun u _ _ _ => ?_)) | (with_reducible refine gen_boxK (fun u _ _ => ?_))); (with_reducible refine (a1_add).mono ?_); rintro e u ⟨rfl, _⟩))
    go_ret
    exact ⟨by rw [HS.out]; rfl, prev_bel _ _⟩
/-- k rounds on, step by step. -/
theorem div_more {ev st : Int} {q k : Nat} (h : 0 < ev) (hq : st / ev = (q : Int)) : (ev * ((k : Int) + 1) ≤ st) ↔ k < q := by
  have h1 := Int.mul_ediv_add_emod st ev
  have h2 := Int.emod_nonneg st (show ev ≠ 0 by omega)
  have h3 := Int.emod_lt_of_pos st h
  rw [hq] at h1
  constructor
  · intro h4
    rcases Nat.lt_or_ge k q with h5 | h5
    · exact h5
    · have : ev * (q : Int) ≤ ev * (k : Int) := Int.mul_le_mul_of_nonneg_left (by omega) (by omega)
      rw [Int.mul_add] at h4
      omega
  · intro h4
    have : ev * ((k : Int) + 1) ≤ ev * (q : Int) := Int.mul_le_mul_of_nonneg_left (by omega) (by omega)
    omega
set_option maxRecDepth 100000 in
set_option maxHeartbeats 8000000 in
theorem r24_at [ir : I6 r] [id : I6 dr] {st R : Int} (hev : 0 ≤ ev) (hev2 : ev ≤ 1024) (hst : 0 ≤ st) (hst2 : st ≤ 1024) (hR : Hid (hyAt r dr ev st = R)) :
    Calls Try.prog 31 #[.agg #[.int .i64 r, .int .i64 m, .int .i64 d, .int .i64 cl, .int .i64 dr, .int .i64 ev], .int .i64 st] w (RetV w (.int .i64 R)) := by
  have CB := @cell_bx
  have CP := @cell_prev
  have hR := hR.out
  by_cases he : ev = 0
  · subst he
    have HR : Hid (R = r) := Lib.hid (by rw [← hR, hyAt]; simp [hyR])
    clear hR
    go_enter Try.func31, Try.ntmps31
    go_wp2_with fail
    go_ret
    exact ⟨by rw [HR.out]; rfl, prev_bel _ _⟩
  obtain ⟨q, hq⟩ : ∃ q : Nat, st / ev = (q : Int) := ⟨(st / ev).toNat, by have := Int.ediv_nonneg (a := st) (b := ev) (by omega) (by omega); omega⟩
  have hq2 : q ≤ 1024 := by
    have := Int.ediv_le_self (a := st) ev (by omega)
    omega
  have e0 : (ev == 0) = false := by simpa using he
  have HR : Hid (R = hyR r dr q) := Lib.hid (by rw [← hR, hyAt, hq, Int.toNat_natCast])
  have HQ := Lib.hid hq
  have hev1 : 1 ≤ ev := by omega
  clear hR hq he
  go_enter Try.func31, Try.ntmps31
  go_wp2_with fail
  go_loopw [5, 6] (fun x g wr => ∃ (k : Nat) (G : Int), k ≤ q ∧ g = .int .i64 G ∧ Hid (G = ev * ((k : Int) + 1)) ∧ 0 ≤ G ∧ G ≤ 2048 ∧ x = .int .i64 (hyR r dr k) ∧ Bx wr w.heap.size 52 #[.int .i64 r, .int .i64 m, .int .i64 d, .int .i64 cl, .int .i64 dr, .int .i64 ev] ∧ Prev wr w) (fun _ g _ => (2048 - intOf g).toNat)
  case atStart => exact ⟨0, ev, Nat.zero_le _, rfl, Lib.hid (by simp), by omega, by omega, rfl, inferInstance, prev_bel _ _⟩
  case round =>
    obtain ⟨k, G, hk, rfl, HG, hG1, hG2, rfl, hbx, hp⟩ := hrel
    have hdm := div_more (k := k) (show 0 < ev by omega) HQ.out
    rw [← HG.out] at hdm
    by_cases hlt : G ≤ st
    · have HS : Hid (fmul (hyR r dr k) dr = hyR r dr (k + 1)) := Lib.hid rfl
      have hk2 := hdm.1 hlt
      have HG2 : Hid (G + ev = ev * (((k + 1 : Nat) : Int) + 1)) := Lib.hid (by rw [HG.out, Int.mul_add, Int.mul_add, Int.natCast_add, Int.mul_add]; omega)
      clear hdm
      go_wp2_with (first | (go_at_call 64; (try first | (with_reducible refine gen_boxK3 (fun u _ _ _ _ => ?_)) | (with_reducible refine gen_boxK2 (fun u _ _ _ => ?_)) | (with_reducible refine gen_boxK (fun u _ _ => ?_))); (with_reducible refine (a1_mul).mono ?_); rintro e u ⟨rfl, _⟩))
      go_roundw
      case rel => exact ⟨k + 1, G + ev, by omega, by go_num, HG2, by omega, by omega, by rw [HS.out], inferInstance, prev_bel _ _⟩
      case measure => simp [intOf]; omega
    · have HQ' : Hid (hyR r dr k = R) := Lib.hid (by
        have : ¬ k < q := fun h => hlt (hdm.2 h)
        rw [HR.out, show k = q from by omega])
      clear hdm
      go_wp2_with fail
      go_ret
      exact ⟨by rw [HQ'.out]; rfl, prev_bel _ _⟩
set_option maxRecDepth 100000 in
set_option maxHeartbeats 8000000 in
theorem r24_cell [i1 : I6 m] [i2 : I6 d] [i3 : I6 cl] {p v g rt : Int} [i4 : I6 p] [i5 : I6 v] [i6 : I6 g] [i7 : I6 rt] (hcl : 0 ≤ cl) :
    Calls Try.prog 40 #[.agg #[.int .i64 r, .int .i64 m, .int .i64 d, .int .i64 cl, .int .i64 dr, .int .i64 ev], .int .i64 rt, .int .i64 p, .int .i64 v, .int .i64 g] w (RetV w (.tuple #[.int .i64 (hyP m d cl rt p v g), .int .i64 (hyV m d cl p v g)])) := by
  have CB := @cell_bx
  have CP := @cell_prev
  have h3 := i3.bd
  have hn : fneg cl = -cl := by unfold I64 at h3; unfold fneg clampI; split <;> (try split) <;> omega
  have w1 : IntKind.i64.wrap (-cl) = -cl := IntWalk.i64_in _ (by unfold I64 at h3; omega)
  have i8 : I6 (-cl) := ⟨by unfold I64 at h3 ⊢; omega⟩
  by_cases h0 : cl = 0
  · have HG : Hid (hyV m d cl p v g = fadd (fmul m v) (fadd g (fmul d p))) := Lib.hid (by rw [hyV, hyG, if_pos h0])
    have HP : Hid (hyP m d cl rt p v g = fsub p (fmul rt (fadd (fmul m v) (fadd g (fmul d p))))) := Lib.hid (by rw [hyP, hyV, hyG, if_pos h0])
    have e0 : (cl == 0) = true := by simpa using h0
    clear h0 hn w1
    go_enter Try.func40, Try.ntmps40
    go_wp2_with (first | (go_at_call 64; (try first | (with_reducible refine gen_boxK3 (fun u _ _ _ _ => ?_)) | (with_reducible refine gen_boxK2 (fun u _ _ _ => ?_)) | (with_reducible refine gen_boxK (fun u _ _ => ?_))); (with_reducible refine (a1_mul).mono ?_); rintro e u ⟨rfl, _⟩) | (go_at_call 43; (try first | (with_reducible refine gen_boxK3 (fun u _ _ _ _ => ?_)) | (with_reducible refine gen_boxK2 (fun u _ _ _ => ?_)) | (with_reducible refine gen_boxK (fun u _ _ => ?_))); (with_reducible refine (a1_add).mono ?_); rintro e u ⟨rfl, _⟩) | (go_at_call 73; (try first | (with_reducible refine gen_boxK3 (fun u _ _ _ _ => ?_)) | (with_reducible refine gen_boxK2 (fun u _ _ _ => ?_)) | (with_reducible refine gen_boxK (fun u _ _ => ?_))); (with_reducible refine (r24_sub).mono ?_); rintro e u ⟨rfl, _⟩))
    go_ret2
    exact ⟨by rw [HG.out, HP.out]; rfl, prev_bel _ _⟩
  obtain ⟨G, hG⟩ : ∃ G, fclamp g (fneg cl) cl = G := ⟨_, rfl⟩
  have HG : Hid (hyV m d cl p v g = fadd (fmul m v) (fadd G (fmul d p))) := Lib.hid (by rw [hyV, hyG, if_neg h0, hG])
  have HP : Hid (hyP m d cl rt p v g = fsub p (fmul rt (fadd (fmul m v) (fadd G (fmul d p))))) := Lib.hid (by rw [hyP, hyV, hyG, if_neg h0, hG])
  have e0 : (cl == 0) = false := by simpa using h0
  rw [hn] at hG
  unfold fclamp at hG
  by_cases h1 : cl < g
  · rw [if_pos h1] at hG
    subst hG
    clear hn h0
    go_enter Try.func40, Try.ntmps40
    go_wp2_with (first | (go_at_call 64; (try first | (with_reducible refine gen_boxK3 (fun u _ _ _ _ => ?_)) | (with_reducible refine gen_boxK2 (fun u _ _ _ => ?_)) | (with_reducible refine gen_boxK (fun u _ _ => ?_))); (with_reducible refine (a1_mul).mono ?_); rintro e u ⟨rfl, _⟩) | (go_at_call 43; (try first | (with_reducible refine gen_boxK3 (fun u _ _ _ _ => ?_)) | (with_reducible refine gen_boxK2 (fun u _ _ _ => ?_)) | (with_reducible refine gen_boxK (fun u _ _ => ?_))); (with_reducible refine (a1_add).mono ?_); rintro e u ⟨rfl, _⟩) | (go_at_call 73; (try first | (with_reducible refine gen_boxK3 (fun u _ _ _ _ => ?_)) | (with_reducible refine gen_boxK2 (fun u _ _ _ => ?_)) | (with_reducible refine gen_boxK (fun u _ _ => ?_))); (with_reducible refine (r24_sub).mono ?_); rintro e u ⟨rfl, _⟩))
    go_ret2
    exact ⟨by rw [HG.out, HP.out]; rfl, prev_bel _ _⟩
  rw [if_neg h1] at hG
  by_cases h2 : g < -cl
  · rw [if_pos h2] at hG
    subst hG
    clear hn h0
    go_enter Try.func40, Try.ntmps40
    go_wp2_with (first | (go_at_call 64; (try first | (with_reducible refine gen_boxK3 (fun u _ _ _ _ => ?_)) | (with_reducible refine gen_boxK2 (fun u _ _ _ => ?_)) | (with_reducible refine gen_boxK (fun u _ _ => ?_))); (with_reducible refine (a1_mul).mono ?_); rintro e u ⟨rfl, _⟩) | (go_at_call 43; (try first | (with_reducible refine gen_boxK3 (fun u _ _ _ _ => ?_)) | (with_reducible refine gen_boxK2 (fun u _ _ _ => ?_)) | (with_reducible refine gen_boxK (fun u _ _ => ?_))); (with_reducible refine (a1_add).mono ?_); rintro e u ⟨rfl, _⟩) | (go_at_call 73; (try first | (with_reducible refine gen_boxK3 (fun u _ _ _ _ => ?_)) | (with_reducible refine gen_boxK2 (fun u _ _ _ => ?_)) | (with_reducible refine gen_boxK (fun u _ _ => ?_))); (with_reducible refine (r24_sub).mono ?_); rintro e u ⟨rfl, _⟩))
    go_ret2
    exact ⟨by rw [HG.out, HP.out]; rfl, prev_bel _ _⟩
  · rw [if_neg h2] at hG
    subst hG
    clear hn h0
    go_enter Try.func40, Try.ntmps40
    go_wp2_with (first | (go_at_call 64; (try first | (with_reducible refine gen_boxK3 (fun u _ _ _ _ => ?_)) | (with_reducible refine gen_boxK2 (fun u _ _ _ => ?_)) | (with_reducible refine gen_boxK (fun u _ _ => ?_))); (with_reducible refine (a1_mul).mono ?_); rintro e u ⟨rfl, _⟩) | (go_at_call 43; (try first | (with_reducible refine gen_boxK3 (fun u _ _ _ _ => ?_)) | (with_reducible refine gen_boxK2 (fun u _ _ _ => ?_)) | (with_reducible refine gen_boxK (fun u _ _ => ?_))); (with_reducible refine (a1_add).mono ?_); rintro e u ⟨rfl, _⟩) | (go_at_call 73; (try first | (with_reducible refine gen_boxK3 (fun u _ _ _ _ => ?_)) | (with_reducible refine gen_boxK2 (fun u _ _ _ => ?_)) | (with_reducible refine gen_boxK (fun u _ _ => ?_))); (with_reducible refine (r24_sub).mono ?_); rintro e u ⟨rfl, _⟩))
    go_ret2
    exact ⟨by rw [HG.out, HP.out]; rfl, prev_bel _ _⟩
end

end Go.Proofs.Ytphcffcecncngaa
