/- athanorlaw09's own functions. -/
import Derived.Test.YtingmabmglpmaaaMoveBack
namespace Go.Proofs.Ytingmabmglpmaaa
open Go.RowKit

section
variable {w : World} {A B C D : Option Addr} {n m c d p q e' n' m' c' d' : Nat} {zs xs ts ys zg xg : List Int} {side : Int} {us : List Tn}
set_option maxHeartbeats 1000000 in
theorem l09_right (A B : Option Addr) (c d : Nat) (zs xs : List Int) (w : World) (hz : zs.length ≤ 1000000) (h : Rd w A zs) :
    Calls Try.prog 16 #[.agg #[.slice A zs.length c, .slice B xs.length d]] w (RetB w (.bool (tRightB zs xs))) := by
  have k0 := Blk.new w 26 #[.slice A zs.length c, .slice B xs.length d]
  obtain ⟨q0, q1⟩ := box2 k0
  have CR := Lib.hid fun n => calls_same (ref_right A c zs ((w.alloc (.cells #[.slice A zs.length c, .slice B xs.length d] 26)).drewN n) hz ((h.alloc _).drewN n))
  rcases hr : rightB zs with _ | _
  · have HV : Hid (tRightB zs xs = false) := Lib.hid (by simp [tRightB, hr])
    rw [hr] at CR
    clear hr
    go_enter Try.func16, Try.ntmps16
    go_wp2_with fail
    go_quiet ((go_at_call 20; exact Calls.quiet_of_same (CR.out _)))
    go_wp2_with fail
    go_ret
    exact ⟨ret_bool HV.out.symm, below_drewN ((Below.refl _ _).alloc (Nat.le_refl _) _) _⟩
  · have HV : Hid (tRightB zs xs = ((xs.length : Int) == prodL zs)) := Lib.hid (by simp [tRightB, hr]; exact Bool.eq_iff_iff.2 (by simp))
    obtain ⟨_, r4, rin, _⟩ := (rightB_iff zs).1 hr
    have CS := Lib.hid fun n => calls_same (ref_size A c zs ((w.alloc (.cells #[.slice A zs.length c, .slice B xs.length d] 26)).drewN n) r4 (Lib.hid rin) ((h.alloc _).drewN n))
    rw [hr] at CR
    clear hr rin
    go_enter Try.func16, Try.ntmps16
    go_wp2_with fail
    go_quiet ((first | (go_at_call 20; exact Calls.quiet_of_same (CR.out _)) | (go_at_call 21; exact Calls.quiet_of_same (CS.out _))))
    go_wp2_with fail
    go_ret
    exact ⟨ret_bool HV.out.symm, below_drewN ((Below.refl _ _).alloc (Nat.le_refl _) _) _⟩
theorem a09_right [a : Sl w A n zs] [b : Sl w B m xs] (hn : n ≤ 1000000) : Calls Try.prog 16 #[.agg #[.slice A n c, .slice B m d]] w (RetV w (.bool (tRightB zs xs))) := by
  obtain ⟨a, rfl⟩ := a
  obtain ⟨b, rfl⟩ := b
  exact retV (l09_right A B c d zs xs w hn a)
end
section
variable {w : World} {A : Option Addr} {n c : Nat} {ts : List Tn}
set_option maxRecDepth 100000 in
set_option maxHeartbeats 1000000 in
theorem a09_small [a : Ts w A n ts] (hn : n ≤ 17592186043904) (hb : Hid (∀ t ∈ ts, t.zs.length ≤ 17592186043904 ∧ t.xs.length ≤ 17592186043904)) : Calls Try.prog 12 #[.slice A n c] w (RetV w (.bool (decide (sumT ts ≤ 900)))) := by
  have CB := @cell_bx
  have CP := @cell_prev
  go_enter Try.func12, Try.ntmps12
  go_wp2_with fail
  go_loopw [3, 8] (fun s i wr => ∃ k S : Nat, k ≤ n ∧ i = .int .i64 k ∧ s = .int .i64 S ∧ S ≤ 900 ∧ Hid (sumT (ts.take k) = S) ∧ Prev wr w) (fun _ i _ => n - (intOf i).toNat)
  case atStart => exact ⟨0, 0, Nat.zero_le _, rfl, rfl, by omega, Lib.hid rfl, prev_bel _ _⟩
  case round =>
    obtain ⟨k, S, hk, rfl, rfl, hS, HS, hp⟩ := hrel
    by_cases hlt : k < n
    · obtain ⟨b, o, A1, c1, z1, B1, d1, x1, rfl, ob, q0, q1, s1, t1, -, -, ht⟩ := a.get hlt
      obtain ⟨l1, l2⟩ := hb.out _ (List.mem_of_getElem? ht.out)
      simp only at l1 l2
      have HT : Hid (sumT (ts.take (k + 1)) = S + (1 + z1.length + x1.length)) := Lib.hid (by rw [sumT_take ht.out, HS.out])
      by_cases hq : S + (1 + z1.length + x1.length) ≤ 900
      · go_wp2_with fail
        go_roundw
        case rel => exact ⟨k + 1, S + (1 + z1.length + x1.length), by omega, by go_num, by go_num, hq, HT, prev_bel _ _⟩
        case measure => simp [intOf]; omega
      · have e : decide (sumT ts ≤ 900) = false := by
          have := sumT_le ts (k + 1)
          rw [HT.out] at this
          simp; omega
        rw [e]
        clear e
        go_wp2_with fail
        go_ret
        exact ⟨rfl, prev_bel _ _⟩
    · have e : decide (sumT ts ≤ 900) = true := by
        have := HS.out
        rw [List.take_of_length_le (by rw [← a.len]; omega)] at this
        simp; omega
      have HE := Lib.hid e
      clear e
      go_wp2_with fail
      go_ret
      exact ⟨by rw [HE.out]; rfl, prev_bel _ _⟩
end
section
variable {w : World} {A B C D : Option Addr} {n m c d p q e' n' m' c' d' : Nat} {zs xs ts ys zg xg : List Int} {side : Int} {us : List Tn}
theorem join9 [a : Ts w A n us] [lc : Le n c] (n1 m1 : Nat) (S X : List Int) (P I Z nn : Nat) (hn : n ≤ 1000000) (hz : ∀ t ∈ us, t.zs.length ≤ 1000000) (hE : jnE nn us = 0) (HJW : JW nn P I Z S) (hS : S = jnS nn us) (hX : X = mvX P us P)
    (hP : P * rowS P us ≤ 65536) (hall : ∀ t ∈ us, P * (t.xs.length / P) = t.xs.length ∧ t.xs.length ≤ 65536) (h1 : n1 = S.length) (h2 : m1 = X.length) : Calls Try.prog 14 #[.int .i64 nn, .slice A n c] w (RetTm w n1 m1 S X 0) := by
  subst h1 h2
  exact (mv_join_yes hn (Lib.hid hz) (Lib.hid hE) (Lib.hid HJW) (Lib.hid hS) (Lib.hid hX) (Lib.hid hP) (Lib.hid hall)).mono fun _ _ ⟨A, c, B, d, he, h1, h2, _, h4, _, _, h7⟩ => ⟨A, c, B, d, he, h1, h2, h4, h7⟩
set_option maxRecDepth 100000 in
set_option maxHeartbeats 4000000 in
theorem a09_awake : Calls Try.prog 13 #[] w (RetV w (.bool true)) := by
  have CB := @cell_bx
  have CP := @cell_prev
  go_enter Try.func13, Try.ntmps13
  go_wp2_with (first | (go_at_call 40; (try first | (with_reducible refine gen_boxK3 (fun u _ _ _ _ => ?_)) | (with_reducible refine gen_boxK2 (fun u _ _ _ => ?_)) | (with_reducible refine gen_boxK (fun u _ _ => ?_))); (with_reducible refine (aT_ofL (by omega) (by omega) (by kernel_rfl)).mono ?_); rintro e u ⟨A', c', B', d', rfl, _, _, _, _⟩))
  refine gen_boxK2 (fun v1 _ _ _ => ?_)
  have hjw : JW 0 1 1 3 [3] := ⟨by kernel_rfl, by simp, rfl, rfl, rfl, by omega, by omega, by omega⟩
  refine (join9 (nn := 0) 1 3 [3] [1, 2, 3] 1 1 3 (by omega) (by simp) (by kernel_rfl) hjw (by kernel_rfl) (by kernel_rfl) (by simp [rowS]) (by simp) rfl rfl).mono ?_
  rintro e u1 ⟨A1, c1, B1, d1, rfl, sS, sX, lX, _⟩
  go_wp2_with fail
  refine gen_boxK2 (fun v2 _ _ _ => ?_)
  refine (mv_joinback_yes (nn := 0) (P := 1) (I := 1) (Z := 3) (S := [3]) (xg := [4, 5, 6]) (by omega) (Lib.hid (by simp)) (Lib.hid (by kernel_rfl)) (Lib.hid hjw) (Lib.hid (by kernel_rfl)) (by kernel_rfl) (Lib.hid (by
    intro t ht
    simp at ht
    rcases ht with rfl | rfl
    · exact ⟨by kernel_rfl, ⟨by kernel_rfl, by simp, rfl, rfl, rfl, by omega, by omega, by simp [zN]⟩, by kernel_rfl⟩
    · exact ⟨by kernel_rfl, ⟨by kernel_rfl, by simp, rfl, rfl, rfl, by omega, by omega, by simp [zN]⟩, by kernel_rfl⟩)) (Lib.hid (by kernel_rfl))).mono ?_
  rintro e u2 ⟨G, ps, rfl, sPS, HPS, _⟩
  obtain ⟨b0, o0, P0, k0, y0, Q0, l0, p0, e0, ob0, f0, f1, sy0, sp0, -, -, h0⟩ := sPS.get (k := 0) (by omega)
  injection e0 with e0
  injection e0 with e0 e0'
  subst e0 e0'
  obtain ⟨b1, o1, P1, k1, y1, Q1, l1, p1, e1, -, f2, f3, sy1, sp1, -, -, h1⟩ := sPS.get (k := 1) (by omega)
  injection e1 with e1
  injection e1 with e1 e1'
  subst e1 e1'
  have hp0 : p0 = [4, 5] := (HPS.out.el 0 _ _ h0.out rfl).2.trans (by kernel_rfl)
  have hp1 : p1 = [6] := (HPS.out.el 1 _ _ h1.out rfl).2.trans (by kernel_rfl)
  subst hp0 hp1
  obtain ⟨b2, o2, z2, rfl, ob2, cz2, hz2⟩ := sp1.get (k := 0) (by simp)
  obtain rfl : z2 = 6 := by have := hz2.out; simpa using this.symm
  simp only [Nat.zero_mul, Nat.zero_add, Nat.add_zero, Nat.one_mul] at f0 f1 f2 f3 cz2
  clear hjw h0 h1 hz2 HPS
  go_wp2_with (first | (go_at_call 19; (try first | (with_reducible refine gen_boxK3 (fun u _ _ _ _ => ?_)) | (with_reducible refine gen_boxK2 (fun u _ _ _ => ?_)) | (with_reducible refine gen_boxK (fun u _ _ => ?_))); (with_reducible refine (mv_turn_no (by omega) (by omega) (by decide)).mono ?_); rintro e u ⟨A', c', B', d', rfl, sA, sX, lA, lX, fA, fX, _⟩) | (go_at_call 19; (try first | (with_reducible refine gen_boxK3 (fun u _ _ _ _ => ?_)) | (with_reducible refine gen_boxK2 (fun u _ _ _ => ?_)) | (with_reducible refine gen_boxK (fun u _ _ => ?_))); (with_reducible refine (mv_turn_yes (by omega) (by omega) (by omega) (by decide) (by decide)).mono ?_); rintro e u ⟨A', c', B', d', rfl, sA, sX, lA, lX, fA, fX, _⟩))
  go_ret
  exact ⟨rfl, prev_bel _ _⟩
end

end Go.Proofs.Ytingmabmglpmaaa
