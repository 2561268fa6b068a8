/- The walk of the statement MoveJoins. -/
import Derived.Test.YtingmabmglpmaaaMoveTurns
import Derived.Test.YtingmabmglpmaaaMoveMath2
namespace Go.Proofs.Ytingmabmglpmaaa
open Go.RowKit

theorem tjE_right {S X zs xs : List Int} {side : Int} (h : tRightB S X = true) : tjoinE S X zs xs side = if tRightB zs xs then joinE S zs side else 20 := by
  simp [tjoinE, h]
theorem jdE_step {S X : List Int} {side E : Int} {t : Tn} {l : List Tn} (h : tRightB S X = true) (hE : jdE side S (t :: l) = E) : (tjoinE S X t.zs t.xs side ≠ 0 ∧ tjoinE S X t.zs t.xs side = E) ∨ (tjoinE S X t.zs t.xs side = 0 ∧ jdE side (joinV S t.zs side) l = E ∧ tRightB t.zs t.xs = true ∧ joinE S t.zs side = 0) := by
  rw [tjE_right h]
  unfold jdE at hE
  split at hE
  · rename_i hr
    rw [if_pos hr]
    split at hE
    · rename_i hj; exact .inr ⟨hj, hE, hr, hj⟩
    · rename_i hj; exact .inl ⟨hj, hE⟩
  · rename_i hr
    rw [if_neg hr]
    exact .inl ⟨by decide, hE⟩
/-- The joined tensor is right. -/
theorem tjX_right {S X : List Int} {side : Int} {t : Tn} (h : tRightB S X = true) (hr : tRightB t.zs t.xs = true) (hj : joinE S t.zs side = 0) : tRightB (joinV S t.zs side) (tjX S X t.zs t.xs side) = true := by
  obtain ⟨n, P, Z1, Z2, I, rfl, r1, r2, hl, hn, g1, g2, z1, z2, p1, i1, eP, eI, eP', eI', ep, ep', ej, hrs, rj, -⟩ := join_nats hj
  have c1 := ((tRightB_iff _ _).1 h).2
  have c2 := ((tRightB_iff _ _).1 hr).2
  rw [ep] at c1
  rw [ep'] at c2
  have hz : tjoinE S X t.zs t.xs n = 0 := by rw [tjE_right h, if_pos hr, hj]
  rw [joinV, if_pos hj, tjX, if_pos hz, Int.toNat_natCast, ej, tRightB_iff]
  refine ⟨rj, ?_⟩
  have e1 : (prodL (S.drop n)).toNat = Z1 * I := by rw [prodL_drop g1, eI, ← Int.natCast_mul]; rfl
  have e2 : (prodL (t.zs.drop n)).toNat = Z2 * I := by rw [prodL_drop g2, eI', ← Int.natCast_mul]; rfl
  have e3 : (prodL (S.take n)).toNat = P := by rw [eP]; rfl
  rw [e1, e2, e3, joinCells_length (by omega) (by omega), prodL_set _ hn, eP, eI, ← Nat.add_mul]
  simp
/-- One step of what has been joined so far. -/
theorem MJ.step {nn P I k : Nat} {us : List Tn} {S X : List Int} {t : Tn} (h : MJ nn P I us k S X) (hr : tRightB S X = true) (ht : us[k + 1]? = some t) (hrt : tRightB t.zs t.xs = true) (hj : joinE S t.zs nn = 0) (hall : ∀ t ∈ us, P * (t.xs.length / P) = t.xs.length) : MJ nn P I us (k + 1) (joinV S t.zs nn) (tjX S X t.zs t.xs nn) := by
  obtain ⟨Z, hz, hzi⟩ := h.z
  obtain ⟨Z2, w2, w, -, -⟩ := hz.step rfl hj
  have hz0 : tjoinE S X t.zs t.xs nn = 0 := by rw [tjE_right hr, if_pos hrt, hj]
  refine ⟨⟨Z + Z2, w, ?_⟩, ?_⟩
  · rw [take_at ht, rowS_snoc, ← hzi, w2.row hrt, Nat.add_mul]
  · rw [tjX, if_pos hz0, Int.toNat_natCast, prodL_drop hz.at_, hz.behind, hz.ahead, prodL_drop w2.at_, w2.behind, ← Int.natCast_mul, ← Int.natCast_mul, Int.toNat_natCast, Int.toNat_natCast, Int.toNat_natCast, hzi, ← w2.row hrt, h.x, take_at ht]
    exact mvX_snoc fun u hu => hall u (List.mem_of_mem_take hu)
theorem jn_first {side : Int} {t0 : Tn} {r : List Tn} (h : jnE side (t0 :: r) = 0) : tRightB t0.zs t0.xs = true := by
  rw [jnE_cons] at h
  split at h
  · assumption
  · omega

set_option maxRecDepth 100000 in
set_option maxHeartbeats 8000000 in
theorem moveJoins_calls (side : Int) (A : Option Addr) (c : Nat) (us : List Tn) (w : World) (h : TensW w A c us) :
    Calls Try.prog 5 #[.int .i64 side, .slice A us.length c] w (LawTrue w) := by
  obtain ⟨N, hN⟩ : ∃ N, us.length = N := ⟨_, rfl⟩
  have hn := h.len
  have hcap := h.cap
  rw [hN] at hn hcap ⊢
  have a : Ts w A N us := ⟨h.rd, hN.symm⟩
  have lc : Le N c := ⟨hcap⟩
  have HN := Lib.hid hN
  clear hN hcap
  have HB := Lib.hid h.big
  have HC := Lib.hid h.caps
  clear h
  have CB := @cell_bx
  have CP := @cell_prev
  have FB := @frozen_bx
  rcases hs : decide (sumT us ≤ 900) with _ | _
  · go_enter Try.func5, Try.ntmps5
    go_wp2_with (first | (go_at_call 12; (try first | (with_reducible refine gen_boxK3 (fun u _ _ _ _ => ?_)) | (with_reducible refine gen_boxK2 (fun u _ _ _ => ?_)) | (with_reducible refine gen_boxK (fun u _ _ => ?_))); (with_reducible refine (a09_small (by omega) HB).mono ?_); rintro e u ⟨rfl, _⟩) | (go_at_call 13; (try first | (with_reducible refine gen_boxK3 (fun u _ _ _ _ => ?_)) | (with_reducible refine gen_boxK2 (fun u _ _ _ => ?_)) | (with_reducible refine gen_boxK (fun u _ _ => ?_))); (with_reducible refine (a09_awake).mono ?_); rintro e u ⟨rfl, _⟩))
    go_ret
    exact ⟨rfl, bel w _⟩
  by_cases h12 : 12 < N
  · go_enter Try.func5, Try.ntmps5
    go_wp2_with (first | (go_at_call 12; (try first | (with_reducible refine gen_boxK3 (fun u _ _ _ _ => ?_)) | (with_reducible refine gen_boxK2 (fun u _ _ _ => ?_)) | (with_reducible refine gen_boxK (fun u _ _ => ?_))); (with_reducible refine (a09_small (by omega) HB).mono ?_); rintro e u ⟨rfl, _⟩) | (go_at_call 13; (try first | (with_reducible refine gen_boxK3 (fun u _ _ _ _ => ?_)) | (with_reducible refine gen_boxK2 (fun u _ _ _ => ?_)) | (with_reducible refine gen_boxK (fun u _ _ => ?_))); (with_reducible refine (a09_awake).mono ?_); rintro e u ⟨rfl, _⟩))
    go_ret
    exact ⟨rfl, bel w _⟩
  have hsum : sumT us ≤ 900 := by simpa using hs
  have hz : Hid (∀ t ∈ us, t.zs.length ≤ 1000000) := Lib.hid fun t ht => by have := sumT_mem ht; omega
  have hx : Hid (∀ t ∈ us, t.xs.length ≤ 1000000) := Lib.hid fun t ht => by have := sumT_mem ht; omega
  clear hsum
  by_cases hn0 : N = 0
  · subst hn0
    obtain rfl : us = [] := List.eq_nil_of_length_eq_zero HN.out
    have hE : Hid (jnE side [] = 20) := Lib.hid rfl
    go_enter Try.func5, Try.ntmps5
    go_wp2_with (first | (go_at_call 12; (try first | (with_reducible refine gen_boxK3 (fun u _ _ _ _ => ?_)) | (with_reducible refine gen_boxK2 (fun u _ _ _ => ?_)) | (with_reducible refine gen_boxK (fun u _ _ => ?_))); (with_reducible refine (a09_small (by omega) HB).mono ?_); rintro e u ⟨rfl, _⟩) | (go_at_call 14; (try first | (with_reducible refine gen_boxK3 (fun u _ _ _ _ => ?_)) | (with_reducible refine gen_boxK2 (fun u _ _ _ => ?_)) | (with_reducible refine gen_boxK (fun u _ _ => ?_))); (with_reducible refine (mv_join_no (by omega) hz hE rfl).mono ?_); rintro e u ⟨A', c', B', d', rfl, sA, sX, lA, lX, fA, fX, _⟩) | (go_at_call 13; (try first | (with_reducible refine gen_boxK3 (fun u _ _ _ _ => ?_)) | (with_reducible refine gen_boxK2 (fun u _ _ _ => ?_)) | (with_reducible refine gen_boxK (fun u _ _ => ?_))); (with_reducible refine (a09_awake).mono ?_); rintro e u ⟨rfl, _⟩))
    go_ret
    exact ⟨rfl, bel w _⟩
  obtain ⟨l, rfl⟩ : ∃ l, N = l + 1 := ⟨N - 1, by omega⟩
  obtain ⟨t0, r, rfl⟩ : ∃ t0 r, us = t0 :: r := by
    cases us with
    | nil => have := HN.out; simp at this
    | cons t0 r => exact ⟨t0, r, rfl⟩
  have HL : Hid (r.length = l) := Lib.hid (by have := HN.out; simp at this; omega)
  clear hn0
  obtain ⟨b, o, A0, c0, z0, B0, d0, x0, rfl, ob, q0, q1, s0, sx0, hd0, i0, ht0⟩ := a.get (k := 0) (by omega)
  simp only [Nat.zero_mul, Nat.add_zero] at q0 q1
  obtain rfl : t0 = ⟨A0, c0, z0, B0, d0, x0⟩ := by have := ht0.out; simpa using this
  have hz0 : z0.length ≤ 1000000 := hz.out _ (List.mem_cons_self)
  have lx0 : Le x0.length d0 := ⟨hd0⟩
  have lz0 : Le z0.length c0 := ⟨HC.out _ List.mem_cons_self⟩
  obtain ⟨E, hEE⟩ : ∃ E, jnE side (⟨A0, c0, z0, B0, d0, x0⟩ :: r) = E := ⟨_, rfl⟩
  have hE := Lib.hid hEE
  rw [jnE_cons] at hEE
  simp only at hEE
  rcases hr : tRightB z0 x0 with _ | _
  · obtain rfl : E = 20 := by rw [hr] at hEE; simpa using hEE.symm
    clear hEE
    go_enter Try.func5, Try.ntmps5
    go_wp2_with (first | (go_at_call 12; (try first | (with_reducible refine gen_boxK3 (fun u _ _ _ _ => ?_)) | (with_reducible refine gen_boxK2 (fun u _ _ _ => ?_)) | (with_reducible refine gen_boxK (fun u _ _ => ?_))); (with_reducible refine (a09_small (by omega) HB).mono ?_); rintro e u ⟨rfl, _⟩) | (go_at_call 14; (try first | (with_reducible refine gen_boxK3 (fun u _ _ _ _ => ?_)) | (with_reducible refine gen_boxK2 (fun u _ _ _ => ?_)) | (with_reducible refine gen_boxK (fun u _ _ => ?_))); (with_reducible refine (mv_join_no (by omega) hz hE rfl).mono ?_); rintro e u ⟨A', c', B', d', rfl, sA, sX, lA, lX, fA, fX, _⟩) | (go_at_call 16; (try first | (with_reducible refine gen_boxK3 (fun u _ _ _ _ => ?_)) | (with_reducible refine gen_boxK2 (fun u _ _ _ => ?_)) | (with_reducible refine gen_boxK (fun u _ _ => ?_))); (with_reducible refine (a09_right (by omega)).mono ?_); rintro e u ⟨rfl, _⟩) | (go_at_call 13; (try first | (with_reducible refine gen_boxK3 (fun u _ _ _ _ => ?_)) | (with_reducible refine gen_boxK2 (fun u _ _ _ => ?_)) | (with_reducible refine gen_boxK (fun u _ _ => ?_))); (with_reducible refine (a09_awake).mono ?_); rintro e u ⟨rfl, _⟩))
    go_ret
    exact ⟨rfl, bel w _⟩
  rw [hr, if_pos rfl] at hEE
  by_cases hone : l = 0 ∧ ¬ (0 ≤ side ∧ side < z0.length)
  · obtain ⟨rfl, hside⟩ := hone
    obtain rfl : r = [] := List.eq_nil_of_length_eq_zero HL.out
    obtain rfl : E = 11 := by rw [← hEE]; simp; omega
    clear hEE
    by_cases hs0 : side < 0
    · go_enter Try.func5, Try.ntmps5
      go_wp2_with (first | (go_at_call 12; (try first | (with_reducible refine gen_boxK3 (fun u _ _ _ _ => ?_)) | (with_reducible refine gen_boxK2 (fun u _ _ _ => ?_)) | (with_reducible refine gen_boxK (fun u _ _ => ?_))); (with_reducible refine (a09_small (by omega) HB).mono ?_); rintro e u ⟨rfl, _⟩) | (go_at_call 14; (try first | (with_reducible refine gen_boxK3 (fun u _ _ _ _ => ?_)) | (with_reducible refine gen_boxK2 (fun u _ _ _ => ?_)) | (with_reducible refine gen_boxK (fun u _ _ => ?_))); (with_reducible refine (mv_join_no (by omega) hz hE rfl).mono ?_); rintro e u ⟨A', c', B', d', rfl, sA, sX, lA, lX, fA, fX, _⟩) | (go_at_call 16; (try first | (with_reducible refine gen_boxK3 (fun u _ _ _ _ => ?_)) | (with_reducible refine gen_boxK2 (fun u _ _ _ => ?_)) | (with_reducible refine gen_boxK (fun u _ _ => ?_))); (with_reducible refine (a09_right (by omega)).mono ?_); rintro e u ⟨rfl, _⟩) | (go_at_call 13; (try first | (with_reducible refine gen_boxK3 (fun u _ _ _ _ => ?_)) | (with_reducible refine gen_boxK2 (fun u _ _ _ => ?_)) | (with_reducible refine gen_boxK (fun u _ _ => ?_))); (with_reducible refine (a09_awake).mono ?_); rintro e u ⟨rfl, _⟩))
      go_ret
      exact ⟨rfl, bel w _⟩
    · have hs1 : (z0.length : Int) ≤ side := by omega
      clear hside
      go_enter Try.func5, Try.ntmps5
      go_wp2_with (first | (go_at_call 12; (try first | (with_reducible refine gen_boxK3 (fun u _ _ _ _ => ?_)) | (with_reducible refine gen_boxK2 (fun u _ _ _ => ?_)) | (with_reducible refine gen_boxK (fun u _ _ => ?_))); (with_reducible refine (a09_small (by omega) HB).mono ?_); rintro e u ⟨rfl, _⟩) | (go_at_call 14; (try first | (with_reducible refine gen_boxK3 (fun u _ _ _ _ => ?_)) | (with_reducible refine gen_boxK2 (fun u _ _ _ => ?_)) | (with_reducible refine gen_boxK (fun u _ _ => ?_))); (with_reducible refine (mv_join_no (by omega) hz hE rfl).mono ?_); rintro e u ⟨A', c', B', d', rfl, sA, sX, lA, lX, fA, fX, _⟩) | (go_at_call 16; (try first | (with_reducible refine gen_boxK3 (fun u _ _ _ _ => ?_)) | (with_reducible refine gen_boxK2 (fun u _ _ _ => ?_)) | (with_reducible refine gen_boxK (fun u _ _ => ?_))); (with_reducible refine (a09_right (by omega)).mono ?_); rintro e u ⟨rfl, _⟩) | (go_at_call 13; (try first | (with_reducible refine gen_boxK3 (fun u _ _ _ _ => ?_)) | (with_reducible refine gen_boxK2 (fun u _ _ _ => ?_)) | (with_reducible refine gen_boxK (fun u _ _ => ?_))); (with_reducible refine (a09_awake).mono ?_); rintro e u ⟨rfl, _⟩))
      go_ret
      exact ⟨rfl, bel w _⟩
  have HJ : Hid (jdE side z0 r = E) := Lib.hid (by
    rw [← hEE, if_neg]
    intro hc
    simp at hc
    obtain ⟨rfl, hc⟩ := hc
    exact hone ⟨by simpa using HL.out.symm, by omega⟩)
  obtain ⟨A', hsl, hrd⟩ := slice_fromT (some ⟨b, o, none⟩) l c lc.le
  have ar : Ts w A' l r := ⟨hrd w _ a.rd a.len.symm, HL.out.symm⟩
  have hzr : Hid (∀ t ∈ r, t.zs.length ≤ 1000000) := Lib.hid fun t ht => hz.out t (List.mem_cons_of_mem _ ht)
  have hxr : Hid (∀ t ∈ r, t.xs.length ≤ 1000000) := Lib.hid fun t ht => hx.out t (List.mem_cons_of_mem _ ht)
  have HCr : Hid (∀ t ∈ r, t.zs.length ≤ t.c) := Lib.hid fun t ht => HC.out t (List.mem_cons_of_mem _ ht)
  have HR0 := Lib.hid hr
  have hone' : l = 0 → 0 ≤ side ∧ side < z0.length := fun h => by
    rcases Classical.em (0 ≤ side ∧ side < z0.length) with h' | h'
    · exact h'
    · exact absurd ⟨h, h'⟩ hone
  clear hEE hone hrd
  by_cases he0 : E = 0
  · subst he0
    obtain ⟨nn, P, I, Z, rfl, hjw, -, hall, hZI, hF⟩ := jn_nats hE.out
    obtain ⟨S0, hS0⟩ : ∃ S0, S0 = jnS nn (⟨A0, c0, z0, B0, d0, x0⟩ :: r) := ⟨_, rfl⟩
    obtain ⟨X0, hX0⟩ : ∃ X0, X0 = mvX P (⟨A0, c0, z0, B0, d0, x0⟩ :: r) P := ⟨_, rfl⟩
    rw [← hS0] at hjw
    have HJW := Lib.hid hjw
    have HS0 := Lib.hid hS0
    have HX0 := Lib.hid hX0
    have HP : Hid (P * rowS P (⟨A0, c0, z0, B0, d0, x0⟩ :: r) ≤ 65536) := Lib.hid (by rw [← hZI]; exact hjw.small)
    have HALL : Hid (∀ t ∈ (⟨A0, c0, z0, B0, d0, x0⟩ :: r : List Tn), P * (t.xs.length / P) = t.xs.length ∧ t.xs.length ≤ 65536) := Lib.hid fun t ht => (hall t ht).2.1.div (hall t ht).1
    have HSJ : Hid (jdS nn z0 (r.drop 0) = S0) := Lib.hid (by rw [hS0]; rfl)
    have HMJ : Hid (MJ nn P I (⟨A0, c0, z0, B0, d0, x0⟩ :: r) 0 z0 x0) := by
      obtain ⟨g1, g2, -⟩ := hall _ List.mem_cons_self
      refine Lib.hid ⟨⟨_, g2, ?_⟩, ?_⟩
      · have := g2.row g1
        simp [rowS]; exact this.symm
      · have := mvX_one (t := ⟨A0, c0, z0, B0, d0, x0⟩) (HALL.out _ List.mem_cons_self).1
        simpa using this.symm
    clear hjw hall hZI hF hS0 hX0
    by_cases hl0 : l = 0
    · obtain ⟨p0, p1⟩ := hone' hl0
      subst hl0
      clear hone'
      obtain rfl : r = [] := List.eq_nil_of_length_eq_zero HL.out
      obtain rfl : S0 = z0 := by rw [← HSJ.out]; rfl
      obtain rfl : X0 = x0 := HX0.out.trans HMJ.out.x.symm
      have hx6 := (right_len hr).1
      go_enter Try.func5, Try.ntmps5
      go_wp2_with (first | (go_at_call 12; (try first | (with_reducible refine gen_boxK3 (fun u _ _ _ _ => ?_)) | (with_reducible refine gen_boxK2 (fun u _ _ _ => ?_)) | (with_reducible refine gen_boxK (fun u _ _ => ?_))); (with_reducible refine (a09_small (by omega) HB).mono ?_); rintro e u ⟨rfl, _⟩) | (go_at_call 14; (try first | (with_reducible refine gen_boxK3 (fun u _ _ _ _ => ?_)) | (with_reducible refine gen_boxK2 (fun u _ _ _ => ?_)) | (with_reducible refine gen_boxK (fun u _ _ => ?_))); (with_reducible refine (mv_join_yes (by omega) hz hE HJW HS0 HX0 HP HALL).mono ?_); rintro e u ⟨A', c', B', d', rfl, sA, sX, lA, lX, fA, fX, _⟩) | (go_at_call 16; (try first | (with_reducible refine gen_boxK3 (fun u _ _ _ _ => ?_)) | (with_reducible refine gen_boxK2 (fun u _ _ _ => ?_)) | (with_reducible refine gen_boxK (fun u _ _ => ?_))); (with_reducible refine (a09_right (by omega)).mono ?_); rintro e u ⟨rfl, _⟩))
      refine wp_loop_rounds 1 ?_
      rw [rounds_succ]
      go_wp2_with (first | (go_at_call 18; (try first | (with_reducible refine gen_boxK3 (fun u _ _ _ _ => ?_)) | (with_reducible refine gen_boxK2 (fun u _ _ _ => ?_)) | (with_reducible refine gen_boxK (fun u _ _ => ?_))); (with_reducible refine (aT_equalT (by omega) (by omega)).mono ?_); rintro e u ⟨rfl, _⟩) | (go_at_call 13; (try first | (with_reducible refine gen_boxK3 (fun u _ _ _ _ => ?_)) | (with_reducible refine gen_boxK2 (fun u _ _ _ => ?_)) | (with_reducible refine gen_boxK (fun u _ _ => ?_))); (with_reducible refine (a09_awake).mono ?_); rintro e u ⟨rfl, _⟩))
      go_ret
      exact ⟨rfl, bel w _⟩
    · have hl1 : 0 < l := by omega
      clear hone' hl0
      go_enter Try.func5, Try.ntmps5
      go_wp2_with (first | (go_at_call 12; (try first | (with_reducible refine gen_boxK3 (fun u _ _ _ _ => ?_)) | (with_reducible refine gen_boxK2 (fun u _ _ _ => ?_)) | (with_reducible refine gen_boxK (fun u _ _ => ?_))); (with_reducible refine (a09_small (by omega) HB).mono ?_); rintro e u ⟨rfl, _⟩) | (go_at_call 14; (try first | (with_reducible refine gen_boxK3 (fun u _ _ _ _ => ?_)) | (with_reducible refine gen_boxK2 (fun u _ _ _ => ?_)) | (with_reducible refine gen_boxK (fun u _ _ => ?_))); (with_reducible refine (mv_join_yes (by omega) hz hE HJW HS0 HX0 HP HALL).mono ?_); rintro e u ⟨A', c', B', d', rfl, sA, sX, lA, lX, fA, fX, _⟩) | (go_at_call 16; (try first | (with_reducible refine gen_boxK3 (fun u _ _ _ _ => ?_)) | (with_reducible refine gen_boxK2 (fun u _ _ _ => ?_)) | (with_reducible refine gen_boxK (fun u _ _ => ?_))); (with_reducible refine (a09_right (by omega)).mono ?_); rintro e u ⟨rfl, _⟩))
      obtain ⟨v, rfl⟩ : ∃ v : World, v = u := ⟨_, rfl⟩
      have sO := sA
      have sOX := sX
      go_loopw [81] (fun i wr => ∃ (k : Nat) (A2 : Option Addr) (c2 : Nat) (S : List Int) (B2 : Option Addr) (d2 : Nat) (X : List Int), k ≤ l ∧ i = .int .i64 k ∧ Bx wr v.heap.size 26 #[.slice A2 S.length c2, .slice B2 X.length d2] ∧ Sl wr A2 S.length S ∧ Sl wr B2 X.length X ∧ Le S.length c2 ∧ Le X.length d2 ∧ S.length ≤ 1000000 ∧ Hid (tRightB S X = true) ∧ Hid (jdE nn S (r.drop k) = 0) ∧ Hid (jdS nn S (r.drop k) = S0) ∧ Hid (MJ nn P I (⟨A0, c0, z0, B0, d0, x0⟩ :: r) k S X) ∧ Prev wr v) (fun i _ => l - (intOf i).toNat)
      case atStart => exact ⟨0, _, _, z0, _, _, x0, Nat.zero_le _, rfl, inferInstance, inferInstance, inferInstance, lz0, lx0, hz0, HR0, HJ, HSJ, HMJ, prev_bel _ _⟩
      case round =>
        obtain ⟨k, A2, c2, S, B2, d2, X, hk, rfl, kB, sS, sX2, lS, lX2, hS6, HR, HJk, HSk, HMk, hp⟩ := hrel
        by_cases hlt : k < l
        · obtain ⟨b', o', A1, c1, z1, B1, d1, x1, rfl, ob', q2, q3, s1, t1, hd1, i1, ht⟩ := ar.get hlt
          have hz1 := hzr.out _ (List.mem_of_getElem? ht.out)
          have lz1 := HCr.out _ (List.mem_of_getElem? ht.out)
          simp only at hz1 lz1
          replace lz1 : Le z1.length c1 := ⟨lz1⟩
          have lx1 : Le x1.length d1 := ⟨hd1⟩
          have HD : Hid (r.drop k = ⟨A1, c1, z1, B1, d1, x1⟩ :: r.drop (k + 1)) := Lib.hid (by
            obtain ⟨hkl, e⟩ := List.getElem?_eq_some_iff.1 ht.out
            rw [List.drop_eq_getElem_cons hkl, e])
          have HT1 : Hid ((⟨A0, c0, z0, B0, d0, x0⟩ :: r)[k + 1]? = some (⟨A1, c1, z1, B1, d1, x1⟩ : Tn)) := Lib.hid (by simpa using ht.out)
          obtain ⟨V, hV⟩ : ∃ V, joinV S z1 nn = V := ⟨_, rfl⟩
          obtain ⟨Y, hY⟩ : ∃ Y, tjX S X z1 x1 nn = Y := ⟨_, rfl⟩
          have hjk := HJk.out
          rw [HD.out] at hjk
          rcases jdE_step HR.out hjk with ⟨hne, he⟩ | ⟨h0, hE', hrt, hj⟩
          · exact absurd he hne
          have HM2 := Lib.hid (HMk.out.step HR.out HT1.out hrt hj (fun t ht => (HALL.out t ht).1))
          have HR2 := Lib.hid (tjX_right HR.out hrt hj)
          have HVL := Lib.hid (joinV_len (zs := S) (ts := z1) (side := nn))
          simp only at h0 hE'
          simp only [hV, hY] at HM2 HR2 HVL hE'
          have HJ1 := Lib.hid h0
          have HS1 : Hid (tjS S X z1 x1 nn = V) := Lib.hid (by rw [tjS, if_pos h0, hV])
          have HX1 := Lib.hid hY
          have HE2 := Lib.hid hE'
          have HSN : Hid (jdS nn V (r.drop (k + 1)) = S0) := Lib.hid (by have := HSk.out; rw [HD.out] at this; rw [← hV]; exact this)
          clear hV hY h0 hE' hrt hj hjk
          go_wp2_with (first | (go_at_call 23; (try first | (with_reducible refine gen_boxK3 (fun u _ _ _ _ => ?_)) | (with_reducible refine gen_boxK2 (fun u _ _ _ => ?_)) | (with_reducible refine gen_boxK (fun u _ _ => ?_))); (with_reducible refine (aT_join (by omega) (by omega) HJ1 HS1 HX1).mono ?_); rintro e u ⟨A', c', B', d', rfl, sA, sX, lA, lX, fA, fX, _⟩))
          go_roundw
          case rel => exact ⟨k + 1, A', c', V, B', d', Y, by omega, by go_num, ⟨(Bx.blk (g := v.heap.size)).set2 _ _⟩, Sl.far2 inferInstance fA (Bx.blk (g := v.heap.size)).lt _ _, Sl.far2 inferInstance fX (Bx.blk (g := v.heap.size)).lt _ _, lA, lX, by have := HVL.out; omega, HR2, HE2, HSN, HM2, ⟨bset2 (bel v _) (p := v.heap.size) (Nat.le_refl _) _ _⟩⟩
          case measure => simp [intOf]; omega
        · have HDR : Hid (r.drop k = []) := Lib.hid (List.drop_of_length_le (by rw [HL.out]; omega))
          obtain rfl : S0 = S := by have := HSk.out; rw [HDR.out] at this; exact this.symm
          obtain rfl : X0 = X := by rw [HX0.out, HMk.out.x, List.take_of_length_le (by simp; rw [HL.out]; omega)]
          have hX6 := (right_len HR.out).1
          go_wp2_with (first | (go_at_call 18; (try first | (with_reducible refine gen_boxK3 (fun u _ _ _ _ => ?_)) | (with_reducible refine gen_boxK2 (fun u _ _ _ => ?_)) | (with_reducible refine gen_boxK (fun u _ _ => ?_))); (with_reducible refine (aT_equalT (by omega) (by omega)).mono ?_); rintro e u ⟨rfl, _⟩) | (go_at_call 13; (try first | (with_reducible refine gen_boxK3 (fun u _ _ _ _ => ?_)) | (with_reducible refine gen_boxK2 (fun u _ _ _ => ?_)) | (with_reducible refine gen_boxK (fun u _ _ => ?_))); (with_reducible refine (a09_awake).mono ?_); rintro e u ⟨rfl, _⟩))
          go_ret
          exact ⟨rfl, bel w _⟩
  · have hl1 : 0 < l := by
      rcases Nat.eq_zero_or_pos l with h | h
      · subst h
        obtain rfl : r = [] := List.eq_nil_of_length_eq_zero HL.out
        exact absurd HJ.out.symm he0
      · exact h
    have e0 : (E != 0) = true := by simp [he0]
    have HE0 : Hid (E ≠ 0) := Lib.hid he0
    clear hone' he0
    go_enter Try.func5, Try.ntmps5
    go_wp2_with (first | (go_at_call 12; (try first | (with_reducible refine gen_boxK3 (fun u _ _ _ _ => ?_)) | (with_reducible refine gen_boxK2 (fun u _ _ _ => ?_)) | (with_reducible refine gen_boxK (fun u _ _ => ?_))); (with_reducible refine (a09_small (by omega) HB).mono ?_); rintro e u ⟨rfl, _⟩) | (go_at_call 14; (try first | (with_reducible refine gen_boxK3 (fun u _ _ _ _ => ?_)) | (with_reducible refine gen_boxK2 (fun u _ _ _ => ?_)) | (with_reducible refine gen_boxK (fun u _ _ => ?_))); (with_reducible refine (mv_join_no (by omega) hz hE e0).mono ?_); rintro e u ⟨A', c', B', d', rfl, sA, sX, lA, lX, fA, fX, _⟩) | (go_at_call 16; (try first | (with_reducible refine gen_boxK3 (fun u _ _ _ _ => ?_)) | (with_reducible refine gen_boxK2 (fun u _ _ _ => ?_)) | (with_reducible refine gen_boxK (fun u _ _ => ?_))); (with_reducible refine (a09_right (by omega)).mono ?_); rintro e u ⟨rfl, _⟩))
    obtain ⟨v, rfl⟩ : ∃ v : World, v = u := ⟨_, rfl⟩
    go_loopw [81] (fun i wr => ∃ (k : Nat) (A2 : Option Addr) (c2 : Nat) (S : List Int) (B2 : Option Addr) (d2 : Nat) (X : List Int), k ≤ l ∧ i = .int .i64 k ∧ Bx wr v.heap.size 26 #[.slice A2 S.length c2, .slice B2 X.length d2] ∧ Sl wr A2 S.length S ∧ Sl wr B2 X.length X ∧ Le S.length c2 ∧ Le X.length d2 ∧ S.length ≤ 1000000 ∧ Hid (tRightB S X = true) ∧ Hid (jdE side S (r.drop k) = E) ∧ Prev wr v) (fun i _ => l - (intOf i).toNat)
    case atStart => exact ⟨0, _, _, z0, _, _, x0, Nat.zero_le _, rfl, inferInstance, inferInstance, inferInstance, lz0, lx0, hz0, HR0, HJ, prev_bel _ _⟩
    case round =>
      obtain ⟨k, A2, c2, S, B2, d2, X, hk, rfl, kB, sS, sX2, lS, lX2, hS6, HR, HJk, hp⟩ := hrel
      by_cases hlt : k < l
      · obtain ⟨b', o', A1, c1, z1, B1, d1, x1, rfl, ob', q2, q3, s1, t1, hd1, i1, ht⟩ := ar.get hlt
        have hz1 := hzr.out _ (List.mem_of_getElem? ht.out)
        have lz1 := HCr.out _ (List.mem_of_getElem? ht.out)
        simp only at hz1 lz1
        replace lz1 : Le z1.length c1 := ⟨lz1⟩
        have lx1 : Le x1.length d1 := ⟨hd1⟩
        have HD : Hid (r.drop k = ⟨A1, c1, z1, B1, d1, x1⟩ :: r.drop (k + 1)) := Lib.hid (by
          obtain ⟨hkl, e⟩ := List.getElem?_eq_some_iff.1 ht.out
          rw [List.drop_eq_getElem_cons hkl, e])
        obtain ⟨V, hV⟩ : ∃ V, tjS S X z1 x1 side = V := ⟨_, rfl⟩
        obtain ⟨Y, hY⟩ : ∃ Y, tjX S X z1 x1 side = Y := ⟨_, rfl⟩
        have HS1 := Lib.hid hV
        have HX1 := Lib.hid hY
        have hjk := HJk.out
        rw [HD.out] at hjk
        rcases jdE_step HR.out hjk with ⟨hne, he⟩ | ⟨h0, hE', hrt, hj⟩
        · have HJ1 := Lib.hid he
          clear hV hY hne he hjk
          go_wp2_with (first | (go_at_call 23; (try first | (with_reducible refine gen_boxK3 (fun u _ _ _ _ => ?_)) | (with_reducible refine gen_boxK2 (fun u _ _ _ => ?_)) | (with_reducible refine gen_boxK (fun u _ _ => ?_))); (with_reducible refine (aT_join (by omega) (by omega) HJ1 HS1 HX1).mono ?_); rintro e u ⟨A', c', B', d', rfl, sA, sX, lA, lX, fA, fX, _⟩) | (go_at_call 13; (try first | (with_reducible refine gen_boxK3 (fun u _ _ _ _ => ?_)) | (with_reducible refine gen_boxK2 (fun u _ _ _ => ?_)) | (with_reducible refine gen_boxK (fun u _ _ => ?_))); (with_reducible refine (a09_awake).mono ?_); rintro e u ⟨rfl, _⟩))
          go_ret
          exact ⟨rfl, bel w _⟩
        · have HR2 := Lib.hid (tjX_right HR.out hrt hj)
          simp only at h0 hE' HR2
          have hVV : joinV S z1 side = V := by rw [← hV, tjS, if_pos h0]
          rw [hVV] at hE' HR2
          rw [hY] at HR2
          have HVL : Hid (V.length ≤ S.length) := Lib.hid (by rw [← hVV]; exact joinV_len)
          have HJ1 := Lib.hid h0
          have HE2 := Lib.hid hE'
          clear hV hY h0 hE' hrt hj hVV hjk
          go_wp2_with (first | (go_at_call 23; (try first | (with_reducible refine gen_boxK3 (fun u _ _ _ _ => ?_)) | (with_reducible refine gen_boxK2 (fun u _ _ _ => ?_)) | (with_reducible refine gen_boxK (fun u _ _ => ?_))); (with_reducible refine (aT_join (by omega) (by omega) HJ1 HS1 HX1).mono ?_); rintro e u ⟨A', c', B', d', rfl, sA, sX, lA, lX, fA, fX, _⟩))
          go_roundw
          case rel => exact ⟨k + 1, A', c', V, B', d', Y, by omega, by go_num, ⟨(Bx.blk (g := v.heap.size)).set2 _ _⟩, Sl.far2 inferInstance fA (Bx.blk (g := v.heap.size)).lt _ _, Sl.far2 inferInstance fX (Bx.blk (g := v.heap.size)).lt _ _, lA, lX, by have := HVL.out; omega, HR2, HE2, ⟨bset2 (bel v _) (p := v.heap.size) (Nat.le_refl _) _ _⟩⟩
          case measure => simp [intOf]; omega
      · have HDR : Hid (r.drop k = []) := Lib.hid (List.drop_of_length_le (by rw [HL.out]; omega))
        have := HJk.out
        rw [HDR.out] at this
        exact absurd this.symm HE0.out

end Go.Proofs.Ytingmabmglpmaaa
