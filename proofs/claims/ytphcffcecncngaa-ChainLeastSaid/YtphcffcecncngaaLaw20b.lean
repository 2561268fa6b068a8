/- athanorlaw20: right, total, small; the reference's Right. -/
import Derived.Test.YtphcffcecncngaaLaw20
namespace Go.Proofs.Ytphcffcecncngaa
open Go.RowKit

section
variable {w : World} {A B : Option Addr} {n m p q : Nat} {c : Ch} {cap : Int}
set_option maxRecDepth 100000 in
set_option maxHeartbeats 4000000 in
theorem a2_right {z : Int} : Calls Try.prog 57 #[.int .i64 z] w (RetV w (.bool (costB z))) := by
  have CB := @cell_bx
  have CP := @cell_prev
  by_cases h1 : 0 ≤ z
  · by_cases h2 : z ≤ 1099511627776
    · have HT : Hid (costB z = true) := Lib.hid (by unfold costB; rw [decide_eq_true h1, decide_eq_true h2]; rfl)
      go_enter Try.func57, Try.ntmps57
      go_wp2_with fail
      go_ret
      exact ⟨by rw [HT.out]; rfl, prev_bel _ _⟩
    · have HT : Hid (costB z = false) := Lib.hid (by unfold costB; rw [decide_eq_true h1, decide_eq_false h2]; rfl)
      go_enter Try.func57, Try.ntmps57
      go_wp2_with fail
      go_ret
      exact ⟨by rw [HT.out]; rfl, prev_bel _ _⟩
  · have HT : Hid (costB z = false) := Lib.hid (by unfold costB; rw [decide_eq_false h1]; rfl)
    go_enter Try.func57, Try.ntmps57
    go_wp2_with fail
    go_ret
    exact ⟨by rw [HT.out]; rfl, prev_bel _ _⟩
set_option maxRecDepth 100000 in
set_option maxHeartbeats 4000000 in
theorem a20_right [a : Sl w A n c.W] [b : Sl w B m c.K] : Calls Try.prog 19 #[.agg #[.slice A n p, .slice B m q]] w (RetV w (.bool c.okB)) := by
  have CB := @cell_bx
  have CP := @cell_prev
  have HL := Lib.hid a.len
  have HL' : Hid (m = c.n) := Lib.hid b.len
  by_cases h1 : 1 ≤ m
  rotate_left
  · have HN : Hid (c.okB = false) := Lib.hid (by unfold Ch.okB; rw [← HL'.out, decide_eq_false h1]; rfl)
    go_enter Try.func19, Try.ntmps19
    go_wp2_with fail
    go_ret
    exact ⟨by rw [HN.out]; rfl, prev_bel _ _⟩
  by_cases h2 : m ≤ 64
  rotate_left
  · have HN : Hid (c.okB = false) := Lib.hid (by unfold Ch.okB; rw [← HL'.out, decide_eq_false h2]; simp)
    go_enter Try.func19, Try.ntmps19
    go_wp2_with fail
    go_ret
    exact ⟨by rw [HN.out]; rfl, prev_bel _ _⟩
  by_cases h3 : n = m + 1
  rotate_left
  · have HN : Hid (c.okB = false) := Lib.hid (by unfold Ch.okB; rw [← HL'.out, ← HL.out, decide_eq_false h3]; simp)
    have e : ((n : Int) != (m : Int) + 1) = true := by rw [bne_iff_ne]; omega
    clear h3
    go_enter Try.func19, Try.ntmps19
    go_wp2_with fail
    go_ret
    exact ⟨by rw [HN.out]; rfl, prev_bel _ _⟩
  subst h3
  have HS : Hid (c.okB = (c.W.all wB && c.K.all costB)) := Lib.hid (by
    unfold Ch.okB
    rw [← HL'.out, ← HL.out, decide_eq_true h1, decide_eq_true h2, decide_eq_true rfl]
    simp)
  go_enter Try.func19, Try.ntmps19
  go_wp2_with fail
  go_loopw [28] (fun i wr => ∃ k : Nat, k ≤ m + 1 ∧ i = .int .i64 k ∧ Hid ((c.W.take k).all wB = true) ∧ Bx wr w.heap.size 24 #[.slice A (m + 1) p, .slice B m q] ∧ Prev wr w) (fun i _ => m + 1 - (intOf i).toNat)
  case atStart => exact ⟨0, Nat.zero_le _, rfl, Lib.hid rfl, inferInstance, prev_bel _ _⟩
  case round =>
    obtain ⟨k, hk, rfl, HV, hx, hp⟩ := hrel
    by_cases hlt : k < m + 1
    · obtain ⟨b1, o1, z, rfl, ob1, v1, e1⟩ := a.get hlt
      by_cases hz1 : 1 ≤ z
      rotate_left
      · have HN : Hid (c.W.all wB = false) := Lib.hid (all_bad e1.out (by simp [wB]; omega))
        go_wp2_with fail
        go_ret
        exact ⟨by rw [HS.out, HN.out]; rfl, prev_bel _ _⟩
      by_cases hz2 : z ≤ 65536
      rotate_left
      · have HN : Hid (c.W.all wB = false) := Lib.hid (all_bad e1.out (by simp [wB]; omega))
        go_wp2_with fail
        go_ret
        exact ⟨by rw [HS.out, HN.out]; rfl, prev_bel _ _⟩
      have HV2 := Lib.hid (all_take HV.out e1.out (by simp [wB]; omega))
      clear e1
      go_wp2_with fail
      go_roundw
      case rel => exact ⟨k + 1, by omega, by go_num, HV2, inferInstance, prev_bel _ _⟩
      case measure => simp [intOf]; omega
    · have HW : Hid (c.okB = c.K.all costB) := Lib.hid (by rw [HS.out, all_end HV.out (by rw [← HL.out]; omega), Bool.true_and])
      obtain ⟨v, rfl⟩ : ∃ v : World, v = wr := ⟨_, rfl⟩
      go_wp2_with fail
      go_loopw [42] (fun i wr => ∃ k : Nat, k ≤ m ∧ i = .int .i64 k ∧ Hid ((c.K.take k).all costB = true) ∧ Prev wr v) (fun i _ => m - (intOf i).toNat)
      case atStart => exact ⟨0, Nat.zero_le _, rfl, Lib.hid rfl, prev_bel _ _⟩
      case round =>
        obtain ⟨k, hk, rfl, HV, hp⟩ := hrel
        by_cases hlt : k < m
        · obtain ⟨b1, o1, z, rfl, ob1, v1, e1⟩ := b.get hlt
          rcases hz : costB z with _ | _
          · have HN : Hid (c.K.all costB = false) := Lib.hid (all_bad e1.out hz)
            go_wp2_with (first | (go_at_call 57; (try first | (with_reducible refine gen_boxK3 (fun u _ _ _ _ => ?_)) | (with_reducible refine gen_boxK2 (fun u _ _ _ => ?_)) | (with_reducible refine gen_boxK (fun u _ _ => ?_))); (with_reducible refine (a2_right).mono ?_); rintro e u ⟨rfl, _⟩))
            go_ret
            exact ⟨by rw [HW.out, HN.out]; rfl, prev_bel _ _⟩
          have HV2 := Lib.hid (all_take HV.out e1.out hz)
          clear e1
          go_wp2_with (first | (go_at_call 57; (try first | (with_reducible refine gen_boxK3 (fun u _ _ _ _ => ?_)) | (with_reducible refine gen_boxK2 (fun u _ _ _ => ?_)) | (with_reducible refine gen_boxK (fun u _ _ => ?_))); (with_reducible refine (a2_right).mono ?_); rintro e u ⟨rfl, _⟩))
          go_roundw
          case rel => exact ⟨k + 1, by omega, by go_num, HV2, prev_bel _ _⟩
          case measure => simp [intOf]; omega
        · have HX : Hid (c.okB = true) := Lib.hid (by rw [HW.out]; exact all_end HV.out (by show c.n ≤ k; rw [← HL'.out]; omega))
          go_wp2_with fail
          go_ret
          exact ⟨by rw [HX.out]; rfl, prev_bel _ _⟩
set_option maxRecDepth 100000 in
set_option maxHeartbeats 4000000 in
theorem a20_total (hok : Hid c.Ok) [b : Sl w B m c.K] : Calls Try.prog 20 #[.agg #[.slice A n p, .slice B m q]] w (RetV w (.int .i64 (c.cs 0 c.n))) := by
  have CB := @cell_bx
  have CP := @cell_prev
  have hk := hok.out
  have HL' : Hid (m = c.n) := Lib.hid b.len
  have hm : m ≤ 64 := by rw [HL'.out]; exact hk.n2
  have HS : Hid (∀ j : Nat, j ≤ 64 → 0 ≤ c.cs 0 j ∧ c.cs 0 j ≤ 70368744177664) := Lib.hid fun j hj => ⟨hk.cs_0 0 j, by have := hk.cs_2 0 j; omega⟩
  have HK : Hid (∀ j, c.cs 0 (j + 1) = c.cs 0 j + c.k j) := Lib.hid fun j => by rw [Ch.cs, Nat.zero_add]
  have HZ : Hid (∀ j, 0 ≤ c.k j ∧ c.k j ≤ 1099511627776) := Lib.hid fun j => ⟨hk.k_0 j, hk.k_2 j⟩
  clear hk
  go_enter Try.func20, Try.ntmps20
  go_upto_region 2 with fail
  refine gen_box1C (fun u _ _ => ?_)
  go_wp2_with fail
  go_loopw [3, 9] (fun s i wr => ∃ (k : Nat) (S : Int), k ≤ m ∧ i = .int .i64 k ∧ s = .int .i64 S ∧ Hid (c.cs 0 k = S) ∧ Prev wr u) (fun _ i _ => m - (intOf i).toNat)
  case atStart => exact ⟨0, 0, Nat.zero_le _, rfl, rfl, Lib.hid rfl, prev_bel _ _⟩
  case round =>
    obtain ⟨k, S, hk, rfl, rfl, HV, hp⟩ := hrel
    by_cases hlt : k < m
    · obtain ⟨b1, o1, z, rfl, ob1, v1, e1⟩ := b.get hlt
      obtain ⟨s1, s2⟩ := HS.out k (by omega)
      rw [HV.out] at s1 s2
      have HN : Hid (c.cs 0 (k + 1) = S + z) := Lib.hid (by rw [HK.out, HV.out, Ch.k_of e1.out])
      obtain ⟨z1, z2⟩ := HZ.out k
      rw [Ch.k_of e1.out] at z1 z2
      have hw : IntKind.i64.wrap (S + z) = S + z := by rw [IntKind.wrap_i64]; omega
      clear e1
      go_wp2_with fail
      go_roundw
      case rel => exact ⟨k + 1, S + z, by omega, by go_num, rfl, HN, prev_bel _ _⟩
      case measure => simp [intOf]; omega
    · have HX : Hid (c.cs 0 c.n = S) := Lib.hid (by rw [← HV.out, ← HL'.out, show k = m from by omega])
      go_wp2_with fail
      go_ret
      exact ⟨by rw [HX.out]; rfl, prev_bel _ _⟩
/-- May a chain be planned here? -/
def Ch.smallB (c : Ch) (cap : Int) : Bool := c.okB && decide (c.n ≤ 14) && decide (0 ≤ cap) && decide (cap ≤ 200)
set_option maxRecDepth 100000 in
set_option maxHeartbeats 4000000 in
theorem a20_small [a : Sl w A n c.W] [b : Sl w B m c.K] : Calls Try.prog 13 #[.agg #[.slice A n p, .slice B m q], .int .i64 cap] w (RetV w (.bool (c.smallB cap))) := by
  have CB := @cell_bx
  have CP := @cell_prev
  have HL' : Hid (m = c.n) := Lib.hid b.len
  rcases h0 : c.okB with _ | _
  · have HT : Hid (c.smallB cap = false) := Lib.hid (by unfold Ch.smallB; rw [h0]; rfl)
    go_enter Try.func13, Try.ntmps13
    go_wp2_with (first | (go_at_call 19; (try first | (with_reducible refine gen_boxK3 (fun u _ _ _ _ => ?_)) | (with_reducible refine gen_boxK2 (fun u _ _ _ => ?_)) | (with_reducible refine gen_boxK (fun u _ _ => ?_))); (with_reducible refine (a20_right).mono ?_); rintro e u ⟨rfl, _⟩))
    go_ret
    exact ⟨by rw [HT.out]; rfl, prev_bel _ _⟩
  by_cases h1 : m ≤ 14
  rotate_left
  · have HT : Hid (c.smallB cap = false) := Lib.hid (by unfold Ch.smallB; rw [h0, ← HL'.out, decide_eq_false h1]; rfl)
    go_enter Try.func13, Try.ntmps13
    go_wp2_with (first | (go_at_call 19; (try first | (with_reducible refine gen_boxK3 (fun u _ _ _ _ => ?_)) | (with_reducible refine gen_boxK2 (fun u _ _ _ => ?_)) | (with_reducible refine gen_boxK (fun u _ _ => ?_))); (with_reducible refine (a20_right).mono ?_); rintro e u ⟨rfl, _⟩))
    go_ret
    exact ⟨by rw [HT.out]; rfl, prev_bel _ _⟩
  by_cases h2 : 0 ≤ cap
  rotate_left
  · have HT : Hid (c.smallB cap = false) := Lib.hid (by unfold Ch.smallB; rw [h0, ← HL'.out, decide_eq_true h1, decide_eq_false h2]; rfl)
    go_enter Try.func13, Try.ntmps13
    go_wp2_with (first | (go_at_call 19; (try first | (with_reducible refine gen_boxK3 (fun u _ _ _ _ => ?_)) | (with_reducible refine gen_boxK2 (fun u _ _ _ => ?_)) | (with_reducible refine gen_boxK (fun u _ _ => ?_))); (with_reducible refine (a20_right).mono ?_); rintro e u ⟨rfl, _⟩))
    go_ret
    exact ⟨by rw [HT.out]; rfl, prev_bel _ _⟩
  have HT : Hid (c.smallB cap = decide (cap ≤ 200)) := Lib.hid (by unfold Ch.smallB; rw [h0, ← HL'.out, decide_eq_true h1, decide_eq_true h2]; rfl)
  go_enter Try.func13, Try.ntmps13
  go_wp2_with (first | (go_at_call 19; (try first | (with_reducible refine gen_boxK3 (fun u _ _ _ _ => ?_)) | (with_reducible refine gen_boxK2 (fun u _ _ _ => ?_)) | (with_reducible refine gen_boxK (fun u _ _ => ?_))); (with_reducible refine (a20_right).mono ?_); rintro e u ⟨rfl, _⟩))
  go_ret
  exact ⟨by rw [HT.out]; rfl, prev_bel _ _⟩
end
end Go.Proofs.Ytphcffcecncngaa
