/- The walk of the statement MoveParts. -/
import Derived.Test.YtingmabmglpmaaaMoveTurns
import Derived.Test.YtingmabmglpmaaaMoveMath3
namespace Go.Proofs.Ytingmabmglpmaaa
open Go.RowKit

set_option maxRecDepth 100000 in
set_option maxHeartbeats 8000000 in
theorem moveParts_calls (side : Int) (B C A : Option Addr) (d e' c : Nat) (zg xg : List Int) (us : List Tn) (w : World) (h : TensW w A c us) (iB : IntsIn w B d zg) (iC : IntsIn w C e' xg) (lB : zg.length ≤ reach8) (lC : xg.length ≤ reach8) :
    Calls Try.prog 3 #[.int .i64 side, .agg #[.slice B zg.length d, .slice C xg.length e'], .slice A us.length c] w (LawTrue w) := by
  obtain ⟨N, hN⟩ : ∃ N, us.length = N := ⟨_, rfl⟩
  have hn := h.len
  have hcap := h.cap
  rw [hN] at hn hcap ⊢
  have a : Ts w A N us := ⟨h.rd, hN.symm⟩
  have lc : Le N c := ⟨hcap⟩
  have HN := Lib.hid hN
  have HB := Lib.hid h.big
  have sB : Sl w B zg.length zg := ⟨iB.rd, rfl⟩
  have sC : Sl w C xg.length xg := ⟨iC.rd, rfl⟩
  have ig : I6s xg := iC.i6
  have lg : Le xg.length e' := ⟨iC.2.1⟩
  have HG : Hid (∀ t ∈ [(⟨B, d, zg, C, e', xg⟩ : Tn)], t.zs.length ≤ 17592186043904 ∧ t.xs.length ≤ 17592186043904) := Lib.hid fun t ht => by
    simp at ht
    subst ht
    exact ⟨lB, lC⟩
  clear h hN hcap iB iC lB lC
  have CB := @cell_bx
  have CP := @cell_prev
  rcases hs : decide (sumT us ≤ 900) with _ | _
  · go_enter Try.func3, Try.ntmps3
    go_wp2_with (first | (go_at_call 12; (try first | (with_reducible refine gen_boxK3 (fun u _ _ _ _ => ?_)) | (with_reducible refine gen_boxK2 (fun u _ _ _ => ?_)) | (with_reducible refine gen_boxK (fun u _ _ => ?_))); (with_reducible refine (a09_small (by omega) HB).mono ?_); rintro e u ⟨rfl, _⟩) | (go_at_call 13; (try first | (with_reducible refine gen_boxK3 (fun u _ _ _ _ => ?_)) | (with_reducible refine gen_boxK2 (fun u _ _ _ => ?_)) | (with_reducible refine gen_boxK (fun u _ _ => ?_))); (with_reducible refine (a09_awake).mono ?_); rintro e u ⟨rfl, _⟩))
    go_ret
    exact ⟨rfl, bel w _⟩
  rcases hsg : decide (sumT [(⟨B, d, zg, C, e', xg⟩ : Tn)] ≤ 900) with _ | _
  · go_enter Try.func3, Try.ntmps3
    go_wp2_with (first | (go_at_call 12; (try first | (with_reducible refine gen_boxK3 (fun u _ _ _ _ => ?_)) | (with_reducible refine gen_boxK2 (fun u _ _ _ => ?_)) | (with_reducible refine gen_boxK (fun u _ _ => ?_))); (with_reducible refine (a09_small (by omega) HB).mono ?_); rintro e u ⟨rfl, _⟩) | (go_at_call 12; (try first | (with_reducible refine gen_boxK3 (fun u _ _ _ _ => ?_)) | (with_reducible refine gen_boxK2 (fun u _ _ _ => ?_)) | (with_reducible refine gen_boxK (fun u _ _ => ?_))); (with_reducible refine (a09_small (by omega) HG).mono ?_); rintro e u ⟨rfl, _⟩) | (go_at_call 13; (try first | (with_reducible refine gen_boxK3 (fun u _ _ _ _ => ?_)) | (with_reducible refine gen_boxK2 (fun u _ _ _ => ?_)) | (with_reducible refine gen_boxK (fun u _ _ => ?_))); (with_reducible refine (a09_awake).mono ?_); rintro e u ⟨rfl, _⟩))
    go_ret
    exact ⟨rfl, bel w _⟩
  by_cases h12 : 12 < N
  · go_enter Try.func3, Try.ntmps3
    go_wp2_with (first | (go_at_call 12; (try first | (with_reducible refine gen_boxK3 (fun u _ _ _ _ => ?_)) | (with_reducible refine gen_boxK2 (fun u _ _ _ => ?_)) | (with_reducible refine gen_boxK (fun u _ _ => ?_))); (with_reducible refine (a09_small (by omega) HB).mono ?_); rintro e u ⟨rfl, _⟩) | (go_at_call 12; (try first | (with_reducible refine gen_boxK3 (fun u _ _ _ _ => ?_)) | (with_reducible refine gen_boxK2 (fun u _ _ _ => ?_)) | (with_reducible refine gen_boxK (fun u _ _ => ?_))); (with_reducible refine (a09_small (by omega) HG).mono ?_); rintro e u ⟨rfl, _⟩) | (go_at_call 13; (try first | (with_reducible refine gen_boxK3 (fun u _ _ _ _ => ?_)) | (with_reducible refine gen_boxK2 (fun u _ _ _ => ?_)) | (with_reducible refine gen_boxK (fun u _ _ => ?_))); (with_reducible refine (a09_awake).mono ?_); rintro e u ⟨rfl, _⟩))
    go_ret
    exact ⟨rfl, bel w _⟩
  have hsum : sumT us ≤ 900 := by simpa using hs
  have hsumg : sumT [(⟨B, d, zg, C, e', xg⟩ : Tn)] ≤ 900 := by simpa using hsg
  simp [sumT] at hsumg
  have k3 : zg.length ≤ 900 := by omega
  have k4 : xg.length ≤ 900 := by omega
  have hz : Hid (∀ t ∈ us, t.zs.length ≤ 1000000) := Lib.hid fun t ht => by have := sumT_mem ht; omega
  clear hsum hsumg
  obtain ⟨E, hEE⟩ : ∃ E, jnE side us = E := ⟨_, rfl⟩
  have hE := Lib.hid hEE
  clear hEE
  by_cases he0 : E = 0
  rotate_left
  · have e0 : (E != 0) = true := by simp [he0]
    clear he0
    go_enter Try.func3, Try.ntmps3
    go_wp2_with (first | (go_at_call 12; (try first | (with_reducible refine gen_boxK3 (fun u _ _ _ _ => ?_)) | (with_reducible refine gen_boxK2 (fun u _ _ _ => ?_)) | (with_reducible refine gen_boxK (fun u _ _ => ?_))); (with_reducible refine (a09_small (by omega) HB).mono ?_); rintro e u ⟨rfl, _⟩) | (go_at_call 12; (try first | (with_reducible refine gen_boxK3 (fun u _ _ _ _ => ?_)) | (with_reducible refine gen_boxK2 (fun u _ _ _ => ?_)) | (with_reducible refine gen_boxK (fun u _ _ => ?_))); (with_reducible refine (a09_small (by omega) HG).mono ?_); rintro e u ⟨rfl, _⟩) | (go_at_call 14; (try first | (with_reducible refine gen_boxK3 (fun u _ _ _ _ => ?_)) | (with_reducible refine gen_boxK2 (fun u _ _ _ => ?_)) | (with_reducible refine gen_boxK (fun u _ _ => ?_))); (with_reducible refine (mv_join_no (by omega) hz hE e0).mono ?_); rintro e u ⟨A', c', B', d', rfl, sA, sX, lA, lX, fA, fX, _⟩) | (go_at_call 15; (try first | (with_reducible refine gen_boxK3 (fun u _ _ _ _ => ?_)) | (with_reducible refine gen_boxK2 (fun u _ _ _ => ?_)) | (with_reducible refine gen_boxK (fun u _ _ => ?_))); (with_reducible refine (mv_joinback_no (by omega) (by omega) hz hE e0).mono ?_); rintro e u ⟨rfl, _⟩) | (go_at_call 13; (try first | (with_reducible refine gen_boxK3 (fun u _ _ _ _ => ?_)) | (with_reducible refine gen_boxK2 (fun u _ _ _ => ?_)) | (with_reducible refine gen_boxK (fun u _ _ => ?_))); (with_reducible refine (a09_awake).mono ?_); rintro e u ⟨rfl, _⟩))
    go_ret
    exact ⟨rfl, bel w _⟩
  subst he0
  obtain ⟨nn, P, I, Z, rfl, hjw, -, hall, hZI, hF⟩ := jn_nats hE.out
  obtain ⟨S0, hS0⟩ : ∃ S0, S0 = jnS nn us := ⟨_, rfl⟩
  obtain ⟨X0, hX0⟩ : ∃ X0, X0 = mvX P us P := ⟨_, rfl⟩
  rw [← hS0] at hjw hall
  have HJW := Lib.hid hjw
  have HS0 := Lib.hid hS0
  have HX0 := Lib.hid hX0
  have HP : Hid (P * rowS P us ≤ 65536) := Lib.hid (by rw [← hZI]; exact hjw.small)
  have HALL : Hid (∀ t ∈ us, P * (t.xs.length / P) = t.xs.length ∧ t.xs.length ≤ 65536) := Lib.hid fun t ht => (hall t ht).2.1.div (hall t ht).1
  have HA2 := Lib.hid hall
  have HF := Lib.hid hF
  have hS4 : S0.length ≤ 1000000 := by have := ((rightB_iff S0).1 hjw.right).2.1; omega
  clear hjw hall hZI hF hS0 hX0
  rcases hr : tRightB zg xg with _ | _
  · have hno : (tRightB zg xg && decide (zg = S0)) = false := by simp [hr]
    go_enter Try.func3, Try.ntmps3
    go_wp2_with (first | (go_at_call 12; (try first | (with_reducible refine gen_boxK3 (fun u _ _ _ _ => ?_)) | (with_reducible refine gen_boxK2 (fun u _ _ _ => ?_)) | (with_reducible refine gen_boxK (fun u _ _ => ?_))); (with_reducible refine (a09_small (by omega) HB).mono ?_); rintro e u ⟨rfl, _⟩) | (go_at_call 12; (try first | (with_reducible refine gen_boxK3 (fun u _ _ _ _ => ?_)) | (with_reducible refine gen_boxK2 (fun u _ _ _ => ?_)) | (with_reducible refine gen_boxK (fun u _ _ => ?_))); (with_reducible refine (a09_small (by omega) HG).mono ?_); rintro e u ⟨rfl, _⟩) | (go_at_call 14; (try first | (with_reducible refine gen_boxK3 (fun u _ _ _ _ => ?_)) | (with_reducible refine gen_boxK2 (fun u _ _ _ => ?_)) | (with_reducible refine gen_boxK (fun u _ _ => ?_))); (with_reducible refine (mv_join_yes (by omega) hz hE HJW HS0 HX0 HP HALL).mono ?_); rintro e u ⟨A', c', B', d', rfl, sA, sX, lA, lX, fA, fX, _⟩) | (go_at_call 15; (try first | (with_reducible refine gen_boxK3 (fun u _ _ _ _ => ?_)) | (with_reducible refine gen_boxK2 (fun u _ _ _ => ?_)) | (with_reducible refine gen_boxK (fun u _ _ => ?_))); (with_reducible refine (mv_joinback_shape (by omega) (by omega) hz hE HS0 hS4 hno).mono ?_); rintro e u ⟨rfl, _⟩) | (go_at_call 16; (try first | (with_reducible refine gen_boxK3 (fun u _ _ _ _ => ?_)) | (with_reducible refine gen_boxK2 (fun u _ _ _ => ?_)) | (with_reducible refine gen_boxK (fun u _ _ => ?_))); (with_reducible refine (a09_right (by omega)).mono ?_); rintro e u ⟨rfl, _⟩) | (go_at_call 13; (try first | (with_reducible refine gen_boxK3 (fun u _ _ _ _ => ?_)) | (with_reducible refine gen_boxK2 (fun u _ _ _ => ?_)) | (with_reducible refine gen_boxK (fun u _ _ => ?_))); (with_reducible refine (a09_awake).mono ?_); rintro e u ⟨rfl, _⟩))
    go_ret
    exact ⟨rfl, bel w _⟩
  rcases hs0 : decide (zg = S0) with _ | _
  · have hno : (tRightB zg xg && decide (zg = S0)) = false := by simp [hs0]
    go_enter Try.func3, Try.ntmps3
    go_wp2_with (first | (go_at_call 12; (try first | (with_reducible refine gen_boxK3 (fun u _ _ _ _ => ?_)) | (with_reducible refine gen_boxK2 (fun u _ _ _ => ?_)) | (with_reducible refine gen_boxK (fun u _ _ => ?_))); (with_reducible refine (a09_small (by omega) HB).mono ?_); rintro e u ⟨rfl, _⟩) | (go_at_call 12; (try first | (with_reducible refine gen_boxK3 (fun u _ _ _ _ => ?_)) | (with_reducible refine gen_boxK2 (fun u _ _ _ => ?_)) | (with_reducible refine gen_boxK (fun u _ _ => ?_))); (with_reducible refine (a09_small (by omega) HG).mono ?_); rintro e u ⟨rfl, _⟩) | (go_at_call 14; (try first | (with_reducible refine gen_boxK3 (fun u _ _ _ _ => ?_)) | (with_reducible refine gen_boxK2 (fun u _ _ _ => ?_)) | (with_reducible refine gen_boxK (fun u _ _ => ?_))); (with_reducible refine (mv_join_yes (by omega) hz hE HJW HS0 HX0 HP HALL).mono ?_); rintro e u ⟨A', c', B', d', rfl, sA, sX, lA, lX, fA, fX, _⟩) | (go_at_call 15; (try first | (with_reducible refine gen_boxK3 (fun u _ _ _ _ => ?_)) | (with_reducible refine gen_boxK2 (fun u _ _ _ => ?_)) | (with_reducible refine gen_boxK (fun u _ _ => ?_))); (with_reducible refine (mv_joinback_shape (by omega) (by omega) hz hE HS0 hS4 hno).mono ?_); rintro e u ⟨rfl, _⟩) | (go_at_call 16; (try first | (with_reducible refine gen_boxK3 (fun u _ _ _ _ => ?_)) | (with_reducible refine gen_boxK2 (fun u _ _ _ => ?_)) | (with_reducible refine gen_boxK (fun u _ _ => ?_))); (with_reducible refine (a09_right (by omega)).mono ?_); rintro e u ⟨rfl, _⟩) | (go_at_call 17; (try first | (with_reducible refine gen_boxK3 (fun u _ _ _ _ => ?_)) | (with_reducible refine gen_boxK2 (fun u _ _ _ => ?_)) | (with_reducible refine gen_boxK (fun u _ _ => ?_))); (with_reducible refine (a03_same (by omega) (by omega)).mono ?_); rintro e u ⟨rfl, _⟩) | (go_at_call 13; (try first | (with_reducible refine gen_boxK3 (fun u _ _ _ _ => ?_)) | (with_reducible refine gen_boxK2 (fun u _ _ _ => ?_)) | (with_reducible refine gen_boxK (fun u _ _ => ?_))); (with_reducible refine (a09_awake).mono ?_); rintro e u ⟨rfl, _⟩))
    go_ret
    exact ⟨rfl, bel w _⟩
  obtain rfl : zg = S0 := of_decide_eq_true hs0
  clear hs0
  go_enter Try.func3, Try.ntmps3
  go_wp2_with (first | (go_at_call 12; (try first | (with_reducible refine gen_boxK3 (fun u _ _ _ _ => ?_)) | (with_reducible refine gen_boxK2 (fun u _ _ _ => ?_)) | (with_reducible refine gen_boxK (fun u _ _ => ?_))); (with_reducible refine (a09_small (by omega) HB).mono ?_); rintro e u ⟨rfl, _⟩) | (go_at_call 12; (try first | (with_reducible refine gen_boxK3 (fun u _ _ _ _ => ?_)) | (with_reducible refine gen_boxK2 (fun u _ _ _ => ?_)) | (with_reducible refine gen_boxK (fun u _ _ => ?_))); (with_reducible refine (a09_small (by omega) HG).mono ?_); rintro e u ⟨rfl, _⟩) | (go_at_call 14; (try first | (with_reducible refine gen_boxK3 (fun u _ _ _ _ => ?_)) | (with_reducible refine gen_boxK2 (fun u _ _ _ => ?_)) | (with_reducible refine gen_boxK (fun u _ _ => ?_))); (with_reducible refine (mv_join_yes (by omega) hz hE HJW HS0 HX0 HP HALL).mono ?_); rintro e u ⟨A', c', B', d', rfl, sA, sX, lA, lX, fA, fX, _⟩) | (go_at_call 15; (try first | (with_reducible refine gen_boxK3 (fun u _ _ _ _ => ?_)) | (with_reducible refine gen_boxK2 (fun u _ _ _ => ?_)) | (with_reducible refine gen_boxK (fun u _ _ => ?_))); (with_reducible refine (mv_joinback_yes (by omega) hz hE HJW HS0 hr HA2 HF).mono ?_); rintro e u ⟨G, ps, rfl, sPS, HPS, _⟩) | (go_at_call 16; (try first | (with_reducible refine gen_boxK3 (fun u _ _ _ _ => ?_)) | (with_reducible refine gen_boxK2 (fun u _ _ _ => ?_)) | (with_reducible refine gen_boxK (fun u _ _ => ?_))); (with_reducible refine (a09_right (by omega)).mono ?_); rintro e u ⟨rfl, _⟩) | (go_at_call 17; (try first | (with_reducible refine gen_boxK3 (fun u _ _ _ _ => ?_)) | (with_reducible refine gen_boxK2 (fun u _ _ _ => ?_)) | (with_reducible refine gen_boxK (fun u _ _ => ?_))); (with_reducible refine (a03_sameT (by omega) (by omega)).mono ?_); rintro e u ⟨rfl, _⟩))
  have HPL : Hid (ps.length = us.length) := Lib.hid (by rw [HN.out]; exact sPS.len.symm)
  have HAG := Lib.hid (HPS.out.again HPL.out hE.out HJW.out HS0.out hr HA2.out HF.out)
  go_loopw [87] (fun i wr => ∃ k : Nat, k ≤ N ∧ i = .int .i64 k ∧ Prev wr u) (fun i _ => N - (intOf i).toNat)
  case atStart => exact ⟨0, Nat.zero_le _, rfl, prev_bel _ _⟩
  case round =>
    obtain ⟨k, hk, rfl, hp⟩ := hrel
    by_cases hlt : k < N
    · obtain ⟨b1, o1, A1, c1, z1, B1, d1, x1, rfl, ob1, q0, q1, s1, t1, -, -, h1⟩ := a.get hlt
      obtain ⟨b2, o2, A2, c2, z2, B2, d2, x2, e2, ob2, q2, q3, s2, t2, -, -, h2⟩ := sPS.get hlt
      injection e2 with e2
      injection e2 with e2 e2'
      subst e2 e2'
      obtain rfl : z2 = z1 := (HPS.out.el k _ _ h2.out h1.out).1
      have hz1 := hz.out _ (List.mem_of_getElem? h1.out)
      simp only at hz1
      simp only [Nat.zero_add] at q2 q3
      clear h1 h2
      go_wp2_with fail
      refine wp_region_up0 (by kernel_rfl) (fun vz _ => ?_)
      refine wpAnyH_on (i := 0) (d := 90) (v := ?_) rfl rfl (by kernel_rfl) (by kernel_rfl) (by kernel_rfl) (fun _ _ _ h => h) (by kernel_rfl) (prev_bel _ _) ?_ ?_
      rotate_left
      · intro uu (pu : Prev uu _)
        go_simp
        try (with_reducible rfl)
      try simp only [List.set]
      refine wpAnyH_on (i := 1) (d := 91) (v := ?_) rfl rfl (by kernel_rfl) (by kernel_rfl) (by kernel_rfl) (fun _ _ _ h => h) (by kernel_rfl) (prev_bel _ _) ?_ ?_
      rotate_left
      · intro uu (pu : Prev uu _)
        go_simp
        try (with_reducible rfl)
      try simp only [List.set]
      refine wpAnyH_on (i := 2) (d := 92) (v := ?_) rfl rfl (by kernel_rfl) (by kernel_rfl) (by kernel_rfl) (fun _ _ _ h => h) (by kernel_rfl) (prev_bel _ _) ?_ ?_
      rotate_left
      · intro uu (pu : Prev uu _)
        go_simp
        try (with_reducible rfl)
      try simp only [List.set]
      refine wpAnyH_on (i := 3) (d := 93) (v := ?_) rfl rfl (by kernel_rfl) (by kernel_rfl) (by kernel_rfl) (fun _ _ _ h => h) (by kernel_rfl) (prev_bel _ _) ?_ ?_
      rotate_left
      · intro uu (pu : Prev uu _)
        go_simp
        try (with_reducible rfl)
      try simp only [List.set]
      refine wpAnyH_on (i := 4) (d := 94) (v := ?_) rfl rfl (by kernel_rfl) (by kernel_rfl) (by kernel_rfl) (fun _ _ _ h => h) (by kernel_rfl) (prev_bel _ _) ?_ ?_
      rotate_left
      · intro uu (pu : Prev uu _)
        go_simp
        try (with_reducible rfl)
      try simp only [List.set]
      refine wpAnyH_on (i := 5) (d := 95) (v := ?_) rfl rfl (by kernel_rfl) (by kernel_rfl) (by kernel_rfl) (fun _ _ _ h => h) (by kernel_rfl) (prev_bel _ _) ?_ ?_
      rotate_left
      · intro uu (pu : Prev uu _)
        go_simp
        try (with_reducible rfl)
      try simp only [List.set]
      refine wpAnyH_on (i := 6) (d := 96) (v := ?_) rfl rfl (by kernel_rfl) (by kernel_rfl) (by kernel_rfl) (fun _ _ _ h => h) (by kernel_rfl) (prev_bel _ _) ?_ ?_
      rotate_left
      · intro uu (pu : Prev uu _)
        go_simp
        try (with_reducible rfl)
      try simp only [List.set]
      refine wpAnyH_on (i := 7) (d := 97) (v := ?_) rfl rfl (by kernel_rfl) (by kernel_rfl) (by kernel_rfl) (fun _ _ _ h => h) (by kernel_rfl) (prev_bel _ _) ?_ ?_
      rotate_left
      · intro uu (pu : Prev uu _)
        go_simp
        try (with_reducible rfl)
      try simp only [List.set]
      refine wpAnyH_on (i := 8) (d := 98) (v := ?_) rfl rfl (by kernel_rfl) (by kernel_rfl) (by kernel_rfl) (fun _ _ _ h => h) (by kernel_rfl) (prev_bel _ _) ?_ ?_
      rotate_left
      · intro uu (pu : Prev uu _)
        go_simp
        try (with_reducible rfl)
      try simp only [List.set]
      refine wpAnyH_on (i := 9) (d := 99) (v := ?_) rfl rfl (by kernel_rfl) (by kernel_rfl) (by kernel_rfl) (fun _ _ _ h => h) (by kernel_rfl) (prev_bel _ _) ?_ ?_
      rotate_left
      · intro uu (pu : Prev uu _)
        go_simp
        try (with_reducible rfl)
      try simp only [List.set]
      refine wpAnyH_ready (rs := [10]) (by kernel_rfl) (by simp) ?_
      refine AllReadyH.cons rfl (fun K hK => ?_) AllReadyH.nil
      go_simp
      (with_reducible refine (a03_sameT (by omega) (by omega)).mono ?_)
      rintro e vz ⟨rfl, _⟩
      dsimp only
      refine hK.out _ _ (prev_bel _ _) (fun hHeld => ?_)
      clear hHeld hK K
      try dsimp only [Act.put, List.setIfInBounds_toArray, List.set_cons_zero, List.set_cons_succ]
      refine wpAnyH_on (i := 11) (d := 101) (v := ?_) rfl rfl (by kernel_rfl) (by kernel_rfl) (by kernel_rfl) (fun _ _ _ h => h) (by kernel_rfl) (prev_bel _ _) ?_ ?_
      rotate_left
      · intro uu (pu : Prev uu _)
        go_simp
        try (with_reducible rfl)
      try simp only [List.set]
      refine wpAnyH_done (by kernel_rfl) ?_ _
      go_wp2_with fail
      go_roundw
      case rel => exact ⟨k + 1, by omega, by go_num, prev_bel _ _⟩
      case measure => simp [intOf]; omega
    · have hzp : Hid (∀ t ∈ ps, t.zs.length ≤ 1000000) := Lib.hid fun p hp => by
        obtain ⟨j, hj⟩ := List.mem_iff_getElem?.1 hp
        obtain ⟨t, ht⟩ : ∃ t, us[j]? = some t := ⟨_, List.getElem?_eq_getElem (by rw [← HPL.out]; exact (List.getElem?_eq_some_iff.1 hj).1)⟩
        rw [(HPS.out.el j p t hj ht).1]
        exact hz.out t (List.mem_of_getElem? ht)
      have hEP := Lib.hid HAG.out.1
      have HSP := Lib.hid HAG.out.2.1.symm
      have HXP := Lib.hid HAG.out.2.2.1.symm
      have HPP := Lib.hid HAG.out.2.2.2.1
      have HALLP := Lib.hid HAG.out.2.2.2.2
      go_wp2_with (first | (go_at_call 14; (try first | (with_reducible refine gen_boxK3 (fun u _ _ _ _ => ?_)) | (with_reducible refine gen_boxK2 (fun u _ _ _ => ?_)) | (with_reducible refine gen_boxK (fun u _ _ => ?_))); (with_reducible refine (mv_join_yes (by omega) hzp hEP HJW HSP HXP HPP HALLP).mono ?_); rintro e u ⟨A', c', B', d', rfl, sA, sX, lA, lX, fA, fX, _⟩) | (go_at_call 18; (try first | (with_reducible refine gen_boxK3 (fun u _ _ _ _ => ?_)) | (with_reducible refine gen_boxK2 (fun u _ _ _ => ?_)) | (with_reducible refine gen_boxK (fun u _ _ => ?_))); (with_reducible refine (aT_equalT (by omega) (by omega)).mono ?_); rintro e u ⟨rfl, _⟩) | (go_at_call 13; (try first | (with_reducible refine gen_boxK3 (fun u _ _ _ _ => ?_)) | (with_reducible refine gen_boxK2 (fun u _ _ _ => ?_)) | (with_reducible refine gen_boxK (fun u _ _ => ?_))); (with_reducible refine (a09_awake).mono ?_); rintro e u ⟨rfl, _⟩))
      go_ret
      exact ⟨rfl, bel w _⟩

end Go.Proofs.Ytingmabmglpmaaa
