/- athanorlaw05's tests of its ins. -/
import Derived.Test.YtingmabmglpmaaaLaw05
namespace Go.Proofs.Ytingmabmglpmaaa
open Go.RowKit

section
variable {w : World} {A : Option Addr} {n c : Nat} {ts : List Tn} {kind : Int}
set_option maxRecDepth 100000 in
set_option maxHeartbeats 2000000 in
theorem a05_good [a : Ts w A n ts] (hz : Hid (∀ t ∈ ts, t.zs.length ≤ 1000000)) : Calls Try.prog 31 #[.int .i64 kind, .slice A n c] w (RetV w (.int .i64 (goodE kind ts))) := by
  have CB := @cell_bx
  have CP := @cell_prev
  by_cases h0 : insN kind = 0
  · refine retV_of (v := .int .i64 21) ?_ (by simp [goodE, h0])
    have e1 : (insN kind == 0) = true := by simp [h0]
    clear h0
    go_enter Try.func31, Try.ntmps31
    go_wp2_with (first | (go_at_call 53; (try first | (with_reducible refine gen_boxK3 (fun u _ _ _ _ => ?_)) | (with_reducible refine gen_boxK2 (fun u _ _ _ => ?_)) | (with_reducible refine gen_boxK (fun u _ _ => ?_))); (with_reducible refine (r5_ins).mono ?_); rintro e u ⟨rfl, _⟩))
    go_ret
    exact ⟨rfl, prev_bel _ _⟩
  have e1 : (insN kind == 0) = false := by simp [h0]
  by_cases h1 : (n : Int) = insN kind
  rotate_left
  · have e2 : ((n : Int) != insN kind) = true := by simp [h1]
    refine retV_of (v := .int .i64 20) ?_ (by rw [goodE, if_neg h0, if_neg (by rw [← a.len]; exact h1)])
    clear h0 h1
    go_enter Try.func31, Try.ntmps31
    go_wp2_with (first | (go_at_call 53; (try first | (with_reducible refine gen_boxK3 (fun u _ _ _ _ => ?_)) | (with_reducible refine gen_boxK2 (fun u _ _ _ => ?_)) | (with_reducible refine gen_boxK (fun u _ _ => ?_))); (with_reducible refine (r5_ins).mono ?_); rintro e u ⟨rfl, _⟩))
    go_ret
    exact ⟨rfl, prev_bel _ _⟩
  have e2 : ((n : Int) != insN kind) = false := by simp [h1]
  have HG : Hid (goodE kind ts = if ts.all (okT (zs0 ts)) then 0 else 20) := Lib.hid (by rw [goodE, if_neg h0, if_pos (by rw [← a.len]; exact h1)])
  have hn2 : 0 < n ∧ n ≤ 2 := by rcases insN_cases kind with h | h | h <;> omega
  obtain ⟨hn0, hn2⟩ := hn2
  clear h0 h1
  obtain ⟨b, o, A0, c0, z0, B0, d0, x0, rfl, ob, q0, -, s0, -, -, -, ht0⟩ := a.get hn0
  have HZ0 : Hid (zs0 ts = z0) := Lib.hid (by simp [zs0, ht0.out])
  have hz0 : z0.length ≤ 1000000 := hz.out _ (List.mem_of_getElem? ht0.out)
  simp only [Nat.zero_mul, Nat.add_zero] at q0
  go_enter Try.func31, Try.ntmps31
  go_wp2_with (first | (go_at_call 53; (try first | (with_reducible refine gen_boxK3 (fun u _ _ _ _ => ?_)) | (with_reducible refine gen_boxK2 (fun u _ _ _ => ?_)) | (with_reducible refine gen_boxK (fun u _ _ => ?_))); (with_reducible refine (r5_ins).mono ?_); rintro e u ⟨rfl, _⟩))
  go_loopw [20] (fun i wr => ∃ k : Nat, k ≤ n ∧ i = .int .i64 k ∧ Hid (∀ j u, j < k → ts[j]? = some u → okT z0 u = true) ∧ Prev wr u) (fun i _ => n - (intOf i).toNat)
  case atStart => exact ⟨0, Nat.zero_le _, rfl, Lib.hid (fun j u hj => by omega), prev_bel _ _⟩
  case round =>
    obtain ⟨k, hk, rfl, hall, hp⟩ := hrel
    by_cases hlt : k < n
    · obtain ⟨b', o', A1, c1, z1, B1, d1, x1, e, ob', q1, q2, s1, t1, -, -, ht⟩ := a.get hlt
      injection e with e
      injection e with eb eo
      subst eb eo
      have hz1 : z1.length ≤ 1000000 := hz.out _ (List.mem_of_getElem? ht.out)
      rcases hr : tRightB z1 x1 with _ | _
      · go_wp2_with fail
        refine wp_region_up0 (by kernel_rfl) (fun ux _ => ?_)
        refine wpAnyH_on (i := 0) (d := 24) (v := ?_) rfl rfl (by kernel_rfl) (by kernel_rfl) (by kernel_rfl) (fun _ _ _ h => h) (by kernel_rfl) (prev_bel _ _) ?_ ?_
        rotate_left
        · intro uu (pu : Prev uu _)
          go_simp
          try (with_reducible rfl)
        try simp only [List.set]
        refine wpAnyH_ready (rs := [1]) (by kernel_rfl) (by simp) ?_
        refine AllReadyH.cons rfl (fun K hK => ?_) AllReadyH.nil
        go_simp
        (with_reducible refine (a05_right (by omega)).mono ?_)
        rintro e ux ⟨rfl, _⟩
        dsimp only
        refine hK.out _ _ (prev_bel _ _) (fun hHeld => ?_)
        clear hHeld hK K
        try dsimp only [Act.put, List.setIfInBounds_toArray, List.set_cons_zero, List.set_cons_succ]
        refine wpAnyH_on (i := 2) (d := 26) (v := ?_) rfl rfl (by kernel_rfl) (by kernel_rfl) (by kernel_rfl) (fun _ _ _ h => h) (by kernel_rfl) (prev_bel _ _) ?_ ?_
        rotate_left
        · intro uu (pu : Prev uu _)
          go_simp
          try (with_reducible rfl)
        try simp only [List.set]
        refine wpAnyH_on (i := 3) (d := 27) (v := ?_) rfl rfl (by kernel_rfl) (by kernel_rfl) (by kernel_rfl) (fun _ _ _ h => h) (by kernel_rfl) (prev_bel _ _) ?_ ?_
        rotate_left
        · intro uu (pu : Prev uu _)
          go_simp
          try (with_reducible rfl)
        try simp only [List.set]
        refine wpAnyH_off (i := 4) (d := 28) rfl rfl (by kernel_rfl) (by kernel_rfl) (by kernel_rfl) (fun _ _ _ h => h) (by kernel_rfl) (prev_bel _ _) ?_
        try simp only [List.set]
        refine wpAnyH_off (i := 5) (d := 29) rfl rfl (by kernel_rfl) (by kernel_rfl) (by kernel_rfl) (fun _ _ _ h => h) (by kernel_rfl) (prev_bel _ _) ?_
        try simp only [List.set]
        refine wpAnyH_off (i := 6) (d := 30) rfl rfl (by kernel_rfl) (by kernel_rfl) (by kernel_rfl) (fun _ _ _ h => h) (by kernel_rfl) (prev_bel _ _) ?_
        try simp only [List.set]
        refine wpAnyH_off (i := 7) (d := 31) rfl rfl (by kernel_rfl) (by kernel_rfl) (by kernel_rfl) (fun _ _ _ h => h) (by kernel_rfl) (prev_bel _ _) ?_
        try simp only [List.set]
        refine wpAnyH_off (i := 8) (d := 32) rfl rfl (by kernel_rfl) (by kernel_rfl) (by kernel_rfl) (fun _ _ _ h => h) (by kernel_rfl) (prev_bel _ _) ?_
        try simp only [List.set]
        refine wpAnyH_off (i := 9) (d := 33) rfl rfl (by kernel_rfl) (by kernel_rfl) (by kernel_rfl) (fun _ _ _ h => h) (by kernel_rfl) (prev_bel _ _) ?_
        try simp only [List.set]
        refine wpAnyH_off (i := 10) (d := 34) rfl rfl (by kernel_rfl) (by kernel_rfl) (by kernel_rfl) (fun _ _ _ h => h) (by kernel_rfl) (prev_bel _ _) ?_
        try simp only [List.set]
        refine wpAnyH_off (i := 11) (d := 35) rfl rfl (by kernel_rfl) (by kernel_rfl) (by kernel_rfl) (fun _ _ _ h => h) (by kernel_rfl) (prev_bel _ _) ?_
        try simp only [List.set]
        refine wpAnyH_on (i := 12) (d := 36) (v := ?_) rfl rfl (by kernel_rfl) (by kernel_rfl) (by kernel_rfl) (fun _ _ _ h => h) (by kernel_rfl) (prev_bel _ _) ?_ ?_
        rotate_left
        · intro uu (pu : Prev uu _)
          go_simp
          try (with_reducible rfl)
        try simp only [List.set]
        refine wpAnyH_done (by kernel_rfl) ?_ _
        go_wp2_with fail
        go_ret
        refine ⟨?_, prev_bel _ _⟩
        rw [HG.out, HZ0.out, all_not ht.out (by simp [okT, hr])]; rfl
      rcases hs : decide (z1 = z0) with _ | _
      · go_wp2_with fail
        refine wp_region_up0 (by kernel_rfl) (fun ux _ => ?_)
        refine wpAnyH_on (i := 0) (d := 24) (v := ?_) rfl rfl (by kernel_rfl) (by kernel_rfl) (by kernel_rfl) (fun _ _ _ h => h) (by kernel_rfl) (prev_bel _ _) ?_ ?_
        rotate_left
        · intro uu (pu : Prev uu _)
          go_simp
          try (with_reducible rfl)
        try simp only [List.set]
        refine wpAnyH_ready (rs := [1]) (by kernel_rfl) (by simp) ?_
        refine AllReadyH.cons rfl (fun K hK => ?_) AllReadyH.nil
        go_simp
        (with_reducible refine (a05_right (by omega)).mono ?_)
        rintro e ux ⟨rfl, _⟩
        dsimp only
        refine hK.out _ _ (prev_bel _ _) (fun hHeld => ?_)
        clear hHeld hK K
        try dsimp only [Act.put, List.setIfInBounds_toArray, List.set_cons_zero, List.set_cons_succ]
        refine wpAnyH_on (i := 2) (d := 26) (v := ?_) rfl rfl (by kernel_rfl) (by kernel_rfl) (by kernel_rfl) (fun _ _ _ h => h) (by kernel_rfl) (prev_bel _ _) ?_ ?_
        rotate_left
        · intro uu (pu : Prev uu _)
          go_simp
          try (with_reducible rfl)
        try simp only [List.set]
        refine wpAnyH_on (i := 3) (d := 27) (v := ?_) rfl rfl (by kernel_rfl) (by kernel_rfl) (by kernel_rfl) (fun _ _ _ h => h) (by kernel_rfl) (prev_bel _ _) ?_ ?_
        rotate_left
        · intro uu (pu : Prev uu _)
          go_simp
          try (with_reducible rfl)
        try simp only [List.set]
        refine wpAnyH_on (i := 4) (d := 28) (v := ?_) rfl rfl (by kernel_rfl) (by kernel_rfl) (by kernel_rfl) (fun _ _ _ h => h) (by kernel_rfl) (prev_bel _ _) ?_ ?_
        rotate_left
        · intro uu (pu : Prev uu _)
          go_simp
          try (with_reducible rfl)
        try simp only [List.set]
        refine wpAnyH_on (i := 5) (d := 29) (v := ?_) rfl rfl (by kernel_rfl) (by kernel_rfl) (by kernel_rfl) (fun _ _ _ h => h) (by kernel_rfl) (prev_bel _ _) ?_ ?_
        rotate_left
        · intro uu (pu : Prev uu _)
          go_simp
          try (with_reducible rfl)
        try simp only [List.set]
        refine wpAnyH_on (i := 6) (d := 30) (v := ?_) rfl rfl (by kernel_rfl) (by kernel_rfl) (by kernel_rfl) (fun _ _ _ h => h) (by kernel_rfl) (prev_bel _ _) ?_ ?_
        rotate_left
        · intro uu (pu : Prev uu _)
          go_simp
          try (with_reducible rfl)
        try simp only [List.set]
        refine wpAnyH_on (i := 7) (d := 31) (v := ?_) rfl rfl (by kernel_rfl) (by kernel_rfl) (by kernel_rfl) (fun _ _ _ h => h) (by kernel_rfl) (prev_bel _ _) ?_ ?_
        rotate_left
        · intro uu (pu : Prev uu _)
          go_simp
          try (with_reducible rfl)
        try simp only [List.set]
        refine wpAnyH_on (i := 8) (d := 32) (v := ?_) rfl rfl (by kernel_rfl) (by kernel_rfl) (by kernel_rfl) (fun _ _ _ h => h) (by kernel_rfl) (prev_bel _ _) ?_ ?_
        rotate_left
        · intro uu (pu : Prev uu _)
          go_simp
          try (with_reducible rfl)
        try simp only [List.set]
        refine wpAnyH_on (i := 9) (d := 33) (v := ?_) rfl rfl (by kernel_rfl) (by kernel_rfl) (by kernel_rfl) (fun _ _ _ h => h) (by kernel_rfl) (prev_bel _ _) ?_ ?_
        rotate_left
        · intro uu (pu : Prev uu _)
          go_simp
          try (with_reducible rfl)
        try simp only [List.set]
        refine wpAnyH_ready (rs := [10]) (by kernel_rfl) (by simp) ?_
        refine AllReadyH.cons rfl (fun K hK => ?_) AllReadyH.nil
        go_simp
        (with_reducible refine (a03_same (by omega) (by omega)).mono ?_)
        rintro e ux ⟨rfl, _⟩
        dsimp only
        refine hK.out _ _ (prev_bel _ _) (fun hHeld => ?_)
        clear hHeld hK K
        try dsimp only [Act.put, List.setIfInBounds_toArray, List.set_cons_zero, List.set_cons_succ]
        refine wpAnyH_on (i := 11) (d := 35) (v := ?_) rfl rfl (by kernel_rfl) (by kernel_rfl) (by kernel_rfl) (fun _ _ _ h => h) (by kernel_rfl) (prev_bel _ _) ?_ ?_
        rotate_left
        · intro uu (pu : Prev uu _)
          go_simp
          try (with_reducible rfl)
        try simp only [List.set]
        refine wpAnyH_on (i := 12) (d := 36) (v := ?_) rfl rfl (by kernel_rfl) (by kernel_rfl) (by kernel_rfl) (fun _ _ _ h => h) (by kernel_rfl) (prev_bel _ _) ?_ ?_
        rotate_left
        · intro uu (pu : Prev uu _)
          go_simp
          try (with_reducible rfl)
        try simp only [List.set]
        refine wpAnyH_done (by kernel_rfl) ?_ _
        go_wp2_with fail
        go_ret
        refine ⟨?_, prev_bel _ _⟩
        rw [HG.out, HZ0.out, all_not ht.out (by simp only [okT, hr, hs]; rfl)]; rfl
      · go_wp2_with fail
        refine wp_region_up0 (by kernel_rfl) (fun ux _ => ?_)
        refine wpAnyH_on (i := 0) (d := 24) (v := ?_) rfl rfl (by kernel_rfl) (by kernel_rfl) (by kernel_rfl) (fun _ _ _ h => h) (by kernel_rfl) (prev_bel _ _) ?_ ?_
        rotate_left
        · intro uu (pu : Prev uu _)
          go_simp
          try (with_reducible rfl)
        try simp only [List.set]
        refine wpAnyH_ready (rs := [1]) (by kernel_rfl) (by simp) ?_
        refine AllReadyH.cons rfl (fun K hK => ?_) AllReadyH.nil
        go_simp
        (with_reducible refine (a05_right (by omega)).mono ?_)
        rintro e ux ⟨rfl, _⟩
        dsimp only
        refine hK.out _ _ (prev_bel _ _) (fun hHeld => ?_)
        clear hHeld hK K
        try dsimp only [Act.put, List.setIfInBounds_toArray, List.set_cons_zero, List.set_cons_succ]
        refine wpAnyH_on (i := 2) (d := 26) (v := ?_) rfl rfl (by kernel_rfl) (by kernel_rfl) (by kernel_rfl) (fun _ _ _ h => h) (by kernel_rfl) (prev_bel _ _) ?_ ?_
        rotate_left
        · intro uu (pu : Prev uu _)
          go_simp
          try (with_reducible rfl)
        try simp only [List.set]
        refine wpAnyH_on (i := 3) (d := 27) (v := ?_) rfl rfl (by kernel_rfl) (by kernel_rfl) (by kernel_rfl) (fun _ _ _ h => h) (by kernel_rfl) (prev_bel _ _) ?_ ?_
        rotate_left
        · intro uu (pu : Prev uu _)
          go_simp
          try (with_reducible rfl)
        try simp only [List.set]
        refine wpAnyH_on (i := 4) (d := 28) (v := ?_) rfl rfl (by kernel_rfl) (by kernel_rfl) (by kernel_rfl) (fun _ _ _ h => h) (by kernel_rfl) (prev_bel _ _) ?_ ?_
        rotate_left
        · intro uu (pu : Prev uu _)
          go_simp
          try (with_reducible rfl)
        try simp only [List.set]
        refine wpAnyH_on (i := 5) (d := 29) (v := ?_) rfl rfl (by kernel_rfl) (by kernel_rfl) (by kernel_rfl) (fun _ _ _ h => h) (by kernel_rfl) (prev_bel _ _) ?_ ?_
        rotate_left
        · intro uu (pu : Prev uu _)
          go_simp
          try (with_reducible rfl)
        try simp only [List.set]
        refine wpAnyH_on (i := 6) (d := 30) (v := ?_) rfl rfl (by kernel_rfl) (by kernel_rfl) (by kernel_rfl) (fun _ _ _ h => h) (by kernel_rfl) (prev_bel _ _) ?_ ?_
        rotate_left
        · intro uu (pu : Prev uu _)
          go_simp
          try (with_reducible rfl)
        try simp only [List.set]
        refine wpAnyH_on (i := 7) (d := 31) (v := ?_) rfl rfl (by kernel_rfl) (by kernel_rfl) (by kernel_rfl) (fun _ _ _ h => h) (by kernel_rfl) (prev_bel _ _) ?_ ?_
        rotate_left
        · intro uu (pu : Prev uu _)
          go_simp
          try (with_reducible rfl)
        try simp only [List.set]
        refine wpAnyH_on (i := 8) (d := 32) (v := ?_) rfl rfl (by kernel_rfl) (by kernel_rfl) (by kernel_rfl) (fun _ _ _ h => h) (by kernel_rfl) (prev_bel _ _) ?_ ?_
        rotate_left
        · intro uu (pu : Prev uu _)
          go_simp
          try (with_reducible rfl)
        try simp only [List.set]
        refine wpAnyH_on (i := 9) (d := 33) (v := ?_) rfl rfl (by kernel_rfl) (by kernel_rfl) (by kernel_rfl) (fun _ _ _ h => h) (by kernel_rfl) (prev_bel _ _) ?_ ?_
        rotate_left
        · intro uu (pu : Prev uu _)
          go_simp
          try (with_reducible rfl)
        try simp only [List.set]
        refine wpAnyH_ready (rs := [10]) (by kernel_rfl) (by simp) ?_
        refine AllReadyH.cons rfl (fun K hK => ?_) AllReadyH.nil
        go_simp
        (with_reducible refine (a03_same (by omega) (by omega)).mono ?_)
        rintro e ux ⟨rfl, _⟩
        dsimp only
        refine hK.out _ _ (prev_bel _ _) (fun hHeld => ?_)
        clear hHeld hK K
        try dsimp only [Act.put, List.setIfInBounds_toArray, List.set_cons_zero, List.set_cons_succ]
        refine wpAnyH_on (i := 11) (d := 35) (v := ?_) rfl rfl (by kernel_rfl) (by kernel_rfl) (by kernel_rfl) (fun _ _ _ h => h) (by kernel_rfl) (prev_bel _ _) ?_ ?_
        rotate_left
        · intro uu (pu : Prev uu _)
          go_simp
          try (with_reducible rfl)
        try simp only [List.set]
        refine wpAnyH_on (i := 12) (d := 36) (v := ?_) rfl rfl (by kernel_rfl) (by kernel_rfl) (by kernel_rfl) (fun _ _ _ h => h) (by kernel_rfl) (prev_bel _ _) ?_ ?_
        rotate_left
        · intro uu (pu : Prev uu _)
          go_simp
          try (with_reducible rfl)
        try simp only [List.set]
        refine wpAnyH_done (by kernel_rfl) ?_ _
        go_wp2_with fail
        go_roundw
        case rel => exact ⟨k + 1, by omega, by go_num, Lib.hid (all_take hall.out ht.out (by simp only [okT, hr, hs]; rfl)), prev_bel _ _⟩
        case measure => simp [intOf]; omega
    · have e : ts.all (okT z0) = true := all_of hall.out (by rw [← a.len]; exact hlt)
      have HE : Hid (goodE kind ts = 0) := Lib.hid (by rw [HG.out, HZ0.out, e]; rfl)
      clear e
      go_wp2_with fail
      go_ret
      exact ⟨by rw [HE.out]; rfl, prev_bel _ _⟩


set_option maxHeartbeats 1000000 in
theorem a05_other [a : Ts w A n ts] {i : Nat} : Calls Try.prog 34 #[.slice A n c, .int .i64 i] w (RetV w (.int .i64 (sec ts i))) := by
  have CP := @cell_prev
  by_cases h2 : n < 2
  · have e : sec ts i = 0 := by
      have : ts[1]? = none := List.getElem?_eq_none (by rw [← a.len]; omega)
      simp [sec, this]
    rw [e]
    clear e
    go_enter Try.func34, Try.ntmps34
    go_wp2_with fail
    go_ret
    exact ⟨rfl, prev_bel _ _⟩
  · have h1 : 1 < n := by omega
    obtain ⟨b, o, A1, c1, z1, B1, d1, x1, rfl, ob, -, q1, -, s1, -, -, ht⟩ := a.get (k := 1) h1
    simp only [Nat.one_mul] at q1
    by_cases hi : i < x1.length
    · obtain ⟨b2, o2, z, rfl, ob2, cz, hz⟩ := s1.get hi
      have e : sec ts i = z := by simp [sec, ht.out, List.getD_eq_getElem?_getD, hz.out]
      rw [e]
      clear e
      go_enter Try.func34, Try.ntmps34
      go_wp2_with fail
      go_ret
      exact ⟨rfl, prev_bel _ _⟩
    · have e : sec ts i = 0 := by simp [sec, ht.out, List.getD_eq_getElem?_getD, List.getElem?_eq_none (Nat.le_of_not_lt hi)]
      rw [e]
      clear e
      go_enter Try.func34, Try.ntmps34
      go_wp2_with fail
      go_ret
      exact ⟨rfl, prev_bel _ _⟩

/-- How much there is to go through. -/
def sumT (ts : List Tn) : Nat := (ts.map fun t => 1 + t.zs.length + t.xs.length).sum
theorem sumT_take {ts : List Tn} {k : Nat} {t : Tn} (h : ts[k]? = some t) : sumT (ts.take (k + 1)) = sumT (ts.take k) + (1 + t.zs.length + t.xs.length) := by
  rw [List.take_add_one, h]; simp [sumT]
theorem sumT_le (ts : List Tn) (k : Nat) : sumT (ts.take k) ≤ sumT ts := by
  have e : sumT ts = sumT (ts.take k) + sumT (ts.drop k) := by unfold sumT; rw [← List.sum_append, ← List.map_append, List.take_append_drop]
  omega
theorem sumT_mem {ts : List Tn} {t : Tn} (h : t ∈ ts) : 1 + t.zs.length + t.xs.length ≤ sumT ts := by
  induction ts with
  | nil => cases h
  | cons a l ih =>
    rcases List.mem_cons.1 h with rfl | h
    · simp [sumT]
    · have := ih h
      simp [sumT] at this ⊢; omega
theorem sumT_len (ts : List Tn) : ts.length ≤ sumT ts := by
  induction ts with
  | nil => simp
  | cons a l ih => simp [sumT] at ih ⊢; omega
set_option maxRecDepth 100000 in
set_option maxHeartbeats 1000000 in
theorem a05_small [a : Ts w A n ts] (hn : n ≤ 17592186043904) (hb : Hid (∀ t ∈ ts, t.zs.length ≤ 17592186043904 ∧ t.xs.length ≤ 17592186043904)) : Calls Try.prog 28 #[.slice A n c] w (RetV w (.bool (decide (sumT ts ≤ 800)))) := by
  have CB := @cell_bx
  have CP := @cell_prev
  go_enter Try.func28, Try.ntmps28
  go_wp2_with fail
  go_loopw [3, 8] (fun s i wr => ∃ k S : Nat, k ≤ n ∧ i = .int .i64 k ∧ s = .int .i64 S ∧ S ≤ 800 ∧ Hid (sumT (ts.take k) = S) ∧ Prev wr w) (fun _ i _ => n - (intOf i).toNat)
  case atStart => exact ⟨0, 0, Nat.zero_le _, rfl, rfl, by omega, Lib.hid rfl, prev_bel _ _⟩
  case round =>
    obtain ⟨k, S, hk, rfl, rfl, hS, HS, hp⟩ := hrel
    by_cases hlt : k < n
    · obtain ⟨b, o, A1, c1, z1, B1, d1, x1, rfl, ob, q0, q1, s1, t1, -, -, ht⟩ := a.get hlt
      obtain ⟨l1, l2⟩ := hb.out _ (List.mem_of_getElem? ht.out)
      simp only at l1 l2
      have HT : Hid (sumT (ts.take (k + 1)) = S + (1 + z1.length + x1.length)) := Lib.hid (by rw [sumT_take ht.out, HS.out])
      by_cases hq : S + (1 + z1.length + x1.length) ≤ 800
      · go_wp2_with fail
        go_roundw
        case rel => exact ⟨k + 1, S + (1 + z1.length + x1.length), by omega, by go_num, by go_num, hq, HT, prev_bel _ _⟩
        case measure => simp [intOf]; omega
      · have e : decide (sumT ts ≤ 800) = false := by
          have := sumT_le ts (k + 1)
          rw [HT.out] at this
          simp; omega
        rw [e]
        clear e
        go_wp2_with fail
        go_ret
        exact ⟨rfl, prev_bel _ _⟩
    · have e : decide (sumT ts ≤ 800) = true := by
        have := HS.out
        rw [List.take_of_length_le (by rw [← a.len]; omega)] at this
        simp; omega
      have HE := Lib.hid e
      clear e
      go_wp2_with fail
      go_ret
      exact ⟨by rw [HE.out]; rfl, prev_bel _ _⟩
end

end Go.Proofs.Ytingmabmglpmaaa
