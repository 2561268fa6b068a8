/- point's tests of its ins, and the second in's cell. -/
import Derived.Test.YtingmabmglpmaaaPoint
import Derived.Test.YtingmabmglpmaaaTAuto
namespace Go.Proofs.Ytingmabmglpmaaa
open Go.RowKit

/-- The sides of the first in. -/
def zs0 (ts : List Tn) : List Int := (ts[0]?.map (·.zs)).getD []
def okT (z0 : List Int) (t : Tn) : Bool := tRightB t.zs t.xs && decide (t.zs = z0)
/-- The error of a kind and its ins. -/
def goodE (kind : Int) (ts : List Tn) : Int := if insN kind = 0 then 21 else if (ts.length : Int) = insN kind then (if ts.all (okT (zs0 ts)) then 0 else 20) else 20
theorem insN_cases (kind : Int) : insN kind = 0 ∨ insN kind = 1 ∨ insN kind = 2 := by
  unfold insN
  by_cases h : 1 ≤ kind ∧ kind ≤ 5
  · rw [if_pos h]; simp
  · rw [if_neg h]
    by_cases h2 : kind = 6 ∨ kind = 7
    · rw [if_pos h2]; simp
    · rw [if_neg h2]; simp
theorem all_take {ts : List Tn} {p : Tn → Bool} {k : Nat} {t : Tn} (h : ∀ j u, j < k → ts[j]? = some u → p u = true) (hk : ts[k]? = some t) (ht : p t = true) : ∀ j u, j < k + 1 → ts[j]? = some u → p u = true := fun j u hj hu => by
  by_cases hjk : j < k
  · exact h j u hjk hu
  · obtain rfl : j = k := by omega
    rw [hk] at hu; injection hu with hu; exact hu ▸ ht
theorem all_of {ts : List Tn} {p : Tn → Bool} {k : Nat} (h : ∀ j u, j < k → ts[j]? = some u → p u = true) (hk : ¬ k < ts.length) : ts.all p = true := by
  rw [List.all_eq_true]
  intro u hu
  obtain ⟨j, hj⟩ := List.mem_iff_getElem?.1 hu
  exact h j u (by have := (List.getElem?_eq_some_iff.1 hj).1; omega) hj
theorem all_not {ts : List Tn} {p : Tn → Bool} {k : Nat} {t : Tn} (hk : ts[k]? = some t) (ht : p t = false) : ts.all p = false := by
  rw [← Bool.not_eq_true, List.all_eq_true]
  intro h
  have := h t (List.mem_of_getElem? hk)
  rw [ht] at this; cases this

section
variable {w : World} {A : Option Addr} {n c : Nat} {ts : List Tn} {kind : Int}
set_option maxRecDepth 100000 in
set_option maxHeartbeats 2000000 in
theorem pt_agree [a : Ts w A n ts] (hz : Hid (∀ t ∈ ts, t.zs.length ≤ 1000000)) : Calls Try.prog 51 #[.int .i64 kind, .slice A n c] w (RetV w (.int .i64 (goodE kind ts))) := by
  have CB := @cell_bx
  have CP := @cell_prev
  by_cases h0 : insN kind = 0
  · refine retV_of (v := .int .i64 21) ?_ (by simp [goodE, h0])
    have e1 : (insN kind == 0) = true := by simp [h0]
    clear h0
    go_enter Try.func51, Try.ntmps51
    go_wp2_with (first | (go_at_call 50; (try first | (with_reducible refine gen_boxK3 (fun u _ _ _ _ => ?_)) | (with_reducible refine gen_boxK2 (fun u _ _ _ => ?_)) | (with_reducible refine gen_boxK (fun u _ _ => ?_))); (with_reducible refine (pt_ins).mono ?_); rintro e u ⟨rfl, _⟩))
    go_ret
    exact ⟨rfl, prev_bel _ _⟩
  have e1 : (insN kind == 0) = false := by simp [h0]
  by_cases h1 : (n : Int) = insN kind
  rotate_left
  · have e2 : ((n : Int) != insN kind) = true := by simp [h1]
    refine retV_of (v := .int .i64 20) ?_ (by rw [goodE, if_neg h0, if_neg (by rw [← a.len]; exact h1)])
    clear h0 h1
    go_enter Try.func51, Try.ntmps51
    go_wp2_with (first | (go_at_call 50; (try first | (with_reducible refine gen_boxK3 (fun u _ _ _ _ => ?_)) | (with_reducible refine gen_boxK2 (fun u _ _ _ => ?_)) | (with_reducible refine gen_boxK (fun u _ _ => ?_))); (with_reducible refine (pt_ins).mono ?_); rintro e u ⟨rfl, _⟩))
    go_ret
    exact ⟨rfl, prev_bel _ _⟩
  have e2 : ((n : Int) != insN kind) = false := by simp [h1]
  have HG : Hid (goodE kind ts = if ts.all (okT (zs0 ts)) then 0 else 20) := Lib.hid (by rw [goodE, if_neg h0, if_pos (by rw [← a.len]; exact h1)])
  have hn2 : 0 < n ∧ n ≤ 2 := by rcases insN_cases kind with h | h | h <;> omega
  obtain ⟨hn0, hn2⟩ := hn2
  clear h0 h1
  obtain ⟨b, o, A0, c0, z0, B0, d0, x0, rfl, ob, q0, -, s0, -, -, -, ht0⟩ := a.get hn0
  have HZ0 : Hid (zs0 ts = z0) := Lib.hid (by simp [zs0, ht0.out])
  have hz0 : z0.length ≤ 1000000 := hz.out _ (List.mem_of_getElem? ht0.out)
  simp only [Nat.zero_mul, Nat.add_zero] at q0
  go_enter Try.func51, Try.ntmps51
  go_wp2_with (first | (go_at_call 50; (try first | (with_reducible refine gen_boxK3 (fun u _ _ _ _ => ?_)) | (with_reducible refine gen_boxK2 (fun u _ _ _ => ?_)) | (with_reducible refine gen_boxK (fun u _ _ => ?_))); (with_reducible refine (pt_ins).mono ?_); rintro e u ⟨rfl, _⟩))
  go_loopw [18] (fun i wr => ∃ k : Nat, k ≤ n ∧ i = .int .i64 k ∧ Hid (∀ j u, j < k → ts[j]? = some u → okT z0 u = true) ∧ Prev wr u) (fun i _ => n - (intOf i).toNat)
  case atStart => exact ⟨0, Nat.zero_le _, rfl, Lib.hid (fun j u hj => by omega), prev_bel _ _⟩
  case round =>
    obtain ⟨k, hk, rfl, hall, hp⟩ := hrel
    by_cases hlt : k < n
    · obtain ⟨b', o', A1, c1, z1, B1, d1, x1, e, ob', q1, q2, s1, t1, -, -, ht⟩ := a.get hlt
      injection e with e
      injection e with eb eo
      subst eb eo
      have hz1 : z1.length ≤ 1000000 := hz.out _ (List.mem_of_getElem? ht.out)
      rcases hr : tRightB z1 x1 with _ | _
      · go_wp2_with fail
        refine wp_region_up0 (by kernel_rfl) (fun ux _ => ?_)
        refine wpAnyH_on (i := 0) (d := 22) (v := ?_) rfl rfl (by kernel_rfl) (by kernel_rfl) (by kernel_rfl) (fun _ _ _ h => h) (by kernel_rfl) (prev_bel _ _) ?_ ?_
        rotate_left
        · intro uu (pu : Prev uu _)
          go_simp
          try (with_reducible rfl)
        try simp only [List.set]
        refine wpAnyH_ready (rs := [1]) (by kernel_rfl) (by simp) ?_
        refine AllReadyH.cons rfl (fun K hK => ?_) AllReadyH.nil
        go_simp
        (with_reducible refine (aT_right (by omega)).mono ?_)
        rintro e ux ⟨rfl, _⟩
        dsimp only
        refine hK.out _ _ (prev_bel _ _) (fun hHeld => ?_)
        clear hHeld hK K
        try dsimp only [Act.put, List.setIfInBounds_toArray, List.set_cons_zero, List.set_cons_succ]
        refine wpAnyH_on (i := 2) (d := 24) (v := ?_) rfl rfl (by kernel_rfl) (by kernel_rfl) (by kernel_rfl) (fun _ _ _ h => h) (by kernel_rfl) (prev_bel _ _) ?_ ?_
        rotate_left
        · intro uu (pu : Prev uu _)
          go_simp
          try (with_reducible rfl)
        try simp only [List.set]
        refine wpAnyH_on (i := 3) (d := 25) (v := ?_) rfl rfl (by kernel_rfl) (by kernel_rfl) (by kernel_rfl) (fun _ _ _ h => h) (by kernel_rfl) (prev_bel _ _) ?_ ?_
        rotate_left
        · intro uu (pu : Prev uu _)
          go_simp
          try (with_reducible rfl)
        try simp only [List.set]
        refine wpAnyH_off (i := 4) (d := 26) rfl rfl (by kernel_rfl) (by kernel_rfl) (by kernel_rfl) (fun _ _ _ h => h) (by kernel_rfl) (prev_bel _ _) ?_
        try simp only [List.set]
        refine wpAnyH_off (i := 5) (d := 27) rfl rfl (by kernel_rfl) (by kernel_rfl) (by kernel_rfl) (fun _ _ _ h => h) (by kernel_rfl) (prev_bel _ _) ?_
        try simp only [List.set]
        refine wpAnyH_off (i := 6) (d := 28) rfl rfl (by kernel_rfl) (by kernel_rfl) (by kernel_rfl) (fun _ _ _ h => h) (by kernel_rfl) (prev_bel _ _) ?_
        try simp only [List.set]
        refine wpAnyH_off (i := 7) (d := 29) rfl rfl (by kernel_rfl) (by kernel_rfl) (by kernel_rfl) (fun _ _ _ h => h) (by kernel_rfl) (prev_bel _ _) ?_
        try simp only [List.set]
        refine wpAnyH_off (i := 8) (d := 30) rfl rfl (by kernel_rfl) (by kernel_rfl) (by kernel_rfl) (fun _ _ _ h => h) (by kernel_rfl) (prev_bel _ _) ?_
        try simp only [List.set]
        refine wpAnyH_off (i := 9) (d := 31) rfl rfl (by kernel_rfl) (by kernel_rfl) (by kernel_rfl) (fun _ _ _ h => h) (by kernel_rfl) (prev_bel _ _) ?_
        try simp only [List.set]
        refine wpAnyH_off (i := 10) (d := 32) rfl rfl (by kernel_rfl) (by kernel_rfl) (by kernel_rfl) (fun _ _ _ h => h) (by kernel_rfl) (prev_bel _ _) ?_
        try simp only [List.set]
        refine wpAnyH_off (i := 11) (d := 33) rfl rfl (by kernel_rfl) (by kernel_rfl) (by kernel_rfl) (fun _ _ _ h => h) (by kernel_rfl) (prev_bel _ _) ?_
        try simp only [List.set]
        refine wpAnyH_on (i := 12) (d := 34) (v := ?_) rfl rfl (by kernel_rfl) (by kernel_rfl) (by kernel_rfl) (fun _ _ _ h => h) (by kernel_rfl) (prev_bel _ _) ?_ ?_
        rotate_left
        · intro uu (pu : Prev uu _)
          go_simp
          try (with_reducible rfl)
        try simp only [List.set]
        refine wpAnyH_done (by kernel_rfl) ?_ _
        go_wp2_with fail
        go_ret
        refine ⟨?_, prev_bel _ _⟩
        rw [HG.out, HZ0.out, all_not ht.out (by simp [okT, hr])]; rfl
      rcases hs : decide (z1 = z0) with _ | _
      · go_wp2_with fail
        refine wp_region_up0 (by kernel_rfl) (fun ux _ => ?_)
        refine wpAnyH_on (i := 0) (d := 22) (v := ?_) rfl rfl (by kernel_rfl) (by kernel_rfl) (by kernel_rfl) (fun _ _ _ h => h) (by kernel_rfl) (prev_bel _ _) ?_ ?_
        rotate_left
        · intro uu (pu : Prev uu _)
          go_simp
          try (with_reducible rfl)
        try simp only [List.set]
        refine wpAnyH_ready (rs := [1]) (by kernel_rfl) (by simp) ?_
        refine AllReadyH.cons rfl (fun K hK => ?_) AllReadyH.nil
        go_simp
        (with_reducible refine (aT_right (by omega)).mono ?_)
        rintro e ux ⟨rfl, _⟩
        dsimp only
        refine hK.out _ _ (prev_bel _ _) (fun hHeld => ?_)
        clear hHeld hK K
        try dsimp only [Act.put, List.setIfInBounds_toArray, List.set_cons_zero, List.set_cons_succ]
        refine wpAnyH_on (i := 2) (d := 24) (v := ?_) rfl rfl (by kernel_rfl) (by kernel_rfl) (by kernel_rfl) (fun _ _ _ h => h) (by kernel_rfl) (prev_bel _ _) ?_ ?_
        rotate_left
        · intro uu (pu : Prev uu _)
          go_simp
          try (with_reducible rfl)
        try simp only [List.set]
        refine wpAnyH_on (i := 3) (d := 25) (v := ?_) rfl rfl (by kernel_rfl) (by kernel_rfl) (by kernel_rfl) (fun _ _ _ h => h) (by kernel_rfl) (prev_bel _ _) ?_ ?_
        rotate_left
        · intro uu (pu : Prev uu _)
          go_simp
          try (with_reducible rfl)
        try simp only [List.set]
        refine wpAnyH_on (i := 4) (d := 26) (v := ?_) rfl rfl (by kernel_rfl) (by kernel_rfl) (by kernel_rfl) (fun _ _ _ h => h) (by kernel_rfl) (prev_bel _ _) ?_ ?_
        rotate_left
        · intro uu (pu : Prev uu _)
          go_simp
          try (with_reducible rfl)
        try simp only [List.set]
        refine wpAnyH_on (i := 5) (d := 27) (v := ?_) rfl rfl (by kernel_rfl) (by kernel_rfl) (by kernel_rfl) (fun _ _ _ h => h) (by kernel_rfl) (prev_bel _ _) ?_ ?_
        rotate_left
        · intro uu (pu : Prev uu _)
          go_simp
          try (with_reducible rfl)
        try simp only [List.set]
        refine wpAnyH_on (i := 6) (d := 28) (v := ?_) rfl rfl (by kernel_rfl) (by kernel_rfl) (by kernel_rfl) (fun _ _ _ h => h) (by kernel_rfl) (prev_bel _ _) ?_ ?_
        rotate_left
        · intro uu (pu : Prev uu _)
          go_simp
          try (with_reducible rfl)
        try simp only [List.set]
        refine wpAnyH_on (i := 7) (d := 29) (v := ?_) rfl rfl (by kernel_rfl) (by kernel_rfl) (by kernel_rfl) (fun _ _ _ h => h) (by kernel_rfl) (prev_bel _ _) ?_ ?_
        rotate_left
        · intro uu (pu : Prev uu _)
          go_simp
          try (with_reducible rfl)
        try simp only [List.set]
        refine wpAnyH_on (i := 8) (d := 30) (v := ?_) rfl rfl (by kernel_rfl) (by kernel_rfl) (by kernel_rfl) (fun _ _ _ h => h) (by kernel_rfl) (prev_bel _ _) ?_ ?_
        rotate_left
        · intro uu (pu : Prev uu _)
          go_simp
          try (with_reducible rfl)
        try simp only [List.set]
        refine wpAnyH_on (i := 9) (d := 31) (v := ?_) rfl rfl (by kernel_rfl) (by kernel_rfl) (by kernel_rfl) (fun _ _ _ h => h) (by kernel_rfl) (prev_bel _ _) ?_ ?_
        rotate_left
        · intro uu (pu : Prev uu _)
          go_simp
          try (with_reducible rfl)
        try simp only [List.set]
        refine wpAnyH_ready (rs := [10]) (by kernel_rfl) (by simp) ?_
        refine AllReadyH.cons rfl (fun K hK => ?_) AllReadyH.nil
        go_simp
        (with_reducible refine (aS_equal (by omega) (by omega)).mono ?_)
        rintro e ux ⟨rfl, _⟩
        dsimp only
        refine hK.out _ _ (prev_bel _ _) (fun hHeld => ?_)
        clear hHeld hK K
        try dsimp only [Act.put, List.setIfInBounds_toArray, List.set_cons_zero, List.set_cons_succ]
        refine wpAnyH_on (i := 11) (d := 33) (v := ?_) rfl rfl (by kernel_rfl) (by kernel_rfl) (by kernel_rfl) (fun _ _ _ h => h) (by kernel_rfl) (prev_bel _ _) ?_ ?_
        rotate_left
        · intro uu (pu : Prev uu _)
          go_simp
          try (with_reducible rfl)
        try simp only [List.set]
        refine wpAnyH_on (i := 12) (d := 34) (v := ?_) rfl rfl (by kernel_rfl) (by kernel_rfl) (by kernel_rfl) (fun _ _ _ h => h) (by kernel_rfl) (prev_bel _ _) ?_ ?_
        rotate_left
        · intro uu (pu : Prev uu _)
          go_simp
          try (with_reducible rfl)
        try simp only [List.set]
        refine wpAnyH_done (by kernel_rfl) ?_ _
        go_wp2_with fail
        go_ret
        refine ⟨?_, prev_bel _ _⟩
        rw [HG.out, HZ0.out, all_not ht.out (by simp only [okT, hr, hs]; rfl)]; rfl
      · go_wp2_with fail
        refine wp_region_up0 (by kernel_rfl) (fun ux _ => ?_)
        refine wpAnyH_on (i := 0) (d := 22) (v := ?_) rfl rfl (by kernel_rfl) (by kernel_rfl) (by kernel_rfl) (fun _ _ _ h => h) (by kernel_rfl) (prev_bel _ _) ?_ ?_
        rotate_left
        · intro uu (pu : Prev uu _)
          go_simp
          try (with_reducible rfl)
        try simp only [List.set]
        refine wpAnyH_ready (rs := [1]) (by kernel_rfl) (by simp) ?_
        refine AllReadyH.cons rfl (fun K hK => ?_) AllReadyH.nil
        go_simp
        (with_reducible refine (aT_right (by omega)).mono ?_)
        rintro e ux ⟨rfl, _⟩
        dsimp only
        refine hK.out _ _ (prev_bel _ _) (fun hHeld => ?_)
        clear hHeld hK K
        try dsimp only [Act.put, List.setIfInBounds_toArray, List.set_cons_zero, List.set_cons_succ]
        refine wpAnyH_on (i := 2) (d := 24) (v := ?_) rfl rfl (by kernel_rfl) (by kernel_rfl) (by kernel_rfl) (fun _ _ _ h => h) (by kernel_rfl) (prev_bel _ _) ?_ ?_
        rotate_left
        · intro uu (pu : Prev uu _)
          go_simp
          try (with_reducible rfl)
        try simp only [List.set]
        refine wpAnyH_on (i := 3) (d := 25) (v := ?_) rfl rfl (by kernel_rfl) (by kernel_rfl) (by kernel_rfl) (fun _ _ _ h => h) (by kernel_rfl) (prev_bel _ _) ?_ ?_
        rotate_left
        · intro uu (pu : Prev uu _)
          go_simp
          try (with_reducible rfl)
        try simp only [List.set]
        refine wpAnyH_on (i := 4) (d := 26) (v := ?_) rfl rfl (by kernel_rfl) (by kernel_rfl) (by kernel_rfl) (fun _ _ _ h => h) (by kernel_rfl) (prev_bel _ _) ?_ ?_
        rotate_left
        · intro uu (pu : Prev uu _)
          go_simp
          try (with_reducible rfl)
        try simp only [List.set]
        refine wpAnyH_on (i := 5) (d := 27) (v := ?_) rfl rfl (by kernel_rfl) (by kernel_rfl) (by kernel_rfl) (fun _ _ _ h => h) (by kernel_rfl) (prev_bel _ _) ?_ ?_
        rotate_left
        · intro uu (pu : Prev uu _)
          go_simp
          try (with_reducible rfl)
        try simp only [List.set]
        refine wpAnyH_on (i := 6) (d := 28) (v := ?_) rfl rfl (by kernel_rfl) (by kernel_rfl) (by kernel_rfl) (fun _ _ _ h => h) (by kernel_rfl) (prev_bel _ _) ?_ ?_
        rotate_left
        · intro uu (pu : Prev uu _)
          go_simp
          try (with_reducible rfl)
        try simp only [List.set]
        refine wpAnyH_on (i := 7) (d := 29) (v := ?_) rfl rfl (by kernel_rfl) (by kernel_rfl) (by kernel_rfl) (fun _ _ _ h => h) (by kernel_rfl) (prev_bel _ _) ?_ ?_
        rotate_left
        · intro uu (pu : Prev uu _)
          go_simp
          try (with_reducible rfl)
        try simp only [List.set]
        refine wpAnyH_on (i := 8) (d := 30) (v := ?_) rfl rfl (by kernel_rfl) (by kernel_rfl) (by kernel_rfl) (fun _ _ _ h => h) (by kernel_rfl) (prev_bel _ _) ?_ ?_
        rotate_left
        · intro uu (pu : Prev uu _)
          go_simp
          try (with_reducible rfl)
        try simp only [List.set]
        refine wpAnyH_on (i := 9) (d := 31) (v := ?_) rfl rfl (by kernel_rfl) (by kernel_rfl) (by kernel_rfl) (fun _ _ _ h => h) (by kernel_rfl) (prev_bel _ _) ?_ ?_
        rotate_left
        · intro uu (pu : Prev uu _)
          go_simp
          try (with_reducible rfl)
        try simp only [List.set]
        refine wpAnyH_ready (rs := [10]) (by kernel_rfl) (by simp) ?_
        refine AllReadyH.cons rfl (fun K hK => ?_) AllReadyH.nil
        go_simp
        (with_reducible refine (aS_equal (by omega) (by omega)).mono ?_)
        rintro e ux ⟨rfl, _⟩
        dsimp only
        refine hK.out _ _ (prev_bel _ _) (fun hHeld => ?_)
        clear hHeld hK K
        try dsimp only [Act.put, List.setIfInBounds_toArray, List.set_cons_zero, List.set_cons_succ]
        refine wpAnyH_on (i := 11) (d := 33) (v := ?_) rfl rfl (by kernel_rfl) (by kernel_rfl) (by kernel_rfl) (fun _ _ _ h => h) (by kernel_rfl) (prev_bel _ _) ?_ ?_
        rotate_left
        · intro uu (pu : Prev uu _)
          go_simp
          try (with_reducible rfl)
        try simp only [List.set]
        refine wpAnyH_on (i := 12) (d := 34) (v := ?_) rfl rfl (by kernel_rfl) (by kernel_rfl) (by kernel_rfl) (fun _ _ _ h => h) (by kernel_rfl) (prev_bel _ _) ?_ ?_
        rotate_left
        · intro uu (pu : Prev uu _)
          go_simp
          try (with_reducible rfl)
        try simp only [List.set]
        refine wpAnyH_done (by kernel_rfl) ?_ _
        go_wp2_with fail
        go_roundw
        case rel => exact ⟨k + 1, by omega, by go_num, Lib.hid (all_take hall.out ht.out (by simp only [okT, hr, hs]; rfl)), prev_bel _ _⟩
        case measure => simp [intOf]; omega
    · have e : ts.all (okT z0) = true := all_of hall.out (by rw [← a.len]; exact hlt)
      have HE : Hid (goodE kind ts = 0) := Lib.hid (by rw [HG.out, HZ0.out, e]; rfl)
      clear e
      go_wp2_with fail
      go_ret
      exact ⟨by rw [HE.out]; rfl, prev_bel _ _⟩

/-- The second in's cell, or nought. -/
def sec (ts : List Tn) (i : Nat) : Int := (ts[1]?.map fun t => t.xs.getD i 0).getD 0
set_option maxHeartbeats 1000000 in
theorem pt_second [a : Ts w A n ts] {i : Nat} (hn : n ≤ 2) (h : Hid (∀ t, ts[1]? = some t → i < t.xs.length)) : Calls Try.prog 52 #[.slice A n c, .int .i64 i] w (RetV w (.int .i64 (sec ts i))) := by
  have CP := @cell_prev
  by_cases h2 : n < 2
  · have e : sec ts i = 0 := by
      have : ts[1]? = none := List.getElem?_eq_none (by rw [← a.len]; omega)
      simp [sec, this]
    rw [e]
    clear e
    go_enter Try.func52, Try.ntmps52
    go_wp2_with fail
    go_ret
    exact ⟨rfl, prev_bel _ _⟩
  · obtain rfl : n = 2 := by omega
    obtain ⟨b, o, A1, c1, z1, B1, d1, x1, rfl, ob, -, q1, -, s1, -, -, ht⟩ := a.get (k := 1) (by omega)
    have hi := h.out _ ht.out
    simp only at hi
    obtain ⟨b2, o2, z, rfl, ob2, cz, hz⟩ := s1.get hi
    have e : sec ts i = z := by simp [sec, ht.out, List.getD_eq_getElem?_getD, hz.out]
    rw [e]
    clear e h2
    go_enter Try.func52, Try.ntmps52
    go_wp2_with fail
    go_ret
    exact ⟨rfl, prev_bel _ _⟩
end

end Go.Proofs.Ytingmabmglpmaaa
