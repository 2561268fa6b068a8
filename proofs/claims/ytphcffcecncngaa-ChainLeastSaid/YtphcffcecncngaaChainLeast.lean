/- ChainLeast. -/
import Derived.Test.YtphcffcecncngaaLaw20b
import Derived.Test.YtphcffcecncngaaLeast20
import Derived.Test.YtphcffcecncngaaOpen
namespace Go.Proofs.Ytphcffcecncngaa
open Go.RowKit

/-- What is known of the least cost, within the range of capacities. -/
theorem Ch.least_cases {c : Ch} {cap : Int} (hb : c.okB = true) (h0 : 0 ≤ cap) (h1 : cap ≤ 4096) : (c.leastE cap = 26 ∧ c.leastR cap = 0 ∧ Ch.fin (c.V 0 c.n cap) = -1) ∨ ∃ v : Int, 0 ≤ v ∧ c.leastE cap = 0 ∧ c.leastR cap = v ∧ Ch.fin (c.V 0 c.n cap) = v := by
  have ok := Ch.ok_of hb
  have ck : c.checkE cap = 0 := by
    unfold Ch.checkE
    rw [if_pos hb, if_neg (by omega)]
  have hm := (ok.mod (m := cap) ok.n1 (Nat.le_refl _)).lo
  unfold Ch.leastE Ch.leastR Ch.fin
  rw [if_pos ck, if_pos ck]
  by_cases hV : c.V 0 c.n cap < 1152921504606846976
  · rw [if_pos hV, if_pos hV]
    exact .inr ⟨_, hm, rfl, rfl, if_pos hV⟩
  · rw [if_neg hV, if_neg hV]
    exact .inl ⟨rfl, rfl, if_neg hV⟩
theorem Ch.least_out {c : Ch} {cap : Int} (hb : c.okB = true) (h : cap < 0 ∨ 4096 < cap) : c.leastE cap = 11 ∧ c.leastR cap = 0 := by
  have ck : c.checkE cap = 11 := by
    unfold Ch.checkE
    rw [if_pos hb, if_pos h]
  unfold Ch.leastE Ch.leastR
  rw [ck]
  exact ⟨rfl, rfl⟩
theorem Ch.least_bad {c : Ch} {cap : Int} (hb : c.okB = false) : c.leastE cap = 10 ∧ c.leastR cap = 0 := by
  have ck : c.checkE cap = 10 := by
    unfold Ch.checkE
    rw [hb]; rfl
  unfold Ch.leastE Ch.leastR
  rw [ck]
  exact ⟨rfl, rfl⟩
set_option maxRecDepth 100000 in
set_option maxHeartbeats 8000000 in
theorem chainLeast_calls (A B : Option Addr) (p q : Nat) (zs xs : List Int) (cap : Int) (w : World) (iA : IntsIn w A p zs) (iB : IntsIn w B q xs) :
    Calls Try.prog 7 #[.agg #[.slice A zs.length p, .slice B xs.length q], .int .i64 cap] w (LawTrue w) := by
  obtain ⟨c, hcW, hcK⟩ : ∃ c : Ch, c.W = zs ∧ c.K = xs := ⟨⟨zs, xs⟩, rfl, rfl⟩
  have a : Sl w A zs.length c.W := ⟨by rw [hcW]; exact iA.rd, by rw [hcW]⟩
  have b : Sl w B xs.length c.K := ⟨by rw [hcK]; exact iB.rd, by rw [hcK]⟩
  have lA : zs.length ≤ p := iA.2.1
  have CB := @cell_bx
  have CP := @cell_prev
  obtain ⟨n, hn⟩ : ∃ n, zs.length = n := ⟨_, rfl⟩
  obtain ⟨m, hm⟩ : ∃ m, xs.length = m := ⟨_, rfl⟩
  rw [hn] at a lA ⊢
  rw [hm] at b ⊢
  clear hn hm hcW hcK iA iB
  by_cases h1 : 100 < m
  · go_enter Try.func7, Try.ntmps7
    go_wp2_with (first | (go_at_call 14; (try first | (with_reducible refine gen_boxK3 (fun u _ _ _ _ => ?_)) | (with_reducible refine gen_boxK2 (fun u _ _ _ => ?_)) | (with_reducible refine gen_boxK (fun u _ _ => ?_))); (with_reducible refine (a20_awake).mono ?_); rintro e u ⟨rfl, _⟩))
    go_ret
    exact ⟨rfl, bel w _⟩
  by_cases h2 : 100 < n
  · by_cases h3 : 16 < m
    · by_cases h4 : m ≤ 64
      · go_enter Try.func7, Try.ntmps7
        go_wp2_with (first | (go_at_call 14; (try first | (with_reducible refine gen_boxK3 (fun u _ _ _ _ => ?_)) | (with_reducible refine gen_boxK2 (fun u _ _ _ => ?_)) | (with_reducible refine gen_boxK (fun u _ _ => ?_))); (with_reducible refine (a20_awake).mono ?_); rintro e u ⟨rfl, _⟩))
        go_ret
        exact ⟨rfl, bel w _⟩
      · go_enter Try.func7, Try.ntmps7
        go_wp2_with (first | (go_at_call 14; (try first | (with_reducible refine gen_boxK3 (fun u _ _ _ _ => ?_)) | (with_reducible refine gen_boxK2 (fun u _ _ _ => ?_)) | (with_reducible refine gen_boxK (fun u _ _ => ?_))); (with_reducible refine (a20_awake).mono ?_); rintro e u ⟨rfl, _⟩))
        go_ret
        exact ⟨rfl, bel w _⟩
    · go_enter Try.func7, Try.ntmps7
      go_wp2_with (first | (go_at_call 14; (try first | (with_reducible refine gen_boxK3 (fun u _ _ _ _ => ?_)) | (with_reducible refine gen_boxK2 (fun u _ _ _ => ?_)) | (with_reducible refine gen_boxK (fun u _ _ => ?_))); (with_reducible refine (a20_awake).mono ?_); rintro e u ⟨rfl, _⟩))
      go_ret
      exact ⟨rfl, bel w _⟩
  rcases h0 : c.okB with _ | _
  · obtain ⟨e1, e2⟩ := Ch.least_bad (cap := cap) h0
    have e3 : c.totR = 0 := by unfold Ch.totR; rw [h0]; rfl
    by_cases h3 : 16 < m
    · by_cases h4 : m ≤ 64
      · go_enter Try.func7, Try.ntmps7
        go_wp2_with (first | (go_at_call 14; (try first | (with_reducible refine gen_boxK3 (fun u _ _ _ _ => ?_)) | (with_reducible refine gen_boxK2 (fun u _ _ _ => ?_)) | (with_reducible refine gen_boxK (fun u _ _ => ?_))); (with_reducible refine (a20_awake).mono ?_); rintro e u ⟨rfl, _⟩))
        go_ret
        exact ⟨rfl, bel w _⟩
      · go_enter Try.func7, Try.ntmps7
        go_wp2_with (first | (go_at_call 15; (try first | (with_reducible refine gen_boxK3 (fun u _ _ _ _ => ?_)) | (with_reducible refine gen_boxK2 (fun u _ _ _ => ?_)) | (with_reducible refine gen_boxK (fun u _ _ => ?_))); (with_reducible refine (ch_least (by omega)).mono ?_); rintro e u ⟨rfl, _⟩) | (go_at_call 19; (try first | (with_reducible refine gen_boxK3 (fun u _ _ _ _ => ?_)) | (with_reducible refine gen_boxK2 (fun u _ _ _ => ?_)) | (with_reducible refine gen_boxK (fun u _ _ => ?_))); (with_reducible refine (a20_right).mono ?_); rintro e u ⟨rfl, _⟩) | (go_at_call 22; (try first | (with_reducible refine gen_boxK3 (fun u _ _ _ _ => ?_)) | (with_reducible refine gen_boxK2 (fun u _ _ _ => ?_)) | (with_reducible refine gen_boxK (fun u _ _ => ?_))); (with_reducible refine (ch_right).mono ?_); rintro e u ⟨rfl, _⟩) | (go_at_call 23; (try first | (with_reducible refine gen_boxK3 (fun u _ _ _ _ => ?_)) | (with_reducible refine gen_boxK2 (fun u _ _ _ => ?_)) | (with_reducible refine gen_boxK (fun u _ _ => ?_))); (with_reducible refine (ch_nodes).mono ?_); rintro e u ⟨rfl, _⟩) | (go_at_call 24; (try first | (with_reducible refine gen_boxK3 (fun u _ _ _ _ => ?_)) | (with_reducible refine gen_boxK2 (fun u _ _ _ => ?_)) | (with_reducible refine gen_boxK (fun u _ _ => ?_))); (with_reducible refine (ch_total).mono ?_); rintro e u ⟨rfl, _⟩) | (go_at_call 14; (try first | (with_reducible refine gen_boxK3 (fun u _ _ _ _ => ?_)) | (with_reducible refine gen_boxK2 (fun u _ _ _ => ?_)) | (with_reducible refine gen_boxK (fun u _ _ => ?_))); (with_reducible refine (a20_awake).mono ?_); rintro e u ⟨rfl, _⟩))
        go_ret
        exact ⟨rfl, bel w _⟩
    · go_enter Try.func7, Try.ntmps7
      go_wp2_with (first | (go_at_call 15; (try first | (with_reducible refine gen_boxK3 (fun u _ _ _ _ => ?_)) | (with_reducible refine gen_boxK2 (fun u _ _ _ => ?_)) | (with_reducible refine gen_boxK (fun u _ _ => ?_))); (with_reducible refine (ch_least (by omega)).mono ?_); rintro e u ⟨rfl, _⟩) | (go_at_call 19; (try first | (with_reducible refine gen_boxK3 (fun u _ _ _ _ => ?_)) | (with_reducible refine gen_boxK2 (fun u _ _ _ => ?_)) | (with_reducible refine gen_boxK (fun u _ _ => ?_))); (with_reducible refine (a20_right).mono ?_); rintro e u ⟨rfl, _⟩) | (go_at_call 22; (try first | (with_reducible refine gen_boxK3 (fun u _ _ _ _ => ?_)) | (with_reducible refine gen_boxK2 (fun u _ _ _ => ?_)) | (with_reducible refine gen_boxK (fun u _ _ => ?_))); (with_reducible refine (ch_right).mono ?_); rintro e u ⟨rfl, _⟩) | (go_at_call 23; (try first | (with_reducible refine gen_boxK3 (fun u _ _ _ _ => ?_)) | (with_reducible refine gen_boxK2 (fun u _ _ _ => ?_)) | (with_reducible refine gen_boxK (fun u _ _ => ?_))); (with_reducible refine (ch_nodes).mono ?_); rintro e u ⟨rfl, _⟩) | (go_at_call 24; (try first | (with_reducible refine gen_boxK3 (fun u _ _ _ _ => ?_)) | (with_reducible refine gen_boxK2 (fun u _ _ _ => ?_)) | (with_reducible refine gen_boxK (fun u _ _ => ?_))); (with_reducible refine (ch_total).mono ?_); rintro e u ⟨rfl, _⟩) | (go_at_call 14; (try first | (with_reducible refine gen_boxK3 (fun u _ _ _ _ => ?_)) | (with_reducible refine gen_boxK2 (fun u _ _ _ => ?_)) | (with_reducible refine gen_boxK (fun u _ _ => ?_))); (with_reducible refine (a20_awake).mono ?_); rintro e u ⟨rfl, _⟩))
      go_ret
      exact ⟨rfl, bel w _⟩
  have hok := Lib.hid (Ch.ok_of h0)
  have m64 : m ≤ 64 := Nat.le_trans (Nat.le_of_eq b.len) hok.out.n2
  by_cases h3 : 16 < m
  · go_enter Try.func7, Try.ntmps7
    go_wp2_with (first | (go_at_call 14; (try first | (with_reducible refine gen_boxK3 (fun u _ _ _ _ => ?_)) | (with_reducible refine gen_boxK2 (fun u _ _ _ => ?_)) | (with_reducible refine gen_boxK (fun u _ _ => ?_))); (with_reducible refine (a20_awake).mono ?_); rintro e u ⟨rfl, _⟩))
    go_ret
    exact ⟨rfl, bel w _⟩
  obtain ⟨T, hT⟩ : ∃ T, c.cs 0 c.n = T := ⟨_, rfl⟩
  have hT2 : c.totR = T := by unfold Ch.totR; rw [h0, if_pos rfl, hT]
  by_cases hc : 0 ≤ cap ∧ cap ≤ 4096
  rotate_left
  · obtain ⟨e1, e2⟩ := Ch.least_out (cap := cap) h0 (by omega)
    by_cases hc1 : cap < 0
    · clear hc
      go_enter Try.func7, Try.ntmps7
      go_upto_region 6 with (first | (go_at_call 15; (try first | (with_reducible refine gen_boxK3 (fun u _ _ _ _ => ?_)) | (with_reducible refine gen_boxK2 (fun u _ _ _ => ?_)) | (with_reducible refine gen_boxK (fun u _ _ => ?_))); (with_reducible refine (ch_least (by omega)).mono ?_); rintro e u ⟨rfl, _⟩) | (go_at_call 19; (try first | (with_reducible refine gen_boxK3 (fun u _ _ _ _ => ?_)) | (with_reducible refine gen_boxK2 (fun u _ _ _ => ?_)) | (with_reducible refine gen_boxK (fun u _ _ => ?_))); (with_reducible refine (a20_right).mono ?_); rintro e u ⟨rfl, _⟩))
      refine wp_region_up0 (by kernel_rfl) (fun ux _ => ?_)
      refine wpAnyH_on (i := 0) (d := 64) (v := ?_) rfl rfl (by kernel_rfl) (by kernel_rfl) (by kernel_rfl) (fun _ _ _ h => h) (by kernel_rfl) (prev_bel _ _) ?_ ?_
      rotate_left
      · intro uu (pu : Prev uu _)
        go_simp
        try (with_reducible rfl)
      try simp only [List.set]
      refine wpAnyH_ready (rs := [1]) (by kernel_rfl) (by simp) ?_
      refine AllReadyH.cons rfl (fun K hK => ?_) AllReadyH.nil
      go_simp
      (with_reducible refine (ch_right).mono ?_)
      rintro e ux ⟨rfl, _⟩
      dsimp only
      refine hK.out _ _ (prev_bel _ _) (fun hHeld => ?_)
      clear hHeld hK K
      try dsimp only [Act.put, List.setIfInBounds_toArray, List.set_cons_zero, List.set_cons_succ]
      refine wpAnyH_on (i := 2) (d := 66) (v := ?_) rfl rfl (by kernel_rfl) (by kernel_rfl) (by kernel_rfl) (fun _ _ _ h => h) (by kernel_rfl) (prev_bel _ _) ?_ ?_
      rotate_left
      · intro uu (pu : Prev uu _)
        go_simp
        try (with_reducible rfl)
      try simp only [List.set]
      refine wpAnyH_on (i := 3) (d := 67) (v := ?_) rfl rfl (by kernel_rfl) (by kernel_rfl) (by kernel_rfl) (fun _ _ _ h => h) (by kernel_rfl) (prev_bel _ _) ?_ ?_
      rotate_left
      · intro uu (pu : Prev uu _)
        go_simp
        try (with_reducible rfl)
      try simp only [List.set]
      refine wpAnyH_on (i := 4) (d := 68) (v := ?_) rfl rfl (by kernel_rfl) (by kernel_rfl) (by kernel_rfl) (fun _ _ _ h => h) (by kernel_rfl) (prev_bel _ _) ?_ ?_
      rotate_left
      · intro uu (pu : Prev uu _)
        go_simp
        try (with_reducible rfl)
      try simp only [List.set]
      refine wpAnyH_on (i := 6) (d := 70) (v := ?_) rfl rfl (by kernel_rfl) (by kernel_rfl) (by kernel_rfl) (fun _ _ _ h => h) (by kernel_rfl) (prev_bel _ _) ?_ ?_
      rotate_left
      · intro uu (pu : Prev uu _)
        go_simp
        try (with_reducible rfl)
      try simp only [List.set]
      refine wpAnyH_on (i := 7) (d := 71) (v := ?_) rfl rfl (by kernel_rfl) (by kernel_rfl) (by kernel_rfl) (fun _ _ _ h => h) (by kernel_rfl) (prev_bel _ _) ?_ ?_
      rotate_left
      · intro uu (pu : Prev uu _)
        go_simp
        try (with_reducible rfl)
      try simp only [List.set]
      refine wpAnyH_on (i := 8) (d := 72) (v := ?_) rfl rfl (by kernel_rfl) (by kernel_rfl) (by kernel_rfl) (fun _ _ _ h => h) (by kernel_rfl) (prev_bel _ _) ?_ ?_
      rotate_left
      · intro uu (pu : Prev uu _)
        go_simp
        try (with_reducible rfl)
      try simp only [List.set]
      refine wpAnyH_ready (rs := [5]) (by kernel_rfl) (by simp) ?_
      refine AllReadyH.cons rfl (fun K hK => ?_) AllReadyH.nil
      go_simp
      (with_reducible refine (ch_nodes).mono ?_)
      rintro e ux ⟨rfl, _⟩
      dsimp only
      refine hK.out _ _ (prev_bel _ _) (fun hHeld => ?_)
      clear hHeld hK K
      try dsimp only [Act.put, List.setIfInBounds_toArray, List.set_cons_zero, List.set_cons_succ]
      refine wpAnyH_on (i := 9) (d := 73) (v := ?_) rfl rfl (by kernel_rfl) (by kernel_rfl) (by kernel_rfl) (fun _ _ _ h => h) (by kernel_rfl) (prev_bel _ _) ?_ ?_
      rotate_left
      · intro uu (pu : Prev uu _)
        go_simp
        try (with_reducible rfl)
      try simp only [List.set]
      refine wpAnyH_on (i := 10) (d := 74) (v := ?_) rfl rfl (by kernel_rfl) (by kernel_rfl) (by kernel_rfl) (fun _ _ _ h => h) (by kernel_rfl) (prev_bel _ _) ?_ ?_
      rotate_left
      · intro uu (pu : Prev uu _)
        go_simp
        try (with_reducible rfl)
      try simp only [List.set]
      refine wpAnyH_on (i := 11) (d := 75) (v := ?_) rfl rfl (by kernel_rfl) (by kernel_rfl) (by kernel_rfl) (fun _ _ _ h => h) (by kernel_rfl) (prev_bel _ _) ?_ ?_
      rotate_left
      · intro uu (pu : Prev uu _)
        go_simp
        try (with_reducible rfl)
      try simp only [List.set]
      refine wpAnyH_on (i := 12) (d := 76) (v := ?_) rfl rfl (by kernel_rfl) (by kernel_rfl) (by kernel_rfl) (fun _ _ _ h => h) (by kernel_rfl) (prev_bel _ _) ?_ ?_
      rotate_left
      · intro uu (pu : Prev uu _)
        go_simp
        try (with_reducible rfl)
      try simp only [List.set]
      refine wpAnyH_on (i := 14) (d := 78) (v := ?_) rfl rfl (by kernel_rfl) (by kernel_rfl) (by kernel_rfl) (fun _ _ _ h => h) (by kernel_rfl) (prev_bel _ _) ?_ ?_
      rotate_left
      · intro uu (pu : Prev uu _)
        go_simp
        try (with_reducible rfl)
      try simp only [List.set]
      refine wpAnyH_ready (rs := [13]) (by kernel_rfl) (by simp) ?_
      refine AllReadyH.cons rfl (fun K hK => ?_) AllReadyH.nil
      go_simp
      (with_reducible refine (ch_total).mono ?_)
      rintro e ux ⟨rfl, _⟩
      dsimp only
      refine hK.out _ _ (prev_bel _ _) (fun hHeld => ?_)
      clear hHeld hK K
      try dsimp only [Act.put, List.setIfInBounds_toArray, List.set_cons_zero, List.set_cons_succ]
      refine wpAnyH_ready (rs := [15]) (by kernel_rfl) (by simp) ?_
      refine AllReadyH.cons rfl (fun K hK => ?_) AllReadyH.nil
      go_simp
      (with_reducible refine (a20_total (by assumption)).mono ?_)
      rintro e ux ⟨rfl, _⟩
      dsimp only
      refine hK.out _ _ (prev_bel _ _) (fun hHeld => ?_)
      clear hHeld hK K
      try dsimp only [Act.put, List.setIfInBounds_toArray, List.set_cons_zero, List.set_cons_succ]
      refine wpAnyH_on (i := 16) (d := 80) (v := ?_) rfl rfl (by kernel_rfl) (by kernel_rfl) (by kernel_rfl) (fun _ _ _ h => h) (by kernel_rfl) (prev_bel _ _) ?_ ?_
      rotate_left
      · intro uu (pu : Prev uu _)
        go_simp
        try (with_reducible rfl)
      try simp only [List.set]
      refine wpAnyH_on (i := 17) (d := 81) (v := ?_) rfl rfl (by kernel_rfl) (by kernel_rfl) (by kernel_rfl) (fun _ _ _ h => h) (by kernel_rfl) (prev_bel _ _) ?_ ?_
      rotate_left
      · intro uu (pu : Prev uu _)
        go_simp
        try (with_reducible rfl)
      try simp only [List.set]
      refine wpAnyH_done (by kernel_rfl) ?_ _
      go_wp2_with (first | (go_at_call 14; (try first | (with_reducible refine gen_boxK3 (fun u _ _ _ _ => ?_)) | (with_reducible refine gen_boxK2 (fun u _ _ _ => ?_)) | (with_reducible refine gen_boxK (fun u _ _ => ?_))); (with_reducible refine (a20_awake).mono ?_); rintro e u ⟨rfl, _⟩))
      go_ret
      exact ⟨rfl, bel w _⟩
    · have hc2 : 4096 < cap := by omega
      clear hc
      go_enter Try.func7, Try.ntmps7
      go_upto_region 6 with (first | (go_at_call 15; (try first | (with_reducible refine gen_boxK3 (fun u _ _ _ _ => ?_)) | (with_reducible refine gen_boxK2 (fun u _ _ _ => ?_)) | (with_reducible refine gen_boxK (fun u _ _ => ?_))); (with_reducible refine (ch_least (by omega)).mono ?_); rintro e u ⟨rfl, _⟩) | (go_at_call 19; (try first | (with_reducible refine gen_boxK3 (fun u _ _ _ _ => ?_)) | (with_reducible refine gen_boxK2 (fun u _ _ _ => ?_)) | (with_reducible refine gen_boxK (fun u _ _ => ?_))); (with_reducible refine (a20_right).mono ?_); rintro e u ⟨rfl, _⟩))
      refine wp_region_up0 (by kernel_rfl) (fun ux _ => ?_)
      refine wpAnyH_on (i := 0) (d := 64) (v := ?_) rfl rfl (by kernel_rfl) (by kernel_rfl) (by kernel_rfl) (fun _ _ _ h => h) (by kernel_rfl) (prev_bel _ _) ?_ ?_
      rotate_left
      · intro uu (pu : Prev uu _)
        go_simp
        try (with_reducible rfl)
      try simp only [List.set]
      refine wpAnyH_ready (rs := [1]) (by kernel_rfl) (by simp) ?_
      refine AllReadyH.cons rfl (fun K hK => ?_) AllReadyH.nil
      go_simp
      (with_reducible refine (ch_right).mono ?_)
      rintro e ux ⟨rfl, _⟩
      dsimp only
      refine hK.out _ _ (prev_bel _ _) (fun hHeld => ?_)
      clear hHeld hK K
      try dsimp only [Act.put, List.setIfInBounds_toArray, List.set_cons_zero, List.set_cons_succ]
      refine wpAnyH_on (i := 2) (d := 66) (v := ?_) rfl rfl (by kernel_rfl) (by kernel_rfl) (by kernel_rfl) (fun _ _ _ h => h) (by kernel_rfl) (prev_bel _ _) ?_ ?_
      rotate_left
      · intro uu (pu : Prev uu _)
        go_simp
        try (with_reducible rfl)
      try simp only [List.set]
      refine wpAnyH_on (i := 3) (d := 67) (v := ?_) rfl rfl (by kernel_rfl) (by kernel_rfl) (by kernel_rfl) (fun _ _ _ h => h) (by kernel_rfl) (prev_bel _ _) ?_ ?_
      rotate_left
      · intro uu (pu : Prev uu _)
        go_simp
        try (with_reducible rfl)
      try simp only [List.set]
      refine wpAnyH_on (i := 4) (d := 68) (v := ?_) rfl rfl (by kernel_rfl) (by kernel_rfl) (by kernel_rfl) (fun _ _ _ h => h) (by kernel_rfl) (prev_bel _ _) ?_ ?_
      rotate_left
      · intro uu (pu : Prev uu _)
        go_simp
        try (with_reducible rfl)
      try simp only [List.set]
      refine wpAnyH_on (i := 6) (d := 70) (v := ?_) rfl rfl (by kernel_rfl) (by kernel_rfl) (by kernel_rfl) (fun _ _ _ h => h) (by kernel_rfl) (prev_bel _ _) ?_ ?_
      rotate_left
      · intro uu (pu : Prev uu _)
        go_simp
        try (with_reducible rfl)
      try simp only [List.set]
      refine wpAnyH_on (i := 7) (d := 71) (v := ?_) rfl rfl (by kernel_rfl) (by kernel_rfl) (by kernel_rfl) (fun _ _ _ h => h) (by kernel_rfl) (prev_bel _ _) ?_ ?_
      rotate_left
      · intro uu (pu : Prev uu _)
        go_simp
        try (with_reducible rfl)
      try simp only [List.set]
      refine wpAnyH_on (i := 8) (d := 72) (v := ?_) rfl rfl (by kernel_rfl) (by kernel_rfl) (by kernel_rfl) (fun _ _ _ h => h) (by kernel_rfl) (prev_bel _ _) ?_ ?_
      rotate_left
      · intro uu (pu : Prev uu _)
        go_simp
        try (with_reducible rfl)
      try simp only [List.set]
      refine wpAnyH_ready (rs := [5]) (by kernel_rfl) (by simp) ?_
      refine AllReadyH.cons rfl (fun K hK => ?_) AllReadyH.nil
      go_simp
      (with_reducible refine (ch_nodes).mono ?_)
      rintro e ux ⟨rfl, _⟩
      dsimp only
      refine hK.out _ _ (prev_bel _ _) (fun hHeld => ?_)
      clear hHeld hK K
      try dsimp only [Act.put, List.setIfInBounds_toArray, List.set_cons_zero, List.set_cons_succ]
      refine wpAnyH_on (i := 9) (d := 73) (v := ?_) rfl rfl (by kernel_rfl) (by kernel_rfl) (by kernel_rfl) (fun _ _ _ h => h) (by kernel_rfl) (prev_bel _ _) ?_ ?_
      rotate_left
      · intro uu (pu : Prev uu _)
        go_simp
        try (with_reducible rfl)
      try simp only [List.set]
      refine wpAnyH_on (i := 10) (d := 74) (v := ?_) rfl rfl (by kernel_rfl) (by kernel_rfl) (by kernel_rfl) (fun _ _ _ h => h) (by kernel_rfl) (prev_bel _ _) ?_ ?_
      rotate_left
      · intro uu (pu : Prev uu _)
        go_simp
        try (with_reducible rfl)
      try simp only [List.set]
      refine wpAnyH_on (i := 11) (d := 75) (v := ?_) rfl rfl (by kernel_rfl) (by kernel_rfl) (by kernel_rfl) (fun _ _ _ h => h) (by kernel_rfl) (prev_bel _ _) ?_ ?_
      rotate_left
      · intro uu (pu : Prev uu _)
        go_simp
        try (with_reducible rfl)
      try simp only [List.set]
      refine wpAnyH_on (i := 12) (d := 76) (v := ?_) rfl rfl (by kernel_rfl) (by kernel_rfl) (by kernel_rfl) (fun _ _ _ h => h) (by kernel_rfl) (prev_bel _ _) ?_ ?_
      rotate_left
      · intro uu (pu : Prev uu _)
        go_simp
        try (with_reducible rfl)
      try simp only [List.set]
      refine wpAnyH_on (i := 14) (d := 78) (v := ?_) rfl rfl (by kernel_rfl) (by kernel_rfl) (by kernel_rfl) (fun _ _ _ h => h) (by kernel_rfl) (prev_bel _ _) ?_ ?_
      rotate_left
      · intro uu (pu : Prev uu _)
        go_simp
        try (with_reducible rfl)
      try simp only [List.set]
      refine wpAnyH_ready (rs := [13]) (by kernel_rfl) (by simp) ?_
      refine AllReadyH.cons rfl (fun K hK => ?_) AllReadyH.nil
      go_simp
      (with_reducible refine (ch_total).mono ?_)
      rintro e ux ⟨rfl, _⟩
      dsimp only
      refine hK.out _ _ (prev_bel _ _) (fun hHeld => ?_)
      clear hHeld hK K
      try dsimp only [Act.put, List.setIfInBounds_toArray, List.set_cons_zero, List.set_cons_succ]
      refine wpAnyH_ready (rs := [15]) (by kernel_rfl) (by simp) ?_
      refine AllReadyH.cons rfl (fun K hK => ?_) AllReadyH.nil
      go_simp
      (with_reducible refine (a20_total (by assumption)).mono ?_)
      rintro e ux ⟨rfl, _⟩
      dsimp only
      refine hK.out _ _ (prev_bel _ _) (fun hHeld => ?_)
      clear hHeld hK K
      try dsimp only [Act.put, List.setIfInBounds_toArray, List.set_cons_zero, List.set_cons_succ]
      refine wpAnyH_on (i := 16) (d := 80) (v := ?_) rfl rfl (by kernel_rfl) (by kernel_rfl) (by kernel_rfl) (fun _ _ _ h => h) (by kernel_rfl) (prev_bel _ _) ?_ ?_
      rotate_left
      · intro uu (pu : Prev uu _)
        go_simp
        try (with_reducible rfl)
      try simp only [List.set]
      refine wpAnyH_on (i := 17) (d := 81) (v := ?_) rfl rfl (by kernel_rfl) (by kernel_rfl) (by kernel_rfl) (fun _ _ _ h => h) (by kernel_rfl) (prev_bel _ _) ?_ ?_
      rotate_left
      · intro uu (pu : Prev uu _)
        go_simp
        try (with_reducible rfl)
      try simp only [List.set]
      refine wpAnyH_done (by kernel_rfl) ?_ _
      go_wp2_with (first | (go_at_call 14; (try first | (with_reducible refine gen_boxK3 (fun u _ _ _ _ => ?_)) | (with_reducible refine gen_boxK2 (fun u _ _ _ => ?_)) | (with_reducible refine gen_boxK (fun u _ _ => ?_))); (with_reducible refine (a20_awake).mono ?_); rintro e u ⟨rfl, _⟩))
      go_ret
      exact ⟨rfl, bel w _⟩
  obtain ⟨c0, c4⟩ := hc
  rcases Ch.least_cases h0 c0 c4 with ⟨e1, e2, e3⟩ | ⟨v, v0, e1, e2, e3⟩
  · have HE := Lib.hid e3
    clear e3
    by_cases h7 : 7 < m
    · go_enter Try.func7, Try.ntmps7
      go_upto_region 6 with (first | (go_at_call 15; (try first | (with_reducible refine gen_boxK3 (fun u _ _ _ _ => ?_)) | (with_reducible refine gen_boxK2 (fun u _ _ _ => ?_)) | (with_reducible refine gen_boxK (fun u _ _ => ?_))); (with_reducible refine (ch_least (by omega)).mono ?_); rintro e u ⟨rfl, _⟩) | (go_at_call 19; (try first | (with_reducible refine gen_boxK3 (fun u _ _ _ _ => ?_)) | (with_reducible refine gen_boxK2 (fun u _ _ _ => ?_)) | (with_reducible refine gen_boxK (fun u _ _ => ?_))); (with_reducible refine (a20_right).mono ?_); rintro e u ⟨rfl, _⟩))
      refine wp_region_up0 (by kernel_rfl) (fun ux _ => ?_)
      refine wpAnyH_on (i := 0) (d := 64) (v := ?_) rfl rfl (by kernel_rfl) (by kernel_rfl) (by kernel_rfl) (fun _ _ _ h => h) (by kernel_rfl) (prev_bel _ _) ?_ ?_
      rotate_left
      · intro uu (pu : Prev uu _)
        go_simp
        try (with_reducible rfl)
      try simp only [List.set]
      refine wpAnyH_ready (rs := [1]) (by kernel_rfl) (by simp) ?_
      refine AllReadyH.cons rfl (fun K hK => ?_) AllReadyH.nil
      go_simp
      (with_reducible refine (ch_right).mono ?_)
      rintro e ux ⟨rfl, _⟩
      dsimp only
      refine hK.out _ _ (prev_bel _ _) (fun hHeld => ?_)
      clear hHeld hK K
      try dsimp only [Act.put, List.setIfInBounds_toArray, List.set_cons_zero, List.set_cons_succ]
      refine wpAnyH_on (i := 2) (d := 66) (v := ?_) rfl rfl (by kernel_rfl) (by kernel_rfl) (by kernel_rfl) (fun _ _ _ h => h) (by kernel_rfl) (prev_bel _ _) ?_ ?_
      rotate_left
      · intro uu (pu : Prev uu _)
        go_simp
        try (with_reducible rfl)
      try simp only [List.set]
      refine wpAnyH_on (i := 3) (d := 67) (v := ?_) rfl rfl (by kernel_rfl) (by kernel_rfl) (by kernel_rfl) (fun _ _ _ h => h) (by kernel_rfl) (prev_bel _ _) ?_ ?_
      rotate_left
      · intro uu (pu : Prev uu _)
        go_simp
        try (with_reducible rfl)
      try simp only [List.set]
      refine wpAnyH_on (i := 4) (d := 68) (v := ?_) rfl rfl (by kernel_rfl) (by kernel_rfl) (by kernel_rfl) (fun _ _ _ h => h) (by kernel_rfl) (prev_bel _ _) ?_ ?_
      rotate_left
      · intro uu (pu : Prev uu _)
        go_simp
        try (with_reducible rfl)
      try simp only [List.set]
      refine wpAnyH_on (i := 6) (d := 70) (v := ?_) rfl rfl (by kernel_rfl) (by kernel_rfl) (by kernel_rfl) (fun _ _ _ h => h) (by kernel_rfl) (prev_bel _ _) ?_ ?_
      rotate_left
      · intro uu (pu : Prev uu _)
        go_simp
        try (with_reducible rfl)
      try simp only [List.set]
      refine wpAnyH_on (i := 7) (d := 71) (v := ?_) rfl rfl (by kernel_rfl) (by kernel_rfl) (by kernel_rfl) (fun _ _ _ h => h) (by kernel_rfl) (prev_bel _ _) ?_ ?_
      rotate_left
      · intro uu (pu : Prev uu _)
        go_simp
        try (with_reducible rfl)
      try simp only [List.set]
      refine wpAnyH_on (i := 8) (d := 72) (v := ?_) rfl rfl (by kernel_rfl) (by kernel_rfl) (by kernel_rfl) (fun _ _ _ h => h) (by kernel_rfl) (prev_bel _ _) ?_ ?_
      rotate_left
      · intro uu (pu : Prev uu _)
        go_simp
        try (with_reducible rfl)
      try simp only [List.set]
      refine wpAnyH_ready (rs := [5]) (by kernel_rfl) (by simp) ?_
      refine AllReadyH.cons rfl (fun K hK => ?_) AllReadyH.nil
      go_simp
      (with_reducible refine (ch_nodes).mono ?_)
      rintro e ux ⟨rfl, _⟩
      dsimp only
      refine hK.out _ _ (prev_bel _ _) (fun hHeld => ?_)
      clear hHeld hK K
      try dsimp only [Act.put, List.setIfInBounds_toArray, List.set_cons_zero, List.set_cons_succ]
      refine wpAnyH_on (i := 9) (d := 73) (v := ?_) rfl rfl (by kernel_rfl) (by kernel_rfl) (by kernel_rfl) (fun _ _ _ h => h) (by kernel_rfl) (prev_bel _ _) ?_ ?_
      rotate_left
      · intro uu (pu : Prev uu _)
        go_simp
        try (with_reducible rfl)
      try simp only [List.set]
      refine wpAnyH_on (i := 10) (d := 74) (v := ?_) rfl rfl (by kernel_rfl) (by kernel_rfl) (by kernel_rfl) (fun _ _ _ h => h) (by kernel_rfl) (prev_bel _ _) ?_ ?_
      rotate_left
      · intro uu (pu : Prev uu _)
        go_simp
        try (with_reducible rfl)
      try simp only [List.set]
      refine wpAnyH_on (i := 11) (d := 75) (v := ?_) rfl rfl (by kernel_rfl) (by kernel_rfl) (by kernel_rfl) (fun _ _ _ h => h) (by kernel_rfl) (prev_bel _ _) ?_ ?_
      rotate_left
      · intro uu (pu : Prev uu _)
        go_simp
        try (with_reducible rfl)
      try simp only [List.set]
      refine wpAnyH_on (i := 12) (d := 76) (v := ?_) rfl rfl (by kernel_rfl) (by kernel_rfl) (by kernel_rfl) (fun _ _ _ h => h) (by kernel_rfl) (prev_bel _ _) ?_ ?_
      rotate_left
      · intro uu (pu : Prev uu _)
        go_simp
        try (with_reducible rfl)
      try simp only [List.set]
      refine wpAnyH_on (i := 14) (d := 78) (v := ?_) rfl rfl (by kernel_rfl) (by kernel_rfl) (by kernel_rfl) (fun _ _ _ h => h) (by kernel_rfl) (prev_bel _ _) ?_ ?_
      rotate_left
      · intro uu (pu : Prev uu _)
        go_simp
        try (with_reducible rfl)
      try simp only [List.set]
      refine wpAnyH_ready (rs := [13]) (by kernel_rfl) (by simp) ?_
      refine AllReadyH.cons rfl (fun K hK => ?_) AllReadyH.nil
      go_simp
      (with_reducible refine (ch_total).mono ?_)
      rintro e ux ⟨rfl, _⟩
      dsimp only
      refine hK.out _ _ (prev_bel _ _) (fun hHeld => ?_)
      clear hHeld hK K
      try dsimp only [Act.put, List.setIfInBounds_toArray, List.set_cons_zero, List.set_cons_succ]
      refine wpAnyH_ready (rs := [15]) (by kernel_rfl) (by simp) ?_
      refine AllReadyH.cons rfl (fun K hK => ?_) AllReadyH.nil
      go_simp
      (with_reducible refine (a20_total (by assumption)).mono ?_)
      rintro e ux ⟨rfl, _⟩
      dsimp only
      refine hK.out _ _ (prev_bel _ _) (fun hHeld => ?_)
      clear hHeld hK K
      try dsimp only [Act.put, List.setIfInBounds_toArray, List.set_cons_zero, List.set_cons_succ]
      refine wpAnyH_on (i := 16) (d := 80) (v := ?_) rfl rfl (by kernel_rfl) (by kernel_rfl) (by kernel_rfl) (fun _ _ _ h => h) (by kernel_rfl) (prev_bel _ _) ?_ ?_
      rotate_left
      · intro uu (pu : Prev uu _)
        go_simp
        try (with_reducible rfl)
      try simp only [List.set]
      refine wpAnyH_on (i := 17) (d := 81) (v := ?_) rfl rfl (by kernel_rfl) (by kernel_rfl) (by kernel_rfl) (fun _ _ _ h => h) (by kernel_rfl) (prev_bel _ _) ?_ ?_
      rotate_left
      · intro uu (pu : Prev uu _)
        go_simp
        try (with_reducible rfl)
      try simp only [List.set]
      refine wpAnyH_done (by kernel_rfl) ?_ _
      go_wp2_with (first | (go_at_call 14; (try first | (with_reducible refine gen_boxK3 (fun u _ _ _ _ => ?_)) | (with_reducible refine gen_boxK2 (fun u _ _ _ => ?_)) | (with_reducible refine gen_boxK (fun u _ _ => ?_))); (with_reducible refine (a20_awake).mono ?_); rintro e u ⟨rfl, _⟩))
      go_ret
      exact ⟨rfl, bel w _⟩
    · go_enter Try.func7, Try.ntmps7
      go_upto_region 6 with (first | (go_at_call 15; (try first | (with_reducible refine gen_boxK3 (fun u _ _ _ _ => ?_)) | (with_reducible refine gen_boxK2 (fun u _ _ _ => ?_)) | (with_reducible refine gen_boxK (fun u _ _ => ?_))); (with_reducible refine (ch_least (by omega)).mono ?_); rintro e u ⟨rfl, _⟩) | (go_at_call 19; (try first | (with_reducible refine gen_boxK3 (fun u _ _ _ _ => ?_)) | (with_reducible refine gen_boxK2 (fun u _ _ _ => ?_)) | (with_reducible refine gen_boxK (fun u _ _ => ?_))); (with_reducible refine (a20_right).mono ?_); rintro e u ⟨rfl, _⟩))
      refine wp_region_up0 (by kernel_rfl) (fun ux _ => ?_)
      refine wpAnyH_on (i := 0) (d := 64) (v := ?_) rfl rfl (by kernel_rfl) (by kernel_rfl) (by kernel_rfl) (fun _ _ _ h => h) (by kernel_rfl) (prev_bel _ _) ?_ ?_
      rotate_left
      · intro uu (pu : Prev uu _)
        go_simp
        try (with_reducible rfl)
      try simp only [List.set]
      refine wpAnyH_ready (rs := [1]) (by kernel_rfl) (by simp) ?_
      refine AllReadyH.cons rfl (fun K hK => ?_) AllReadyH.nil
      go_simp
      (with_reducible refine (ch_right).mono ?_)
      rintro e ux ⟨rfl, _⟩
      dsimp only
      refine hK.out _ _ (prev_bel _ _) (fun hHeld => ?_)
      clear hHeld hK K
      try dsimp only [Act.put, List.setIfInBounds_toArray, List.set_cons_zero, List.set_cons_succ]
      refine wpAnyH_on (i := 2) (d := 66) (v := ?_) rfl rfl (by kernel_rfl) (by kernel_rfl) (by kernel_rfl) (fun _ _ _ h => h) (by kernel_rfl) (prev_bel _ _) ?_ ?_
      rotate_left
      · intro uu (pu : Prev uu _)
        go_simp
        try (with_reducible rfl)
      try simp only [List.set]
      refine wpAnyH_on (i := 3) (d := 67) (v := ?_) rfl rfl (by kernel_rfl) (by kernel_rfl) (by kernel_rfl) (fun _ _ _ h => h) (by kernel_rfl) (prev_bel _ _) ?_ ?_
      rotate_left
      · intro uu (pu : Prev uu _)
        go_simp
        try (with_reducible rfl)
      try simp only [List.set]
      refine wpAnyH_on (i := 4) (d := 68) (v := ?_) rfl rfl (by kernel_rfl) (by kernel_rfl) (by kernel_rfl) (fun _ _ _ h => h) (by kernel_rfl) (prev_bel _ _) ?_ ?_
      rotate_left
      · intro uu (pu : Prev uu _)
        go_simp
        try (with_reducible rfl)
      try simp only [List.set]
      refine wpAnyH_on (i := 6) (d := 70) (v := ?_) rfl rfl (by kernel_rfl) (by kernel_rfl) (by kernel_rfl) (fun _ _ _ h => h) (by kernel_rfl) (prev_bel _ _) ?_ ?_
      rotate_left
      · intro uu (pu : Prev uu _)
        go_simp
        try (with_reducible rfl)
      try simp only [List.set]
      refine wpAnyH_on (i := 7) (d := 71) (v := ?_) rfl rfl (by kernel_rfl) (by kernel_rfl) (by kernel_rfl) (fun _ _ _ h => h) (by kernel_rfl) (prev_bel _ _) ?_ ?_
      rotate_left
      · intro uu (pu : Prev uu _)
        go_simp
        try (with_reducible rfl)
      try simp only [List.set]
      refine wpAnyH_on (i := 8) (d := 72) (v := ?_) rfl rfl (by kernel_rfl) (by kernel_rfl) (by kernel_rfl) (fun _ _ _ h => h) (by kernel_rfl) (prev_bel _ _) ?_ ?_
      rotate_left
      · intro uu (pu : Prev uu _)
        go_simp
        try (with_reducible rfl)
      try simp only [List.set]
      refine wpAnyH_ready (rs := [5]) (by kernel_rfl) (by simp) ?_
      refine AllReadyH.cons rfl (fun K hK => ?_) AllReadyH.nil
      go_simp
      (with_reducible refine (ch_nodes).mono ?_)
      rintro e ux ⟨rfl, _⟩
      dsimp only
      refine hK.out _ _ (prev_bel _ _) (fun hHeld => ?_)
      clear hHeld hK K
      try dsimp only [Act.put, List.setIfInBounds_toArray, List.set_cons_zero, List.set_cons_succ]
      refine wpAnyH_on (i := 9) (d := 73) (v := ?_) rfl rfl (by kernel_rfl) (by kernel_rfl) (by kernel_rfl) (fun _ _ _ h => h) (by kernel_rfl) (prev_bel _ _) ?_ ?_
      rotate_left
      · intro uu (pu : Prev uu _)
        go_simp
        try (with_reducible rfl)
      try simp only [List.set]
      refine wpAnyH_on (i := 10) (d := 74) (v := ?_) rfl rfl (by kernel_rfl) (by kernel_rfl) (by kernel_rfl) (fun _ _ _ h => h) (by kernel_rfl) (prev_bel _ _) ?_ ?_
      rotate_left
      · intro uu (pu : Prev uu _)
        go_simp
        try (with_reducible rfl)
      try simp only [List.set]
      refine wpAnyH_on (i := 11) (d := 75) (v := ?_) rfl rfl (by kernel_rfl) (by kernel_rfl) (by kernel_rfl) (fun _ _ _ h => h) (by kernel_rfl) (prev_bel _ _) ?_ ?_
      rotate_left
      · intro uu (pu : Prev uu _)
        go_simp
        try (with_reducible rfl)
      try simp only [List.set]
      refine wpAnyH_on (i := 12) (d := 76) (v := ?_) rfl rfl (by kernel_rfl) (by kernel_rfl) (by kernel_rfl) (fun _ _ _ h => h) (by kernel_rfl) (prev_bel _ _) ?_ ?_
      rotate_left
      · intro uu (pu : Prev uu _)
        go_simp
        try (with_reducible rfl)
      try simp only [List.set]
      refine wpAnyH_on (i := 14) (d := 78) (v := ?_) rfl rfl (by kernel_rfl) (by kernel_rfl) (by kernel_rfl) (fun _ _ _ h => h) (by kernel_rfl) (prev_bel _ _) ?_ ?_
      rotate_left
      · intro uu (pu : Prev uu _)
        go_simp
        try (with_reducible rfl)
      try simp only [List.set]
      refine wpAnyH_ready (rs := [13]) (by kernel_rfl) (by simp) ?_
      refine AllReadyH.cons rfl (fun K hK => ?_) AllReadyH.nil
      go_simp
      (with_reducible refine (ch_total).mono ?_)
      rintro e ux ⟨rfl, _⟩
      dsimp only
      refine hK.out _ _ (prev_bel _ _) (fun hHeld => ?_)
      clear hHeld hK K
      try dsimp only [Act.put, List.setIfInBounds_toArray, List.set_cons_zero, List.set_cons_succ]
      refine wpAnyH_ready (rs := [15]) (by kernel_rfl) (by simp) ?_
      refine AllReadyH.cons rfl (fun K hK => ?_) AllReadyH.nil
      go_simp
      (with_reducible refine (a20_total (by assumption)).mono ?_)
      rintro e ux ⟨rfl, _⟩
      dsimp only
      refine hK.out _ _ (prev_bel _ _) (fun hHeld => ?_)
      clear hHeld hK K
      try dsimp only [Act.put, List.setIfInBounds_toArray, List.set_cons_zero, List.set_cons_succ]
      refine wpAnyH_on (i := 16) (d := 80) (v := ?_) rfl rfl (by kernel_rfl) (by kernel_rfl) (by kernel_rfl) (fun _ _ _ h => h) (by kernel_rfl) (prev_bel _ _) ?_ ?_
      rotate_left
      · intro uu (pu : Prev uu _)
        go_simp
        try (with_reducible rfl)
      try simp only [List.set]
      refine wpAnyH_on (i := 17) (d := 81) (v := ?_) rfl rfl (by kernel_rfl) (by kernel_rfl) (by kernel_rfl) (fun _ _ _ h => h) (by kernel_rfl) (prev_bel _ _) ?_ ?_
      rotate_left
      · intro uu (pu : Prev uu _)
        go_simp
        try (with_reducible rfl)
      try simp only [List.set]
      refine wpAnyH_done (by kernel_rfl) ?_ _
      go_wp2_with (first | (go_at_call 25; (try first | (with_reducible refine gen_boxK3 (fun u _ _ _ _ => ?_)) | (with_reducible refine gen_boxK2 (fun u _ _ _ => ?_)) | (with_reducible refine gen_boxK (fun u _ _ => ?_))); (with_reducible refine (r20_least (by assumption) (by omega) (by omega) HE).mono ?_); rintro e u ⟨rfl, _⟩) | (go_at_call 14; (try first | (with_reducible refine gen_boxK3 (fun u _ _ _ _ => ?_)) | (with_reducible refine gen_boxK2 (fun u _ _ _ => ?_)) | (with_reducible refine gen_boxK (fun u _ _ => ?_))); (with_reducible refine (a20_awake).mono ?_); rintro e u ⟨rfl, _⟩))
      go_ret
      exact ⟨rfl, bel w _⟩
  · have HE := Lib.hid e3
    clear e3
    by_cases h7 : 7 < m
    · go_enter Try.func7, Try.ntmps7
      go_upto_region 6 with (first | (go_at_call 15; (try first | (with_reducible refine gen_boxK3 (fun u _ _ _ _ => ?_)) | (with_reducible refine gen_boxK2 (fun u _ _ _ => ?_)) | (with_reducible refine gen_boxK (fun u _ _ => ?_))); (with_reducible refine (ch_least (by omega)).mono ?_); rintro e u ⟨rfl, _⟩) | (go_at_call 19; (try first | (with_reducible refine gen_boxK3 (fun u _ _ _ _ => ?_)) | (with_reducible refine gen_boxK2 (fun u _ _ _ => ?_)) | (with_reducible refine gen_boxK (fun u _ _ => ?_))); (with_reducible refine (a20_right).mono ?_); rintro e u ⟨rfl, _⟩))
      refine wp_region_up0 (by kernel_rfl) (fun ux _ => ?_)
      refine wpAnyH_on (i := 0) (d := 64) (v := ?_) rfl rfl (by kernel_rfl) (by kernel_rfl) (by kernel_rfl) (fun _ _ _ h => h) (by kernel_rfl) (prev_bel _ _) ?_ ?_
      rotate_left
      · intro uu (pu : Prev uu _)
        go_simp
        try (with_reducible rfl)
      try simp only [List.set]
      refine wpAnyH_ready (rs := [1]) (by kernel_rfl) (by simp) ?_
      refine AllReadyH.cons rfl (fun K hK => ?_) AllReadyH.nil
      go_simp
      (with_reducible refine (ch_right).mono ?_)
      rintro e ux ⟨rfl, _⟩
      dsimp only
      refine hK.out _ _ (prev_bel _ _) (fun hHeld => ?_)
      clear hHeld hK K
      try dsimp only [Act.put, List.setIfInBounds_toArray, List.set_cons_zero, List.set_cons_succ]
      refine wpAnyH_on (i := 2) (d := 66) (v := ?_) rfl rfl (by kernel_rfl) (by kernel_rfl) (by kernel_rfl) (fun _ _ _ h => h) (by kernel_rfl) (prev_bel _ _) ?_ ?_
      rotate_left
      · intro uu (pu : Prev uu _)
        go_simp
        try (with_reducible rfl)
      try simp only [List.set]
      refine wpAnyH_on (i := 3) (d := 67) (v := ?_) rfl rfl (by kernel_rfl) (by kernel_rfl) (by kernel_rfl) (fun _ _ _ h => h) (by kernel_rfl) (prev_bel _ _) ?_ ?_
      rotate_left
      · intro uu (pu : Prev uu _)
        go_simp
        try (with_reducible rfl)
      try simp only [List.set]
      refine wpAnyH_on (i := 4) (d := 68) (v := ?_) rfl rfl (by kernel_rfl) (by kernel_rfl) (by kernel_rfl) (fun _ _ _ h => h) (by kernel_rfl) (prev_bel _ _) ?_ ?_
      rotate_left
      · intro uu (pu : Prev uu _)
        go_simp
        try (with_reducible rfl)
      try simp only [List.set]
      refine wpAnyH_on (i := 6) (d := 70) (v := ?_) rfl rfl (by kernel_rfl) (by kernel_rfl) (by kernel_rfl) (fun _ _ _ h => h) (by kernel_rfl) (prev_bel _ _) ?_ ?_
      rotate_left
      · intro uu (pu : Prev uu _)
        go_simp
        try (with_reducible rfl)
      try simp only [List.set]
      refine wpAnyH_on (i := 7) (d := 71) (v := ?_) rfl rfl (by kernel_rfl) (by kernel_rfl) (by kernel_rfl) (fun _ _ _ h => h) (by kernel_rfl) (prev_bel _ _) ?_ ?_
      rotate_left
      · intro uu (pu : Prev uu _)
        go_simp
        try (with_reducible rfl)
      try simp only [List.set]
      refine wpAnyH_on (i := 8) (d := 72) (v := ?_) rfl rfl (by kernel_rfl) (by kernel_rfl) (by kernel_rfl) (fun _ _ _ h => h) (by kernel_rfl) (prev_bel _ _) ?_ ?_
      rotate_left
      · intro uu (pu : Prev uu _)
        go_simp
        try (with_reducible rfl)
      try simp only [List.set]
      refine wpAnyH_ready (rs := [5]) (by kernel_rfl) (by simp) ?_
      refine AllReadyH.cons rfl (fun K hK => ?_) AllReadyH.nil
      go_simp
      (with_reducible refine (ch_nodes).mono ?_)
      rintro e ux ⟨rfl, _⟩
      dsimp only
      refine hK.out _ _ (prev_bel _ _) (fun hHeld => ?_)
      clear hHeld hK K
      try dsimp only [Act.put, List.setIfInBounds_toArray, List.set_cons_zero, List.set_cons_succ]
      refine wpAnyH_on (i := 9) (d := 73) (v := ?_) rfl rfl (by kernel_rfl) (by kernel_rfl) (by kernel_rfl) (fun _ _ _ h => h) (by kernel_rfl) (prev_bel _ _) ?_ ?_
      rotate_left
      · intro uu (pu : Prev uu _)
        go_simp
        try (with_reducible rfl)
      try simp only [List.set]
      refine wpAnyH_on (i := 10) (d := 74) (v := ?_) rfl rfl (by kernel_rfl) (by kernel_rfl) (by kernel_rfl) (fun _ _ _ h => h) (by kernel_rfl) (prev_bel _ _) ?_ ?_
      rotate_left
      · intro uu (pu : Prev uu _)
        go_simp
        try (with_reducible rfl)
      try simp only [List.set]
      refine wpAnyH_on (i := 11) (d := 75) (v := ?_) rfl rfl (by kernel_rfl) (by kernel_rfl) (by kernel_rfl) (fun _ _ _ h => h) (by kernel_rfl) (prev_bel _ _) ?_ ?_
      rotate_left
      · intro uu (pu : Prev uu _)
        go_simp
        try (with_reducible rfl)
      try simp only [List.set]
      refine wpAnyH_on (i := 12) (d := 76) (v := ?_) rfl rfl (by kernel_rfl) (by kernel_rfl) (by kernel_rfl) (fun _ _ _ h => h) (by kernel_rfl) (prev_bel _ _) ?_ ?_
      rotate_left
      · intro uu (pu : Prev uu _)
        go_simp
        try (with_reducible rfl)
      try simp only [List.set]
      refine wpAnyH_on (i := 14) (d := 78) (v := ?_) rfl rfl (by kernel_rfl) (by kernel_rfl) (by kernel_rfl) (fun _ _ _ h => h) (by kernel_rfl) (prev_bel _ _) ?_ ?_
      rotate_left
      · intro uu (pu : Prev uu _)
        go_simp
        try (with_reducible rfl)
      try simp only [List.set]
      refine wpAnyH_ready (rs := [13]) (by kernel_rfl) (by simp) ?_
      refine AllReadyH.cons rfl (fun K hK => ?_) AllReadyH.nil
      go_simp
      (with_reducible refine (ch_total).mono ?_)
      rintro e ux ⟨rfl, _⟩
      dsimp only
      refine hK.out _ _ (prev_bel _ _) (fun hHeld => ?_)
      clear hHeld hK K
      try dsimp only [Act.put, List.setIfInBounds_toArray, List.set_cons_zero, List.set_cons_succ]
      refine wpAnyH_ready (rs := [15]) (by kernel_rfl) (by simp) ?_
      refine AllReadyH.cons rfl (fun K hK => ?_) AllReadyH.nil
      go_simp
      (with_reducible refine (a20_total (by assumption)).mono ?_)
      rintro e ux ⟨rfl, _⟩
      dsimp only
      refine hK.out _ _ (prev_bel _ _) (fun hHeld => ?_)
      clear hHeld hK K
      try dsimp only [Act.put, List.setIfInBounds_toArray, List.set_cons_zero, List.set_cons_succ]
      refine wpAnyH_on (i := 16) (d := 80) (v := ?_) rfl rfl (by kernel_rfl) (by kernel_rfl) (by kernel_rfl) (fun _ _ _ h => h) (by kernel_rfl) (prev_bel _ _) ?_ ?_
      rotate_left
      · intro uu (pu : Prev uu _)
        go_simp
        try (with_reducible rfl)
      try simp only [List.set]
      refine wpAnyH_on (i := 17) (d := 81) (v := ?_) rfl rfl (by kernel_rfl) (by kernel_rfl) (by kernel_rfl) (fun _ _ _ h => h) (by kernel_rfl) (prev_bel _ _) ?_ ?_
      rotate_left
      · intro uu (pu : Prev uu _)
        go_simp
        try (with_reducible rfl)
      try simp only [List.set]
      refine wpAnyH_done (by kernel_rfl) ?_ _
      go_wp2_with (first | (go_at_call 14; (try first | (with_reducible refine gen_boxK3 (fun u _ _ _ _ => ?_)) | (with_reducible refine gen_boxK2 (fun u _ _ _ => ?_)) | (with_reducible refine gen_boxK (fun u _ _ => ?_))); (with_reducible refine (a20_awake).mono ?_); rintro e u ⟨rfl, _⟩))
      go_ret
      exact ⟨rfl, bel w _⟩
    · go_enter Try.func7, Try.ntmps7
      go_upto_region 6 with (first | (go_at_call 15; (try first | (with_reducible refine gen_boxK3 (fun u _ _ _ _ => ?_)) | (with_reducible refine gen_boxK2 (fun u _ _ _ => ?_)) | (with_reducible refine gen_boxK (fun u _ _ => ?_))); (with_reducible refine (ch_least (by omega)).mono ?_); rintro e u ⟨rfl, _⟩) | (go_at_call 19; (try first | (with_reducible refine gen_boxK3 (fun u _ _ _ _ => ?_)) | (with_reducible refine gen_boxK2 (fun u _ _ _ => ?_)) | (with_reducible refine gen_boxK (fun u _ _ => ?_))); (with_reducible refine (a20_right).mono ?_); rintro e u ⟨rfl, _⟩))
      refine wp_region_up0 (by kernel_rfl) (fun ux _ => ?_)
      refine wpAnyH_on (i := 0) (d := 64) (v := ?_) rfl rfl (by kernel_rfl) (by kernel_rfl) (by kernel_rfl) (fun _ _ _ h => h) (by kernel_rfl) (prev_bel _ _) ?_ ?_
      rotate_left
      · intro uu (pu : Prev uu _)
        go_simp
        try (with_reducible rfl)
      try simp only [List.set]
      refine wpAnyH_ready (rs := [1]) (by kernel_rfl) (by simp) ?_
      refine AllReadyH.cons rfl (fun K hK => ?_) AllReadyH.nil
      go_simp
      (with_reducible refine (ch_right).mono ?_)
      rintro e ux ⟨rfl, _⟩
      dsimp only
      refine hK.out _ _ (prev_bel _ _) (fun hHeld => ?_)
      clear hHeld hK K
      try dsimp only [Act.put, List.setIfInBounds_toArray, List.set_cons_zero, List.set_cons_succ]
      refine wpAnyH_on (i := 2) (d := 66) (v := ?_) rfl rfl (by kernel_rfl) (by kernel_rfl) (by kernel_rfl) (fun _ _ _ h => h) (by kernel_rfl) (prev_bel _ _) ?_ ?_
      rotate_left
      · intro uu (pu : Prev uu _)
        go_simp
        try (with_reducible rfl)
      try simp only [List.set]
      refine wpAnyH_on (i := 3) (d := 67) (v := ?_) rfl rfl (by kernel_rfl) (by kernel_rfl) (by kernel_rfl) (fun _ _ _ h => h) (by kernel_rfl) (prev_bel _ _) ?_ ?_
      rotate_left
      · intro uu (pu : Prev uu _)
        go_simp
        try (with_reducible rfl)
      try simp only [List.set]
      refine wpAnyH_on (i := 4) (d := 68) (v := ?_) rfl rfl (by kernel_rfl) (by kernel_rfl) (by kernel_rfl) (fun _ _ _ h => h) (by kernel_rfl) (prev_bel _ _) ?_ ?_
      rotate_left
      · intro uu (pu : Prev uu _)
        go_simp
        try (with_reducible rfl)
      try simp only [List.set]
      refine wpAnyH_on (i := 6) (d := 70) (v := ?_) rfl rfl (by kernel_rfl) (by kernel_rfl) (by kernel_rfl) (fun _ _ _ h => h) (by kernel_rfl) (prev_bel _ _) ?_ ?_
      rotate_left
      · intro uu (pu : Prev uu _)
        go_simp
        try (with_reducible rfl)
      try simp only [List.set]
      refine wpAnyH_on (i := 7) (d := 71) (v := ?_) rfl rfl (by kernel_rfl) (by kernel_rfl) (by kernel_rfl) (fun _ _ _ h => h) (by kernel_rfl) (prev_bel _ _) ?_ ?_
      rotate_left
      · intro uu (pu : Prev uu _)
        go_simp
        try (with_reducible rfl)
      try simp only [List.set]
      refine wpAnyH_on (i := 8) (d := 72) (v := ?_) rfl rfl (by kernel_rfl) (by kernel_rfl) (by kernel_rfl) (fun _ _ _ h => h) (by kernel_rfl) (prev_bel _ _) ?_ ?_
      rotate_left
      · intro uu (pu : Prev uu _)
        go_simp
        try (with_reducible rfl)
      try simp only [List.set]
      refine wpAnyH_ready (rs := [5]) (by kernel_rfl) (by simp) ?_
      refine AllReadyH.cons rfl (fun K hK => ?_) AllReadyH.nil
      go_simp
      (with_reducible refine (ch_nodes).mono ?_)
      rintro e ux ⟨rfl, _⟩
      dsimp only
      refine hK.out _ _ (prev_bel _ _) (fun hHeld => ?_)
      clear hHeld hK K
      try dsimp only [Act.put, List.setIfInBounds_toArray, List.set_cons_zero, List.set_cons_succ]
      refine wpAnyH_on (i := 9) (d := 73) (v := ?_) rfl rfl (by kernel_rfl) (by kernel_rfl) (by kernel_rfl) (fun _ _ _ h => h) (by kernel_rfl) (prev_bel _ _) ?_ ?_
      rotate_left
      · intro uu (pu : Prev uu _)
        go_simp
        try (with_reducible rfl)
      try simp only [List.set]
      refine wpAnyH_on (i := 10) (d := 74) (v := ?_) rfl rfl (by kernel_rfl) (by kernel_rfl) (by kernel_rfl) (fun _ _ _ h => h) (by kernel_rfl) (prev_bel _ _) ?_ ?_
      rotate_left
      · intro uu (pu : Prev uu _)
        go_simp
        try (with_reducible rfl)
      try simp only [List.set]
      refine wpAnyH_on (i := 11) (d := 75) (v := ?_) rfl rfl (by kernel_rfl) (by kernel_rfl) (by kernel_rfl) (fun _ _ _ h => h) (by kernel_rfl) (prev_bel _ _) ?_ ?_
      rotate_left
      · intro uu (pu : Prev uu _)
        go_simp
        try (with_reducible rfl)
      try simp only [List.set]
      refine wpAnyH_on (i := 12) (d := 76) (v := ?_) rfl rfl (by kernel_rfl) (by kernel_rfl) (by kernel_rfl) (fun _ _ _ h => h) (by kernel_rfl) (prev_bel _ _) ?_ ?_
      rotate_left
      · intro uu (pu : Prev uu _)
        go_simp
        try (with_reducible rfl)
      try simp only [List.set]
      refine wpAnyH_on (i := 14) (d := 78) (v := ?_) rfl rfl (by kernel_rfl) (by kernel_rfl) (by kernel_rfl) (fun _ _ _ h => h) (by kernel_rfl) (prev_bel _ _) ?_ ?_
      rotate_left
      · intro uu (pu : Prev uu _)
        go_simp
        try (with_reducible rfl)
      try simp only [List.set]
      refine wpAnyH_ready (rs := [13]) (by kernel_rfl) (by simp) ?_
      refine AllReadyH.cons rfl (fun K hK => ?_) AllReadyH.nil
      go_simp
      (with_reducible refine (ch_total).mono ?_)
      rintro e ux ⟨rfl, _⟩
      dsimp only
      refine hK.out _ _ (prev_bel _ _) (fun hHeld => ?_)
      clear hHeld hK K
      try dsimp only [Act.put, List.setIfInBounds_toArray, List.set_cons_zero, List.set_cons_succ]
      refine wpAnyH_ready (rs := [15]) (by kernel_rfl) (by simp) ?_
      refine AllReadyH.cons rfl (fun K hK => ?_) AllReadyH.nil
      go_simp
      (with_reducible refine (a20_total (by assumption)).mono ?_)
      rintro e ux ⟨rfl, _⟩
      dsimp only
      refine hK.out _ _ (prev_bel _ _) (fun hHeld => ?_)
      clear hHeld hK K
      try dsimp only [Act.put, List.setIfInBounds_toArray, List.set_cons_zero, List.set_cons_succ]
      refine wpAnyH_on (i := 16) (d := 80) (v := ?_) rfl rfl (by kernel_rfl) (by kernel_rfl) (by kernel_rfl) (fun _ _ _ h => h) (by kernel_rfl) (prev_bel _ _) ?_ ?_
      rotate_left
      · intro uu (pu : Prev uu _)
        go_simp
        try (with_reducible rfl)
      try simp only [List.set]
      refine wpAnyH_on (i := 17) (d := 81) (v := ?_) rfl rfl (by kernel_rfl) (by kernel_rfl) (by kernel_rfl) (fun _ _ _ h => h) (by kernel_rfl) (prev_bel _ _) ?_ ?_
      rotate_left
      · intro uu (pu : Prev uu _)
        go_simp
        try (with_reducible rfl)
      try simp only [List.set]
      refine wpAnyH_done (by kernel_rfl) ?_ _
      go_wp2_with (first | (go_at_call 25; (try first | (with_reducible refine gen_boxK3 (fun u _ _ _ _ => ?_)) | (with_reducible refine gen_boxK2 (fun u _ _ _ => ?_)) | (with_reducible refine gen_boxK (fun u _ _ => ?_))); (with_reducible refine (r20_least (by assumption) (by omega) (by omega) HE).mono ?_); rintro e u ⟨rfl, _⟩) | (go_at_call 14; (try first | (with_reducible refine gen_boxK3 (fun u _ _ _ _ => ?_)) | (with_reducible refine gen_boxK2 (fun u _ _ _ => ?_)) | (with_reducible refine gen_boxK (fun u _ _ => ?_))); (with_reducible refine (a20_awake).mono ?_); rintro e u ⟨rfl, _⟩))
      go_ret
      exact ⟨rfl, bel w _⟩

end Go.Proofs.Ytphcffcecncngaa
