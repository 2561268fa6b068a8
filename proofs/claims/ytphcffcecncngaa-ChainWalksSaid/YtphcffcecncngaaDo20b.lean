/- The reference's walk: Do, an instruction of each kind. -/
import Derived.Test.YtphcffcecncngaaDo20
import Derived.Deep.DeepCutAuto
namespace Go.Proofs.Ytphcffcecncngaa
open Go.RowKit

section
variable {w : World} {A B TA SA GA : Option Addr} {z n m p q tc sc gc : Nat} {c : Ch} {cap em sd dn pk co : Int} {T S G : List Int} {d : Nat} {r : Bool}
theorem sum_wrap (hok : Hid c.Ok) (hT : T.length ≤ 1000000) (hG : G.length ≤ 1000000) : IntKind.i64.wrap (c.sumW T + c.sumW G) = c.sumW T + c.sumW G := by
  have := hok.out.sumW_00 T
  have := hok.out.sumW_00 G
  have := hok.out.sumW_2 T
  have := hok.out.sumW_2 G
  rw [IntKind.wrap_i64]; omega
theorem cells8 {W : World} {g : Nat} {v0 v1 v2 v3 v4 v5 v6 v7 : Value} (h : ∀ i, W.cell? ⟨g, i, none⟩ = #[v0, v1, v2, v3, v4, v5, v6, v7][i]?) :
    W.cell? ⟨g, 0, none⟩ = some v0 ∧ W.cell? ⟨g, 1, none⟩ = some v1 ∧ W.cell? ⟨g, 2, none⟩ = some v2 ∧ W.cell? ⟨g, 3, none⟩ = some v3 ∧ W.cell? ⟨g, 4, none⟩ = some v4 ∧ W.cell? ⟨g, 5, none⟩ = some v5 ∧ W.cell? ⟨g, 6, none⟩ = some v6 ∧ W.cell? ⟨g, 7, none⟩ = some v7 :=
  ⟨h 0, h 1, h 2, h 3, h 4, h 5, h 6, h 7⟩
set_option maxRecDepth 100000 in
set_option maxHeartbeats 8000000 in
theorem do20_free_no [Sl w B m c.K] [Sl w TA T.length T] [Sl w SA S.length S] [Sl w GA G.length G] (lT : Hid (Lw z w TA)) (lS : Hid (Lw z w SA)) (lG : Hid (Lw z w GA))
    (kT : T.length ≤ 400000) (hd : d ≤ 64) (HRD : Hid (Ch.ready ⟨T, S, G, em, sd, dn, pk, co⟩ (d : Int) = r)) (HT : Hid (T.contains (d : Int) = false)) :
    Calls Try.prog 54 #[.slice A n p, .slice B m q, .int .i64 cap, .agg (stC TA tc T SA sc S GA gc G em sd dn pk co), .int .i64 3, .int .i64 d] w (RetD20 z w 24 ⟨T, S, G, em, sd, dn, pk, co⟩) := by
  have CB := @cell_bx
  have CP := @cell_prev
  have FB := @frozen_bx
  have hsub : IntKind.i64.wrap ((d : Int) - 1) = (d : Int) - 1 := by rw [IntKind.wrap_i64]; omega
  go_enter Try.func54, Try.ntmps54
  go_upto_region 2 with fail
  refine gen_box2C (fun u2 _ kb kr => ?_)
  have HM : Hid (SM z w u2 w.heap.size (w.heap.size + 1) TA tc T SA sc S GA gc G em sd dn pk co stZ) := Lib.hid ⟨prev_bel _ _, kb, kr, inferInstance, inferInstance, inferInstance, lT.out.fr, lS.out.fr, lG.out.fr, Nat.le_refl _, Nat.le_succ _, Nat.ne_of_lt (Nat.lt_succ_self _)⟩
  clear kb kr
  go_cut [15] (fun x wx => x = .bool r ∧ Prev wx u2)
  case first =>
    have p9 := HM.out.pr
    have kb := HM.out.bx
    have kr := HM.out.rx
    have eT := HM.out.hT
    have eS := HM.out.hS
    have eG := HM.out.hG
    by_cases e : d = 1
    · have t1 : ((d : Int) == 1) = true := by simp; omega
      have hr : r = true := by rw [← HRD.out, Ch.ready, decide_eq_true (by omega)]; rfl
      clear e
      go_wp2_with fail
      go_meet
      exact ⟨by rw [hr], prev_bel _ _⟩
    · have t1 : ((d : Int) == 1) = false := by simp; omega
      have HR : Hid (T.contains ((d : Int) - 1) = r) := Lib.hid (by rw [← HRD.out, Ch.ready, decide_eq_false (by omega)]; rfl)
      clear e
      go_wp2_with (first | (go_at_call 90; (try first | (with_reducible refine gen_boxK3 (fun u _ _ _ _ => ?_)) | (with_reducible refine gen_boxK2 (fun u _ _ _ => ?_)) | (with_reducible refine gen_boxK (fun u _ _ => ?_))); (with_reducible refine (r18_hasV (by omega) HR).mono ?_); rintro e u ⟨rfl, _⟩))
      go_meet
      exact ⟨rfl, prev_bel _ _⟩
  obtain ⟨rfl, pc⟩ := hcut
  have HM := Lib.hid (HM.out.at (w' := wc))
  have p9 := HM.out.pr
  have kb := HM.out.bx
  have kr := HM.out.rx
  have eT := HM.out.hT
  have eS := HM.out.hS
  have eG := HM.out.hG
  go_wp2_with (first | (go_at_call 90; (try first | (with_reducible refine gen_boxK3 (fun u _ _ _ _ => ?_)) | (with_reducible refine gen_boxK2 (fun u _ _ _ => ?_)) | (with_reducible refine gen_boxK (fun u _ _ => ?_))); (with_reducible refine (r18_hasV (by omega) HT).mono ?_); rintro e u ⟨rfl, _⟩))
  refine HM.out.at.ret rfl (fun W hW => ?_) (Lib.hid rfl)
  obtain ⟨r0, r1, r2, r3, r4, r5, r6, r7⟩ := cells8 hW
  clear hW
  simp [results, Try.results54, go_sem, r0, r1, r2, r3, r4, r5, r6, r7]
set_option maxRecDepth 100000 in
set_option maxHeartbeats 8000000 in
theorem do20_free_ok (hok : Hid c.Ok) [Sl w A n c.W] [Sl w B m c.K] [Sl w TA T.length T] [Sl w SA S.length S] [Sl w GA G.length G] (lT : Hid (Lw z w TA)) (lS : Hid (Lw z w SA)) (lG : Hid (Lw z w GA))
    (kT : T.length ≤ 400000) (hd : d ≤ 64) (HRD : Hid (Ch.ready ⟨T, S, G, em, sd, dn, pk, co⟩ (d : Int) = r)) (kG : G.length ≤ 400000) (HT : Hid (T.contains (d : Int) = true)) (HTR : Hid (∀ x ∈ T, 0 ≤ x ∧ x < (n : Int))) (HGR : Hid (∀ x ∈ G, 0 ≤ x ∧ x < (n : Int))) :
    Calls Try.prog 54 #[.slice A n p, .slice B m q, .int .i64 cap, .agg (stC TA tc T SA sc S GA gc G em sd dn pk co), .int .i64 3, .int .i64 d] w (RetD20 z w 0 (c.setPk ⟨Ch.wout T d, S, G, em, sd, dn, pk, co⟩)) := by
  have CB := @cell_bx
  have CP := @cell_prev
  have FB := @frozen_bx
  have hsub : IntKind.i64.wrap ((d : Int) - 1) = (d : Int) - 1 := by rw [IntKind.wrap_i64]; omega
  go_enter Try.func54, Try.ntmps54
  go_upto_region 2 with fail
  refine gen_box2C (fun u2 _ kb kr => ?_)
  have HM : Hid (SM z w u2 w.heap.size (w.heap.size + 1) TA tc T SA sc S GA gc G em sd dn pk co stZ) := Lib.hid ⟨prev_bel _ _, kb, kr, inferInstance, inferInstance, inferInstance, lT.out.fr, lS.out.fr, lG.out.fr, Nat.le_refl _, Nat.le_succ _, Nat.ne_of_lt (Nat.lt_succ_self _)⟩
  clear kb kr
  go_cut [15] (fun x wx => x = .bool r ∧ Prev wx u2)
  case first =>
    have p9 := HM.out.pr
    have kb := HM.out.bx
    have kr := HM.out.rx
    have eT := HM.out.hT
    have eS := HM.out.hS
    have eG := HM.out.hG
    by_cases e : d = 1
    · have t1 : ((d : Int) == 1) = true := by simp; omega
      have hr : r = true := by rw [← HRD.out, Ch.ready, decide_eq_true (by omega)]; rfl
      clear e
      go_wp2_with fail
      go_meet
      exact ⟨by rw [hr], prev_bel _ _⟩
    · have t1 : ((d : Int) == 1) = false := by simp; omega
      have HR : Hid (T.contains ((d : Int) - 1) = r) := Lib.hid (by rw [← HRD.out, Ch.ready, decide_eq_false (by omega)]; rfl)
      clear e
      go_wp2_with (first | (go_at_call 90; (try first | (with_reducible refine gen_boxK3 (fun u _ _ _ _ => ?_)) | (with_reducible refine gen_boxK2 (fun u _ _ _ => ?_)) | (with_reducible refine gen_boxK (fun u _ _ => ?_))); (with_reducible refine (r18_hasV (by omega) HR).mono ?_); rintro e u ⟨rfl, _⟩))
      go_meet
      exact ⟨rfl, prev_bel _ _⟩
  obtain ⟨rfl, pc⟩ := hcut
  have HM := Lib.hid (HM.out.at (w' := wc))
  have p9 := HM.out.pr
  have kb := HM.out.bx
  have kr := HM.out.rx
  have eT := HM.out.hT
  have eS := HM.out.hS
  have eG := HM.out.hG
  go_upto_region 15 with (first | (go_at_call 90; (try first | (with_reducible refine gen_boxK3 (fun u _ _ _ _ => ?_)) | (with_reducible refine gen_boxK2 (fun u _ _ _ => ?_)) | (with_reducible refine gen_boxK (fun u _ _ => ?_))); (with_reducible refine (r18_hasV (by omega) HT).mono ?_); rintro e u ⟨rfl, _⟩) | (go_at_call 93; (try first | (with_reducible refine gen_boxK3 (fun u _ _ _ _ => ?_)) | (with_reducible refine gen_boxK2 (fun u _ _ _ => ?_)) | (with_reducible refine gen_boxK (fun u _ _ => ?_))); (with_reducible refine (r20_without (by omega)).mono ?_); rintro e u ⟨A2, c2, L2, rfl, HL2, lL2, sL2, o2, _⟩))
  have HJ := Lib.hid ((HM.out.at (w' := u)).listT (k := c2) sL2 (HM.out.fresh later_size o2))
  obtain ⟨v1, hv1⟩ : ∃ W : World, W = (u).setCell ⟨w.heap.size, 0, none⟩ (.slice A2 L2.length c2) := ⟨_, rfl⟩
  rw [← hv1] at HJ ⊢
  clear hv1 HM
  obtain ⟨HM, -⟩ : _ ∧ True := ⟨HJ, trivial⟩
  clear HJ
  have p9 := HM.out.pr
  have kb := HM.out.bx
  have kr := HM.out.rx
  have eT := HM.out.hT
  have eS := HM.out.hS
  have eG := HM.out.hG
  have HTR : Hid (∀ x ∈ L2, 0 ≤ x ∧ x < (n : Int)) := Lib.hid (by rw [HL2.out]; exact fun x hx => HTR.out x (Ch.mem_wout.1 hx).1)
  have us := sum_wrap (c := c) (T := L2) (G := G) hok (by omega) (by omega)
  have HP : Hid (c.setPk ⟨Ch.wout T d, S, G, em, sd, dn, pk, co⟩ = ⟨L2, S, G, em, sd, dn, max pk (c.sumW L2 + c.sumW G), co⟩) := Lib.hid (by rw [HL2.out]; rfl)
  go_upto_region 34 with fail
  refine wp_region_up0 (by kernel_rfl) (fun ux _ => ?_)
  refine wpAnyH_on (i := 0) (d := 191) (v := ?_) rfl rfl (by kernel_rfl) (by kernel_rfl) (by kernel_rfl) (fun _ _ _ h => h) (by kernel_rfl) (prev_bel _ _) ?_ ?_
  rotate_left
  · intro uu (pu : Prev uu _)
    go_simp
    try (with_reducible rfl)
  try simp only [List.set]
  refine wpAnyH_on (i := 1) (d := 192) (v := ?_) rfl rfl (by kernel_rfl) (by kernel_rfl) (by kernel_rfl) (fun _ _ _ h => h) (by kernel_rfl) (prev_bel _ _) ?_ ?_
  rotate_left
  · intro uu (pu : Prev uu _)
    go_simp
    try (with_reducible rfl)
  try simp only [List.set]
  refine wpAnyH_on (i := 2) (d := 193) (v := ?_) rfl rfl (by kernel_rfl) (by kernel_rfl) (by kernel_rfl) (fun _ _ _ h => h) (by kernel_rfl) (prev_bel _ _) ?_ ?_
  rotate_left
  · intro uu (pu : Prev uu _)
    go_simp
    try (with_reducible rfl)
  try simp only [List.set]
  refine wpAnyH_on (i := 4) (d := 195) (v := ?_) rfl rfl (by kernel_rfl) (by kernel_rfl) (by kernel_rfl) (fun _ _ _ h => h) (by kernel_rfl) (prev_bel _ _) ?_ ?_
  rotate_left
  · intro uu (pu : Prev uu _)
    go_simp
    try (with_reducible rfl)
  try simp only [List.set]
  refine wpAnyH_on (i := 5) (d := 196) (v := ?_) rfl rfl (by kernel_rfl) (by kernel_rfl) (by kernel_rfl) (fun _ _ _ h => h) (by kernel_rfl) (prev_bel _ _) ?_ ?_
  rotate_left
  · intro uu (pu : Prev uu _)
    go_simp
    try (with_reducible rfl)
  try simp only [List.set]
  refine wpAnyH_on (i := 6) (d := 197) (v := ?_) rfl rfl (by kernel_rfl) (by kernel_rfl) (by kernel_rfl) (fun _ _ _ h => h) (by kernel_rfl) (prev_bel _ _) ?_ ?_
  rotate_left
  · intro uu (pu : Prev uu _)
    go_simp
    try (with_reducible rfl)
  try simp only [List.set]
  refine wpAnyH_on (i := 9) (d := 200) (v := ?_) rfl rfl (by kernel_rfl) (by kernel_rfl) (by kernel_rfl) (fun _ _ _ h => h) (by kernel_rfl) (prev_bel _ _) ?_ ?_
  rotate_left
  · intro uu (pu : Prev uu _)
    go_simp
    try (with_reducible rfl)
  try simp only [List.set]
  refine wpAnyH_on (i := 10) (d := 201) (v := ?_) rfl rfl (by kernel_rfl) (by kernel_rfl) (by kernel_rfl) (fun _ _ _ h => h) (by kernel_rfl) (prev_bel _ _) ?_ ?_
  rotate_left
  · intro uu (pu : Prev uu _)
    go_simp
    try (with_reducible rfl)
  try simp only [List.set]
  refine wpAnyH_ready (rs := [3]) (by kernel_rfl) (by simp) ?_
  refine AllReadyH.cons rfl (fun K hK => ?_) AllReadyH.nil
  go_simp
  (with_reducible refine (r20_sum (c := c) hok (by omega) HTR).mono ?_)
  rintro e ux ⟨rfl, _⟩
  dsimp only
  refine hK.out _ _ (prev_bel _ _) (fun hHeld => ?_)
  clear hHeld hK K
  try dsimp only [Act.put, List.setIfInBounds_toArray, List.set_cons_zero, List.set_cons_succ]
  refine wpAnyH_ready (rs := [7]) (by kernel_rfl) (by simp) ?_
  refine AllReadyH.cons rfl (fun K hK => ?_) AllReadyH.nil
  go_simp
  (with_reducible refine (r20_sum (c := c) hok (by omega) HGR).mono ?_)
  rintro e ux ⟨rfl, _⟩
  dsimp only
  refine hK.out _ _ (prev_bel _ _) (fun hHeld => ?_)
  clear hHeld hK K
  try dsimp only [Act.put, List.setIfInBounds_toArray, List.set_cons_zero, List.set_cons_succ]
  refine wpAnyH_on (i := 8) (d := 199) (v := ?_) rfl rfl (by kernel_rfl) (by kernel_rfl) (by kernel_rfl) (fun _ _ _ h => h) (by kernel_rfl) (prev_bel _ _) ?_ ?_
  rotate_left
  · intro uu (pu : Prev uu _)
    go_simp
    try (with_reducible rfl)
  try simp only [List.set]
  refine wpAnyH_on (i := 11) (d := 202) (v := ?_) rfl rfl (by kernel_rfl) (by kernel_rfl) (by kernel_rfl) (fun _ _ _ h => h) (by kernel_rfl) (prev_bel _ _) ?_ ?_
  rotate_left
  · intro uu (pu : Prev uu _)
    go_simp
    try (with_reducible rfl)
  try simp only [List.set]
  refine wpAnyH_done (by kernel_rfl) ?_ _
  skip
  by_cases hpk : pk < c.sumW L2 + c.sumW G
  · go_upto_region 35 with fail
    refine wp_region_up w (by kernel_rfl) (fun uz _ => ?_)
    refine wpAnyH_on (i := 0) (d := 203) (v := ?_) rfl rfl (by kernel_rfl) (by kernel_rfl) (by kernel_rfl) (fun _ _ _ h => h) (by kernel_rfl) (prev_bel _ _) ?_ ?_
    rotate_left
    · intro uu (pu : Prev uu _)
      go_simp
      try (with_reducible rfl)
    try simp only [List.set]
    refine wpAnyH_on (i := 1) (d := 204) (v := ?_) rfl rfl (by kernel_rfl) (by kernel_rfl) (by kernel_rfl) (fun _ _ _ h => h) (by kernel_rfl) (prev_bel _ _) ?_ ?_
    rotate_left
    · intro uu (pu : Prev uu _)
      go_simp
      try (with_reducible rfl)
    try simp only [List.set]
    refine wpAnyH_on (i := 4) (d := 207) (v := ?_) rfl rfl (by kernel_rfl) (by kernel_rfl) (by kernel_rfl) (fun _ _ _ h => h) (by kernel_rfl) (prev_bel _ _) ?_ ?_
    rotate_left
    · intro uu (pu : Prev uu _)
      go_simp
      try (with_reducible rfl)
    try simp only [List.set]
    refine wpAnyH_on (i := 5) (d := 208) (v := ?_) rfl rfl (by kernel_rfl) (by kernel_rfl) (by kernel_rfl) (fun _ _ _ h => h) (by kernel_rfl) (prev_bel _ _) ?_ ?_
    rotate_left
    · intro uu (pu : Prev uu _)
      go_simp
      try (with_reducible rfl)
    try simp only [List.set]
    refine wpAnyH_ready (rs := [2, 6]) (by kernel_rfl) (by simp) ?_
    refine AllReadyH.cons rfl (fun K hK => ?_) (AllReadyH.cons rfl (fun K hK => ?_) AllReadyH.nil)
    · go_simp
      refine hK.out _ _ (prev_bel w _) (fun hHeld => ?_)
      clear hHeld hK K
      try dsimp only [Act.put, List.setIfInBounds_toArray, List.set_cons_zero, List.set_cons_succ]
      refine wpAnyH_ready (rs := [3, 6]) (by kernel_rfl) (by simp) ?_
      refine AllReadyH.cons rfl (fun K hK => ?_) (AllReadyH.cons rfl (fun K hK => ?_) AllReadyH.nil)
      · go_simp
        (with_reducible refine (r20_sum (c := c) hok (by omega) HTR).mono ?_)
        rintro e uz ⟨rfl, _⟩
        dsimp only
        refine hK.out _ _ (prev_bel w _) (fun hHeld => ?_)
        clear hHeld hK K
        try dsimp only [Act.put, List.setIfInBounds_toArray, List.set_cons_zero, List.set_cons_succ]
        refine wpAnyH_ready (rs := [6]) (by kernel_rfl) (by simp) ?_
        refine AllReadyH.cons rfl (fun K hK => ?_) AllReadyH.nil
        go_simp
        refine hK.out _ _ (prev_bel w _) (fun hHeld => ?_)
        clear hHeld hK K
        try dsimp only [Act.put, List.setIfInBounds_toArray, List.set_cons_zero, List.set_cons_succ]
        refine wpAnyH_ready (rs := [7]) (by kernel_rfl) (by simp) ?_
        refine AllReadyH.cons rfl (fun K hK => ?_) AllReadyH.nil
        go_simp
        (with_reducible refine (r20_sum (c := c) hok (by omega) HGR).mono ?_)
        rintro e uz ⟨rfl, _⟩
        dsimp only
        refine hK.out _ _ (prev_bel w _) (fun hHeld => ?_)
        clear hHeld hK K
        try dsimp only [Act.put, List.setIfInBounds_toArray, List.set_cons_zero, List.set_cons_succ]
        refine wpAnyH_on (i := 8) (d := 211) (v := ?_) rfl rfl (by kernel_rfl) (by kernel_rfl) (by kernel_rfl) (fun _ _ _ h => h) (by kernel_rfl) (prev_bel _ _) ?_ ?_
        rotate_left
        · intro uu (pu : Prev uu _)
          go_simp
          try (with_reducible rfl)
        try simp only [List.set]
        refine wpAnyH_on (i := 9) (d := 212) (v := ?_) rfl rfl (by kernel_rfl) (by kernel_rfl) (by kernel_rfl) (fun _ _ _ h => h) (by kernel_rfl) (prev_bel _ _) ?_ ?_
        rotate_left
        · intro uu (pu : Prev uu _)
          go_simp
          try (with_reducible rfl)
        try simp only [List.set]
        refine wpAnyH_ready (rs := [10]) (by kernel_rfl) (by simp) ?_
        refine AllReadyH.cons rfl (fun K hK => ?_) AllReadyH.nil
        go_simp
        have HM := Lib.hid (HM.out.at (w' := uz))
        have HJ := Lib.hid (HM.out.int (i := 6) (v := .int .i64 (c.sumW L2 + c.sumW G)) (em' := _) (sd' := _) (dn' := _) (pk' := c.sumW L2 + c.sumW G) (co' := _) rfl)
        obtain ⟨v9, hv9⟩ : ∃ W : World, W = (uz).setCell ⟨w.heap.size, 6, none⟩ (.int .i64 (c.sumW L2 + c.sumW G)) := ⟨_, rfl⟩
        rw [← hv9] at HJ ⊢
        clear hv9 HM
        obtain ⟨HM, -⟩ : _ ∧ True := ⟨HJ, trivial⟩
        clear HJ
        have p9 := HM.out.pr
        refine hK.out _ _ p9 (fun hHeld => ?_)
        clear hHeld hK K
        try dsimp only [Act.put, List.setIfInBounds_toArray, List.set_cons_zero, List.set_cons_succ]
        obtain ⟨uz, rfl⟩ : ∃ W : World, W = v9 := ⟨_, rfl⟩
        have p9 := HM.out.pr
        have kb := HM.out.bx
        have kr := HM.out.rx
        have eT := HM.out.hT
        have eS := HM.out.hS
        have eG := HM.out.hG
        refine wpAnyH_done (by kernel_rfl) ?_ _
        go_wp2_with fail
        refine HM.out.at.ret rfl (fun W hW => ?_) (Lib.hid (by rw [HP.out, Int.max_eq_right (Int.le_of_lt hpk)]))
        obtain ⟨r0, r1, r2, r3, r4, r5, r6, r7⟩ := cells8 hW
        clear hW
        simp [results, Try.results54, go_sem, r0, r1, r2, r3, r4, r5, r6, r7]
      · go_simp
        refine hK.out _ _ (prev_bel w _) (fun hHeld => ?_)
        clear hHeld hK K
        try dsimp only [Act.put, List.setIfInBounds_toArray, List.set_cons_zero, List.set_cons_succ]
        refine wpAnyH_ready (rs := [3]) (by kernel_rfl) (by simp) ?_
        refine AllReadyH.cons rfl (fun K hK => ?_) AllReadyH.nil
        go_simp
        (with_reducible refine (r20_sum (c := c) hok (by omega) HTR).mono ?_)
        rintro e uz ⟨rfl, _⟩
        dsimp only
        refine hK.out _ _ (prev_bel w _) (fun hHeld => ?_)
        clear hHeld hK K
        try dsimp only [Act.put, List.setIfInBounds_toArray, List.set_cons_zero, List.set_cons_succ]
        refine wpAnyH_ready (rs := [7]) (by kernel_rfl) (by simp) ?_
        refine AllReadyH.cons rfl (fun K hK => ?_) AllReadyH.nil
        go_simp
        (with_reducible refine (r20_sum (c := c) hok (by omega) HGR).mono ?_)
        rintro e uz ⟨rfl, _⟩
        dsimp only
        refine hK.out _ _ (prev_bel w _) (fun hHeld => ?_)
        clear hHeld hK K
        try dsimp only [Act.put, List.setIfInBounds_toArray, List.set_cons_zero, List.set_cons_succ]
        refine wpAnyH_on (i := 8) (d := 211) (v := ?_) rfl rfl (by kernel_rfl) (by kernel_rfl) (by kernel_rfl) (fun _ _ _ h => h) (by kernel_rfl) (prev_bel _ _) ?_ ?_
        rotate_left
        · intro uu (pu : Prev uu _)
          go_simp
          try (with_reducible rfl)
        try simp only [List.set]
        refine wpAnyH_on (i := 9) (d := 212) (v := ?_) rfl rfl (by kernel_rfl) (by kernel_rfl) (by kernel_rfl) (fun _ _ _ h => h) (by kernel_rfl) (prev_bel _ _) ?_ ?_
        rotate_left
        · intro uu (pu : Prev uu _)
          go_simp
          try (with_reducible rfl)
        try simp only [List.set]
        refine wpAnyH_ready (rs := [10]) (by kernel_rfl) (by simp) ?_
        refine AllReadyH.cons rfl (fun K hK => ?_) AllReadyH.nil
        go_simp
        have HM := Lib.hid (HM.out.at (w' := uz))
        have HJ := Lib.hid (HM.out.int (i := 6) (v := .int .i64 (c.sumW L2 + c.sumW G)) (em' := _) (sd' := _) (dn' := _) (pk' := c.sumW L2 + c.sumW G) (co' := _) rfl)
        obtain ⟨v9, hv9⟩ : ∃ W : World, W = (uz).setCell ⟨w.heap.size, 6, none⟩ (.int .i64 (c.sumW L2 + c.sumW G)) := ⟨_, rfl⟩
        rw [← hv9] at HJ ⊢
        clear hv9 HM
        obtain ⟨HM, -⟩ : _ ∧ True := ⟨HJ, trivial⟩
        clear HJ
        have p9 := HM.out.pr
        refine hK.out _ _ p9 (fun hHeld => ?_)
        clear hHeld hK K
        try dsimp only [Act.put, List.setIfInBounds_toArray, List.set_cons_zero, List.set_cons_succ]
        obtain ⟨uz, rfl⟩ : ∃ W : World, W = v9 := ⟨_, rfl⟩
        have p9 := HM.out.pr
        have kb := HM.out.bx
        have kr := HM.out.rx
        have eT := HM.out.hT
        have eS := HM.out.hS
        have eG := HM.out.hG
        refine wpAnyH_done (by kernel_rfl) ?_ _
        go_wp2_with fail
        refine HM.out.at.ret rfl (fun W hW => ?_) (Lib.hid (by rw [HP.out, Int.max_eq_right (Int.le_of_lt hpk)]))
        obtain ⟨r0, r1, r2, r3, r4, r5, r6, r7⟩ := cells8 hW
        clear hW
        simp [results, Try.results54, go_sem, r0, r1, r2, r3, r4, r5, r6, r7]
    · go_simp
      refine hK.out _ _ (prev_bel w _) (fun hHeld => ?_)
      clear hHeld hK K
      try dsimp only [Act.put, List.setIfInBounds_toArray, List.set_cons_zero, List.set_cons_succ]
      refine wpAnyH_ready (rs := [2]) (by kernel_rfl) (by simp) ?_
      refine AllReadyH.cons rfl (fun K hK => ?_) AllReadyH.nil
      go_simp
      refine hK.out _ _ (prev_bel w _) (fun hHeld => ?_)
      clear hHeld hK K
      try dsimp only [Act.put, List.setIfInBounds_toArray, List.set_cons_zero, List.set_cons_succ]
      refine wpAnyH_ready (rs := [3]) (by kernel_rfl) (by simp) ?_
      refine AllReadyH.cons rfl (fun K hK => ?_) AllReadyH.nil
      go_simp
      (with_reducible refine (r20_sum (c := c) hok (by omega) HTR).mono ?_)
      rintro e uz ⟨rfl, _⟩
      dsimp only
      refine hK.out _ _ (prev_bel w _) (fun hHeld => ?_)
      clear hHeld hK K
      try dsimp only [Act.put, List.setIfInBounds_toArray, List.set_cons_zero, List.set_cons_succ]
      refine wpAnyH_ready (rs := [7]) (by kernel_rfl) (by simp) ?_
      refine AllReadyH.cons rfl (fun K hK => ?_) AllReadyH.nil
      go_simp
      (with_reducible refine (r20_sum (c := c) hok (by omega) HGR).mono ?_)
      rintro e uz ⟨rfl, _⟩
      dsimp only
      refine hK.out _ _ (prev_bel w _) (fun hHeld => ?_)
      clear hHeld hK K
      try dsimp only [Act.put, List.setIfInBounds_toArray, List.set_cons_zero, List.set_cons_succ]
      refine wpAnyH_on (i := 8) (d := 211) (v := ?_) rfl rfl (by kernel_rfl) (by kernel_rfl) (by kernel_rfl) (fun _ _ _ h => h) (by kernel_rfl) (prev_bel _ _) ?_ ?_
      rotate_left
      · intro uu (pu : Prev uu _)
        go_simp
        try (with_reducible rfl)
      try simp only [List.set]
      refine wpAnyH_on (i := 9) (d := 212) (v := ?_) rfl rfl (by kernel_rfl) (by kernel_rfl) (by kernel_rfl) (fun _ _ _ h => h) (by kernel_rfl) (prev_bel _ _) ?_ ?_
      rotate_left
      · intro uu (pu : Prev uu _)
        go_simp
        try (with_reducible rfl)
      try simp only [List.set]
      refine wpAnyH_ready (rs := [10]) (by kernel_rfl) (by simp) ?_
      refine AllReadyH.cons rfl (fun K hK => ?_) AllReadyH.nil
      go_simp
      have HM := Lib.hid (HM.out.at (w' := uz))
      have HJ := Lib.hid (HM.out.int (i := 6) (v := .int .i64 (c.sumW L2 + c.sumW G)) (em' := _) (sd' := _) (dn' := _) (pk' := c.sumW L2 + c.sumW G) (co' := _) rfl)
      obtain ⟨v9, hv9⟩ : ∃ W : World, W = (uz).setCell ⟨w.heap.size, 6, none⟩ (.int .i64 (c.sumW L2 + c.sumW G)) := ⟨_, rfl⟩
      rw [← hv9] at HJ ⊢
      clear hv9 HM
      obtain ⟨HM, -⟩ : _ ∧ True := ⟨HJ, trivial⟩
      clear HJ
      have p9 := HM.out.pr
      refine hK.out _ _ p9 (fun hHeld => ?_)
      clear hHeld hK K
      try dsimp only [Act.put, List.setIfInBounds_toArray, List.set_cons_zero, List.set_cons_succ]
      obtain ⟨uz, rfl⟩ : ∃ W : World, W = v9 := ⟨_, rfl⟩
      have p9 := HM.out.pr
      have kb := HM.out.bx
      have kr := HM.out.rx
      have eT := HM.out.hT
      have eS := HM.out.hS
      have eG := HM.out.hG
      refine wpAnyH_done (by kernel_rfl) ?_ _
      go_wp2_with fail
      refine HM.out.at.ret rfl (fun W hW => ?_) (Lib.hid (by rw [HP.out, Int.max_eq_right (Int.le_of_lt hpk)]))
      obtain ⟨r0, r1, r2, r3, r4, r5, r6, r7⟩ := cells8 hW
      clear hW
      simp [results, Try.results54, go_sem, r0, r1, r2, r3, r4, r5, r6, r7]
  · go_wp2_with fail
    refine HM.out.at.ret rfl (fun W hW => ?_) (Lib.hid (by rw [HP.out, Int.max_eq_left (by omega)]))
    obtain ⟨r0, r1, r2, r3, r4, r5, r6, r7⟩ := cells8 hW
    clear hW
    simp [results, Try.results54, go_sem, r0, r1, r2, r3, r4, r5, r6, r7]
set_option maxRecDepth 100000 in
set_option maxHeartbeats 8000000 in
theorem do20_emit_no [Sl w B m c.K] [Sl w TA T.length T] [Sl w SA S.length S] [Sl w GA G.length G] (lT : Hid (Lw z w TA)) (lS : Hid (Lw z w SA)) (lG : Hid (Lw z w GA))
    (kT : T.length ≤ 400000) (hd : d ≤ 64) (HRD : Hid (Ch.ready ⟨T, S, G, em, sd, dn, pk, co⟩ (d : Int) = r)) (H : em = 1 ∨ T.contains (m : Int) = false) :
    Calls Try.prog 54 #[.slice A n p, .slice B m q, .int .i64 cap, .agg (stC TA tc T SA sc S GA gc G em sd dn pk co), .int .i64 4, .int .i64 d] w (RetD20 z w 24 ⟨T, S, G, em, sd, dn, pk, co⟩) := by
  have CB := @cell_bx
  have CP := @cell_prev
  have FB := @frozen_bx
  have hsub : IntKind.i64.wrap ((d : Int) - 1) = (d : Int) - 1 := by rw [IntKind.wrap_i64]; omega
  by_cases h1 : em = 1
  · have t1 : (em == 1) = true := by simpa using h1
    clear h1 H
    go_enter Try.func54, Try.ntmps54
    go_upto_region 2 with fail
    refine gen_box2C (fun u2 _ kb kr => ?_)
    have HM : Hid (SM z w u2 w.heap.size (w.heap.size + 1) TA tc T SA sc S GA gc G em sd dn pk co stZ) := Lib.hid ⟨prev_bel _ _, kb, kr, inferInstance, inferInstance, inferInstance, lT.out.fr, lS.out.fr, lG.out.fr, Nat.le_refl _, Nat.le_succ _, Nat.ne_of_lt (Nat.lt_succ_self _)⟩
    clear kb kr
    go_cut [15] (fun x wx => x = .bool r ∧ Prev wx u2)
    case first =>
      have p9 := HM.out.pr
      have kb := HM.out.bx
      have kr := HM.out.rx
      have eT := HM.out.hT
      have eS := HM.out.hS
      have eG := HM.out.hG
      by_cases e : d = 1
      · have t1 : ((d : Int) == 1) = true := by simp; omega
        have hr : r = true := by rw [← HRD.out, Ch.ready, decide_eq_true (by omega)]; rfl
        clear e
        go_wp2_with fail
        go_meet
        exact ⟨by rw [hr], prev_bel _ _⟩
      · have t1 : ((d : Int) == 1) = false := by simp; omega
        have HR : Hid (T.contains ((d : Int) - 1) = r) := Lib.hid (by rw [← HRD.out, Ch.ready, decide_eq_false (by omega)]; rfl)
        clear e
        go_wp2_with (first | (go_at_call 90; (try first | (with_reducible refine gen_boxK3 (fun u _ _ _ _ => ?_)) | (with_reducible refine gen_boxK2 (fun u _ _ _ => ?_)) | (with_reducible refine gen_boxK (fun u _ _ => ?_))); (with_reducible refine (r18_hasV (by omega) HR).mono ?_); rintro e u ⟨rfl, _⟩))
        go_meet
        exact ⟨rfl, prev_bel _ _⟩
    obtain ⟨rfl, pc⟩ := hcut
    have HM := Lib.hid (HM.out.at (w' := wc))
    have p9 := HM.out.pr
    have kb := HM.out.bx
    have kr := HM.out.rx
    have eT := HM.out.hT
    have eS := HM.out.hS
    have eG := HM.out.hG
    go_wp2_with fail
    refine HM.out.at.ret rfl (fun W hW => ?_) (Lib.hid rfl)
    obtain ⟨r0, r1, r2, r3, r4, r5, r6, r7⟩ := cells8 hW
    clear hW
    simp [results, Try.results54, go_sem, r0, r1, r2, r3, r4, r5, r6, r7]
  · have t1 : (em == 1) = false := by simpa using h1
    have HT : Hid (T.contains (m : Int) = false) := Lib.hid (H.resolve_left h1)
    clear h1 H
    go_enter Try.func54, Try.ntmps54
    go_upto_region 2 with fail
    refine gen_box2C (fun u2 _ kb kr => ?_)
    have HM : Hid (SM z w u2 w.heap.size (w.heap.size + 1) TA tc T SA sc S GA gc G em sd dn pk co stZ) := Lib.hid ⟨prev_bel _ _, kb, kr, inferInstance, inferInstance, inferInstance, lT.out.fr, lS.out.fr, lG.out.fr, Nat.le_refl _, Nat.le_succ _, Nat.ne_of_lt (Nat.lt_succ_self _)⟩
    clear kb kr
    go_cut [15] (fun x wx => x = .bool r ∧ Prev wx u2)
    case first =>
      have p9 := HM.out.pr
      have kb := HM.out.bx
      have kr := HM.out.rx
      have eT := HM.out.hT
      have eS := HM.out.hS
      have eG := HM.out.hG
      by_cases e : d = 1
      · have t1 : ((d : Int) == 1) = true := by simp; omega
        have hr : r = true := by rw [← HRD.out, Ch.ready, decide_eq_true (by omega)]; rfl
        clear e
        go_wp2_with fail
        go_meet
        exact ⟨by rw [hr], prev_bel _ _⟩
      · have t1 : ((d : Int) == 1) = false := by simp; omega
        have HR : Hid (T.contains ((d : Int) - 1) = r) := Lib.hid (by rw [← HRD.out, Ch.ready, decide_eq_false (by omega)]; rfl)
        clear e
        go_wp2_with (first | (go_at_call 90; (try first | (with_reducible refine gen_boxK3 (fun u _ _ _ _ => ?_)) | (with_reducible refine gen_boxK2 (fun u _ _ _ => ?_)) | (with_reducible refine gen_boxK (fun u _ _ => ?_))); (with_reducible refine (r18_hasV (by omega) HR).mono ?_); rintro e u ⟨rfl, _⟩))
        go_meet
        exact ⟨rfl, prev_bel _ _⟩
    obtain ⟨rfl, pc⟩ := hcut
    have HM := Lib.hid (HM.out.at (w' := wc))
    have p9 := HM.out.pr
    have kb := HM.out.bx
    have kr := HM.out.rx
    have eT := HM.out.hT
    have eS := HM.out.hS
    have eG := HM.out.hG
    go_wp2_with (first | (go_at_call 90; (try first | (with_reducible refine gen_boxK3 (fun u _ _ _ _ => ?_)) | (with_reducible refine gen_boxK2 (fun u _ _ _ => ?_)) | (with_reducible refine gen_boxK (fun u _ _ => ?_))); (with_reducible refine (r18_hasV (by omega) HT).mono ?_); rintro e u ⟨rfl, _⟩))
    refine HM.out.at.ret rfl (fun W hW => ?_) (Lib.hid rfl)
    obtain ⟨r0, r1, r2, r3, r4, r5, r6, r7⟩ := cells8 hW
    clear hW
    simp [results, Try.results54, go_sem, r0, r1, r2, r3, r4, r5, r6, r7]
set_option maxRecDepth 100000 in
set_option maxHeartbeats 8000000 in
theorem do20_emit_ok (hok : Hid c.Ok) [Sl w A n c.W] [Sl w B m c.K] [Sl w TA T.length T] [Sl w SA S.length S] [Sl w GA G.length G] (lT : Hid (Lw z w TA)) (lS : Hid (Lw z w SA)) (lG : Hid (Lw z w GA))
    (kT : T.length ≤ 400000) (hd : d ≤ 64) (HRD : Hid (Ch.ready ⟨T, S, G, em, sd, dn, pk, co⟩ (d : Int) = r)) (kG : G.length ≤ 400000) (t1 : (em == 1) = false) (HT : Hid (T.contains (m : Int) = true)) (HTR : Hid (∀ x ∈ T, 0 ≤ x ∧ x < (n : Int))) (HGR : Hid (∀ x ∈ G, 0 ≤ x ∧ x < (n : Int))) :
    Calls Try.prog 54 #[.slice A n p, .slice B m q, .int .i64 cap, .agg (stC TA tc T SA sc S GA gc G em sd dn pk co), .int .i64 4, .int .i64 d] w (RetD20 z w 0 (c.setPk ⟨T, S, G, 1, sd, dn, pk, co⟩)) := by
  have CB := @cell_bx
  have CP := @cell_prev
  have FB := @frozen_bx
  have hsub : IntKind.i64.wrap ((d : Int) - 1) = (d : Int) - 1 := by rw [IntKind.wrap_i64]; omega
  go_enter Try.func54, Try.ntmps54
  go_upto_region 2 with fail
  refine gen_box2C (fun u2 _ kb kr => ?_)
  have HM : Hid (SM z w u2 w.heap.size (w.heap.size + 1) TA tc T SA sc S GA gc G em sd dn pk co stZ) := Lib.hid ⟨prev_bel _ _, kb, kr, inferInstance, inferInstance, inferInstance, lT.out.fr, lS.out.fr, lG.out.fr, Nat.le_refl _, Nat.le_succ _, Nat.ne_of_lt (Nat.lt_succ_self _)⟩
  clear kb kr
  go_cut [15] (fun x wx => x = .bool r ∧ Prev wx u2)
  case first =>
    have p9 := HM.out.pr
    have kb := HM.out.bx
    have kr := HM.out.rx
    have eT := HM.out.hT
    have eS := HM.out.hS
    have eG := HM.out.hG
    by_cases e : d = 1
    · have t1 : ((d : Int) == 1) = true := by simp; omega
      have hr : r = true := by rw [← HRD.out, Ch.ready, decide_eq_true (by omega)]; rfl
      clear e
      go_wp2_with fail
      go_meet
      exact ⟨by rw [hr], prev_bel _ _⟩
    · have t1 : ((d : Int) == 1) = false := by simp; omega
      have HR : Hid (T.contains ((d : Int) - 1) = r) := Lib.hid (by rw [← HRD.out, Ch.ready, decide_eq_false (by omega)]; rfl)
      clear e
      go_wp2_with (first | (go_at_call 90; (try first | (with_reducible refine gen_boxK3 (fun u _ _ _ _ => ?_)) | (with_reducible refine gen_boxK2 (fun u _ _ _ => ?_)) | (with_reducible refine gen_boxK (fun u _ _ => ?_))); (with_reducible refine (r18_hasV (by omega) HR).mono ?_); rintro e u ⟨rfl, _⟩))
      go_meet
      exact ⟨rfl, prev_bel _ _⟩
  obtain ⟨rfl, pc⟩ := hcut
  have HM := Lib.hid (HM.out.at (w' := wc))
  have p9 := HM.out.pr
  have kb := HM.out.bx
  have kr := HM.out.rx
  have eT := HM.out.hT
  have eS := HM.out.hS
  have eG := HM.out.hG
  go_upto_region 19 with (first | (go_at_call 90; (try first | (with_reducible refine gen_boxK3 (fun u _ _ _ _ => ?_)) | (with_reducible refine gen_boxK2 (fun u _ _ _ => ?_)) | (with_reducible refine gen_boxK (fun u _ _ => ?_))); (with_reducible refine (r18_hasV (by omega) HT).mono ?_); rintro e u ⟨rfl, _⟩))
  have HJ := Lib.hid ((HM.out.at (w' := u)).int (i := 3) (v := .int .i64 1) (em' := 1) (sd' := sd) (dn' := dn) (pk' := pk) (co' := co) rfl)
  obtain ⟨v1, hv1⟩ : ∃ W : World, W = (u).setCell ⟨w.heap.size, 3, none⟩ (.int .i64 1) := ⟨_, rfl⟩
  rw [← hv1] at HJ ⊢
  clear hv1 HM
  obtain ⟨HM, -⟩ : _ ∧ True := ⟨HJ, trivial⟩
  clear HJ
  have p9 := HM.out.pr
  have kb := HM.out.bx
  have kr := HM.out.rx
  have eT := HM.out.hT
  have eS := HM.out.hS
  have eG := HM.out.hG
  have us := sum_wrap (c := c) (T := T) (G := G) hok (by omega) (by omega)
  have HP : Hid (c.setPk ⟨T, S, G, 1, sd, dn, pk, co⟩ = ⟨T, S, G, 1, sd, dn, max pk (c.sumW T + c.sumW G), co⟩) := Lib.hid rfl
  go_upto_region 34 with fail
  refine wp_region_up0 (by kernel_rfl) (fun ux _ => ?_)
  refine wpAnyH_on (i := 0) (d := 191) (v := ?_) rfl rfl (by kernel_rfl) (by kernel_rfl) (by kernel_rfl) (fun _ _ _ h => h) (by kernel_rfl) (prev_bel _ _) ?_ ?_
  rotate_left
  · intro uu (pu : Prev uu _)
    go_simp
    try (with_reducible rfl)
  try simp only [List.set]
  refine wpAnyH_on (i := 1) (d := 192) (v := ?_) rfl rfl (by kernel_rfl) (by kernel_rfl) (by kernel_rfl) (fun _ _ _ h => h) (by kernel_rfl) (prev_bel _ _) ?_ ?_
  rotate_left
  · intro uu (pu : Prev uu _)
    go_simp
    try (with_reducible rfl)
  try simp only [List.set]
  refine wpAnyH_on (i := 2) (d := 193) (v := ?_) rfl rfl (by kernel_rfl) (by kernel_rfl) (by kernel_rfl) (fun _ _ _ h => h) (by kernel_rfl) (prev_bel _ _) ?_ ?_
  rotate_left
  · intro uu (pu : Prev uu _)
    go_simp
    try (with_reducible rfl)
  try simp only [List.set]
  refine wpAnyH_on (i := 4) (d := 195) (v := ?_) rfl rfl (by kernel_rfl) (by kernel_rfl) (by kernel_rfl) (fun _ _ _ h => h) (by kernel_rfl) (prev_bel _ _) ?_ ?_
  rotate_left
  · intro uu (pu : Prev uu _)
    go_simp
    try (with_reducible rfl)
  try simp only [List.set]
  refine wpAnyH_on (i := 5) (d := 196) (v := ?_) rfl rfl (by kernel_rfl) (by kernel_rfl) (by kernel_rfl) (fun _ _ _ h => h) (by kernel_rfl) (prev_bel _ _) ?_ ?_
  rotate_left
  · intro uu (pu : Prev uu _)
    go_simp
    try (with_reducible rfl)
  try simp only [List.set]
  refine wpAnyH_on (i := 6) (d := 197) (v := ?_) rfl rfl (by kernel_rfl) (by kernel_rfl) (by kernel_rfl) (fun _ _ _ h => h) (by kernel_rfl) (prev_bel _ _) ?_ ?_
  rotate_left
  · intro uu (pu : Prev uu _)
    go_simp
    try (with_reducible rfl)
  try simp only [List.set]
  refine wpAnyH_on (i := 9) (d := 200) (v := ?_) rfl rfl (by kernel_rfl) (by kernel_rfl) (by kernel_rfl) (fun _ _ _ h => h) (by kernel_rfl) (prev_bel _ _) ?_ ?_
  rotate_left
  · intro uu (pu : Prev uu _)
    go_simp
    try (with_reducible rfl)
  try simp only [List.set]
  refine wpAnyH_on (i := 10) (d := 201) (v := ?_) rfl rfl (by kernel_rfl) (by kernel_rfl) (by kernel_rfl) (fun _ _ _ h => h) (by kernel_rfl) (prev_bel _ _) ?_ ?_
  rotate_left
  · intro uu (pu : Prev uu _)
    go_simp
    try (with_reducible rfl)
  try simp only [List.set]
  refine wpAnyH_ready (rs := [3]) (by kernel_rfl) (by simp) ?_
  refine AllReadyH.cons rfl (fun K hK => ?_) AllReadyH.nil
  go_simp
  (with_reducible refine (r20_sum (c := c) hok (by omega) HTR).mono ?_)
  rintro e ux ⟨rfl, _⟩
  dsimp only
  refine hK.out _ _ (prev_bel _ _) (fun hHeld => ?_)
  clear hHeld hK K
  try dsimp only [Act.put, List.setIfInBounds_toArray, List.set_cons_zero, List.set_cons_succ]
  refine wpAnyH_ready (rs := [7]) (by kernel_rfl) (by simp) ?_
  refine AllReadyH.cons rfl (fun K hK => ?_) AllReadyH.nil
  go_simp
  (with_reducible refine (r20_sum (c := c) hok (by omega) HGR).mono ?_)
  rintro e ux ⟨rfl, _⟩
  dsimp only
  refine hK.out _ _ (prev_bel _ _) (fun hHeld => ?_)
  clear hHeld hK K
  try dsimp only [Act.put, List.setIfInBounds_toArray, List.set_cons_zero, List.set_cons_succ]
  refine wpAnyH_on (i := 8) (d := 199) (v := ?_) rfl rfl (by kernel_rfl) (by kernel_rfl) (by kernel_rfl) (fun _ _ _ h => h) (by kernel_rfl) (prev_bel _ _) ?_ ?_
  rotate_left
  · intro uu (pu : Prev uu _)
    go_simp
    try (with_reducible rfl)
  try simp only [List.set]
  refine wpAnyH_on (i := 11) (d := 202) (v := ?_) rfl rfl (by kernel_rfl) (by kernel_rfl) (by kernel_rfl) (fun _ _ _ h => h) (by kernel_rfl) (prev_bel _ _) ?_ ?_
  rotate_left
  · intro uu (pu : Prev uu _)
    go_simp
    try (with_reducible rfl)
  try simp only [List.set]
  refine wpAnyH_done (by kernel_rfl) ?_ _
  skip
  by_cases hpk : pk < c.sumW T + c.sumW G
  · go_upto_region 35 with fail
    refine wp_region_up w (by kernel_rfl) (fun uz _ => ?_)
    refine wpAnyH_on (i := 0) (d := 203) (v := ?_) rfl rfl (by kernel_rfl) (by kernel_rfl) (by kernel_rfl) (fun _ _ _ h => h) (by kernel_rfl) (prev_bel _ _) ?_ ?_
    rotate_left
    · intro uu (pu : Prev uu _)
      go_simp
      try (with_reducible rfl)
    try simp only [List.set]
    refine wpAnyH_on (i := 1) (d := 204) (v := ?_) rfl rfl (by kernel_rfl) (by kernel_rfl) (by kernel_rfl) (fun _ _ _ h => h) (by kernel_rfl) (prev_bel _ _) ?_ ?_
    rotate_left
    · intro uu (pu : Prev uu _)
      go_simp
      try (with_reducible rfl)
    try simp only [List.set]
    refine wpAnyH_on (i := 4) (d := 207) (v := ?_) rfl rfl (by kernel_rfl) (by kernel_rfl) (by kernel_rfl) (fun _ _ _ h => h) (by kernel_rfl) (prev_bel _ _) ?_ ?_
    rotate_left
    · intro uu (pu : Prev uu _)
      go_simp
      try (with_reducible rfl)
    try simp only [List.set]
    refine wpAnyH_on (i := 5) (d := 208) (v := ?_) rfl rfl (by kernel_rfl) (by kernel_rfl) (by kernel_rfl) (fun _ _ _ h => h) (by kernel_rfl) (prev_bel _ _) ?_ ?_
    rotate_left
    · intro uu (pu : Prev uu _)
      go_simp
      try (with_reducible rfl)
    try simp only [List.set]
    refine wpAnyH_ready (rs := [2, 6]) (by kernel_rfl) (by simp) ?_
    refine AllReadyH.cons rfl (fun K hK => ?_) (AllReadyH.cons rfl (fun K hK => ?_) AllReadyH.nil)
    · go_simp
      refine hK.out _ _ (prev_bel w _) (fun hHeld => ?_)
      clear hHeld hK K
      try dsimp only [Act.put, List.setIfInBounds_toArray, List.set_cons_zero, List.set_cons_succ]
      refine wpAnyH_ready (rs := [3, 6]) (by kernel_rfl) (by simp) ?_
      refine AllReadyH.cons rfl (fun K hK => ?_) (AllReadyH.cons rfl (fun K hK => ?_) AllReadyH.nil)
      · go_simp
        (with_reducible refine (r20_sum (c := c) hok (by omega) HTR).mono ?_)
        rintro e uz ⟨rfl, _⟩
        dsimp only
        refine hK.out _ _ (prev_bel w _) (fun hHeld => ?_)
        clear hHeld hK K
        try dsimp only [Act.put, List.setIfInBounds_toArray, List.set_cons_zero, List.set_cons_succ]
        refine wpAnyH_ready (rs := [6]) (by kernel_rfl) (by simp) ?_
        refine AllReadyH.cons rfl (fun K hK => ?_) AllReadyH.nil
        go_simp
        refine hK.out _ _ (prev_bel w _) (fun hHeld => ?_)
        clear hHeld hK K
        try dsimp only [Act.put, List.setIfInBounds_toArray, List.set_cons_zero, List.set_cons_succ]
        refine wpAnyH_ready (rs := [7]) (by kernel_rfl) (by simp) ?_
        refine AllReadyH.cons rfl (fun K hK => ?_) AllReadyH.nil
        go_simp
        (with_reducible refine (r20_sum (c := c) hok (by omega) HGR).mono ?_)
        rintro e uz ⟨rfl, _⟩
        dsimp only
        refine hK.out _ _ (prev_bel w _) (fun hHeld => ?_)
        clear hHeld hK K
        try dsimp only [Act.put, List.setIfInBounds_toArray, List.set_cons_zero, List.set_cons_succ]
        refine wpAnyH_on (i := 8) (d := 211) (v := ?_) rfl rfl (by kernel_rfl) (by kernel_rfl) (by kernel_rfl) (fun _ _ _ h => h) (by kernel_rfl) (prev_bel _ _) ?_ ?_
        rotate_left
        · intro uu (pu : Prev uu _)
          go_simp
          try (with_reducible rfl)
        try simp only [List.set]
        refine wpAnyH_on (i := 9) (d := 212) (v := ?_) rfl rfl (by kernel_rfl) (by kernel_rfl) (by kernel_rfl) (fun _ _ _ h => h) (by kernel_rfl) (prev_bel _ _) ?_ ?_
        rotate_left
        · intro uu (pu : Prev uu _)
          go_simp
          try (with_reducible rfl)
        try simp only [List.set]
        refine wpAnyH_ready (rs := [10]) (by kernel_rfl) (by simp) ?_
        refine AllReadyH.cons rfl (fun K hK => ?_) AllReadyH.nil
        go_simp
        have HM := Lib.hid (HM.out.at (w' := uz))
        have HJ := Lib.hid (HM.out.int (i := 6) (v := .int .i64 (c.sumW T + c.sumW G)) (em' := _) (sd' := _) (dn' := _) (pk' := c.sumW T + c.sumW G) (co' := _) rfl)
        obtain ⟨v9, hv9⟩ : ∃ W : World, W = (uz).setCell ⟨w.heap.size, 6, none⟩ (.int .i64 (c.sumW T + c.sumW G)) := ⟨_, rfl⟩
        rw [← hv9] at HJ ⊢
        clear hv9 HM
        obtain ⟨HM, -⟩ : _ ∧ True := ⟨HJ, trivial⟩
        clear HJ
        have p9 := HM.out.pr
        refine hK.out _ _ p9 (fun hHeld => ?_)
        clear hHeld hK K
        try dsimp only [Act.put, List.setIfInBounds_toArray, List.set_cons_zero, List.set_cons_succ]
        obtain ⟨uz, rfl⟩ : ∃ W : World, W = v9 := ⟨_, rfl⟩
        have p9 := HM.out.pr
        have kb := HM.out.bx
        have kr := HM.out.rx
        have eT := HM.out.hT
        have eS := HM.out.hS
        have eG := HM.out.hG
        refine wpAnyH_done (by kernel_rfl) ?_ _
        go_wp2_with fail
        refine HM.out.at.ret rfl (fun W hW => ?_) (Lib.hid (by rw [HP.out, Int.max_eq_right (Int.le_of_lt hpk)]))
        obtain ⟨r0, r1, r2, r3, r4, r5, r6, r7⟩ := cells8 hW
        clear hW
        simp [results, Try.results54, go_sem, r0, r1, r2, r3, r4, r5, r6, r7]
      · go_simp
        refine hK.out _ _ (prev_bel w _) (fun hHeld => ?_)
        clear hHeld hK K
        try dsimp only [Act.put, List.setIfInBounds_toArray, List.set_cons_zero, List.set_cons_succ]
        refine wpAnyH_ready (rs := [3]) (by kernel_rfl) (by simp) ?_
        refine AllReadyH.cons rfl (fun K hK => ?_) AllReadyH.nil
        go_simp
        (with_reducible refine (r20_sum (c := c) hok (by omega) HTR).mono ?_)
        rintro e uz ⟨rfl, _⟩
        dsimp only
        refine hK.out _ _ (prev_bel w _) (fun hHeld => ?_)
        clear hHeld hK K
        try dsimp only [Act.put, List.setIfInBounds_toArray, List.set_cons_zero, List.set_cons_succ]
        refine wpAnyH_ready (rs := [7]) (by kernel_rfl) (by simp) ?_
        refine AllReadyH.cons rfl (fun K hK => ?_) AllReadyH.nil
        go_simp
        (with_reducible refine (r20_sum (c := c) hok (by omega) HGR).mono ?_)
        rintro e uz ⟨rfl, _⟩
        dsimp only
        refine hK.out _ _ (prev_bel w _) (fun hHeld => ?_)
        clear hHeld hK K
        try dsimp only [Act.put, List.setIfInBounds_toArray, List.set_cons_zero, List.set_cons_succ]
        refine wpAnyH_on (i := 8) (d := 211) (v := ?_) rfl rfl (by kernel_rfl) (by kernel_rfl) (by kernel_rfl) (fun _ _ _ h => h) (by kernel_rfl) (prev_bel _ _) ?_ ?_
        rotate_left
        · intro uu (pu : Prev uu _)
          go_simp
          try (with_reducible rfl)
        try simp only [List.set]
        refine wpAnyH_on (i := 9) (d := 212) (v := ?_) rfl rfl (by kernel_rfl) (by kernel_rfl) (by kernel_rfl) (fun _ _ _ h => h) (by kernel_rfl) (prev_bel _ _) ?_ ?_
        rotate_left
        · intro uu (pu : Prev uu _)
          go_simp
          try (with_reducible rfl)
        try simp only [List.set]
        refine wpAnyH_ready (rs := [10]) (by kernel_rfl) (by simp) ?_
        refine AllReadyH.cons rfl (fun K hK => ?_) AllReadyH.nil
        go_simp
        have HM := Lib.hid (HM.out.at (w' := uz))
        have HJ := Lib.hid (HM.out.int (i := 6) (v := .int .i64 (c.sumW T + c.sumW G)) (em' := _) (sd' := _) (dn' := _) (pk' := c.sumW T + c.sumW G) (co' := _) rfl)
        obtain ⟨v9, hv9⟩ : ∃ W : World, W = (uz).setCell ⟨w.heap.size, 6, none⟩ (.int .i64 (c.sumW T + c.sumW G)) := ⟨_, rfl⟩
        rw [← hv9] at HJ ⊢
        clear hv9 HM
        obtain ⟨HM, -⟩ : _ ∧ True := ⟨HJ, trivial⟩
        clear HJ
        have p9 := HM.out.pr
        refine hK.out _ _ p9 (fun hHeld => ?_)
        clear hHeld hK K
        try dsimp only [Act.put, List.setIfInBounds_toArray, List.set_cons_zero, List.set_cons_succ]
        obtain ⟨uz, rfl⟩ : ∃ W : World, W = v9 := ⟨_, rfl⟩
        have p9 := HM.out.pr
        have kb := HM.out.bx
        have kr := HM.out.rx
        have eT := HM.out.hT
        have eS := HM.out.hS
        have eG := HM.out.hG
        refine wpAnyH_done (by kernel_rfl) ?_ _
        go_wp2_with fail
        refine HM.out.at.ret rfl (fun W hW => ?_) (Lib.hid (by rw [HP.out, Int.max_eq_right (Int.le_of_lt hpk)]))
        obtain ⟨r0, r1, r2, r3, r4, r5, r6, r7⟩ := cells8 hW
        clear hW
        simp [results, Try.results54, go_sem, r0, r1, r2, r3, r4, r5, r6, r7]
    · go_simp
      refine hK.out _ _ (prev_bel w _) (fun hHeld => ?_)
      clear hHeld hK K
      try dsimp only [Act.put, List.setIfInBounds_toArray, List.set_cons_zero, List.set_cons_succ]
      refine wpAnyH_ready (rs := [2]) (by kernel_rfl) (by simp) ?_
      refine AllReadyH.cons rfl (fun K hK => ?_) AllReadyH.nil
      go_simp
      refine hK.out _ _ (prev_bel w _) (fun hHeld => ?_)
      clear hHeld hK K
      try dsimp only [Act.put, List.setIfInBounds_toArray, List.set_cons_zero, List.set_cons_succ]
      refine wpAnyH_ready (rs := [3]) (by kernel_rfl) (by simp) ?_
      refine AllReadyH.cons rfl (fun K hK => ?_) AllReadyH.nil
      go_simp
      (with_reducible refine (r20_sum (c := c) hok (by omega) HTR).mono ?_)
      rintro e uz ⟨rfl, _⟩
      dsimp only
      refine hK.out _ _ (prev_bel w _) (fun hHeld => ?_)
      clear hHeld hK K
      try dsimp only [Act.put, List.setIfInBounds_toArray, List.set_cons_zero, List.set_cons_succ]
      refine wpAnyH_ready (rs := [7]) (by kernel_rfl) (by simp) ?_
      refine AllReadyH.cons rfl (fun K hK => ?_) AllReadyH.nil
      go_simp
      (with_reducible refine (r20_sum (c := c) hok (by omega) HGR).mono ?_)
      rintro e uz ⟨rfl, _⟩
      dsimp only
      refine hK.out _ _ (prev_bel w _) (fun hHeld => ?_)
      clear hHeld hK K
      try dsimp only [Act.put, List.setIfInBounds_toArray, List.set_cons_zero, List.set_cons_succ]
      refine wpAnyH_on (i := 8) (d := 211) (v := ?_) rfl rfl (by kernel_rfl) (by kernel_rfl) (by kernel_rfl) (fun _ _ _ h => h) (by kernel_rfl) (prev_bel _ _) ?_ ?_
      rotate_left
      · intro uu (pu : Prev uu _)
        go_simp
        try (with_reducible rfl)
      try simp only [List.set]
      refine wpAnyH_on (i := 9) (d := 212) (v := ?_) rfl rfl (by kernel_rfl) (by kernel_rfl) (by kernel_rfl) (fun _ _ _ h => h) (by kernel_rfl) (prev_bel _ _) ?_ ?_
      rotate_left
      · intro uu (pu : Prev uu _)
        go_simp
        try (with_reducible rfl)
      try simp only [List.set]
      refine wpAnyH_ready (rs := [10]) (by kernel_rfl) (by simp) ?_
      refine AllReadyH.cons rfl (fun K hK => ?_) AllReadyH.nil
      go_simp
      have HM := Lib.hid (HM.out.at (w' := uz))
      have HJ := Lib.hid (HM.out.int (i := 6) (v := .int .i64 (c.sumW T + c.sumW G)) (em' := _) (sd' := _) (dn' := _) (pk' := c.sumW T + c.sumW G) (co' := _) rfl)
      obtain ⟨v9, hv9⟩ : ∃ W : World, W = (uz).setCell ⟨w.heap.size, 6, none⟩ (.int .i64 (c.sumW T + c.sumW G)) := ⟨_, rfl⟩
      rw [← hv9] at HJ ⊢
      clear hv9 HM
      obtain ⟨HM, -⟩ : _ ∧ True := ⟨HJ, trivial⟩
      clear HJ
      have p9 := HM.out.pr
      refine hK.out _ _ p9 (fun hHeld => ?_)
      clear hHeld hK K
      try dsimp only [Act.put, List.setIfInBounds_toArray, List.set_cons_zero, List.set_cons_succ]
      obtain ⟨uz, rfl⟩ : ∃ W : World, W = v9 := ⟨_, rfl⟩
      have p9 := HM.out.pr
      have kb := HM.out.bx
      have kr := HM.out.rx
      have eT := HM.out.hT
      have eS := HM.out.hS
      have eG := HM.out.hG
      refine wpAnyH_done (by kernel_rfl) ?_ _
      go_wp2_with fail
      refine HM.out.at.ret rfl (fun W hW => ?_) (Lib.hid (by rw [HP.out, Int.max_eq_right (Int.le_of_lt hpk)]))
      obtain ⟨r0, r1, r2, r3, r4, r5, r6, r7⟩ := cells8 hW
      clear hW
      simp [results, Try.results54, go_sem, r0, r1, r2, r3, r4, r5, r6, r7]
  · go_wp2_with fail
    refine HM.out.at.ret rfl (fun W hW => ?_) (Lib.hid (by rw [HP.out, Int.max_eq_left (by omega)]))
    obtain ⟨r0, r1, r2, r3, r4, r5, r6, r7⟩ := cells8 hW
    clear hW
    simp [results, Try.results54, go_sem, r0, r1, r2, r3, r4, r5, r6, r7]
end
end Go.Proofs.Ytphcffcecncngaa
