/- The walk of the statement PoolGoes. -/
import Derived.Test.YteibgdcieaiaiaaPoolShapes
import Derived.Test.YteibgdcieaiaiaaAppA
namespace Go.Proofs.Yteibgdcieaiaiaa
open Go.RowKit

theorem agE_kind {kind : Int} {zs xs : List Int} {W S : Int} (h : agE kind zs xs W S = 0) : (kind = 1 ∨ kind = 2) ∧ tRightB zs xs = true ∧ plE zs W S = 0 := by
  unfold agE at h
  split at h
  · omega
  · split at h
    · rename_i h1 h2; exact ⟨by omega, h2, h⟩
    · omega
theorem rowV_poolRow {kind : Int} {W S N Z r : Nat} {xs : List Int} (h : ∀ j, j < N → j * S + W ≤ Z) : rowV kind W S N (rowOf xs Z r) = poolRow (poolV kind W) xs Z N S W r :=
  List.map_congr_left fun j hj => by rw [rowOf, win_row (h j (List.mem_range.1 hj))]
set_option maxRecDepth 100000 in
set_option maxHeartbeats 8000000 in
theorem poolGoes_calls (kind : Int) (A B C D : Option Addr) (c d c' d' : Nat) (zs xs zg xg : List Int) (W S : Int) (w : World) (iA : IntsIn w A c zs) (iB : IntsIn w B d xs) :
    Calls Try.prog 9 #[.agg #[.int .i64 kind, .slice A zs.length c, .slice B xs.length d, .slice C zg.length c', .slice D xg.length d', .int .i64 W, .int .i64 S]] w (LawTrue w) := by
  have a : Sl w A zs.length zs := ⟨iA.rd, rfl⟩
  have b : Sl w B xs.length xs := ⟨iB.rd, rfl⟩
  have i6 : I6s xs := iB.i6
  have ld : Le xs.length d := ⟨iB.2.1⟩
  clear iA iB
  have CB := @cell_bx
  have CP := @cell_prev
  rcases hs : (decide (zs.length ≤ 9) && decide (zg.length ≤ 9) && decide (xs.length ≤ 600) && decide (xg.length ≤ 600)) with _ | _
  · go_enter Try.func9, Try.ntmps9
    go_wp2_with (first | (go_at_call 35; (try first | (with_reducible refine gen_boxK3 (fun u _ _ _ _ => ?_)) | (with_reducible refine gen_boxK2 (fun u _ _ _ => ?_)) | (with_reducible refine gen_boxK (fun u _ _ => ?_))); (with_reducible refine (a08_small).mono ?_); rintro e u ⟨rfl, _⟩) | (go_at_call 32; (try first | (with_reducible refine gen_boxK3 (fun u _ _ _ _ => ?_)) | (with_reducible refine gen_boxK2 (fun u _ _ _ => ?_)) | (with_reducible refine gen_boxK (fun u _ _ => ?_))); (with_reducible refine (a08_awake).mono ?_); rintro e u ⟨rfl, _⟩))
    go_ret
    exact ⟨rfl, bel w _⟩
  have hs' := hs
  simp only [Bool.and_eq_true, decide_eq_true_eq, and_assoc] at hs'
  obtain ⟨hzl, hgl, hxl6, hgl6⟩ := hs'
  obtain ⟨E, hE⟩ : ∃ E, agE kind zs xs W S = E := ⟨_, rfl⟩
  by_cases h0 : E = 0
  rotate_left
  · have e0 : (E != 0) = true := by simpa using h0
    have HE := Lib.hid hE
    clear h0 hE
    go_enter Try.func9, Try.ntmps9
    go_wp2_with (first | (go_at_call 35; (try first | (with_reducible refine gen_boxK3 (fun u _ _ _ _ => ?_)) | (with_reducible refine gen_boxK2 (fun u _ _ _ => ?_)) | (with_reducible refine gen_boxK (fun u _ _ => ?_))); (with_reducible refine (a08_small).mono ?_); rintro e u ⟨rfl, _⟩) | (go_at_call 36; (try first | (with_reducible refine gen_boxK3 (fun u _ _ _ _ => ?_)) | (with_reducible refine gen_boxK2 (fun u _ _ _ => ?_)) | (with_reducible refine gen_boxK (fun u _ _ => ?_))); (with_reducible refine (pl_go_no (by omega) HE e0).mono ?_); rintro e u ⟨A', c', B', d', rfl, sA, sX, lA, lX, fA, fX, _⟩) | (go_at_call 37; (try first | (with_reducible refine gen_boxK3 (fun u _ _ _ _ => ?_)) | (with_reducible refine gen_boxK2 (fun u _ _ _ => ?_)) | (with_reducible refine gen_boxK (fun u _ _ => ?_))); (with_reducible refine (a08_refused (by omega) HE).mono ?_); rintro e u ⟨rfl, _⟩) | (go_at_call 32; (try first | (with_reducible refine gen_boxK3 (fun u _ _ _ _ => ?_)) | (with_reducible refine gen_boxK2 (fun u _ _ _ => ?_)) | (with_reducible refine gen_boxK (fun u _ _ => ?_))); (with_reducible refine (a08_awake).mono ?_); rintro e u ⟨rfl, _⟩))
    go_ret
    exact ⟨rfl, bel w _⟩
  subst h0
  have HE := Lib.hid hE
  obtain ⟨hk, hr, hpl⟩ := agE_kind hE
  obtain ⟨R, Z, N, W, S, rfl, rfl, hP⟩ := PW.of hpl
  obtain ⟨V, hV⟩ : ∃ V, plV zs W S = V := ⟨_, rfl⟩
  rw [hV] at hP
  have HP := Lib.hid hP
  have HPE := Lib.hid hpl
  have HV := Lib.hid hV
  have hVl : V.length ≤ 9 := by have := plV_len zs W S; rw [hV] at this; omega
  obtain ⟨X, hX⟩ : ∃ X, X = poolL (poolV kind W) xs Z N S W (R * N) := ⟨_, rfl⟩
  have HX := Lib.hid hX
  have hxl : xs.length = R * Z := by have h1 := ((tRightB_iff _ _).1 hr).2; rw [hP.size] at h1; omega
  have hZ1 : 1 ≤ Z := Nat.le_trans hP.n1 hP.nZ
  have hZ2 := hP.Z2
  have hW1 := hP.W1
  have hW2 := hP.W2
  have hS1 := hP.S1
  have hS2 := hP.S2
  have hN2 : N ≤ 1024 := Nat.le_trans hP.nZ hZ2
  have HF := Lib.hid hP.fit
  have HM := Lib.hid hP.most
  have hXl : X.length ≤ 600 := by
    rw [hX, poolL_length]
    have := Nat.mul_le_mul_left R hP.nZ
    omega
  have HXR : Hid (X = poolR (poolV kind W) xs Z N S W R) := Lib.hid (by rw [hX, poolL_rows hP.n1])
  have hx1 : 0 < xs.length := by rw [hxl]; exact Nat.mul_pos hP.R1 hZ1
  obtain ⟨k, hk0⟩ : ∃ k, zs.length - 1 = k := ⟨_, rfl⟩
  have hkz : k < zs.length := by have := hP.len; omega
  have hZk : Hid (zs[k]? = some (Z : Int)) := Lib.hid (by rw [← hk0]; exact hP.at_)
  have mk : ((zs.length : Int) - 1) = (k : Int) := by omega
  obtain ⟨bz, oz, z, rfl, obz, cz, hz⟩ := a.get hkz
  obtain rfl : z = (Z : Int) := by have h1 := hz.out; rw [hZk.out] at h1; injection h1 with h1; exact h1.symm
  have HXL := Lib.hid hxl
  clear hz hk0 hxl hX hV hpl hE hP
  go_enter Try.func9, Try.ntmps9
  go_wp2_with (first | (go_at_call 35; (try first | (with_reducible refine gen_boxK3 (fun u _ _ _ _ => ?_)) | (with_reducible refine gen_boxK2 (fun u _ _ _ => ?_)) | (with_reducible refine gen_boxK (fun u _ _ => ?_))); (with_reducible refine (a08_small).mono ?_); rintro e u ⟨rfl, _⟩) | (go_at_call 36; (try first | (with_reducible refine gen_boxK3 (fun u _ _ _ _ => ?_)) | (with_reducible refine gen_boxK2 (fun u _ _ _ => ?_)) | (with_reducible refine gen_boxK (fun u _ _ => ?_))); (with_reducible refine (pl_go_yes (by omega) hr hk HP HX).mono ?_); rintro e u ⟨A', c', B', d', rfl, sA, sX, lA, lX, fA, fX, _⟩) | (go_at_call 37; (try first | (with_reducible refine gen_boxK3 (fun u _ _ _ _ => ?_)) | (with_reducible refine gen_boxK2 (fun u _ _ _ => ?_)) | (with_reducible refine gen_boxK (fun u _ _ => ?_))); (with_reducible refine (a08_refused (by omega) HE).mono ?_); rintro e u ⟨rfl, _⟩) | (go_at_call 34; (try first | (with_reducible refine gen_boxK3 (fun u _ _ _ _ => ?_)) | (with_reducible refine gen_boxK2 (fun u _ _ _ => ?_)) | (with_reducible refine gen_boxK (fun u _ _ => ?_))); (with_reducible refine (a08_told (by omega) HPE HV).mono ?_); rintro e u ⟨A', c', rfl, sJ, lJ, fJ, _⟩) | (go_at_call 38; (try first | (with_reducible refine gen_boxK3 (fun u _ _ _ _ => ?_)) | (with_reducible refine gen_boxK2 (fun u _ _ _ => ?_)) | (with_reducible refine gen_boxK (fun u _ _ => ?_))); (with_reducible refine (a08_cells (by omega)).mono ?_); rintro e u ⟨A', c', rfl, sC, lC, _⟩))
  obtain ⟨v, rfl⟩ : ∃ v : World, v = u := ⟨_, rfl⟩
  obtain ⟨bc, oc, x0, rfl, obc, -, -⟩ := sC.get hx1
  go_loopw [10, 11] (fun p t wr => ∃ (r T : Nat) (A2 : Option Addr) (c2 : Nat) (L : List Int), r ≤ R ∧ t = .int .i64 T ∧ Hid (r * Z = T) ∧ T ≤ xs.length ∧ p = .slice A2 L.length c2 ∧ Hid (L = poolR (poolV kind W) xs Z N S W r) ∧ L.length ≤ T ∧ OwnA wr v.heap.size 2 A2 c2 L ∧ Prev wr v) (fun _ t _ => xs.length - (intOf t).toNat)
  case atStart => exact ⟨0, 0, none, 0, [], Nat.zero_le _, rfl, Lib.hid (by simp), by omega, rfl, Lib.hid rfl, by simp, OwnA.nil _ _ _, prev_bel _ _⟩
  case round =>
    obtain ⟨r, T, A2, c2, L, hrR, rfl, HT, hT, rfl, HL, hLl, hown, hp⟩ := hrel
    by_cases hlt : T < xs.length
    · obtain ⟨T2, hT2⟩ : ∃ T2, T + Z = T2 := ⟨_, rfl⟩
      have hrl : r < R := by
        rcases Nat.lt_or_ge r R with h | h
        · exact h
        · have h2 : R * Z ≤ r * Z := Nat.mul_le_mul_right _ h
          rw [HT.out, ← HXL.out] at h2
          omega
      have hT2x : T2 ≤ xs.length := by
        have h2 : (r + 1) * Z ≤ R * Z := Nat.mul_le_mul_right _ hrl
        rw [Nat.succ_mul, HT.out, ← HXL.out] at h2
        omega
      have mT : IntKind.i64.wrap ((T : Int) + (Z : Int)) = (T2 : Int) := by rw [← hT2, Int.natCast_add]; exact IntWalk.i64_in _ (by omega)
      have hcc := lC.le
      have hsl := slice_at (P := Try.prog) 42 (by kernel_rfl) (by kernel_rfl) bc oc xs.length c' T T2 (T : Int) (T2 : Int) rfl rfl (by omega) hT2x hcc (by omega)
      rw [show T2 - T = Z from by omega] at hsl
      have sR0 : Sl v (some ⟨bc, oc + T, none⟩) Z (rowOf xs Z r) := by rw [rowOf, HT.out]; exact sC.part (by omega)
      have iR : I6s (rowOf xs Z r) := i6.part _ _
      have HN1 : Hid (poolR (poolV kind W) xs Z N S W (r + 1) = L ++ rowV kind W S N (rowOf xs Z r)) := Lib.hid (by rw [poolR_succ, ← HL.out, rowV_poolRow HF.out])
      have hNZ := HP.out.nZ
      have hRl : (rowV kind W S N (rowOf xs Z r)).length = N := rowV_length
      have HT2 := Lib.hid hT2
      clear hT2
      go_wp2_with fail
      refine wp_region_up v (by kernel_rfl) (fun vx _ => ?_)
      refine wpAnyH_on (i := 0) (d := 76) (v := ?_) rfl rfl (by kernel_rfl) (by kernel_rfl) (by kernel_rfl) (fun _ _ _ h => h) (by kernel_rfl) (prev_bel _ _) ?_ ?_
      rotate_left
      · intro uu (pu : Prev uu _)
        go_simp
        try (with_reducible rfl)
      try simp only [List.set]
      refine wpAnyH_on (i := 1) (d := 77) (v := ?_) rfl rfl (by kernel_rfl) (by kernel_rfl) (by kernel_rfl) (fun _ _ _ h => h) (by kernel_rfl) (prev_bel _ _) ?_ ?_
      rotate_left
      · intro uu (pu : Prev uu _)
        go_simp
        try (with_reducible rfl)
      try simp only [List.set]
      refine wpAnyH_on (i := 2) (d := 78) (v := ?_) rfl rfl (by kernel_rfl) (by kernel_rfl) (by kernel_rfl) (fun _ _ _ h => h) (by kernel_rfl) (prev_bel _ _) ?_ ?_
      rotate_left
      · intro uu (pu : Prev uu _)
        go_simp
        try (with_reducible rfl)
      try simp only [List.set]
      refine wpAnyH_on (i := 3) (d := 79) (v := ?_) rfl rfl (by kernel_rfl) (by kernel_rfl) (by kernel_rfl) (fun _ _ _ h => h) (by kernel_rfl) (prev_bel _ _) ?_ ?_
      rotate_left
      · intro uu (pu : Prev uu _)
        go_simp
        try (with_reducible rfl)
      try simp only [List.set]
      refine wpAnyH_on (i := 4) (d := 80) (v := ?_) rfl rfl (by kernel_rfl) (by kernel_rfl) (by kernel_rfl) (fun _ _ _ h => h) (by kernel_rfl) (prev_bel _ _) ?_ ?_
      rotate_left
      · intro uu (pu : Prev uu _)
        go_simp
        try (with_reducible rfl)
      try simp only [List.set]
      refine wpAnyH_on (i := 5) (d := 81) (v := ?_) rfl rfl (by kernel_rfl) (by kernel_rfl) (by kernel_rfl) (fun _ _ _ h => h) (by kernel_rfl) (prev_bel _ _) ?_ ?_
      rotate_left
      · intro uu (pu : Prev uu _)
        go_simp
        try (with_reducible rfl)
      try simp only [List.set]
      refine wpAnyH_on (i := 6) (d := 82) (v := ?_) rfl rfl (by kernel_rfl) (by kernel_rfl) (by kernel_rfl) (fun _ _ _ h => h) (by kernel_rfl) (prev_bel _ _) ?_ ?_
      rotate_left
      · intro uu (pu : Prev uu _)
        go_simp
        try (with_reducible rfl)
      try simp only [List.set]
      refine wpAnyH_on (i := 7) (d := 83) (v := ?_) rfl rfl (by kernel_rfl) (by kernel_rfl) (by kernel_rfl) (fun _ _ _ h => h) (by kernel_rfl) (prev_bel _ _) ?_ ?_
      rotate_left
      · intro uu (pu : Prev uu _)
        go_simp
        try (with_reducible rfl)
      try simp only [List.set]
      refine wpAnyH_on (i := 8) (d := 84) (v := ?_) rfl rfl (by kernel_rfl) (by kernel_rfl) (by kernel_rfl) (fun _ _ _ h => h) (by kernel_rfl) (prev_bel _ _) ?_ ?_
      rotate_left
      · intro uu (pu : Prev uu _)
        go_simp
        try (with_reducible rfl)
      try simp only [List.set]
      refine wpAnyH_on (i := 9) (d := 85) (v := ?_) rfl rfl (by kernel_rfl) (by kernel_rfl) (by kernel_rfl) (fun _ _ _ h => h) (by kernel_rfl) (prev_bel _ _) ?_ ?_
      rotate_left
      · intro uu (pu : Prev uu _)
        go_simp
        try (with_reducible rfl)
      try simp only [List.set]
      refine wpAnyH_on (i := 10) (d := 86) (v := ?_) rfl rfl (by kernel_rfl) (by kernel_rfl) (by kernel_rfl) (fun _ _ _ h => h) (by kernel_rfl) (prev_bel _ _) ?_ ?_
      rotate_left
      · intro uu (pu : Prev uu _)
        go_simp
        try (with_reducible rfl)
      try simp only [List.set]
      refine wpAnyH_on (i := 11) (d := 87) (v := ?_) rfl rfl (by kernel_rfl) (by kernel_rfl) (by kernel_rfl) (fun _ _ _ h => h) (by kernel_rfl) (prev_bel _ _) ?_ ?_
      rotate_left
      · intro uu (pu : Prev uu _)
        go_simp
        try (with_reducible rfl)
      try simp only [List.set]
      refine wpAnyH_on (i := 12) (d := 88) (v := ?_) rfl rfl (by kernel_rfl) (by kernel_rfl) (by kernel_rfl) (fun _ _ _ h => h) (by kernel_rfl) (prev_bel _ _) ?_ ?_
      rotate_left
      · intro uu (pu : Prev uu _)
        go_simp
        try (with_reducible rfl)
      try simp only [List.set]
      refine wpAnyH_ready (rs := [13]) (by kernel_rfl) (by simp) ?_
      refine AllReadyH.cons rfl (fun K hK => ?_) AllReadyH.nil
      go_simp
      (with_reducible refine (r8_row (by omega) (by omega) (by omega) (by omega) (by omega) (by omega) HF HM).mono ?_)
      rintro e vx ⟨A', c', rfl, sR, _⟩
      dsimp only
      refine hK.out _ _ (prev_bel v _) (fun hHeld => ?_)
      clear hHeld hK K
      try dsimp only [Act.put, List.setIfInBounds_toArray, List.set_cons_zero, List.set_cons_succ]
      refine wpAnyH_ready (rs := [14]) (by kernel_rfl) (by simp) ?_
      refine AllReadyH.cons rfl (fun K hK => ?_) AllReadyH.nil
      refine step_appA (by kernel_rfl) _ _ _ rfl 2 Try.underlying42 (by kernel_rfl) (World.heap v).size _ _ _ rfl hown.at rfl ?_ later_size ?_
      · omega
      intro A3 c3 w3 ho3 hb3
      have : Prev w3 v := ⟨(bel v _).trans hb3⟩
      clear hb3
      refine hK.out _ _ (prev_bel v _) (fun hHeld => ?_)
      clear hHeld hK K
      try dsimp only [Act.put, List.setIfInBounds_toArray, List.set_cons_zero, List.set_cons_succ]
      refine wpAnyH_on (i := 15) (d := 10) (v := ?_) rfl rfl (by kernel_rfl) (by kernel_rfl) (by kernel_rfl) (fun _ _ _ h => h) (by kernel_rfl) (prev_bel _ _) ?_ ?_
      rotate_left
      · intro uu (pu : Prev uu _)
        go_simp
        try (with_reducible rfl)
      try simp only [List.set]
      refine wpAnyH_done (by kernel_rfl) ?_ _
      go_wp2_with fail
      go_roundw
      case rel => exact ⟨r + 1, T2, A3, c3, L ++ rowV kind W S N (rowOf xs Z r), by omega, by go_num, Lib.hid (by rw [Nat.succ_mul, HT.out, HT2.out]), hT2x, by simp [hRl], Lib.hid HN1.out.symm, by rw [List.length_append, hRl, ← HT2.out]; omega, ho3, prev_bel _ _⟩
      case measure => have := HT2.out; simp [intOf]; omega
    · obtain rfl : R = r := by
        rcases Nat.lt_or_ge r R with h | h
        · have h2 : (r + 1) * Z ≤ R * Z := Nat.mul_le_mul_right _ h
          rw [Nat.succ_mul, HT.out, ← HXL.out] at h2
          omega
        · omega
      obtain rfl : X = L := by rw [HXR.out, HL.out]
      have sL : Sl wr A2 X.length X := ⟨hown.rd, rfl⟩
      go_wp2_with (first | (go_at_call 18; (try first | (with_reducible refine gen_boxK3 (fun u _ _ _ _ => ?_)) | (with_reducible refine gen_boxK2 (fun u _ _ _ => ?_)) | (with_reducible refine gen_boxK (fun u _ _ => ?_))); (with_reducible refine (a03_sameT (by omega) (by omega)).mono ?_); rintro e u ⟨rfl, _⟩) | (go_at_call 40; (try first | (with_reducible refine gen_boxK3 (fun u _ _ _ _ => ?_)) | (with_reducible refine gen_boxK2 (fun u _ _ _ => ?_)) | (with_reducible refine gen_boxK (fun u _ _ => ?_))); (with_reducible refine (a08_same (by omega) (by omega)).mono ?_); rintro e u ⟨rfl, _⟩) | (go_at_call 32; (try first | (with_reducible refine gen_boxK3 (fun u _ _ _ _ => ?_)) | (with_reducible refine gen_boxK2 (fun u _ _ _ => ?_)) | (with_reducible refine gen_boxK (fun u _ _ => ?_))); (with_reducible refine (a08_awake).mono ?_); rintro e u ⟨rfl, _⟩))
      go_ret
      exact ⟨rfl, bel w _⟩

end Go.Proofs.Yteibgdcieaiaiaa
