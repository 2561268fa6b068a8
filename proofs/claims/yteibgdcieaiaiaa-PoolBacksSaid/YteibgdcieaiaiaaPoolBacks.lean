/- The walk of the statement PoolBacks. -/
import Derived.Test.YteibgdcieaiaiaaPoolGoes
import Derived.Deep.DeepCutAuto
namespace Go.Proofs.Yteibgdcieaiaiaa
open Go.RowKit

set_option maxRecDepth 100000 in
set_option maxHeartbeats 8000000 in
theorem poolBacks_calls (kind : Int) (A B C D : Option Addr) (c d c' d' : Nat) (zs xs zg xg : List Int) (W S : Int) (w : World) (iA : IntsIn w A c zs) (iB : IntsIn w B d xs) (iC : IntsIn w C c' zg) (iD : IntsIn w D d' xg) :
    Calls Try.prog 10 #[.agg #[.int .i64 kind, .slice A zs.length c, .slice B xs.length d, .slice C zg.length c', .slice D xg.length d', .int .i64 W, .int .i64 S]] w (LawTrue w) := by
  have a : Sl w A zs.length zs := ⟨iA.rd, rfl⟩
  have b : Sl w B xs.length xs := ⟨iB.rd, rfl⟩
  have ag : Sl w C zg.length zg := ⟨iC.rd, rfl⟩
  have bg : Sl w D xg.length xg := ⟨iD.rd, rfl⟩
  have i6 : I6s xs := iB.i6
  have i6' : I6s xg := iD.i6
  have ld : Le xs.length d := ⟨iB.2.1⟩
  have ld' : Le xg.length d' := ⟨iD.2.1⟩
  clear iA iB iC iD
  have CB := @cell_bx
  have CP := @cell_prev
  rcases hs : (decide (zs.length ≤ 9) && decide (zg.length ≤ 9) && decide (xs.length ≤ 600) && decide (xg.length ≤ 600)) with _ | _
  · go_enter Try.func10, Try.ntmps10
    go_wp2_with (first | (go_at_call 35; (try first | (with_reducible refine gen_boxK3 (fun u _ _ _ _ => ?_)) | (with_reducible refine gen_boxK2 (fun u _ _ _ => ?_)) | (with_reducible refine gen_boxK (fun u _ _ => ?_))); (with_reducible refine (a08_small).mono ?_); rintro e u ⟨rfl, _⟩) | (go_at_call 32; (try first | (with_reducible refine gen_boxK3 (fun u _ _ _ _ => ?_)) | (with_reducible refine gen_boxK2 (fun u _ _ _ => ?_)) | (with_reducible refine gen_boxK (fun u _ _ => ?_))); (with_reducible refine (a08_awake).mono ?_); rintro e u ⟨rfl, _⟩))
    go_ret
    exact ⟨rfl, bel w _⟩
  have hs' := hs
  simp only [Bool.and_eq_true, decide_eq_true_eq, and_assoc] at hs'
  obtain ⟨hzl, hgl, hxl6, hgl6⟩ := hs'
  obtain ⟨E, hE⟩ : ∃ E, agE kind zs xs W S = E := ⟨_, rfl⟩
  by_cases h0 : E = 0
  rotate_left
  · have e0 : (E != 0) = true := by simpa using h0
    have HE := Lib.hid hE
    obtain ⟨V, hV⟩ : ∃ V, plV zs W S = V := ⟨_, rfl⟩
    obtain ⟨E2, hE2⟩ : ∃ E2, plE zs W S = E2 := ⟨_, rfl⟩
    have HV := Lib.hid hV
    have HE2 := Lib.hid hE2
    have e1 : (E == 0) = false := by simpa using h0
    clear h0 hE hV hE2
    go_enter Try.func10, Try.ntmps10
    go_wp2_with (first | (go_at_call 35; (try first | (with_reducible refine gen_boxK3 (fun u _ _ _ _ => ?_)) | (with_reducible refine gen_boxK2 (fun u _ _ _ => ?_)) | (with_reducible refine gen_boxK (fun u _ _ => ?_))); (with_reducible refine (a08_small).mono ?_); rintro e u ⟨rfl, _⟩) | (go_at_call 41; (try first | (with_reducible refine gen_boxK3 (fun u _ _ _ _ => ?_)) | (with_reducible refine gen_boxK2 (fun u _ _ _ => ?_)) | (with_reducible refine gen_boxK (fun u _ _ => ?_))); (with_reducible refine (pl_back_no (by omega) HE e0).mono ?_); rintro e u ⟨A', c', B', d', rfl, sA, sX, lA, lX, fA, fX, _⟩) | (go_at_call 37; (try first | (with_reducible refine gen_boxK3 (fun u _ _ _ _ => ?_)) | (with_reducible refine gen_boxK2 (fun u _ _ _ => ?_)) | (with_reducible refine gen_boxK (fun u _ _ => ?_))); (with_reducible refine (a08_refused (by omega) HE).mono ?_); rintro e u ⟨rfl, _⟩) | (go_at_call 34; (try first | (with_reducible refine gen_boxK3 (fun u _ _ _ _ => ?_)) | (with_reducible refine gen_boxK2 (fun u _ _ _ => ?_)) | (with_reducible refine gen_boxK (fun u _ _ => ?_))); (with_reducible refine (a08_told (by omega) HE2 HV).mono ?_); rintro e u ⟨A', c', rfl, sJ, lJ, fJ, _⟩) | (go_at_call 32; (try first | (with_reducible refine gen_boxK3 (fun u _ _ _ _ => ?_)) | (with_reducible refine gen_boxK2 (fun u _ _ _ => ?_)) | (with_reducible refine gen_boxK (fun u _ _ => ?_))); (with_reducible refine (a08_awake).mono ?_); rintro e u ⟨rfl, _⟩))
    go_ret
    exact ⟨rfl, bel w _⟩
  subst h0
  have HE := Lib.hid hE
  obtain ⟨hk, hr, hpl⟩ := agE_kind hE
  obtain ⟨V, hV⟩ : ∃ V, plV zs W S = V := ⟨_, rfl⟩
  have HPE := Lib.hid hpl
  have HV := Lib.hid hV
  have hVl : V.length ≤ 9 := by have := plV_len zs W S; rw [hV] at this; omega
  rcases hr2 : tRightB zg xg with _ | _
  · have hno : (tRightB zg xg && decide (zg = V)) = false := by simp [hr2]
    clear hV hpl hE
    go_enter Try.func10, Try.ntmps10
    go_wp2_with (first | (go_at_call 35; (try first | (with_reducible refine gen_boxK3 (fun u _ _ _ _ => ?_)) | (with_reducible refine gen_boxK2 (fun u _ _ _ => ?_)) | (with_reducible refine gen_boxK (fun u _ _ => ?_))); (with_reducible refine (a08_small).mono ?_); rintro e u ⟨rfl, _⟩) | (go_at_call 41; (try first | (with_reducible refine gen_boxK3 (fun u _ _ _ _ => ?_)) | (with_reducible refine gen_boxK2 (fun u _ _ _ => ?_)) | (with_reducible refine gen_boxK (fun u _ _ => ?_))); (with_reducible refine (pl_back_shape (by omega) (by omega) HE HV (by omega) hno).mono ?_); rintro e u ⟨A', c', B', d', rfl, sA, sX, lA, lX, fA, fX, _⟩) | (go_at_call 37; (try first | (with_reducible refine gen_boxK3 (fun u _ _ _ _ => ?_)) | (with_reducible refine gen_boxK2 (fun u _ _ _ => ?_)) | (with_reducible refine gen_boxK (fun u _ _ => ?_))); (with_reducible refine (a08_refused (by omega) HE).mono ?_); rintro e u ⟨rfl, _⟩) | (go_at_call 34; (try first | (with_reducible refine gen_boxK3 (fun u _ _ _ _ => ?_)) | (with_reducible refine gen_boxK2 (fun u _ _ _ => ?_)) | (with_reducible refine gen_boxK (fun u _ _ => ?_))); (with_reducible refine (a08_told (by omega) HPE HV).mono ?_); rintro e u ⟨A', c', rfl, sJ, lJ, fJ, _⟩) | (go_at_call 42; (try first | (with_reducible refine gen_boxK3 (fun u _ _ _ _ => ?_)) | (with_reducible refine gen_boxK2 (fun u _ _ _ => ?_)) | (with_reducible refine gen_boxK (fun u _ _ => ?_))); (with_reducible refine (a08_right (by omega)).mono ?_); rintro e u ⟨rfl, _⟩) | (go_at_call 32; (try first | (with_reducible refine gen_boxK3 (fun u _ _ _ _ => ?_)) | (with_reducible refine gen_boxK2 (fun u _ _ _ => ?_)) | (with_reducible refine gen_boxK (fun u _ _ => ?_))); (with_reducible refine (a08_awake).mono ?_); rintro e u ⟨rfl, _⟩))
    go_ret
    exact ⟨rfl, bel w _⟩
  rcases hs0 : decide (zg = V) with _ | _
  · have hno : (tRightB zg xg && decide (zg = V)) = false := by simp [hs0]
    clear hV hpl hE
    go_enter Try.func10, Try.ntmps10
    go_wp2_with (first | (go_at_call 35; (try first | (with_reducible refine gen_boxK3 (fun u _ _ _ _ => ?_)) | (with_reducible refine gen_boxK2 (fun u _ _ _ => ?_)) | (with_reducible refine gen_boxK (fun u _ _ => ?_))); (with_reducible refine (a08_small).mono ?_); rintro e u ⟨rfl, _⟩) | (go_at_call 41; (try first | (with_reducible refine gen_boxK3 (fun u _ _ _ _ => ?_)) | (with_reducible refine gen_boxK2 (fun u _ _ _ => ?_)) | (with_reducible refine gen_boxK (fun u _ _ => ?_))); (with_reducible refine (pl_back_shape (by omega) (by omega) HE HV (by omega) hno).mono ?_); rintro e u ⟨A', c', B', d', rfl, sA, sX, lA, lX, fA, fX, _⟩) | (go_at_call 37; (try first | (with_reducible refine gen_boxK3 (fun u _ _ _ _ => ?_)) | (with_reducible refine gen_boxK2 (fun u _ _ _ => ?_)) | (with_reducible refine gen_boxK (fun u _ _ => ?_))); (with_reducible refine (a08_refused (by omega) HE).mono ?_); rintro e u ⟨rfl, _⟩) | (go_at_call 34; (try first | (with_reducible refine gen_boxK3 (fun u _ _ _ _ => ?_)) | (with_reducible refine gen_boxK2 (fun u _ _ _ => ?_)) | (with_reducible refine gen_boxK (fun u _ _ => ?_))); (with_reducible refine (a08_told (by omega) HPE HV).mono ?_); rintro e u ⟨A', c', rfl, sJ, lJ, fJ, _⟩) | (go_at_call 42; (try first | (with_reducible refine gen_boxK3 (fun u _ _ _ _ => ?_)) | (with_reducible refine gen_boxK2 (fun u _ _ _ => ?_)) | (with_reducible refine gen_boxK (fun u _ _ => ?_))); (with_reducible refine (a08_right (by omega)).mono ?_); rintro e u ⟨rfl, _⟩) | (go_at_call 18; (try first | (with_reducible refine gen_boxK3 (fun u _ _ _ _ => ?_)) | (with_reducible refine gen_boxK2 (fun u _ _ _ => ?_)) | (with_reducible refine gen_boxK (fun u _ _ => ?_))); (with_reducible refine (a03_same (by omega) (by omega)).mono ?_); rintro e u ⟨rfl, _⟩) | (go_at_call 32; (try first | (with_reducible refine gen_boxK3 (fun u _ _ _ _ => ?_)) | (with_reducible refine gen_boxK2 (fun u _ _ _ => ?_)) | (with_reducible refine gen_boxK (fun u _ _ => ?_))); (with_reducible refine (a08_awake).mono ?_); rintro e u ⟨rfl, _⟩))
    go_ret
    exact ⟨rfl, bel w _⟩
  obtain rfl : zg = V := of_decide_eq_true hs0
  clear hs0
  obtain ⟨R, Z, N, W, S, rfl, rfl, hP⟩ := PW.of hpl
  rw [hV] at hP
  have HP := Lib.hid hP
  obtain ⟨X, hX⟩ : ∃ X, X = tab (R * Z) (bkC kind xs xg Z N S W (R * N)) := ⟨_, rfl⟩
  have HX := Lib.hid hX
  have hxl : xs.length = R * Z := by have h1 := ((tRightB_iff _ _).1 hr).2; rw [hP.size] at h1; omega
  have hgl2 : xg.length = R * N := by have h1 := ((tRightB_iff _ _).1 hr2).2; rw [hP.vsize] at h1; omega
  have hZ1 : 1 ≤ Z := Nat.le_trans hP.n1 hP.nZ
  have hZ2 := hP.Z2
  have hW1 := hP.W1
  have hW2 := hP.W2
  have hS1 := hP.S1
  have hS2 := hP.S2
  have hN1 := hP.n1
  have hN2 : N ≤ 1024 := Nat.le_trans hP.nZ hZ2
  have HF := Lib.hid hP.fit
  have HM := Lib.hid hP.most
  have hXl : X.length ≤ 600 := by rw [hX, tab_length]; omega
  have HXR : Hid (X = bkRows kind xs xg Z N S W R) := Lib.hid (by rw [hX, bk_rows hP hxl hgl2])
  have hx1 : 0 < xs.length := by rw [hxl]; exact Nat.mul_pos hP.R1 hZ1
  have hg1 : 0 < xg.length := by rw [hgl2]; exact Nat.mul_pos hP.R1 hN1
  obtain ⟨k, hk0⟩ : ∃ k, zs.length - 1 = k := ⟨_, rfl⟩
  have hkz : k < zs.length := by have := hP.len; omega
  have hVz : zg.length = zs.length := by rw [hP.v, List.length_set]
  have hZk : Hid (zs[k]? = some (Z : Int)) := Lib.hid (by rw [← hk0]; exact hP.at_)
  have hVk : Hid (zg[k]? = some (N : Int)) := Lib.hid (by rw [hP.v, hk0, List.getElem?_set_self hkz])
  have mk : IntKind.i64.wrap ((zs.length : Int) - 1) = (k : Int) := by rw [show (zs.length : Int) - 1 = (k : Int) from by omega]; exact IntWalk.i64_in _ (by omega)
  have mk2 : IntKind.i64.wrap ((zg.length : Int) - 1) = (k : Int) := by rw [show (zg.length : Int) - 1 = (k : Int) from by omega]; exact IntWalk.i64_in _ (by omega)
  have hkV : k < zg.length := by omega
  obtain ⟨bz, oz, z, rfl, obz, cz, hz⟩ := a.get hkz
  obtain rfl : z = (Z : Int) := by have h1 := hz.out; rw [hZk.out] at h1; injection h1 with h1; exact h1.symm
  have HXL := Lib.hid hxl
  have HGL := Lib.hid hgl2
  clear hz hk0 hxl hgl2 hX hV hpl hE hP hVz
  go_enter Try.func10, Try.ntmps10
  go_upto_region 10 with (first | (go_at_call 35; (try first | (with_reducible refine gen_boxK3 (fun u _ _ _ _ => ?_)) | (with_reducible refine gen_boxK2 (fun u _ _ _ => ?_)) | (with_reducible refine gen_boxK (fun u _ _ => ?_))); (with_reducible refine (a08_small).mono ?_); rintro e u ⟨rfl, _⟩) | (go_at_call 41; (try first | (with_reducible refine gen_boxK3 (fun u _ _ _ _ => ?_)) | (with_reducible refine gen_boxK2 (fun u _ _ _ => ?_)) | (with_reducible refine gen_boxK (fun u _ _ => ?_))); (with_reducible refine (pl_back_yes (by omega) (by omega) hr hk HP hr2 HX).mono ?_); rintro e u ⟨A', c', B', d', rfl, sA, sX, lA, lX, fA, fX, _⟩) | (go_at_call 37; (try first | (with_reducible refine gen_boxK3 (fun u _ _ _ _ => ?_)) | (with_reducible refine gen_boxK2 (fun u _ _ _ => ?_)) | (with_reducible refine gen_boxK (fun u _ _ => ?_))); (with_reducible refine (a08_refused (by omega) HE).mono ?_); rintro e u ⟨rfl, _⟩) | (go_at_call 34; (try first | (with_reducible refine gen_boxK3 (fun u _ _ _ _ => ?_)) | (with_reducible refine gen_boxK2 (fun u _ _ _ => ?_)) | (with_reducible refine gen_boxK (fun u _ _ => ?_))); (with_reducible refine (a08_told (by omega) HPE HV).mono ?_); rintro e u ⟨A', c', rfl, sJ, lJ, fJ, _⟩) | (go_at_call 42; (try first | (with_reducible refine gen_boxK3 (fun u _ _ _ _ => ?_)) | (with_reducible refine gen_boxK2 (fun u _ _ _ => ?_)) | (with_reducible refine gen_boxK (fun u _ _ => ?_))); (with_reducible refine (a08_right (by omega)).mono ?_); rintro e u ⟨rfl, _⟩) | (go_at_call 18; (try first | (with_reducible refine gen_boxK3 (fun u _ _ _ _ => ?_)) | (with_reducible refine gen_boxK2 (fun u _ _ _ => ?_)) | (with_reducible refine gen_boxK (fun u _ _ => ?_))); (with_reducible refine (a03_sameT (by omega) (by omega)).mono ?_); rintro e u ⟨rfl, _⟩))
  obtain ⟨bs, os, zn, rfl, obs, cs, hzs⟩ := sJ.get hkV
  obtain rfl : zn = (N : Int) := by have h1 := hzs.out; rw [hVk.out] at h1; injection h1 with h1; exact h1.symm
  clear hzs
  refine wp_region_up0 (by kernel_rfl) (fun u10 _ => ?_)
  refine wpAnyH_on (i := 0) (d := 75) (v := ?_) rfl rfl (by kernel_rfl) (by kernel_rfl) (by kernel_rfl) (fun _ _ _ h => h) (by kernel_rfl) (prev_bel _ _) ?_ ?_
  rotate_left
  · intro uu (pu : Prev uu _)
    go_simp
    try (with_reducible rfl)
  try simp only [List.set]
  refine wpAnyH_on (i := 1) (d := 76) (v := ?_) rfl rfl (by kernel_rfl) (by kernel_rfl) (by kernel_rfl) (fun _ _ _ h => h) (by kernel_rfl) (prev_bel _ _) ?_ ?_
  rotate_left
  · intro uu (pu : Prev uu _)
    go_simp
    try (with_reducible rfl)
  try simp only [List.set]
  refine wpAnyH_on (i := 2) (d := 77) (v := ?_) rfl rfl (by kernel_rfl) (by kernel_rfl) (by kernel_rfl) (fun _ _ _ h => h) (by kernel_rfl) (prev_bel _ _) ?_ ?_
  rotate_left
  · intro uu (pu : Prev uu _)
    go_simp
    try (with_reducible rfl)
  try simp only [List.set]
  refine wpAnyH_on (i := 3) (d := 78) (v := ?_) rfl rfl (by kernel_rfl) (by kernel_rfl) (by kernel_rfl) (fun _ _ _ h => h) (by kernel_rfl) (prev_bel _ _) ?_ ?_
  rotate_left
  · intro uu (pu : Prev uu _)
    go_simp
    try (with_reducible rfl)
  try simp only [List.set]
  refine wpAnyH_on (i := 4) (d := 79) (v := ?_) rfl rfl (by kernel_rfl) (by kernel_rfl) (by kernel_rfl) (fun _ _ _ h => h) (by kernel_rfl) (prev_bel _ _) ?_ ?_
  rotate_left
  · intro uu (pu : Prev uu _)
    go_simp
    try (with_reducible rfl)
  try simp only [List.set]
  refine wpAnyH_on (i := 5) (d := 80) (v := ?_) rfl rfl (by kernel_rfl) (by kernel_rfl) (by kernel_rfl) (fun _ _ _ h => h) (by kernel_rfl) (prev_bel _ _) ?_ ?_
  rotate_left
  · intro uu (pu : Prev uu _)
    go_simp
    try (with_reducible rfl)
  try simp only [List.set]
  refine wpAnyH_on (i := 6) (d := 81) (v := ?_) rfl rfl (by kernel_rfl) (by kernel_rfl) (by kernel_rfl) (fun _ _ _ h => h) (by kernel_rfl) (prev_bel _ _) ?_ ?_
  rotate_left
  · intro uu (pu : Prev uu _)
    go_simp
    try (with_reducible rfl)
  try simp only [List.set]
  refine wpAnyH_on (i := 7) (d := 82) (v := ?_) rfl rfl (by kernel_rfl) (by kernel_rfl) (by kernel_rfl) (fun _ _ _ h => h) (by kernel_rfl) (prev_bel _ _) ?_ ?_
  rotate_left
  · intro uu (pu : Prev uu _)
    go_simp
    try (with_reducible rfl)
  try simp only [List.set]
  refine wpAnyH_on (i := 8) (d := 83) (v := ?_) rfl rfl (by kernel_rfl) (by kernel_rfl) (by kernel_rfl) (fun _ _ _ h => h) (by kernel_rfl) (prev_bel _ _) ?_ ?_
  rotate_left
  · intro uu (pu : Prev uu _)
    go_simp
    try (with_reducible rfl)
  try simp only [List.set]
  refine wpAnyH_on (i := 9) (d := 84) (v := ?_) rfl rfl (by kernel_rfl) (by kernel_rfl) (by kernel_rfl) (fun _ _ _ h => h) (by kernel_rfl) (prev_bel _ _) ?_ ?_
  rotate_left
  · intro uu (pu : Prev uu _)
    go_simp
    try (with_reducible rfl)
  try simp only [List.set]
  refine wpAnyH_on (i := 10) (d := 85) (v := ?_) rfl rfl (by kernel_rfl) (by kernel_rfl) (by kernel_rfl) (fun _ _ _ h => h) (by kernel_rfl) (prev_bel _ _) ?_ ?_
  rotate_left
  · intro uu (pu : Prev uu _)
    go_simp
    try (with_reducible rfl)
  try simp only [List.set]
  refine wpAnyH_on (i := 11) (d := 86) (v := ?_) rfl rfl (by kernel_rfl) (by kernel_rfl) (by kernel_rfl) (fun _ _ _ h => h) (by kernel_rfl) (prev_bel _ _) ?_ ?_
  rotate_left
  · intro uu (pu : Prev uu _)
    go_simp
    try (with_reducible rfl)
  try simp only [List.set]
  refine wpAnyH_on (i := 12) (d := 87) (v := ?_) rfl rfl (by kernel_rfl) (by kernel_rfl) (by kernel_rfl) (fun _ _ _ h => h) (by kernel_rfl) (prev_bel _ _) ?_ ?_
  rotate_left
  · intro uu (pu : Prev uu _)
    go_simp
    try (with_reducible rfl)
  try simp only [List.set]
  refine wpAnyH_on (i := 13) (d := 88) (v := ?_) rfl rfl (by kernel_rfl) (by kernel_rfl) (by kernel_rfl) (fun _ _ _ h => h) (by kernel_rfl) (prev_bel _ _) ?_ ?_
  rotate_left
  · intro uu (pu : Prev uu _)
    go_simp
    try (with_reducible rfl)
  try simp only [List.set]
  refine wpAnyH_on (i := 14) (d := 89) (v := ?_) rfl rfl (by kernel_rfl) (by kernel_rfl) (by kernel_rfl) (fun _ _ _ h => h) (by kernel_rfl) (prev_bel _ _) ?_ ?_
  rotate_left
  · intro uu (pu : Prev uu _)
    go_simp
    try (with_reducible rfl)
  try simp only [List.set]
  refine wpAnyH_on (i := 15) (d := 90) (v := ?_) rfl rfl (by kernel_rfl) (by kernel_rfl) (by kernel_rfl) (fun _ _ _ h => h) (by kernel_rfl) (prev_bel _ _) ?_ ?_
  rotate_left
  · intro uu (pu : Prev uu _)
    go_simp
    try (with_reducible rfl)
  try simp only [List.set]
  refine wpAnyH_on (i := 16) (d := 8) (v := ?_) rfl rfl (by kernel_rfl) (by kernel_rfl) (by kernel_rfl) (fun _ _ _ h => h) (by kernel_rfl) (prev_bel _ _) ?_ ?_
  rotate_left
  · intro uu (pu : Prev uu _)
    go_simp
    try (with_reducible rfl)
  try simp only [List.set]
  refine wpAnyH_on (i := 17) (d := 9) (v := ?_) rfl rfl (by kernel_rfl) (by kernel_rfl) (by kernel_rfl) (fun _ _ _ h => h) (by kernel_rfl) (prev_bel _ _) ?_ ?_
  rotate_left
  · intro uu (pu : Prev uu _)
    go_simp
    try (with_reducible rfl)
  try simp only [List.set]
  refine wpAnyH_done (by kernel_rfl) ?_ _
  go_upto_region 11 with fail
  go_cut [10, 11] (fun p q wx => ∃ A1 c1 A2 c2, p = .slice A1 xs.length c1 ∧ q = .slice A2 xg.length c2 ∧ Sl wx A1 xs.length xs ∧ Sl wx A2 xg.length xg ∧ Le xs.length c1 ∧ Le xg.length c2 ∧ Prev wx u10)
  case first =>
    refine wp_region_up0 (by kernel_rfl) (fun u11 _ => ?_)
    refine wpAnyH_on (i := 0) (d := 91) (v := ?_) rfl rfl (by kernel_rfl) (by kernel_rfl) (by kernel_rfl) (fun _ _ _ h => h) (by kernel_rfl) (prev_bel _ _) ?_ ?_
    rotate_left
    · intro uu (pu : Prev uu _)
      go_simp
      try (with_reducible rfl)
    try simp only [List.set]
    refine wpAnyH_on (i := 1) (d := 92) (v := ?_) rfl rfl (by kernel_rfl) (by kernel_rfl) (by kernel_rfl) (fun _ _ _ h => h) (by kernel_rfl) (prev_bel _ _) ?_ ?_
    rotate_left
    · intro uu (pu : Prev uu _)
      go_simp
      try (with_reducible rfl)
    try simp only [List.set]
    refine wpAnyH_on (i := 2) (d := 93) (v := ?_) rfl rfl (by kernel_rfl) (by kernel_rfl) (by kernel_rfl) (fun _ _ _ h => h) (by kernel_rfl) (prev_bel _ _) ?_ ?_
    rotate_left
    · intro uu (pu : Prev uu _)
      go_simp
      try (with_reducible rfl)
    try simp only [List.set]
    refine wpAnyH_on (i := 4) (d := 95) (v := ?_) rfl rfl (by kernel_rfl) (by kernel_rfl) (by kernel_rfl) (fun _ _ _ h => h) (by kernel_rfl) (prev_bel _ _) ?_ ?_
    rotate_left
    · intro uu (pu : Prev uu _)
      go_simp
      try (with_reducible rfl)
    try simp only [List.set]
    refine wpAnyH_on (i := 5) (d := 96) (v := ?_) rfl rfl (by kernel_rfl) (by kernel_rfl) (by kernel_rfl) (fun _ _ _ h => h) (by kernel_rfl) (prev_bel _ _) ?_ ?_
    rotate_left
    · intro uu (pu : Prev uu _)
      go_simp
      try (with_reducible rfl)
    try simp only [List.set]
    refine wpAnyH_on (i := 6) (d := 97) (v := ?_) rfl rfl (by kernel_rfl) (by kernel_rfl) (by kernel_rfl) (fun _ _ _ h => h) (by kernel_rfl) (prev_bel _ _) ?_ ?_
    rotate_left
    · intro uu (pu : Prev uu _)
      go_simp
      try (with_reducible rfl)
    try simp only [List.set]
    refine wpAnyH_ready (rs := [3]) (by kernel_rfl) (by simp) ?_
    refine AllReadyH.cons rfl (fun K hK => ?_) AllReadyH.nil
    go_simp
    (with_reducible refine (a08_cells (by omega) (xs := xs)).mono ?_)
    rintro e u11 ⟨A1, c1, rfl, t1, m1, _⟩
    dsimp only
    refine hK.out _ _ (prev_bel u10 _) (fun hHeld => ?_)
    clear hHeld hK K
    try dsimp only [Act.put, List.setIfInBounds_toArray, List.set_cons_zero, List.set_cons_succ]
    refine wpAnyH_ready (rs := [7]) (by kernel_rfl) (by simp) ?_
    refine AllReadyH.cons rfl (fun K hK => ?_) AllReadyH.nil
    go_simp
    (with_reducible refine (a08_cells (by omega) (xs := xg)).mono ?_)
    rintro e u11 ⟨A2, c2, rfl, t2, m2, _⟩
    dsimp only
    refine hK.out _ _ (prev_bel u10 _) (fun hHeld => ?_)
    clear hHeld hK K
    try dsimp only [Act.put, List.setIfInBounds_toArray, List.set_cons_zero, List.set_cons_succ]
    refine wpAnyH_on (i := 8) (d := 10) (v := ?_) rfl rfl (by kernel_rfl) (by kernel_rfl) (by kernel_rfl) (fun _ _ _ h => h) (by kernel_rfl) (prev_bel _ _) ?_ ?_
    rotate_left
    · intro uu (pu : Prev uu _)
      go_simp
      try (with_reducible rfl)
    try simp only [List.set]
    refine wpAnyH_on (i := 9) (d := 11) (v := ?_) rfl rfl (by kernel_rfl) (by kernel_rfl) (by kernel_rfl) (fun _ _ _ h => h) (by kernel_rfl) (prev_bel _ _) ?_ ?_
    rotate_left
    · intro uu (pu : Prev uu _)
      go_simp
      try (with_reducible rfl)
    try simp only [List.set]
    refine wpAnyH_done (by kernel_rfl) ?_ _
    go_wp2_with fail
    go_meet
    exact ⟨A1, c1, A2, c2, rfl, rfl, inferInstance, inferInstance, m1, m2, prev_bel _ _⟩
  case rest =>
    obtain ⟨A1, c1, A2, c2, rfl, rfl, sC, sD, lC, lD, pw⟩ := hcut
    obtain ⟨v, rfl⟩ : ∃ v : World, v = wc := ⟨_, rfl⟩
    obtain ⟨bc, oc, x0, rfl, obc, -, -⟩ := sC.get hx1
    obtain ⟨bd, od, y0, rfl, obd, -, -⟩ := sD.get hg1
    go_wp2_with fail
    go_loopw [12, 13] (fun p t wr => ∃ (r : Nat) (A2 : Option Addr) (c2 : Nat) (L : List Int), r ≤ R ∧ t = .int .i64 r ∧ p = .slice A2 L.length c2 ∧ Hid (L = bkRows kind xs xg Z N S W r) ∧ Hid (L.length = r * Z) ∧ OwnA wr v.heap.size 2 A2 c2 L ∧ Prev wr v) (fun _ t _ => R - (intOf t).toNat)
    case atStart => exact ⟨0, none, 0, [], Nat.zero_le _, rfl, rfl, Lib.hid rfl, Lib.hid (by simp), OwnA.nil _ _ _, prev_bel _ _⟩
    case round =>
      obtain ⟨r, A2, c3, L, hrR, rfl, rfl, HL, HLl, hown, hp⟩ := hrel
      obtain ⟨T, hT⟩ : ∃ T, r * Z = T := ⟨_, rfl⟩
      have mT : (r : Int) * (Z : Int) = (T : Int) := by rw [← hT, Int.natCast_mul]
      have hTx : T ≤ xs.length := by rw [← hT, HXL.out]; exact Nat.mul_le_mul_right _ hrR
      have hLl : L.length ≤ 600 := by rw [HLl.out, hT]; omega
      by_cases hlt : r < R
      · obtain ⟨T2, hT2⟩ : ∃ T2, (r + 1) * Z = T2 := ⟨_, rfl⟩
        obtain ⟨U, hU⟩ : ∃ U, r * N = U := ⟨_, rfl⟩
        obtain ⟨U2, hU2⟩ : ∃ U2, (r + 1) * N = U2 := ⟨_, rfl⟩
        obtain ⟨r1, hr1⟩ : ∃ r1, r + 1 = r1 := ⟨_, rfl⟩
        have hT2x : T2 ≤ xs.length := by rw [← hT2, HXL.out]; exact Nat.mul_le_mul_right _ hlt
        have hU2x : U2 ≤ xg.length := by rw [← hU2, HGL.out]; exact Nat.mul_le_mul_right _ hlt
        have eT : T2 = T + Z := by rw [← hT2, Nat.succ_mul, hT]
        have eU : U2 = U + N := by rw [← hU2, Nat.succ_mul, hU]
        have hrx : r ≤ 600 := by
          have : r * 1 ≤ r * Z := Nat.mul_le_mul_left _ hZ1
          omega
        have y1 : IntKind.i64.wrap (T : Int) = (T : Int) := IntWalk.i64_in _ (by omega)
        have y2 : IntKind.i64.wrap ((r : Int) + 1) = (r1 : Int) := by rw [← hr1]; exact IntWalk.i64_in _ (by omega)
        have y3 : IntKind.i64.wrap ((r1 : Int) * (Z : Int)) = (T2 : Int) := by rw [← hr1, ← Int.natCast_mul, hT2]; exact IntWalk.i64_in _ (by omega)
        have y4 : IntKind.i64.wrap ((r : Int) * (N : Int)) = (U : Int) := by rw [← Int.natCast_mul, hU]; exact IntWalk.i64_in _ (by omega)
        have y5 : IntKind.i64.wrap ((r1 : Int) * (N : Int)) = (U2 : Int) := by rw [← hr1, ← Int.natCast_mul, hU2]; exact IntWalk.i64_in _ (by omega)
        have hcc := lC.le
        have hcd := lD.le
        have hsl := slice_at (P := Try.prog) 42 (by kernel_rfl) (by kernel_rfl) bc oc xs.length c1 T T2 (T : Int) (T2 : Int) rfl rfl (by omega) hT2x hcc (by omega)
        have hsl2 := slice_at (P := Try.prog) 42 (by kernel_rfl) (by kernel_rfl) bd od xg.length c2 U U2 (U : Int) (U2 : Int) rfl rfl (by omega) hU2x hcd (by omega)
        rw [show T2 - T = Z from by omega] at hsl
        rw [show U2 - U = N from by omega] at hsl2
        have sR0 : Sl v (some ⟨bc, oc + T, none⟩) Z (rowOf xs Z r) := by rw [rowOf, hT]; exact sC.part (by omega)
        have sG0 : Sl v (some ⟨bd, od + U, none⟩) N (rowOf xg N r) := by rw [rowOf, hU]; exact sD.part (by omega)
        have iG : I6s (rowOf xg N r) := i6'.part _ _
        have HNX : Hid (L ++ tab Z (bkR kind (rowOf xs Z r) (rowOf xg N r) S W N) = bkRows kind xs xg Z N S W (r + 1)) := Lib.hid (by rw [bkRows_succ, ← HL.out])
        have hRl : (tab Z (bkR kind (rowOf xs Z r) (rowOf xg N r) S W N)).length = Z := tab_length
        have hlc : (T : Int) < (xs.length : Int) := by omega
        have HR1 := Lib.hid hr1
        rw [hr1] at HNX
        clear hT hT2 hU hU2 eT eU hr1
        go_wp2_with fail
        refine wp_region_up v (by kernel_rfl) (fun vx _ => ?_)
        refine wpAnyH_on (i := 0) (d := 107) (v := ?_) rfl rfl (by kernel_rfl) (by kernel_rfl) (by kernel_rfl) (fun _ _ _ h => h) (by kernel_rfl) (prev_bel _ _) ?_ ?_
        rotate_left
        · intro uu (pu : Prev uu _)
          go_simp
          try (with_reducible rfl)
        try simp only [List.set]
        refine wpAnyH_on (i := 1) (d := 108) (v := ?_) rfl rfl (by kernel_rfl) (by kernel_rfl) (by kernel_rfl) (fun _ _ _ h => h) (by kernel_rfl) (prev_bel _ _) ?_ ?_
        rotate_left
        · intro uu (pu : Prev uu _)
          go_simp
          try (with_reducible rfl)
        try simp only [List.set]
        refine wpAnyH_on (i := 2) (d := 109) (v := ?_) rfl rfl (by kernel_rfl) (by kernel_rfl) (by kernel_rfl) (fun _ _ _ h => h) (by kernel_rfl) (prev_bel _ _) ?_ ?_
        rotate_left
        · intro uu (pu : Prev uu _)
          go_simp
          try (with_reducible rfl)
        try simp only [List.set]
        refine wpAnyH_on (i := 3) (d := 110) (v := ?_) rfl rfl (by kernel_rfl) (by kernel_rfl) (by kernel_rfl) (fun _ _ _ h => h) (by kernel_rfl) (prev_bel _ _) ?_ ?_
        rotate_left
        · intro uu (pu : Prev uu _)
          go_simp
          try (with_reducible rfl)
        try simp only [List.set]
        refine wpAnyH_on (i := 4) (d := 111) (v := ?_) rfl rfl (by kernel_rfl) (by kernel_rfl) (by kernel_rfl) (fun _ _ _ h => h) (by kernel_rfl) (prev_bel _ _) ?_ ?_
        rotate_left
        · intro uu (pu : Prev uu _)
          go_simp
          try (with_reducible rfl)
        try simp only [List.set]
        refine wpAnyH_on (i := 5) (d := 112) (v := ?_) rfl rfl (by kernel_rfl) (by kernel_rfl) (by kernel_rfl) (fun _ _ _ h => h) (by kernel_rfl) (prev_bel _ _) ?_ ?_
        rotate_left
        · intro uu (pu : Prev uu _)
          go_simp
          try (with_reducible rfl)
        try simp only [List.set]
        refine wpAnyH_on (i := 6) (d := 113) (v := ?_) rfl rfl (by kernel_rfl) (by kernel_rfl) (by kernel_rfl) (fun _ _ _ h => h) (by kernel_rfl) (prev_bel _ _) ?_ ?_
        rotate_left
        · intro uu (pu : Prev uu _)
          go_simp
          try (with_reducible rfl)
        try simp only [List.set]
        refine wpAnyH_on (i := 7) (d := 114) (v := ?_) rfl rfl (by kernel_rfl) (by kernel_rfl) (by kernel_rfl) (fun _ _ _ h => h) (by kernel_rfl) (prev_bel _ _) ?_ ?_
        rotate_left
        · intro uu (pu : Prev uu _)
          go_simp
          try (with_reducible rfl)
        try simp only [List.set]
        refine wpAnyH_on (i := 8) (d := 115) (v := ?_) rfl rfl (by kernel_rfl) (by kernel_rfl) (by kernel_rfl) (fun _ _ _ h => h) (by kernel_rfl) (prev_bel _ _) ?_ ?_
        rotate_left
        · intro uu (pu : Prev uu _)
          go_simp
          try (with_reducible rfl)
        try simp only [List.set]
        refine wpAnyH_on (i := 9) (d := 116) (v := ?_) rfl rfl (by kernel_rfl) (by kernel_rfl) (by kernel_rfl) (fun _ _ _ h => h) (by kernel_rfl) (prev_bel _ _) ?_ ?_
        rotate_left
        · intro uu (pu : Prev uu _)
          go_simp
          try (with_reducible rfl)
        try simp only [List.set]
        refine wpAnyH_on (i := 10) (d := 117) (v := ?_) rfl rfl (by kernel_rfl) (by kernel_rfl) (by kernel_rfl) (fun _ _ _ h => h) (by kernel_rfl) (prev_bel _ _) ?_ ?_
        rotate_left
        · intro uu (pu : Prev uu _)
          go_simp
          try (with_reducible rfl)
        try simp only [List.set]
        refine wpAnyH_on (i := 11) (d := 118) (v := ?_) rfl rfl (by kernel_rfl) (by kernel_rfl) (by kernel_rfl) (fun _ _ _ h => h) (by kernel_rfl) (prev_bel _ _) ?_ ?_
        rotate_left
        · intro uu (pu : Prev uu _)
          go_simp
          try (with_reducible rfl)
        try simp only [List.set]
        refine wpAnyH_on (i := 12) (d := 119) (v := ?_) rfl rfl (by kernel_rfl) (by kernel_rfl) (by kernel_rfl) (fun _ _ _ h => h) (by kernel_rfl) (prev_bel _ _) ?_ ?_
        rotate_left
        · intro uu (pu : Prev uu _)
          go_simp
          try (with_reducible rfl)
        try simp only [List.set]
        refine wpAnyH_on (i := 13) (d := 120) (v := ?_) rfl rfl (by kernel_rfl) (by kernel_rfl) (by kernel_rfl) (fun _ _ _ h => h) (by kernel_rfl) (prev_bel _ _) ?_ ?_
        rotate_left
        · intro uu (pu : Prev uu _)
          go_simp
          try (with_reducible rfl)
        try simp only [List.set]
        refine wpAnyH_on (i := 14) (d := 121) (v := ?_) rfl rfl (by kernel_rfl) (by kernel_rfl) (by kernel_rfl) (fun _ _ _ h => h) (by kernel_rfl) (prev_bel _ _) ?_ ?_
        rotate_left
        · intro uu (pu : Prev uu _)
          go_simp
          try (with_reducible rfl)
        try simp only [List.set]
        refine wpAnyH_on (i := 15) (d := 122) (v := ?_) rfl rfl (by kernel_rfl) (by kernel_rfl) (by kernel_rfl) (fun _ _ _ h => h) (by kernel_rfl) (prev_bel _ _) ?_ ?_
        rotate_left
        · intro uu (pu : Prev uu _)
          go_simp
          try (with_reducible rfl)
        try simp only [List.set]
        refine wpAnyH_on (i := 16) (d := 123) (v := ?_) rfl rfl (by kernel_rfl) (by kernel_rfl) (by kernel_rfl) (fun _ _ _ h => h) (by kernel_rfl) (prev_bel _ _) ?_ ?_
        rotate_left
        · intro uu (pu : Prev uu _)
          go_simp
          try (with_reducible rfl)
        try simp only [List.set]
        refine wpAnyH_on (i := 17) (d := 124) (v := ?_) rfl rfl (by kernel_rfl) (by kernel_rfl) (by kernel_rfl) (fun _ _ _ h => h) (by kernel_rfl) (prev_bel _ _) ?_ ?_
        rotate_left
        · intro uu (pu : Prev uu _)
          go_simp
          try (with_reducible rfl)
        try simp only [List.set]
        refine wpAnyH_on (i := 18) (d := 125) (v := ?_) rfl rfl (by kernel_rfl) (by kernel_rfl) (by kernel_rfl) (fun _ _ _ h => h) (by kernel_rfl) (prev_bel _ _) ?_ ?_
        rotate_left
        · intro uu (pu : Prev uu _)
          go_simp
          try (with_reducible rfl)
        try simp only [List.set]
        refine wpAnyH_on (i := 19) (d := 126) (v := ?_) rfl rfl (by kernel_rfl) (by kernel_rfl) (by kernel_rfl) (fun _ _ _ h => h) (by kernel_rfl) (prev_bel _ _) ?_ ?_
        rotate_left
        · intro uu (pu : Prev uu _)
          go_simp
          try (with_reducible rfl)
        try simp only [List.set]
        refine wpAnyH_on (i := 20) (d := 127) (v := ?_) rfl rfl (by kernel_rfl) (by kernel_rfl) (by kernel_rfl) (fun _ _ _ h => h) (by kernel_rfl) (prev_bel _ _) ?_ ?_
        rotate_left
        · intro uu (pu : Prev uu _)
          go_simp
          try (with_reducible rfl)
        try simp only [List.set]
        refine wpAnyH_on (i := 21) (d := 128) (v := ?_) rfl rfl (by kernel_rfl) (by kernel_rfl) (by kernel_rfl) (fun _ _ _ h => h) (by kernel_rfl) (prev_bel _ _) ?_ ?_
        rotate_left
        · intro uu (pu : Prev uu _)
          go_simp
          try (with_reducible rfl)
        try simp only [List.set]
        refine wpAnyH_on (i := 22) (d := 129) (v := ?_) rfl rfl (by kernel_rfl) (by kernel_rfl) (by kernel_rfl) (fun _ _ _ h => h) (by kernel_rfl) (prev_bel _ _) ?_ ?_
        rotate_left
        · intro uu (pu : Prev uu _)
          go_simp
          try (with_reducible rfl)
        try simp only [List.set]
        refine wpAnyH_on (i := 23) (d := 130) (v := ?_) rfl rfl (by kernel_rfl) (by kernel_rfl) (by kernel_rfl) (fun _ _ _ h => h) (by kernel_rfl) (prev_bel _ _) ?_ ?_
        rotate_left
        · intro uu (pu : Prev uu _)
          go_simp
          try (with_reducible rfl)
        try simp only [List.set]
        refine wpAnyH_on (i := 24) (d := 131) (v := ?_) rfl rfl (by kernel_rfl) (by kernel_rfl) (by kernel_rfl) (fun _ _ _ h => h) (by kernel_rfl) (prev_bel _ _) ?_ ?_
        rotate_left
        · intro uu (pu : Prev uu _)
          go_simp
          try (with_reducible rfl)
        try simp only [List.set]
        refine wpAnyH_ready (rs := [25]) (by kernel_rfl) (by simp) ?_
        refine AllReadyH.cons rfl (fun K hK => ?_) AllReadyH.nil
        go_simp
        (with_reducible refine (r8_back hk hZ1 hZ2 hW1 hW2 hS1 hS2 hN1 hN2 HF HM).mono ?_)
        rintro e vx ⟨A', c', rfl, sR, _⟩
        dsimp only
        refine hK.out _ _ (prev_bel v _) (fun hHeld => ?_)
        clear hHeld hK K
        try dsimp only [Act.put, List.setIfInBounds_toArray, List.set_cons_zero, List.set_cons_succ]
        refine wpAnyH_ready (rs := [26]) (by kernel_rfl) (by simp) ?_
        refine AllReadyH.cons rfl (fun K hK => ?_) AllReadyH.nil
        refine step_appA (by kernel_rfl) _ _ _ rfl 2 Try.underlying42 (by kernel_rfl) (World.heap v).size _ _ _ rfl hown.at rfl ?_ later_size ?_
        · omega
        intro A3 c4 w3 ho3 hb3
        have : Prev w3 v := ⟨(bel v _).trans hb3⟩
        clear hb3
        refine hK.out _ _ (prev_bel v _) (fun hHeld => ?_)
        clear hHeld hK K
        try dsimp only [Act.put, List.setIfInBounds_toArray, List.set_cons_zero, List.set_cons_succ]
        refine wpAnyH_on (i := 27) (d := 12) (v := ?_) rfl rfl (by kernel_rfl) (by kernel_rfl) (by kernel_rfl) (fun _ _ _ h => h) (by kernel_rfl) (prev_bel _ _) ?_ ?_
        rotate_left
        · intro uu (pu : Prev uu _)
          go_simp
          try (with_reducible rfl)
        try simp only [List.set]
        refine wpAnyH_done (by kernel_rfl) ?_ _
        go_wp2_with fail
        go_roundw
        case rel => exact ⟨r1, A3, c4, L ++ tab Z (bkR kind (rowOf xs Z r) (rowOf xg N r) S W N), by have := HR1.out; omega, rfl, by simp [hRl], HNX, Lib.hid (by rw [List.length_append, hRl, HLl.out, ← HR1.out, Nat.succ_mul]), ho3, prev_bel _ _⟩
        case measure => have := HR1.out; simp [intOf]; omega
      · obtain rfl : R = r := by omega
        have hTl : T = xs.length := by rw [← hT, HXL.out]
        have hlc : ¬ (T : Int) < (xs.length : Int) := by omega
        obtain rfl : X = L := by rw [HXR.out, HL.out]
        have sL : Sl wr A2 X.length X := ⟨hown.rd, rfl⟩
        clear hT hTl
        go_wp2_with (first | (go_at_call 18; (try first | (with_reducible refine gen_boxK3 (fun u _ _ _ _ => ?_)) | (with_reducible refine gen_boxK2 (fun u _ _ _ => ?_)) | (with_reducible refine gen_boxK (fun u _ _ => ?_))); (with_reducible refine (a03_sameT (by omega) (by omega)).mono ?_); rintro e u ⟨rfl, _⟩) | (go_at_call 40; (try first | (with_reducible refine gen_boxK3 (fun u _ _ _ _ => ?_)) | (with_reducible refine gen_boxK2 (fun u _ _ _ => ?_)) | (with_reducible refine gen_boxK (fun u _ _ => ?_))); (with_reducible refine (a08_same (by omega) (by omega)).mono ?_); rintro e u ⟨rfl, _⟩) | (go_at_call 32; (try first | (with_reducible refine gen_boxK3 (fun u _ _ _ _ => ?_)) | (with_reducible refine gen_boxK2 (fun u _ _ _ => ?_)) | (with_reducible refine gen_boxK (fun u _ _ => ?_))); (with_reducible refine (a08_awake).mono ?_); rintro e u ⟨rfl, _⟩))
        go_ret
        exact ⟨rfl, bel w _⟩

end Go.Proofs.Yteibgdcieaiaiaa
