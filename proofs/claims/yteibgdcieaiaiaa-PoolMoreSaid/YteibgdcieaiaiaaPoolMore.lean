/- The walk of the statement PoolMore. -/
import Derived.Test.YteibgdcieaiaiaaPoolWhole
import Derived.Lib.MinMax
namespace Go.Proofs.Yteibgdcieaiaiaa
open Go.RowKit

theorem mx_more {L : List Int} {W : Nat} (hW : 1 ≤ W) (hL : L.length = W + 1) : mxL L = max (mxL (L.take W)) (mxL (L.drop 1)) := by
  have n1 : L.take W ≠ [] := by intro e; have := congrArg List.length e; rw [List.length_take, List.length_nil] at this; omega
  have n2 : L.drop 1 ≠ [] := by intro e; have := congrArg List.length e; rw [List.length_drop, List.length_nil] at this; omega
  obtain ⟨a1, a2⟩ := mxL_spec n1
  obtain ⟨b1, b2⟩ := mxL_spec n2
  symm
  refine mxL_uniq ?_ fun y hy => ?_
  · rcases Int.le_total (mxL (L.take W)) (mxL (L.drop 1)) with h | h
    · rw [show max (mxL (L.take W)) (mxL (L.drop 1)) = mxL (L.drop 1) from by omega]; exact List.mem_of_mem_drop b1
    · rw [show max (mxL (L.take W)) (mxL (L.drop 1)) = mxL (L.take W) from by omega]; exact List.mem_of_mem_take a1
  · obtain ⟨j, hj, rfl⟩ := List.mem_iff_getElem.1 hy
    by_cases hjW : j < W
    · have : L[j] ≤ mxL (L.take W) := a2 _ (List.mem_iff_getElem?.2 ⟨j, by rw [List.getElem?_take, if_pos hjW, List.getElem?_eq_getElem hj]⟩)
      omega
    · have : L[j] ≤ mxL (L.drop 1) := b2 _ (List.mem_iff_getElem?.2 ⟨j - 1, by rw [List.getElem?_drop, show 1 + (j - 1) = j from by omega, List.getElem?_eq_getElem hj]⟩)
      omega
theorem poolL_one {v : List Int → Int} {xs : List Int} {Z n W i : Nat} (hi : i < n) : (poolL v xs Z n 1 W (1 * n))[i]? = some (v ((xs.drop i).take W)) := by
  rw [poolL, List.getElem?_map, List.getElem?_range (by omega)]
  simp only [Option.map_some]
  rw [Nat.div_eq_of_lt hi, Nat.mod_eq_of_lt hi, Nat.zero_mul, Nat.zero_add, Nat.mul_one]
theorem pw_line {Z W : Nat} (hr : rightB [(Z : Int)] = true) (h1 : 1 ≤ W) (h2 : W ≤ Z) : ∃ V, PW [(Z : Int)] V 1 Z (Z - W + 1) W 1 ∧ V.length = 1 := by
  obtain ⟨-, -, rin, -⟩ := (rightB_iff _).1 hr
  have hb := inSides_get rin (k := 0) (z := (Z : Int)) rfl
  have hpl : plE [(Z : Int)] (W : Int) 1 = 0 := by
    rw [plE, if_pos hr, show lastD [(Z : Int)] = (Z : Int) from rfl, winE, if_pos]
    simp only [winOk, Bool.and_eq_true, decide_eq_true_eq]
    omega
  obtain ⟨R, Z1, n, W1, S, eW, eS, hP⟩ := PW.of hpl
  obtain rfl : S = 1 := by omega
  obtain rfl : W = W1 := by omega
  obtain rfl : Z = Z1 := by have := hP.at_; simp at this; omega
  obtain rfl : R = 1 := by
    have e1 := hP.size
    simp [prodL] at e1
    have e2 : R * Z = 1 * Z := by rw [Nat.one_mul]; exact_mod_cast e1.symm
    exact Nat.eq_of_mul_eq_mul_right (by omega) e2
  obtain rfl : n = Z - W + 1 := by
    have := hP.n1
    have := hP.fit (n - 1) (by omega)
    have := hP.most
    omega
  exact ⟨_, hP, by rw [hP.v]; simp⟩
set_option maxRecDepth 100000 in
set_option maxHeartbeats 8000000 in
theorem poolMore_calls (A B : Option Addr) (c d : Nat) (zs xs : List Int) (width : Int) (w : World) (iA : IntsIn w A c zs) (iB : IntsIn w B d xs) :
    Calls Try.prog 12 #[.agg #[.slice A zs.length c, .slice B xs.length d], .int .i64 width] w (LawTrue w) := by
  have a : Sl w A zs.length zs := ⟨iA.rd, rfl⟩
  have b : Sl w B xs.length xs := ⟨iB.rd, rfl⟩
  have i6 : I6s xs := iB.i6
  have ld : Le xs.length d := ⟨iB.2.1⟩
  clear iA iB
  have CB := @cell_bx
  have CP := @cell_prev
  have FB := @frozen_bx
  by_cases h1 : zs.length = 1
  rotate_left
  · have e1 : ((zs.length : Int) != 1) = true := by simp; omega
    clear h1
    go_enter Try.func12, Try.ntmps12
    go_wp2_with (first | (go_at_call 32; (try first | (with_reducible refine gen_boxK3 (fun u _ _ _ _ => ?_)) | (with_reducible refine gen_boxK2 (fun u _ _ _ => ?_)) | (with_reducible refine gen_boxK (fun u _ _ => ?_))); (with_reducible refine (a08_awake).mono ?_); rintro e u ⟨rfl, _⟩))
    go_ret
    exact ⟨rfl, bel w _⟩
  by_cases h2 : 300 < xs.length
  · have e1 : ((zs.length : Int) != 1) = false := by simp [h1]
    clear h1
    go_enter Try.func12, Try.ntmps12
    go_wp2_with (first | (go_at_call 32; (try first | (with_reducible refine gen_boxK3 (fun u _ _ _ _ => ?_)) | (with_reducible refine gen_boxK2 (fun u _ _ _ => ?_)) | (with_reducible refine gen_boxK (fun u _ _ => ?_))); (with_reducible refine (a08_awake).mono ?_); rintro e u ⟨rfl, _⟩))
    go_ret
    exact ⟨rfl, bel w _⟩
  rcases hr : tRightB zs xs with _ | _
  · have e1 : ((zs.length : Int) != 1) = false := by simp [h1]
    have e2 : zs.length ≤ 1000000 := by omega
    clear h1
    go_enter Try.func12, Try.ntmps12
    go_wp2_with (first | (go_at_call 42; (try first | (with_reducible refine gen_boxK3 (fun u _ _ _ _ => ?_)) | (with_reducible refine gen_boxK2 (fun u _ _ _ => ?_)) | (with_reducible refine gen_boxK (fun u _ _ => ?_))); (with_reducible refine (a08_right (by omega)).mono ?_); rintro e u ⟨rfl, _⟩) | (go_at_call 32; (try first | (with_reducible refine gen_boxK3 (fun u _ _ _ _ => ?_)) | (with_reducible refine gen_boxK2 (fun u _ _ _ => ?_)) | (with_reducible refine gen_boxK (fun u _ _ => ?_))); (with_reducible refine (a08_awake).mono ?_); rintro e u ⟨rfl, _⟩))
    go_ret
    exact ⟨rfl, bel w _⟩
  obtain ⟨z0, rfl⟩ : ∃ z0, zs = [z0] := List.length_eq_one_iff.1 h1
  clear h1
  have hrz := ((tRightB_iff _ _).1 hr).1
  obtain ⟨-, -, rin, -⟩ := (rightB_iff _).1 hrz
  have hb := inSides_get rin (k := 0) (z := z0) rfl
  obtain ⟨Z, rfl⟩ := Int.eq_ofNat_of_zero_le (show 0 ≤ z0 by omega)
  have hxl : xs.length = Z := by have h1 := ((tRightB_iff _ _).1 hr).2; simp [prodL] at h1; omega
  have a : Sl w A 1 [(Z : Int)] := a
  obtain ⟨bz, oz, z, rfl, obz, cz, hz⟩ := a.get (k := 0) (by omega)
  obtain rfl : z = (Z : Int) := by have := hz.out; simpa using this.symm
  simp only [Nat.add_zero] at cz
  clear hz rin
  by_cases hw1 : width < 1
  · clear hxl
    go_enter Try.func12, Try.ntmps12
    go_wp2_with (first | (go_at_call 42; (try first | (with_reducible refine gen_boxK3 (fun u _ _ _ _ => ?_)) | (with_reducible refine gen_boxK2 (fun u _ _ _ => ?_)) | (with_reducible refine gen_boxK (fun u _ _ => ?_))); (with_reducible refine (a08_right (by omega)).mono ?_); rintro e u ⟨rfl, _⟩) | (go_at_call 32; (try first | (with_reducible refine gen_boxK3 (fun u _ _ _ _ => ?_)) | (with_reducible refine gen_boxK2 (fun u _ _ _ => ?_)) | (with_reducible refine gen_boxK (fun u _ _ => ?_))); (with_reducible refine (a08_awake).mono ?_); rintro e u ⟨rfl, _⟩))
    go_ret
    exact ⟨rfl, bel w _⟩
  by_cases hw2 : (Z : Int) ≤ width
  · clear hxl
    go_enter Try.func12, Try.ntmps12
    go_wp2_with (first | (go_at_call 42; (try first | (with_reducible refine gen_boxK3 (fun u _ _ _ _ => ?_)) | (with_reducible refine gen_boxK2 (fun u _ _ _ => ?_)) | (with_reducible refine gen_boxK (fun u _ _ => ?_))); (with_reducible refine (a08_right (by omega)).mono ?_); rintro e u ⟨rfl, _⟩) | (go_at_call 32; (try first | (with_reducible refine gen_boxK3 (fun u _ _ _ _ => ?_)) | (with_reducible refine gen_boxK2 (fun u _ _ _ => ?_)) | (with_reducible refine gen_boxK (fun u _ _ => ?_))); (with_reducible refine (a08_awake).mono ?_); rintro e u ⟨rfl, _⟩))
    go_ret
    exact ⟨rfl, bel w _⟩
  obtain ⟨W, rfl⟩ := Int.eq_ofNat_of_zero_le (show 0 ≤ width by omega)
  have hWZ : W < Z := by omega
  have hW1 : 1 ≤ W := by omega
  obtain ⟨V1, hP1, hV1⟩ := pw_line (W := W) hrz (by omega) (by omega)
  obtain ⟨V2, hP2, hV2⟩ := pw_line (W := W + 1) hrz (by omega) (by omega)
  obtain ⟨n1, hn1⟩ : ∃ n1, Z - W + 1 = n1 := ⟨_, rfl⟩
  obtain ⟨n2, hn2⟩ : ∃ n2, Z - (W + 1) + 1 = n2 := ⟨_, rfl⟩
  obtain ⟨W2, hW2⟩ : ∃ W2, W + 1 = W2 := ⟨_, rfl⟩
  rw [hn1] at hP1
  rw [hn2, hW2] at hP2
  obtain ⟨X1, hX1⟩ : ∃ X, X = poolL (poolV 1 W) xs Z n1 1 W (1 * n1) := ⟨_, rfl⟩
  obtain ⟨X2, hX2⟩ : ∃ X, X = poolL (poolV 1 W2) xs Z n2 1 W2 (1 * n2) := ⟨_, rfl⟩
  have hl1 : X1.length = n2 + 1 := by rw [hX1, poolL_length]; omega
  have hl2 : X2.length = n2 := by rw [hX2, poolL_length]; omega
  have HMX : Hid (∀ i, i < n2 → ∀ x y z, X1[i]? = some x → X1[i + 1]? = some y → X2[i]? = some z → z = max x y) := Lib.hid fun i hi x y z hx hy hz => by
    rw [hX1, poolL_one (by omega)] at hx hy
    rw [hX2, poolL_one hi] at hz
    injection hx with hx
    injection hy with hy
    injection hz with hz
    rw [← hx, ← hy, ← hz, poolV, if_pos rfl, poolV, if_pos rfl, poolV, if_pos rfl, mx_more (W := W) hW1 (by simp; omega)]
    congr 2
    · rw [List.take_take, Nat.min_eq_left (by omega)]
    · rw [List.drop_take, List.drop_drop]
      congr 1
      omega
  have HX1 := Lib.hid hX1
  have HX2 := Lib.hid hX2
  have HP1 := Lib.hid hP1
  have HP2 := Lib.hid hP2
  have HL1 := Lib.hid hl1
  have HL2 := Lib.hid hl2
  have mW : (W : Int) + 1 = (W2 : Int) := by omega
  have hn2Z : n2 ≤ 300 := by omega
  have e3 : ((X1.length : Int) != (X2.length : Int) + 1) = false := by rw [hl1, hl2]; simp
  have hl16 : X1.length ≤ 301 := by omega
  have hl26 : X2.length ≤ 300 := by omega
  clear hn1 hn2 hW2 hX1 hX2 hP1 hP2 hl1 hl2 hV1 hV2 hxl
  go_enter Try.func12, Try.ntmps12
  go_wp2_with (first | (go_at_call 42; (try first | (with_reducible refine gen_boxK3 (fun u _ _ _ _ => ?_)) | (with_reducible refine gen_boxK2 (fun u _ _ _ => ?_)) | (with_reducible refine gen_boxK (fun u _ _ => ?_))); (with_reducible refine (a08_right (by omega)).mono ?_); rintro e u ⟨rfl, _⟩) | (go_at_call 36; (try first | (with_reducible refine gen_boxK3 (fun u _ _ _ _ => ?_)) | (with_reducible refine gen_boxK2 (fun u _ _ _ => ?_)) | (with_reducible refine gen_boxK (fun u _ _ => ?_))); (with_reducible refine (pl_go_s1 (by omega) hr (.inl rfl) HP1 HX1).mono ?_); rintro e u ⟨A', c', B', d', rfl, sA, sX, lA, lX, fA, fX, _⟩))
  have sX1 := sX
  obtain ⟨bx1, ox1, q1, rfl, obx1, -, -⟩ := sX1.get (k := 0) (by have := HL1.out; omega)
  go_wp2_with (first | (go_at_call 36; (try first | (with_reducible refine gen_boxK3 (fun u _ _ _ _ => ?_)) | (with_reducible refine gen_boxK2 (fun u _ _ _ => ?_)) | (with_reducible refine gen_boxK (fun u _ _ => ?_))); (with_reducible refine (pl_go_s1 (by omega) hr (.inl rfl) HP2 HX2).mono ?_); rintro e u ⟨A', c', B', d', rfl, sA, sX, lA, lX, fA, fX, _⟩))
  obtain ⟨v, rfl⟩ : ∃ v : World, v = u := ⟨_, rfl⟩
  go_loopw [70] (fun i wr => ∃ k : Nat, k ≤ n2 ∧ i = .int .i64 k ∧ Bx wr v.heap.size 34 #[.slice A' V2.length c', .slice B' X2.length d'] ∧ Prev wr v) (fun i _ => n2 - (intOf i).toNat)
  case atStart => exact ⟨0, Nat.zero_le _, rfl, inferInstance, prev_bel _ _⟩
  case round =>
    obtain ⟨k, hk, rfl, kB, hp⟩ := hrel
    by_cases hlt : k < n2
    · obtain ⟨k1, hk1⟩ : ∃ k1, k + 1 = k1 := ⟨_, rfl⟩
      have hk1x : k1 < X1.length := by have := HL1.out; omega
      have hkx : k < X1.length := by have := HL1.out; omega
      have hk2x : k < X2.length := by have := HL2.out; omega
      obtain ⟨x, hx⟩ : ∃ x, X1[k]? = some x := ⟨_, List.getElem?_eq_getElem hkx⟩
      obtain ⟨y, hy⟩ : ∃ y, X1[k1]? = some y := ⟨_, List.getElem?_eq_getElem hk1x⟩
      obtain ⟨b3, o3, z, eB, ob3, cz3, hz⟩ := sX.get hk2x
      subst eB
      have cx := sX1.rd.all hx
      have cy := sX1.rd.all hy
      have hmx := HMX.out k hlt x y z hx (by rw [hk1]; exact hy) hz.out
      have e4 : (z != max x y) = false := by simp [hmx]
      have m1 : IntKind.i64.wrap ((k : Int) + 1) = (k1 : Int) := by rw [← hk1]; exact IntWalk.i64_in _ (by omega)
      have HK1 := Lib.hid hk1
      clear hx hy hz hmx hk1
      go_wp2_with fail
      refine wp_region_up0 (by kernel_rfl) (fun vx _ => ?_)
      refine wpAnyH_on (i := 0) (d := 73) (v := ?_) rfl rfl (by kernel_rfl) (by kernel_rfl) (by kernel_rfl) (fun _ _ _ h => h) (by kernel_rfl) (prev_bel _ _) ?_ ?_
      rotate_left
      · intro uu (pu : Prev uu _)
        go_simp
        try (with_reducible rfl)
      try simp only [List.set]
      refine wpAnyH_on (i := 1) (d := 74) (v := ?_) rfl rfl (by kernel_rfl) (by kernel_rfl) (by kernel_rfl) (fun _ _ _ h => h) (by kernel_rfl) (prev_bel _ _) ?_ ?_
      rotate_left
      · intro uu (pu : Prev uu _)
        go_simp
        try (with_reducible rfl)
      try simp only [List.set]
      refine wpAnyH_on (i := 2) (d := 75) (v := ?_) rfl rfl (by kernel_rfl) (by kernel_rfl) (by kernel_rfl) (fun _ _ _ h => h) (by kernel_rfl) (prev_bel _ _) ?_ ?_
      rotate_left
      · intro uu (pu : Prev uu _)
        go_simp
        try (with_reducible rfl)
      try simp only [List.set]
      refine wpAnyH_on (i := 3) (d := 76) (v := ?_) rfl rfl (by kernel_rfl) (by kernel_rfl) (by kernel_rfl) (fun _ _ _ h => h) (by kernel_rfl) (prev_bel _ _) ?_ ?_
      rotate_left
      · intro uu (pu : Prev uu _)
        go_simp
        try (with_reducible rfl)
      try simp only [List.set]
      refine wpAnyH_on (i := 4) (d := 77) (v := ?_) rfl rfl (by kernel_rfl) (by kernel_rfl) (by kernel_rfl) (fun _ _ _ h => h) (by kernel_rfl) (prev_bel _ _) ?_ ?_
      rotate_left
      · intro uu (pu : Prev uu _)
        go_simp
        try (with_reducible rfl)
      try simp only [List.set]
      refine wpAnyH_on (i := 5) (d := 78) (v := ?_) rfl rfl (by kernel_rfl) (by kernel_rfl) (by kernel_rfl) (fun _ _ _ h => h) (by kernel_rfl) (prev_bel _ _) ?_ ?_
      rotate_left
      · intro uu (pu : Prev uu _)
        go_simp
        try (with_reducible rfl)
      try simp only [List.set]
      refine wpAnyH_on (i := 6) (d := 79) (v := ?_) rfl rfl (by kernel_rfl) (by kernel_rfl) (by kernel_rfl) (fun _ _ _ h => h) (by kernel_rfl) (prev_bel _ _) ?_ ?_
      rotate_left
      · intro uu (pu : Prev uu _)
        go_simp
        try (with_reducible rfl)
      try simp only [List.set]
      refine wpAnyH_on (i := 7) (d := 80) (v := ?_) rfl rfl (by kernel_rfl) (by kernel_rfl) (by kernel_rfl) (fun _ _ _ h => h) (by kernel_rfl) (prev_bel _ _) ?_ ?_
      rotate_left
      · intro uu (pu : Prev uu _)
        go_simp
        try (with_reducible rfl)
      try simp only [List.set]
      refine wpAnyH_on (i := 8) (d := 81) (v := ?_) rfl rfl (by kernel_rfl) (by kernel_rfl) (by kernel_rfl) (fun _ _ _ h => h) (by kernel_rfl) (prev_bel _ _) ?_ ?_
      rotate_left
      · intro uu (pu : Prev uu _)
        go_simp
        try (with_reducible rfl)
      try simp only [List.set]
      refine wpAnyH_on (i := 9) (d := 82) (v := ?_) rfl rfl (by kernel_rfl) (by kernel_rfl) (by kernel_rfl) (fun _ _ _ h => h) (by kernel_rfl) (prev_bel _ _) ?_ ?_
      rotate_left
      · intro uu (pu : Prev uu _)
        go_simp
        try (with_reducible rfl)
      try simp only [List.set]
      refine wpAnyH_on (i := 10) (d := 83) (v := ?_) rfl rfl (by kernel_rfl) (by kernel_rfl) (by kernel_rfl) (fun _ _ _ h => h) (by kernel_rfl) (prev_bel _ _) ?_ ?_
      rotate_left
      · intro uu (pu : Prev uu _)
        go_simp
        try (with_reducible rfl)
      try simp only [List.set]
      refine wpAnyH_on (i := 11) (d := 84) (v := ?_) rfl rfl (by kernel_rfl) (by kernel_rfl) (by kernel_rfl) (fun _ _ _ h => h) (by kernel_rfl) (prev_bel _ _) ?_ ?_
      rotate_left
      · intro uu (pu : Prev uu _)
        go_simp
        try (with_reducible rfl)
      try simp only [List.set]
      refine wpAnyH_on (i := 12) (d := 85) (v := ?_) rfl rfl (by kernel_rfl) (by kernel_rfl) (by kernel_rfl) (fun _ _ _ h => h) (by kernel_rfl) (prev_bel _ _) ?_ ?_
      rotate_left
      · intro uu (pu : Prev uu _)
        go_simp
        try (with_reducible rfl)
      try simp only [List.set]
      refine wpAnyH_on (i := 13) (d := 86) (v := ?_) rfl rfl (by kernel_rfl) (by kernel_rfl) (by kernel_rfl) (fun _ _ _ h => h) (by kernel_rfl) (prev_bel _ _) ?_ ?_
      rotate_left
      · intro uu (pu : Prev uu _)
        go_simp
        try (with_reducible rfl)
      try simp only [List.set]
      refine wpAnyH_on (i := 14) (d := 87) (v := ?_) rfl rfl (by kernel_rfl) (by kernel_rfl) (by kernel_rfl) (fun _ _ _ h => h) (by kernel_rfl) (prev_bel _ _) ?_ ?_
      rotate_left
      · intro uu (pu : Prev uu _)
        go_simp
        try (with_reducible rfl)
      try simp only [List.set]
      refine wpAnyH_on (i := 15) (d := 88) (v := ?_) rfl rfl (by kernel_rfl) (by kernel_rfl) (by kernel_rfl) (fun _ _ _ h => h) (by kernel_rfl) (prev_bel _ _) ?_ ?_
      rotate_left
      · intro uu (pu : Prev uu _)
        go_simp
        try (with_reducible rfl)
      try simp only [List.set]
      refine wpAnyH_on (i := 16) (d := 89) (v := ?_) rfl rfl (by kernel_rfl) (by kernel_rfl) (by kernel_rfl) (fun _ _ _ h => h) (by kernel_rfl) (prev_bel _ _) ?_ ?_
      rotate_left
      · intro uu (pu : Prev uu _)
        go_simp
        try (with_reducible rfl)
      try simp only [List.set]
      refine wpAnyH_on (i := 17) (d := 90) (v := ?_) rfl rfl (by kernel_rfl) (by kernel_rfl) (by kernel_rfl) (fun _ _ _ h => h) (by kernel_rfl) (prev_bel _ _) ?_ ?_
      rotate_left
      · intro uu (pu : Prev uu _)
        go_simp
        try (with_reducible rfl)
      try simp only [List.set]
      refine wpAnyH_done (by kernel_rfl) ?_ _
      go_wp2_with fail
      go_roundw
      case rel => exact ⟨k1, by have := HK1.out; omega, rfl, inferInstance, prev_bel _ _⟩
      case measure => have := HK1.out; simp [intOf]; omega
    · have hlt2 : ¬ k < X2.length := by have := HL2.out; omega
      go_wp2_with (first | (go_at_call 32; (try first | (with_reducible refine gen_boxK3 (fun u _ _ _ _ => ?_)) | (with_reducible refine gen_boxK2 (fun u _ _ _ => ?_)) | (with_reducible refine gen_boxK (fun u _ _ => ?_))); (with_reducible refine (a08_awake).mono ?_); rintro e u ⟨rfl, _⟩))
      go_ret
      exact ⟨rfl, bel w _⟩

end Go.Proofs.Yteibgdcieaiaiaa
