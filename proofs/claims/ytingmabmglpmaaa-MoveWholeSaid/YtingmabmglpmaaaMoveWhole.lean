/- The walk of the statement MoveWhole. -/
import Derived.Test.YtingmabmglpmaaaMoveTurns
import Derived.Test.YtingmabmglpmaaaMoveMath3
import Derived.Test.YtingmabmglpmaaaMoveCut
import Derived.Deep.DeepCutAuto
namespace Go.Proofs.Ytingmabmglpmaaa
open Go.RowKit

theorem cut_whole {R n : Nat} {xs : List Int} : cutCells R 0 R xs n = xs.take (n * R) := by
  induction n with
  | zero => simp [cutCells]
  | succ n ih => rw [cutCells_succ, ih, Nat.succ_mul, List.take_add, Nat.add_zero]
theorem cb_whole {P I Z : Nat} {xg : List Int} (h : xg.length = P * (Z * I)) : cbX P I 0 Z Z xg P = xg := by
  have key : ∀ i, (List.range i).flatMap (cbRow I 0 Z Z xg) = xg.take (i * (Z * I)) := by
    intro i
    induction i with
    | zero => simp
    | succ i ih =>
      rw [List.range_succ, List.flatMap_append, ih, Nat.succ_mul, List.take_add]
      simp [cbRow]
  rw [cbX, key, ← h, List.take_of_length_le (Nat.le_refl _)]
  simp
theorem Sl.new2 {u w : World} [l : Later u w] {A : Option Addr} {n : Nat} {zs : List Int} (h : Sl u A n zs) {p : Nat} (hp : u.heap.size ≤ p) (v0 v1 : Value) : Sl ((w.setCell ⟨p, 0, none⟩ v0).setCell ⟨p, 1, none⟩ v1) A n zs :=
  ⟨h.rd.below (bset2 l.st hp v0 v1), h.len⟩

section
variable {w : World} {A B C D : Option Addr} {n m c d n' m' c' d' : Nat} {zs xs ys : List Int}
theorem mv_cutback_whole [a : Sl w A n zs] [b : Sl w B m xs] [a' : Sl w C n' zs] [b' : Sl w D m' ys] [ld' : Le m' d'] (hn : n ≤ 1000000) (hn' : n' ≤ 1000000) {nn P I Z : Nat} (hr : tRightB zs xs = true) (HJW : Hid (JW nn P I Z zs)) (hr2 : tRightB zs ys = true) :
    Calls Try.prog 26 #[.agg #[.slice A n c, .slice B m d], .agg #[.slice C n' c', .slice D m' d'], .int .i64 nn, .int .i64 0, .int .i64 Z] w (RetTA w zs ys 0) :=
  mv_cutback_yes (F := 0) (T := Z) (P := P) (I := I) (Z := Z) hn hn' hr HJW HJW.out.z1 (Nat.le_refl _) (Lib.hid (by
    rw [show ((Z : Int) - ((0 : Nat) : Int)) = (Z : Int) from by omega]
    exact (set_same HJW.out.at_).symm)) hr2 (Lib.hid (cb_whole (HJW.out.cells hr2)).symm)
end

set_option maxRecDepth 100000 in
set_option maxHeartbeats 8000000 in
theorem moveWhole_calls (A B C D : Option Addr) (c d c' d' : Nat) (zx xx zg xg : List Int) (side : Int) (w : World) (iA : IntsIn w A c zx) (iB : IntsIn w B d xx) (iC : IntsIn w C c' zg) (iD : IntsIn w D d' xg)
    (lA : zx.length ≤ reach8) (lB : xx.length ≤ reach8) (lC : zg.length ≤ reach8) (lD : xg.length ≤ reach8) :
    Calls Try.prog 7 #[.agg #[.slice A zx.length c, .slice B xx.length d], .agg #[.slice C zg.length c', .slice D xg.length d'], .int .i64 side] w (LawTrue w) := by
  have sA : Sl w A zx.length zx := ⟨iA.rd, rfl⟩
  have sB : Sl w B xx.length xx := ⟨iB.rd, rfl⟩
  have sC : Sl w C zg.length zg := ⟨iC.rd, rfl⟩
  have sD : Sl w D xg.length xg := ⟨iD.rd, rfl⟩
  have i6 : I6s xx := iB.i6
  have i6' : I6s xg := iD.i6
  have l6 : Le xx.length d := ⟨iB.2.1⟩
  have l6' : Le xg.length d' := ⟨iD.2.1⟩
  unfold reach8 at lA lB lC lD
  have HB : Hid (∀ t ∈ [(⟨A, c, zx, B, d, xx⟩ : Tn), ⟨C, c', zg, D, d', xg⟩], t.zs.length ≤ 17592186043904 ∧ t.xs.length ≤ 17592186043904) := Lib.hid fun t ht => by
    simp at ht
    rcases ht with rfl | rfl
    · exact ⟨lA, lB⟩
    · exact ⟨lC, lD⟩
  clear iA iB iC iD
  have CB := @cell_bx
  have CP := @cell_prev
  have FB := @frozen_bx
  rcases hs : decide (sumT [(⟨A, c, zx, B, d, xx⟩ : Tn), ⟨C, c', zg, D, d', xg⟩] ≤ 900) with _ | _
  · go_enter Try.func7, Try.ntmps7
    go_wp2_with (first | (go_at_call 12; (try first | (with_reducible refine gen_boxK3 (fun u _ _ _ _ => ?_)) | (with_reducible refine gen_boxK2 (fun u _ _ _ => ?_)) | (with_reducible refine gen_boxK (fun u _ _ => ?_))); (with_reducible refine (a09_small (by omega) HB).mono ?_); rintro e u ⟨rfl, _⟩) | (go_at_call 13; (try first | (with_reducible refine gen_boxK3 (fun u _ _ _ _ => ?_)) | (with_reducible refine gen_boxK2 (fun u _ _ _ => ?_)) | (with_reducible refine gen_boxK (fun u _ _ => ?_))); (with_reducible refine (a09_awake).mono ?_); rintro e u ⟨rfl, _⟩))
    go_ret
    exact ⟨rfl, bel w _⟩
  have hsum : sumT [(⟨A, c, zx, B, d, xx⟩ : Tn), ⟨C, c', zg, D, d', xg⟩] ≤ 900 := by simpa using hs
  simp [sumT] at hsum
  have k1 : zx.length ≤ 900 := by omega
  have k2 : xx.length ≤ 900 := by omega
  have k3 : zg.length ≤ 900 := by omega
  have k4 : xg.length ≤ 900 := by omega
  clear hsum lA lB lC lD
  rcases hx : tRightB zx xx with _ | _
  · go_enter Try.func7, Try.ntmps7
    go_wp2_with (first | (go_at_call 12; (try first | (with_reducible refine gen_boxK3 (fun u _ _ _ _ => ?_)) | (with_reducible refine gen_boxK2 (fun u _ _ _ => ?_)) | (with_reducible refine gen_boxK (fun u _ _ => ?_))); (with_reducible refine (a09_small (by omega) HB).mono ?_); rintro e u ⟨rfl, _⟩) | (go_at_call 16; (try first | (with_reducible refine gen_boxK3 (fun u _ _ _ _ => ?_)) | (with_reducible refine gen_boxK2 (fun u _ _ _ => ?_)) | (with_reducible refine gen_boxK (fun u _ _ => ?_))); (with_reducible refine (a09_right (by omega)).mono ?_); rintro e u ⟨rfl, _⟩) | (go_at_call 13; (try first | (with_reducible refine gen_boxK3 (fun u _ _ _ _ => ?_)) | (with_reducible refine gen_boxK2 (fun u _ _ _ => ?_)) | (with_reducible refine gen_boxK (fun u _ _ => ?_))); (with_reducible refine (a09_awake).mono ?_); rintro e u ⟨rfl, _⟩))
    go_ret
    exact ⟨rfl, bel w _⟩
  by_cases hs0 : side < 0
  · go_enter Try.func7, Try.ntmps7
    go_wp2_with (first | (go_at_call 12; (try first | (with_reducible refine gen_boxK3 (fun u _ _ _ _ => ?_)) | (with_reducible refine gen_boxK2 (fun u _ _ _ => ?_)) | (with_reducible refine gen_boxK (fun u _ _ => ?_))); (with_reducible refine (a09_small (by omega) HB).mono ?_); rintro e u ⟨rfl, _⟩) | (go_at_call 16; (try first | (with_reducible refine gen_boxK3 (fun u _ _ _ _ => ?_)) | (with_reducible refine gen_boxK2 (fun u _ _ _ => ?_)) | (with_reducible refine gen_boxK (fun u _ _ => ?_))); (with_reducible refine (a09_right (by omega)).mono ?_); rintro e u ⟨rfl, _⟩) | (go_at_call 13; (try first | (with_reducible refine gen_boxK3 (fun u _ _ _ _ => ?_)) | (with_reducible refine gen_boxK2 (fun u _ _ _ => ?_)) | (with_reducible refine gen_boxK (fun u _ _ => ?_))); (with_reducible refine (a09_awake).mono ?_); rintro e u ⟨rfl, _⟩))
    go_ret
    exact ⟨rfl, bel w _⟩
  by_cases hs1 : (zx.length : Int) ≤ side
  · go_enter Try.func7, Try.ntmps7
    go_wp2_with (first | (go_at_call 12; (try first | (with_reducible refine gen_boxK3 (fun u _ _ _ _ => ?_)) | (with_reducible refine gen_boxK2 (fun u _ _ _ => ?_)) | (with_reducible refine gen_boxK (fun u _ _ => ?_))); (with_reducible refine (a09_small (by omega) HB).mono ?_); rintro e u ⟨rfl, _⟩) | (go_at_call 16; (try first | (with_reducible refine gen_boxK3 (fun u _ _ _ _ => ?_)) | (with_reducible refine gen_boxK2 (fun u _ _ _ => ?_)) | (with_reducible refine gen_boxK (fun u _ _ => ?_))); (with_reducible refine (a09_right (by omega)).mono ?_); rintro e u ⟨rfl, _⟩) | (go_at_call 13; (try first | (with_reducible refine gen_boxK3 (fun u _ _ _ _ => ?_)) | (with_reducible refine gen_boxK2 (fun u _ _ _ => ?_)) | (with_reducible refine gen_boxK (fun u _ _ => ?_))); (with_reducible refine (a09_awake).mono ?_); rintro e u ⟨rfl, _⟩))
    go_ret
    exact ⟨rfl, bel w _⟩
  obtain ⟨nn, rfl⟩ := Int.eq_ofNat_of_zero_le (show 0 ≤ side by omega)
  have hnn : nn < zx.length := by omega
  have hrz := ((tRightB_iff _ _).1 hx).1
  obtain ⟨P, I, Z, hjw⟩ := JW.of hrz hnn
  have hxl := hjw.cells hx
  have HJW := Lib.hid hjw
  have hz1 := hjw.z1
  have hZ6 : Z ≤ 65536 := by
    have h1 := hjw.small
    have h2 : Z * 1 ≤ Z * I := Nat.mul_le_mul_left _ hjw.i1
    have h3 : 1 * (Z * I) ≤ P * (Z * I) := Nat.mul_le_mul_right _ hjw.p1
    omega
  -- the cut of the whole
  have hset : zx.set nn ((Z : Nat) : Int) = zx := set_same hjw.at_
  obtain ⟨hc1, hc2, hc3⟩ := cut_part (F := 0) (zt := Z) hjw hx (by omega) hz1 hset
  have e0 : (((0 : Nat) : Int) + (Z : Int)) = (Z : Int) := by omega
  rw [e0] at hc1 hc2 hc3
  have HC1 : Hid (tcutE zx xx nn (0 : Int) (Z : Int) = 0) := Lib.hid hc1
  have HC2 : Hid (tcS zx xx nn (0 : Int) (Z : Int) = zx) := Lib.hid hc2
  have HC3 : Hid (tcX zx xx nn (0 : Int) (Z : Int) = xx) := Lib.hid (hc3.trans (by rw [Nat.zero_mul, cut_whole, ← hxl, List.take_of_length_le (Nat.le_refl _)]))
  -- one joined alone
  have hE : Hid (jnE nn [(⟨A, c, zx, B, d, xx⟩ : Tn)] = 0) := Lib.hid (by
    rw [jnE_cons, if_pos hx, if_neg]
    · rfl
    · simp; exact hnn)
  have HS0 : Hid (zx = jnS nn [(⟨A, c, zx, B, d, xx⟩ : Tn)]) := Lib.hid rfl
  have hdiv := hjw.div hx
  have HX0 : Hid (xx = mvX P [(⟨A, c, zx, B, d, xx⟩ : Tn)] P) := Lib.hid (mvX_one (t := ⟨A, c, zx, B, d, xx⟩) hdiv.1).symm
  have HP : Hid (P * rowS P [(⟨A, c, zx, B, d, xx⟩ : Tn)] ≤ 65536) := Lib.hid (by simp [rowS]; rw [hdiv.1]; exact hdiv.2)
  have HALL : Hid (∀ t ∈ [(⟨A, c, zx, B, d, xx⟩ : Tn)], P * (t.xs.length / P) = t.xs.length ∧ t.xs.length ≤ 65536) := Lib.hid fun t ht => by
    simp at ht; subst ht; exact hdiv
  have HZL : Hid (∀ t ∈ [(⟨A, c, zx, B, d, xx⟩ : Tn)], t.zs.length ≤ 1000000) := Lib.hid fun t ht => by
    simp at ht; subst ht; simp only; omega
  have hzn : zN nn (⟨A, c, zx, B, d, xx⟩ : Tn) = Z := JW.zN (t := ⟨A, c, zx, B, d, xx⟩) hjw
  have HA2 : Hid (∀ t ∈ [(⟨A, c, zx, B, d, xx⟩ : Tn)], tRightB t.zs t.xs = true ∧ JW nn P I (zN nn t) t.zs ∧ zx.set nn (zN nn t : Int) = t.zs) := Lib.hid fun t ht => by
    simp at ht; subst ht
    rw [hzn]
    exact ⟨hx, hjw, hset⟩
  have HF : Hid (fromN nn [(⟨A, c, zx, B, d, xx⟩ : Tn)] [(⟨A, c, zx, B, d, xx⟩ : Tn)].length = Z) := Lib.hid (by simp [fromN, hzn])
  have HZN := Lib.hid hzn
  have HXL := Lib.hid hxl
  have HSET := Lib.hid hset
  obtain ⟨bz, oz, z, rfl, obz, cz, hzz⟩ := sA.get hnn
  obtain rfl : z = (Z : Int) := by have h1 := hzz.out; rw [hjw.at_] at h1; injection h1 with h1; exact h1.symm
  clear hjw hxl hset hc1 hc2 hc3 e0 hdiv hzn hzz hrz
  go_enter Try.func7, Try.ntmps7
  go_upto_region 3 with (first | (go_at_call 12; (try first | (with_reducible refine gen_boxK3 (fun u _ _ _ _ => ?_)) | (with_reducible refine gen_boxK2 (fun u _ _ _ => ?_)) | (with_reducible refine gen_boxK (fun u _ _ => ?_))); (with_reducible refine (a09_small (by omega) HB).mono ?_); rintro e u ⟨rfl, _⟩) | (go_at_call 16; (try first | (with_reducible refine gen_boxK3 (fun u _ _ _ _ => ?_)) | (with_reducible refine gen_boxK2 (fun u _ _ _ => ?_)) | (with_reducible refine gen_boxK (fun u _ _ => ?_))); (with_reducible refine (a09_right (by omega)).mono ?_); rintro e u ⟨rfl, _⟩))
  obtain ⟨v, rfl⟩ : ∃ v : World, v = u := ⟨_, rfl⟩
  go_cut [7, 8] (fun p e wx => ∃ G A' c' B' d', p = .pointer (some ⟨G, 0, none⟩) ∧ e = .int .i64 0 ∧ Bx wx G 26 #[.slice A' zx.length c', .slice B' xx.length d'] ∧ Sl wx A' zx.length zx ∧ Sl wx B' xx.length xx ∧ Prev wx v)
  case first =>
    refine wp_region_up v (by kernel_rfl) (fun ux _ => ?_)
    refine wpAnyH_on (i := 0) (d := 38) (v := ?_) rfl rfl (by kernel_rfl) (by kernel_rfl) (by kernel_rfl) (fun _ _ _ h => h) (by kernel_rfl) (prev_bel _ _) ?_ ?_
    rotate_left
    · intro uu (pu : Prev uu _)
      go_simp
      try (with_reducible rfl)
    try simp only [List.set]
    refine wpAnyH_on (i := 1) (d := 39) (v := ?_) rfl rfl (by kernel_rfl) (by kernel_rfl) (by kernel_rfl) (fun _ _ _ h => h) (by kernel_rfl) (prev_bel _ _) ?_ ?_
    rotate_left
    · intro uu (pu : Prev uu _)
      go_simp
      try (with_reducible rfl)
    try simp only [List.set]
    refine wpAnyH_on (i := 2) (d := 40) (v := ?_) rfl rfl (by kernel_rfl) (by kernel_rfl) (by kernel_rfl) (fun _ _ _ h => h) (by kernel_rfl) (prev_bel _ _) ?_ ?_
    rotate_left
    · intro uu (pu : Prev uu _)
      go_simp
      try (with_reducible rfl)
    try simp only [List.set]
    refine wpAnyH_on (i := 3) (d := 41) (v := ?_) rfl rfl (by kernel_rfl) (by kernel_rfl) (by kernel_rfl) (fun _ _ _ h => h) (by kernel_rfl) (prev_bel _ _) ?_ ?_
    rotate_left
    · intro uu (pu : Prev uu _)
      go_simp
      try (with_reducible rfl)
    try simp only [List.set]
    refine wpAnyH_on (i := 4) (d := 42) (v := ?_) rfl rfl (by kernel_rfl) (by kernel_rfl) (by kernel_rfl) (fun _ _ _ h => h) (by kernel_rfl) (prev_bel _ _) ?_ ?_
    rotate_left
    · intro uu (pu : Prev uu _)
      go_simp
      try (with_reducible rfl)
    try simp only [List.set]
    refine wpAnyH_on (i := 5) (d := 43) (v := ?_) rfl rfl (by kernel_rfl) (by kernel_rfl) (by kernel_rfl) (fun _ _ _ h => h) (by kernel_rfl) (prev_bel _ _) ?_ ?_
    rotate_left
    · intro uu (pu : Prev uu _)
      go_simp
      try (with_reducible rfl)
    try simp only [List.set]
    refine wpAnyH_on (i := 6) (d := 44) (v := ?_) rfl rfl (by kernel_rfl) (by kernel_rfl) (by kernel_rfl) (fun _ _ _ h => h) (by kernel_rfl) (prev_bel _ _) ?_ ?_
    rotate_left
    · intro uu (pu : Prev uu _)
      go_simp
      try (with_reducible rfl)
    try simp only [List.set]
    refine wpAnyH_ready (rs := [7, 11]) (by kernel_rfl) (by simp) ?_
    refine AllReadyH.cons rfl (fun K hK => ?_) (AllReadyH.cons rfl (fun K hK => ?_) AllReadyH.nil)
    · go_simp
      (with_reducible refine (mv_cut (by omega) HC1 HC2 HC3).mono ?_)
      rintro e ux ⟨A', c', B', d', rfl, sA, sX, lA, lX, fA, fX, _⟩
      dsimp only
      refine hK.out _ _ (prev_bel v _) (fun hHeld => ?_)
      clear hHeld hK K
      try dsimp only [Act.put, List.setIfInBounds_toArray, List.set_cons_zero, List.set_cons_succ]
      refine wpAnyH_on (i := 8) (d := 37) (v := ?_) rfl rfl (by kernel_rfl) (by kernel_rfl) (by kernel_rfl) (fun _ _ _ h => h) (by kernel_rfl) (prev_bel _ _) ?_ ?_
      rotate_left
      · intro uu (pu : Prev uu _)
        go_simp
        try (with_reducible rfl)
      try simp only [List.set]
      refine wpAnyH_on (i := 9) (d := 46) (v := ?_) rfl rfl (by kernel_rfl) (by kernel_rfl) (by kernel_rfl) (fun _ _ _ h => h) (by kernel_rfl) (prev_bel _ _) ?_ ?_
      rotate_left
      · intro uu (pu : Prev uu _)
        go_simp
        try (with_reducible rfl)
      try simp only [List.set]
      refine wpAnyH_on (i := 10) (d := 47) (v := ?_) rfl rfl (by kernel_rfl) (by kernel_rfl) (by kernel_rfl) (fun _ _ _ h => h) (by kernel_rfl) (prev_bel _ _) ?_ ?_
      rotate_left
      · intro uu (pu : Prev uu _)
        go_simp
        try (with_reducible rfl)
      try simp only [List.set]
      refine wpAnyH_ready (rs := [11]) (by kernel_rfl) (by simp) ?_
      refine AllReadyH.cons rfl (fun K hK => ?_) AllReadyH.nil
      go_simp
      refine hK.out _ _ (prev_bel v _) (fun hHeld => ?_)
      clear hHeld hK K
      try dsimp only [Act.put, List.setIfInBounds_toArray, List.set_cons_zero, List.set_cons_succ]
      refine gen_boxH (fun ux _ _ => ?_)
      refine wpAnyH_ready (rs := [12]) (by kernel_rfl) (by simp) ?_
      refine AllReadyH.cons rfl (fun K hK => ?_) AllReadyH.nil
      rename World => wN
      go_simp
      refine hK.out _ _ ⟨bset2 (bel v wN) later_size _ _⟩ (fun _ => ?_)
      clear hK K
      try dsimp only [Act.put, List.setIfInBounds_toArray, List.set_cons_zero, List.set_cons_succ]
      refine wpAnyH_on (i := 13) (d := 8) (v := ?_) rfl rfl (by kernel_rfl) (by kernel_rfl) (by kernel_rfl) (fun _ _ _ h => h) (by kernel_rfl) (prev_bel _ _) ?_ ?_
      rotate_left
      · intro uu (pu : Prev uu _)
        go_simp
        try (with_reducible rfl)
      try simp only [List.set]
      refine wpAnyH_done (by kernel_rfl) ?_ _
      go_wp2_with fail
      go_meet
      refine ⟨_, A', _, B', _, rfl, rfl, ⟨(Bx.blk (w := wN)).set2 _ _⟩, ?_, ?_, ⟨bset2 (bel v wN) later_size _ _⟩⟩
      · first | exact sA.far2 fA Bx.blk.lt _ _ | exact sA.new2 (Nat.le_refl _) _ _
      · first | exact sX.far2 fX Bx.blk.lt _ _ | exact sX.new2 (Nat.le_refl _) _ _
    · go_simp
      refine hK.out _ _ (prev_bel v _) (fun hHeld => ?_)
      clear hHeld hK K
      try dsimp only [Act.put, List.setIfInBounds_toArray, List.set_cons_zero, List.set_cons_succ]
      refine gen_boxH (fun ux _ _ => ?_)
      refine wpAnyH_ready (rs := [7]) (by kernel_rfl) (by simp) ?_
      refine AllReadyH.cons rfl (fun K hK => ?_) AllReadyH.nil
      go_simp
      (with_reducible refine (mv_cut (by omega) HC1 HC2 HC3).mono ?_)
      rintro e ux ⟨A', c', B', d', rfl, sA, sX, lA, lX, fA, fX, _⟩
      dsimp only
      refine hK.out _ _ (prev_bel v _) (fun hHeld => ?_)
      clear hHeld hK K
      try dsimp only [Act.put, List.setIfInBounds_toArray, List.set_cons_zero, List.set_cons_succ]
      refine wpAnyH_on (i := 8) (d := 37) (v := ?_) rfl rfl (by kernel_rfl) (by kernel_rfl) (by kernel_rfl) (fun _ _ _ h => h) (by kernel_rfl) (prev_bel _ _) ?_ ?_
      rotate_left
      · intro uu (pu : Prev uu _)
        go_simp
        try (with_reducible rfl)
      try simp only [List.set]
      refine wpAnyH_on (i := 9) (d := 46) (v := ?_) rfl rfl (by kernel_rfl) (by kernel_rfl) (by kernel_rfl) (fun _ _ _ h => h) (by kernel_rfl) (prev_bel _ _) ?_ ?_
      rotate_left
      · intro uu (pu : Prev uu _)
        go_simp
        try (with_reducible rfl)
      try simp only [List.set]
      refine wpAnyH_on (i := 10) (d := 47) (v := ?_) rfl rfl (by kernel_rfl) (by kernel_rfl) (by kernel_rfl) (fun _ _ _ h => h) (by kernel_rfl) (prev_bel _ _) ?_ ?_
      rotate_left
      · intro uu (pu : Prev uu _)
        go_simp
        try (with_reducible rfl)
      try simp only [List.set]
      refine wpAnyH_ready (rs := [12]) (by kernel_rfl) (by simp) ?_
      refine AllReadyH.cons rfl (fun K hK => ?_) AllReadyH.nil
      rename World => wN
      go_simp
      refine hK.out _ _ ⟨bset2 (bel v wN) later_size _ _⟩ (fun _ => ?_)
      clear hK K
      try dsimp only [Act.put, List.setIfInBounds_toArray, List.set_cons_zero, List.set_cons_succ]
      refine wpAnyH_on (i := 13) (d := 8) (v := ?_) rfl rfl (by kernel_rfl) (by kernel_rfl) (by kernel_rfl) (fun _ _ _ h => h) (by kernel_rfl) (prev_bel _ _) ?_ ?_
      rotate_left
      · intro uu (pu : Prev uu _)
        go_simp
        try (with_reducible rfl)
      try simp only [List.set]
      refine wpAnyH_done (by kernel_rfl) ?_ _
      go_wp2_with fail
      go_meet
      refine ⟨_, A', _, B', _, rfl, rfl, ⟨(Bx.blk (w := wN)).set2 _ _⟩, ?_, ?_, ⟨bset2 (bel v wN) later_size _ _⟩⟩
      · first | exact sA.far2 fA Bx.blk.lt _ _ | exact sA.new2 (Nat.le_refl _) _ _
      · first | exact sX.far2 fX Bx.blk.lt _ _ | exact sX.new2 (Nat.le_refl _) _ _
  case rest =>
    obtain ⟨G, A1, c1, B1, d1, rfl, rfl, kG, sA1, sX1, pv⟩ := hcut
    rcases hg : tRightB zg xg with _ | _
    · go_wp2_with (first | (go_at_call 14; (try first | (with_reducible refine gen_boxK3 (fun u _ _ _ _ => ?_)) | (with_reducible refine gen_boxK2 (fun u _ _ _ => ?_)) | (with_reducible refine gen_boxK (fun u _ _ => ?_))); (with_reducible refine (mv_join_yes (by omega) HZL hE HJW HS0 HX0 HP HALL).mono ?_); rintro e u ⟨A', c', B', d', rfl, sA, sX, lA, lX, fA, fX, _⟩) | (go_at_call 18; (try first | (with_reducible refine gen_boxK3 (fun u _ _ _ _ => ?_)) | (with_reducible refine gen_boxK2 (fun u _ _ _ => ?_)) | (with_reducible refine gen_boxK (fun u _ _ => ?_))); (with_reducible refine (aT_equalT (by omega) (by omega)).mono ?_); rintro e u ⟨rfl, _⟩) | (go_at_call 16; (try first | (with_reducible refine gen_boxK3 (fun u _ _ _ _ => ?_)) | (with_reducible refine gen_boxK2 (fun u _ _ _ => ?_)) | (with_reducible refine gen_boxK (fun u _ _ => ?_))); (with_reducible refine (a09_right (by omega)).mono ?_); rintro e u ⟨rfl, _⟩) | (go_at_call 13; (try first | (with_reducible refine gen_boxK3 (fun u _ _ _ _ => ?_)) | (with_reducible refine gen_boxK2 (fun u _ _ _ => ?_)) | (with_reducible refine gen_boxK (fun u _ _ => ?_))); (with_reducible refine (a09_awake).mono ?_); rintro e u ⟨rfl, _⟩))
      go_ret
      exact ⟨rfl, bel w _⟩
    rcases hsz : decide (zg = zx) with _ | _
    · go_wp2_with (first | (go_at_call 14; (try first | (with_reducible refine gen_boxK3 (fun u _ _ _ _ => ?_)) | (with_reducible refine gen_boxK2 (fun u _ _ _ => ?_)) | (with_reducible refine gen_boxK (fun u _ _ => ?_))); (with_reducible refine (mv_join_yes (by omega) HZL hE HJW HS0 HX0 HP HALL).mono ?_); rintro e u ⟨A', c', B', d', rfl, sA, sX, lA, lX, fA, fX, _⟩) | (go_at_call 18; (try first | (with_reducible refine gen_boxK3 (fun u _ _ _ _ => ?_)) | (with_reducible refine gen_boxK2 (fun u _ _ _ => ?_)) | (with_reducible refine gen_boxK (fun u _ _ => ?_))); (with_reducible refine (aT_equalT (by omega) (by omega)).mono ?_); rintro e u ⟨rfl, _⟩) | (go_at_call 16; (try first | (with_reducible refine gen_boxK3 (fun u _ _ _ _ => ?_)) | (with_reducible refine gen_boxK2 (fun u _ _ _ => ?_)) | (with_reducible refine gen_boxK (fun u _ _ => ?_))); (with_reducible refine (a09_right (by omega)).mono ?_); rintro e u ⟨rfl, _⟩) | (go_at_call 17; (try first | (with_reducible refine gen_boxK3 (fun u _ _ _ _ => ?_)) | (with_reducible refine gen_boxK2 (fun u _ _ _ => ?_)) | (with_reducible refine gen_boxK (fun u _ _ => ?_))); (with_reducible refine (a03_same (by omega) (by omega)).mono ?_); rintro e u ⟨rfl, _⟩) | (go_at_call 13; (try first | (with_reducible refine gen_boxK3 (fun u _ _ _ _ => ?_)) | (with_reducible refine gen_boxK2 (fun u _ _ _ => ?_)) | (with_reducible refine gen_boxK (fun u _ _ => ?_))); (with_reducible refine (a09_awake).mono ?_); rintro e u ⟨rfl, _⟩))
      go_ret
      exact ⟨rfl, bel w _⟩
    obtain rfl : zx = zg := (of_decide_eq_true hsz).symm
    clear hsz
    go_upto_region 9 with (first | (go_at_call 14; (try first | (with_reducible refine gen_boxK3 (fun u _ _ _ _ => ?_)) | (with_reducible refine gen_boxK2 (fun u _ _ _ => ?_)) | (with_reducible refine gen_boxK (fun u _ _ => ?_))); (with_reducible refine (mv_join_yes (by omega) HZL hE HJW HS0 HX0 HP HALL).mono ?_); rintro e u ⟨A', c', B', d', rfl, sA, sX, lA, lX, fA, fX, _⟩) | (go_at_call 18; (try first | (with_reducible refine gen_boxK3 (fun u _ _ _ _ => ?_)) | (with_reducible refine gen_boxK2 (fun u _ _ _ => ?_)) | (with_reducible refine gen_boxK (fun u _ _ => ?_))); (with_reducible refine (aT_equalT (by omega) (by omega)).mono ?_); rintro e u ⟨rfl, _⟩) | (go_at_call 16; (try first | (with_reducible refine gen_boxK3 (fun u _ _ _ _ => ?_)) | (with_reducible refine gen_boxK2 (fun u _ _ _ => ?_)) | (with_reducible refine gen_boxK (fun u _ _ => ?_))); (with_reducible refine (a09_right (by omega)).mono ?_); rintro e u ⟨rfl, _⟩) | (go_at_call 17; (try first | (with_reducible refine gen_boxK3 (fun u _ _ _ _ => ?_)) | (with_reducible refine gen_boxK2 (fun u _ _ _ => ?_)) | (with_reducible refine gen_boxK (fun u _ _ => ?_))); (with_reducible refine (a03_sameT (by omega) (by omega)).mono ?_); rintro e u ⟨rfl, _⟩))
    obtain ⟨v2, rfl⟩ : ∃ v2 : World, v2 = u := ⟨_, rfl⟩
    go_cut [11, 12] (fun p e wx => ∃ G A' c' B' d', p = .pointer (some ⟨G, 0, none⟩) ∧ e = .int .i64 0 ∧ Bx wx G 26 #[.slice A' zx.length c', .slice B' xg.length d'] ∧ Sl wx A' zx.length zx ∧ Sl wx B' xg.length xg ∧ Prev wx v2)
    case first =>
      refine wp_region_up v2 (by kernel_rfl) (fun ux _ => ?_)
      refine wpAnyH_on (i := 0) (d := 86) (v := ?_) rfl rfl (by kernel_rfl) (by kernel_rfl) (by kernel_rfl) (fun _ _ _ h => h) (by kernel_rfl) (prev_bel _ _) ?_ ?_
      rotate_left
      · intro uu (pu : Prev uu _)
        go_simp
        try (with_reducible rfl)
      try simp only [List.set]
      refine wpAnyH_on (i := 1) (d := 87) (v := ?_) rfl rfl (by kernel_rfl) (by kernel_rfl) (by kernel_rfl) (fun _ _ _ h => h) (by kernel_rfl) (prev_bel _ _) ?_ ?_
      rotate_left
      · intro uu (pu : Prev uu _)
        go_simp
        try (with_reducible rfl)
      try simp only [List.set]
      refine wpAnyH_on (i := 2) (d := 88) (v := ?_) rfl rfl (by kernel_rfl) (by kernel_rfl) (by kernel_rfl) (fun _ _ _ h => h) (by kernel_rfl) (prev_bel _ _) ?_ ?_
      rotate_left
      · intro uu (pu : Prev uu _)
        go_simp
        try (with_reducible rfl)
      try simp only [List.set]
      refine wpAnyH_on (i := 3) (d := 89) (v := ?_) rfl rfl (by kernel_rfl) (by kernel_rfl) (by kernel_rfl) (fun _ _ _ h => h) (by kernel_rfl) (prev_bel _ _) ?_ ?_
      rotate_left
      · intro uu (pu : Prev uu _)
        go_simp
        try (with_reducible rfl)
      try simp only [List.set]
      refine wpAnyH_on (i := 4) (d := 90) (v := ?_) rfl rfl (by kernel_rfl) (by kernel_rfl) (by kernel_rfl) (fun _ _ _ h => h) (by kernel_rfl) (prev_bel _ _) ?_ ?_
      rotate_left
      · intro uu (pu : Prev uu _)
        go_simp
        try (with_reducible rfl)
      try simp only [List.set]
      refine wpAnyH_on (i := 5) (d := 91) (v := ?_) rfl rfl (by kernel_rfl) (by kernel_rfl) (by kernel_rfl) (fun _ _ _ h => h) (by kernel_rfl) (prev_bel _ _) ?_ ?_
      rotate_left
      · intro uu (pu : Prev uu _)
        go_simp
        try (with_reducible rfl)
      try simp only [List.set]
      refine wpAnyH_on (i := 6) (d := 92) (v := ?_) rfl rfl (by kernel_rfl) (by kernel_rfl) (by kernel_rfl) (fun _ _ _ h => h) (by kernel_rfl) (prev_bel _ _) ?_ ?_
      rotate_left
      · intro uu (pu : Prev uu _)
        go_simp
        try (with_reducible rfl)
      try simp only [List.set]
      refine wpAnyH_on (i := 7) (d := 93) (v := ?_) rfl rfl (by kernel_rfl) (by kernel_rfl) (by kernel_rfl) (fun _ _ _ h => h) (by kernel_rfl) (prev_bel _ _) ?_ ?_
      rotate_left
      · intro uu (pu : Prev uu _)
        go_simp
        try (with_reducible rfl)
      try simp only [List.set]
      refine wpAnyH_ready (rs := [8, 12]) (by kernel_rfl) (by simp) ?_
      refine AllReadyH.cons rfl (fun K hK => ?_) (AllReadyH.cons rfl (fun K hK => ?_) AllReadyH.nil)
      · go_simp
        (with_reducible refine (mv_cutback_whole (by omega) (by omega) hx HJW hg).mono ?_)
        rintro e ux ⟨A', c', B', d', rfl, sA, sX, lA, lX, fA, fX, _⟩
        dsimp only
        refine hK.out _ _ (prev_bel v2 _) (fun hHeld => ?_)
        clear hHeld hK K
        try dsimp only [Act.put, List.setIfInBounds_toArray, List.set_cons_zero, List.set_cons_succ]
        refine wpAnyH_on (i := 9) (d := 85) (v := ?_) rfl rfl (by kernel_rfl) (by kernel_rfl) (by kernel_rfl) (fun _ _ _ h => h) (by kernel_rfl) (prev_bel _ _) ?_ ?_
        rotate_left
        · intro uu (pu : Prev uu _)
          go_simp
          try (with_reducible rfl)
        try simp only [List.set]
        refine wpAnyH_on (i := 10) (d := 95) (v := ?_) rfl rfl (by kernel_rfl) (by kernel_rfl) (by kernel_rfl) (fun _ _ _ h => h) (by kernel_rfl) (prev_bel _ _) ?_ ?_
        rotate_left
        · intro uu (pu : Prev uu _)
          go_simp
          try (with_reducible rfl)
        try simp only [List.set]
        refine wpAnyH_on (i := 11) (d := 96) (v := ?_) rfl rfl (by kernel_rfl) (by kernel_rfl) (by kernel_rfl) (fun _ _ _ h => h) (by kernel_rfl) (prev_bel _ _) ?_ ?_
        rotate_left
        · intro uu (pu : Prev uu _)
          go_simp
          try (with_reducible rfl)
        try simp only [List.set]
        refine wpAnyH_ready (rs := [12]) (by kernel_rfl) (by simp) ?_
        refine AllReadyH.cons rfl (fun K hK => ?_) AllReadyH.nil
        go_simp
        refine hK.out _ _ (prev_bel v2 _) (fun hHeld => ?_)
        clear hHeld hK K
        try dsimp only [Act.put, List.setIfInBounds_toArray, List.set_cons_zero, List.set_cons_succ]
        refine gen_boxH (fun ux _ _ => ?_)
        refine wpAnyH_ready (rs := [13]) (by kernel_rfl) (by simp) ?_
        refine AllReadyH.cons rfl (fun K hK => ?_) AllReadyH.nil
        rename World => wN
        go_simp
        refine hK.out _ _ ⟨bset2 (bel v2 wN) later_size _ _⟩ (fun _ => ?_)
        clear hK K
        try dsimp only [Act.put, List.setIfInBounds_toArray, List.set_cons_zero, List.set_cons_succ]
        refine wpAnyH_on (i := 14) (d := 12) (v := ?_) rfl rfl (by kernel_rfl) (by kernel_rfl) (by kernel_rfl) (fun _ _ _ h => h) (by kernel_rfl) (prev_bel _ _) ?_ ?_
        rotate_left
        · intro uu (pu : Prev uu _)
          go_simp
          try (with_reducible rfl)
        try simp only [List.set]
        refine wpAnyH_done (by kernel_rfl) ?_ _
        go_wp2_with fail
        go_meet
        refine ⟨_, A', _, B', _, rfl, rfl, ⟨(Bx.blk (w := wN)).set2 _ _⟩, ?_, ?_, ⟨bset2 (bel v2 wN) later_size _ _⟩⟩
        · first | exact sA.far2 fA Bx.blk.lt _ _ | exact sA.new2 (Nat.le_refl _) _ _
        · first | exact sX.far2 fX Bx.blk.lt _ _ | exact sX.new2 (Nat.le_refl _) _ _
      · go_simp
        refine hK.out _ _ (prev_bel v2 _) (fun hHeld => ?_)
        clear hHeld hK K
        try dsimp only [Act.put, List.setIfInBounds_toArray, List.set_cons_zero, List.set_cons_succ]
        refine gen_boxH (fun ux _ _ => ?_)
        refine wpAnyH_ready (rs := [8]) (by kernel_rfl) (by simp) ?_
        refine AllReadyH.cons rfl (fun K hK => ?_) AllReadyH.nil
        go_simp
        (with_reducible refine (mv_cutback_whole (by omega) (by omega) hx HJW hg).mono ?_)
        rintro e ux ⟨A', c', B', d', rfl, sA, sX, lA, lX, fA, fX, _⟩
        dsimp only
        refine hK.out _ _ (prev_bel v2 _) (fun hHeld => ?_)
        clear hHeld hK K
        try dsimp only [Act.put, List.setIfInBounds_toArray, List.set_cons_zero, List.set_cons_succ]
        refine wpAnyH_on (i := 9) (d := 85) (v := ?_) rfl rfl (by kernel_rfl) (by kernel_rfl) (by kernel_rfl) (fun _ _ _ h => h) (by kernel_rfl) (prev_bel _ _) ?_ ?_
        rotate_left
        · intro uu (pu : Prev uu _)
          go_simp
          try (with_reducible rfl)
        try simp only [List.set]
        refine wpAnyH_on (i := 10) (d := 95) (v := ?_) rfl rfl (by kernel_rfl) (by kernel_rfl) (by kernel_rfl) (fun _ _ _ h => h) (by kernel_rfl) (prev_bel _ _) ?_ ?_
        rotate_left
        · intro uu (pu : Prev uu _)
          go_simp
          try (with_reducible rfl)
        try simp only [List.set]
        refine wpAnyH_on (i := 11) (d := 96) (v := ?_) rfl rfl (by kernel_rfl) (by kernel_rfl) (by kernel_rfl) (fun _ _ _ h => h) (by kernel_rfl) (prev_bel _ _) ?_ ?_
        rotate_left
        · intro uu (pu : Prev uu _)
          go_simp
          try (with_reducible rfl)
        try simp only [List.set]
        refine wpAnyH_ready (rs := [13]) (by kernel_rfl) (by simp) ?_
        refine AllReadyH.cons rfl (fun K hK => ?_) AllReadyH.nil
        rename World => wN
        go_simp
        refine hK.out _ _ ⟨bset2 (bel v2 wN) later_size _ _⟩ (fun _ => ?_)
        clear hK K
        try dsimp only [Act.put, List.setIfInBounds_toArray, List.set_cons_zero, List.set_cons_succ]
        refine wpAnyH_on (i := 14) (d := 12) (v := ?_) rfl rfl (by kernel_rfl) (by kernel_rfl) (by kernel_rfl) (fun _ _ _ h => h) (by kernel_rfl) (prev_bel _ _) ?_ ?_
        rotate_left
        · intro uu (pu : Prev uu _)
          go_simp
          try (with_reducible rfl)
        try simp only [List.set]
        refine wpAnyH_done (by kernel_rfl) ?_ _
        go_wp2_with fail
        go_meet
        refine ⟨_, A', _, B', _, rfl, rfl, ⟨(Bx.blk (w := wN)).set2 _ _⟩, ?_, ?_, ⟨bset2 (bel v2 wN) later_size _ _⟩⟩
        · first | exact sA.far2 fA Bx.blk.lt _ _ | exact sA.new2 (Nat.le_refl _) _ _
        · first | exact sX.far2 fX Bx.blk.lt _ _ | exact sX.new2 (Nat.le_refl _) _ _
    case rest =>
      obtain ⟨G2, A2, c2, B2, d2, rfl, rfl, kG2, sA2, sX2, pv2⟩ := hcut
      go_wp2_with (first | (go_at_call 15; (try first | (with_reducible refine gen_boxK3 (fun u _ _ _ _ => ?_)) | (with_reducible refine gen_boxK2 (fun u _ _ _ => ?_)) | (with_reducible refine gen_boxK (fun u _ _ => ?_))); (with_reducible refine (mv_joinback_yes (by omega) HZL hE HJW HS0 hg HA2 HF).mono ?_); rintro e u ⟨G, ps, rfl, sPS, HPS, _⟩))
      obtain ⟨b0, o0, P0, k0, y0, Q0, l0, p0, e0, ob0, f0, f1, sy0, sp0, -, -, h0⟩ := sPS.get (k := 0) (by omega)
      injection e0 with e0
      injection e0 with e0 e0'
      subst e0 e0'
      have hy0 := (HPS.out.el 0 _ _ h0.out rfl).1
      have hp0 := (HPS.out.el 0 _ _ h0.out rfl).2
      rw [HZN.out, show fromN nn [(⟨some ⟨bz, oz, none⟩, c, zx, B, d, xx⟩ : Tn)] 0 = 0 from rfl, Nat.zero_mul, cut_whole, ← HJW.out.cells hg, List.take_of_length_le (Nat.le_refl _)] at hp0
      simp only at hy0 hp0
      subst hy0 hp0
      simp only [Nat.zero_mul, Nat.zero_add, Nat.add_zero] at f0 f1
      clear h0 HPS
      refine wp_region_up0 (by kernel_rfl) (fun vy _ => ?_)
      refine wpAnyH_on (i := 0) (d := 105) (v := ?_) rfl rfl (by kernel_rfl) (by kernel_rfl) (by kernel_rfl) (fun _ _ _ h => h) (by kernel_rfl) (prev_bel _ _) ?_ ?_
      rotate_left
      · intro uu (pu : Prev uu _)
        go_simp
        try (with_reducible rfl)
      try simp only [List.set]
      refine wpAnyH_on (i := 1) (d := 106) (v := ?_) rfl rfl (by kernel_rfl) (by kernel_rfl) (by kernel_rfl) (fun _ _ _ h => h) (by kernel_rfl) (prev_bel _ _) ?_ ?_
      rotate_left
      · intro uu (pu : Prev uu _)
        go_simp
        try (with_reducible rfl)
      try simp only [List.set]
      refine wpAnyH_on (i := 2) (d := 107) (v := ?_) rfl rfl (by kernel_rfl) (by kernel_rfl) (by kernel_rfl) (fun _ _ _ h => h) (by kernel_rfl) (prev_bel _ _) ?_ ?_
      rotate_left
      · intro uu (pu : Prev uu _)
        go_simp
        try (with_reducible rfl)
      try simp only [List.set]
      refine wpAnyH_on (i := 3) (d := 108) (v := ?_) rfl rfl (by kernel_rfl) (by kernel_rfl) (by kernel_rfl) (fun _ _ _ h => h) (by kernel_rfl) (prev_bel _ _) ?_ ?_
      rotate_left
      · intro uu (pu : Prev uu _)
        go_simp
        try (with_reducible rfl)
      try simp only [List.set]
      refine wpAnyH_on (i := 4) (d := 109) (v := ?_) rfl rfl (by kernel_rfl) (by kernel_rfl) (by kernel_rfl) (fun _ _ _ h => h) (by kernel_rfl) (prev_bel _ _) ?_ ?_
      rotate_left
      · intro uu (pu : Prev uu _)
        go_simp
        try (with_reducible rfl)
      try simp only [List.set]
      refine wpAnyH_on (i := 5) (d := 110) (v := ?_) rfl rfl (by kernel_rfl) (by kernel_rfl) (by kernel_rfl) (fun _ _ _ h => h) (by kernel_rfl) (prev_bel _ _) ?_ ?_
      rotate_left
      · intro uu (pu : Prev uu _)
        go_simp
        try (with_reducible rfl)
      try simp only [List.set]
      refine wpAnyH_on (i := 6) (d := 111) (v := ?_) rfl rfl (by kernel_rfl) (by kernel_rfl) (by kernel_rfl) (fun _ _ _ h => h) (by kernel_rfl) (prev_bel _ _) ?_ ?_
      rotate_left
      · intro uu (pu : Prev uu _)
        go_simp
        try (with_reducible rfl)
      try simp only [List.set]
      refine wpAnyH_on (i := 7) (d := 112) (v := ?_) rfl rfl (by kernel_rfl) (by kernel_rfl) (by kernel_rfl) (fun _ _ _ h => h) (by kernel_rfl) (prev_bel _ _) ?_ ?_
      rotate_left
      · intro uu (pu : Prev uu _)
        go_simp
        try (with_reducible rfl)
      try simp only [List.set]
      refine wpAnyH_on (i := 8) (d := 113) (v := ?_) rfl rfl (by kernel_rfl) (by kernel_rfl) (by kernel_rfl) (fun _ _ _ h => h) (by kernel_rfl) (prev_bel _ _) ?_ ?_
      rotate_left
      · intro uu (pu : Prev uu _)
        go_simp
        try (with_reducible rfl)
      try simp only [List.set]
      refine wpAnyH_ready (rs := [9]) (by kernel_rfl) (by simp) ?_
      refine AllReadyH.cons rfl (fun K hK => ?_) AllReadyH.nil
      go_simp
      (with_reducible refine (aT_equalT (by omega) (by omega)).mono ?_)
      rintro e vy ⟨rfl, _⟩
      dsimp only
      refine hK.out _ _ (prev_bel _ _) (fun hHeld => ?_)
      clear hHeld hK K
      try dsimp only [Act.put, List.setIfInBounds_toArray, List.set_cons_zero, List.set_cons_succ]
      refine wpAnyH_on (i := 10) (d := 115) (v := ?_) rfl rfl (by kernel_rfl) (by kernel_rfl) (by kernel_rfl) (fun _ _ _ h => h) (by kernel_rfl) (prev_bel _ _) ?_ ?_
      rotate_left
      · intro uu (pu : Prev uu _)
        go_simp
        try (with_reducible rfl)
      try simp only [List.set]
      refine wpAnyH_on (i := 11) (d := 116) (v := ?_) rfl rfl (by kernel_rfl) (by kernel_rfl) (by kernel_rfl) (fun _ _ _ h => h) (by kernel_rfl) (prev_bel _ _) ?_ ?_
      rotate_left
      · intro uu (pu : Prev uu _)
        go_simp
        try (with_reducible rfl)
      try simp only [List.set]
      refine wpAnyH_on (i := 12) (d := 117) (v := ?_) rfl rfl (by kernel_rfl) (by kernel_rfl) (by kernel_rfl) (fun _ _ _ h => h) (by kernel_rfl) (prev_bel _ _) ?_ ?_
      rotate_left
      · intro uu (pu : Prev uu _)
        go_simp
        try (with_reducible rfl)
      try simp only [List.set]
      refine wpAnyH_on (i := 13) (d := 118) (v := ?_) rfl rfl (by kernel_rfl) (by kernel_rfl) (by kernel_rfl) (fun _ _ _ h => h) (by kernel_rfl) (prev_bel _ _) ?_ ?_
      rotate_left
      · intro uu (pu : Prev uu _)
        go_simp
        try (with_reducible rfl)
      try simp only [List.set]
      refine wpAnyH_on (i := 14) (d := 119) (v := ?_) rfl rfl (by kernel_rfl) (by kernel_rfl) (by kernel_rfl) (fun _ _ _ h => h) (by kernel_rfl) (prev_bel _ _) ?_ ?_
      rotate_left
      · intro uu (pu : Prev uu _)
        go_simp
        try (with_reducible rfl)
      try simp only [List.set]
      refine wpAnyH_on (i := 15) (d := 120) (v := ?_) rfl rfl (by kernel_rfl) (by kernel_rfl) (by kernel_rfl) (fun _ _ _ h => h) (by kernel_rfl) (prev_bel _ _) ?_ ?_
      rotate_left
      · intro uu (pu : Prev uu _)
        go_simp
        try (with_reducible rfl)
      try simp only [List.set]
      refine wpAnyH_on (i := 16) (d := 121) (v := ?_) rfl rfl (by kernel_rfl) (by kernel_rfl) (by kernel_rfl) (fun _ _ _ h => h) (by kernel_rfl) (prev_bel _ _) ?_ ?_
      rotate_left
      · intro uu (pu : Prev uu _)
        go_simp
        try (with_reducible rfl)
      try simp only [List.set]
      refine wpAnyH_on (i := 17) (d := 122) (v := ?_) rfl rfl (by kernel_rfl) (by kernel_rfl) (by kernel_rfl) (fun _ _ _ h => h) (by kernel_rfl) (prev_bel _ _) ?_ ?_
      rotate_left
      · intro uu (pu : Prev uu _)
        go_simp
        try (with_reducible rfl)
      try simp only [List.set]
      refine wpAnyH_on (i := 18) (d := 123) (v := ?_) rfl rfl (by kernel_rfl) (by kernel_rfl) (by kernel_rfl) (fun _ _ _ h => h) (by kernel_rfl) (prev_bel _ _) ?_ ?_
      rotate_left
      · intro uu (pu : Prev uu _)
        go_simp
        try (with_reducible rfl)
      try simp only [List.set]
      refine wpAnyH_on (i := 19) (d := 124) (v := ?_) rfl rfl (by kernel_rfl) (by kernel_rfl) (by kernel_rfl) (fun _ _ _ h => h) (by kernel_rfl) (prev_bel _ _) ?_ ?_
      rotate_left
      · intro uu (pu : Prev uu _)
        go_simp
        try (with_reducible rfl)
      try simp only [List.set]
      refine wpAnyH_on (i := 20) (d := 125) (v := ?_) rfl rfl (by kernel_rfl) (by kernel_rfl) (by kernel_rfl) (fun _ _ _ h => h) (by kernel_rfl) (prev_bel _ _) ?_ ?_
      rotate_left
      · intro uu (pu : Prev uu _)
        go_simp
        try (with_reducible rfl)
      try simp only [List.set]
      refine wpAnyH_ready (rs := [21]) (by kernel_rfl) (by simp) ?_
      refine AllReadyH.cons rfl (fun K hK => ?_) AllReadyH.nil
      go_simp
      (with_reducible refine (aT_equalT (by omega) (by omega)).mono ?_)
      rintro e vy ⟨rfl, _⟩
      dsimp only
      refine hK.out _ _ (prev_bel _ _) (fun hHeld => ?_)
      clear hHeld hK K
      try dsimp only [Act.put, List.setIfInBounds_toArray, List.set_cons_zero, List.set_cons_succ]
      refine wpAnyH_on (i := 22) (d := 127) (v := ?_) rfl rfl (by kernel_rfl) (by kernel_rfl) (by kernel_rfl) (fun _ _ _ h => h) (by kernel_rfl) (prev_bel _ _) ?_ ?_
      rotate_left
      · intro uu (pu : Prev uu _)
        go_simp
        try (with_reducible rfl)
      try simp only [List.set]
      refine wpAnyH_on (i := 23) (d := 128) (v := ?_) rfl rfl (by kernel_rfl) (by kernel_rfl) (by kernel_rfl) (fun _ _ _ h => h) (by kernel_rfl) (prev_bel _ _) ?_ ?_
      rotate_left
      · intro uu (pu : Prev uu _)
        go_simp
        try (with_reducible rfl)
      try simp only [List.set]
      refine wpAnyH_ready (rs := [24]) (by kernel_rfl) (by simp) ?_
      refine AllReadyH.cons rfl (fun K hK => ?_) AllReadyH.nil
      go_simp
      (with_reducible refine (a09_awake).mono ?_)
      rintro e vy ⟨rfl, _⟩
      dsimp only
      refine hK.out _ _ (prev_bel _ _) (fun hHeld => ?_)
      clear hHeld hK K
      try dsimp only [Act.put, List.setIfInBounds_toArray, List.set_cons_zero, List.set_cons_succ]
      refine wpAnyH_on (i := 25) (d := 130) (v := ?_) rfl rfl (by kernel_rfl) (by kernel_rfl) (by kernel_rfl) (fun _ _ _ h => h) (by kernel_rfl) (prev_bel _ _) ?_ ?_
      rotate_left
      · intro uu (pu : Prev uu _)
        go_simp
        try (with_reducible rfl)
      try simp only [List.set]
      refine wpAnyH_on (i := 26) (d := 6) (v := ?_) rfl rfl (by kernel_rfl) (by kernel_rfl) (by kernel_rfl) (fun _ _ _ h => h) (by kernel_rfl) (prev_bel _ _) ?_ ?_
      rotate_left
      · intro uu (pu : Prev uu _)
        go_simp
        try (with_reducible rfl)
      try simp only [List.set]
      refine wpAnyH_done (by kernel_rfl) ?_ _
      go_wp2_with fail
      go_ret
      exact ⟨rfl, bel w _⟩

end Go.Proofs.Ytingmabmglpmaaa
