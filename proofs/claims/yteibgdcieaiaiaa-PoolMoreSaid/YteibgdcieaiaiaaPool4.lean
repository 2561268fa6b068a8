/- pool.Back. -/
import Derived.Test.YteibgdcieaiaiaaPool3
import Derived.Deep.DeepCutAuto
namespace Go.Proofs.Yteibgdcieaiaiaa
open Go.RowKit

theorem bkC_bd {kind : Int} {xs gs : List Int} {Z n S W : Nat} : ∀ (i q : Nat), I64 (bkC kind xs gs Z n S W i q)
  | 0, _ => by unfold bkC I64; omega
  | i + 1, q => by
    unfold bkC
    split
    · exact fadd_bd _ _
    · exact bkC_bd i q
instance I6.bkC {kind : Int} {xs gs : List Int} {Z n S W i q : Nat} : I6 (bkC kind xs gs Z n S W i q) := ⟨bkC_bd i q⟩
section
variable {kind : Int} {xs gs : List Int} {Z n S W i F N : Nat}
/-- A step of kind 1, as a change of one cell. -/
theorem bk_step1 {bb : Nat} {y : Int} (hF : i / n * Z + i % n * S = F) (hb : bestI ((xs.drop F).take W) = (bb : Int)) (hy : gs[i]? = some y) :
    (tab N (bkC 1 xs gs Z n S W i)).set (F + bb) (fadd (bkC 1 xs gs Z n S W i (F + bb)) y) = tab N (bkC 1 xs gs Z n S W (i + 1)) := by
  rw [tab_set]
  refine tab_congr fun q _ => ?_
  rw [bkC, hF, hitW, if_pos rfl, hb, Int.toNat_natCast, giveW, if_pos rfl, List.getD_eq_getElem?_getD, hy]
  by_cases h : q = F + bb
  · subst h; simp
  · simp [h]
/-- The cells within a step of kind 2. -/
def bkM (xs gs : List Int) (Z n S W i F : Nat) (y : Int) (j q : Nat) : Int := if F ≤ q ∧ q < F + j then fadd (bkC 2 xs gs Z n S W i q) y else bkC 2 xs gs Z n S W i q
theorem bkM_zero {y : Int} : tab N (bkM xs gs Z n S W i F y 0) = tab N (bkC 2 xs gs Z n S W i) := tab_congr fun q _ => by rw [bkM, if_neg (by omega)]
theorem bkM_at {y : Int} {j : Nat} : bkM xs gs Z n S W i F y j (F + j) = bkC 2 xs gs Z n S W i (F + j) := by rw [bkM, if_neg (by omega)]
theorem bkM_step {y : Int} {j : Nat} : (tab N (bkM xs gs Z n S W i F y j)).set (F + j) (fadd (bkC 2 xs gs Z n S W i (F + j)) y) = tab N (bkM xs gs Z n S W i F y (j + 1)) := by
  rw [tab_set]
  refine tab_congr fun q _ => ?_
  unfold bkM
  by_cases h : q = F + j
  · subst h; rw [if_pos rfl, if_pos (by omega)]
  · rw [if_neg h]
    by_cases h2 : F ≤ q ∧ q < F + j
    · rw [if_pos h2, if_pos (by omega)]
    · rw [if_neg h2, if_neg (by omega)]
theorem bkM_end {y z : Int} (hF : i / n * Z + i % n * S = F) (hy : gs[i]? = some z) (hz : fdiv z (fint W) = y) : tab N (bkM xs gs Z n S W i F y W) = tab N (bkC 2 xs gs Z n S W (i + 1)) :=
  tab_congr fun q _ => by
    have e1 : ¬ (2 : Int) = 1 := by decide
    rw [bkM, bkC, hF]
    unfold hitW giveW
    rw [if_neg e1, if_neg e1, List.getD_eq_getElem?_getD, hy, Option.getD_some, hz]
    by_cases h : F ≤ q ∧ q < F + W
    · rw [if_pos h, if_pos (by simpa using h)]
    · rw [if_neg h, if_neg (by simpa using h)]
end
section
variable {w : World} {A B C D : Option Addr} {n m c d n' m' c' d' : Nat} {zs xs ts ys : List Int}
set_option maxRecDepth 100000 in
set_option maxHeartbeats 2000000 in
theorem pl_back_no [a : Sl w A n zs] [b : Sl w B m xs] (hn : n ≤ 1000000) {kind W S : Int} {E : Int} (hE : Hid (agE kind zs xs W S = E)) (h0 : (E != 0) = true) :
    Calls Try.prog 41 #[.int .i64 kind, .agg #[.slice A n c, .slice B m d], .agg #[.slice C n' c', .slice D m' d'], .int .i64 W, .int .i64 S] w (RetTA w [] [] E) := by
  have CB := @cell_bx
  have CP := @cell_prev
  have FB := @frozen_bx
  have hV : Hid (agV kind zs xs W S = []) := Lib.hid (by rw [agV, hE.out, if_neg (by simpa using h0)])
  go_enter Try.func41, Try.ntmps41
  go_wp2_with (first | (go_at_call 62; (try first | (with_reducible refine gen_boxK3 (fun u _ _ _ _ => ?_)) | (with_reducible refine gen_boxK2 (fun u _ _ _ => ?_)) | (with_reducible refine gen_boxK (fun u _ _ => ?_))); (with_reducible refine (pl_agree (by omega) hE hV).mono ?_); rintro e u ⟨A', c', rfl, sJ, lJ, fJ, _⟩))
  have kR : Bx u (w.heap.size + 1 + 1) 34 #[.slice none 0 0, .slice none 0 0] := inferInstance
  have k3 := kR.blk.set2 (.slice none 0 0) (.slice none 0 0)
  have B3 := bset2 (bel w u) (p := w.heap.size + 1 + 1) (by omega) (.slice none 0 0) (.slice none 0 0)
  obtain ⟨r0, r1⟩ := box2 k3
  refine bodyPost_ret (v := .tuple #[.agg #[.slice none 0 0, .slice none 0 0], .int .i64 E]) (by simp [results, Try.results41, go_sem, r0, r1]) rfl ?_
  exact ⟨none, 0, none, 0, rfl, Sl.empty, Sl.empty, ⟨Nat.le_refl _⟩, ⟨Nat.le_refl _⟩, Fre.none, Fre.none, ⟨B3⟩⟩
set_option maxRecDepth 100000 in
set_option maxHeartbeats 2000000 in
theorem pl_back_shape [a : Sl w A n zs] [b : Sl w B m xs] [a' : Sl w C n' ts] [b' : Sl w D m' ys] (hn : n ≤ 1000000) (hn' : n' ≤ 1000000) {kind W S : Int} {V : List Int} (hE : Hid (agE kind zs xs W S = 0)) (hV : Hid (plV zs W S = V)) (hVl : V.length ≤ 1000000) (h : (tRightB ts ys && decide (ts = V)) = false) :
    Calls Try.prog 41 #[.int .i64 kind, .agg #[.slice A n c, .slice B m d], .agg #[.slice C n' c', .slice D m' d'], .int .i64 W, .int .i64 S] w (RetTA w [] [] 20) := by
  have CB := @cell_bx
  have CP := @cell_prev
  have FB := @frozen_bx
  have hV : Hid (agV kind zs xs W S = V) := Lib.hid (by rw [agV, hE.out, if_pos rfl, hV.out])
  rcases hr2 : tRightB ts ys with _ | _
  · clear h
    go_enter Try.func41, Try.ntmps41
    go_wp2_with (first | (go_at_call 62; (try first | (with_reducible refine gen_boxK3 (fun u _ _ _ _ => ?_)) | (with_reducible refine gen_boxK2 (fun u _ _ _ => ?_)) | (with_reducible refine gen_boxK (fun u _ _ => ?_))); (with_reducible refine (pl_agree (by omega) hE hV).mono ?_); rintro e u ⟨A', c', rfl, sJ, lJ, fJ, _⟩) | (go_at_call 50; (try first | (with_reducible refine gen_boxK3 (fun u _ _ _ _ => ?_)) | (with_reducible refine gen_boxK2 (fun u _ _ _ => ?_)) | (with_reducible refine gen_boxK (fun u _ _ => ?_))); (with_reducible refine (aT_right (by omega)).mono ?_); rintro e u ⟨rfl, _⟩))
    have kR : Bx u (w.heap.size + 1 + 1) 34 #[.slice none 0 0, .slice none 0 0] := inferInstance
    have k3 := kR.blk.set2 (.slice none 0 0) (.slice none 0 0)
    have B3 := bset2 (bel w u) (p := w.heap.size + 1 + 1) (by omega) (.slice none 0 0) (.slice none 0 0)
    obtain ⟨r0, r1⟩ := box2 k3
    refine bodyPost_ret (v := .tuple #[.agg #[.slice none 0 0, .slice none 0 0], .int .i64 20]) (by simp [results, Try.results41, go_sem, r0, r1]) rfl ?_
    exact ⟨none, 0, none, 0, rfl, Sl.empty, Sl.empty, ⟨Nat.le_refl _⟩, ⟨Nat.le_refl _⟩, Fre.none, Fre.none, ⟨B3⟩⟩
  · have hs : decide (ts = V) = false := by simpa [hr2] using h
    clear h
    go_enter Try.func41, Try.ntmps41
    go_wp2_with (first | (go_at_call 62; (try first | (with_reducible refine gen_boxK3 (fun u _ _ _ _ => ?_)) | (with_reducible refine gen_boxK2 (fun u _ _ _ => ?_)) | (with_reducible refine gen_boxK (fun u _ _ => ?_))); (with_reducible refine (pl_agree (by omega) hE hV).mono ?_); rintro e u ⟨A', c', rfl, sJ, lJ, fJ, _⟩) | (go_at_call 50; (try first | (with_reducible refine gen_boxK3 (fun u _ _ _ _ => ?_)) | (with_reducible refine gen_boxK2 (fun u _ _ _ => ?_)) | (with_reducible refine gen_boxK (fun u _ _ => ?_))); (with_reducible refine (aT_right (by omega)).mono ?_); rintro e u ⟨rfl, _⟩) | (go_at_call 56; (try first | (with_reducible refine gen_boxK3 (fun u _ _ _ _ => ?_)) | (with_reducible refine gen_boxK2 (fun u _ _ _ => ?_)) | (with_reducible refine gen_boxK (fun u _ _ => ?_))); (with_reducible refine (aS_equal (by omega) (by omega)).mono ?_); rintro e u ⟨rfl, _⟩))
    have kR : Bx u (w.heap.size + 1 + 1) 34 #[.slice none 0 0, .slice none 0 0] := inferInstance
    have k3 := kR.blk.set2 (.slice none 0 0) (.slice none 0 0)
    have B3 := bset2 (bel w u) (p := w.heap.size + 1 + 1) (by omega) (.slice none 0 0) (.slice none 0 0)
    obtain ⟨r0, r1⟩ := box2 k3
    refine bodyPost_ret (v := .tuple #[.agg #[.slice none 0 0, .slice none 0 0], .int .i64 20]) (by simp [results, Try.results41, go_sem, r0, r1]) rfl ?_
    exact ⟨none, 0, none, 0, rfl, Sl.empty, Sl.empty, ⟨Nat.le_refl _⟩, ⟨Nat.le_refl _⟩, Fre.none, Fre.none, ⟨B3⟩⟩
set_option maxRecDepth 100000 in
set_option maxHeartbeats 8000000 in
theorem pl_back_yes {V : List Int} [a : Sl w A n zs] [b : Sl w B m xs] [a' : Sl w C n' V] [b' : Sl w D m' ys] [i6' : I6s ys] [ld : Le m d] (hn : n ≤ 1000000) (hn' : n' ≤ 1000000) {kind : Int} {R Z nn W S : Nat} {X : List Int} (hr : tRightB zs xs = true) (hk : kind = 1 ∨ kind = 2) (HP : Hid (PW zs V R Z nn W S)) (hr2 : tRightB V ys = true) (hX : Hid (X = tab (R * Z) (bkC kind xs ys Z nn S W (R * nn)))) :
    Calls Try.prog 41 #[.int .i64 kind, .agg #[.slice A n c, .slice B m d], .agg #[.slice C n' c', .slice D m' d'], .int .i64 W, .int .i64 S] w (RetTA w zs X 0) := by
  have CB := @cell_bx
  have CP := @cell_prev
  have FB := @frozen_bx
  have FP := @frozen_prev
  have hE : Hid (agE kind zs xs W S = 0) := Lib.hid (by rw [agE, if_neg (by omega), if_pos hr, HP.out.none])
  have hV : Hid (agV kind zs xs W S = V) := Lib.hid (by rw [agV, hE.out, if_pos rfl, HP.out.pl])
  have hVl : V.length = zs.length := by rw [HP.out.v, List.length_set]
  obtain ⟨M, hM⟩ : ∃ M, R * nn = M := ⟨_, rfl⟩
  obtain ⟨N, hN⟩ : ∃ N, R * Z = N := ⟨_, rfl⟩
  have hxl : xs.length = N := by have h1 := ((tRightB_iff _ _).1 hr).2; rw [HP.out.size] at h1; omega
  have hyl : ys.length = M := by have h1 := ((tRightB_iff _ _).1 hr2).2; rw [HP.out.vsize] at h1; omega
  have hN6 : N ≤ 65536 := by rw [← hN]; exact HP.out.small
  have hM6 : M ≤ 65536 := by
    have := Nat.mul_le_mul_left R HP.out.nZ
    omega
  have hbm := b.len
  have hbm' := b'.len
  have hm6 : m ≤ 65536 := by omega
  have hN1 : 0 < N := by rw [← hN]; exact Nat.mul_pos HP.out.R1 (Nat.le_trans HP.out.n1 HP.out.nZ)
  have han := a.len
  obtain ⟨k, hk0⟩ : ∃ k, zs.length - 1 = k := ⟨_, rfl⟩
  have hkz : k < zs.length := by have := HP.out.len; omega
  have hZk : Hid (zs[k]? = some (Z : Int)) := Lib.hid (by rw [← hk0]; exact HP.out.at_)
  have hVk : Hid (V[k]? = some (nn : Int)) := Lib.hid (by rw [HP.out.v, hk0, List.getElem?_set_self hkz])
  have mk : IntKind.i64.wrap ((V.length : Int) - 1) = (k : Int) := by rw [hVl, show (zs.length : Int) - 1 = (k : Int) from by omega]; exact IntWalk.i64_in _ (by omega)
  have hn1 := HP.out.n1
  have hn2 : nn ≤ 1024 := Nat.le_trans HP.out.nZ HP.out.Z2
  have hW1 := HP.out.W1
  have hkV : k < V.length := by omega
  have hV6 : V.length ≤ 1000000 := by omega
  have HM := Lib.hid hM
  have HN := Lib.hid hN
  have hmd := ld.le
  have hkn : k < n := by omega
  obtain ⟨bz, oz, z, rfl, obz, cz, hz⟩ := a.get hkn
  obtain rfl : z = (Z : Int) := by have h1 := hz.out; rw [hZk.out] at h1; injection h1 with h1; exact h1.symm
  obtain ⟨bx, ox, x0, rfl, obx, -, -⟩ := b.get (k := 0) (by omega)
  have hmN : m = N := by omega
  have hmM : m' = M := by omega
  subst hmN hmM
  obtain ⟨a, rfl⟩ := a
  have a : Sl w (some ⟨bz, oz, none⟩) zs.length zs := ⟨a, rfl⟩
  have HXL := Lib.hid hxl
  have hxpos : 0 < xs.length := by omega
  have hr1 := hr
  clear hz hk0 hxl hM hVl hkz han hN hbm hbm' hyl
  go_enter Try.func41, Try.ntmps41
  go_upto_region 6 with (first | (go_at_call 62; (try first | (with_reducible refine gen_boxK3 (fun u _ _ _ _ => ?_)) | (with_reducible refine gen_boxK2 (fun u _ _ _ => ?_)) | (with_reducible refine gen_boxK (fun u _ _ => ?_))); (with_reducible refine (pl_agree (by omega) hE hV).mono ?_); rintro e u ⟨A', c', rfl, sJ, lJ, fJ, _⟩) | (go_at_call 50; (try first | (with_reducible refine gen_boxK3 (fun u _ _ _ _ => ?_)) | (with_reducible refine gen_boxK2 (fun u _ _ _ => ?_)) | (with_reducible refine gen_boxK (fun u _ _ => ?_))); (with_reducible refine (aT_right (by omega)).mono ?_); rintro e u ⟨rfl, _⟩) | (go_at_call 56; (try first | (with_reducible refine gen_boxK3 (fun u _ _ _ _ => ?_)) | (with_reducible refine gen_boxK2 (fun u _ _ _ => ?_)) | (with_reducible refine gen_boxK (fun u _ _ => ?_))); (with_reducible refine (aS_equalT (by omega) (by omega)).mono ?_); rintro e u ⟨rfl, _⟩))
  obtain ⟨ub, rfl⟩ : ∃ ub : World, ub = u := ⟨_, rfl⟩
  obtain ⟨bs, os, zn, rfl, obs, cs, hzs⟩ := sJ.get hkV
  obtain rfl : zn = (nn : Int) := by have h1 := hzs.out; rw [hVk.out] at h1; injection h1 with h1; exact h1.symm
  clear hzs hr hr2
  go_wp2_with fail
  refine (aT_copy (by omega) (by omega)).mono ?_
  rintro e w1 ⟨g, g', rfl, hg, hg', oS, oX, pw1⟩
  have hcl := fun ty => run_clear_own (P := Try.prog) 32 56 ty Try.underlying32 (by kernel_rfl) (oX.alloc (.cells #[.slice (some ⟨g, 0, none⟩) zs.length zs.length, .slice (some ⟨g', 0, none⟩) xs.length xs.length] 34)) hxpos xs.length
  have n1 : g ≠ g' := oS.ne_blk (cs := ints xs) oX (by decide)
  have n2 : w1.heap.size ≠ g' := by have := oX.lt; omega
  have offW := setCells_off (bs := [g']) (g := g') (by simp) (List.replicate xs.length (.int .i64 0)) 0 (Off.refl [g'] (w1.alloc (.cells #[.slice (some ⟨g, 0, none⟩) zs.length zs.length, .slice (some ⟨g', 0, none⟩) xs.length xs.length] 34)))
  have oX2 := (oX.alloc (.cells #[.slice (some ⟨g, 0, none⟩) zs.length zs.length, .slice (some ⟨g', 0, none⟩) xs.length xs.length] 34)).clear
  have oS2 := offW.own (oS.alloc (.cells #[.slice (some ⟨g, 0, none⟩) zs.length zs.length, .slice (some ⟨g', 0, none⟩) xs.length xs.length] 34)) (by simpa using n1)
  have kB2 := offW.blk (Blk.new w1 34 #[.slice (some ⟨g, 0, none⟩) zs.length zs.length, .slice (some ⟨g', 0, none⟩) xs.length xs.length]) (by simpa using n2)
  have pW : Prev _ ub := ⟨setCells_below (n := ub.heap.size) (g := g') hg' (List.replicate xs.length (.int .i64 0)) 0 (bel ub (w1.alloc (.cells #[.slice (some ⟨g, 0, none⟩) zs.length zs.length, .slice (some ⟨g', 0, none⟩) xs.length xs.length] 34)))⟩
  obtain ⟨W0, hW0⟩ : ∃ W0, W0 = (w1.alloc (.cells #[.slice (some ⟨g, 0, none⟩) zs.length zs.length, .slice (some ⟨g', 0, none⟩) xs.length xs.length] 34)).setCells g' 0 (List.replicate xs.length (.int .i64 0)) := ⟨_, rfl⟩
  rw [← hW0] at oX2 oS2 kB2 pW
  replace kB2 : Bx W0 w1.heap.size 34 #[.slice (some ⟨g, 0, none⟩) zs.length zs.length, .slice (some ⟨g', 0, none⟩) xs.length xs.length] := ⟨kB2⟩
  go_wp2_with fail
  rw [← hW0]
  clear hcl hW0 offW oS oX pw1
  obtain ⟨NN, hNN⟩ : ∃ NN, xs.length = NN := ⟨_, rfl⟩
  rw [hNN] at oX2 kB2
  obtain rfl : NN = m := by rw [← hNN, HXL.out]
  clear hNN
  refine wp_region_up0 (by kernel_rfl) (fun u8 _ => ?_)
  refine wpAnyH_on (i := 0) (d := 49) (v := ?_) rfl rfl (by kernel_rfl) (by kernel_rfl) (by kernel_rfl) (fun _ _ _ h => h) (by kernel_rfl) (prev_bel _ _) ?_ ?_
  rotate_left
  · intro uu (pu : Prev uu _)
    go_simp
    try (with_reducible rfl)
  try simp only [List.set]
  refine wpAnyH_on (i := 1) (d := 50) (v := ?_) rfl rfl (by kernel_rfl) (by kernel_rfl) (by kernel_rfl) (fun _ _ _ h => h) (by kernel_rfl) (prev_bel _ _) ?_ ?_
  rotate_left
  · intro uu (pu : Prev uu _)
    go_simp
    try (with_reducible rfl)
  try simp only [List.set]
  refine wpAnyH_on (i := 2) (d := 51) (v := ?_) rfl rfl (by kernel_rfl) (by kernel_rfl) (by kernel_rfl) (fun _ _ _ h => h) (by kernel_rfl) (prev_bel _ _) ?_ ?_
  rotate_left
  · intro uu (pu : Prev uu _)
    go_simp
    try (with_reducible rfl)
  try simp only [List.set]
  refine wpAnyH_on (i := 3) (d := 52) (v := ?_) rfl rfl (by kernel_rfl) (by kernel_rfl) (by kernel_rfl) (fun _ _ _ h => h) (by kernel_rfl) (prev_bel _ _) ?_ ?_
  rotate_left
  · intro uu (pu : Prev uu _)
    go_simp
    try (with_reducible rfl)
  try simp only [List.set]
  refine wpAnyH_on (i := 4) (d := 53) (v := ?_) rfl rfl (by kernel_rfl) (by kernel_rfl) (by kernel_rfl) (fun _ _ _ h => h) (by kernel_rfl) (prev_bel _ _) ?_ ?_
  rotate_left
  · intro uu (pu : Prev uu _)
    go_simp
    try (with_reducible rfl)
  try simp only [List.set]
  refine wpAnyH_on (i := 5) (d := 54) (v := ?_) rfl rfl (by kernel_rfl) (by kernel_rfl) (by kernel_rfl) (fun _ _ _ h => h) (by kernel_rfl) (prev_bel _ _) ?_ ?_
  rotate_left
  · intro uu (pu : Prev uu _)
    go_simp
    try (with_reducible rfl)
  try simp only [List.set]
  refine wpAnyH_on (i := 6) (d := 55) (v := ?_) rfl rfl (by kernel_rfl) (by kernel_rfl) (by kernel_rfl) (fun _ _ _ h => h) (by kernel_rfl) (prev_bel _ _) ?_ ?_
  rotate_left
  · intro uu (pu : Prev uu _)
    go_simp
    try (with_reducible rfl)
  try simp only [List.set]
  refine wpAnyH_on (i := 7) (d := 56) (v := ?_) rfl rfl (by kernel_rfl) (by kernel_rfl) (by kernel_rfl) (fun _ _ _ h => h) (by kernel_rfl) (prev_bel _ _) ?_ ?_
  rotate_left
  · intro uu (pu : Prev uu _)
    go_simp
    try (with_reducible rfl)
  try simp only [List.set]
  refine wpAnyH_on (i := 8) (d := 57) (v := ?_) rfl rfl (by kernel_rfl) (by kernel_rfl) (by kernel_rfl) (fun _ _ _ h => h) (by kernel_rfl) (prev_bel _ _) ?_ ?_
  rotate_left
  · intro uu (pu : Prev uu _)
    go_simp
    try (with_reducible rfl)
  try simp only [List.set]
  refine wpAnyH_on (i := 9) (d := 58) (v := ?_) rfl rfl (by kernel_rfl) (by kernel_rfl) (by kernel_rfl) (fun _ _ _ h => h) (by kernel_rfl) (prev_bel _ _) ?_ ?_
  rotate_left
  · intro uu (pu : Prev uu _)
    go_simp
    try (with_reducible rfl)
  try simp only [List.set]
  refine wpAnyH_on (i := 10) (d := 59) (v := ?_) rfl rfl (by kernel_rfl) (by kernel_rfl) (by kernel_rfl) (fun _ _ _ h => h) (by kernel_rfl) (prev_bel _ _) ?_ ?_
  rotate_left
  · intro uu (pu : Prev uu _)
    go_simp
    try (with_reducible rfl)
  try simp only [List.set]
  refine wpAnyH_on (i := 11) (d := 60) (v := ?_) rfl rfl (by kernel_rfl) (by kernel_rfl) (by kernel_rfl) (fun _ _ _ h => h) (by kernel_rfl) (prev_bel _ _) ?_ ?_
  rotate_left
  · intro uu (pu : Prev uu _)
    go_simp
    try (with_reducible rfl)
  try simp only [List.set]
  refine wpAnyH_on (i := 12) (d := 61) (v := ?_) rfl rfl (by kernel_rfl) (by kernel_rfl) (by kernel_rfl) (fun _ _ _ h => h) (by kernel_rfl) (prev_bel _ _) ?_ ?_
  rotate_left
  · intro uu (pu : Prev uu _)
    go_simp
    try (with_reducible rfl)
  try simp only [List.set]
  refine wpAnyH_on (i := 13) (d := 15) (v := ?_) rfl rfl (by kernel_rfl) (by kernel_rfl) (by kernel_rfl) (fun _ _ _ h => h) (by kernel_rfl) (prev_bel _ _) ?_ ?_
  rotate_left
  · intro uu (pu : Prev uu _)
    go_simp
    try (with_reducible rfl)
  try simp only [List.set]
  refine wpAnyH_on (i := 14) (d := 16) (v := ?_) rfl rfl (by kernel_rfl) (by kernel_rfl) (by kernel_rfl) (fun _ _ _ h => h) (by kernel_rfl) (prev_bel _ _) ?_ ?_
  rotate_left
  · intro uu (pu : Prev uu _)
    go_simp
    try (with_reducible rfl)
  try simp only [List.set]
  refine wpAnyH_done (by kernel_rfl) ?_ _
  go_wp2_with fail
  go_loopw [65] (fun i wr => ∃ k : Nat, k ≤ m' ∧ i = .int .i64 k ∧ Own wr g' 56 (tab NN (bkC kind xs ys Z nn S W k)) ∧ Own wr g 3 zs ∧ Bx wr w1.heap.size 34 #[.slice (some ⟨g, 0, none⟩) zs.length zs.length, .slice (some ⟨g', 0, none⟩) NN NN] ∧ Prev wr ub) (fun i _ => m' - (intOf i).toNat)
  case atStart => exact ⟨0, Nat.zero_le _, rfl, by rw [show tab NN (bkC kind xs ys Z nn S W 0) = List.replicate NN 0 from (tab_congr fun q _ => by simp [bkC]).trans tab_zero]; exact oX2.at, oS2.at, inferInstance, prev_bel _ _⟩
  case round =>
    obtain ⟨i, hi, rfl, hO, hS, hB, hp⟩ := hrel
    by_cases hlt : i < m'
    · obtain ⟨by', oy, y, rfl, oby, cy, hy⟩ := b'.get hlt
      obtain ⟨F, hF⟩ : ∃ F, Hid (i / nn * Z + i % nn * S = F) := ⟨_, Lib.hid rfl⟩
      have hFW : F + W ≤ NN := by
        have := (HP.out.win (i := i) (by rw [HM.out]; exact hlt)).2.2.2
        rw [hF.out, HN.out] at this
        exact this
      obtain ⟨L, HL⟩ : ∃ L, Hid ((xs.drop F).take W = L) := ⟨_, Lib.hid rfl⟩
      have sP : Sl w (some ⟨bx, ox + F, none⟩) W L := by rw [← HL.out]; exact b.part hFW
      have iy : I6 y := I6s.at hy.out
      have hLl : L.length = W := sP.len.symm
      have hW6 : W ≤ 1000000 := by omega
      have og : Old g' wr := ⟨hO.lt⟩
      rcases hk with rfl | rfl
      · obtain ⟨bb, hb, hbl, -⟩ := bestI_mxL (l := L) (by rintro rfl; simp at hLl; omega)
        have HB := Lib.hid hb
        have hbW : bb < W := by omega
        have hcg := hO.cell (tab_get (F := bkC 1 xs ys Z nn S W i) (k := F + bb) (show F + bb < NN by omega))
        have hfg := hO.frozen (F + bb)
        have HST := Lib.hid (bk_step1 (N := NN) hF.out (by rw [HL.out]; exact hb) hy.out)
        clear hb hbl hLl
        go_wp2_with (first | (go_at_call 63; (try first | (with_reducible refine gen_boxK3 (fun u _ _ _ _ => ?_)) | (with_reducible refine gen_boxK2 (fun u _ _ _ => ?_)) | (with_reducible refine gen_boxK (fun u _ _ => ?_))); (with_reducible refine (pl_window (by omega) (by omega) hF (by omega) (by omega) (by omega) hW1 hFW).mono ?_); rintro e u ⟨rfl, _⟩) | (go_at_call 44; (try first | (with_reducible refine gen_boxK3 (fun u _ _ _ _ => ?_)) | (with_reducible refine gen_boxK2 (fun u _ _ _ => ?_)) | (with_reducible refine gen_boxK (fun u _ _ => ?_))); (with_reducible refine (pl_bestH (by omega) HB).mono ?_); rintro e u ⟨rfl, _⟩) | (go_at_call 53; (try first | (with_reducible refine gen_boxK3 (fun u _ _ _ _ => ?_)) | (with_reducible refine gen_boxK2 (fun u _ _ _ => ?_)) | (with_reducible refine gen_boxK (fun u _ _ => ?_))); (with_reducible refine (aF_add).mono ?_); rintro e u ⟨rfl, _⟩))
        go_roundw
        case rel =>
          have o2 := (hO.at (w' := u)).set_ (F + bb) (fadd (bkC 1 xs ys Z nn S W i (F + bb)) y)
          rw [HST.out] at o2
          exact ⟨i + 1, by omega, by go_num, o2, (hS.at (w' := u)).far n1 _, ⟨(Bx.blk (w := u)).far n2 _⟩, ⟨(bel ub u).setCell (p := ⟨g', F + bb, none⟩) hg' _⟩⟩
        case measure => simp [intOf]; omega
      · obtain ⟨y2, hy2⟩ : ∃ y2, fdiv y (fint W) = y2 := ⟨_, rfl⟩
        have HEN := Lib.hid (bkM_end (xs := xs) (N := NN) hF.out hy.out hy2)
        have iy2 : I6 y2 := hy2 ▸ (inferInstance : I6 (fdiv y (fint W)))
        clear hLl
        go_wp2_with (first | (go_at_call 63; (try first | (with_reducible refine gen_boxK3 (fun u _ _ _ _ => ?_)) | (with_reducible refine gen_boxK2 (fun u _ _ _ => ?_)) | (with_reducible refine gen_boxK (fun u _ _ => ?_))); (with_reducible refine (pl_window (by omega) (by omega) hF (by omega) (by omega) (by omega) hW1 hFW).mono ?_); rintro e u ⟨rfl, _⟩) | (go_at_call 66; (try first | (with_reducible refine gen_boxK3 (fun u _ _ _ _ => ?_)) | (with_reducible refine gen_boxK2 (fun u _ _ _ => ?_)) | (with_reducible refine gen_boxK (fun u _ _ => ?_))); (with_reducible refine (aF_int).mono ?_); rintro e u ⟨rfl, _⟩) | (go_at_call 65; (try first | (with_reducible refine gen_boxK3 (fun u _ _ _ _ => ?_)) | (with_reducible refine gen_boxK2 (fun u _ _ _ => ?_)) | (with_reducible refine gen_boxK (fun u _ _ => ?_))); (with_reducible refine (aF_div).mono ?_); rintro e u ⟨rfl, _⟩))
        go_loopw [104] (fun j wq => ∃ q : Nat, q ≤ W ∧ j = .int .i64 q ∧ Own wq g' 56 (tab NN (bkM xs ys Z nn S W i F y2 q)) ∧ Own wq g 3 zs ∧ Bx wq w1.heap.size 34 #[.slice (some ⟨g, 0, none⟩) zs.length zs.length, .slice (some ⟨g', 0, none⟩) NN NN] ∧ Prev wq ub) (fun j _ => W - (intOf j).toNat)
        case atStart => exact ⟨0, Nat.zero_le _, rfl, by rw [bkM_zero]; exact hO.at, hS.at, inferInstance, prev_bel _ _⟩
        case round =>
          clear hO hS hB og
          obtain ⟨q, hq, rfl, hO, hS, hB, hp⟩ := hrel
          by_cases hltq : q < W
          · have hcg := hO.cell (tab_get (F := bkM xs ys Z nn S W i F y2 q) (k := F + q) (show F + q < NN by omega))
            rw [bkM_at] at hcg
            have hfg := hO.frozen (F + q)
            have og : Old g' wr := ⟨hO.lt⟩
            go_wp2_with (first | (go_at_call 53; (try first | (with_reducible refine gen_boxK3 (fun u _ _ _ _ => ?_)) | (with_reducible refine gen_boxK2 (fun u _ _ _ => ?_)) | (with_reducible refine gen_boxK (fun u _ _ => ?_))); (with_reducible refine (aF_add).mono ?_); rintro e u ⟨rfl, _⟩))
            go_roundw
            case rel =>
              have o2 := (hO.at (w' := u)).set_ (F + q) (fadd (bkC 2 xs ys Z nn S W i (F + q)) y2)
              rw [bkM_step] at o2
              exact ⟨q + 1, by omega, by go_num, o2, (hS.at (w' := u)).far n1 _, ⟨(Bx.blk (w := u)).far n2 _⟩, ⟨(bel ub u).setCell (p := ⟨g', F + q, none⟩) hg' _⟩⟩
            case measure => simp [intOf]; omega
          · obtain rfl : q = W := by omega
            rw [HEN.out] at hO
            go_wp2_with fail
            go_roundw
            case rel => exact ⟨i + 1, by omega, by go_num, hO, hS, hB, hp⟩
            case measure => simp [intOf]; omega
    · obtain rfl : i = m' := by omega
      have HO := Lib.hid hO
      clear hO
      have kR : Bx wr (w.heap.size + 1 + 1) 34 #[.slice none 0 0, .slice none 0 0] := inferInstance
      have l1 := hS.ne_blk kR.blk (by decide)
      have l2 := HO.out.ne_blk kR.blk (by decide)
      go_wp2_with fail
      have k3 := kR.blk.set2 (.slice (some ⟨g, 0, none⟩) zs.length zs.length) (.slice (some ⟨g', 0, none⟩) NN NN)
      have B3 := bset2 (bel w wr) (p := w.heap.size + 1 + 1) (by omega) (.slice (some ⟨g, 0, none⟩) zs.length zs.length) (.slice (some ⟨g', 0, none⟩) NN NN)
      have o3 := hS.far2 l1 (.slice (some ⟨g, 0, none⟩) zs.length zs.length) (.slice (some ⟨g', 0, none⟩) NN NN)
      have o4 := HO.out.far2 l2 (.slice (some ⟨g, 0, none⟩) zs.length zs.length) (.slice (some ⟨g', 0, none⟩) NN NN)
      obtain ⟨r0, r1⟩ := box2 k3
      refine bodyPost_ret (v := .tuple #[.agg #[.slice (some ⟨g, 0, none⟩) zs.length zs.length, .slice (some ⟨g', 0, none⟩) NN NN], .int .i64 0]) (by simp [results, Try.results41, go_sem, r0, r1]) rfl ?_
      have hgw : w.heap.size ≤ g := Nat.le_trans (later_size (w := w) (w' := ub)) hg
      have hgw' : w.heap.size ≤ g' := Nat.le_trans (later_size (w := w) (w' := ub)) hg'
      rw [hX.out, HM.out, HN.out]
      exact ⟨_, _, _, _, by rw [tab_length], ⟨o3.rd, rfl⟩, ⟨o4.rd, rfl⟩, ⟨Nat.le_refl _⟩, ⟨by rw [tab_length]; exact Nat.le_refl _⟩, ⟨fun ad e => by injection e with e; subst e; exact hgw⟩, ⟨fun ad e => by injection e with e; subst e; exact hgw'⟩, ⟨B3⟩⟩
end

end Go.Proofs.Yteibgdcieaiaiaa
