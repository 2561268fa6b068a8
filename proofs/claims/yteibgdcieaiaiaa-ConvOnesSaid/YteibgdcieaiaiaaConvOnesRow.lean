/- ConvOnes: for every input the statement returns true, and each argument reads afterwards as it read before. No condition. -/
import Derived.Test.YteibgdcieaiaiaaLaw07d
import Derived.Test.YteibgdcieaiaiaaConvOneMath
import Derived.Test.YteibgdcieaiaiaaRows
import Derived.Test.YteibgdcieaiaiaaOpen

namespace Go.Proofs.Yteibgdcieaiaiaa
open Go.RowKit

theorem slice_hi {P : Program} (t : TypeId) (ht : P.underlying t = some (.slice (P.elem t))) (hs : (P.info? (P.elem t)).map (·.size) = some 1) (A : Option Addr) (m d hi : Nat) (h1 : hi ≤ m) (h2 : m ≤ d) :
    ∀ w, (Instr.slice t (.slice A m d) none (some (.int .i64 (hi : Int))) none).run P w = .ok (.slice A hi d) w := by
  intro w
  rw [run_slice_h w t A m d ht .i64 hi (by omega) (by omega), sizeOf_one hs]
  cases A <;> simp [Result.andThen, sliced, Addr.add]
instance Sl.pre3 {w : World} {g : Nat} {T : TypeId} {a b c d : Int} [h : Bx w g T #[.int .i64 a, .int .i64 b, .int .i64 c, .int .i64 d]] : Sl w (some ⟨g, 0, none⟩) 3 [a, b, c] :=
  ⟨fun j z hj => (h.blk.rdL (k := [a, b, c, d])) j z (by
    match j, hj with
    | 0, hj => exact hj
    | 1, hj => exact hj
    | 2, hj => exact hj), rfl⟩
section
variable {w : World} {A B : Option Addr} {n m c d : Nat} {zs xs : List Int}
theorem aT_equalTn {C D : Option Addr} {n' m' c' d' : Nat} [a : Sl w A n zs] [b : Sl w B m xs] [a' : Sl w C n' zs] [b' : Sl w D m' xs] (hn : n ≤ 1000000) (hm : m ≤ 1000000) (hn' : n' ≤ 1000000) : Calls Try.prog 31 #[.agg #[.slice A n c, .slice B m d], .agg #[.slice C n' c', .slice D m' d']] w (RetV w (.bool true)) :=
  retV_of (aT_equal hn hm hn') (by simp)
theorem a03_rightLong (h : 4 < n) : Calls Try.prog 48 #[.slice A n c] w (RetV w (.bool false)) := by
  go_enter Try.func48, Try.ntmps48
  go_wp2
  go_ret
  exact ⟨rfl, prev_bel _ _⟩
theorem a07_rightLong (h : 4 < n) : Calls Try.prog 27 #[.agg #[.slice A n c, .slice B m d]] w (RetV w (.bool false)) := by
  have CB := @cell_bx
  have CP := @cell_prev
  go_enter Try.func27, Try.ntmps27
  go_wp2_with fail
  refine wp_region_up0 (by kernel_rfl) (fun ux _ => ?_)
  refine wpAnyH_on (i := 0) (d := 3) (v := ?_) rfl rfl (by kernel_rfl) (by kernel_rfl) (by kernel_rfl) (fun _ _ _ h => h) (by kernel_rfl) (prev_bel _ _) ?_ ?_
  rotate_left
  · intro uu (pu : Prev uu _)
    go_simp
    try (with_reducible rfl)
  try simp only [List.set]
  refine wpAnyH_on (i := 1) (d := 4) (v := ?_) rfl rfl (by kernel_rfl) (by kernel_rfl) (by kernel_rfl) (fun _ _ _ h => h) (by kernel_rfl) (prev_bel _ _) ?_ ?_
  rotate_left
  · intro uu (pu : Prev uu _)
    go_simp
    try (with_reducible rfl)
  try simp only [List.set]
  refine wpAnyH_ready (rs := [2]) (by kernel_rfl) (by simp) ?_
  refine AllReadyH.cons rfl (fun K hK => ?_) AllReadyH.nil
  go_simp
  (with_reducible refine (a03_rightLong h).mono ?_)
  rintro e ux ⟨rfl, _⟩
  dsimp only
  refine hK.out _ _ (prev_bel _ _) (fun hHeld => ?_)
  clear hHeld hK K
  try dsimp only [Act.put, List.setIfInBounds_toArray, List.set_cons_zero, List.set_cons_succ]
  refine wpAnyH_on (i := 3) (d := 6) (v := ?_) rfl rfl (by kernel_rfl) (by kernel_rfl) (by kernel_rfl) (fun _ _ _ h => h) (by kernel_rfl) (prev_bel _ _) ?_ ?_
  rotate_left
  · intro uu (pu : Prev uu _)
    go_simp
    try (with_reducible rfl)
  try simp only [List.set]
  refine wpAnyH_off (i := 4) (d := 7) rfl rfl (by kernel_rfl) (by kernel_rfl) (by kernel_rfl) (fun _ _ _ h => h) (by kernel_rfl) (prev_bel _ _) ?_
  try simp only [List.set]
  refine wpAnyH_off (i := 5) (d := 8) rfl rfl (by kernel_rfl) (by kernel_rfl) (by kernel_rfl) (fun _ _ _ h => h) (by kernel_rfl) (prev_bel _ _) ?_
  try simp only [List.set]
  refine wpAnyH_off (i := 6) (d := 9) rfl rfl (by kernel_rfl) (by kernel_rfl) (by kernel_rfl) (fun _ _ _ h => h) (by kernel_rfl) (prev_bel _ _) ?_
  try simp only [List.set]
  refine wpAnyH_off (i := 7) (d := 10) rfl rfl (by kernel_rfl) (by kernel_rfl) (by kernel_rfl) (fun _ _ _ h => h) (by kernel_rfl) (prev_bel _ _) ?_
  try simp only [List.set]
  refine wpAnyH_off (i := 8) (d := 11) rfl rfl (by kernel_rfl) (by kernel_rfl) (by kernel_rfl) (fun _ _ _ h => h) (by kernel_rfl) (prev_bel _ _) ?_
  try simp only [List.set]
  refine wpAnyH_off (i := 9) (d := 12) rfl rfl (by kernel_rfl) (by kernel_rfl) (by kernel_rfl) (fun _ _ _ h => h) (by kernel_rfl) (prev_bel _ _) ?_
  try simp only [List.set]
  refine wpAnyH_off (i := 10) (d := 13) rfl rfl (by kernel_rfl) (by kernel_rfl) (by kernel_rfl) (fun _ _ _ h => h) (by kernel_rfl) (prev_bel _ _) ?_
  try simp only [List.set]
  refine wpAnyH_on (i := 11) (d := 14) (v := ?_) rfl rfl (by kernel_rfl) (by kernel_rfl) (by kernel_rfl) (fun _ _ _ h => h) (by kernel_rfl) (prev_bel _ _) ?_ ?_
  rotate_left
  · intro uu (pu : Prev uu _)
    go_simp
    try (with_reducible rfl)
  try simp only [List.set]
  refine wpAnyH_on (i := 12) (d := 2) (v := ?_) rfl rfl (by kernel_rfl) (by kernel_rfl) (by kernel_rfl) (fun _ _ _ h => h) (by kernel_rfl) (prev_bel _ _) ?_ ?_
  rotate_left
  · intro uu (pu : Prev uu _)
    go_simp
    try (with_reducible rfl)
  try simp only [List.set]
  refine wpAnyH_done (by kernel_rfl) ?_ _
  go_wp2_with fail
  go_ret
  exact ⟨rfl, prev_bel _ _⟩
end
theorem aT_makeO7 {w : World} {A : Option Addr} {n c : Nat} {zs : List Int} [a : Sl w A n zs] (hn : n ≤ 1000000) (hr : Hid (rightB zs = true)) (hp : Hid (prodL zs = ((1 : Nat) : Int))) : Calls Try.prog 30 #[.slice A n c, .int .i64 4294967296] w (RetMO w zs (List.replicate 1 4294967296) n 1) := aT_makeO hn hr.out hp
set_option maxRecDepth 100000 in
set_option maxHeartbeats 8000000 in
theorem convOnes_calls (A B C D : Option Addr) (c d c' d' : Nat) (zs xs zg xg : List Int) (w : World) (iA : IntsIn w A c zs) (iB : IntsIn w B d xs) (iC : IntsIn w C c' zg) (iD : IntsIn w D d' xg) :
    Calls Try.prog 7 #[.agg #[.slice A zs.length c, .slice B xs.length d], .agg #[.slice C zg.length c', .slice D xg.length d']] w (LawTrue w) := by
  have a : Sl w A zs.length zs := ⟨iA.rd, rfl⟩
  have b : Sl w B xs.length xs := ⟨iB.rd, rfl⟩
  have a' : Sl w C zg.length zg := ⟨iC.rd, rfl⟩
  have b' : Sl w D xg.length xg := ⟨iD.rd, rfl⟩
  have i6 : I6s xs := iB.i6
  have i6g : I6s xg := iD.i6
  have lA : Le zs.length c := ⟨iA.2.1⟩
  have CB := @cell_bx
  have CP := @cell_prev
  have lgc : zg.length ≤ 9223372036854775807 := by have h1 := iC.2.1; have h2 := iC.2.2.1; unfold maxLen at h2; omega
  clear iA iB iC iD
  by_cases h1 : 9 < zs.length
  · go_enter Try.func7, Try.ntmps7
    go_wp2_with (first | (go_at_call 15; (try first | (with_reducible refine gen_boxK3 (fun u _ _ _ _ => ?_)) | (with_reducible refine gen_boxK2 (fun u _ _ _ => ?_)) | (with_reducible refine gen_boxK (fun u _ _ => ?_))); (with_reducible refine (a07_awake).mono ?_); rintro e u ⟨rfl, _⟩))
    go_ret
    exact ⟨rfl, bel w _⟩
  by_cases h2 : 200 < xs.length
  · go_enter Try.func7, Try.ntmps7
    go_wp2_with (first | (go_at_call 15; (try first | (with_reducible refine gen_boxK3 (fun u _ _ _ _ => ?_)) | (with_reducible refine gen_boxK2 (fun u _ _ _ => ?_)) | (with_reducible refine gen_boxK (fun u _ _ => ?_))); (with_reducible refine (a07_awake).mono ?_); rintro e u ⟨rfl, _⟩))
    go_ret
    exact ⟨rfl, bel w _⟩
  rcases h3 : tRightB zs xs with _ | _
  · go_enter Try.func7, Try.ntmps7
    go_wp2_with (first | (go_at_call 27; (try first | (with_reducible refine gen_boxK3 (fun u _ _ _ _ => ?_)) | (with_reducible refine gen_boxK2 (fun u _ _ _ => ?_)) | (with_reducible refine gen_boxK (fun u _ _ => ?_))); (with_reducible refine (a07_right (by omega)).mono ?_); rintro e u ⟨rfl, _⟩) | (go_at_call 15; (try first | (with_reducible refine gen_boxK3 (fun u _ _ _ _ => ?_)) | (with_reducible refine gen_boxK2 (fun u _ _ _ => ?_)) | (with_reducible refine gen_boxK (fun u _ _ => ?_))); (with_reducible refine (a07_awake).mono ?_); rintro e u ⟨rfl, _⟩))
    go_ret
    exact ⟨rfl, bel w _⟩
  by_cases h4 : zs.length < 2
  · go_enter Try.func7, Try.ntmps7
    go_wp2_with (first | (go_at_call 27; (try first | (with_reducible refine gen_boxK3 (fun u _ _ _ _ => ?_)) | (with_reducible refine gen_boxK2 (fun u _ _ _ => ?_)) | (with_reducible refine gen_boxK (fun u _ _ => ?_))); (with_reducible refine (a07_right (by omega)).mono ?_); rintro e u ⟨rfl, _⟩) | (go_at_call 15; (try first | (with_reducible refine gen_boxK3 (fun u _ _ _ _ => ?_)) | (with_reducible refine gen_boxK2 (fun u _ _ _ => ?_)) | (with_reducible refine gen_boxK (fun u _ _ => ?_))); (with_reducible refine (a07_awake).mono ?_); rintro e u ⟨rfl, _⟩))
    go_ret
    exact ⟨rfl, bel w _⟩
  by_cases h5 : 3 < zs.length
  · go_enter Try.func7, Try.ntmps7
    go_wp2_with (first | (go_at_call 27; (try first | (with_reducible refine gen_boxK3 (fun u _ _ _ _ => ?_)) | (with_reducible refine gen_boxK2 (fun u _ _ _ => ?_)) | (with_reducible refine gen_boxK (fun u _ _ => ?_))); (with_reducible refine (a07_right (by omega)).mono ?_); rintro e u ⟨rfl, _⟩) | (go_at_call 15; (try first | (with_reducible refine gen_boxK3 (fun u _ _ _ _ => ?_)) | (with_reducible refine gen_boxK2 (fun u _ _ _ => ?_)) | (with_reducible refine gen_boxK (fun u _ _ => ?_))); (with_reducible refine (a07_awake).mono ?_); rintro e u ⟨rfl, _⟩))
    go_ret
    exact ⟨rfl, bel w _⟩
  obtain ⟨bz, oz, z, rfl, obz, cz, hz⟩ := a.get (k := 0) (by omega)
  simp only [Nat.add_zero] at cz
  have g0 : zs.getD 0 0 = z := by rw [List.getD_eq_getElem?_getD, hz.out]; rfl
  by_cases h6 : z = 1
  rotate_left
  · have e6 : (z != 1) = true := by simpa using h6
    clear h6 hz g0
    go_enter Try.func7, Try.ntmps7
    go_wp2_with (first | (go_at_call 27; (try first | (with_reducible refine gen_boxK3 (fun u _ _ _ _ => ?_)) | (with_reducible refine gen_boxK2 (fun u _ _ _ => ?_)) | (with_reducible refine gen_boxK (fun u _ _ => ?_))); (with_reducible refine (a07_right (by omega)).mono ?_); rintro e u ⟨rfl, _⟩) | (go_at_call 15; (try first | (with_reducible refine gen_boxK3 (fun u _ _ _ _ => ?_)) | (with_reducible refine gen_boxK2 (fun u _ _ _ => ?_)) | (with_reducible refine gen_boxK (fun u _ _ => ?_))); (with_reducible refine (a07_awake).mono ?_); rintro e u ⟨rfl, _⟩))
    go_ret
    exact ⟨rfl, bel w _⟩
  subst h6
  have hr := ((tRightB_iff _ _).1 h3).1
  obtain ⟨ws, hws⟩ : ∃ ws, ws = List.replicate (zs.length + 1) (1 : Int) := ⟨_, rfl⟩
  obtain ⟨hE, hV, hwr, hwp, f, hf, ho⟩ := cv_one hr (by omega) (by omega) g0 hws
  have hxl : xs.length = f.M * f.N := by
    have e1 := ((tRightB_iff _ _).1 h3).2
    have e2 := hf.x
    rw [ho.C, Nat.one_mul] at e2
    rw [ho.M, ho.N]
    omega
  have HE := Lib.hid hE
  have HV := Lib.hid hV
  have HWR := Lib.hid hwr
  have HWP : Hid (prodL ws = ((1 : Nat) : Int)) := Lib.hid hwp
  have HF := Lib.hid hf
  have HX : Hid (xs = goFold [4294967296] xs (f.O * (f.M * f.N)) f.all) := Lib.hid (by
    have := goFold_one ho i6.bd hxl
    rw [ho.O, Nat.one_mul, ← hxl, this])
  have HO := Lib.hid ho
  have HXL := Lib.hid hxl
  have hwt : tRightB ws [4294967296] = true := (tRightB_iff _ _).2 ⟨hwr, by rw [hwp]; rfl⟩
  have sl3 := fun A => slice_hi (P := Try.prog) 23 (by kernel_rfl) (by kernel_rfl) A 4 4 3 (by omega) (by omega)
  have sl4 := fun A => slice_hi (P := Try.prog) 23 (by kernel_rfl) (by kernel_rfl) A 4 4 4 (by omega) (by omega)
  simp only [Int.cast_ofNat_Int] at sl3 sl4
  have hne : xs.length ≤ 200 := by omega
  obtain ⟨n, hn⟩ : ∃ n, zs.length = n := ⟨_, rfl⟩
  rw [hn] at a lA hws h1 h4 h5 ⊢
  have hzl : zs.length ≤ 10 := by omega
  have HN := Lib.hid hn
  clear hE hV hwr hwp hf ho hxl hz g0 hn hr
  have hn23 : n = 2 ∨ n = 3 := by omega
  rcases hn23 with rfl | rfl
  · obtain rfl : ws = [1, 1, 1] := hws
    by_cases hg4 : 4 < zg.length
    · go_enter Try.func7, Try.ntmps7
      go_upto_region 4 with (first | (go_at_call 27; (try first | (with_reducible refine gen_boxK3 (fun u _ _ _ _ => ?_)) | (with_reducible refine gen_boxK2 (fun u _ _ _ => ?_)) | (with_reducible refine gen_boxK (fun u _ _ => ?_))); (with_reducible refine (a07_right (by omega)).mono ?_); rintro e u ⟨rfl, _⟩) | (go_at_call 30; (try first | (with_reducible refine gen_boxK3 (fun u _ _ _ _ => ?_)) | (with_reducible refine gen_boxK2 (fun u _ _ _ => ?_)) | (with_reducible refine gen_boxK (fun u _ _ => ?_))); (with_reducible refine (aT_makeO7 (by omega) HWR HWP).mono ?_); rintro e u ⟨g, g', rfl, hg, hg', oS, oX, pw1⟩))
      obtain ⟨v, rfl⟩ : ∃ v : World, v = u := ⟨_, rfl⟩
      have sW : Sl v (some ⟨g, 0, none⟩) 3 _ := ⟨oS.rd, rfl⟩
      have sC : Sl v (some ⟨g', 0, none⟩) 1 [4294967296] := ⟨oX.rd, rfl⟩
      clear oS oX
      go_wp2_with (first | (go_at_call 20; (try first | (with_reducible refine gen_boxK3 (fun u _ _ _ _ => ?_)) | (with_reducible refine gen_boxK2 (fun u _ _ _ => ?_)) | (with_reducible refine gen_boxK (fun u _ _ => ?_))); (with_reducible refine (cv_go_yes (by omega) (by omega) hwt h3 HE HV HF HX).mono ?_); rintro e u ⟨A', c', B', d', rfl, sA, sX, lA, lX, fA, fX, _⟩) | (go_at_call 31; (try first | (with_reducible refine gen_boxK3 (fun u _ _ _ _ => ?_)) | (with_reducible refine gen_boxK2 (fun u _ _ _ => ?_)) | (with_reducible refine gen_boxK (fun u _ _ => ?_))); (with_reducible refine (aT_equalTn (by omega) (by omega) (by omega)).mono ?_); rintro e u ⟨rfl, _⟩) | (go_at_call 27; (try first | (with_reducible refine gen_boxK3 (fun u _ _ _ _ => ?_)) | (with_reducible refine gen_boxK2 (fun u _ _ _ => ?_)) | (with_reducible refine gen_boxK (fun u _ _ => ?_))); (with_reducible refine (a07_rightLong hg4).mono ?_); rintro e u ⟨rfl, _⟩) | (go_at_call 15; (try first | (with_reducible refine gen_boxK3 (fun u _ _ _ _ => ?_)) | (with_reducible refine gen_boxK2 (fun u _ _ _ => ?_)) | (with_reducible refine gen_boxK (fun u _ _ => ?_))); (with_reducible refine (a07_awake).mono ?_); rintro e u ⟨rfl, _⟩))
      go_ret
      exact ⟨rfl, bel w _⟩
    rcases hgr : tRightB zg xg with _ | _
    · go_enter Try.func7, Try.ntmps7
      go_upto_region 4 with (first | (go_at_call 27; (try first | (with_reducible refine gen_boxK3 (fun u _ _ _ _ => ?_)) | (with_reducible refine gen_boxK2 (fun u _ _ _ => ?_)) | (with_reducible refine gen_boxK (fun u _ _ => ?_))); (with_reducible refine (a07_right (by omega)).mono ?_); rintro e u ⟨rfl, _⟩) | (go_at_call 30; (try first | (with_reducible refine gen_boxK3 (fun u _ _ _ _ => ?_)) | (with_reducible refine gen_boxK2 (fun u _ _ _ => ?_)) | (with_reducible refine gen_boxK (fun u _ _ => ?_))); (with_reducible refine (aT_makeO7 (by omega) HWR HWP).mono ?_); rintro e u ⟨g, g', rfl, hg, hg', oS, oX, pw1⟩))
      obtain ⟨v, rfl⟩ : ∃ v : World, v = u := ⟨_, rfl⟩
      have sW : Sl v (some ⟨g, 0, none⟩) 3 _ := ⟨oS.rd, rfl⟩
      have sC : Sl v (some ⟨g', 0, none⟩) 1 [4294967296] := ⟨oX.rd, rfl⟩
      clear oS oX
      go_wp2_with (first | (go_at_call 20; (try first | (with_reducible refine gen_boxK3 (fun u _ _ _ _ => ?_)) | (with_reducible refine gen_boxK2 (fun u _ _ _ => ?_)) | (with_reducible refine gen_boxK (fun u _ _ => ?_))); (with_reducible refine (cv_go_yes (by omega) (by omega) hwt h3 HE HV HF HX).mono ?_); rintro e u ⟨A', c', B', d', rfl, sA, sX, lA, lX, fA, fX, _⟩) | (go_at_call 31; (try first | (with_reducible refine gen_boxK3 (fun u _ _ _ _ => ?_)) | (with_reducible refine gen_boxK2 (fun u _ _ _ => ?_)) | (with_reducible refine gen_boxK (fun u _ _ => ?_))); (with_reducible refine (aT_equalTn (by omega) (by omega) (by omega)).mono ?_); rintro e u ⟨rfl, _⟩) | (go_at_call 27; (try first | (with_reducible refine gen_boxK3 (fun u _ _ _ _ => ?_)) | (with_reducible refine gen_boxK2 (fun u _ _ _ => ?_)) | (with_reducible refine gen_boxK (fun u _ _ => ?_))); (with_reducible refine (a07_right (by omega)).mono ?_); rintro e u ⟨rfl, _⟩) | (go_at_call 15; (try first | (with_reducible refine gen_boxK3 (fun u _ _ _ _ => ?_)) | (with_reducible refine gen_boxK2 (fun u _ _ _ => ?_)) | (with_reducible refine gen_boxK (fun u _ _ => ?_))); (with_reducible refine (a07_awake).mono ?_); rintro e u ⟨rfl, _⟩))
      go_ret
      exact ⟨rfl, bel w _⟩
    by_cases hsz : zg = zs
    rotate_left
    · have HS : Hid (decide (zg = zs) = false) := Lib.hid (decide_eq_false hsz)
      clear hsz
      go_enter Try.func7, Try.ntmps7
      go_upto_region 4 with (first | (go_at_call 27; (try first | (with_reducible refine gen_boxK3 (fun u _ _ _ _ => ?_)) | (with_reducible refine gen_boxK2 (fun u _ _ _ => ?_)) | (with_reducible refine gen_boxK (fun u _ _ => ?_))); (with_reducible refine (a07_right (by omega)).mono ?_); rintro e u ⟨rfl, _⟩) | (go_at_call 30; (try first | (with_reducible refine gen_boxK3 (fun u _ _ _ _ => ?_)) | (with_reducible refine gen_boxK2 (fun u _ _ _ => ?_)) | (with_reducible refine gen_boxK (fun u _ _ => ?_))); (with_reducible refine (aT_makeO7 (by omega) HWR HWP).mono ?_); rintro e u ⟨g, g', rfl, hg, hg', oS, oX, pw1⟩))
      obtain ⟨v, rfl⟩ : ∃ v : World, v = u := ⟨_, rfl⟩
      have sW : Sl v (some ⟨g, 0, none⟩) 3 _ := ⟨oS.rd, rfl⟩
      have sC : Sl v (some ⟨g', 0, none⟩) 1 [4294967296] := ⟨oX.rd, rfl⟩
      clear oS oX
      go_wp2_with (first | (go_at_call 20; (try first | (with_reducible refine gen_boxK3 (fun u _ _ _ _ => ?_)) | (with_reducible refine gen_boxK2 (fun u _ _ _ => ?_)) | (with_reducible refine gen_boxK (fun u _ _ => ?_))); (with_reducible refine (cv_go_yes (by omega) (by omega) hwt h3 HE HV HF HX).mono ?_); rintro e u ⟨A', c', B', d', rfl, sA, sX, lA, lX, fA, fX, _⟩) | (go_at_call 31; (try first | (with_reducible refine gen_boxK3 (fun u _ _ _ _ => ?_)) | (with_reducible refine gen_boxK2 (fun u _ _ _ => ?_)) | (with_reducible refine gen_boxK (fun u _ _ => ?_))); (with_reducible refine (aT_equalTn (by omega) (by omega) (by omega)).mono ?_); rintro e u ⟨rfl, _⟩) | (go_at_call 27; (try first | (with_reducible refine gen_boxK3 (fun u _ _ _ _ => ?_)) | (with_reducible refine gen_boxK2 (fun u _ _ _ => ?_)) | (with_reducible refine gen_boxK (fun u _ _ => ?_))); (with_reducible refine (a07_right (by omega)).mono ?_); rintro e u ⟨rfl, _⟩) | (go_at_call 18; (try first | (with_reducible refine gen_boxK3 (fun u _ _ _ _ => ?_)) | (with_reducible refine gen_boxK2 (fun u _ _ _ => ?_)) | (with_reducible refine gen_boxK (fun u _ _ => ?_))); (with_reducible refine (a03_sameH (by omega) (by omega) HS).mono ?_); rintro e u ⟨rfl, _⟩) | (go_at_call 15; (try first | (with_reducible refine gen_boxK3 (fun u _ _ _ _ => ?_)) | (with_reducible refine gen_boxK2 (fun u _ _ _ => ?_)) | (with_reducible refine gen_boxK (fun u _ _ => ?_))); (with_reducible refine (a07_awake).mono ?_); rintro e u ⟨rfl, _⟩))
      go_ret
      exact ⟨rfl, bel w _⟩
    subst hsz
    have hgl : xg.length = xs.length := by
      have e1 := ((tRightB_iff _ _).1 h3).2
      have e2 := ((tRightB_iff _ _).1 hgr).2
      omega
    obtain ⟨Y0, hY0⟩ : ∃ Y0, Y0 = bwFold xg xs (List.length [(4294967296 : Int)]) f.all := ⟨_, rfl⟩
    have HY0 := Lib.hid hY0
    have HY1 : Hid (Y0.length = 1) := Lib.hid (by rw [hY0, bwFold_len]; rfl)
    have HYX : Hid (xg = bxFold xg [4294967296] xs.length f.all) := Lib.hid (by
      have := bxFold_one HO.out i6g.bd (hgl.trans HXL.out)
      rw [← hgl, this])
    have hY1 := HY1.out
    have hgx : xg.length ≤ 200 := by omega
    clear hY0 hgl
    go_enter Try.func7, Try.ntmps7
    go_upto_region 4 with (first | (go_at_call 27; (try first | (with_reducible refine gen_boxK3 (fun u _ _ _ _ => ?_)) | (with_reducible refine gen_boxK2 (fun u _ _ _ => ?_)) | (with_reducible refine gen_boxK (fun u _ _ => ?_))); (with_reducible refine (a07_right (by omega)).mono ?_); rintro e u ⟨rfl, _⟩) | (go_at_call 30; (try first | (with_reducible refine gen_boxK3 (fun u _ _ _ _ => ?_)) | (with_reducible refine gen_boxK2 (fun u _ _ _ => ?_)) | (with_reducible refine gen_boxK (fun u _ _ => ?_))); (with_reducible refine (aT_makeO7 (by omega) HWR HWP).mono ?_); rintro e u ⟨g, g', rfl, hg, hg', oS, oX, pw1⟩))
    obtain ⟨v, rfl⟩ : ∃ v : World, v = u := ⟨_, rfl⟩
    have sW : Sl v (some ⟨g, 0, none⟩) 3 _ := ⟨oS.rd, rfl⟩
    have sC : Sl v (some ⟨g', 0, none⟩) 1 [4294967296] := ⟨oX.rd, rfl⟩
    clear oS oX
    go_wp2_with (first | (go_at_call 20; (try first | (with_reducible refine gen_boxK3 (fun u _ _ _ _ => ?_)) | (with_reducible refine gen_boxK2 (fun u _ _ _ => ?_)) | (with_reducible refine gen_boxK (fun u _ _ => ?_))); (with_reducible refine (cv_go_yes (by omega) (by omega) hwt h3 HE HV HF HX).mono ?_); rintro e u ⟨A', c', B', d', rfl, sA, sX, lA, lX, fA, fX, _⟩) | (go_at_call 31; (try first | (with_reducible refine gen_boxK3 (fun u _ _ _ _ => ?_)) | (with_reducible refine gen_boxK2 (fun u _ _ _ => ?_)) | (with_reducible refine gen_boxK (fun u _ _ => ?_))); (with_reducible refine (aT_equalTn (by omega) (by omega) (by omega)).mono ?_); rintro e u ⟨rfl, _⟩) | (go_at_call 27; (try first | (with_reducible refine gen_boxK3 (fun u _ _ _ _ => ?_)) | (with_reducible refine gen_boxK2 (fun u _ _ _ => ?_)) | (with_reducible refine gen_boxK (fun u _ _ => ?_))); (with_reducible refine (a07_right (by omega)).mono ?_); rintro e u ⟨rfl, _⟩) | (go_at_call 18; (try first | (with_reducible refine gen_boxK3 (fun u _ _ _ _ => ?_)) | (with_reducible refine gen_boxK2 (fun u _ _ _ => ?_)) | (with_reducible refine gen_boxK (fun u _ _ => ?_))); (with_reducible refine (a03_sameT (by omega) (by omega)).mono ?_); rintro e u ⟨rfl, _⟩) | (go_at_call 26; (try first | (with_reducible refine gen_boxK3 (fun u _ _ _ _ => ?_)) | (with_reducible refine gen_boxK2 (fun u _ _ _ => ?_)) | (with_reducible refine gen_boxK (fun u _ _ => ?_))); (with_reducible refine (cv_back_yes (by omega) (by omega) (by omega) hwt h3 HE HV hgr HF HY0 HYX).mono ?_); rintro e u ⟨A', c', B', d', C', c1', D', d1', rfl, sA, sX, sC, sD, _⟩) | (go_at_call 15; (try first | (with_reducible refine gen_boxK3 (fun u _ _ _ _ => ?_)) | (with_reducible refine gen_boxK2 (fun u _ _ _ => ?_)) | (with_reducible refine gen_boxK (fun u _ _ => ?_))); (with_reducible refine (a07_awake).mono ?_); rintro e u ⟨rfl, _⟩))
    go_ret
    exact ⟨rfl, bel w _⟩
  · obtain rfl : ws = [1, 1, 1, 1] := hws
    by_cases hg4 : 4 < zg.length
    · go_enter Try.func7, Try.ntmps7
      go_upto_region 4 with (first | (go_at_call 27; (try first | (with_reducible refine gen_boxK3 (fun u _ _ _ _ => ?_)) | (with_reducible refine gen_boxK2 (fun u _ _ _ => ?_)) | (with_reducible refine gen_boxK (fun u _ _ => ?_))); (with_reducible refine (a07_right (by omega)).mono ?_); rintro e u ⟨rfl, _⟩) | (go_at_call 30; (try first | (with_reducible refine gen_boxK3 (fun u _ _ _ _ => ?_)) | (with_reducible refine gen_boxK2 (fun u _ _ _ => ?_)) | (with_reducible refine gen_boxK (fun u _ _ => ?_))); (with_reducible refine (aT_makeO7 (by omega) HWR HWP).mono ?_); rintro e u ⟨g, g', rfl, hg, hg', oS, oX, pw1⟩))
      obtain ⟨v, rfl⟩ : ∃ v : World, v = u := ⟨_, rfl⟩
      have sW : Sl v (some ⟨g, 0, none⟩) 4 _ := ⟨oS.rd, rfl⟩
      have sC : Sl v (some ⟨g', 0, none⟩) 1 [4294967296] := ⟨oX.rd, rfl⟩
      clear oS oX
      go_wp2_with (first | (go_at_call 20; (try first | (with_reducible refine gen_boxK3 (fun u _ _ _ _ => ?_)) | (with_reducible refine gen_boxK2 (fun u _ _ _ => ?_)) | (with_reducible refine gen_boxK (fun u _ _ => ?_))); (with_reducible refine (cv_go_yes (by omega) (by omega) hwt h3 HE HV HF HX).mono ?_); rintro e u ⟨A', c', B', d', rfl, sA, sX, lA, lX, fA, fX, _⟩) | (go_at_call 31; (try first | (with_reducible refine gen_boxK3 (fun u _ _ _ _ => ?_)) | (with_reducible refine gen_boxK2 (fun u _ _ _ => ?_)) | (with_reducible refine gen_boxK (fun u _ _ => ?_))); (with_reducible refine (aT_equalTn (by omega) (by omega) (by omega)).mono ?_); rintro e u ⟨rfl, _⟩) | (go_at_call 27; (try first | (with_reducible refine gen_boxK3 (fun u _ _ _ _ => ?_)) | (with_reducible refine gen_boxK2 (fun u _ _ _ => ?_)) | (with_reducible refine gen_boxK (fun u _ _ => ?_))); (with_reducible refine (a07_rightLong hg4).mono ?_); rintro e u ⟨rfl, _⟩) | (go_at_call 15; (try first | (with_reducible refine gen_boxK3 (fun u _ _ _ _ => ?_)) | (with_reducible refine gen_boxK2 (fun u _ _ _ => ?_)) | (with_reducible refine gen_boxK (fun u _ _ => ?_))); (with_reducible refine (a07_awake).mono ?_); rintro e u ⟨rfl, _⟩))
      go_ret
      exact ⟨rfl, bel w _⟩
    rcases hgr : tRightB zg xg with _ | _
    · go_enter Try.func7, Try.ntmps7
      go_upto_region 4 with (first | (go_at_call 27; (try first | (with_reducible refine gen_boxK3 (fun u _ _ _ _ => ?_)) | (with_reducible refine gen_boxK2 (fun u _ _ _ => ?_)) | (with_reducible refine gen_boxK (fun u _ _ => ?_))); (with_reducible refine (a07_right (by omega)).mono ?_); rintro e u ⟨rfl, _⟩) | (go_at_call 30; (try first | (with_reducible refine gen_boxK3 (fun u _ _ _ _ => ?_)) | (with_reducible refine gen_boxK2 (fun u _ _ _ => ?_)) | (with_reducible refine gen_boxK (fun u _ _ => ?_))); (with_reducible refine (aT_makeO7 (by omega) HWR HWP).mono ?_); rintro e u ⟨g, g', rfl, hg, hg', oS, oX, pw1⟩))
      obtain ⟨v, rfl⟩ : ∃ v : World, v = u := ⟨_, rfl⟩
      have sW : Sl v (some ⟨g, 0, none⟩) 4 _ := ⟨oS.rd, rfl⟩
      have sC : Sl v (some ⟨g', 0, none⟩) 1 [4294967296] := ⟨oX.rd, rfl⟩
      clear oS oX
      go_wp2_with (first | (go_at_call 20; (try first | (with_reducible refine gen_boxK3 (fun u _ _ _ _ => ?_)) | (with_reducible refine gen_boxK2 (fun u _ _ _ => ?_)) | (with_reducible refine gen_boxK (fun u _ _ => ?_))); (with_reducible refine (cv_go_yes (by omega) (by omega) hwt h3 HE HV HF HX).mono ?_); rintro e u ⟨A', c', B', d', rfl, sA, sX, lA, lX, fA, fX, _⟩) | (go_at_call 31; (try first | (with_reducible refine gen_boxK3 (fun u _ _ _ _ => ?_)) | (with_reducible refine gen_boxK2 (fun u _ _ _ => ?_)) | (with_reducible refine gen_boxK (fun u _ _ => ?_))); (with_reducible refine (aT_equalTn (by omega) (by omega) (by omega)).mono ?_); rintro e u ⟨rfl, _⟩) | (go_at_call 27; (try first | (with_reducible refine gen_boxK3 (fun u _ _ _ _ => ?_)) | (with_reducible refine gen_boxK2 (fun u _ _ _ => ?_)) | (with_reducible refine gen_boxK (fun u _ _ => ?_))); (with_reducible refine (a07_right (by omega)).mono ?_); rintro e u ⟨rfl, _⟩) | (go_at_call 15; (try first | (with_reducible refine gen_boxK3 (fun u _ _ _ _ => ?_)) | (with_reducible refine gen_boxK2 (fun u _ _ _ => ?_)) | (with_reducible refine gen_boxK (fun u _ _ => ?_))); (with_reducible refine (a07_awake).mono ?_); rintro e u ⟨rfl, _⟩))
      go_ret
      exact ⟨rfl, bel w _⟩
    by_cases hsz : zg = zs
    rotate_left
    · have HS : Hid (decide (zg = zs) = false) := Lib.hid (decide_eq_false hsz)
      clear hsz
      go_enter Try.func7, Try.ntmps7
      go_upto_region 4 with (first | (go_at_call 27; (try first | (with_reducible refine gen_boxK3 (fun u _ _ _ _ => ?_)) | (with_reducible refine gen_boxK2 (fun u _ _ _ => ?_)) | (with_reducible refine gen_boxK (fun u _ _ => ?_))); (with_reducible refine (a07_right (by omega)).mono ?_); rintro e u ⟨rfl, _⟩) | (go_at_call 30; (try first | (with_reducible refine gen_boxK3 (fun u _ _ _ _ => ?_)) | (with_reducible refine gen_boxK2 (fun u _ _ _ => ?_)) | (with_reducible refine gen_boxK (fun u _ _ => ?_))); (with_reducible refine (aT_makeO7 (by omega) HWR HWP).mono ?_); rintro e u ⟨g, g', rfl, hg, hg', oS, oX, pw1⟩))
      obtain ⟨v, rfl⟩ : ∃ v : World, v = u := ⟨_, rfl⟩
      have sW : Sl v (some ⟨g, 0, none⟩) 4 _ := ⟨oS.rd, rfl⟩
      have sC : Sl v (some ⟨g', 0, none⟩) 1 [4294967296] := ⟨oX.rd, rfl⟩
      clear oS oX
      go_wp2_with (first | (go_at_call 20; (try first | (with_reducible refine gen_boxK3 (fun u _ _ _ _ => ?_)) | (with_reducible refine gen_boxK2 (fun u _ _ _ => ?_)) | (with_reducible refine gen_boxK (fun u _ _ => ?_))); (with_reducible refine (cv_go_yes (by omega) (by omega) hwt h3 HE HV HF HX).mono ?_); rintro e u ⟨A', c', B', d', rfl, sA, sX, lA, lX, fA, fX, _⟩) | (go_at_call 31; (try first | (with_reducible refine gen_boxK3 (fun u _ _ _ _ => ?_)) | (with_reducible refine gen_boxK2 (fun u _ _ _ => ?_)) | (with_reducible refine gen_boxK (fun u _ _ => ?_))); (with_reducible refine (aT_equalTn (by omega) (by omega) (by omega)).mono ?_); rintro e u ⟨rfl, _⟩) | (go_at_call 27; (try first | (with_reducible refine gen_boxK3 (fun u _ _ _ _ => ?_)) | (with_reducible refine gen_boxK2 (fun u _ _ _ => ?_)) | (with_reducible refine gen_boxK (fun u _ _ => ?_))); (with_reducible refine (a07_right (by omega)).mono ?_); rintro e u ⟨rfl, _⟩) | (go_at_call 18; (try first | (with_reducible refine gen_boxK3 (fun u _ _ _ _ => ?_)) | (with_reducible refine gen_boxK2 (fun u _ _ _ => ?_)) | (with_reducible refine gen_boxK (fun u _ _ => ?_))); (with_reducible refine (a03_sameH (by omega) (by omega) HS).mono ?_); rintro e u ⟨rfl, _⟩) | (go_at_call 15; (try first | (with_reducible refine gen_boxK3 (fun u _ _ _ _ => ?_)) | (with_reducible refine gen_boxK2 (fun u _ _ _ => ?_)) | (with_reducible refine gen_boxK (fun u _ _ => ?_))); (with_reducible refine (a07_awake).mono ?_); rintro e u ⟨rfl, _⟩))
      go_ret
      exact ⟨rfl, bel w _⟩
    subst hsz
    have hgl : xg.length = xs.length := by
      have e1 := ((tRightB_iff _ _).1 h3).2
      have e2 := ((tRightB_iff _ _).1 hgr).2
      omega
    obtain ⟨Y0, hY0⟩ : ∃ Y0, Y0 = bwFold xg xs (List.length [(4294967296 : Int)]) f.all := ⟨_, rfl⟩
    have HY0 := Lib.hid hY0
    have HY1 : Hid (Y0.length = 1) := Lib.hid (by rw [hY0, bwFold_len]; rfl)
    have HYX : Hid (xg = bxFold xg [4294967296] xs.length f.all) := Lib.hid (by
      have := bxFold_one HO.out i6g.bd (hgl.trans HXL.out)
      rw [← hgl, this])
    have hY1 := HY1.out
    have hgx : xg.length ≤ 200 := by omega
    clear hY0 hgl
    go_enter Try.func7, Try.ntmps7
    go_upto_region 4 with (first | (go_at_call 27; (try first | (with_reducible refine gen_boxK3 (fun u _ _ _ _ => ?_)) | (with_reducible refine gen_boxK2 (fun u _ _ _ => ?_)) | (with_reducible refine gen_boxK (fun u _ _ => ?_))); (with_reducible refine (a07_right (by omega)).mono ?_); rintro e u ⟨rfl, _⟩) | (go_at_call 30; (try first | (with_reducible refine gen_boxK3 (fun u _ _ _ _ => ?_)) | (with_reducible refine gen_boxK2 (fun u _ _ _ => ?_)) | (with_reducible refine gen_boxK (fun u _ _ => ?_))); (with_reducible refine (aT_makeO7 (by omega) HWR HWP).mono ?_); rintro e u ⟨g, g', rfl, hg, hg', oS, oX, pw1⟩))
    obtain ⟨v, rfl⟩ : ∃ v : World, v = u := ⟨_, rfl⟩
    have sW : Sl v (some ⟨g, 0, none⟩) 4 _ := ⟨oS.rd, rfl⟩
    have sC : Sl v (some ⟨g', 0, none⟩) 1 [4294967296] := ⟨oX.rd, rfl⟩
    clear oS oX
    go_wp2_with (first | (go_at_call 20; (try first | (with_reducible refine gen_boxK3 (fun u _ _ _ _ => ?_)) | (with_reducible refine gen_boxK2 (fun u _ _ _ => ?_)) | (with_reducible refine gen_boxK (fun u _ _ => ?_))); (with_reducible refine (cv_go_yes (by omega) (by omega) hwt h3 HE HV HF HX).mono ?_); rintro e u ⟨A', c', B', d', rfl, sA, sX, lA, lX, fA, fX, _⟩) | (go_at_call 31; (try first | (with_reducible refine gen_boxK3 (fun u _ _ _ _ => ?_)) | (with_reducible refine gen_boxK2 (fun u _ _ _ => ?_)) | (with_reducible refine gen_boxK (fun u _ _ => ?_))); (with_reducible refine (aT_equalTn (by omega) (by omega) (by omega)).mono ?_); rintro e u ⟨rfl, _⟩) | (go_at_call 27; (try first | (with_reducible refine gen_boxK3 (fun u _ _ _ _ => ?_)) | (with_reducible refine gen_boxK2 (fun u _ _ _ => ?_)) | (with_reducible refine gen_boxK (fun u _ _ => ?_))); (with_reducible refine (a07_right (by omega)).mono ?_); rintro e u ⟨rfl, _⟩) | (go_at_call 18; (try first | (with_reducible refine gen_boxK3 (fun u _ _ _ _ => ?_)) | (with_reducible refine gen_boxK2 (fun u _ _ _ => ?_)) | (with_reducible refine gen_boxK (fun u _ _ => ?_))); (with_reducible refine (a03_sameT (by omega) (by omega)).mono ?_); rintro e u ⟨rfl, _⟩) | (go_at_call 26; (try first | (with_reducible refine gen_boxK3 (fun u _ _ _ _ => ?_)) | (with_reducible refine gen_boxK2 (fun u _ _ _ => ?_)) | (with_reducible refine gen_boxK (fun u _ _ => ?_))); (with_reducible refine (cv_back_yes (by omega) (by omega) (by omega) hwt h3 HE HV hgr HF HY0 HYX).mono ?_); rintro e u ⟨A', c', B', d', C', c1', D', d1', rfl, sA, sX, sC, sD, _⟩) | (go_at_call 15; (try first | (with_reducible refine gen_boxK3 (fun u _ _ _ _ => ?_)) | (with_reducible refine gen_boxK2 (fun u _ _ _ => ?_)) | (with_reducible refine gen_boxK (fun u _ _ => ?_))); (with_reducible refine (a07_awake).mono ?_); rintro e u ⟨rfl, _⟩))
    go_ret
    exact ⟨rfl, bel w _⟩

end Go.Proofs.Yteibgdcieaiaiaa

namespace Go.Proofs.Yteibgdcieaiaiaa
open Go.ChangeShapes Go.WideShapes Go.ChangeAt Go.RowKit

set_option maxRecDepth 100000 in
theorem convOnes_lifted (os : Os) (started : os.Started) (H : Type) (enc : TypeId × Value → H) :
    ReturnsInHanded {} Try.checked os 7 .any (Rows.convOnesSpec.pre6 enc Try.prog Try.f7 Rows.convOnesRow.domain false) (Rows.convOnesSpec.post enc Try.prog Try.f7 false true false false) := by
  refine returnsInHanded_of_change (C := Try.checked) ownKnob_none started (by kernel_rfl) Try.func7
    (ChangeSpec.witness6 (enc := enc) (C := Try.checked) false ⟨#[], #[.agg #[.slice none 0 0, .slice none 0 0], .agg #[.slice none 0 0, .slice none 0 0]], []⟩ 8 (by kernel_rfl) (by kernel_rfl) (by kernel_rfl) (by kernel_rfl)) ?_
  intro W base args ds gs before hval0 hW _ _
  have hval : ∀ (j : Nat) t v, Try.f7.params[j]? = some t → args[j]? = some v → Value.okWide Try.prog W .any base t v := hval0
  have hW' := hW
  obtain ⟨p, q, hA0, hV, rfl, _, _⟩ := hW
  have hA : DataW.TrodAll enc Try.prog W 0 (fun _ => true) true Try.f7.params.toList args.toList ds p := hA0
  rw [Try.params7] at hA hval
  have hAll := hA
  obtain ⟨v0, vs0, d0, ds0, p0, q0, hargs, rfl, rfl, h0, r0⟩ := trodAll_cons hA
  obtain ⟨v1, vs1, d1, ds1, p1, q1, rfl, rfl, rfl, h1, r1⟩ := trodAll_cons r0
  obtain ⟨rfl, rfl, rfl⟩ := trodAll_nil r1
  obtain rfl : args = #[v0, v1] := by cases args; simp_all
  obtain ⟨rfl, rfl⟩ := trodVars_none hV
  obtain ⟨cs0, rfl, hsz0⟩ := okWide_struct Try.underlying34 (hval 0 34 v0 rfl rfl)
  obtain ⟨q0a, q0b, rfl⟩ := arr2 (hsz0.trans (by kernel_rfl))
  obtain ⟨fuel0, hf0⟩ := h0
  replace hf0 : DataW.trod enc Try.prog W 0 (fun _ => true) true fuel0 34 [q0a, q0b] = some _ := hf0
  obtain ⟨_, _, hf0_0⟩ := fld Try.underlying34 hf0 0 _ rfl
  replace hf0_0 : DataW.trod enc Try.prog W 0 (fun _ => true) true _ 23 [q0a] = some _ := hf0_0
  obtain ⟨A0a, c0a, z0a, rfl, w0a⟩ := trod_ints Try.underlying23 Try.underlying3 (by kernel_rfl) hf0_0
  obtain ⟨_, _, hf0_1⟩ := fld Try.underlying34 hf0 1 _ rfl
  replace hf0_1 : DataW.trod enc Try.prog W 0 (fun _ => true) true _ 32 [q0b] = some _ := hf0_1
  obtain ⟨A0b, c0b, z0b, rfl, w0b⟩ := trod_ints Try.underlying32 Try.underlying56 (by kernel_rfl) hf0_1
  obtain ⟨cs1, rfl, hsz1⟩ := okWide_struct Try.underlying34 (hval 1 34 v1 rfl rfl)
  obtain ⟨q1a, q1b, rfl⟩ := arr2 (hsz1.trans (by kernel_rfl))
  obtain ⟨fuel1, hf1⟩ := h1
  replace hf1 : DataW.trod enc Try.prog W 0 (fun _ => true) true fuel1 34 [q1a, q1b] = some _ := hf1
  obtain ⟨_, _, hf1_0⟩ := fld Try.underlying34 hf1 0 _ rfl
  replace hf1_0 : DataW.trod enc Try.prog W 0 (fun _ => true) true _ 23 [q1a] = some _ := hf1_0
  obtain ⟨A1a, c1a, z1a, rfl, w1a⟩ := trod_ints Try.underlying23 Try.underlying3 (by kernel_rfl) hf1_0
  obtain ⟨_, _, hf1_1⟩ := fld Try.underlying34 hf1 1 _ rfl
  replace hf1_1 : DataW.trod enc Try.prog W 0 (fun _ => true) true _ 32 [q1b] = some _ := hf1_1
  obtain ⟨A1b, c1b, z1b, rfl, w1b⟩ := trod_ints Try.underlying32 Try.underlying56 (by kernel_rfl) hf1_1
  clear hA0 hval0
  refine (convOnes_calls A0a A0b A1a A1b c0a c0b c1a c1b z0a z0b z1a z1b W w0a w0b w1a w1b).mono fun e W' ⟨he, bel⟩ => ?_
  subst he
  exact ⟨_, rfl, _, _, _, [], _, [], hW', trodAll_mk1 (shut_bool Try.underlying4 _), trodAll_below laidOut_all (by decide +kernel) hAll bel, rfl, bel.frame _, fun h => by cases h⟩

theorem convOnes_holds : Rows.ConvOnesSaid :=
  OpenClaim.holds_of_wide 7 Try.f7 rfl rfl rfl rfl rfl rfl rfl ⟨rfl, rfl, rfl, rfl, rfl⟩ rfl rfl rfl rfl rfl (by kernel_rfl) Try.func7 (by kernel_rfl)
    (of_decide_eq_true (by kernel_rfl)) (by unfold Func.isWrapper; first | (rw [if_pos (by decide +kernel)]; kernel_rfl) | (rw [if_neg (by decide +kernel)]; exact ⟨rfl, rfl⟩))
    (fun os started H enc _ => convOnes_lifted os started H enc)

end Go.Proofs.Yteibgdcieaiaiaa
