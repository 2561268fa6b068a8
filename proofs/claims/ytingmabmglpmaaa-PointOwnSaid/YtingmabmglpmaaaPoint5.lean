/- point.Back of two ins. -/
import Derived.Test.YtingmabmglpmaaaPoint4
namespace Go.Proofs.Ytingmabmglpmaaa
open Go.RowKit

theorem Blk.set4a {w : World} {g : Nat} {T : TypeId} {a b c d : Value} (h : Blk w g T #[a, b, c, d]) (v0 v1 : Value) : Blk ((w.setCell ⟨g, 0, none⟩ v0).setCell ⟨g, 1, none⟩ v1) g T #[v0, v1, c, d] := by simpa using (h.set_ 0 v0).set_ 1 v1
theorem Blk.set4b {w : World} {g : Nat} {T : TypeId} {a b c d : Value} (h : Blk w g T #[a, b, c, d]) (v0 v1 : Value) : Blk ((w.setCell ⟨g, 2, none⟩ v0).setCell ⟨g, 3, none⟩ v1) g T #[a, b, v0, v1] := by simpa using (h.set_ 2 v0).set_ 3 v1
theorem Own.farB {w : World} {g p : Nat} {T : TypeId} {zs : List Int} (h : Own w g T zs) (hp : g ≠ p) (v0 v1 : Value) : Own ((w.setCell ⟨p, 2, none⟩ v0).setCell ⟨p, 3, none⟩ v1) g T zs := (h.far (p := ⟨p, 2, none⟩) hp v0).far (p := ⟨p, 3, none⟩) hp v1
theorem bset2b {w w' : World} {n p : Nat} (h : Below n w w') (hp : n ≤ p) (v0 v1 : Value) : Below n w ((w'.setCell ⟨p, 2, none⟩ v0).setCell ⟨p, 3, none⟩ v1) := (h.setCell (p := ⟨p, 2, none⟩) hp v0).setCell (p := ⟨p, 3, none⟩) hp v1

section
variable {w : World} {A B C : Option Addr} {n c p q d e' : Nat} {ts : List Tn} {kind kk : Int} {zg xg : List Int}
set_option maxRecDepth 100000 in
set_option maxHeartbeats 8000000 in
theorem pt_back_two [a : Ts w A 2 ts] [I6 kk] [sG : Sl w B p zg] [xG : Sl w C q xg] [iG : I6s xg] (hp : p ≤ 1000000) (hz : Hid (∀ t ∈ ts, t.zs.length ≤ 1000000)) (hE : goodE kind ts = 0) (hr : tRightB zg xg = true) (hs : zg = zs0 ts) {Z X Y : List Int} (hZ : Hid (Z = zs0 ts)) (hX : Hid (X = bkX kind kk ts xg (xs0 ts).length)) (hY : Hid (Y = bkY kind ts xg (xs0 ts).length)) :
    Calls Try.prog 35 #[.int .i64 kind, .int .i64 kk, .agg #[.slice B p d, .slice C q e'], .slice A 2 c] w (RetG2 w Z X Z Y) := by
  have CB := @cell_bx
  have FB := @frozen_bx
  have CP := @cell_prev
  obtain ⟨-, -, -, hall⟩ := good_nat hE
  obtain ⟨b, o, A0, c0, z0, B0, d0, x0, rfl, ob, q0, q1, s0, t0, hd0, i0, ht0⟩ := a.get (k := 0) (by omega)
  obtain ⟨b', o', A1, c1, z1, B1, d1, x1, eA, -, q2, q3, s1, t1, hd1, i1, ht1⟩ := a.get (k := 1) (by omega)
  injection eA with eA
  injection eA with eb eo
  subst eb eo
  simp only [Nat.zero_mul, Nat.add_zero, Nat.one_mul] at q0 q1 q2 q3
  have hr0 := (hall _ (List.mem_of_getElem? ht0.out)).1
  have hr1 := (hall _ (List.mem_of_getElem? ht1.out)).1
  have hz1 := (hall _ (List.mem_of_getElem? ht1.out)).2
  obtain ⟨lx, lx1, lz⟩ := right_len hr0
  simp only at lx lx1 lz hz1 hr0 hr1
  have HX0 : Hid (xs0 ts = x0) := Lib.hid (by simp [xs0, ht0.out])
  have HZ0 : Hid (zs0 ts = z0) := Lib.hid (by simp [zs0, ht0.out])
  have HS : Hid (∀ i, i < x0.length → ∀ t, ts[1]? = some t → i < t.xs.length) := Lib.hid fun i hi t ht => by
    rw [xs0_len hE (List.mem_of_getElem? ht), HX0.out]; exact hi
  have HI := Lib.hid fun i => sec_i6 a.rd i
  rw [HZ0.out] at hs hz1
  replace hz1 := hs.trans hz1.symm
  subst hs
  subst hz1
  have HGL : Hid (xg.length = x0.length) := Lib.hid (same_len hr hr0)
  have hxl : x1.length = x0.length := same_len hr1 hr0
  have HXL := Lib.hid hxl
  have lx' : x1.length ≤ 65536 := by omega
  obtain ⟨xG, rfl⟩ := xG
  have xG : Sl w C xg.length xg := ⟨xG, rfl⟩
  have hs : decide (zg = zg) = true := decide_eq_true rfl
  have hmk : ∀ W : World, (Instr.makeSlice 27 (.int .i64 2) (.int .i64 2)).run Try.prog W = .ok (.slice (some ⟨W.heap.size, 0, none⟩) 2 2) (W.alloc (.cells #[.slice none 0 0, .slice none 0 0, .slice none 0 0, .slice none 0 0] 26)) := fun W => by
    have := make_tens 2 (by omega) W
    rw [show 2 * 2 = 4 from rfl, made2] at this
    exact this
  clear hall hr0 hr1 hxl
  go_enter Try.func35, Try.ntmps35
  go_wp2_with (first | (go_at_call 51; (try first | (with_reducible refine gen_boxK3 (fun u _ _ _ _ => ?_)) | (with_reducible refine gen_boxK2 (fun u _ _ _ => ?_)) | (with_reducible refine gen_boxK (fun u _ _ => ?_))); (with_reducible refine (pt_agree hz).mono ?_); rintro e u ⟨rfl, _⟩))
  refine wp_region_up0 (by kernel_rfl) (fun ux _ => ?_)
  refine wpAnyH_on (i := 0) (d := 24) (v := ?_) rfl rfl (by kernel_rfl) (by kernel_rfl) (by kernel_rfl) (fun _ _ _ h => h) (by kernel_rfl) (prev_bel _ _) ?_ ?_
  rotate_left
  · intro uu (pu : Prev uu _)
    go_simp
    try (with_reducible rfl)
  try simp only [List.set]
  refine wpAnyH_ready (rs := [1]) (by kernel_rfl) (by simp) ?_
  refine AllReadyH.cons rfl (fun K hK => ?_) AllReadyH.nil
  go_simp
  (with_reducible refine (aT_right (by omega)).mono ?_)
  rintro e ux ⟨rfl, _⟩
  dsimp only
  refine hK.out _ _ (prev_bel _ _) (fun hHeld => ?_)
  clear hHeld hK K
  try dsimp only [Act.put, List.setIfInBounds_toArray, List.set_cons_zero, List.set_cons_succ]
  refine wpAnyH_on (i := 2) (d := 26) (v := ?_) rfl rfl (by kernel_rfl) (by kernel_rfl) (by kernel_rfl) (fun _ _ _ h => h) (by kernel_rfl) (prev_bel _ _) ?_ ?_
  rotate_left
  · intro uu (pu : Prev uu _)
    go_simp
    try (with_reducible rfl)
  try simp only [List.set]
  refine wpAnyH_on (i := 3) (d := 27) (v := ?_) rfl rfl (by kernel_rfl) (by kernel_rfl) (by kernel_rfl) (fun _ _ _ h => h) (by kernel_rfl) (prev_bel _ _) ?_ ?_
  rotate_left
  · intro uu (pu : Prev uu _)
    go_simp
    try (with_reducible rfl)
  try simp only [List.set]
  refine wpAnyH_on (i := 4) (d := 28) (v := ?_) rfl rfl (by kernel_rfl) (by kernel_rfl) (by kernel_rfl) (fun _ _ _ h => h) (by kernel_rfl) (prev_bel _ _) ?_ ?_
  rotate_left
  · intro uu (pu : Prev uu _)
    go_simp
    try (with_reducible rfl)
  try simp only [List.set]
  refine wpAnyH_on (i := 5) (d := 29) (v := ?_) rfl rfl (by kernel_rfl) (by kernel_rfl) (by kernel_rfl) (fun _ _ _ h => h) (by kernel_rfl) (prev_bel _ _) ?_ ?_
  rotate_left
  · intro uu (pu : Prev uu _)
    go_simp
    try (with_reducible rfl)
  try simp only [List.set]
  refine wpAnyH_on (i := 6) (d := 30) (v := ?_) rfl rfl (by kernel_rfl) (by kernel_rfl) (by kernel_rfl) (fun _ _ _ h => h) (by kernel_rfl) (prev_bel _ _) ?_ ?_
  rotate_left
  · intro uu (pu : Prev uu _)
    go_simp
    try (with_reducible rfl)
  try simp only [List.set]
  refine wpAnyH_on (i := 7) (d := 31) (v := ?_) rfl rfl (by kernel_rfl) (by kernel_rfl) (by kernel_rfl) (fun _ _ _ h => h) (by kernel_rfl) (prev_bel _ _) ?_ ?_
  rotate_left
  · intro uu (pu : Prev uu _)
    go_simp
    try (with_reducible rfl)
  try simp only [List.set]
  refine wpAnyH_on (i := 8) (d := 32) (v := ?_) rfl rfl (by kernel_rfl) (by kernel_rfl) (by kernel_rfl) (fun _ _ _ h => h) (by kernel_rfl) (prev_bel _ _) ?_ ?_
  rotate_left
  · intro uu (pu : Prev uu _)
    go_simp
    try (with_reducible rfl)
  try simp only [List.set]
  refine wpAnyH_on (i := 9) (d := 33) (v := ?_) rfl rfl (by kernel_rfl) (by kernel_rfl) (by kernel_rfl) (fun _ _ _ h => h) (by kernel_rfl) (prev_bel _ _) ?_ ?_
  rotate_left
  · intro uu (pu : Prev uu _)
    go_simp
    try (with_reducible rfl)
  try simp only [List.set]
  refine wpAnyH_ready (rs := [10]) (by kernel_rfl) (by simp) ?_
  refine AllReadyH.cons rfl (fun K hK => ?_) AllReadyH.nil
  go_simp
  (with_reducible refine (aS_equal (by omega) (by omega)).mono ?_)
  rintro e ux ⟨rfl, _⟩
  dsimp only
  refine hK.out _ _ (prev_bel _ _) (fun hHeld => ?_)
  clear hHeld hK K
  try dsimp only [Act.put, List.setIfInBounds_toArray, List.set_cons_zero, List.set_cons_succ]
  refine wpAnyH_on (i := 11) (d := 35) (v := ?_) rfl rfl (by kernel_rfl) (by kernel_rfl) (by kernel_rfl) (fun _ _ _ h => h) (by kernel_rfl) (prev_bel _ _) ?_ ?_
  rotate_left
  · intro uu (pu : Prev uu _)
    go_simp
    try (with_reducible rfl)
  try simp only [List.set]
  refine wpAnyH_on (i := 12) (d := 36) (v := ?_) rfl rfl (by kernel_rfl) (by kernel_rfl) (by kernel_rfl) (fun _ _ _ h => h) (by kernel_rfl) (prev_bel _ _) ?_ ?_
  rotate_left
  · intro uu (pu : Prev uu _)
    go_simp
    try (with_reducible rfl)
  try simp only [List.set]
  refine wpAnyH_done (by kernel_rfl) ?_ _
  go_wp2_with fail
  refine wp_loop_rounds 3 ?_
  rw [rounds_succ]
  go_wp2_with fail
  refine gen_boxK2 (fun v pv kG kE => ?_)
  refine (aT_copy (by omega) (by omega)).mono ?_
  rintro e w1 ⟨g, g', rfl, hg, hg', oS, oX, pw1⟩
  have kG1 : Bx w1 ux.heap.size 26 #[.slice none 0 0, .slice none 0 0, .slice none 0 0, .slice none 0 0] := inferInstance
  have hvx : ux.heap.size < v.heap.size := kG.blk.lt
  go_wp2_with fail
  obtain ⟨w5, hw5⟩ : ∃ w5, w5 = (w1.setCell ⟨ux.heap.size, 0, none⟩ (.slice (some ⟨g, 0, none⟩) zg.length zg.length)).setCell ⟨ux.heap.size, 1, none⟩ (.slice (some ⟨g', 0, none⟩) x0.length x0.length) := ⟨_, rfl⟩
  have kG5 : Bx w5 ux.heap.size 26 #[.slice (some ⟨g, 0, none⟩) zg.length zg.length, .slice (some ⟨g', 0, none⟩) x0.length x0.length, .slice none 0 0, .slice none 0 0] := ⟨hw5 ▸ kG1.blk.set4a _ _⟩
  have oS5 : Own w5 g 3 zg := hw5 ▸ oS.far2 (by omega) _ _
  have oX5 : Own w5 g' 38 x0 := hw5 ▸ oX.far2 (by omega) _ _
  have p5 : Prev w5 ux := ⟨hw5 ▸ bset2 (bel ux w1) (Nat.le_refl _) _ _⟩
  rw [← hw5]
  clear hw5 oS oX kG1
  rw [rounds_succ]
  go_wp2_with fail
  refine gen_boxK (fun v2 pv2 kE2 => ?_)
  refine (aT_copy (by omega) (by omega)).mono ?_
  rintro e w6 ⟨g2, g2', rfl, hg2, hg2', oS2, oX2, pw6⟩
  have kG6 : Bx w6 ux.heap.size 26 #[.slice (some ⟨g, 0, none⟩) zg.length zg.length, .slice (some ⟨g', 0, none⟩) x0.length x0.length, .slice none 0 0, .slice none 0 0] := inferInstance
  have hv2 : w5.heap.size ≤ v2.heap.size := later_size
  have hl5 := oS5.lt
  have hl5' := oX5.lt
  have hG5 := kG5.blk.lt
  have oS6 := oS5.at (w' := w6)
  have oX6 := oX5.at (w' := w6)
  go_wp2_with fail
  obtain ⟨w7, hw7⟩ : ∃ w7, w7 = (w6.setCell ⟨ux.heap.size, 2, none⟩ (.slice (some ⟨g2, 0, none⟩) zg.length zg.length)).setCell ⟨ux.heap.size, 3, none⟩ (.slice (some ⟨g2', 0, none⟩) x1.length x1.length) := ⟨_, rfl⟩
  have kG7 : Bx w7 ux.heap.size 26 #[.slice (some ⟨g, 0, none⟩) zg.length zg.length, .slice (some ⟨g', 0, none⟩) x0.length x0.length, .slice (some ⟨g2, 0, none⟩) zg.length zg.length, .slice (some ⟨g2', 0, none⟩) x1.length x1.length] := ⟨hw7 ▸ kG6.blk.set4b _ _⟩
  have oS7 : Own w7 g 3 zg := hw7 ▸ oS6.farB (by omega) _ _
  have oX7 : Own w7 g' 38 x0 := hw7 ▸ oX6.farB (by omega) _ _
  have oT7 : Own w7 g2 3 zg := hw7 ▸ oS2.farB (by omega) _ _
  have oY7 : Own w7 g2' 38 x1 := hw7 ▸ oX2.farB (by omega) _ _
  have p7 : Prev w7 ux := ⟨hw7 ▸ bset2b (bel ux w6) (Nat.le_refl _) _ _⟩
  have m1 : ux.heap.size ≠ g' := by omega
  have m2 : ux.heap.size ≠ g2' := by omega
  have m3 : g' ≠ g2' := by omega
  have m4 : ux.heap.size ≤ g' := by omega
  have m5 : ux.heap.size ≤ g2' := by omega
  rw [← hw7]
  clear hw7 oS6 oX6 oS2 oX2 oS5 oX5 kG6 kG5 pw6 pv2 kE2 pw1 pv kG kE hv2 hl5 hl5' hG5 hg hg' hg2 hg2' p5
  rw [rounds_succ]
  go_wp2_with fail
  clear hmk hr hs
  have FP := @frozen_prev
  go_loopw [58] (fun i wr => ∃ k : Nat, k ≤ x0.length ∧ i = .int .i64 k ∧ Own wr g' 38 (upTo (bkX kind kk ts xg) x0 k) ∧ Own wr g2' 38 (upTo (bkY kind ts xg) x1 k) ∧ Own wr g 3 zg ∧ Own wr g2 3 zg ∧ Bx wr ux.heap.size 26 #[.slice (some ⟨g, 0, none⟩) zg.length zg.length, .slice (some ⟨g', 0, none⟩) x0.length x0.length, .slice (some ⟨g2, 0, none⟩) zg.length zg.length, .slice (some ⟨g2', 0, none⟩) x1.length x1.length] ∧ Prev wr ux) (fun i _ => x0.length - (intOf i).toNat)
  case atStart => exact ⟨0, Nat.zero_le _, rfl, by simpa [upTo, bkX] using oX7, by simpa [upTo, bkY] using oY7, oS7, oT7, kG7, p7⟩
  case round =>
    clear oX7 oY7 oS7 oT7 kG7 p7
    obtain ⟨k, hk, rfl, hO, hY', hS, hT, hB, hp⟩ := hrel
    by_cases hlt : k < x0.length
    · obtain ⟨b2, o2, x, rfl, ob2, cx, hx⟩ := t0.get hlt
      obtain ⟨b3, o3, y, rfl, ob3, cy, hy⟩ := xG.get (k := k) (by rw [HGL.out]; exact hlt)
      obtain ⟨y1, hy1⟩ : ∃ y1, x1[k]? = some y1 := ⟨_, List.getElem?_eq_getElem (by rw [HXL.out]; exact hlt)⟩
      have hkg : k < xg.length := by rw [HGL.out]; exact hlt
      have hk1 : k < x1.length := by rw [HXL.out]; exact hlt
      have ix : I6 x := I6s.at hx.out
      have iy : I6 y := I6s.at hy.out
      have is := HI.out k
      have hcg := hO.cell (upTo_at (f := bkX kind kk ts xg) (bkX_length kind kk ts xg k) hx.out)
      have hfg := hO.frozen k
      have hcy := hY'.cell (upTo_at (f := bkY kind ts xg) (bkY_length kind ts xg k) hy1)
      have hfy := hY'.frozen k
      have og : Old g' wr := ⟨hO.lt⟩
      have og2 : Old g2' wr := ⟨hY'.lt⟩
      have HOS := Lib.hid (upTo_set (f := bkX kind kk ts xg) (z := slopeX kind kk x (sec ts k) y) (bkX_length kind kk ts xg k) (by rw [bkX_succ, HX0.out, getD_some hx.out, getD_some hy.out]) hx.out)
      have HYS := Lib.hid (upTo_set (f := bkY kind ts xg) (z := slopeY kind x y) (bkY_length kind ts xg k) (by rw [bkY_succ, HX0.out, getD_some hx.out, getD_some hy.out]) hy1)
      have HSk := Lib.hid (HS.out k hlt)
      have n1 : g ≠ g' := hS.ne_blk (cs := ints (upTo (bkX kind kk ts xg) x0 k)) hO (by decide)
      have n2 : g ≠ g2' := hS.ne_blk (cs := ints (upTo (bkY kind ts xg) x1 k)) hY' (by decide)
      have n3 : g2 ≠ g' := hT.ne_blk (cs := ints (upTo (bkX kind kk ts xg) x0 k)) hO (by decide)
      have n4 : g2 ≠ g2' := hT.ne_blk (cs := ints (upTo (bkY kind ts xg) x1 k)) hY' (by decide)
      have m1' : g' ≠ ux.heap.size := fun e => m1 e.symm
      have m3' : g2' ≠ g' := fun e => m3 e.symm
      clear hy1
      go_wp2_with fail
      refine wp_region_up0 (by kernel_rfl) (fun vx _ => ?_)
      refine wpAnyH_on (i := 0) (d := 64) (v := ?_) rfl rfl (by kernel_rfl) (by kernel_rfl) (by kernel_rfl) (fun _ _ _ h => h) (by kernel_rfl) (prev_bel _ _) ?_ ?_
      rotate_left
      · intro uu (pu : Prev uu _)
        go_simp
        try (with_reducible rfl)
      try simp only [List.set]
      refine wpAnyH_on (i := 1) (d := 65) (v := ?_) rfl rfl (by kernel_rfl) (by kernel_rfl) (by kernel_rfl) (fun _ _ _ h => h) (by kernel_rfl) (prev_bel _ _) ?_ ?_
      rotate_left
      · intro uu (pu : Prev uu _)
        go_simp
        try (with_reducible rfl)
      try simp only [List.set]
      refine wpAnyH_on (i := 2) (d := 66) (v := ?_) rfl rfl (by kernel_rfl) (by kernel_rfl) (by kernel_rfl) (fun _ _ _ h => h) (by kernel_rfl) (prev_bel _ _) ?_ ?_
      rotate_left
      · intro uu (pu : Prev uu _)
        go_simp
        try (with_reducible rfl)
      try simp only [List.set]
      refine wpAnyH_on (i := 3) (d := 67) (v := ?_) rfl rfl (by kernel_rfl) (by kernel_rfl) (by kernel_rfl) (fun _ _ _ h => h) (by kernel_rfl) (prev_bel _ _) ?_ ?_
      rotate_left
      · intro uu (pu : Prev uu _)
        go_simp
        try (with_reducible rfl)
      try simp only [List.set]
      refine wpAnyH_on (i := 4) (d := 68) (v := ?_) rfl rfl (by kernel_rfl) (by kernel_rfl) (by kernel_rfl) (fun _ _ _ h => h) (by kernel_rfl) (prev_bel _ _) ?_ ?_
      rotate_left
      · intro uu (pu : Prev uu _)
        go_simp
        try (with_reducible rfl)
      try simp only [List.set]
      refine wpAnyH_on (i := 6) (d := 70) (v := ?_) rfl rfl (by kernel_rfl) (by kernel_rfl) (by kernel_rfl) (fun _ _ _ h => h) (by kernel_rfl) (prev_bel _ _) ?_ ?_
      rotate_left
      · intro uu (pu : Prev uu _)
        go_simp
        try (with_reducible rfl)
      try simp only [List.set]
      refine wpAnyH_on (i := 7) (d := 71) (v := ?_) rfl rfl (by kernel_rfl) (by kernel_rfl) (by kernel_rfl) (fun _ _ _ h => h) (by kernel_rfl) (prev_bel _ _) ?_ ?_
      rotate_left
      · intro uu (pu : Prev uu _)
        go_simp
        try (with_reducible rfl)
      try simp only [List.set]
      refine wpAnyH_on (i := 8) (d := 72) (v := ?_) rfl rfl (by kernel_rfl) (by kernel_rfl) (by kernel_rfl) (fun _ _ _ h => h) (by kernel_rfl) (prev_bel _ _) ?_ ?_
      rotate_left
      · intro uu (pu : Prev uu _)
        go_simp
        try (with_reducible rfl)
      try simp only [List.set]
      refine wpAnyH_on (i := 9) (d := 73) (v := ?_) rfl rfl (by kernel_rfl) (by kernel_rfl) (by kernel_rfl) (fun _ _ _ h => h) (by kernel_rfl) (prev_bel _ _) ?_ ?_
      rotate_left
      · intro uu (pu : Prev uu _)
        go_simp
        try (with_reducible rfl)
      try simp only [List.set]
      refine wpAnyH_on (i := 10) (d := 74) (v := ?_) rfl rfl (by kernel_rfl) (by kernel_rfl) (by kernel_rfl) (fun _ _ _ h => h) (by kernel_rfl) (prev_bel _ _) ?_ ?_
      rotate_left
      · intro uu (pu : Prev uu _)
        go_simp
        try (with_reducible rfl)
      try simp only [List.set]
      refine wpAnyH_ready (rs := [5]) (by kernel_rfl) (by simp) ?_
      refine AllReadyH.cons rfl (fun K hK => ?_) AllReadyH.nil
      go_simp
      (with_reducible refine (pt_second (by omega) HSk).mono ?_)
      rintro e vx ⟨rfl, _⟩
      dsimp only
      refine hK.out _ _ (prev_bel _ _) (fun hHeld => ?_)
      clear hHeld hK K
      try dsimp only [Act.put, List.setIfInBounds_toArray, List.set_cons_zero, List.set_cons_succ]
      refine wpAnyH_ready (rs := [11]) (by kernel_rfl) (by simp) ?_
      refine AllReadyH.cons rfl (fun K hK => ?_) AllReadyH.nil
      go_simp
      (with_reducible refine (pt_slope).mono ?_)
      rintro e vx ⟨rfl, _⟩
      dsimp only
      refine hK.out _ _ (prev_bel _ _) (fun hHeld => ?_)
      clear hHeld hK K
      try dsimp only [Act.put, List.setIfInBounds_toArray, List.set_cons_zero, List.set_cons_succ]
      refine wpAnyH_on (i := 12) (d := 63) (v := ?_) rfl rfl (by kernel_rfl) (by kernel_rfl) (by kernel_rfl) (fun _ _ _ h => h) (by kernel_rfl) (prev_bel _ _) ?_ ?_
      rotate_left
      · intro uu (pu : Prev uu _)
        go_simp
        try (with_reducible rfl)
      try simp only [List.set]
      refine wpAnyH_on (i := 13) (d := 76) (v := ?_) rfl rfl (by kernel_rfl) (by kernel_rfl) (by kernel_rfl) (fun _ _ _ h => h) (by kernel_rfl) (prev_bel _ _) ?_ ?_
      rotate_left
      · intro uu (pu : Prev uu _)
        go_simp
        try (with_reducible rfl)
      try simp only [List.set]
      refine wpAnyH_on (i := 14) (d := 77) (v := ?_) rfl rfl (by kernel_rfl) (by kernel_rfl) (by kernel_rfl) (fun _ _ _ h => h) (by kernel_rfl) (prev_bel _ _) ?_ ?_
      rotate_left
      · intro uu (pu : Prev uu _)
        go_simp
        try (with_reducible rfl)
      try simp only [List.set]
      refine wpAnyH_on (i := 15) (d := 16) (v := ?_) rfl rfl (by kernel_rfl) (by kernel_rfl) (by kernel_rfl) (fun _ _ _ h => h) (by kernel_rfl) (prev_bel _ _) ?_ ?_
      rotate_left
      · intro uu (pu : Prev uu _)
        go_simp
        try (with_reducible rfl)
      try simp only [List.set]
      refine wpAnyH_on (i := 16) (d := 17) (v := ?_) rfl rfl (by kernel_rfl) (by kernel_rfl) (by kernel_rfl) (fun _ _ _ h => h) (by kernel_rfl) (prev_bel _ _) ?_ ?_
      rotate_left
      · intro uu (pu : Prev uu _)
        go_simp
        try (with_reducible rfl)
      try simp only [List.set]
      refine wpAnyH_done (by kernel_rfl) ?_ _
      go_wp2_with fail
      go_roundw
      case rel =>
        have a1 := (hO.at (w' := vx)).set_ k (slopeX kind kk x (sec ts k) y)
        have a2 := (hY'.at (w' := vx)).far (p := ⟨g', k, none⟩) m3' (.int .i64 (slopeX kind kk x (sec ts k) y))
        have a3 := a2.set_ k (slopeY kind x y)
        have a4 := a1.far (p := ⟨g2', k, none⟩) m3 (.int .i64 (slopeY kind x y))
        rw [HOS.out] at a4
        rw [HYS.out] at a3
        exact ⟨k + 1, by omega, by go_num, a4, a3, ((hS.at (w' := vx)).far (p := ⟨g', k, none⟩) n1 _).far (p := ⟨g2', k, none⟩) n2 _, ((hT.at (w' := vx)).far (p := ⟨g', k, none⟩) n3 _).far (p := ⟨g2', k, none⟩) n4 _, ⟨((Bx.blk (w := vx)).far (p := ⟨g', k, none⟩) m1 _).far (p := ⟨g2', k, none⟩) m2 _⟩, ⟨((bel ux vx).setCell (p := ⟨g', k, none⟩) m4 _).setCell (p := ⟨g2', k, none⟩) m5 _⟩⟩
      case measure => simp [intOf]; omega
    · rw [upTo_all hlt] at hO
      rw [upTo_all (by rw [HXL.out]; exact hlt)] at hY'
      obtain rfl : k = x0.length := by omega
      go_wp2_with fail
      go_ret2
      rw [hX.out, hY.out, hZ.out, HX0.out, HZ0.out]
      have hsz := (bel w ux).size
      exact ⟨ux.heap.size, g, g', g2, g2', rfl, by omega, by omega, m3, by rw [bkX_length, bkY_length, ← HXL.out]; rw [HXL.out] at hB ⊢; exact hB, hS, hO, hT, hY', prev_bel _ _⟩
end

end Go.Proofs.Ytingmabmglpmaaa
