/- point.Back: where it is refused, and of one in. -/
import Derived.Test.YtingmabmglpmaaaPoint3
import Derived.LoopN
namespace Go.Proofs.Ytingmabmglpmaaa
open Go.RowKit

/-- The first m cells of what goes back to the first in, and to the second. -/
def bkX (kind k : Int) (ts : List Tn) (gs : List Int) (m : Nat) : List Int := (List.range m).map fun i => slopeX kind k ((xs0 ts).getD i 0) (sec ts i) (gs.getD i 0)
def bkY (kind : Int) (ts : List Tn) (gs : List Int) (m : Nat) : List Int := (List.range m).map fun i => slopeY kind ((xs0 ts).getD i 0) (gs.getD i 0)
theorem bkX_length (kind k : Int) (ts : List Tn) (gs : List Int) (m : Nat) : (bkX kind k ts gs m).length = m := by simp [bkX]
theorem bkX_succ (kind k : Int) (ts : List Tn) (gs : List Int) (m : Nat) : bkX kind k ts gs (m + 1) = bkX kind k ts gs m ++ [slopeX kind k ((xs0 ts).getD m 0) (sec ts m) (gs.getD m 0)] := by simp [bkX, List.range_succ]
theorem bkY_length (kind : Int) (ts : List Tn) (gs : List Int) (m : Nat) : (bkY kind ts gs m).length = m := by simp [bkY]
theorem bkY_succ (kind : Int) (ts : List Tn) (gs : List Int) (m : Nat) : bkY kind ts gs (m + 1) = bkY kind ts gs m ++ [slopeY kind ((xs0 ts).getD m 0) (gs.getD m 0)] := by simp [bkY, List.range_succ]
theorem getD_some {l : List Int} {k : Nat} {z : Int} (h : l[k]? = some z) : l.getD k 0 = z := by rw [List.getD_eq_getElem?_getD, h]; rfl

theorem make_tens (n : Nat) (hn : n ≤ 2) (W : World) : (Instr.makeSlice 27 (.int .i64 (n : Int)) (.int .i64 (n : Int))).run Try.prog W = .ok (.slice (some ⟨W.heap.size, 0, none⟩) n n) (W.alloc (.cells (madeCells #[.slice none 0 0, .slice none 0 0] (n * 2)) 26)) := by
  have hinfo : (Try.prog.info? 26).map (fun i => (i.zero, i.size, i.bytes)) = some (some (.agg #[.slice none 0 0, .slice none 0 0]), 2, 48) := by kernel_rfl
  obtain ⟨i, hi, hzz⟩ := Option.map_eq_some_iff.1 hinfo
  simp only [Prod.mk.injEq] at hzz
  obtain ⟨hz, hs, hb⟩ := hzz
  have := run_makeSlice (P := Try.prog) W 27 26 i _ Try.underlying27 hi hz .i64 .i64 n n (by omega) (Int.le_refl _) (by rw [hs]; simp; omega) (by rw [hb]; omega) (by omega)
  rw [hs] at this
  simpa [Value.cells] using this
theorem made1 : madeCells #[.slice none 0 0, .slice none 0 0] 2 = #[.slice none 0 0, .slice none 0 0] := by kernel_rfl
theorem made2 : madeCells #[.slice none 0 0, .slice none 0 0] 4 = #[.slice none 0 0, .slice none 0 0, .slice none 0 0, .slice none 0 0] := by kernel_rfl

/-- Nothing but an error. -/
def RetN (w : World) (E : Int) (e : Ending) (w' : World) : Prop := e = .returned (.tuple #[.slice none 0 0, .int .i64 E]) ∧ Prev w' w
/-- One tensor, two tensors in memory of their own. -/
def RetG1 (w : World) (z X : List Int) (e : Ending) (w' : World) : Prop :=
  ∃ G g g', e = .returned (.tuple #[.slice (some ⟨G, 0, none⟩) 1 1, .int .i64 0]) ∧ w.heap.size ≤ g' ∧ Bx w' G 26 #[.slice (some ⟨g, 0, none⟩) z.length z.length, .slice (some ⟨g', 0, none⟩) X.length X.length] ∧ Own w' g 3 z ∧ Own w' g' 38 X ∧ Prev w' w
def RetG2 (w : World) (z X z' Y : List Int) (e : Ending) (w' : World) : Prop :=
  ∃ G g1 g1' g2 g2', e = .returned (.tuple #[.slice (some ⟨G, 0, none⟩) 2 2, .int .i64 0]) ∧ w.heap.size ≤ g1' ∧ w.heap.size ≤ g2' ∧ g1' ≠ g2' ∧
    Bx w' G 26 #[.slice (some ⟨g1, 0, none⟩) z.length z.length, .slice (some ⟨g1', 0, none⟩) X.length X.length, .slice (some ⟨g2, 0, none⟩) z'.length z'.length, .slice (some ⟨g2', 0, none⟩) Y.length Y.length] ∧
    Own w' g1 3 z ∧ Own w' g1' 38 X ∧ Own w' g2 3 z' ∧ Own w' g2' 38 Y ∧ Prev w' w

section
variable {w : World} {A B C : Option Addr} {n c p q d e' : Nat} {ts : List Tn} {kind kk : Int} {zg xg : List Int}
set_option maxRecDepth 100000 in
set_option maxHeartbeats 2000000 in
theorem pt_back_no [a : Ts w A n ts] [Sl w B p zg] [Sl w C q xg] (_hp : p ≤ 1000000) (hz : Hid (∀ t ∈ ts, t.zs.length ≤ 1000000)) {E : Int} (hE : goodE kind ts = E) (h0 : (E != 0) = true) : Calls Try.prog 35 #[.int .i64 kind, .int .i64 kk, .agg #[.slice B p d, .slice C q e'], .slice A n c] w (RetN w E) := by
  have CB := @cell_bx
  go_enter Try.func35, Try.ntmps35
  go_wp2_with (first | (go_at_call 51; (try first | (with_reducible refine gen_boxK3 (fun u _ _ _ _ => ?_)) | (with_reducible refine gen_boxK2 (fun u _ _ _ => ?_)) | (with_reducible refine gen_boxK (fun u _ _ => ?_))); (with_reducible refine (pt_agree hz).mono ?_); rintro e u ⟨rfl, _⟩))
  go_ret2
  exact ⟨rfl, prev_bel _ _⟩
set_option maxRecDepth 100000 in
set_option maxHeartbeats 2000000 in
theorem pt_back_shape [a : Ts w A n ts] [Sl w B p zg] [Sl w C q xg] (hp : p ≤ 1000000) (hz : Hid (∀ t ∈ ts, t.zs.length ≤ 1000000)) (hE : goodE kind ts = 0) (h : (tRightB zg xg && decide (zg = zs0 ts)) = false) : Calls Try.prog 35 #[.int .i64 kind, .int .i64 kk, .agg #[.slice B p d, .slice C q e'], .slice A n c] w (RetN w 20) := by
  have CB := @cell_bx
  have CP := @cell_prev
  obtain ⟨hn1, hn2, -, hall⟩ := good_nat hE
  rw [← a.len] at hn1 hn2
  replace hn1 : 0 < n := hn1
  obtain ⟨b, o, A0, c0, z0, B0, d0, x0, rfl, ob, q0, q1, s0, t0, hd0, i0, ht0⟩ := a.get (k := 0) hn1
  simp only [Nat.zero_mul, Nat.add_zero] at q0 q1
  have hz0 : z0.length ≤ 1000000 := hz.out _ (List.mem_of_getElem? ht0.out)
  have HZ0 : zs0 ts = z0 := by simp [zs0, ht0.out]
  rw [HZ0] at h
  clear HZ0 hall
  rcases hr : tRightB zg xg with _ | _
  · clear h
    go_enter Try.func35, Try.ntmps35
    go_wp2_with (first | (go_at_call 51; (try first | (with_reducible refine gen_boxK3 (fun u _ _ _ _ => ?_)) | (with_reducible refine gen_boxK2 (fun u _ _ _ => ?_)) | (with_reducible refine gen_boxK (fun u _ _ => ?_))); (with_reducible refine (pt_agree hz).mono ?_); rintro e u ⟨rfl, _⟩))
    refine wp_region_up0 (by kernel_rfl) (fun ux _ => ?_)
    refine wpAnyH_on (i := 0) (d := 24) (v := ?_) rfl rfl (by kernel_rfl) (by kernel_rfl) (by kernel_rfl) (fun _ _ _ h => h) (by kernel_rfl) (prev_bel _ _) ?_ ?_
    rotate_left
    · intro uu (pu : Prev uu _)
      go_simp
      try (with_reducible rfl)
    try simp only [List.set]
    refine wpAnyH_ready (rs := [1]) (by kernel_rfl) (by simp) ?_
    refine AllReadyH.cons rfl (fun K hK => ?_) AllReadyH.nil
    go_simp
    (with_reducible refine (aT_right (by omega)).mono ?_)
    rintro e ux ⟨rfl, _⟩
    dsimp only
    refine hK.out _ _ (prev_bel _ _) (fun hHeld => ?_)
    clear hHeld hK K
    try dsimp only [Act.put, List.setIfInBounds_toArray, List.set_cons_zero, List.set_cons_succ]
    refine wpAnyH_on (i := 2) (d := 26) (v := ?_) rfl rfl (by kernel_rfl) (by kernel_rfl) (by kernel_rfl) (fun _ _ _ h => h) (by kernel_rfl) (prev_bel _ _) ?_ ?_
    rotate_left
    · intro uu (pu : Prev uu _)
      go_simp
      try (with_reducible rfl)
    try simp only [List.set]
    refine wpAnyH_on (i := 3) (d := 27) (v := ?_) rfl rfl (by kernel_rfl) (by kernel_rfl) (by kernel_rfl) (fun _ _ _ h => h) (by kernel_rfl) (prev_bel _ _) ?_ ?_
    rotate_left
    · intro uu (pu : Prev uu _)
      go_simp
      try (with_reducible rfl)
    try simp only [List.set]
    refine wpAnyH_off (i := 4) (d := 28) rfl rfl (by kernel_rfl) (by kernel_rfl) (by kernel_rfl) (fun _ _ _ h => h) (by kernel_rfl) (prev_bel _ _) ?_
    try simp only [List.set]
    refine wpAnyH_off (i := 5) (d := 29) rfl rfl (by kernel_rfl) (by kernel_rfl) (by kernel_rfl) (fun _ _ _ h => h) (by kernel_rfl) (prev_bel _ _) ?_
    try simp only [List.set]
    refine wpAnyH_off (i := 6) (d := 30) rfl rfl (by kernel_rfl) (by kernel_rfl) (by kernel_rfl) (fun _ _ _ h => h) (by kernel_rfl) (prev_bel _ _) ?_
    try simp only [List.set]
    refine wpAnyH_off (i := 7) (d := 31) rfl rfl (by kernel_rfl) (by kernel_rfl) (by kernel_rfl) (fun _ _ _ h => h) (by kernel_rfl) (prev_bel _ _) ?_
    try simp only [List.set]
    refine wpAnyH_off (i := 8) (d := 32) rfl rfl (by kernel_rfl) (by kernel_rfl) (by kernel_rfl) (fun _ _ _ h => h) (by kernel_rfl) (prev_bel _ _) ?_
    try simp only [List.set]
    refine wpAnyH_off (i := 9) (d := 33) rfl rfl (by kernel_rfl) (by kernel_rfl) (by kernel_rfl) (fun _ _ _ h => h) (by kernel_rfl) (prev_bel _ _) ?_
    try simp only [List.set]
    refine wpAnyH_off (i := 10) (d := 34) rfl rfl (by kernel_rfl) (by kernel_rfl) (by kernel_rfl) (fun _ _ _ h => h) (by kernel_rfl) (prev_bel _ _) ?_
    try simp only [List.set]
    refine wpAnyH_off (i := 11) (d := 35) rfl rfl (by kernel_rfl) (by kernel_rfl) (by kernel_rfl) (fun _ _ _ h => h) (by kernel_rfl) (prev_bel _ _) ?_
    try simp only [List.set]
    refine wpAnyH_on (i := 12) (d := 36) (v := ?_) rfl rfl (by kernel_rfl) (by kernel_rfl) (by kernel_rfl) (fun _ _ _ h => h) (by kernel_rfl) (prev_bel _ _) ?_ ?_
    rotate_left
    · intro uu (pu : Prev uu _)
      go_simp
      try (with_reducible rfl)
    try simp only [List.set]
    refine wpAnyH_done (by kernel_rfl) ?_ _
    go_wp2_with fail
    go_ret2
    exact ⟨rfl, prev_bel _ _⟩
  · have hs : decide (zg = z0) = false := by simpa [hr] using h
    clear h
    go_enter Try.func35, Try.ntmps35
    go_wp2_with (first | (go_at_call 51; (try first | (with_reducible refine gen_boxK3 (fun u _ _ _ _ => ?_)) | (with_reducible refine gen_boxK2 (fun u _ _ _ => ?_)) | (with_reducible refine gen_boxK (fun u _ _ => ?_))); (with_reducible refine (pt_agree hz).mono ?_); rintro e u ⟨rfl, _⟩))
    refine wp_region_up0 (by kernel_rfl) (fun ux _ => ?_)
    refine wpAnyH_on (i := 0) (d := 24) (v := ?_) rfl rfl (by kernel_rfl) (by kernel_rfl) (by kernel_rfl) (fun _ _ _ h => h) (by kernel_rfl) (prev_bel _ _) ?_ ?_
    rotate_left
    · intro uu (pu : Prev uu _)
      go_simp
      try (with_reducible rfl)
    try simp only [List.set]
    refine wpAnyH_ready (rs := [1]) (by kernel_rfl) (by simp) ?_
    refine AllReadyH.cons rfl (fun K hK => ?_) AllReadyH.nil
    go_simp
    (with_reducible refine (aT_right (by omega)).mono ?_)
    rintro e ux ⟨rfl, _⟩
    dsimp only
    refine hK.out _ _ (prev_bel _ _) (fun hHeld => ?_)
    clear hHeld hK K
    try dsimp only [Act.put, List.setIfInBounds_toArray, List.set_cons_zero, List.set_cons_succ]
    refine wpAnyH_on (i := 2) (d := 26) (v := ?_) rfl rfl (by kernel_rfl) (by kernel_rfl) (by kernel_rfl) (fun _ _ _ h => h) (by kernel_rfl) (prev_bel _ _) ?_ ?_
    rotate_left
    · intro uu (pu : Prev uu _)
      go_simp
      try (with_reducible rfl)
    try simp only [List.set]
    refine wpAnyH_on (i := 3) (d := 27) (v := ?_) rfl rfl (by kernel_rfl) (by kernel_rfl) (by kernel_rfl) (fun _ _ _ h => h) (by kernel_rfl) (prev_bel _ _) ?_ ?_
    rotate_left
    · intro uu (pu : Prev uu _)
      go_simp
      try (with_reducible rfl)
    try simp only [List.set]
    refine wpAnyH_on (i := 4) (d := 28) (v := ?_) rfl rfl (by kernel_rfl) (by kernel_rfl) (by kernel_rfl) (fun _ _ _ h => h) (by kernel_rfl) (prev_bel _ _) ?_ ?_
    rotate_left
    · intro uu (pu : Prev uu _)
      go_simp
      try (with_reducible rfl)
    try simp only [List.set]
    refine wpAnyH_on (i := 5) (d := 29) (v := ?_) rfl rfl (by kernel_rfl) (by kernel_rfl) (by kernel_rfl) (fun _ _ _ h => h) (by kernel_rfl) (prev_bel _ _) ?_ ?_
    rotate_left
    · intro uu (pu : Prev uu _)
      go_simp
      try (with_reducible rfl)
    try simp only [List.set]
    refine wpAnyH_on (i := 6) (d := 30) (v := ?_) rfl rfl (by kernel_rfl) (by kernel_rfl) (by kernel_rfl) (fun _ _ _ h => h) (by kernel_rfl) (prev_bel _ _) ?_ ?_
    rotate_left
    · intro uu (pu : Prev uu _)
      go_simp
      try (with_reducible rfl)
    try simp only [List.set]
    refine wpAnyH_on (i := 7) (d := 31) (v := ?_) rfl rfl (by kernel_rfl) (by kernel_rfl) (by kernel_rfl) (fun _ _ _ h => h) (by kernel_rfl) (prev_bel _ _) ?_ ?_
    rotate_left
    · intro uu (pu : Prev uu _)
      go_simp
      try (with_reducible rfl)
    try simp only [List.set]
    refine wpAnyH_on (i := 8) (d := 32) (v := ?_) rfl rfl (by kernel_rfl) (by kernel_rfl) (by kernel_rfl) (fun _ _ _ h => h) (by kernel_rfl) (prev_bel _ _) ?_ ?_
    rotate_left
    · intro uu (pu : Prev uu _)
      go_simp
      try (with_reducible rfl)
    try simp only [List.set]
    refine wpAnyH_on (i := 9) (d := 33) (v := ?_) rfl rfl (by kernel_rfl) (by kernel_rfl) (by kernel_rfl) (fun _ _ _ h => h) (by kernel_rfl) (prev_bel _ _) ?_ ?_
    rotate_left
    · intro uu (pu : Prev uu _)
      go_simp
      try (with_reducible rfl)
    try simp only [List.set]
    refine wpAnyH_ready (rs := [10]) (by kernel_rfl) (by simp) ?_
    refine AllReadyH.cons rfl (fun K hK => ?_) AllReadyH.nil
    go_simp
    (with_reducible refine (aS_equal (by omega) (by omega)).mono ?_)
    rintro e ux ⟨rfl, _⟩
    dsimp only
    refine hK.out _ _ (prev_bel _ _) (fun hHeld => ?_)
    clear hHeld hK K
    try dsimp only [Act.put, List.setIfInBounds_toArray, List.set_cons_zero, List.set_cons_succ]
    refine wpAnyH_on (i := 11) (d := 35) (v := ?_) rfl rfl (by kernel_rfl) (by kernel_rfl) (by kernel_rfl) (fun _ _ _ h => h) (by kernel_rfl) (prev_bel _ _) ?_ ?_
    rotate_left
    · intro uu (pu : Prev uu _)
      go_simp
      try (with_reducible rfl)
    try simp only [List.set]
    refine wpAnyH_on (i := 12) (d := 36) (v := ?_) rfl rfl (by kernel_rfl) (by kernel_rfl) (by kernel_rfl) (fun _ _ _ h => h) (by kernel_rfl) (prev_bel _ _) ?_ ?_
    rotate_left
    · intro uu (pu : Prev uu _)
      go_simp
      try (with_reducible rfl)
    try simp only [List.set]
    refine wpAnyH_done (by kernel_rfl) ?_ _
    go_wp2_with fail
    go_ret2
    exact ⟨rfl, prev_bel _ _⟩

set_option maxRecDepth 100000 in
set_option maxHeartbeats 4000000 in
theorem pt_back_one [a : Ts w A 1 ts] [I6 kk] [sG : Sl w B p zg] [xG : Sl w C q xg] [iG : I6s xg] (hp : p ≤ 1000000) (hz : Hid (∀ t ∈ ts, t.zs.length ≤ 1000000)) (hE : goodE kind ts = 0) (hr : tRightB zg xg = true) (hs : zg = zs0 ts) {Z X : List Int} (hZ : Hid (Z = zs0 ts)) (hX : Hid (X = bkX kind kk ts xg (xs0 ts).length)) :
    Calls Try.prog 35 #[.int .i64 kind, .int .i64 kk, .agg #[.slice B p d, .slice C q e'], .slice A 1 c] w (RetG1 w Z X) := by
  have CB := @cell_bx
  have FB := @frozen_bx
  have CP := @cell_prev
  obtain ⟨-, -, -, hall⟩ := good_nat hE
  obtain ⟨b, o, A0, c0, z0, B0, d0, x0, rfl, ob, q0, q1, s0, t0, hd0, i0, ht0⟩ := a.get (k := 0) (by omega)
  simp only [Nat.zero_mul, Nat.add_zero] at q0 q1
  have hr0 := (hall _ (List.mem_of_getElem? ht0.out)).1
  obtain ⟨lx, lx1, lz⟩ := right_len hr0
  simp only at lx lx1 lz
  have HX0 : Hid (xs0 ts = x0) := Lib.hid (by simp [xs0, ht0.out])
  have HZ0 : Hid (zs0 ts = z0) := Lib.hid (by simp [zs0, ht0.out])
  have HS : Hid (∀ i, i < x0.length → ∀ t, ts[1]? = some t → i < t.xs.length) := Lib.hid fun i hi t ht => by
    rw [xs0_len hE (List.mem_of_getElem? ht), HX0.out]; exact hi
  have HI := Lib.hid fun i => sec_i6 a.rd i
  rw [HZ0.out] at hs
  subst hs
  have HGL : Hid (xg.length = x0.length) := Lib.hid (same_len hr hr0)
  obtain ⟨xG, rfl⟩ := xG
  have xG : Sl w C xg.length xg := ⟨xG, rfl⟩
  have hs : decide (zg = zg) = true := decide_eq_true rfl
  have hmk : ∀ W : World, (Instr.makeSlice 27 (.int .i64 1) (.int .i64 1)).run Try.prog W = .ok (.slice (some ⟨W.heap.size, 0, none⟩) 1 1) (W.alloc (.cells #[.slice none 0 0, .slice none 0 0] 26)) := fun W => by
    have := make_tens 1 (by omega) W
    rw [show 1 * 2 = 2 from rfl, made1] at this
    exact this
  clear hall hr0
  go_enter Try.func35, Try.ntmps35
  go_wp2_with (first | (go_at_call 51; (try first | (with_reducible refine gen_boxK3 (fun u _ _ _ _ => ?_)) | (with_reducible refine gen_boxK2 (fun u _ _ _ => ?_)) | (with_reducible refine gen_boxK (fun u _ _ => ?_))); (with_reducible refine (pt_agree hz).mono ?_); rintro e u ⟨rfl, _⟩))
  refine wp_region_up0 (by kernel_rfl) (fun ux _ => ?_)
  refine wpAnyH_on (i := 0) (d := 24) (v := ?_) rfl rfl (by kernel_rfl) (by kernel_rfl) (by kernel_rfl) (fun _ _ _ h => h) (by kernel_rfl) (prev_bel _ _) ?_ ?_
  rotate_left
  · intro uu (pu : Prev uu _)
    go_simp
    try (with_reducible rfl)
  try simp only [List.set]
  refine wpAnyH_ready (rs := [1]) (by kernel_rfl) (by simp) ?_
  refine AllReadyH.cons rfl (fun K hK => ?_) AllReadyH.nil
  go_simp
  (with_reducible refine (aT_right (by omega)).mono ?_)
  rintro e ux ⟨rfl, _⟩
  dsimp only
  refine hK.out _ _ (prev_bel _ _) (fun hHeld => ?_)
  clear hHeld hK K
  try dsimp only [Act.put, List.setIfInBounds_toArray, List.set_cons_zero, List.set_cons_succ]
  refine wpAnyH_on (i := 2) (d := 26) (v := ?_) rfl rfl (by kernel_rfl) (by kernel_rfl) (by kernel_rfl) (fun _ _ _ h => h) (by kernel_rfl) (prev_bel _ _) ?_ ?_
  rotate_left
  · intro uu (pu : Prev uu _)
    go_simp
    try (with_reducible rfl)
  try simp only [List.set]
  refine wpAnyH_on (i := 3) (d := 27) (v := ?_) rfl rfl (by kernel_rfl) (by kernel_rfl) (by kernel_rfl) (fun _ _ _ h => h) (by kernel_rfl) (prev_bel _ _) ?_ ?_
  rotate_left
  · intro uu (pu : Prev uu _)
    go_simp
    try (with_reducible rfl)
  try simp only [List.set]
  refine wpAnyH_on (i := 4) (d := 28) (v := ?_) rfl rfl (by kernel_rfl) (by kernel_rfl) (by kernel_rfl) (fun _ _ _ h => h) (by kernel_rfl) (prev_bel _ _) ?_ ?_
  rotate_left
  · intro uu (pu : Prev uu _)
    go_simp
    try (with_reducible rfl)
  try simp only [List.set]
  refine wpAnyH_on (i := 5) (d := 29) (v := ?_) rfl rfl (by kernel_rfl) (by kernel_rfl) (by kernel_rfl) (fun _ _ _ h => h) (by kernel_rfl) (prev_bel _ _) ?_ ?_
  rotate_left
  · intro uu (pu : Prev uu _)
    go_simp
    try (with_reducible rfl)
  try simp only [List.set]
  refine wpAnyH_on (i := 6) (d := 30) (v := ?_) rfl rfl (by kernel_rfl) (by kernel_rfl) (by kernel_rfl) (fun _ _ _ h => h) (by kernel_rfl) (prev_bel _ _) ?_ ?_
  rotate_left
  · intro uu (pu : Prev uu _)
    go_simp
    try (with_reducible rfl)
  try simp only [List.set]
  refine wpAnyH_on (i := 7) (d := 31) (v := ?_) rfl rfl (by kernel_rfl) (by kernel_rfl) (by kernel_rfl) (fun _ _ _ h => h) (by kernel_rfl) (prev_bel _ _) ?_ ?_
  rotate_left
  · intro uu (pu : Prev uu _)
    go_simp
    try (with_reducible rfl)
  try simp only [List.set]
  refine wpAnyH_on (i := 8) (d := 32) (v := ?_) rfl rfl (by kernel_rfl) (by kernel_rfl) (by kernel_rfl) (fun _ _ _ h => h) (by kernel_rfl) (prev_bel _ _) ?_ ?_
  rotate_left
  · intro uu (pu : Prev uu _)
    go_simp
    try (with_reducible rfl)
  try simp only [List.set]
  refine wpAnyH_on (i := 9) (d := 33) (v := ?_) rfl rfl (by kernel_rfl) (by kernel_rfl) (by kernel_rfl) (fun _ _ _ h => h) (by kernel_rfl) (prev_bel _ _) ?_ ?_
  rotate_left
  · intro uu (pu : Prev uu _)
    go_simp
    try (with_reducible rfl)
  try simp only [List.set]
  refine wpAnyH_ready (rs := [10]) (by kernel_rfl) (by simp) ?_
  refine AllReadyH.cons rfl (fun K hK => ?_) AllReadyH.nil
  go_simp
  (with_reducible refine (aS_equal (by omega) (by omega)).mono ?_)
  rintro e ux ⟨rfl, _⟩
  dsimp only
  refine hK.out _ _ (prev_bel _ _) (fun hHeld => ?_)
  clear hHeld hK K
  try dsimp only [Act.put, List.setIfInBounds_toArray, List.set_cons_zero, List.set_cons_succ]
  refine wpAnyH_on (i := 11) (d := 35) (v := ?_) rfl rfl (by kernel_rfl) (by kernel_rfl) (by kernel_rfl) (fun _ _ _ h => h) (by kernel_rfl) (prev_bel _ _) ?_ ?_
  rotate_left
  · intro uu (pu : Prev uu _)
    go_simp
    try (with_reducible rfl)
  try simp only [List.set]
  refine wpAnyH_on (i := 12) (d := 36) (v := ?_) rfl rfl (by kernel_rfl) (by kernel_rfl) (by kernel_rfl) (fun _ _ _ h => h) (by kernel_rfl) (prev_bel _ _) ?_ ?_
  rotate_left
  · intro uu (pu : Prev uu _)
    go_simp
    try (with_reducible rfl)
  try simp only [List.set]
  refine wpAnyH_done (by kernel_rfl) ?_ _
  go_wp2_with fail
  refine wp_loop_rounds 2 ?_
  rw [rounds_succ]
  go_wp2_with fail
  refine gen_boxK2 (fun v pv kG kE => ?_)
  refine (aT_copy (by omega) (by omega)).mono ?_
  rintro e w1 ⟨g, g', rfl, hg, hg', oS, oX, pw1⟩
  have kG1 : Bx w1 ux.heap.size 26 #[.slice none 0 0, .slice none 0 0] := inferInstance
  have hvx : ux.heap.size < v.heap.size := kG.blk.lt
  go_wp2_with fail
  obtain ⟨w5, hw5⟩ : ∃ w5, w5 = (w1.setCell ⟨ux.heap.size, 0, none⟩ (.slice (some ⟨g, 0, none⟩) zg.length zg.length)).setCell ⟨ux.heap.size, 1, none⟩ (.slice (some ⟨g', 0, none⟩) x0.length x0.length) := ⟨_, rfl⟩
  have kG5 : Bx w5 ux.heap.size 26 #[.slice (some ⟨g, 0, none⟩) zg.length zg.length, .slice (some ⟨g', 0, none⟩) x0.length x0.length] := ⟨hw5 ▸ kG1.blk.set2 _ _⟩
  have oS5 : Own w5 g 3 zg := hw5 ▸ oS.far2 (by omega) _ _
  have oX5 : Own w5 g' 38 x0 := hw5 ▸ oX.far2 (by omega) _ _
  have p5 : Prev w5 ux := ⟨hw5 ▸ bset2 (bel ux w1) (Nat.le_refl _) _ _⟩
  rw [← hw5]
  clear hw5 oS oX kG1
  rw [rounds_succ]
  go_wp2_with fail
  clear hmk hr hs
  have FP := @frozen_prev
  go_loopw [58] (fun i wr => ∃ k : Nat, k ≤ x0.length ∧ i = .int .i64 k ∧ Own wr g' 38 (upTo (bkX kind kk ts xg) x0 k) ∧ Own wr g 3 zg ∧ Bx wr ux.heap.size 26 #[.slice (some ⟨g, 0, none⟩) zg.length zg.length, .slice (some ⟨g', 0, none⟩) x0.length x0.length] ∧ Prev wr ux) (fun i _ => x0.length - (intOf i).toNat)
  case atStart => exact ⟨0, Nat.zero_le _, rfl, by simpa [upTo, bkX] using oX5, oS5, kG5, p5⟩
  case round =>
    clear oS5 oX5 kG5 p5
    obtain ⟨k, hk, rfl, hO, hS, hB, hp⟩ := hrel
    by_cases hlt : k < x0.length
    · obtain ⟨b2, o2, x, rfl, ob2, cx, hx⟩ := t0.get hlt
      obtain ⟨b3, o3, y, rfl, ob3, cy, hy⟩ := xG.get (k := k) (by rw [HGL.out]; exact hlt)
      have hkg : k < xg.length := by rw [HGL.out]; exact hlt
      have ix : I6 x := I6s.at hx.out
      have iy : I6 y := I6s.at hy.out
      have is := HI.out k
      have hat := upTo_at (f := bkX kind kk ts xg) (bkX_length kind kk ts xg k) hx.out
      have hcg := hO.cell hat
      have hfg := hO.frozen k
      have og : Old g' wr := ⟨hO.lt⟩
      have HOS := Lib.hid (upTo_set (f := bkX kind kk ts xg) (z := slopeX kind kk x (sec ts k) y) (bkX_length kind kk ts xg k) (by rw [bkX_succ, HX0.out, getD_some hx.out, getD_some hy.out]) hx.out)
      have HSk := Lib.hid (HS.out k hlt)
      have n1 : ux.heap.size ≠ g' := by omega
      have n2 : g ≠ g' := hS.ne_blk (cs := ints (upTo (bkX kind kk ts xg) x0 k)) hO (by decide)
      have n3 : ux.heap.size ≤ g' := by omega
      clear hat
      go_wp2_with fail
      refine wp_region_up0 (by kernel_rfl) (fun vx _ => ?_)
      refine wpAnyH_on (i := 0) (d := 64) (v := ?_) rfl rfl (by kernel_rfl) (by kernel_rfl) (by kernel_rfl) (fun _ _ _ h => h) (by kernel_rfl) (prev_bel _ _) ?_ ?_
      rotate_left
      · intro uu (pu : Prev uu _)
        go_simp
        try (with_reducible rfl)
      try simp only [List.set]
      refine wpAnyH_on (i := 1) (d := 65) (v := ?_) rfl rfl (by kernel_rfl) (by kernel_rfl) (by kernel_rfl) (fun _ _ _ h => h) (by kernel_rfl) (prev_bel _ _) ?_ ?_
      rotate_left
      · intro uu (pu : Prev uu _)
        go_simp
        try (with_reducible rfl)
      try simp only [List.set]
      refine wpAnyH_on (i := 2) (d := 66) (v := ?_) rfl rfl (by kernel_rfl) (by kernel_rfl) (by kernel_rfl) (fun _ _ _ h => h) (by kernel_rfl) (prev_bel _ _) ?_ ?_
      rotate_left
      · intro uu (pu : Prev uu _)
        go_simp
        try (with_reducible rfl)
      try simp only [List.set]
      refine wpAnyH_on (i := 3) (d := 67) (v := ?_) rfl rfl (by kernel_rfl) (by kernel_rfl) (by kernel_rfl) (fun _ _ _ h => h) (by kernel_rfl) (prev_bel _ _) ?_ ?_
      rotate_left
      · intro uu (pu : Prev uu _)
        go_simp
        try (with_reducible rfl)
      try simp only [List.set]
      refine wpAnyH_on (i := 4) (d := 68) (v := ?_) rfl rfl (by kernel_rfl) (by kernel_rfl) (by kernel_rfl) (fun _ _ _ h => h) (by kernel_rfl) (prev_bel _ _) ?_ ?_
      rotate_left
      · intro uu (pu : Prev uu _)
        go_simp
        try (with_reducible rfl)
      try simp only [List.set]
      refine wpAnyH_on (i := 6) (d := 70) (v := ?_) rfl rfl (by kernel_rfl) (by kernel_rfl) (by kernel_rfl) (fun _ _ _ h => h) (by kernel_rfl) (prev_bel _ _) ?_ ?_
      rotate_left
      · intro uu (pu : Prev uu _)
        go_simp
        try (with_reducible rfl)
      try simp only [List.set]
      refine wpAnyH_on (i := 7) (d := 71) (v := ?_) rfl rfl (by kernel_rfl) (by kernel_rfl) (by kernel_rfl) (fun _ _ _ h => h) (by kernel_rfl) (prev_bel _ _) ?_ ?_
      rotate_left
      · intro uu (pu : Prev uu _)
        go_simp
        try (with_reducible rfl)
      try simp only [List.set]
      refine wpAnyH_on (i := 8) (d := 72) (v := ?_) rfl rfl (by kernel_rfl) (by kernel_rfl) (by kernel_rfl) (fun _ _ _ h => h) (by kernel_rfl) (prev_bel _ _) ?_ ?_
      rotate_left
      · intro uu (pu : Prev uu _)
        go_simp
        try (with_reducible rfl)
      try simp only [List.set]
      refine wpAnyH_on (i := 9) (d := 73) (v := ?_) rfl rfl (by kernel_rfl) (by kernel_rfl) (by kernel_rfl) (fun _ _ _ h => h) (by kernel_rfl) (prev_bel _ _) ?_ ?_
      rotate_left
      · intro uu (pu : Prev uu _)
        go_simp
        try (with_reducible rfl)
      try simp only [List.set]
      refine wpAnyH_on (i := 10) (d := 74) (v := ?_) rfl rfl (by kernel_rfl) (by kernel_rfl) (by kernel_rfl) (fun _ _ _ h => h) (by kernel_rfl) (prev_bel _ _) ?_ ?_
      rotate_left
      · intro uu (pu : Prev uu _)
        go_simp
        try (with_reducible rfl)
      try simp only [List.set]
      refine wpAnyH_ready (rs := [5]) (by kernel_rfl) (by simp) ?_
      refine AllReadyH.cons rfl (fun K hK => ?_) AllReadyH.nil
      go_simp
      (with_reducible refine (pt_second (by omega) HSk).mono ?_)
      rintro e vx ⟨rfl, _⟩
      dsimp only
      refine hK.out _ _ (prev_bel _ _) (fun hHeld => ?_)
      clear hHeld hK K
      try dsimp only [Act.put, List.setIfInBounds_toArray, List.set_cons_zero, List.set_cons_succ]
      refine wpAnyH_ready (rs := [11]) (by kernel_rfl) (by simp) ?_
      refine AllReadyH.cons rfl (fun K hK => ?_) AllReadyH.nil
      go_simp
      (with_reducible refine (pt_slope).mono ?_)
      rintro e vx ⟨rfl, _⟩
      dsimp only
      refine hK.out _ _ (prev_bel _ _) (fun hHeld => ?_)
      clear hHeld hK K
      try dsimp only [Act.put, List.setIfInBounds_toArray, List.set_cons_zero, List.set_cons_succ]
      refine wpAnyH_on (i := 12) (d := 63) (v := ?_) rfl rfl (by kernel_rfl) (by kernel_rfl) (by kernel_rfl) (fun _ _ _ h => h) (by kernel_rfl) (prev_bel _ _) ?_ ?_
      rotate_left
      · intro uu (pu : Prev uu _)
        go_simp
        try (with_reducible rfl)
      try simp only [List.set]
      refine wpAnyH_on (i := 13) (d := 76) (v := ?_) rfl rfl (by kernel_rfl) (by kernel_rfl) (by kernel_rfl) (fun _ _ _ h => h) (by kernel_rfl) (prev_bel _ _) ?_ ?_
      rotate_left
      · intro uu (pu : Prev uu _)
        go_simp
        try (with_reducible rfl)
      try simp only [List.set]
      refine wpAnyH_on (i := 14) (d := 77) (v := ?_) rfl rfl (by kernel_rfl) (by kernel_rfl) (by kernel_rfl) (fun _ _ _ h => h) (by kernel_rfl) (prev_bel _ _) ?_ ?_
      rotate_left
      · intro uu (pu : Prev uu _)
        go_simp
        try (with_reducible rfl)
      try simp only [List.set]
      refine wpAnyH_on (i := 15) (d := 16) (v := ?_) rfl rfl (by kernel_rfl) (by kernel_rfl) (by kernel_rfl) (fun _ _ _ h => h) (by kernel_rfl) (prev_bel _ _) ?_ ?_
      rotate_left
      · intro uu (pu : Prev uu _)
        go_simp
        try (with_reducible rfl)
      try simp only [List.set]
      refine wpAnyH_on (i := 16) (d := 17) (v := ?_) rfl rfl (by kernel_rfl) (by kernel_rfl) (by kernel_rfl) (fun _ _ _ h => h) (by kernel_rfl) (prev_bel _ _) ?_ ?_
      rotate_left
      · intro uu (pu : Prev uu _)
        go_simp
        try (with_reducible rfl)
      try simp only [List.set]
      refine wpAnyH_done (by kernel_rfl) ?_ _
      go_wp2_with fail
      go_roundw
      case rel =>
        have o2 := (hO.at (w' := vx)).set_ k (slopeX kind kk x (sec ts k) y)
        rw [HOS.out] at o2
        exact ⟨k + 1, by omega, by go_num, o2, (hS.at (w' := vx)).far n2 _, ⟨(Bx.blk (w := vx)).far n1 _⟩, ⟨(bel ux vx).setCell (p := ⟨g', k, none⟩) n3 _⟩⟩
      case measure => simp [intOf]; omega
    · rw [upTo_all hlt] at hO
      obtain rfl : k = x0.length := by omega
      go_wp2_with fail
      go_ret2
      rw [hX.out, hZ.out, HX0.out, HZ0.out]
      exact ⟨ux.heap.size, g, g', rfl, by have := bel w ux; have := this.size; omega, by rw [bkX_length]; exact hB, hS, hO, prev_bel _ _⟩
end

end Go.Proofs.Ytingmabmglpmaaa
