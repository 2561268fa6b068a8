/- Plan. -/
import Derived.Test.YtphcffcecncngaaChainPart
namespace Go.Proofs.Ytphcffcecncngaa
open Go.RowKit

theorem made_bools (n : Nat) : madeCells #[Value.bool false] n = boolC (List.replicate n false) := by
  apply Array.ext'
  simp only [madeCells, Array.toList_map, Array.toList_range, boolC]
  apply List.ext_getElem
  · simp
  · intro i h1 h2
    simp
    rw [Nat.mod_one]; rfl
theorem make_boolN (n : Nat) (hn : n ≤ 1000000) (W : World) : (Instr.makeSlice 101 (.int .i64 (n : Int)) (.int .i64 (n : Int))).run Try.prog W = .ok (.slice (some ⟨W.heap.size, 0, none⟩) n n) (W.alloc (.cells (boolC (List.replicate n false)) 4)) := by
  rw [← made_bools]
  exact run_make_row' (P := Try.prog) 101 4 (.bool false) 1 Try.underlying101 (by kernel_rfl) rfl .i64 .i64 n (by omega) (by omega) W
section
variable {w w' w0 : World} {A B : Option Addr} {n m p q : Nat} {c : Ch} {cap : Int}
/-- What Plan returns, where there is a plan. -/
def RetPlan (w : World) (c : Ch) (cap : Int) (e : Ending) (w' : World) : Prop :=
  ∃ CA cc code D, e = .returned (.tuple #[.slice CA code.length cc, .int .i64 0]) ∧ Hid (c.Plan 0 c.n D code) ∧ Hid (min cap (c.enough 0 c.n) = D) ∧ Is w' CA code.length code ∧ code.length ≤ 100000 ∧ Prev w' w
set_option maxRecDepth 100000 in
set_option maxHeartbeats 8000000 in
theorem ch_plan_no (hnp : n ≤ p) [a : Sl w A n c.W] [b : Sl w B m c.K] (hE : Hid (c.leastE cap ≠ 0)) : Calls Try.prog 16 #[.agg #[.slice A n p, .slice B m q], .int .i64 cap] w (RetV w (.tuple #[.slice none 0 0, .int .i64 (c.leastE cap)])) := by
  have CB := @cell_bx
  have CP := @cell_prev
  have FR := @field_row
  by_cases h : c.checkE cap = 0
  rotate_left
  · have HT : Hid (c.leastE cap = c.checkE cap) := Lib.hid (by rw [Ch.leastE, if_neg h])
    have h1 : (c.checkE cap != 0) = true := by rw [bne_iff_ne]; exact h
    clear h
    go_enter Try.func16, Try.ntmps16
    go_wp2_with (first | (go_at_call 49; (try first | (with_reducible refine gen_boxK3 (fun u _ _ _ _ => ?_)) | (with_reducible refine gen_boxK2 (fun u _ _ _ => ?_)) | (with_reducible refine gen_boxK (fun u _ _ => ?_))); (with_reducible refine (ch_check).mono ?_); rintro e u ⟨rfl, _⟩))
    go_ret2
    exact ⟨by rw [HT.out]; rfl, prev_bel _ _⟩
  · obtain ⟨ok, hc0, hc4⟩ := Ch.check_ok h
    have hok := Lib.hid ok
    have hmn : m = c.n := b.len
    have hE0 := ok.enough_0 0 c.n
    obtain ⟨D, hD⟩ : ∃ D : Nat, min cap (c.enough 0 c.n) = (D : Int) := ⟨(min cap (c.enough 0 c.n)).toNat, by omega⟩
    have hcap := Lib.hid hD
    have hD4 : (D : Int) ≤ 4096 := by omega
    have hDrl : c.rl D 0 = D + 1 := by unfold Ch.rl Ch.kept; rw [if_pos rfl]; omega
    have hm1 : 0 < m := by rw [hmn]; exact ok.n1
    have hmr : m ≤ c.n := Nat.le_of_eq hmn
    have hV : c.V 0 m (D : Int) = c.V 0 c.n cap := by rw [hmn, ← hD]; exact ok.V_min ok.n1
    obtain ⟨x, hx⟩ : ∃ x, c.V 0 c.n cap = x := ⟨_, rfl⟩
    have hlt : ¬ x < 1152921504606846976 := fun hlt => hE.out (by rw [Ch.leastE, if_pos h, hx, if_pos hlt])
    have e1 : (ints (c.row D 0 m))[D]? = some (.int .i64 x) := by rw [ints_get, Ch.row_at (by rw [hDrl]; omega), hV, hx]; rfl
    have HT : Hid (c.leastE cap = 26) := Lib.hid (by rw [Ch.leastE, if_pos h, hx, if_neg hlt])
    obtain ⟨N, hN⟩ : ∃ N, c.rl D 0 = N := ⟨_, rfl⟩
    have hDN : D < N := by omega
    have HRL := Lib.hid hN
    clear hmn hE0 hD ok hDrl hV hx hc4 hc0 hN hE
    go_enter Try.func16, Try.ntmps16
    go_upto_region 4 with (first | (go_at_call 49; (try first | (with_reducible refine gen_boxK3 (fun u _ _ _ _ => ?_)) | (with_reducible refine gen_boxK2 (fun u _ _ _ => ?_)) | (with_reducible refine gen_boxK (fun u _ _ => ?_))); (with_reducible refine (ch_check).mono ?_); rintro e u ⟨rfl, _⟩))
    obtain ⟨u1, rfl⟩ : ∃ v : World, v = u := ⟨_, rfl⟩
    go_upto_region 6 with (first | (go_at_call 50; (try first | (with_reducible refine gen_boxK3 (fun u _ _ _ _ => ?_)) | (with_reducible refine gen_boxK2 (fun u _ _ _ => ?_)) | (with_reducible refine gen_boxK (fun u _ _ => ?_))); (with_reducible refine (ch_solver hok hnp hcap).mono ?_); rintro e u ⟨sb, mb, rfl, hsb, hmb, kS, HM, _⟩))
    have HVL := ch_values (w0 := u1) (sb := sb) (mb := mb) (cap := (D : Int)) hok (Int.natCast_nonneg D) hD4 hmb (A := A) (B := B) (n := n) (m := m) (p := p) (q := q) m 0 m (by omega) hm1 hmr
    refine gen_box1C (fun u2 _ _ => ?_)
    refine wp_region_upR u1 (fun w9 => Bx w9 sb 98 (solC A n p B m q (D : Int) mb) ∧ Bx w9 (World.heap u).size 100 #[.int .i64 0, .int .i64 m]) (by kernel_rfl) ⟨inferInstance, inferInstance⟩ (fun uz _ => ?_)
    refine wpAnyH_on (i := 0) (d := 24) (v := ?_) rfl rfl (by kernel_rfl) (by kernel_rfl) (by kernel_rfl) (fun _ _ _ h => h) (by kernel_rfl) ⟨prev_bel _ _, ⟨inferInstance, inferInstance⟩⟩ ?_ ?_
    rotate_left
    · rintro uu ⟨pu, r1, r2⟩
      go_simp
      try (with_reducible rfl)
    try simp only [List.set]
    refine wpAnyH_on (i := 1) (d := 25) (v := ?_) rfl rfl (by kernel_rfl) (by kernel_rfl) (by kernel_rfl) (fun _ _ _ h => h) (by kernel_rfl) ⟨prev_bel _ _, ⟨inferInstance, inferInstance⟩⟩ ?_ ?_
    rotate_left
    · rintro uu ⟨pu, r1, r2⟩
      go_simp
      try (with_reducible rfl)
    try simp only [List.set]
    refine wpAnyH_on (i := 4) (d := 28) (v := ?_) rfl rfl (by kernel_rfl) (by kernel_rfl) (by kernel_rfl) (fun _ _ _ h => h) (by kernel_rfl) ⟨prev_bel _ _, ⟨inferInstance, inferInstance⟩⟩ ?_ ?_
    rotate_left
    · rintro uu ⟨pu, r1, r2⟩
      go_simp
      try (with_reducible rfl)
    try simp only [List.set]
    refine wpAnyH_on (i := 5) (d := 29) (v := ?_) rfl rfl (by kernel_rfl) (by kernel_rfl) (by kernel_rfl) (fun _ _ _ h => h) (by kernel_rfl) ⟨prev_bel _ _, ⟨inferInstance, inferInstance⟩⟩ ?_ ?_
    rotate_left
    · rintro uu ⟨pu, r1, r2⟩
      go_simp
      try (with_reducible rfl)
    try simp only [List.set]
    refine wpAnyH_on (i := 6) (d := 30) (v := ?_) rfl rfl (by kernel_rfl) (by kernel_rfl) (by kernel_rfl) (fun _ _ _ h => h) (by kernel_rfl) ⟨prev_bel _ _, ⟨inferInstance, inferInstance⟩⟩ ?_ ?_
    rotate_left
    · rintro uu ⟨pu, r1, r2⟩
      go_simp
      try (with_reducible rfl)
    try simp only [List.set]
    refine wpAnyH_on (i := 7) (d := 31) (v := ?_) rfl rfl (by kernel_rfl) (by kernel_rfl) (by kernel_rfl) (fun _ _ _ h => h) (by kernel_rfl) ⟨prev_bel _ _, ⟨inferInstance, inferInstance⟩⟩ ?_ ?_
    rotate_left
    · rintro uu ⟨pu, r1, r2⟩
      go_simp
      try (with_reducible rfl)
    try simp only [List.set]
    refine wpAnyH_ready (rs := [2]) (by kernel_rfl) (by simp) ?_
    refine AllReadyH.cons rfl (fun K hK => ?_) AllReadyH.nil
    go_simp
    (with_reducible refine (HVL.at0 (prev_bel u1 uz) (bad := fun _ => False) (nk := fun _ _ => False) ((HM.out _).at (w' := uz)) (fun _ h => h.elim) (fun _ _ h => h.elim)).mono ?_)
    rintro e uz ⟨g, rfl, kR, nb, mR, nx, pR⟩
    dsimp only
    refine hK.out _ _ ⟨prev_bel u1 _, ⟨inferInstance, inferInstance⟩⟩ (fun hHeld => ?_)
    clear hHeld hK K
    try dsimp only [Act.put, List.setIfInBounds_toArray, List.set_cons_zero, List.set_cons_succ]
    rw [HRL.out]
    refine wpAnyH_on (i := 3) (d := 27) (v := ?_) rfl rfl (by kernel_rfl) (by kernel_rfl) (by kernel_rfl) (fun _ _ _ h => h) (by kernel_rfl) ⟨prev_bel _ _, ⟨inferInstance, inferInstance⟩⟩ ?_ ?_
    rotate_left
    · rintro uu ⟨pu, r1, r2⟩
      go_simp
      try (with_reducible rfl)
    try simp only [List.set]
    refine wpAnyH_on (i := 8) (d := 32) (v := ?_) rfl rfl (by kernel_rfl) (by kernel_rfl) (by kernel_rfl) (fun _ _ _ h => h) (by kernel_rfl) ⟨prev_bel _ _, ⟨inferInstance, inferInstance⟩⟩ ?_ ?_
    rotate_left
    · rintro uu ⟨pu, r1, r2⟩
      go_simp
      try (with_reducible rfl)
    try simp only [List.set]
    refine wpAnyH_ready (rs := [9]) (by kernel_rfl) (by simp) ?_
    refine AllReadyH.cons rfl (fun K hK => ?_) AllReadyH.nil
    go_simp
    refine hK.out _ _ ⟨prev_bel u1 _, ⟨inferInstance, inferInstance⟩⟩ (fun hHeld => ?_)
    clear hHeld hK K
    try dsimp only [Act.put, List.setIfInBounds_toArray, List.set_cons_zero, List.set_cons_succ]
    refine wpAnyH_on (i := 10) (d := 34) (v := ?_) rfl rfl (by kernel_rfl) (by kernel_rfl) (by kernel_rfl) (fun _ _ _ h => h) (by kernel_rfl) ⟨prev_bel _ _, ⟨inferInstance, inferInstance⟩⟩ ?_ ?_
    rotate_left
    · rintro uu ⟨pu, r1, r2⟩
      go_simp
      try (with_reducible rfl)
    try simp only [List.set]
    refine wpAnyH_done (by kernel_rfl) ?_ _
    go_wp2_with fail
    go_ret2
    exact ⟨by rw [HT.out]; rfl, prev_bel _ _⟩
theorem PartOk.at0 {sb mb wb gs : Nat} {bs : List Bool} {ps : List (Int × Int)} {r M : Nat} (h : PartOk w0 sb A n p B m q c cap mb wb gs 0 r) (h1 : Hid (WI w0 w sb A n p B m q c cap mb wb gs bs ps)) (h2 : (M : Int) ≤ cap - c.kept 0) (h3 : Hid (c.V 0 r M < 1152921504606846976)) (h4 : ps.length + 135 * (r - 0) ≤ 100000) (h5 : Hid (Marks n (if r = c.n then 0 else c.n) bs)) :
    Calls Try.prog 52 #[.pointer (some ⟨wb, 0, none⟩), .agg #[.int .i64 0, .int .i64 r], .int .i64 M] w (RetPart w0 w sb A n p B m q c cap mb wb gs ps 0 r M) := h.at h1 h2 h3 h4 h5
set_option maxRecDepth 100000 in
set_option maxHeartbeats 8000000 in
theorem ch_plan_yes (hnp : n ≤ p) [a : Sl w A n c.W] [b : Sl w B m c.K] (hE : Hid (c.leastE cap = 0)) : Calls Try.prog 16 #[.agg #[.slice A n p, .slice B m q], .int .i64 cap] w (RetPlan w c cap) := by
  have CB := @cell_bx
  have CP := @cell_prev
  have FR := @field_row
  have hEo := hE.out
  unfold Ch.leastE at hEo
  by_cases h : c.checkE cap = 0
  rotate_left
  · rw [if_neg h] at hEo; exact absurd hEo h
  rw [if_pos h] at hEo
  obtain ⟨ok, hc0, hc4⟩ := Ch.check_ok h
  have hok := Lib.hid ok
  have hmn : m = c.n := b.len
  have hnn : n = c.n + 1 := a.len.trans ok.len
  have hE0 := ok.enough_0 0 c.n
  obtain ⟨D, hD⟩ : ∃ D : Nat, min cap (c.enough 0 c.n) = (D : Int) := ⟨(min cap (c.enough 0 c.n)).toNat, by omega⟩
  have hcap := Lib.hid hD
  have hD4 : (D : Int) ≤ 4096 := by omega
  have hDrl : c.rl D 0 = D + 1 := by unfold Ch.rl Ch.kept; rw [if_pos rfl]; omega
  have hm1 : 0 < m := by rw [hmn]; exact ok.n1
  have hmr : m ≤ c.n := Nat.le_of_eq hmn
  have h64 := ok.n2
  have hm64 : m ≤ 64 := by omega
  have hV : c.V 0 m (D : Int) = c.V 0 c.n cap := by rw [hmn, ← hD]; exact ok.V_min ok.n1
  obtain ⟨x, hx⟩ : ∃ x, c.V 0 c.n cap = x := ⟨_, rfl⟩
  have hlt : x < 1152921504606846976 := by
    rw [← hx]
    split at hEo
    · assumption
    · omega
  have e1 : (ints (c.row D 0 m))[D]? = some (.int .i64 x) := by rw [ints_get, Ch.row_at (by rw [hDrl]; omega), hV, hx]; rfl
  obtain ⟨N, hN⟩ : ∃ N, c.rl D 0 = N := ⟨_, rfl⟩
  have hDN : D < N := by omega
  have HRL := Lib.hid hN
  have hV3 : Hid (c.V 0 m (D : Int) < 1152921504606846976) := Lib.hid (by rw [hV, hx]; exact hlt)
  have hn1 : (n : Int) = (m : Int) + 1 := by omega
  have HMB := make_boolN n (by omega)
  rw [hn1] at HMB
  have hMk : Hid (Marks n (if m = c.n then 0 else c.n) (List.replicate n false)) := Lib.hid (by
    rw [if_pos hmn]
    exact ⟨by simp, fun i h1 h2 => by rw [List.getElem?_replicate, if_pos h2, decide_eq_false (by omega)]⟩)
  have hMD : (D : Int) ≤ (D : Int) - c.kept 0 := by unfold Ch.kept; rw [if_pos rfl]; omega
  have HMN := Lib.hid hmn
  clear hmn hnn hn1 hE0 hD ok hDrl hV hx hc4 hc0 hN hE hEo h64
  go_enter Try.func16, Try.ntmps16
  go_upto_region 4 with (first | (go_at_call 49; (try first | (with_reducible refine gen_boxK3 (fun u _ _ _ _ => ?_)) | (with_reducible refine gen_boxK2 (fun u _ _ _ => ?_)) | (with_reducible refine gen_boxK (fun u _ _ => ?_))); (with_reducible refine (ch_check).mono ?_); rintro e u ⟨rfl, _⟩))
  obtain ⟨u1, rfl⟩ : ∃ v : World, v = u := ⟨_, rfl⟩
  go_upto_region 6 with (first | (go_at_call 50; (try first | (with_reducible refine gen_boxK3 (fun u _ _ _ _ => ?_)) | (with_reducible refine gen_boxK2 (fun u _ _ _ => ?_)) | (with_reducible refine gen_boxK (fun u _ _ => ?_))); (with_reducible refine (ch_solver hok hnp hcap).mono ?_); rintro e u ⟨sb, mb, rfl, hsb, hmb, kS, HM, _⟩))
  have HVL := ch_values (w0 := u1) (sb := sb) (mb := mb) (cap := (D : Int)) hok (Int.natCast_nonneg D) hD4 hmb (A := A) (B := B) (n := n) (m := m) (p := p) (q := q) m 0 m (by omega) hm1 hmr
  refine gen_box1C (fun u2 _ _ => ?_)
  refine wp_region_upR u1 (fun w9 => Bx w9 sb 98 (solC A n p B m q (D : Int) mb) ∧ Bx w9 (World.heap u).size 100 #[.int .i64 0, .int .i64 m]) (by kernel_rfl) ⟨inferInstance, inferInstance⟩ (fun uz _ => ?_)
  refine wpAnyH_on (i := 0) (d := 24) (v := ?_) rfl rfl (by kernel_rfl) (by kernel_rfl) (by kernel_rfl) (fun _ _ _ h => h) (by kernel_rfl) ⟨prev_bel _ _, ⟨inferInstance, inferInstance⟩⟩ ?_ ?_
  rotate_left
  · rintro uu ⟨pu, r1, r2⟩
    go_simp
    try (with_reducible rfl)
  try simp only [List.set]
  refine wpAnyH_on (i := 1) (d := 25) (v := ?_) rfl rfl (by kernel_rfl) (by kernel_rfl) (by kernel_rfl) (fun _ _ _ h => h) (by kernel_rfl) ⟨prev_bel _ _, ⟨inferInstance, inferInstance⟩⟩ ?_ ?_
  rotate_left
  · rintro uu ⟨pu, r1, r2⟩
    go_simp
    try (with_reducible rfl)
  try simp only [List.set]
  refine wpAnyH_on (i := 4) (d := 28) (v := ?_) rfl rfl (by kernel_rfl) (by kernel_rfl) (by kernel_rfl) (fun _ _ _ h => h) (by kernel_rfl) ⟨prev_bel _ _, ⟨inferInstance, inferInstance⟩⟩ ?_ ?_
  rotate_left
  · rintro uu ⟨pu, r1, r2⟩
    go_simp
    try (with_reducible rfl)
  try simp only [List.set]
  refine wpAnyH_on (i := 5) (d := 29) (v := ?_) rfl rfl (by kernel_rfl) (by kernel_rfl) (by kernel_rfl) (fun _ _ _ h => h) (by kernel_rfl) ⟨prev_bel _ _, ⟨inferInstance, inferInstance⟩⟩ ?_ ?_
  rotate_left
  · rintro uu ⟨pu, r1, r2⟩
    go_simp
    try (with_reducible rfl)
  try simp only [List.set]
  refine wpAnyH_on (i := 6) (d := 30) (v := ?_) rfl rfl (by kernel_rfl) (by kernel_rfl) (by kernel_rfl) (fun _ _ _ h => h) (by kernel_rfl) ⟨prev_bel _ _, ⟨inferInstance, inferInstance⟩⟩ ?_ ?_
  rotate_left
  · rintro uu ⟨pu, r1, r2⟩
    go_simp
    try (with_reducible rfl)
  try simp only [List.set]
  refine wpAnyH_on (i := 7) (d := 31) (v := ?_) rfl rfl (by kernel_rfl) (by kernel_rfl) (by kernel_rfl) (fun _ _ _ h => h) (by kernel_rfl) ⟨prev_bel _ _, ⟨inferInstance, inferInstance⟩⟩ ?_ ?_
  rotate_left
  · rintro uu ⟨pu, r1, r2⟩
    go_simp
    try (with_reducible rfl)
  try simp only [List.set]
  refine wpAnyH_ready (rs := [2]) (by kernel_rfl) (by simp) ?_
  refine AllReadyH.cons rfl (fun K hK => ?_) AllReadyH.nil
  go_simp
  (with_reducible refine (HVL.at0 (prev_bel u1 uz) (bad := fun _ => False) (nk := fun _ _ => False) ((HM.out _).at (w' := uz)) (fun _ h => h.elim) (fun _ _ h => h.elim)).mono ?_)
  rintro e uz ⟨g, rfl, kR, nb, mR, nx, pR⟩
  dsimp only
  refine hK.out _ _ ⟨prev_bel u1 _, ⟨inferInstance, inferInstance⟩⟩ (fun hHeld => ?_)
  clear hHeld hK K
  try dsimp only [Act.put, List.setIfInBounds_toArray, List.set_cons_zero, List.set_cons_succ]
  rw [HRL.out]
  refine wpAnyH_on (i := 3) (d := 27) (v := ?_) rfl rfl (by kernel_rfl) (by kernel_rfl) (by kernel_rfl) (fun _ _ _ h => h) (by kernel_rfl) ⟨prev_bel _ _, ⟨inferInstance, inferInstance⟩⟩ ?_ ?_
  rotate_left
  · rintro uu ⟨pu, r1, r2⟩
    go_simp
    try (with_reducible rfl)
  try simp only [List.set]
  refine wpAnyH_on (i := 8) (d := 32) (v := ?_) rfl rfl (by kernel_rfl) (by kernel_rfl) (by kernel_rfl) (fun _ _ _ h => h) (by kernel_rfl) ⟨prev_bel _ _, ⟨inferInstance, inferInstance⟩⟩ ?_ ?_
  rotate_left
  · rintro uu ⟨pu, r1, r2⟩
    go_simp
    try (with_reducible rfl)
  try simp only [List.set]
  refine wpAnyH_ready (rs := [9]) (by kernel_rfl) (by simp) ?_
  refine AllReadyH.cons rfl (fun K hK => ?_) AllReadyH.nil
  go_simp
  refine hK.out _ _ ⟨prev_bel u1 _, ⟨inferInstance, inferInstance⟩⟩ (fun hHeld => ?_)
  clear hHeld hK K
  try dsimp only [Act.put, List.setIfInBounds_toArray, List.set_cons_zero, List.set_cons_succ]
  refine wpAnyH_on (i := 10) (d := 34) (v := ?_) rfl rfl (by kernel_rfl) (by kernel_rfl) (by kernel_rfl) (fun _ _ _ h => h) (by kernel_rfl) ⟨prev_bel _ _, ⟨inferInstance, inferInstance⟩⟩ ?_ ?_
  rotate_left
  · rintro uu ⟨pu, r1, r2⟩
    go_simp
    try (with_reducible rfl)
  try simp only [List.set]
  refine wpAnyH_done (by kernel_rfl) ?_ _
  go_upto_region 9 with fail
  refine gen_box2C (fun u3 _ kB kW => ?_)
  have hz : u1.heap.size ≤ uz.heap.size := later_size
  have HI : Hid (WI u1 u3 sb A n p B m q c (D : Int) mb (uz.heap.size + 1) uz.heap.size (List.replicate n false) []) := Lib.hid ⟨prev_bel _ _, inferInstance, mR.out.at, ⟨none, 0, inferInstance, OwnI.nil _ _⟩, inferInstance, Nat.le_succ_of_le hz, hz, hmb⟩
  have k8 : Bx u3 u.heap.size 100 #[.int .i64 0, .int .i64 m] := inferInstance
  have s8 : Bx u3 sb 98 (solC A n p B m q (D : Int) mb) := inferInstance
  have HPT := ch_part (w0 := u1) (sb := sb) (mb := mb) (wb := uz.heap.size + 1) (gs := uz.heap.size) (cap := (D : Int)) hok (Int.natCast_nonneg D) hD4 (A := A) (B := B) (n := n) (m := m) (p := p) (q := q) m 0 m (by omega) hm1 hmr
  clear mR nx kR nb HVL e1
  refine wp_region_upR u1 (fun w9 => Bx w9 sb 98 (solC A n p B m q (D : Int) mb) ∧ Bx w9 u.heap.size 100 #[.int .i64 0, .int .i64 m]) (by kernel_rfl) ⟨inferInstance, inferInstance⟩ (fun uy _ => ?_)
  refine wpAnyH_on (i := 0) (d := 43) (v := ?_) rfl rfl (by kernel_rfl) (by kernel_rfl) (by kernel_rfl) (fun _ _ _ h => h) (by kernel_rfl) ⟨prev_bel _ _, ⟨inferInstance, inferInstance⟩⟩ ?_ ?_
  rotate_left
  · rintro uu ⟨pu, r1, r2⟩
    go_simp
    try (with_reducible rfl)
  try simp only [List.set]
  refine wpAnyH_on (i := 1) (d := 44) (v := ?_) rfl rfl (by kernel_rfl) (by kernel_rfl) (by kernel_rfl) (fun _ _ _ h => h) (by kernel_rfl) ⟨prev_bel _ _, ⟨inferInstance, inferInstance⟩⟩ ?_ ?_
  rotate_left
  · rintro uu ⟨pu, r1, r2⟩
    go_simp
    try (with_reducible rfl)
  try simp only [List.set]
  refine wpAnyH_on (i := 2) (d := 45) (v := ?_) rfl rfl (by kernel_rfl) (by kernel_rfl) (by kernel_rfl) (fun _ _ _ h => h) (by kernel_rfl) ⟨prev_bel _ _, ⟨inferInstance, inferInstance⟩⟩ ?_ ?_
  rotate_left
  · rintro uu ⟨pu, r1, r2⟩
    go_simp
    try (with_reducible rfl)
  try simp only [List.set]
  refine wpAnyH_on (i := 3) (d := 46) (v := ?_) rfl rfl (by kernel_rfl) (by kernel_rfl) (by kernel_rfl) (fun _ _ _ h => h) (by kernel_rfl) ⟨prev_bel _ _, ⟨inferInstance, inferInstance⟩⟩ ?_ ?_
  rotate_left
  · rintro uu ⟨pu, r1, r2⟩
    go_simp
    try (with_reducible rfl)
  try simp only [List.set]
  refine wpAnyH_on (i := 4) (d := 47) (v := ?_) rfl rfl (by kernel_rfl) (by kernel_rfl) (by kernel_rfl) (fun _ _ _ h => h) (by kernel_rfl) ⟨prev_bel _ _, ⟨inferInstance, inferInstance⟩⟩ ?_ ?_
  rotate_left
  · rintro uu ⟨pu, r1, r2⟩
    go_simp
    try (with_reducible rfl)
  try simp only [List.set]
  refine wpAnyH_ready (rs := [5]) (by kernel_rfl) (by simp) ?_
  refine AllReadyH.cons rfl (fun K hK => ?_) AllReadyH.nil
  go_simp
  (with_reducible refine (HPT.at0 (bs := List.replicate n false) (ps := []) (M := D) (Lib.hid (HI.out.at (w' := uy))) hMD hV3 (by simp; omega) hMk).mono ?_)
  rintro e u4 ⟨rfl, code, bs3, hp1, hI3, hK3, hm3, hl3⟩
  have p4 := hI3.out.pr
  have s4 := hI3.out.sol
  have k4 : Bx u4 u.heap.size 100 #[.int .i64 0, .int .i64 m] := hK3.out.bx (HI.out.at (w' := uy)) inferInstance (by decide) (by decide) (by decide)
  obtain ⟨CA, cc, kW4, oI4⟩ := hI3.out.wr
  dsimp only
  refine hK.out _ _ ⟨prev_bel u1 _, s4, k4⟩ (fun hHeld => ?_)
  clear hHeld hK K
  try dsimp only [Act.put, List.setIfInBounds_toArray, List.set_cons_zero, List.set_cons_succ]
  refine wpAnyH_done (by kernel_rfl) ?_ _
  skip
  rw [List.nil_append] at kW4 oI4
  go_wp2_with fail
  go_ret2
  exact ⟨CA, cc, code, D, rfl, Lib.hid (by rw [← HMN.out]; exact hp1.out), hcap, ⟨oI4.rd, rfl⟩, by omega, prev_bel _ _⟩
end

end Go.Proofs.Ytphcffcecncngaa
