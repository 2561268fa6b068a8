/- solver.values, by induction. (Under way.) -/
import Derived.Test.YtphcffcecncngaaChainOwn
namespace Go.Proofs.Ytphcffcecncngaa
open Go.RowKit

section
variable {w w' w0 : World} {A B : Option Addr} {n m p q sb mb : Nat} {c : Ch} {cap : Int} {bad : Nat → Prop} {nk : Nat → Nat → Prop}
set_option maxRecDepth 100000 in
set_option maxHeartbeats 8000000 in
/-- The part is in the memo already. -/
theorem ch_values_old {l r g : Nat} (hp : Prev w w0) [hbx : Bx w sb 98 (solC A n p B m q cap mb)] (hm : Hid (Mem w mb c cap bad nk))
    (hl : Hid (∀ w' : World, w'.heap[mb]? = w.heap[mb]? → (Instr.lookup 96 (.map (some mb)) (keyP (l : Int) (r : Int)) true).run Try.prog w' = .ok (.tuple #[.agg #[.slice (some ⟨g, 0, none⟩) (c.rl cap l) (c.rl cap l)], .bool true]) w')) (ho : Bx w g 3 (ints (c.row cap l r))) (hg : ¬ bad g) :
    Calls Try.prog 51 #[.pointer (some ⟨sb, 0, none⟩), .agg #[.int .i64 l, .int .i64 r]] w (RetRow w0 w mb c cap bad nk l r) := by
  have CB := @cell_bx
  have CP := @cell_prev
  have FB := @frozen_bx
  have hmb := hm.out.lt
  have HLK : ∀ {v : World} [Later w v], (Instr.lookup 96 (.map (some mb)) (keyP (l : Int) (r : Int)) true).run Try.prog v = .ok (.tuple #[.agg #[.slice (some ⟨g, 0, none⟩) (c.rl cap l) (c.rl cap l)], .bool true]) v := fun {v} [x : Later w v] => hl.out v (x.st.block _ hmb)
  go_enter Try.func51, Try.ntmps51
  go_upto_region 1 with fail
  refine gen_box2C (fun u1 _ _ _ => ?_)
  refine wp_region_up u1 (by kernel_rfl) (fun ux _ => ?_)
  refine wpAnyH_on (i := 0) (d := 15) (v := ?_) rfl rfl (by kernel_rfl) (by kernel_rfl) (by kernel_rfl) (fun _ _ _ h => h) (by kernel_rfl) (prev_bel _ _) ?_ ?_
  rotate_left
  · intro uu (pu : Prev uu _)
    go_simp
    try (with_reducible rfl)
  try simp only [List.set]
  refine wpAnyH_on (i := 1) (d := 16) (v := ?_) rfl rfl (by kernel_rfl) (by kernel_rfl) (by kernel_rfl) (fun _ _ _ h => h) (by kernel_rfl) (prev_bel _ _) ?_ ?_
  rotate_left
  · intro uu (pu : Prev uu _)
    go_simp
    try (with_reducible rfl)
  try simp only [List.set]
  refine wpAnyH_on (i := 2) (d := 17) (v := ?_) rfl rfl (by kernel_rfl) (by kernel_rfl) (by kernel_rfl) (fun _ _ _ h => h) (by kernel_rfl) (prev_bel _ _) ?_ ?_
  rotate_left
  · intro uu (pu : Prev uu _)
    go_simp
    try (with_reducible rfl)
  try simp only [List.set]
  refine wpAnyH_on (i := 3) (d := 18) (v := ?_) rfl rfl (by kernel_rfl) (by kernel_rfl) (by kernel_rfl) (fun _ _ _ h => h) (by kernel_rfl) (prev_bel _ _) ?_ ?_
  rotate_left
  · intro uu (pu : Prev uu _)
    go_simp
    try (with_reducible rfl)
  try simp only [List.set]
  refine wpAnyH_on (i := 4) (d := 19) (v := ?_) rfl rfl (by kernel_rfl) (by kernel_rfl) (by kernel_rfl) (fun _ _ _ h => h) (by kernel_rfl) (prev_bel _ _) ?_ ?_
  rotate_left
  · intro uu (pu : Prev uu _)
    go_simp
    try (with_reducible rfl)
  try simp only [List.set]
  refine wpAnyH_on (i := 5) (d := 20) (v := ?_) rfl rfl (by kernel_rfl) (by kernel_rfl) (by kernel_rfl) (fun _ _ _ h => h) (by kernel_rfl) (prev_bel _ _) ?_ ?_
  rotate_left
  · intro uu (pu : Prev uu _)
    go_simp
    try (with_reducible rfl)
  try simp only [List.set]
  refine wpAnyH_on (i := 6) (d := 14) (v := ?_) rfl rfl (by kernel_rfl) (by kernel_rfl) (by kernel_rfl) (fun _ _ _ h => h) (by kernel_rfl) (prev_bel _ _) ?_ ?_
  rotate_left
  · intro uu (pu : Prev uu _)
    go_simp
    try (with_reducible rfl)
  try simp only [List.set]
  refine wpAnyH_on (i := 7) (d := 21) (v := ?_) rfl rfl (by kernel_rfl) (by kernel_rfl) (by kernel_rfl) (fun _ _ _ h => h) (by kernel_rfl) (prev_bel _ _) ?_ ?_
  rotate_left
  · intro uu (pu : Prev uu _)
    go_simp
    try (with_reducible rfl)
  try simp only [List.set]
  refine wpAnyH_on (i := 8) (d := 22) (v := ?_) rfl rfl (by kernel_rfl) (by kernel_rfl) (by kernel_rfl) (fun _ _ _ h => h) (by kernel_rfl) (prev_bel _ _) ?_ ?_
  rotate_left
  · intro uu (pu : Prev uu _)
    go_simp
    try (with_reducible rfl)
  try simp only [List.set]
  refine wpAnyH_ready (rs := [9]) (by kernel_rfl) (by simp) ?_
  refine AllReadyH.cons rfl (fun K hK => ?_) AllReadyH.nil
  obtain ⟨ua, rfl⟩ : ∃ ua : World, ua = ux := ⟨_, rfl⟩
  go_simp
  refine hK.out _ _ (prev_bel u1 _) (fun hHeld => ?_)
  clear hHeld hK K
  try dsimp only [Act.put, List.setIfInBounds_toArray, List.set_cons_zero, List.set_cons_succ]
  refine gen_boxH (fun ux _ _ => ?_)
  refine wpAnyH_ready (rs := [10]) (by kernel_rfl) (by simp) ?_
  refine AllReadyH.cons rfl (fun K hK => ?_) AllReadyH.nil
  go_simp
  obtain ⟨u7, hu7⟩ : ∃ W : World, W = ux.setCell ⟨ua.heap.size, 0, none⟩ (.slice (some ⟨g, 0, none⟩) (c.rl cap l) (c.rl cap l)) := ⟨_, rfl⟩
  rw [← hu7]
  have Bu7 : Below (World.heap u1).size u1 u7 := by rw [hu7]; exact (bel u1 ux).setCell (p := ⟨ua.heap.size, 0, none⟩) (later_size) _
  have Su7 : ∀ b, b < ux.heap.size → b ≠ ua.heap.size → (World.heap u7)[b]? = ux.heap[b]? := fun b _ hb => by rw [hu7]; exact Below.heap_setCell _ ⟨ua.heap.size, 0, none⟩ _ b hb
  have Ku7 : Bx u7 (ua.heap.size) _ #[.slice (some ⟨g, 0, none⟩) (c.rl cap l) (c.rl cap l)] := ⟨by rw [hu7]; exact Blk.set_ (Bx.blk (w := ux) (g := ua.heap.size)) 0 _⟩
  have Zu7 : (World.heap u7).size = ux.heap.size := by rw [hu7]; simp
  have Pu7 : Prev u7 u1 := ⟨Bu7⟩
  refine hK.out _ _ ⟨Bu7⟩ (fun hHeld => ?_)
  clear hHeld hK K hu7
  try dsimp only [Act.put, List.setIfInBounds_toArray, List.set_cons_zero, List.set_cons_succ]
  refine wpAnyH_on (i := 11) (d := 6) (v := ?_) rfl rfl (by kernel_rfl) (by kernel_rfl) (by kernel_rfl) (fun _ _ _ h => h) (by kernel_rfl) (prev_bel _ _) ?_ ?_
  rotate_left
  · intro uu (pu : Prev uu _)
    go_simp
    try (with_reducible rfl)
  try simp only [List.set]
  refine wpAnyH_done (by kernel_rfl) ?_ _
  go_wp2_with fail
  have k4 : Blk (u7.setCell ⟨w.heap.size + 1, 0, none⟩ (.slice (some ⟨g, 0, none⟩) (c.rl cap l) (c.rl cap l))) (w.heap.size + 1) _ _ := Blk.set_ (Bx.blk (w := u7) (g := w.heap.size + 1)) 0 (.slice (some ⟨g, 0, none⟩) (c.rl cap l) (c.rl cap l))
  have r0 := k4.cell 0
  refine bodyPost_ret (v := .agg #[.slice (some ⟨g, 0, none⟩) (c.rl cap l) (c.rl cap l)]) (by simp [results, Try.results51, go_sem, r0]) rfl ?_
  have B9 : Below w.heap.size w (u7.setCell ⟨w.heap.size + 1, 0, none⟩ (.slice (some ⟨g, 0, none⟩) (c.rl cap l) (c.rl cap l))) := (bel w u7).setCell (p := ⟨w.heap.size + 1, 0, none⟩) (Nat.le_succ _) _
  obtain ⟨v, hv⟩ : ∃ v : World, v = u7.setCell ⟨w.heap.size + 1, 0, none⟩ (.slice (some ⟨g, 0, none⟩) (c.rl cap l) (c.rl cap l)) := ⟨_, rfl⟩
  rw [← hv] at B9 ⊢
  have : Prev v w := ⟨B9⟩
  exact ⟨g, rfl, inferInstance, hg, Lib.hid hm.out.at, Nx.of hm.out, prev_bel _ _⟩
theorem Ch.rowS_atM {l M : Nat} (h : M < c.rl cap l) : (c.rowS cap l M)[M]? = some 1152921504606846976 := by simp [Ch.rowS, h]
theorem SI.trans {W x u : World} {g0 : Nat} (h : SI w0 W x mb g0 c cap bad nk) (k : SI w0 x u mb g0 c cap bad nk) : SI w0 W u mb g0 c cap bad nk :=
  ⟨k.mem, fun b hb h1 h2 => (k.keep b (Nat.lt_of_lt_of_le hb h.size) h1 h2).trans (h.keep b hb h1 h2), Nat.le_trans h.size k.size⟩
theorem Mem.ne_blk {g : Nat} {T : TypeId} {cs : Array Value} (h : Mem w mb c cap bad nk) (b : Blk w g T cs) : g ≠ mb := fun e => by
  subst e
  obtain ⟨es, cl, h1, _⟩ := h
  unfold Blk at b
  rw [h1] at b
  cases b
/-- The world behind a box gets a name. -/
theorem gen_box1C {P : Program} {C : Code} {Q : Exit → Act → World → Prop} {a : Act} {X : World} {T : TypeId} {cs : Array Value} (h : ∀ u, Prev u X → Bx u X.heap.size T cs → C.wp P Q a u) : C.wp P Q a (X.alloc (.cells cs T)) :=
  h _ (prev_bel _ _) inferInstance
set_option maxRecDepth 100000 in
set_option maxHeartbeats 8000000 in
/-- The part is not in the memo: a part of one node. -/
theorem ch_values_new {l r : Nat} (hok : Hid c.Ok) (hc0 : 0 ≤ cap) (hc4 : cap ≤ 4096) (hmb0 : w0.heap.size ≤ mb) (ih : Hid (∀ l' r', l' < r' → r' - l' < r - l → r' ≤ c.n → ValOk w0 sb A n p B m q c cap mb l' r')) (hl : l < r) (hr : r ≤ c.n)
    [a : Sl w0 A n c.W] [b : Sl w0 B m c.K] [hp : Prev w w0] [hbx : Bx w sb 98 (solC A n p B m q cap mb)] (hm : Hid (Mem w mb c cap bad nk)) (hbad : Hid (∀ g, bad g → g < w.heap.size)) (hnk : Hid (∀ a b, nk a b → r - l < b - a))
    (hno : Hid (∀ w' : World, w'.heap[mb]? = w.heap[mb]? → (Instr.lookup 96 (.map (some mb)) (keyP (l : Int) (r : Int)) true).run Try.prog w' = .ok (.tuple #[.agg #[.slice none 0 0], .bool false]) w'))
    (hm2 : Hid (Mem w mb c cap bad (fun a b => nk a b ∨ a = l ∧ b = r))) :
    Calls Try.prog 51 #[.pointer (some ⟨sb, 0, none⟩), .agg #[.int .i64 l, .int .i64 r]] w (RetRow w0 w mb c cap bad nk l r) := by
  have CB := @cell_bx
  have CP := @cell_prev
  have FB := @frozen_bx
  have hmb := hm.out.lt
  have h64 := hok.out.n2
  have hmn : m = c.n := b.len
  have hnn : n = c.n + 1 := a.len.trans hok.out.len
  have HLK : ∀ {v : World} [Later w v], (Instr.lookup 96 (.map (some mb)) (keyP (l : Int) (r : Int)) true).run Try.prog v = .ok (.tuple #[.agg #[.slice none 0 0], .bool false]) v := fun {v} [x : Later w v] => hno.out v (x.st.block _ hmb)
  obtain ⟨N, hN⟩ : ∃ N, c.rl cap l = N := ⟨_, rfl⟩
  have hK0 := hok.out.kept_0 l
  have hK2 := hok.out.kept_2 l
  have hN' : N = (cap - c.kept l + 1).toNat := hN.symm
  have hN4 : N ≤ 4097 := by omega
  obtain ⟨K, hK⟩ : ∃ K, c.kept l = K := ⟨_, rfl⟩
  have w1 : IntKind.i64.wrap (cap - K) = cap - K := by rw [IntKind.wrap_i64]; omega
  have w2 : IntKind.i64.wrap (cap - K + 1) = cap - K + 1 := by rw [IntKind.wrap_i64]; omega
  have w3 : max (0 : Int) (cap - K + 1) = (N : Int) := by omega
  have HMK := make_intN N (by omega)
  have HKK := Lib.hid hK
  have hln : l < n := by omega
  have hrn : r < n := by omega
  have hrm : r ≤ m := by omega
  have hm64 : m ≤ 64 := by omega
  have HMN := Lib.hid hmn
  have HNN := Lib.hid hnn
  have HN := Lib.hid hN
  clear hK hN' hK0 hK2 hmn hnn h64 hN
  go_enter Try.func51, Try.ntmps51
  go_upto_region 1 with fail
  refine gen_box2C (fun u1 _ _ _ => ?_)
  refine wp_region_up u1 (by kernel_rfl) (fun ux _ => ?_)
  refine wpAnyH_on (i := 0) (d := 15) (v := ?_) rfl rfl (by kernel_rfl) (by kernel_rfl) (by kernel_rfl) (fun _ _ _ h => h) (by kernel_rfl) (prev_bel _ _) ?_ ?_
  rotate_left
  · intro uu (pu : Prev uu _)
    go_simp
    try (with_reducible rfl)
  try simp only [List.set]
  refine wpAnyH_on (i := 1) (d := 16) (v := ?_) rfl rfl (by kernel_rfl) (by kernel_rfl) (by kernel_rfl) (fun _ _ _ h => h) (by kernel_rfl) (prev_bel _ _) ?_ ?_
  rotate_left
  · intro uu (pu : Prev uu _)
    go_simp
    try (with_reducible rfl)
  try simp only [List.set]
  refine wpAnyH_on (i := 2) (d := 17) (v := ?_) rfl rfl (by kernel_rfl) (by kernel_rfl) (by kernel_rfl) (fun _ _ _ h => h) (by kernel_rfl) (prev_bel _ _) ?_ ?_
  rotate_left
  · intro uu (pu : Prev uu _)
    go_simp
    try (with_reducible rfl)
  try simp only [List.set]
  refine wpAnyH_on (i := 3) (d := 18) (v := ?_) rfl rfl (by kernel_rfl) (by kernel_rfl) (by kernel_rfl) (fun _ _ _ h => h) (by kernel_rfl) (prev_bel _ _) ?_ ?_
  rotate_left
  · intro uu (pu : Prev uu _)
    go_simp
    try (with_reducible rfl)
  try simp only [List.set]
  refine wpAnyH_on (i := 4) (d := 19) (v := ?_) rfl rfl (by kernel_rfl) (by kernel_rfl) (by kernel_rfl) (fun _ _ _ h => h) (by kernel_rfl) (prev_bel _ _) ?_ ?_
  rotate_left
  · intro uu (pu : Prev uu _)
    go_simp
    try (with_reducible rfl)
  try simp only [List.set]
  refine wpAnyH_on (i := 5) (d := 20) (v := ?_) rfl rfl (by kernel_rfl) (by kernel_rfl) (by kernel_rfl) (fun _ _ _ h => h) (by kernel_rfl) (prev_bel _ _) ?_ ?_
  rotate_left
  · intro uu (pu : Prev uu _)
    go_simp
    try (with_reducible rfl)
  try simp only [List.set]
  refine wpAnyH_on (i := 6) (d := 14) (v := ?_) rfl rfl (by kernel_rfl) (by kernel_rfl) (by kernel_rfl) (fun _ _ _ h => h) (by kernel_rfl) (prev_bel _ _) ?_ ?_
  rotate_left
  · intro uu (pu : Prev uu _)
    go_simp
    try (with_reducible rfl)
  try simp only [List.set]
  refine wpAnyH_on (i := 7) (d := 21) (v := ?_) rfl rfl (by kernel_rfl) (by kernel_rfl) (by kernel_rfl) (fun _ _ _ h => h) (by kernel_rfl) (prev_bel _ _) ?_ ?_
  rotate_left
  · intro uu (pu : Prev uu _)
    go_simp
    try (with_reducible rfl)
  try simp only [List.set]
  refine wpAnyH_on (i := 8) (d := 22) (v := ?_) rfl rfl (by kernel_rfl) (by kernel_rfl) (by kernel_rfl) (fun _ _ _ h => h) (by kernel_rfl) (prev_bel _ _) ?_ ?_
  rotate_left
  · intro uu (pu : Prev uu _)
    go_simp
    try (with_reducible rfl)
  try simp only [List.set]
  refine wpAnyH_ready (rs := [9]) (by kernel_rfl) (by simp) ?_
  refine AllReadyH.cons rfl (fun K hK => ?_) AllReadyH.nil
  obtain ⟨ua, rfl⟩ : ∃ ua : World, ua = ux := ⟨_, rfl⟩
  go_simp
  refine hK.out _ _ (prev_bel u1 _) (fun hHeld => ?_)
  clear hHeld hK K
  try dsimp only [Act.put, List.setIfInBounds_toArray, List.set_cons_zero, List.set_cons_succ]
  refine gen_boxH (fun ux _ _ => ?_)
  refine wpAnyH_ready (rs := [10]) (by kernel_rfl) (by simp) ?_
  refine AllReadyH.cons rfl (fun K hK => ?_) AllReadyH.nil
  go_simp
  obtain ⟨u7, hu7⟩ : ∃ W : World, W = ux.setCell ⟨ua.heap.size, 0, none⟩ (.slice none 0 0) := ⟨_, rfl⟩
  rw [← hu7]
  have Bu7 : Below (World.heap u1).size u1 u7 := by rw [hu7]; exact (bel u1 ux).setCell (p := ⟨ua.heap.size, 0, none⟩) (later_size) _
  have Su7 : ∀ b, b < ux.heap.size → b ≠ ua.heap.size → (World.heap u7)[b]? = ux.heap[b]? := fun b _ hb => by rw [hu7]; exact Below.heap_setCell _ ⟨ua.heap.size, 0, none⟩ _ b hb
  have Ku7 : Bx u7 (ua.heap.size) _ #[.slice none 0 0] := ⟨by rw [hu7]; exact Blk.set_ (Bx.blk (w := ux) (g := ua.heap.size)) 0 _⟩
  have Zu7 : (World.heap u7).size = ux.heap.size := by rw [hu7]; simp
  have Pu7 : Prev u7 u1 := ⟨Bu7⟩
  refine hK.out _ _ ⟨Bu7⟩ (fun hHeld => ?_)
  clear hHeld hK K hu7
  try dsimp only [Act.put, List.setIfInBounds_toArray, List.set_cons_zero, List.set_cons_succ]
  refine wpAnyH_on (i := 11) (d := 6) (v := ?_) rfl rfl (by kernel_rfl) (by kernel_rfl) (by kernel_rfl) (fun _ _ _ h => h) (by kernel_rfl) (prev_bel _ _) ?_ ?_
  rotate_left
  · intro uu (pu : Prev uu _)
    go_simp
    try (with_reducible rfl)
  try simp only [List.set]
  refine wpAnyH_done (by kernel_rfl) ?_ _
  go_upto_region 4 with fail
  refine wp_region_up0 (by kernel_rfl) (fun ub _ => ?_)
  refine wpAnyH_on (i := 0) (d := 25) (v := ?_) rfl rfl (by kernel_rfl) (by kernel_rfl) (by kernel_rfl) (fun _ _ _ h => h) (by kernel_rfl) (prev_bel _ _) ?_ ?_
  rotate_left
  · intro uu (pu : Prev uu _)
    go_simp
    try (with_reducible rfl)
  try simp only [List.set]
  refine wpAnyH_on (i := 1) (d := 26) (v := ?_) rfl rfl (by kernel_rfl) (by kernel_rfl) (by kernel_rfl) (fun _ _ _ h => h) (by kernel_rfl) (prev_bel _ _) ?_ ?_
  rotate_left
  · intro uu (pu : Prev uu _)
    go_simp
    try (with_reducible rfl)
  try simp only [List.set]
  refine wpAnyH_on (i := 2) (d := 27) (v := ?_) rfl rfl (by kernel_rfl) (by kernel_rfl) (by kernel_rfl) (fun _ _ _ h => h) (by kernel_rfl) (prev_bel _ _) ?_ ?_
  rotate_left
  · intro uu (pu : Prev uu _)
    go_simp
    try (with_reducible rfl)
  try simp only [List.set]
  refine wpAnyH_on (i := 3) (d := 28) (v := ?_) rfl rfl (by kernel_rfl) (by kernel_rfl) (by kernel_rfl) (fun _ _ _ h => h) (by kernel_rfl) (prev_bel _ _) ?_ ?_
  rotate_left
  · intro uu (pu : Prev uu _)
    go_simp
    try (with_reducible rfl)
  try simp only [List.set]
  refine wpAnyH_on (i := 4) (d := 29) (v := ?_) rfl rfl (by kernel_rfl) (by kernel_rfl) (by kernel_rfl) (fun _ _ _ h => h) (by kernel_rfl) (prev_bel _ _) ?_ ?_
  rotate_left
  · intro uu (pu : Prev uu _)
    go_simp
    try (with_reducible rfl)
  try simp only [List.set]
  refine wpAnyH_on (i := 5) (d := 30) (v := ?_) rfl rfl (by kernel_rfl) (by kernel_rfl) (by kernel_rfl) (fun _ _ _ h => h) (by kernel_rfl) (prev_bel _ _) ?_ ?_
  rotate_left
  · intro uu (pu : Prev uu _)
    go_simp
    try (with_reducible rfl)
  try simp only [List.set]
  refine wpAnyH_on (i := 6) (d := 31) (v := ?_) rfl rfl (by kernel_rfl) (by kernel_rfl) (by kernel_rfl) (fun _ _ _ h => h) (by kernel_rfl) (prev_bel _ _) ?_ ?_
  rotate_left
  · intro uu (pu : Prev uu _)
    go_simp
    try (with_reducible rfl)
  try simp only [List.set]
  refine wpAnyH_on (i := 7) (d := 32) (v := ?_) rfl rfl (by kernel_rfl) (by kernel_rfl) (by kernel_rfl) (fun _ _ _ h => h) (by kernel_rfl) (prev_bel _ _) ?_ ?_
  rotate_left
  · intro uu (pu : Prev uu _)
    go_simp
    try (with_reducible rfl)
  try simp only [List.set]
  refine wpAnyH_on (i := 8) (d := 33) (v := ?_) rfl rfl (by kernel_rfl) (by kernel_rfl) (by kernel_rfl) (fun _ _ _ h => h) (by kernel_rfl) (prev_bel _ _) ?_ ?_
  rotate_left
  · intro uu (pu : Prev uu _)
    go_simp
    try (with_reducible rfl)
  try simp only [List.set]
  refine wpAnyH_on (i := 9) (d := 34) (v := ?_) rfl rfl (by kernel_rfl) (by kernel_rfl) (by kernel_rfl) (fun _ _ _ h => h) (by kernel_rfl) (prev_bel _ _) ?_ ?_
  rotate_left
  · intro uu (pu : Prev uu _)
    go_simp
    try (with_reducible rfl)
  try simp only [List.set]
  refine wpAnyH_ready (rs := [10]) (by kernel_rfl) (by simp) ?_
  refine AllReadyH.cons rfl (fun K hK => ?_) AllReadyH.nil
  go_simp
  (with_reducible refine (ch_kept (by omega)).mono ?_)
  rintro e ub ⟨rfl, _⟩
  dsimp only
  refine hK.out _ _ (prev_bel _ _) (fun hHeld => ?_)
  clear hHeld hK K
  try dsimp only [Act.put, List.setIfInBounds_toArray, List.set_cons_zero, List.set_cons_succ]
  rw [HKK.out]
  refine wpAnyH_on (i := 11) (d := 36) (v := ?_) rfl rfl (by kernel_rfl) (by kernel_rfl) (by kernel_rfl) (fun _ _ _ h => h) (by kernel_rfl) (prev_bel _ _) ?_ ?_
  rotate_left
  · intro uu (pu : Prev uu _)
    go_simp
    try (with_reducible rfl)
  try simp only [List.set]
  refine wpAnyH_on (i := 12) (d := 37) (v := ?_) rfl rfl (by kernel_rfl) (by kernel_rfl) (by kernel_rfl) (fun _ _ _ h => h) (by kernel_rfl) (prev_bel _ _) ?_ ?_
  rotate_left
  · intro uu (pu : Prev uu _)
    go_simp
    try (with_reducible rfl)
  try simp only [List.set]
  refine wpAnyH_on (i := 13) (d := 38) (v := ?_) rfl rfl (by kernel_rfl) (by kernel_rfl) (by kernel_rfl) (fun _ _ _ h => h) (by kernel_rfl) (prev_bel _ _) ?_ ?_
  rotate_left
  · intro uu (pu : Prev uu _)
    go_simp
    try (with_reducible rfl)
  try simp only [List.set]
  refine wpAnyH_ready (rs := [14]) (by kernel_rfl) (by simp) ?_
  refine AllReadyH.cons rfl (fun K hK => ?_) AllReadyH.nil
  obtain ⟨wm, rfl⟩ : ∃ wm : World, wm = ub := ⟨_, rfl⟩
  go_simp
  refine hK.out _ _ (prev_bel _ _) (fun hHeld => ?_)
  clear hHeld hK K
  try dsimp only [Act.put, List.setIfInBounds_toArray, List.set_cons_zero, List.set_cons_succ]
  refine gen_boxH (fun ub _ _ => ?_)
  refine wpAnyH_on (i := 15) (d := 7) (v := ?_) rfl rfl (by kernel_rfl) (by kernel_rfl) (by kernel_rfl) (fun _ _ _ h => h) (by kernel_rfl) (prev_bel _ _) ?_ ?_
  rotate_left
  · intro uu (pu : Prev uu _)
    go_simp
    try (with_reducible rfl)
  try simp only [List.set]
  refine wpAnyH_done (by kernel_rfl) ?_ _
  go_wp2_with fail
  have kF : Bx ub wm.heap.size 3 (ints (fillL N 0 1152921504606846976 0)) := by rw [fillL_zero]; exact inferInstance
  go_loopw [42] (fun i wr => ∃ M : Nat, M ≤ N ∧ i = .int .i64 M ∧ Bx wr wm.heap.size 3 (ints (fillL N M 1152921504606846976 0)) ∧ Prev wr wm) (fun i _ => N - (intOf i).toNat)
  case atStart => exact ⟨0, Nat.zero_le _, rfl, kF, prev_bel _ _⟩
  case round =>
    obtain ⟨M, hM, rfl, kg, pr⟩ := hrel
    by_cases hlt : M < N
    · have e1 : (ints (fillL N M 1152921504606846976 0))[M]? = some (.int .i64 0) := by rw [ints_get, fillL_at hlt, if_neg (by omega)]; rfl
      have HS := Lib.hid (fillL_set (v := 1152921504606846976) (u := 0) hlt)
      have oG : Own wr wm.heap.size 3 (fillL N M 1152921504606846976 0) := kg.blk
      go_wp2_with fail
      go_roundw
      case rel => exact ⟨M + 1, by omega, by go_num, ⟨by rw [← HS.out]; exact oG.set_ M _⟩, ⟨(bel wm wr).setCell (p := ⟨wm.heap.size, M, none⟩) (Nat.le_refl _) _⟩⟩
      case measure => simp [intOf]; omega
    · have HMN' := Lib.hid (show N ≤ M by omega)
      have kg2 : Bx wr wm.heap.size 3 (ints (List.replicate N 1152921504606846976)) := by rw [← fillL_full HMN'.out (v := 1152921504606846976) (u := 0)]; exact kg
      clear kg
      by_cases e : r = l + 1
      · have t1 : ((r : Int) == (l : Int) + 1) = true := by simp; omega
        have hs0 : 0 ≤ c.single l r := by have := hok.out.w_0 r; have := hok.out.kept_0 l; unfold Ch.single; omega
        have hs2 : c.single l r ≤ 131072 := by have := hok.out.w_2 r; have := hok.out.kept_2 l; unfold Ch.single; omega
        obtain ⟨S, hS⟩ : ∃ S : Nat, c.single l r = (S : Int) := ⟨(c.single l r).toNat, by omega⟩
        have HS := Lib.hid hS
        have HR := Lib.hid e
        have hS4 : S ≤ 131072 := by omega
        have h0r : 0 < r := by omega
        have HOWN := Lib.hid (show c.own r = c.own (l + 1) by rw [e])
        clear hS hs0 hs2 e
        go_wp2_with fail
        refine wp_region_up0 (by kernel_rfl) (fun ux _ => ?_)
        refine wpAnyH_on (i := 0) (d := 55) (v := ?_) rfl rfl (by kernel_rfl) (by kernel_rfl) (by kernel_rfl) (fun _ _ _ h => h) (by kernel_rfl) (prev_bel _ _) ?_ ?_
        rotate_left
        · intro uu (pu : Prev uu _)
          go_simp
          try (with_reducible rfl)
        try simp only [List.set]
        refine wpAnyH_on (i := 1) (d := 56) (v := ?_) rfl rfl (by kernel_rfl) (by kernel_rfl) (by kernel_rfl) (fun _ _ _ h => h) (by kernel_rfl) (prev_bel _ _) ?_ ?_
        rotate_left
        · intro uu (pu : Prev uu _)
          go_simp
          try (with_reducible rfl)
        try simp only [List.set]
        refine wpAnyH_on (i := 2) (d := 57) (v := ?_) rfl rfl (by kernel_rfl) (by kernel_rfl) (by kernel_rfl) (fun _ _ _ h => h) (by kernel_rfl) (prev_bel _ _) ?_ ?_
        rotate_left
        · intro uu (pu : Prev uu _)
          go_simp
          try (with_reducible rfl)
        try simp only [List.set]
        refine wpAnyH_on (i := 3) (d := 58) (v := ?_) rfl rfl (by kernel_rfl) (by kernel_rfl) (by kernel_rfl) (fun _ _ _ h => h) (by kernel_rfl) (prev_bel _ _) ?_ ?_
        rotate_left
        · intro uu (pu : Prev uu _)
          go_simp
          try (with_reducible rfl)
        try simp only [List.set]
        refine wpAnyH_on (i := 4) (d := 59) (v := ?_) rfl rfl (by kernel_rfl) (by kernel_rfl) (by kernel_rfl) (fun _ _ _ h => h) (by kernel_rfl) (prev_bel _ _) ?_ ?_
        rotate_left
        · intro uu (pu : Prev uu _)
          go_simp
          try (with_reducible rfl)
        try simp only [List.set]
        refine wpAnyH_ready (rs := [5]) (by kernel_rfl) (by simp) ?_
        refine AllReadyH.cons rfl (fun K hK => ?_) AllReadyH.nil
        go_simp
        (with_reducible refine (ch_single hok hln hrn).mono ?_)
        rintro e ux ⟨rfl, _⟩
        dsimp only
        refine hK.out _ _ (prev_bel _ _) (fun hHeld => ?_)
        clear hHeld hK K
        try dsimp only [Act.put, List.setIfInBounds_toArray, List.set_cons_zero, List.set_cons_succ]
        rw [HS.out]
        refine wpAnyH_on (i := 6) (d := 9) (v := ?_) rfl rfl (by kernel_rfl) (by kernel_rfl) (by kernel_rfl) (fun _ _ _ h => h) (by kernel_rfl) (prev_bel _ _) ?_ ?_
        rotate_left
        · intro uu (pu : Prev uu _)
          go_simp
          try (with_reducible rfl)
        try simp only [List.set]
        refine wpAnyH_done (by kernel_rfl) ?_ _
        go_wp2_with fail
        have k0 : Bx ux wm.heap.size 3 (ints (c.rowS cap l S)) := by
          rw [Ch.rowS_start (M := S) (by rw [← HR.out, HS.out]; exact Int.le_refl _), HN.out]; exact inferInstance
        go_loopw [9] (fun i wr => ∃ M : Nat, S ≤ M ∧ i = .int .i64 M ∧ Bx wr wm.heap.size 3 (ints (c.rowS cap l M)) ∧ Prev wr wm) (fun i _ => N - (intOf i).toNat)
        case atStart => exact ⟨S, Nat.le_refl _, rfl, k0, prev_bel _ _⟩
        case round =>
          obtain ⟨M, hM, rfl, kg, pr⟩ := hrel
          by_cases hlt : M < N
          · have e1 : (ints (c.rowS cap l M))[M]? = some (.int .i64 1152921504606846976) := by rw [ints_get, Ch.rowS_atM (by rw [HN.out]; exact hlt)]; rfl
            have HSS := Lib.hid (Ch.rowS_set (c := c) (cap := cap) (l := l) (M := M) (by rw [HN.out]; exact hlt) (by rw [← HR.out, HS.out]; omega))
            have oG : Own wr wm.heap.size 3 (c.rowS cap l M) := kg.blk
            go_wp2_with (first | (go_at_call 85; (try first | (with_reducible refine gen_boxK3 (fun u _ _ _ _ => ?_)) | (with_reducible refine gen_boxK2 (fun u _ _ _ => ?_)) | (with_reducible refine gen_boxK (fun u _ _ => ?_))); (with_reducible refine (ch_own (by omega) (by omega)).mono ?_); rintro e u ⟨rfl, _⟩))
            go_roundw
            case rel => exact ⟨M + 1, by omega, by go_num, ⟨by rw [← HSS.out, ← HOWN.out]; exact (oG.at (w' := u)).set_ M _⟩, ⟨(bel wm u).setCell (p := ⟨wm.heap.size, M, none⟩) (Nat.le_refl _) _⟩⟩
            case measure => simp [intOf]; omega
          · have kg1 : Bx wr wm.heap.size 3 (ints (c.row cap l r)) := by rw [HR.out, ← Ch.rowS_end (M := M) (by rw [HN.out]; omega)]; exact kg
            have HM1 : Hid (Mem wr mb c cap (fun g => (bad g ∨ g = w.heap.size + 1) ∨ g = wm.heap.size) (fun a b => nk a b ∨ a = l ∧ b = r)) := Lib.hid ((hm2.out.fresh (g0 := w.heap.size + 1) (Nat.le_succ _)).fresh (g0 := wm.heap.size) later_size).at
            have HK1 : Hid (∀ b, b < w.heap.size → b ≠ mb → wr.heap[b]? = w.heap[b]?) := Lib.hid fun b h1 _ => (bel w wr).block b h1
            have HZ1 : Hid ((World.heap w).size ≤ wr.heap.size) := Lib.hid later_size
            clear kg
            go_upto_region 24 with fail
            refine gen_box1C (fun v3 _ _ => ?_)
            have hb9 : (World.heap w).size + 1 < wm.heap.size := (Bx.blk (w := wm) (g := w.heap.size + 1)).lt
            refine wp_region_upR w0 (fun w9 => Bx w9 sb 98 (solC A n p B m q cap mb) ∧ Bx w9 w.heap.size 100 #[.int .i64 l, .int .i64 r] ∧ Bx w9 (World.heap wr).size 94 #[.slice (some ⟨wm.heap.size, 0, none⟩) N N]) (by kernel_rfl) ⟨inferInstance, inferInstance, inferInstance⟩ (fun uz _ => ?_)
            refine wpAnyH_on (i := 0) (d := 115) (v := ?_) rfl rfl (by kernel_rfl) (by kernel_rfl) (by kernel_rfl) (fun _ _ _ h => h) (by kernel_rfl) ⟨prev_bel _ _, ⟨inferInstance, inferInstance, inferInstance⟩⟩ ?_ ?_
            rotate_left
            · rintro uu ⟨pu, r1, r2, r3⟩
              go_simp
              try (with_reducible rfl)
            try simp only [List.set]
            refine wpAnyH_on (i := 1) (d := 116) (v := ?_) rfl rfl (by kernel_rfl) (by kernel_rfl) (by kernel_rfl) (fun _ _ _ h => h) (by kernel_rfl) ⟨prev_bel _ _, ⟨inferInstance, inferInstance, inferInstance⟩⟩ ?_ ?_
            rotate_left
            · rintro uu ⟨pu, r1, r2, r3⟩
              go_simp
              try (with_reducible rfl)
            try simp only [List.set]
            refine wpAnyH_on (i := 2) (d := 117) (v := ?_) rfl rfl (by kernel_rfl) (by kernel_rfl) (by kernel_rfl) (fun _ _ _ h => h) (by kernel_rfl) ⟨prev_bel _ _, ⟨inferInstance, inferInstance, inferInstance⟩⟩ ?_ ?_
            rotate_left
            · rintro uu ⟨pu, r1, r2, r3⟩
              go_simp
              try (with_reducible rfl)
            try simp only [List.set]
            refine wpAnyH_on (i := 3) (d := 118) (v := ?_) rfl rfl (by kernel_rfl) (by kernel_rfl) (by kernel_rfl) (fun _ _ _ h => h) (by kernel_rfl) ⟨prev_bel _ _, ⟨inferInstance, inferInstance, inferInstance⟩⟩ ?_ ?_
            rotate_left
            · rintro uu ⟨pu, r1, r2, r3⟩
              go_simp
              try (with_reducible rfl)
            try simp only [List.set]
            refine wpAnyH_on (i := 4) (d := 119) (v := ?_) rfl rfl (by kernel_rfl) (by kernel_rfl) (by kernel_rfl) (fun _ _ _ h => h) (by kernel_rfl) ⟨prev_bel _ _, ⟨inferInstance, inferInstance, inferInstance⟩⟩ ?_ ?_
            rotate_left
            · rintro uu ⟨pu, r1, r2, r3⟩
              go_simp
              try (with_reducible rfl)
            try simp only [List.set]
            refine wpAnyH_on (i := 5) (d := 120) (v := ?_) rfl rfl (by kernel_rfl) (by kernel_rfl) (by kernel_rfl) (fun _ _ _ h => h) (by kernel_rfl) ⟨prev_bel _ _, ⟨inferInstance, inferInstance, inferInstance⟩⟩ ?_ ?_
            rotate_left
            · rintro uu ⟨pu, r1, r2, r3⟩
              go_simp
              try (with_reducible rfl)
            try simp only [List.set]
            refine wpAnyH_ready (rs := [6]) (by kernel_rfl) (by simp) ?_
            refine AllReadyH.cons rfl (fun K hK => ?_) AllReadyH.nil
            obtain ⟨w5, HP, hM5, hs5, hz5, hlt5, hb5⟩ := Mem.put (HM1.out.at (w' := uz)) (l := l) (r := r) (g0 := wm.heap.size) hl hr (.inr ⟨rfl, rfl⟩) (Bx.blk (w := uz) (g := wm.heap.size)) (bad' := fun g => bad g ∨ g = w.heap.size + 1) (fun g h => .inl h) (fun h => h.elim (fun h => absurd (hbad.out _ h) (by omega)) (fun h => by omega)) (nk' := nk) (fun a b h => .inl h) (fun h => absurd (hnk.out _ _ h) (Nat.lt_irrefl _))
            have NM : ∀ {g : Nat} {T : TypeId} {cs : Array Value}, Blk uz g T cs → g ≠ mb := fun b => (HM1.out.at (w' := uz)).ne_blk b
            have kS5 : Bx w5 sb 98 (solC A n p B m q cap mb) := ⟨(hs5 _ (NM (Bx.blk (w := uz)))).trans (Bx.blk (w := uz))⟩
            have kP5 : Bx w5 w.heap.size 100 #[.int .i64 l, .int .i64 r] := ⟨(hs5 _ (NM (Bx.blk (w := uz)))).trans (Bx.blk (w := uz))⟩
            have k45 : Bx w5 (w.heap.size + 1) 94 #[.slice none 0 0] := ⟨(hs5 _ (NM (Bx.blk (w := uz)))).trans (Bx.blk (w := uz))⟩
            have kT5 : Bx w5 (World.heap wr).size 94 #[.slice (some ⟨wm.heap.size, 0, none⟩) N N] := ⟨(hs5 _ (NM (Bx.blk (w := uz)))).trans (Bx.blk (w := uz))⟩
            have kG5 : Bx w5 wm.heap.size 3 (ints (c.row cap l r)) := ⟨(hs5 _ (NM (Bx.blk (w := uz)))).trans (Bx.blk (w := uz))⟩
            have p5 : Prev w5 w0 := ⟨(bel w0 uz).trans (hb5 _ hmb0)⟩
            have HK5 : Hid (∀ b, b < w.heap.size → b ≠ mb → w5.heap[b]? = w.heap[b]?) := Lib.hid fun b h1 h2 => (hs5 b h2).trans (((bel wr uz).block b (Nat.lt_of_lt_of_le h1 HZ1.out)).trans (HK1.out b h1 h2))
            have HZ5 : Hid ((World.heap w).size ≤ w5.heap.size) := Lib.hid (by rw [hz5]; exact Nat.le_trans HZ1.out later_size)
            have HM5 := Lib.hid hM5
            rw [HN.out] at HP
            clear hs5 hz5 hlt5 hb5 hM5 NM
            go_simp
            refine hK.out _ _ ⟨p5, kS5, kP5, kT5⟩ (fun hHeld => ?_)
            clear hHeld hK K HP
            try dsimp only [Act.put, List.setIfInBounds_toArray, List.set_cons_zero, List.set_cons_succ]
            refine wpAnyH_done (by kernel_rfl) ?_ _
            go_wp2_with fail
            have k6 : Blk (w5.setCell ⟨w.heap.size + 1, 0, none⟩ (.slice (some ⟨wm.heap.size, 0, none⟩) N N)) (w.heap.size + 1) _ _ := Blk.set_ (Bx.blk (w := w5) (g := w.heap.size + 1)) 0 (.slice (some ⟨wm.heap.size, 0, none⟩) N N)
            have r0 := k6.cell 0
            refine bodyPost_ret (v := .agg #[.slice (some ⟨wm.heap.size, 0, none⟩) N N]) (by simp [results, Try.results51, go_sem, r0]) rfl ?_
            have hS6 : ∀ b, b ≠ w.heap.size + 1 → (w5.setCell ⟨w.heap.size + 1, 0, none⟩ (.slice (some ⟨wm.heap.size, 0, none⟩) N N)).heap[b]? = w5.heap[b]? := fun b hb => Below.heap_setCell _ ⟨w.heap.size + 1, 0, none⟩ _ b hb
            have p6 : Below w0.heap.size w0 (w5.setCell ⟨w.heap.size + 1, 0, none⟩ (.slice (some ⟨wm.heap.size, 0, none⟩) N N)) := (bel w0 w5).setCell (p := ⟨w.heap.size + 1, 0, none⟩) (show w0.heap.size ≤ w.heap.size + 1 from Nat.le_succ_of_le later_size) _
            have z6 : (w5.setCell ⟨w.heap.size + 1, 0, none⟩ (.slice (some ⟨wm.heap.size, 0, none⟩) N N)).heap.size = w5.heap.size := by simp
            obtain ⟨v6, hv6⟩ : ∃ v : World, v = w5.setCell ⟨w.heap.size + 1, 0, none⟩ (.slice (some ⟨wm.heap.size, 0, none⟩) N N) := ⟨_, rfl⟩
            rw [← hv6] at p6 hS6 z6 ⊢
            have hmbs := hm.out.lt
            have K6 : ∀ b, b < w.heap.size → b ≠ mb → v6.heap[b]? = w.heap[b]? := fun b h1 h2 => (hS6 b (by omega)).trans (HK5.out b h1 h2)
            have B0 : Below w0.heap.size w0 w := bel w0 w
            exact ⟨wm.heap.size, by rw [HN.out], ⟨(hS6 _ (by omega)).trans (Bx.blk (w := w5))⟩, fun h => absurd (hbad.out _ h) (by omega), Lib.hid ((HM5.out.same (hS6 mb (by omega)) (fun b _ hb => hS6 b (fun e => hb (.inr e)))).less (fun g h => .inl h) (fun _ _ h => h)), ⟨⟨p6.os.trans B0.os.symm, p6.tape.trans B0.tape.symm, p6.output.trans B0.output.symm, by rw [z6]; exact HZ5.out, fun b hb => K6 b (by omega) (by omega)⟩, K6, (by obtain ⟨es, cl, h1, _⟩ := hm.out; exact ⟨es, cl, h1⟩)⟩, ⟨p6⟩⟩
      · have t1 : ((r : Int) == (l : Int) + 1) = false := by simp; omega
        have hl1 : l + 1 < r := by omega
        clear e
        obtain ⟨W2, rfl⟩ : ∃ v : World, v = wr := ⟨_, rfl⟩
        have kJ : Bx W2 wm.heap.size 3 (ints (c.rowJ cap l r 0)) := by rw [Ch.rowJ_zero, HN.out]; exact kg2
        have HM0 : Hid (Mem W2 mb c cap (fun g => (bad g ∨ g = w.heap.size + 1) ∨ g = wm.heap.size) (fun a b => nk a b ∨ a = l ∧ b = r)) := Lib.hid ((hm2.out.fresh (g0 := w.heap.size + 1) (Nat.le_succ _)).fresh (g0 := wm.heap.size) later_size).at
        have HSI0 : Hid (SI w0 W2 W2 mb wm.heap.size c cap (fun g => (bad g ∨ g = w.heap.size + 1) ∨ g = wm.heap.size) (fun a b => nk a b ∨ a = l ∧ b = r)) := Lib.hid ⟨HM0.out, fun _ _ _ _ => rfl, Nat.le_refl _⟩
        clear kg2
        go_wp2_with fail
        go_loopw [10, 11, 12] (fun x y z wr => ∃ (j k N2 : Nat) (C : Int), k ≤ r ∧ x = .int .i64 N2 ∧ y = .int .i64 C ∧ z = .int .i64 k ∧ Hid (k = l + j + 1) ∧ Hid (c.nd l r j = (N2 : Int)) ∧ Hid (c.cs l j = C) ∧ Hid (SI w0 W2 wr mb wm.heap.size c cap (fun g => (bad g ∨ g = w.heap.size + 1) ∨ g = wm.heap.size) (fun a b => nk a b ∨ a = l ∧ b = r)) ∧ Bx wr wm.heap.size 3 (ints (c.rowJ cap l r j)) ∧ Bx wr sb 98 (solC A n p B m q cap mb) ∧ Bx wr w.heap.size 100 #[.int .i64 l, .int .i64 r] ∧ Bx wr (w.heap.size + 1) 94 #[.slice none 0 0] ∧ Prev wr w0) (fun _ _ z _ => r - (intOf z).toNat)
        case atStart => exact ⟨0, l + 1, 0, 0, by omega, rfl, rfl, by go_num, Lib.hid rfl, Lib.hid rfl, Lib.hid rfl, HSI0, kJ, inferInstance, inferInstance, inferInstance, prev_bel _ _⟩
        case round =>
          obtain ⟨j, k, N2, C, hk, rfl, rfl, rfl, HKJ, HND, HCS, HS, kg, kS, kP, k4, pr⟩ := hrel
          by_cases hlt : k < r
          · have hlk : l < k := by have := HKJ.out; omega
            have hjr : j ≤ 64 := by have := HKJ.out; have := hok.out.n2; omega
            obtain ⟨jl, hjl⟩ : ∃ jl, l + j = jl := ⟨_, rfl⟩
            have hjm : jl < m := by have := HKJ.out; omega
            obtain ⟨N3, hN3⟩ : ∃ N3 : Nat, c.nd l r (j + 1) = (N3 : Int) := ⟨(c.nd l r (j + 1)).toNat, by have := Ch.nd_0 (c := c) l r (j + 1); omega⟩
            have hN34 : N3 ≤ 196608 := by have := hok.out.nd_2 l r (j + 1); omega
            have hmax : max (N2 : Int) (c.step l r k) = (N3 : Int) := by rw [← hN3, Ch.nd, HND.out, ← HKJ.out]
            have hC0 := hok.out.cs_0 l j
            have hC2 := hok.out.cs_2 l j
            have hk0 := hok.out.k_0 jl
            have hk2 := hok.out.k_2 jl
            rw [HCS.out] at hC0 hC2
            obtain ⟨C2, hC3⟩ : ∃ C2, C + c.k jl = C2 := ⟨_, rfl⟩
            have HC2 : Hid (c.cs l (j + 1) = C2) := Lib.hid (by rw [Ch.cs, HCS.out, hjl, hC3])
            have hw4 : IntKind.i64.wrap (C + c.k jl) = C2 := by rw [hC3, IntKind.wrap_i64]; omega
            have hsub : IntKind.i64.wrap ((k : Int) - 1) = (jl : Int) := by rw [IntKind.wrap_i64]; have := HKJ.out; omega
            have HN3 := Lib.hid hN3
            have oG : Own wr wm.heap.size 3 (c.rowJ cap l r j) := kg.blk
            have NS : ∀ {g : Nat} {T : TypeId} {cs : Array Value} {x u : World} [Later wr x] (_ : SI w0 x u mb wm.heap.size c cap (fun g => (bad g ∨ g = w.heap.size + 1) ∨ g = wm.heap.size) (fun a b => nk a b ∨ a = l ∧ b = r)) (_ : Blk wr g T cs), T ≠ 3 → Blk u g T cs :=
              fun {g T cs x u} _ s bk hT => ((s.keep g (Nat.lt_of_lt_of_le bk.lt later_size) (HS.out.mem.ne_blk bk) (fun e => oG.ne_blk bk (fun e => hT e.symm) e.symm)).trans (bk.at (w' := x)))
            have CSP : N3 < N → ∀ {x : World} [Later wr x], Calls Try.prog 86 #[.pointer (some ⟨sb, 0, none⟩), .agg #[.int .i64 l, .int .i64 r], .int .i64 k, .int .i64 N3, .int .i64 C2, .slice (some ⟨wm.heap.size, 0, none⟩) N N] x
                (fun e u => e = .returned (.tuple #[]) ∧ Hid (SI w0 x u mb wm.heap.size c cap (fun g => (bad g ∨ g = w.heap.size + 1) ∨ g = wm.heap.size) (fun a b => nk a b ∨ a = l ∧ b = r)) ∧ Bx u wm.heap.size 3 (ints (c.rowJ cap l r (j + 1))) ∧ Prev u w0) := fun hlen {x} lx => by
              have px : Prev x w0 := ⟨(Later.trans (inferInstance : Later w0 wr) lx).st⟩
              have bx : Bx x sb 98 (solC A n p B m q cap mb) := ⟨kS.blk.at⟩
              have bg : Bx x wm.heap.size 3 (ints (c.rowJ cap l r j)) := ⟨kg.blk.at⟩
              have hsz : (World.heap wm).size < x.heap.size := bg.blk.lt
              have h1 := ch_split (bad := fun g => (bad g ∨ g = w.heap.size + 1) ∨ g = wm.heap.size) (nk := fun a b => nk a b ∨ a = l ∧ b = r) hok ih HKJ hlk hlt hr (Lib.hid (HS.out.mem.at (w' := x))) (Lib.hid fun g hg => by
                rcases hg with (hg | hg) | hg
                · exact Nat.lt_trans (hbad.out g hg) (Nat.lt_of_le_of_lt later_size hsz)
                · have := (Bx.blk (w := wm) (g := w.heap.size + 1)).lt; omega
                · omega) (Lib.hid fun a b hab => by
                rcases hab with hab | ⟨rfl, rfl⟩
                · exact Nat.le_of_lt (hnk.out a b hab)
                · exact Nat.le_refl _) (Lib.hid (.inr rfl)) HN3 HC2 (by rw [HN.out]; exact hlen) hc4 later_size
              rw [HN.out] at h1
              exact h1.mono fun e u ⟨h1, h2, h3, h4⟩ => ⟨h1, Lib.hid h2, h3, h4⟩
            clear hC0 hC2 hk0 hk2 hC3 hN3 hjl hjr
            obtain ⟨b1, o1, rfl, ob1, v1⟩ := Sl.at_k (c := c) (w := w0) (A := B) (n := m) (l := jl) hjm
            by_cases hlen : N3 < N
            · go_wp2_with fail
              refine wp_region_up0 (by kernel_rfl) (fun ux _ => ?_)
              refine wpAnyH_on (i := 0) (d := 82) (v := ?_) rfl rfl (by kernel_rfl) (by kernel_rfl) (by kernel_rfl) (fun _ _ _ h => h) (by kernel_rfl) (prev_bel _ _) ?_ ?_
              rotate_left
              · intro uu (pu : Prev uu _)
                go_simp
                try (with_reducible rfl)
              try simp only [List.set]
              refine wpAnyH_on (i := 1) (d := 83) (v := ?_) rfl rfl (by kernel_rfl) (by kernel_rfl) (by kernel_rfl) (fun _ _ _ h => h) (by kernel_rfl) (prev_bel _ _) ?_ ?_
              rotate_left
              · intro uu (pu : Prev uu _)
                go_simp
                try (with_reducible rfl)
              try simp only [List.set]
              refine wpAnyH_on (i := 2) (d := 84) (v := ?_) rfl rfl (by kernel_rfl) (by kernel_rfl) (by kernel_rfl) (fun _ _ _ h => h) (by kernel_rfl) (prev_bel _ _) ?_ ?_
              rotate_left
              · intro uu (pu : Prev uu _)
                go_simp
                try (with_reducible rfl)
              try simp only [List.set]
              refine wpAnyH_on (i := 3) (d := 85) (v := ?_) rfl rfl (by kernel_rfl) (by kernel_rfl) (by kernel_rfl) (fun _ _ _ h => h) (by kernel_rfl) (prev_bel _ _) ?_ ?_
              rotate_left
              · intro uu (pu : Prev uu _)
                go_simp
                try (with_reducible rfl)
              try simp only [List.set]
              refine wpAnyH_on (i := 4) (d := 86) (v := ?_) rfl rfl (by kernel_rfl) (by kernel_rfl) (by kernel_rfl) (fun _ _ _ h => h) (by kernel_rfl) (prev_bel _ _) ?_ ?_
              rotate_left
              · intro uu (pu : Prev uu _)
                go_simp
                try (with_reducible rfl)
              try simp only [List.set]
              refine wpAnyH_on (i := 5) (d := 87) (v := ?_) rfl rfl (by kernel_rfl) (by kernel_rfl) (by kernel_rfl) (fun _ _ _ h => h) (by kernel_rfl) (prev_bel _ _) ?_ ?_
              rotate_left
              · intro uu (pu : Prev uu _)
                go_simp
                try (with_reducible rfl)
              try simp only [List.set]
              refine wpAnyH_on (i := 6) (d := 88) (v := ?_) rfl rfl (by kernel_rfl) (by kernel_rfl) (by kernel_rfl) (fun _ _ _ h => h) (by kernel_rfl) (prev_bel _ _) ?_ ?_
              rotate_left
              · intro uu (pu : Prev uu _)
                go_simp
                try (with_reducible rfl)
              try simp only [List.set]
              refine wpAnyH_ready (rs := [7]) (by kernel_rfl) (by simp) ?_
              refine AllReadyH.cons rfl (fun K hK => ?_) AllReadyH.nil
              go_simp
              (with_reducible refine (ch_step hok hlk hlt hrm).mono ?_)
              rintro e ux ⟨rfl, _⟩
              dsimp only
              refine hK.out _ _ (prev_bel _ _) (fun hHeld => ?_)
              clear hHeld hK K
              try dsimp only [Act.put, List.setIfInBounds_toArray, List.set_cons_zero, List.set_cons_succ]
              refine wpAnyH_on (i := 8) (d := 90) (v := ?_) rfl rfl (by kernel_rfl) (by kernel_rfl) (by kernel_rfl) (fun _ _ _ h => h) (by kernel_rfl) (prev_bel _ _) ?_ ?_
              rotate_left
              · intro uu (pu : Prev uu _)
                go_simp
                try (with_reducible rfl)
              try simp only [List.set]
              refine wpAnyH_on (i := 9) (d := 10) (v := ?_) rfl rfl (by kernel_rfl) (by kernel_rfl) (by kernel_rfl) (fun _ _ _ h => h) (by kernel_rfl) (prev_bel _ _) ?_ ?_
              rotate_left
              · intro uu (pu : Prev uu _)
                go_simp
                try (with_reducible rfl)
              try simp only [List.set]
              refine wpAnyH_done (by kernel_rfl) ?_ _
              go_wp2_with (go_at_call 86; (with_reducible refine (CSP hlen).mono ?_); rintro e u ⟨rfl, hs, kg3, p3⟩)
              exact ⟨⟨j + 1, k + 1, N3, C2, by omega, rfl, rfl, by go_num, Lib.hid (by rw [HKJ.out]; omega), HN3, HC2, Lib.hid ((HS.out.at (w' := ux)).trans hs.out), kg3, ⟨NS hs.out kS.blk (by decide)⟩, ⟨NS hs.out kP.blk (by decide)⟩, ⟨NS hs.out k4.blk (by decide)⟩, p3⟩, by simp [intOf]; omega⟩
            · have hj9 : c.rowJ cap l r j = c.rowJ cap l r (j + 1) := by rw [← Ch.rowM_start (M := N) (by rw [HN3.out]; omega), Ch.rowM_end (by rw [HN.out]; exact Nat.le_refl _)]
              have HJ9 := Lib.hid hj9
              clear hj9
              go_wp2_with fail
              refine wp_region_up0 (by kernel_rfl) (fun ux _ => ?_)
              refine wpAnyH_on (i := 0) (d := 82) (v := ?_) rfl rfl (by kernel_rfl) (by kernel_rfl) (by kernel_rfl) (fun _ _ _ h => h) (by kernel_rfl) (prev_bel _ _) ?_ ?_
              rotate_left
              · intro uu (pu : Prev uu _)
                go_simp
                try (with_reducible rfl)
              try simp only [List.set]
              refine wpAnyH_on (i := 1) (d := 83) (v := ?_) rfl rfl (by kernel_rfl) (by kernel_rfl) (by kernel_rfl) (fun _ _ _ h => h) (by kernel_rfl) (prev_bel _ _) ?_ ?_
              rotate_left
              · intro uu (pu : Prev uu _)
                go_simp
                try (with_reducible rfl)
              try simp only [List.set]
              refine wpAnyH_on (i := 2) (d := 84) (v := ?_) rfl rfl (by kernel_rfl) (by kernel_rfl) (by kernel_rfl) (fun _ _ _ h => h) (by kernel_rfl) (prev_bel _ _) ?_ ?_
              rotate_left
              · intro uu (pu : Prev uu _)
                go_simp
                try (with_reducible rfl)
              try simp only [List.set]
              refine wpAnyH_on (i := 3) (d := 85) (v := ?_) rfl rfl (by kernel_rfl) (by kernel_rfl) (by kernel_rfl) (fun _ _ _ h => h) (by kernel_rfl) (prev_bel _ _) ?_ ?_
              rotate_left
              · intro uu (pu : Prev uu _)
                go_simp
                try (with_reducible rfl)
              try simp only [List.set]
              refine wpAnyH_on (i := 4) (d := 86) (v := ?_) rfl rfl (by kernel_rfl) (by kernel_rfl) (by kernel_rfl) (fun _ _ _ h => h) (by kernel_rfl) (prev_bel _ _) ?_ ?_
              rotate_left
              · intro uu (pu : Prev uu _)
                go_simp
                try (with_reducible rfl)
              try simp only [List.set]
              refine wpAnyH_on (i := 5) (d := 87) (v := ?_) rfl rfl (by kernel_rfl) (by kernel_rfl) (by kernel_rfl) (fun _ _ _ h => h) (by kernel_rfl) (prev_bel _ _) ?_ ?_
              rotate_left
              · intro uu (pu : Prev uu _)
                go_simp
                try (with_reducible rfl)
              try simp only [List.set]
              refine wpAnyH_on (i := 6) (d := 88) (v := ?_) rfl rfl (by kernel_rfl) (by kernel_rfl) (by kernel_rfl) (fun _ _ _ h => h) (by kernel_rfl) (prev_bel _ _) ?_ ?_
              rotate_left
              · intro uu (pu : Prev uu _)
                go_simp
                try (with_reducible rfl)
              try simp only [List.set]
              refine wpAnyH_ready (rs := [7]) (by kernel_rfl) (by simp) ?_
              refine AllReadyH.cons rfl (fun K hK => ?_) AllReadyH.nil
              go_simp
              (with_reducible refine (ch_step hok hlk hlt hrm).mono ?_)
              rintro e ux ⟨rfl, _⟩
              dsimp only
              refine hK.out _ _ (prev_bel _ _) (fun hHeld => ?_)
              clear hHeld hK K
              try dsimp only [Act.put, List.setIfInBounds_toArray, List.set_cons_zero, List.set_cons_succ]
              refine wpAnyH_on (i := 8) (d := 90) (v := ?_) rfl rfl (by kernel_rfl) (by kernel_rfl) (by kernel_rfl) (fun _ _ _ h => h) (by kernel_rfl) (prev_bel _ _) ?_ ?_
              rotate_left
              · intro uu (pu : Prev uu _)
                go_simp
                try (with_reducible rfl)
              try simp only [List.set]
              refine wpAnyH_on (i := 9) (d := 10) (v := ?_) rfl rfl (by kernel_rfl) (by kernel_rfl) (by kernel_rfl) (fun _ _ _ h => h) (by kernel_rfl) (prev_bel _ _) ?_ ?_
              rotate_left
              · intro uu (pu : Prev uu _)
                go_simp
                try (with_reducible rfl)
              try simp only [List.set]
              refine wpAnyH_done (by kernel_rfl) ?_ _
              go_wp2_with fail
              exact ⟨⟨j + 1, k + 1, N3, C2, by omega, rfl, rfl, by go_num, Lib.hid (by rw [HKJ.out]; omega), HN3, HC2, Lib.hid (HS.out.at (w' := ux)), (by rw [← HJ9.out]; exact inferInstance), inferInstance, inferInstance, inferInstance, prev_bel _ _⟩, by simp [intOf]; omega⟩
          · have hj : j = r - l - 1 := by have := HKJ.out; omega
            have kg1 : Bx wr wm.heap.size 3 (ints (c.row cap l r)) := by rw [← Ch.rowJ_full hl1, ← hj]; exact kg
            have HM1 := Lib.hid HS.out.mem
            have hwm : (World.heap w).size ≤ wm.heap.size := later_size
            have HK1 : Hid (∀ b, b < w.heap.size → b ≠ mb → wr.heap[b]? = w.heap[b]?) := Lib.hid fun b h1 h2 => (HS.out.keep b (Nat.lt_of_lt_of_le h1 later_size) h2 (by omega)).trans ((bel w W2).block b h1)
            have HZ1 : Hid ((World.heap w).size ≤ wr.heap.size) := Lib.hid (Nat.le_trans later_size HS.out.size)
            clear kg hj
            go_upto_region 24 with fail
            refine gen_box1C (fun v3 _ _ => ?_)
            have hb9 : (World.heap w).size + 1 < wm.heap.size := (Bx.blk (w := wm) (g := w.heap.size + 1)).lt
            refine wp_region_upR w0 (fun w9 => Bx w9 sb 98 (solC A n p B m q cap mb) ∧ Bx w9 w.heap.size 100 #[.int .i64 l, .int .i64 r] ∧ Bx w9 (World.heap wr).size 94 #[.slice (some ⟨wm.heap.size, 0, none⟩) N N]) (by kernel_rfl) ⟨inferInstance, inferInstance, inferInstance⟩ (fun uz _ => ?_)
            refine wpAnyH_on (i := 0) (d := 115) (v := ?_) rfl rfl (by kernel_rfl) (by kernel_rfl) (by kernel_rfl) (fun _ _ _ h => h) (by kernel_rfl) ⟨prev_bel _ _, ⟨inferInstance, inferInstance, inferInstance⟩⟩ ?_ ?_
            rotate_left
            · rintro uu ⟨pu, r1, r2, r3⟩
              go_simp
              try (with_reducible rfl)
            try simp only [List.set]
            refine wpAnyH_on (i := 1) (d := 116) (v := ?_) rfl rfl (by kernel_rfl) (by kernel_rfl) (by kernel_rfl) (fun _ _ _ h => h) (by kernel_rfl) ⟨prev_bel _ _, ⟨inferInstance, inferInstance, inferInstance⟩⟩ ?_ ?_
            rotate_left
            · rintro uu ⟨pu, r1, r2, r3⟩
              go_simp
              try (with_reducible rfl)
            try simp only [List.set]
            refine wpAnyH_on (i := 2) (d := 117) (v := ?_) rfl rfl (by kernel_rfl) (by kernel_rfl) (by kernel_rfl) (fun _ _ _ h => h) (by kernel_rfl) ⟨prev_bel _ _, ⟨inferInstance, inferInstance, inferInstance⟩⟩ ?_ ?_
            rotate_left
            · rintro uu ⟨pu, r1, r2, r3⟩
              go_simp
              try (with_reducible rfl)
            try simp only [List.set]
            refine wpAnyH_on (i := 3) (d := 118) (v := ?_) rfl rfl (by kernel_rfl) (by kernel_rfl) (by kernel_rfl) (fun _ _ _ h => h) (by kernel_rfl) ⟨prev_bel _ _, ⟨inferInstance, inferInstance, inferInstance⟩⟩ ?_ ?_
            rotate_left
            · rintro uu ⟨pu, r1, r2, r3⟩
              go_simp
              try (with_reducible rfl)
            try simp only [List.set]
            refine wpAnyH_on (i := 4) (d := 119) (v := ?_) rfl rfl (by kernel_rfl) (by kernel_rfl) (by kernel_rfl) (fun _ _ _ h => h) (by kernel_rfl) ⟨prev_bel _ _, ⟨inferInstance, inferInstance, inferInstance⟩⟩ ?_ ?_
            rotate_left
            · rintro uu ⟨pu, r1, r2, r3⟩
              go_simp
              try (with_reducible rfl)
            try simp only [List.set]
            refine wpAnyH_on (i := 5) (d := 120) (v := ?_) rfl rfl (by kernel_rfl) (by kernel_rfl) (by kernel_rfl) (fun _ _ _ h => h) (by kernel_rfl) ⟨prev_bel _ _, ⟨inferInstance, inferInstance, inferInstance⟩⟩ ?_ ?_
            rotate_left
            · rintro uu ⟨pu, r1, r2, r3⟩
              go_simp
              try (with_reducible rfl)
            try simp only [List.set]
            refine wpAnyH_ready (rs := [6]) (by kernel_rfl) (by simp) ?_
            refine AllReadyH.cons rfl (fun K hK => ?_) AllReadyH.nil
            obtain ⟨w5, HP, hM5, hs5, hz5, hlt5, hb5⟩ := Mem.put (HM1.out.at (w' := uz)) (l := l) (r := r) (g0 := wm.heap.size) hl hr (.inr ⟨rfl, rfl⟩) (Bx.blk (w := uz) (g := wm.heap.size)) (bad' := fun g => bad g ∨ g = w.heap.size + 1) (fun g h => .inl h) (fun h => h.elim (fun h => absurd (hbad.out _ h) (by omega)) (fun h => by omega)) (nk' := nk) (fun a b h => .inl h) (fun h => absurd (hnk.out _ _ h) (Nat.lt_irrefl _))
            have NM : ∀ {g : Nat} {T : TypeId} {cs : Array Value}, Blk uz g T cs → g ≠ mb := fun b => (HM1.out.at (w' := uz)).ne_blk b
            have kS5 : Bx w5 sb 98 (solC A n p B m q cap mb) := ⟨(hs5 _ (NM (Bx.blk (w := uz)))).trans (Bx.blk (w := uz))⟩
            have kP5 : Bx w5 w.heap.size 100 #[.int .i64 l, .int .i64 r] := ⟨(hs5 _ (NM (Bx.blk (w := uz)))).trans (Bx.blk (w := uz))⟩
            have k45 : Bx w5 (w.heap.size + 1) 94 #[.slice none 0 0] := ⟨(hs5 _ (NM (Bx.blk (w := uz)))).trans (Bx.blk (w := uz))⟩
            have kT5 : Bx w5 (World.heap wr).size 94 #[.slice (some ⟨wm.heap.size, 0, none⟩) N N] := ⟨(hs5 _ (NM (Bx.blk (w := uz)))).trans (Bx.blk (w := uz))⟩
            have kG5 : Bx w5 wm.heap.size 3 (ints (c.row cap l r)) := ⟨(hs5 _ (NM (Bx.blk (w := uz)))).trans (Bx.blk (w := uz))⟩
            have p5 : Prev w5 w0 := ⟨(bel w0 uz).trans (hb5 _ hmb0)⟩
            have HK5 : Hid (∀ b, b < w.heap.size → b ≠ mb → w5.heap[b]? = w.heap[b]?) := Lib.hid fun b h1 h2 => (hs5 b h2).trans (((bel wr uz).block b (Nat.lt_of_lt_of_le h1 HZ1.out)).trans (HK1.out b h1 h2))
            have HZ5 : Hid ((World.heap w).size ≤ w5.heap.size) := Lib.hid (by rw [hz5]; exact Nat.le_trans HZ1.out later_size)
            have HM5 := Lib.hid hM5
            rw [HN.out] at HP
            clear hs5 hz5 hlt5 hb5 hM5 NM
            go_simp
            refine hK.out _ _ ⟨p5, kS5, kP5, kT5⟩ (fun hHeld => ?_)
            clear hHeld hK K HP
            try dsimp only [Act.put, List.setIfInBounds_toArray, List.set_cons_zero, List.set_cons_succ]
            refine wpAnyH_done (by kernel_rfl) ?_ _
            go_wp2_with fail
            have k6 : Blk (w5.setCell ⟨w.heap.size + 1, 0, none⟩ (.slice (some ⟨wm.heap.size, 0, none⟩) N N)) (w.heap.size + 1) _ _ := Blk.set_ (Bx.blk (w := w5) (g := w.heap.size + 1)) 0 (.slice (some ⟨wm.heap.size, 0, none⟩) N N)
            have r0 := k6.cell 0
            refine bodyPost_ret (v := .agg #[.slice (some ⟨wm.heap.size, 0, none⟩) N N]) (by simp [results, Try.results51, go_sem, r0]) rfl ?_
            have hS6 : ∀ b, b ≠ w.heap.size + 1 → (w5.setCell ⟨w.heap.size + 1, 0, none⟩ (.slice (some ⟨wm.heap.size, 0, none⟩) N N)).heap[b]? = w5.heap[b]? := fun b hb => Below.heap_setCell _ ⟨w.heap.size + 1, 0, none⟩ _ b hb
            have p6 : Below w0.heap.size w0 (w5.setCell ⟨w.heap.size + 1, 0, none⟩ (.slice (some ⟨wm.heap.size, 0, none⟩) N N)) := (bel w0 w5).setCell (p := ⟨w.heap.size + 1, 0, none⟩) (show w0.heap.size ≤ w.heap.size + 1 from Nat.le_succ_of_le later_size) _
            have z6 : (w5.setCell ⟨w.heap.size + 1, 0, none⟩ (.slice (some ⟨wm.heap.size, 0, none⟩) N N)).heap.size = w5.heap.size := by simp
            obtain ⟨v6, hv6⟩ : ∃ v : World, v = w5.setCell ⟨w.heap.size + 1, 0, none⟩ (.slice (some ⟨wm.heap.size, 0, none⟩) N N) := ⟨_, rfl⟩
            rw [← hv6] at p6 hS6 z6 ⊢
            have hmbs := hm.out.lt
            have K6 : ∀ b, b < w.heap.size → b ≠ mb → v6.heap[b]? = w.heap[b]? := fun b h1 h2 => (hS6 b (by omega)).trans (HK5.out b h1 h2)
            have B0 : Below w0.heap.size w0 w := bel w0 w
            exact ⟨wm.heap.size, by rw [HN.out], ⟨(hS6 _ (by omega)).trans (Bx.blk (w := w5))⟩, fun h => absurd (hbad.out _ h) (by omega), Lib.hid ((HM5.out.same (hS6 mb (by omega)) (fun b _ hb => hS6 b (fun e => hb (.inr e)))).less (fun g h => .inl h) (fun _ _ h => h)), ⟨⟨p6.os.trans B0.os.symm, p6.tape.trans B0.tape.symm, p6.output.trans B0.output.symm, by rw [z6]; exact HZ5.out, fun b hb => K6 b (by omega) (by omega)⟩, K6, (by obtain ⟨es, cl, h1, _⟩ := hm.out; exact ⟨es, cl, h1⟩)⟩, ⟨p6⟩⟩
/-- values, of every part. -/
theorem ch_values (hok : Hid c.Ok) (hc0 : 0 ≤ cap) (hc4 : cap ≤ 4096) (hmb0 : w0.heap.size ≤ mb) [a : Sl w0 A n c.W] [b : Sl w0 B m c.K] :
    ∀ (s l r : Nat), r - l ≤ s → l < r → r ≤ c.n → ValOk w0 sb A n p B m q c cap mb l r
  | 0, l, r, hs, hl, _ => by omega
  | s + 1, l, r, hs, hl, hr => fun w bad nk hp hbx hm hbad hnk => by
    rcases hm.look l r with ⟨g, h1, ho, hg⟩ | ⟨h1, h2⟩
    · have : Bx w g 3 (ints (c.row cap l r)) := ⟨ho⟩
      exact ch_values_old hp (Lib.hid hm) (Lib.hid h1) inferInstance hg
    · exact ch_values_new hok hc0 hc4 hmb0 (Lib.hid fun l' r' h1 h2 h3 => ch_values hok hc0 hc4 hmb0 s l' r' (by omega) h1 h3) hl hr (Lib.hid hm) (Lib.hid hbad) (Lib.hid hnk) (Lib.hid h1) (Lib.hid h2)
end

end Go.Proofs.Ytphcffcecncngaa
