/- solver.split. -/
import Derived.Test.YtphcffcecncngaaChainRow
import Derived.Deep.DeepCutAuto
namespace Go.Proofs.Ytphcffcecncngaa
open Go.RowKit

section
variable {w w' w0 : World} {A B : Option Addr} {n m p q sb mb g0 : Nat} {c : Ch} {cap : Int} {bad : Nat → Prop} {nk : Nat → Nat → Prop}
/-- What values leaves: a row; the memo may have grown. -/
def RetRow (w0 w : World) (mb : Nat) (c : Ch) (cap : Int) (bad : Nat → Prop) (nk : Nat → Nat → Prop) (l r : Nat) (e : Ending) (w' : World) : Prop :=
  ∃ g, e = .returned (.agg #[.slice (some ⟨g, 0, none⟩) (c.rl cap l) (c.rl cap l)]) ∧ Bx w' g 3 (ints (c.row cap l r)) ∧ ¬ bad g ∧ Hid (Mem w' mb c cap bad nk) ∧ Nx mb w' w ∧ Prev w' w0
/-- The solver's cells. -/
abbrev solC (A : Option Addr) (n p : Nat) (B : Option Addr) (m q : Nat) (cap : Int) (mb : Nat) : Array Value := #[.slice A n p, .slice B m q, .int .i64 m, .int .i64 cap, .map (some mb)]
/-- The contract of values, of one part. w0: a world older than the solver, which knows the chain. -/
def ValOk (w0 : World) (sb : Nat) (A : Option Addr) (n p : Nat) (B : Option Addr) (m q : Nat) (c : Ch) (cap : Int) (mb l r : Nat) : Prop :=
  ∀ (w : World) (bad : Nat → Prop) (nk : Nat → Nat → Prop), Prev w w0 → Bx w sb 98 (solC A n p B m q cap mb) → Mem w mb c cap bad nk → (∀ g, bad g → g < w.heap.size) → (∀ a b, nk a b → r - l < b - a) →
    Calls Try.prog 51 #[.pointer (some ⟨sb, 0, none⟩), .agg #[.int .i64 l, .int .i64 r]] w (RetRow w0 w mb c cap bad nk l r)
theorem ValOk.at {l r : Nat} (h : ValOk w0 sb A n p B m q c cap mb l r) (p1 : Prev w w0) [p2 : Bx w sb 98 (solC A n p B m q cap mb)] (hm : Mem w mb c cap bad nk) (h1 : ∀ g, bad g → g < w.heap.size) (h2 : ∀ a b, nk a b → r - l < b - a) :
    Calls Try.prog 51 #[.pointer (some ⟨sb, 0, none⟩), .agg #[.int .i64 l, .int .i64 r]] w (RetRow w0 w mb c cap bad nk l r) := h w bad nk p1 p2 hm h1 h2
/-- What holds while a row is lowered: W is the world ahead of it. -/
structure SI (w0 W w : World) (mb g0 : Nat) (c : Ch) (cap : Int) (bad : Nat → Prop) (nk : Nat → Nat → Prop) : Prop where
  mem : Mem w mb c cap bad nk
  keep : ∀ b, b < W.heap.size → b ≠ mb → b ≠ g0 → w.heap[b]? = W.heap[b]?
  size : W.heap.size ≤ w.heap.size
theorem SI.set {W : World} (h : SI w0 W w mb g0 c cap bad nk) (hg : bad g0) (hm : mb ≠ g0) (i : Nat) (v : Value) : SI w0 W (w.setCell ⟨g0, i, none⟩ v) mb g0 c cap bad nk :=
  ⟨h.mem.same (Below.heap_setCell w ⟨g0, i, none⟩ v mb hm) (fun b _ hb => Below.heap_setCell w ⟨g0, i, none⟩ v b (fun e => hb (by simp only at e; rw [e]; exact hg))),
    fun b hb h1 h2 => (Below.heap_setCell w ⟨g0, i, none⟩ v b h2).trans (h.keep b hb h1 h2), by simpa using h.size⟩
theorem SI.at {W : World} (h : SI w0 W w mb g0 c cap bad nk) [l : Later w w'] : SI w0 W w' mb g0 c cap bad nk :=
  ⟨h.mem.at, fun b hb h1 h2 => (l.st.block b (Nat.lt_of_lt_of_le hb h.size)).trans (h.keep b hb h1 h2), Nat.le_trans h.size l.st.size⟩
theorem SI.nx {W : World} (hm : Mem w mb c cap bad nk) [p : Nx mb w W] : SI w0 W w mb g0 c cap bad nk := ⟨hm, fun b hb h1 _ => p.keep b hb h1, p.st.size⟩
theorem field_row {w : World} (x : Option Addr) (a b : Nat) : (Instr.field 94 (.agg #[.slice x a b]) 0).run Try.prog w = .ok (.slice x a b) w := by
  simp [Instr.field, asAgg, go_sem, run_underlying Try.underlying94]
theorem cell_ints {g : Nat} {T : TypeId} {zs : List Int} [h : Bx w g T (ints zs)] {i : Nat} {z : Int} (hz : zs[i]? = some z) : w.cell? ⟨g, i, none⟩ = some (.int .i64 z) := Own.cell (T := T) h.blk hz
set_option maxRecDepth 100000 in
set_option maxHeartbeats 8000000 in
theorem ch_split {l r j k : Nat} (hok : Hid c.Ok) (ih : Hid (∀ l' r', l' < r' → r' - l' < r - l → r' ≤ c.n → ValOk w0 sb A n p B m q c cap mb l' r')) (hk : Hid (k = l + j + 1)) (hl : l < k) (hkr : k < r) (hr : r ≤ c.n)
    [a : Sl w0 A n c.W] [hp : Prev w w0] [hbx : Bx w sb 98 (solC A n p B m q cap mb)] (hm : Hid (Mem w mb c cap bad nk)) (hbad : Hid (∀ g, bad g → g < w.heap.size)) (hnk : Hid (∀ a b, nk a b → r - l ≤ b - a))
    [ho : Bx w g0 3 (ints (c.rowJ cap l r j))] (hg0 : Hid (bad g0)) {N : Nat} {cost : Int} (hneed : Hid (c.nd l r (j + 1) = (N : Int))) (hcost : Hid (c.cs l (j + 1) = cost)) (hN : N < c.rl cap l) (hc4 : cap ≤ 4096) (hw0g : w0.heap.size ≤ g0) :
    Calls Try.prog 86 #[.pointer (some ⟨sb, 0, none⟩), .agg #[.int .i64 l, .int .i64 r], .int .i64 k, .int .i64 N, .int .i64 cost, .slice (some ⟨g0, 0, none⟩) (c.rl cap l) (c.rl cap l)] w
      (fun e w' => e = .returned (.tuple #[]) ∧ SI w0 w w' mb g0 c cap bad nk ∧ Bx w' g0 3 (ints (c.rowJ cap l r (j + 1))) ∧ Prev w' w0) := by
  have CB := @cell_bx
  have CP := @cell_prev
  have FR := @field_row
  go_enter Try.func86, Try.ntmps86
  go_upto_region 1 with fail
  refine wp_region_upR w0 (fun w9 => Bx w9 w.heap.size 100 #[.int .i64 l, .int .i64 r]) (by kernel_rfl) inferInstance (fun ux _ => ?_)
  refine wpAnyH_on (i := 0) (d := 15) (v := ?_) rfl rfl (by kernel_rfl) (by kernel_rfl) (by kernel_rfl) (fun _ _ _ h => h) (by kernel_rfl) ⟨prev_bel _ _, inferInstance⟩ ?_ ?_
  rotate_left
  · rintro uu ⟨pu, r1⟩
    go_simp
    try (with_reducible rfl)
  try simp only [List.set]
  refine wpAnyH_on (i := 1) (d := 16) (v := ?_) rfl rfl (by kernel_rfl) (by kernel_rfl) (by kernel_rfl) (fun _ _ _ h => h) (by kernel_rfl) ⟨prev_bel _ _, inferInstance⟩ ?_ ?_
  rotate_left
  · rintro uu ⟨pu, r1⟩
    go_simp
    try (with_reducible rfl)
  try simp only [List.set]
  refine wpAnyH_on (i := 2) (d := 17) (v := ?_) rfl rfl (by kernel_rfl) (by kernel_rfl) (by kernel_rfl) (fun _ _ _ h => h) (by kernel_rfl) ⟨prev_bel _ _, inferInstance⟩ ?_ ?_
  rotate_left
  · rintro uu ⟨pu, r1⟩
    go_simp
    try (with_reducible rfl)
  try simp only [List.set]
  refine wpAnyH_on (i := 3) (d := 18) (v := ?_) rfl rfl (by kernel_rfl) (by kernel_rfl) (by kernel_rfl) (fun _ _ _ h => h) (by kernel_rfl) ⟨prev_bel _ _, inferInstance⟩ ?_ ?_
  rotate_left
  · rintro uu ⟨pu, r1⟩
    go_simp
    try (with_reducible rfl)
  try simp only [List.set]
  refine wpAnyH_on (i := 4) (d := 19) (v := ?_) rfl rfl (by kernel_rfl) (by kernel_rfl) (by kernel_rfl) (fun _ _ _ h => h) (by kernel_rfl) ⟨prev_bel _ _, inferInstance⟩ ?_ ?_
  rotate_left
  · rintro uu ⟨pu, r1⟩
    go_simp
    try (with_reducible rfl)
  try simp only [List.set]
  refine wpAnyH_on (i := 7) (d := 22) (v := ?_) rfl rfl (by kernel_rfl) (by kernel_rfl) (by kernel_rfl) (fun _ _ _ h => h) (by kernel_rfl) ⟨prev_bel _ _, inferInstance⟩ ?_ ?_
  rotate_left
  · rintro uu ⟨pu, r1⟩
    go_simp
    try (with_reducible rfl)
  try simp only [List.set]
  refine wpAnyH_on (i := 8) (d := 23) (v := ?_) rfl rfl (by kernel_rfl) (by kernel_rfl) (by kernel_rfl) (fun _ _ _ h => h) (by kernel_rfl) ⟨prev_bel _ _, inferInstance⟩ ?_ ?_
  rotate_left
  · rintro uu ⟨pu, r1⟩
    go_simp
    try (with_reducible rfl)
  try simp only [List.set]
  refine wpAnyH_on (i := 9) (d := 24) (v := ?_) rfl rfl (by kernel_rfl) (by kernel_rfl) (by kernel_rfl) (fun _ _ _ h => h) (by kernel_rfl) ⟨prev_bel _ _, inferInstance⟩ ?_ ?_
  rotate_left
  · rintro uu ⟨pu, r1⟩
    go_simp
    try (with_reducible rfl)
  try simp only [List.set]
  refine wpAnyH_on (i := 10) (d := 25) (v := ?_) rfl rfl (by kernel_rfl) (by kernel_rfl) (by kernel_rfl) (fun _ _ _ h => h) (by kernel_rfl) ⟨prev_bel _ _, inferInstance⟩ ?_ ?_
  rotate_left
  · rintro uu ⟨pu, r1⟩
    go_simp
    try (with_reducible rfl)
  try simp only [List.set]
  refine wpAnyH_on (i := 11) (d := 26) (v := ?_) rfl rfl (by kernel_rfl) (by kernel_rfl) (by kernel_rfl) (fun _ _ _ h => h) (by kernel_rfl) ⟨prev_bel _ _, inferInstance⟩ ?_ ?_
  rotate_left
  · rintro uu ⟨pu, r1⟩
    go_simp
    try (with_reducible rfl)
  try simp only [List.set]
  refine wpAnyH_ready (rs := [5]) (by kernel_rfl) (by simp) ?_
  refine AllReadyH.cons rfl (fun K hK => ?_) AllReadyH.nil
  go_simp
  (with_reducible refine ((ih.out k r hkr (by omega) hr).at (prev_bel _ _) hm.out.at (fun g h => Nat.lt_of_lt_of_le (hbad.out g h) later_size) (fun a b h => by have := hnk.out a b h; omega)).mono ?_)
  rintro e ux ⟨gR, rfl, kR, nbR, mR, nxR, pR⟩
  dsimp only
  refine hK.out _ _ ⟨prev_bel w0 _, inferInstance⟩ (fun hHeld => ?_)
  clear hHeld hK K
  try dsimp only [Act.put, List.setIfInBounds_toArray, List.set_cons_zero, List.set_cons_succ]
  refine wpAnyH_on (i := 6) (d := 21) (v := ?_) rfl rfl (by kernel_rfl) (by kernel_rfl) (by kernel_rfl) (fun _ _ _ h => h) (by kernel_rfl) ⟨prev_bel _ _, inferInstance⟩ ?_ ?_
  rotate_left
  · rintro uu ⟨pu, r1⟩
    go_simp
    try (with_reducible rfl)
  try simp only [List.set]
  refine wpAnyH_ready (rs := [12]) (by kernel_rfl) (by simp) ?_
  refine AllReadyH.cons rfl (fun K hK => ?_) AllReadyH.nil
  obtain ⟨u1, rfl⟩ : ∃ u1 : World, u1 = ux := ⟨_, rfl⟩
  have hs1 : (World.heap w).size ≤ u1.heap.size := Nat.le_trans later_size nxR.st.size
  go_simp
  (with_reducible refine ((ih.out l k hl (by omega) (by omega)).at pR mR.out (fun g h => Nat.lt_of_lt_of_le (hbad.out g h) hs1) (fun a b h => by have := hnk.out a b h; omega)).mono ?_)
  rintro e ux ⟨gL, rfl, kL, nbL, mL, nxL, pL⟩
  dsimp only
  refine hK.out _ _ ⟨prev_bel w0 _, inferInstance⟩ (fun hHeld => ?_)
  clear hHeld hK K
  try dsimp only [Act.put, List.setIfInBounds_toArray, List.set_cons_zero, List.set_cons_succ]
  refine wpAnyH_on (i := 13) (d := 28) (v := ?_) rfl rfl (by kernel_rfl) (by kernel_rfl) (by kernel_rfl) (fun _ _ _ h => h) (by kernel_rfl) ⟨prev_bel _ _, inferInstance⟩ ?_ ?_
  rotate_left
  · rintro uu ⟨pu, r1⟩
    go_simp
    try (with_reducible rfl)
  try simp only [List.set]
  refine wpAnyH_on (i := 14) (d := 12) (v := ?_) rfl rfl (by kernel_rfl) (by kernel_rfl) (by kernel_rfl) (fun _ _ _ h => h) (by kernel_rfl) ⟨prev_bel _ _, inferInstance⟩ ?_ ?_
  rotate_left
  · rintro uu ⟨pu, r1⟩
    go_simp
    try (with_reducible rfl)
  try simp only [List.set]
  refine wpAnyH_on (i := 15) (d := 13) (v := ?_) rfl rfl (by kernel_rfl) (by kernel_rfl) (by kernel_rfl) (fun _ _ _ h => h) (by kernel_rfl) ⟨prev_bel _ _, inferInstance⟩ ?_ ?_
  rotate_left
  · rintro uu ⟨pu, r1⟩
    go_simp
    try (with_reducible rfl)
  try simp only [List.set]
  refine wpAnyH_done (by kernel_rfl) ?_ _
  go_upto_region 3 with fail
  obtain ⟨v, rfl⟩ : ∃ v : World, v = ux := ⟨_, rfl⟩
  have hmx : Nx mb v w := ((Nx.of hm.out).trans nxR).trans nxL
  have HSI : Hid (SI w0 w v mb g0 c cap bad nk) := Lib.hid (SI.nx (W := w) (p := hmx) mL.out)
  have kg : Bx v g0 3 (ints (c.rowM cap l r j N)) := by rw [Ch.rowM_start (by rw [hneed.out]; exact Int.le_refl _)]; exact inferInstance
  have kS : Bx v sb 98 (solC A n p B m q cap mb) := inferInstance
  have kR2 : Bx v gR 3 (ints (c.row cap k r)) := inferInstance
  have hgm : mb ≠ g0 := fun e => (hmx.ne ho.blk) e.symm
  clear hmx nxR nxL mR mL hm hbx ho kR pR hp
  go_loopw [14] (fun i wr => ∃ M : Nat, N ≤ M ∧ M ≤ c.rl cap l ∧ i = .int .i64 M ∧ Hid (SI w0 w wr mb g0 c cap bad nk) ∧ Bx wr g0 3 (ints (c.rowM cap l r j M)) ∧ Bx wr sb 98 (solC A n p B m q cap mb) ∧ Bx wr gR 3 (ints (c.row cap k r)) ∧ Bx wr gL 3 (ints (c.row cap l k)) ∧ Prev wr w0) (fun i _ => c.rl cap l - (intOf i).toNat)
  case atStart => exact ⟨N, Nat.le_refl _, Nat.le_of_lt hN, rfl, HSI, kg, kS, kR2, kL, pL⟩
  case round =>
    obtain ⟨M, hNM, hM, rfl, HS, kg, kS, kR, kL, pr⟩ := hrel
    by_cases hlt : M < c.rl cap l
    · have hkn : k < n := by have := a.len; have := hok.out.len; omega
      obtain ⟨b1, o1, rfl, ob1, v1⟩ := Sl.at_w (c := c) (w := w0) (A := A) (n := n) (l := k) hkn
      have hcn := hok.out.n2
      have hw0 := hok.out.w_0 k
      have hcap : (M : Int) ≤ cap - c.kept l := by unfold Ch.rl at hlt; omega
      have hwM : c.w k ≤ (M : Int) := by
        have := hok.out.nd_w (l := l) (r := r) (j := j) (m := (M : Int)) (by rw [hneed.out]; omega)
        rwa [← hk.out] at this
      have hkk : c.kept k = c.w k := by unfold Ch.kept; rw [if_neg (by omega)]
      have hkl := hok.out.kept_0 l
      obtain ⟨D, hD⟩ : ∃ D : Nat, (M : Int) - c.w k = (D : Int) := ⟨((M : Int) - c.w k).toNat, by omega⟩
      have hDl : D < c.rl cap k := by unfold Ch.rl; rw [hkk]; omega
      have e1 : (ints (c.rowM cap l r j M))[M]? = some (.int .i64 (c.pv c.V l r (M : Int) j)) := by rw [ints_get, Ch.rowM_at hlt]; rfl
      have e2 : (ints (c.row cap k r))[D]? = some (.int .i64 (c.V k r (D : Int))) := by rw [ints_get, Ch.row_at hDl]; rfl
      have e3 : (ints (c.row cap l k))[M]? = some (.int .i64 (c.V l k (M : Int))) := by rw [ints_get, Ch.row_at hlt]; rfl
      have hM4 : M ≤ 4096 := by omega
      have hs : IntKind.i64.wrap (D : Int) = (D : Int) := by rw [IntKind.wrap_i64]; omega
      have oG : Own wr g0 3 (c.rowM cap l r j M) := kg.blk
      have nS : sb ≠ g0 := fun e => oG.ne_blk kS.blk (by decide) e.symm
      have nR : gR ≠ g0 := fun e => nbR (by rw [e]; exact hg0.out)
      have nL : gL ≠ g0 := fun e => nbL (by rw [e]; exact hg0.out)
      have m1 := hok.out.mod (l := k) (r := r) (m := (D : Int)) hkr hr
      have m2 := hok.out.mod (l := l) (r := k) (m := (M : Int)) hl (by omega)
      have m1l := m1.lo; have m1h := m1.hi (by omega); have m2l := m2.lo; have m2h := m2.hi (by omega)
      have hc0 := hok.out.cs_0 l (j + 1)
      have hc2 := hok.out.cs_2 l (j + 1)
      rw [hcost.out] at hc0 hc2
      have hj64 : ((j + 1 : Nat) : Int) ≤ 64 := by have := hk.out; omega
      obtain ⟨x1, hx1⟩ : ∃ x, c.V k r (D : Int) = x := ⟨_, rfl⟩
      obtain ⟨x2, hx2⟩ : ∃ x, c.V l k (M : Int) = x := ⟨_, rfl⟩
      obtain ⟨x3, hx3⟩ : ∃ x, c.pv c.V l r (M : Int) j = x := ⟨_, rfl⟩
      have HP : Hid (c.pv c.V l r (M : Int) (j + 1) = min x3 (cost + x1 + x2)) := Lib.hid (by
        rw [Ch.pv_take (by rw [hneed.out]; omega), hcost.out, ← hk.out, hD, hx1, hx2, hx3])
      have HAT := Lib.hid (Ch.rowM_at (c := c) (cap := cap) (l := l) (r := r) (j := j) hlt)
      rw [hx3] at e1 HAT
      rw [hx1] at e2 m1l m1h
      rw [hx2] at e3 m2l m2h
      have s1 : IntKind.i64.wrap (cost + x1) = cost + x1 := by rw [IntKind.wrap_i64]; omega
      have s2 : IntKind.i64.wrap (cost + x1 + x2) = cost + x1 + x2 := by rw [IntKind.wrap_i64]; omega
      have hg4 : w0.heap.size ≤ g0 := hw0g
      clear m1 m2 m1l m1h m2l m2h hc0 hc2 hj64 hx1 hx2 hx3 hkl hkk hwM hcap hcn hw0
      go_wp2_with fail
      refine wp_region_upR w0 (fun w9 => Bx w9 sb 98 (solC (some ⟨b1, o1, none⟩) n p B m q cap mb) ∧ Bx w9 gR 3 (ints (c.row cap k r)) ∧ Bx w9 gL 3 (ints (c.row cap l k))) (by kernel_rfl) ⟨inferInstance, inferInstance, inferInstance⟩ (fun uy _ => ?_)
      refine wpAnyH_on (i := 0) (d := 36) (v := ?_) rfl rfl (by kernel_rfl) (by kernel_rfl) (by kernel_rfl) (fun _ _ _ h => h) (by kernel_rfl) ⟨prev_bel _ _, ⟨inferInstance, inferInstance, inferInstance⟩⟩ ?_ ?_
      rotate_left
      · rintro uu ⟨pu, r1, r2, r3⟩
        go_simp
        try (with_reducible rfl)
      try simp only [List.set]
      refine wpAnyH_on (i := 1) (d := 37) (v := ?_) rfl rfl (by kernel_rfl) (by kernel_rfl) (by kernel_rfl) (fun _ _ _ h => h) (by kernel_rfl) ⟨prev_bel _ _, ⟨inferInstance, inferInstance, inferInstance⟩⟩ ?_ ?_
      rotate_left
      · rintro uu ⟨pu, r1, r2, r3⟩
        go_simp
        try (with_reducible rfl)
      try simp only [List.set]
      refine wpAnyH_on (i := 2) (d := 38) (v := ?_) rfl rfl (by kernel_rfl) (by kernel_rfl) (by kernel_rfl) (fun _ _ _ h => h) (by kernel_rfl) ⟨prev_bel _ _, ⟨inferInstance, inferInstance, inferInstance⟩⟩ ?_ ?_
      rotate_left
      · rintro uu ⟨pu, r1, r2, r3⟩
        go_simp
        try (with_reducible rfl)
      try simp only [List.set]
      refine wpAnyH_on (i := 3) (d := 39) (v := ?_) rfl rfl (by kernel_rfl) (by kernel_rfl) (by kernel_rfl) (fun _ _ _ h => h) (by kernel_rfl) ⟨prev_bel _ _, ⟨inferInstance, inferInstance, inferInstance⟩⟩ ?_ ?_
      rotate_left
      · rintro uu ⟨pu, r1, r2, r3⟩
        go_simp
        try (with_reducible rfl)
      try simp only [List.set]
      refine wpAnyH_on (i := 4) (d := 40) (v := ?_) rfl rfl (by kernel_rfl) (by kernel_rfl) (by kernel_rfl) (fun _ _ _ h => h) (by kernel_rfl) ⟨prev_bel _ _, ⟨inferInstance, inferInstance, inferInstance⟩⟩ ?_ ?_
      rotate_left
      · rintro uu ⟨pu, r1, r2, r3⟩
        go_simp
        try (with_reducible rfl)
      try simp only [List.set]
      refine wpAnyH_on (i := 6) (d := 42) (v := ?_) rfl rfl (by kernel_rfl) (by kernel_rfl) (by kernel_rfl) (fun _ _ _ h => h) (by kernel_rfl) ⟨prev_bel _ _, ⟨inferInstance, inferInstance, inferInstance⟩⟩ ?_ ?_
      rotate_left
      · rintro uu ⟨pu, r1, r2, r3⟩
        go_simp
        try (with_reducible rfl)
      try simp only [List.set]
      refine wpAnyH_on (i := 7) (d := 43) (v := ?_) rfl rfl (by kernel_rfl) (by kernel_rfl) (by kernel_rfl) (fun _ _ _ h => h) (by kernel_rfl) ⟨prev_bel _ _, ⟨inferInstance, inferInstance, inferInstance⟩⟩ ?_ ?_
      rotate_left
      · rintro uu ⟨pu, r1, r2, r3⟩
        go_simp
        try (with_reducible rfl)
      try simp only [List.set]
      refine wpAnyH_on (i := 8) (d := 44) (v := ?_) rfl rfl (by kernel_rfl) (by kernel_rfl) (by kernel_rfl) (fun _ _ _ h => h) (by kernel_rfl) ⟨prev_bel _ _, ⟨inferInstance, inferInstance, inferInstance⟩⟩ ?_ ?_
      rotate_left
      · rintro uu ⟨pu, r1, r2, r3⟩
        go_simp
        try (with_reducible rfl)
      try simp only [List.set]
      refine wpAnyH_on (i := 9) (d := 45) (v := ?_) rfl rfl (by kernel_rfl) (by kernel_rfl) (by kernel_rfl) (fun _ _ _ h => h) (by kernel_rfl) ⟨prev_bel _ _, ⟨inferInstance, inferInstance, inferInstance⟩⟩ ?_ ?_
      rotate_left
      · rintro uu ⟨pu, r1, r2, r3⟩
        go_simp
        try (with_reducible rfl)
      try simp only [List.set]
      refine wpAnyH_on (i := 10) (d := 46) (v := ?_) rfl rfl (by kernel_rfl) (by kernel_rfl) (by kernel_rfl) (fun _ _ _ h => h) (by kernel_rfl) ⟨prev_bel _ _, ⟨inferInstance, inferInstance, inferInstance⟩⟩ ?_ ?_
      rotate_left
      · rintro uu ⟨pu, r1, r2, r3⟩
        go_simp
        try (with_reducible rfl)
      try simp only [List.set]
      refine wpAnyH_on (i := 11) (d := 47) (v := ?_) rfl rfl (by kernel_rfl) (by kernel_rfl) (by kernel_rfl) (fun _ _ _ h => h) (by kernel_rfl) ⟨prev_bel _ _, ⟨inferInstance, inferInstance, inferInstance⟩⟩ ?_ ?_
      rotate_left
      · rintro uu ⟨pu, r1, r2, r3⟩
        go_simp
        try (with_reducible rfl)
      try simp only [List.set]
      refine wpAnyH_on (i := 12) (d := 48) (v := ?_) rfl rfl (by kernel_rfl) (by kernel_rfl) (by kernel_rfl) (fun _ _ _ h => h) (by kernel_rfl) ⟨prev_bel _ _, ⟨inferInstance, inferInstance, inferInstance⟩⟩ ?_ ?_
      rotate_left
      · rintro uu ⟨pu, r1, r2, r3⟩
        go_simp
        try (with_reducible rfl)
      try simp only [List.set]
      refine wpAnyH_on (i := 13) (d := 49) (v := ?_) rfl rfl (by kernel_rfl) (by kernel_rfl) (by kernel_rfl) (fun _ _ _ h => h) (by kernel_rfl) ⟨prev_bel _ _, ⟨inferInstance, inferInstance, inferInstance⟩⟩ ?_ ?_
      rotate_left
      · rintro uu ⟨pu, r1, r2, r3⟩
        go_simp
        try (with_reducible rfl)
      try simp only [List.set]
      refine wpAnyH_on (i := 14) (d := 50) (v := ?_) rfl rfl (by kernel_rfl) (by kernel_rfl) (by kernel_rfl) (fun _ _ _ h => h) (by kernel_rfl) ⟨prev_bel _ _, ⟨inferInstance, inferInstance, inferInstance⟩⟩ ?_ ?_
      rotate_left
      · rintro uu ⟨pu, r1, r2, r3⟩
        go_simp
        try (with_reducible rfl)
      try simp only [List.set]
      refine wpAnyH_on (i := 15) (d := 51) (v := ?_) rfl rfl (by kernel_rfl) (by kernel_rfl) (by kernel_rfl) (fun _ _ _ h => h) (by kernel_rfl) ⟨prev_bel _ _, ⟨inferInstance, inferInstance, inferInstance⟩⟩ ?_ ?_
      rotate_left
      · rintro uu ⟨pu, r1, r2, r3⟩
        go_simp
        try (with_reducible rfl)
      try simp only [List.set]
      refine wpAnyH_on (i := 16) (d := 52) (v := ?_) rfl rfl (by kernel_rfl) (by kernel_rfl) (by kernel_rfl) (fun _ _ _ h => h) (by kernel_rfl) ⟨prev_bel _ _, ⟨inferInstance, inferInstance, inferInstance⟩⟩ ?_ ?_
      rotate_left
      · rintro uu ⟨pu, r1, r2, r3⟩
        go_simp
        try (with_reducible rfl)
      try simp only [List.set]
      refine wpAnyH_on (i := 17) (d := 53) (v := ?_) rfl rfl (by kernel_rfl) (by kernel_rfl) (by kernel_rfl) (fun _ _ _ h => h) (by kernel_rfl) ⟨prev_bel _ _, ⟨inferInstance, inferInstance, inferInstance⟩⟩ ?_ ?_
      rotate_left
      · rintro uu ⟨pu, r1, r2, r3⟩
        go_simp
        try (with_reducible rfl)
      try simp only [List.set]
      refine wpAnyH_on (i := 18) (d := 54) (v := ?_) rfl rfl (by kernel_rfl) (by kernel_rfl) (by kernel_rfl) (fun _ _ _ h => h) (by kernel_rfl) ⟨prev_bel _ _, ⟨inferInstance, inferInstance, inferInstance⟩⟩ ?_ ?_
      rotate_left
      · rintro uu ⟨pu, r1, r2, r3⟩
        go_simp
        try (with_reducible rfl)
      try simp only [List.set]
      refine wpAnyH_on (i := 19) (d := 55) (v := ?_) rfl rfl (by kernel_rfl) (by kernel_rfl) (by kernel_rfl) (fun _ _ _ h => h) (by kernel_rfl) ⟨prev_bel _ _, ⟨inferInstance, inferInstance, inferInstance⟩⟩ ?_ ?_
      rotate_left
      · rintro uu ⟨pu, r1, r2, r3⟩
        go_simp
        try (with_reducible rfl)
      try simp only [List.set]
      refine wpAnyH_on (i := 20) (d := 56) (v := ?_) rfl rfl (by kernel_rfl) (by kernel_rfl) (by kernel_rfl) (fun _ _ _ h => h) (by kernel_rfl) ⟨prev_bel _ _, ⟨inferInstance, inferInstance, inferInstance⟩⟩ ?_ ?_
      rotate_left
      · rintro uu ⟨pu, r1, r2, r3⟩
        go_simp
        try (with_reducible rfl)
      try simp only [List.set]
      refine wpAnyH_on (i := 21) (d := 57) (v := ?_) rfl rfl (by kernel_rfl) (by kernel_rfl) (by kernel_rfl) (fun _ _ _ h => h) (by kernel_rfl) ⟨prev_bel _ _, ⟨inferInstance, inferInstance, inferInstance⟩⟩ ?_ ?_
      rotate_left
      · rintro uu ⟨pu, r1, r2, r3⟩
        go_simp
        try (with_reducible rfl)
      try simp only [List.set]
      refine wpAnyH_on (i := 22) (d := 58) (v := ?_) rfl rfl (by kernel_rfl) (by kernel_rfl) (by kernel_rfl) (fun _ _ _ h => h) (by kernel_rfl) ⟨prev_bel _ _, ⟨inferInstance, inferInstance, inferInstance⟩⟩ ?_ ?_
      rotate_left
      · rintro uu ⟨pu, r1, r2, r3⟩
        go_simp
        try (with_reducible rfl)
      try simp only [List.set]
      refine wpAnyH_on (i := 23) (d := 59) (v := ?_) rfl rfl (by kernel_rfl) (by kernel_rfl) (by kernel_rfl) (fun _ _ _ h => h) (by kernel_rfl) ⟨prev_bel _ _, ⟨inferInstance, inferInstance, inferInstance⟩⟩ ?_ ?_
      rotate_left
      · rintro uu ⟨pu, r1, r2, r3⟩
        go_simp
        try (with_reducible rfl)
      try simp only [List.set]
      refine wpAnyH_on (i := 24) (d := 60) (v := ?_) rfl rfl (by kernel_rfl) (by kernel_rfl) (by kernel_rfl) (fun _ _ _ h => h) (by kernel_rfl) ⟨prev_bel _ _, ⟨inferInstance, inferInstance, inferInstance⟩⟩ ?_ ?_
      rotate_left
      · rintro uu ⟨pu, r1, r2, r3⟩
        go_simp
        try (with_reducible rfl)
      try simp only [List.set]
      refine wpAnyH_on (i := 25) (d := 61) (v := ?_) rfl rfl (by kernel_rfl) (by kernel_rfl) (by kernel_rfl) (fun _ _ _ h => h) (by kernel_rfl) ⟨prev_bel _ _, ⟨inferInstance, inferInstance, inferInstance⟩⟩ ?_ ?_
      rotate_left
      · rintro uu ⟨pu, r1, r2, r3⟩
        go_simp
        try (with_reducible rfl)
      try simp only [List.set]
      refine wpAnyH_ready (rs := [5]) (by kernel_rfl) (by simp) ?_
      refine AllReadyH.cons rfl (fun K hK => ?_) AllReadyH.nil
      go_simp
      refine hK.out _ _ ⟨prev_bel w0 _, ⟨inferInstance, inferInstance, inferInstance⟩⟩ (fun hHeld => ?_)
      clear hHeld hK K
      try dsimp only [Act.put, List.setIfInBounds_toArray, List.set_cons_zero, List.set_cons_succ]
      refine wpAnyH_on (i := 26) (d := 62) (v := ?_) rfl rfl (by kernel_rfl) (by kernel_rfl) (by kernel_rfl) (fun _ _ _ h => h) (by kernel_rfl) ⟨prev_bel _ _, ⟨inferInstance, inferInstance, inferInstance⟩⟩ ?_ ?_
      rotate_left
      · rintro uu ⟨pu, r1, r2, r3⟩
        go_simp
        try (with_reducible rfl)
      try simp only [List.set]
      refine wpAnyH_on (i := 27) (d := 63) (v := ?_) rfl rfl (by kernel_rfl) (by kernel_rfl) (by kernel_rfl) (fun _ _ _ h => h) (by kernel_rfl) ⟨prev_bel _ _, ⟨inferInstance, inferInstance, inferInstance⟩⟩ ?_ ?_
      rotate_left
      · rintro uu ⟨pu, r1, r2, r3⟩
        go_simp
        try (with_reducible rfl)
      try simp only [List.set]
      refine wpAnyH_ready (rs := [28]) (by kernel_rfl) (by simp) ?_
      refine AllReadyH.cons rfl (fun K hK => ?_) AllReadyH.nil
      have hcg := ((oG).at (w' := uy)).cell HAT.out
      have hfg := ((oG).at (w' := uy)).frozen M
      go_simp
      refine hK.out _ _ ⟨⟨(bel w0 uy).setCell (p := ⟨g0, M, none⟩) hg4 _⟩, ⟨⟨(Bx.blk (w := uy)).far nS _⟩, ⟨(Bx.blk (w := uy)).far nR _⟩, ⟨(Bx.blk (w := uy)).far nL _⟩⟩⟩ (fun hHeld => ?_)
      clear hHeld hK K hcg hfg
      try dsimp only [Act.put, List.setIfInBounds_toArray, List.set_cons_zero, List.set_cons_succ]
      refine wpAnyH_done (by kernel_rfl) ?_ _
      go_wp2_with fail
      go_roundw
      case rel => exact ⟨M + 1, by omega, by omega, by go_num, Lib.hid ((HS.out.at (w' := uy)).set hg0.out hgm M _), ⟨by rw [← Ch.rowM_set hlt, HP.out]; exact (oG.at (w' := uy)).set_ M _⟩, ⟨(Bx.blk (w := uy)).far nS _⟩, ⟨(Bx.blk (w := uy)).far nR _⟩, ⟨(Bx.blk (w := uy)).far nL _⟩, ⟨(bel w0 uy).setCell (p := ⟨g0, M, none⟩) hg4 _⟩⟩
      case measure => simp [intOf]; omega
    · have hMe : M = c.rl cap l := by omega
      have kg2 : Bx wr g0 3 (ints (c.rowJ cap l r (j + 1))) := by rw [← Ch.rowM_end (M := M) (by omega)]; exact kg
      go_wp2_with fail
      exact ⟨rfl, .tuple #[], by simp [results, Try.results86, go_sem], rfl, HS.out, kg2, prev_bel _ _⟩
end

end Go.Proofs.Ytphcffcecncngaa
