/- solver.best. -/
import Derived.Test.YtphcffcecncngaaChainSolve
import Derived.Test.YtphcffcecncngaaChainPlanMath
namespace Go.Proofs.Ytphcffcecncngaa
open Go.RowKit

section
variable {w w' w0 : World} {A B : Option Addr} {n m p q sb mb : Nat} {c : Ch} {cap : Int}
theorem Ch.pv_hit {V : Nat → Nat → Int → Int} {l r : Nat} {m : Int} : ∀ j, c.pv V l r m j < 1152921504606846976 →
    ∃ i, i < j ∧ c.nd l r (i + 1) ≤ m ∧ c.cs l (i + 1) + V (l + i + 1) r (m - c.w (l + i + 1)) + V l (l + i + 1) m = c.pv V l r m j
  | 0, h => by simp [Ch.pv] at h
  | j + 1, h => by
    simp only [Ch.pv] at h ⊢
    by_cases e : c.nd l r (j + 1) ≤ m
    · rw [if_pos e] at h ⊢
      by_cases e2 : c.pv V l r m j ≤ c.cs l (j + 1) + V (l + j + 1) r (m - c.w (l + j + 1)) + V l (l + j + 1) m
      · rw [Int.min_eq_left e2] at h ⊢
        obtain ⟨i, h1, h2, h3⟩ := Ch.pv_hit j h
        exact ⟨i, by omega, h2, h3⟩
      · rw [Int.min_eq_right (by omega)]
        exact ⟨j, Nat.lt_succ_self j, e, rfl⟩
    · rw [if_neg e] at h ⊢
      obtain ⟨i, h1, h2, h3⟩ := Ch.pv_hit j h
      exact ⟨i, by omega, h2, h3⟩
/-- Split j + 1 is one of the least. -/
def Ch.Hit (c : Ch) (l r : Nat) (m : Int) (j : Nat) : Prop :=
  c.nd l r (j + 1) ≤ m ∧ c.cs l (j + 1) + c.V (l + j + 1) r (m - c.w (l + j + 1)) + c.V l (l + j + 1) m = c.V l r m
theorem Ch.hit {l r : Nat} {m : Int} (h : l + 1 < r) (hV : c.V l r m < 1152921504606846976) : ∃ i, i < r - l - 1 ∧ c.Hit l r m i := by
  rw [Ch.V_more h] at hV
  obtain ⟨i, h1, h2, h3⟩ := Ch.pv_hit _ hV
  exact ⟨i, h1, h2, by rw [Ch.V_more h]; exact h3⟩
/-- What best leaves. -/
def RetBest (w0 w : World) (mb : Nat) (c : Ch) (cap : Int) (l r M : Nat) (e : Ending) (w' : World) : Prop :=
  ∃ k j : Nat, Hid (k = l + j + 1) ∧ e = .returned (.int .i64 k) ∧ k < r ∧ Hid (c.Hit l r M j) ∧ Hid (Mem w' mb c cap (fun _ => False) (fun _ _ => False)) ∧ Nx mb w' w ∧ Prev w' w0
set_option maxRecDepth 100000 in
set_option maxHeartbeats 8000000 in
theorem ch_best {l r M : Nat} (hok : Hid c.Ok) (hc0 : 0 ≤ cap) (hc4 : cap ≤ 4096) (hmb0 : w0.heap.size ≤ mb) (hl : l + 1 < r) (hr : r ≤ c.n)
    [a : Sl w0 A n c.W] [b : Sl w0 B m c.K] [hp : Prev w w0] [hbx : Bx w sb 98 (solC A n p B m q cap mb)] (hm : Hid (Mem w mb c cap (fun _ => False) (fun _ _ => False))) (hM : M < c.rl cap l) (hV : Hid (c.V l r M < 1152921504606846976)) :
    Calls Try.prog 89 #[.pointer (some ⟨sb, 0, none⟩), .agg #[.int .i64 l, .int .i64 r], .int .i64 M] w (RetBest w0 w mb c cap l r M) := by
  have CB := @cell_bx
  have CP := @cell_prev
  have FR := @field_row
  have h64 := hok.out.n2
  have hmn : m = c.n := b.len
  have hnn : n = c.n + 1 := a.len.trans hok.out.len
  have HVL : ∀ l' r', l' < r' → r' ≤ c.n → ValOk w0 sb A n p B m q c cap mb l' r' := fun l' r' h1 h2 => ch_values hok hc0 hc4 hmb0 r' l' r' (by omega) h1 h2
  have HLL := HVL l r (by omega) hr
  have hrm : r ≤ m := by omega
  have hm64 : m ≤ 64 := by omega
  have HMN := Lib.hid hmn
  have HNN := Lib.hid hnn
  have HHIT := Lib.hid (Ch.hit hl hV.out)
  have hMc : (M : Int) ≤ cap - c.kept l := by unfold Ch.rl at hM; omega
  have HML := Lib.hid hM
  obtain ⟨N, hN⟩ : ∃ N, c.rl cap l = N := ⟨_, rfl⟩
  rw [hN] at hM
  obtain ⟨x, hx⟩ : ∃ x, c.V l r M = x := ⟨_, rfl⟩
  have e1 : (ints (c.row cap l r))[M]? = some (.int .i64 x) := by rw [ints_get, Ch.row_at (by rw [hN]; exact hM), hx]; rfl
  have HN := Lib.hid hN
  have HX := Lib.hid hx
  have hHV := Lib.hid HVL
  clear hmn hnn h64 hN hx HVL
  go_enter Try.func89, Try.ntmps89
  go_upto_region 3 with (go_at_call 51; (with_reducible refine gen_boxK (fun u _ _ => ?_)); (with_reducible refine (HLL.at (prev_bel w0 u) (hm.out.at (w' := u)) (fun _ h => h.elim) (fun _ _ h => h.elim)).mono ?_); rintro e v9 ⟨g, rfl, kR, nb, mR, nx, pR⟩; rw [HN.out])
  have HM9 := mR
  have nx9 : Nx mb v9 w := ((Nx.of hm.out).trans nx)
  have kS9 : Bx v9 sb 98 (solC A n p B m q cap mb) := inferInstance
  have kP9 : Bx v9 w.heap.size 100 #[.int .i64 l, .int .i64 r] := inferInstance
  have HNX := Lib.hid nx9
  clear nx9 nx kR nb e1 HN hM hm HLL
  go_wp2_with fail
  go_loopw [8, 9, 10] (fun x y z wr => ∃ (j k N2 : Nat) (C : Int), k ≤ r ∧ x = .int .i64 N2 ∧ y = .int .i64 C ∧ z = .int .i64 k ∧ Hid (k = l + j + 1) ∧ Hid (c.nd l r j = (N2 : Int)) ∧ Hid (c.cs l j = C) ∧ Hid (∀ i, i < j → ¬ c.Hit l r M i) ∧ Hid (Mem wr mb c cap (fun _ => False) (fun _ _ => False)) ∧ Hid (Nx mb wr w) ∧ Bx wr sb 98 (solC A n p B m q cap mb) ∧ Bx wr w.heap.size 100 #[.int .i64 l, .int .i64 r] ∧ Prev wr w0) (fun _ _ z _ => r - (intOf z).toNat)
  case atStart => exact ⟨0, l + 1, 0, 0, by omega, rfl, rfl, by go_num, Lib.hid rfl, Lib.hid rfl, Lib.hid rfl, Lib.hid (fun i h => absurd h (Nat.not_lt_zero i)), HM9, HNX, kS9, kP9, prev_bel _ _⟩
  case round =>
    obtain ⟨j, k, N2, C, hk, rfl, rfl, rfl, HKJ, HND, HCS, HNO, HM, HNX, kS, kP, pr⟩ := hrel
    by_cases hlt : k < r
    rotate_left
    · exfalso
      obtain ⟨i, h1, h2⟩ := HHIT.out
      have := HKJ.out
      exact HNO.out i (by omega) h2
    obtain ⟨N3, hN3⟩ : ∃ N3 : Nat, c.nd l r (j + 1) = (N3 : Int) := ⟨(c.nd l r (j + 1)).toNat, by have := Ch.nd_0 (c := c) l r (j + 1); omega⟩
    by_cases hNM : M < N3
    · exfalso
      obtain ⟨i, h1, h2⟩ := HHIT.out
      by_cases hij : i < j
      · exact HNO.out i hij h2
      · have := Ch.nd_mono (c := c) (l := l) (r := r) (i := j + 1) (j := i + 1) (by omega)
        have := h2.1
        omega
    have hlk : l < k := by have := HKJ.out; omega
    have hjr : j ≤ 64 := by have := HKJ.out; omega
    have hln : l < n := by have := HNN.out; omega
    have hkn : k < n := by have := HNN.out; omega
    obtain ⟨jl, hjl⟩ : ∃ jl, l + j = jl := ⟨_, rfl⟩
    have hjm : jl < m := by have := HKJ.out; omega
    have hN34 : N3 ≤ 196608 := by have := hok.out.nd_2 l r (j + 1); omega
    have hmax : max (N2 : Int) (c.step l r k) = (N3 : Int) := by rw [← hN3, Ch.nd, HND.out, ← HKJ.out]
    have hC0 := hok.out.cs_0 l j
    have hC2 := hok.out.cs_2 l j
    have hk0 := hok.out.k_0 jl
    have hk2 := hok.out.k_2 jl
    rw [HCS.out] at hC0 hC2
    obtain ⟨C2, hC3⟩ : ∃ C2, C + c.k jl = C2 := ⟨_, rfl⟩
    have HC2 : Hid (c.cs l (j + 1) = C2) := Lib.hid (by rw [Ch.cs, HCS.out, hjl, hC3])
    have hw4 : IntKind.i64.wrap (C + c.k jl) = C2 := by rw [hC3, IntKind.wrap_i64]; omega
    have hsub : IntKind.i64.wrap ((k : Int) - 1) = (jl : Int) := by rw [IntKind.wrap_i64]; have := HKJ.out; omega
    have HN3 := Lib.hid hN3
    -- the split's two parts
    have hwM : c.w k ≤ (M : Int) := by
      have := hok.out.nd_w (l := l) (r := r) (j := j) (m := (M : Int)) (by rw [HN3.out]; omega)
      rwa [← HKJ.out] at this
    obtain ⟨D, hD⟩ : ∃ D : Nat, (M : Int) - c.w k = (D : Int) := ⟨((M : Int) - c.w k).toNat, by omega⟩
    have hw0 := hok.out.w_0 k
    have hkk : c.kept k = c.w k := by unfold Ch.kept; rw [if_neg (by omega)]
    have hkl := hok.out.kept_0 l
    have hDl : D < c.rl cap k := by unfold Ch.rl; rw [hkk]; omega
    have e2 : (ints (c.row cap k r))[D]? = some (.int .i64 (c.V k r (D : Int))) := by rw [ints_get, Ch.row_at hDl]; rfl
    have e3 : (ints (c.row cap l k))[M]? = some (.int .i64 (c.V l k (M : Int))) := by rw [ints_get, Ch.row_at HML.out]; rfl
    have hM4 : M ≤ 4096 := by omega
    have hs : IntKind.i64.wrap (D : Int) = (D : Int) := by rw [IntKind.wrap_i64]; omega
    have m1 := hok.out.mod (l := k) (r := r) (m := (D : Int)) hlt hr
    have m2 := hok.out.mod (l := l) (r := k) (m := (M : Int)) hlk (by omega)
    have m1l := m1.lo; have m1h := m1.hi (by omega); have m2l := m2.lo; have m2h := m2.hi (by omega)
    obtain ⟨x1, hx1⟩ : ∃ x, c.V k r (D : Int) = x := ⟨_, rfl⟩
    obtain ⟨x2, hx2⟩ : ∃ x, c.V l k (M : Int) = x := ⟨_, rfl⟩
    rw [hx1] at e2 m1l m1h
    rw [hx2] at e3 m2l m2h
    have s1 : IntKind.i64.wrap (C2 + x1) = C2 + x1 := by rw [IntKind.wrap_i64]; omega
    have s2 : IntKind.i64.wrap (C2 + x1 + x2) = C2 + x1 + x2 := by rw [IntKind.wrap_i64]; omega
    have HEQ : Hid (c.Hit l r M j ↔ C2 + x1 + x2 = x) := Lib.hid (by
      unfold Ch.Hit
      rw [HC2.out, HN3.out, HX.out, ← HKJ.out, hD, hx1, hx2]
      exact ⟨fun h => h.2, fun h => ⟨by omega, h⟩⟩)
    obtain ⟨Nk, hNk⟩ : ∃ N, c.rl cap k = N := ⟨_, rfl⟩
    obtain ⟨Nl, hNl⟩ : ∃ N, c.rl cap l = N := ⟨_, rfl⟩
    rw [hNk] at hDl
    have hMl : M < Nl := by rw [← hNl]; exact HML.out
    have HNK := Lib.hid hNk
    have HNL := Lib.hid hNl
    obtain ⟨b1, o1, hB, ob1, v1⟩ := Sl.at_k (c := c) (w := w0) (A := B) (n := m) (l := jl) hjm
    obtain ⟨b2, o2, hA, ob2, v2⟩ := Sl.at_w (c := c) (w := w0) (A := A) (n := n) (l := k) hkn
    subst hA hB
    clear m1 m2 m1l m1h m2l m2h hx1 hx2 hkl hkk hw0 hwM hC0 hC2 hk0 hk2 hC3 hN3 hjl hjr hNk hNl
    go_wp2_with fail
    refine wp_region_up0 (by kernel_rfl) (fun u1 _ => ?_)
    refine wpAnyH_on (i := 0) (d := 29) (v := ?_) rfl rfl (by kernel_rfl) (by kernel_rfl) (by kernel_rfl) (fun _ _ _ h => h) (by kernel_rfl) (prev_bel _ _) ?_ ?_
    rotate_left
    · intro uu (pu : Prev uu _)
      go_simp
      try (with_reducible rfl)
    try simp only [List.set]
    refine wpAnyH_on (i := 1) (d := 30) (v := ?_) rfl rfl (by kernel_rfl) (by kernel_rfl) (by kernel_rfl) (fun _ _ _ h => h) (by kernel_rfl) (prev_bel _ _) ?_ ?_
    rotate_left
    · intro uu (pu : Prev uu _)
      go_simp
      try (with_reducible rfl)
    try simp only [List.set]
    refine wpAnyH_on (i := 2) (d := 31) (v := ?_) rfl rfl (by kernel_rfl) (by kernel_rfl) (by kernel_rfl) (fun _ _ _ h => h) (by kernel_rfl) (prev_bel _ _) ?_ ?_
    rotate_left
    · intro uu (pu : Prev uu _)
      go_simp
      try (with_reducible rfl)
    try simp only [List.set]
    refine wpAnyH_on (i := 3) (d := 32) (v := ?_) rfl rfl (by kernel_rfl) (by kernel_rfl) (by kernel_rfl) (fun _ _ _ h => h) (by kernel_rfl) (prev_bel _ _) ?_ ?_
    rotate_left
    · intro uu (pu : Prev uu _)
      go_simp
      try (with_reducible rfl)
    try simp only [List.set]
    refine wpAnyH_on (i := 4) (d := 33) (v := ?_) rfl rfl (by kernel_rfl) (by kernel_rfl) (by kernel_rfl) (fun _ _ _ h => h) (by kernel_rfl) (prev_bel _ _) ?_ ?_
    rotate_left
    · intro uu (pu : Prev uu _)
      go_simp
      try (with_reducible rfl)
    try simp only [List.set]
    refine wpAnyH_on (i := 5) (d := 34) (v := ?_) rfl rfl (by kernel_rfl) (by kernel_rfl) (by kernel_rfl) (fun _ _ _ h => h) (by kernel_rfl) (prev_bel _ _) ?_ ?_
    rotate_left
    · intro uu (pu : Prev uu _)
      go_simp
      try (with_reducible rfl)
    try simp only [List.set]
    refine wpAnyH_on (i := 6) (d := 35) (v := ?_) rfl rfl (by kernel_rfl) (by kernel_rfl) (by kernel_rfl) (fun _ _ _ h => h) (by kernel_rfl) (prev_bel _ _) ?_ ?_
    rotate_left
    · intro uu (pu : Prev uu _)
      go_simp
      try (with_reducible rfl)
    try simp only [List.set]
    refine wpAnyH_ready (rs := [7]) (by kernel_rfl) (by simp) ?_
    refine AllReadyH.cons rfl (fun K hK => ?_) AllReadyH.nil
    go_simp
    (with_reducible refine (ch_step hok hlk hlt hrm).mono ?_)
    rintro e u1 ⟨rfl, _⟩
    dsimp only
    refine hK.out _ _ (prev_bel _ _) (fun hHeld => ?_)
    clear hHeld hK K
    try dsimp only [Act.put, List.setIfInBounds_toArray, List.set_cons_zero, List.set_cons_succ]
    refine wpAnyH_on (i := 8) (d := 37) (v := ?_) rfl rfl (by kernel_rfl) (by kernel_rfl) (by kernel_rfl) (fun _ _ _ h => h) (by kernel_rfl) (prev_bel _ _) ?_ ?_
    rotate_left
    · intro uu (pu : Prev uu _)
      go_simp
      try (with_reducible rfl)
    try simp only [List.set]
    refine wpAnyH_on (i := 9) (d := 8) (v := ?_) rfl rfl (by kernel_rfl) (by kernel_rfl) (by kernel_rfl) (fun _ _ _ h => h) (by kernel_rfl) (prev_bel _ _) ?_ ?_
    rotate_left
    · intro uu (pu : Prev uu _)
      go_simp
      try (with_reducible rfl)
    try simp only [List.set]
    refine wpAnyH_done (by kernel_rfl) ?_ _
    go_upto_region 9 with fail
    refine wp_region_upR w0 (fun w9 => Bx w9 w.heap.size 100 #[.int .i64 l, .int .i64 r]) (by kernel_rfl) inferInstance (fun ux _ => ?_)
    refine wpAnyH_on (i := 0) (d := 52) (v := ?_) rfl rfl (by kernel_rfl) (by kernel_rfl) (by kernel_rfl) (fun _ _ _ h => h) (by kernel_rfl) ⟨prev_bel _ _, inferInstance⟩ ?_ ?_
    rotate_left
    · rintro uu ⟨pu, r1⟩
      go_simp
      try (with_reducible rfl)
    try simp only [List.set]
    refine wpAnyH_on (i := 1) (d := 53) (v := ?_) rfl rfl (by kernel_rfl) (by kernel_rfl) (by kernel_rfl) (fun _ _ _ h => h) (by kernel_rfl) ⟨prev_bel _ _, inferInstance⟩ ?_ ?_
    rotate_left
    · rintro uu ⟨pu, r1⟩
      go_simp
      try (with_reducible rfl)
    try simp only [List.set]
    refine wpAnyH_on (i := 2) (d := 54) (v := ?_) rfl rfl (by kernel_rfl) (by kernel_rfl) (by kernel_rfl) (fun _ _ _ h => h) (by kernel_rfl) ⟨prev_bel _ _, inferInstance⟩ ?_ ?_
    rotate_left
    · rintro uu ⟨pu, r1⟩
      go_simp
      try (with_reducible rfl)
    try simp only [List.set]
    refine wpAnyH_on (i := 3) (d := 55) (v := ?_) rfl rfl (by kernel_rfl) (by kernel_rfl) (by kernel_rfl) (fun _ _ _ h => h) (by kernel_rfl) ⟨prev_bel _ _, inferInstance⟩ ?_ ?_
    rotate_left
    · rintro uu ⟨pu, r1⟩
      go_simp
      try (with_reducible rfl)
    try simp only [List.set]
    refine wpAnyH_on (i := 4) (d := 56) (v := ?_) rfl rfl (by kernel_rfl) (by kernel_rfl) (by kernel_rfl) (fun _ _ _ h => h) (by kernel_rfl) ⟨prev_bel _ _, inferInstance⟩ ?_ ?_
    rotate_left
    · rintro uu ⟨pu, r1⟩
      go_simp
      try (with_reducible rfl)
    try simp only [List.set]
    refine wpAnyH_on (i := 7) (d := 59) (v := ?_) rfl rfl (by kernel_rfl) (by kernel_rfl) (by kernel_rfl) (fun _ _ _ h => h) (by kernel_rfl) ⟨prev_bel _ _, inferInstance⟩ ?_ ?_
    rotate_left
    · rintro uu ⟨pu, r1⟩
      go_simp
      try (with_reducible rfl)
    try simp only [List.set]
    refine wpAnyH_on (i := 8) (d := 60) (v := ?_) rfl rfl (by kernel_rfl) (by kernel_rfl) (by kernel_rfl) (fun _ _ _ h => h) (by kernel_rfl) ⟨prev_bel _ _, inferInstance⟩ ?_ ?_
    rotate_left
    · rintro uu ⟨pu, r1⟩
      go_simp
      try (with_reducible rfl)
    try simp only [List.set]
    refine wpAnyH_on (i := 9) (d := 61) (v := ?_) rfl rfl (by kernel_rfl) (by kernel_rfl) (by kernel_rfl) (fun _ _ _ h => h) (by kernel_rfl) ⟨prev_bel _ _, inferInstance⟩ ?_ ?_
    rotate_left
    · rintro uu ⟨pu, r1⟩
      go_simp
      try (with_reducible rfl)
    try simp only [List.set]
    refine wpAnyH_on (i := 10) (d := 62) (v := ?_) rfl rfl (by kernel_rfl) (by kernel_rfl) (by kernel_rfl) (fun _ _ _ h => h) (by kernel_rfl) ⟨prev_bel _ _, inferInstance⟩ ?_ ?_
    rotate_left
    · rintro uu ⟨pu, r1⟩
      go_simp
      try (with_reducible rfl)
    try simp only [List.set]
    refine wpAnyH_on (i := 11) (d := 63) (v := ?_) rfl rfl (by kernel_rfl) (by kernel_rfl) (by kernel_rfl) (fun _ _ _ h => h) (by kernel_rfl) ⟨prev_bel _ _, inferInstance⟩ ?_ ?_
    rotate_left
    · rintro uu ⟨pu, r1⟩
      go_simp
      try (with_reducible rfl)
    try simp only [List.set]
    refine wpAnyH_ready (rs := [5]) (by kernel_rfl) (by simp) ?_
    refine AllReadyH.cons rfl (fun K hK => ?_) AllReadyH.nil
    go_simp
    (with_reducible refine ((hHV.out k r hlt hr).at (prev_bel w0 ux) (HM.out.at (w' := ux)) (fun _ h => h.elim) (fun _ _ h => h.elim)).mono ?_)
    rintro e ux ⟨gR, rfl, kR, nbR, mR, nxR, pR⟩
    dsimp only
    refine hK.out _ _ ⟨prev_bel w0 _, inferInstance⟩ (fun hHeld => ?_)
    clear hHeld hK K
    try dsimp only [Act.put, List.setIfInBounds_toArray, List.set_cons_zero, List.set_cons_succ]
    rw [HNK.out]
    refine wpAnyH_on (i := 6) (d := 58) (v := ?_) rfl rfl (by kernel_rfl) (by kernel_rfl) (by kernel_rfl) (fun _ _ _ h => h) (by kernel_rfl) ⟨prev_bel _ _, inferInstance⟩ ?_ ?_
    rotate_left
    · rintro uu ⟨pu, r1⟩
      go_simp
      try (with_reducible rfl)
    try simp only [List.set]
    refine wpAnyH_ready (rs := [12]) (by kernel_rfl) (by simp) ?_
    refine AllReadyH.cons rfl (fun K hK => ?_) AllReadyH.nil
    go_simp
    (with_reducible refine ((hHV.out l k hlk (by omega)).at pR mR.out (fun _ h => h.elim) (fun _ _ h => h.elim)).mono ?_)
    rintro e ux ⟨gL, rfl, kL, nbL, mL, nxL, pL⟩
    dsimp only
    refine hK.out _ _ ⟨prev_bel w0 _, inferInstance⟩ (fun hHeld => ?_)
    clear hHeld hK K
    try dsimp only [Act.put, List.setIfInBounds_toArray, List.set_cons_zero, List.set_cons_succ]
    rw [HNL.out]
    refine wpAnyH_on (i := 13) (d := 65) (v := ?_) rfl rfl (by kernel_rfl) (by kernel_rfl) (by kernel_rfl) (fun _ _ _ h => h) (by kernel_rfl) ⟨prev_bel _ _, inferInstance⟩ ?_ ?_
    rotate_left
    · rintro uu ⟨pu, r1⟩
      go_simp
      try (with_reducible rfl)
    try simp only [List.set]
    refine wpAnyH_on (i := 14) (d := 11) (v := ?_) rfl rfl (by kernel_rfl) (by kernel_rfl) (by kernel_rfl) (fun _ _ _ h => h) (by kernel_rfl) ⟨prev_bel _ _, inferInstance⟩ ?_ ?_
    rotate_left
    · rintro uu ⟨pu, r1⟩
      go_simp
      try (with_reducible rfl)
    try simp only [List.set]
    refine wpAnyH_on (i := 15) (d := 12) (v := ?_) rfl rfl (by kernel_rfl) (by kernel_rfl) (by kernel_rfl) (fun _ _ _ h => h) (by kernel_rfl) ⟨prev_bel _ _, inferInstance⟩ ?_ ?_
    rotate_left
    · rintro uu ⟨pu, r1⟩
      go_simp
      try (with_reducible rfl)
    try simp only [List.set]
    refine wpAnyH_done (by kernel_rfl) ?_ _
    go_upto_region 10 with fail
    obtain ⟨v, rfl⟩ : ∃ v : World, v = ux := ⟨_, rfl⟩
    have hnx : Nx mb v w := ((HNX.out.trans (Nx.of HM.out)).trans nxR).trans nxL
    have HNX2 := Lib.hid hnx
    have kS2 : Bx v sb 98 (solC (some ⟨b2, o2, none⟩) n p (some ⟨b1, o1, none⟩) m q cap mb) := inferInstance
    have kP2 : Bx v w.heap.size 100 #[.int .i64 l, .int .i64 r] := inferInstance
    have kR2 : Bx v gR 3 (ints (c.row cap k r)) := inferInstance
    clear hnx nxR nxL kS kP pr pR mR kR
    have hsD : IntKind.i64.wrap ((M : Int) - c.w k) = (D : Int) := by rw [hD]; exact hs
    clear hD
    by_cases heq : C2 + x1 + x2 = x
    · have t1 : (C2 + x1 + x2 == x) = true := by simpa using heq
      have HIT := Lib.hid (HEQ.out.2 heq)
      clear heq
      refine wp_region_up0 (by kernel_rfl) (fun uz _ => ?_)
      refine wpAnyH_on (i := 0) (d := 66) (v := ?_) rfl rfl (by kernel_rfl) (by kernel_rfl) (by kernel_rfl) (fun _ _ _ h => h) (by kernel_rfl) (prev_bel _ _) ?_ ?_
      rotate_left
      · intro uu (pu : Prev uu _)
        go_simp
        try (with_reducible rfl)
      try simp only [List.set]
      refine wpAnyH_on (i := 1) (d := 67) (v := ?_) rfl rfl (by kernel_rfl) (by kernel_rfl) (by kernel_rfl) (fun _ _ _ h => h) (by kernel_rfl) (prev_bel _ _) ?_ ?_
      rotate_left
      · intro uu (pu : Prev uu _)
        go_simp
        try (with_reducible rfl)
      try simp only [List.set]
      refine wpAnyH_on (i := 2) (d := 68) (v := ?_) rfl rfl (by kernel_rfl) (by kernel_rfl) (by kernel_rfl) (fun _ _ _ h => h) (by kernel_rfl) (prev_bel _ _) ?_ ?_
      rotate_left
      · intro uu (pu : Prev uu _)
        go_simp
        try (with_reducible rfl)
      try simp only [List.set]
      refine wpAnyH_on (i := 3) (d := 69) (v := ?_) rfl rfl (by kernel_rfl) (by kernel_rfl) (by kernel_rfl) (fun _ _ _ h => h) (by kernel_rfl) (prev_bel _ _) ?_ ?_
      rotate_left
      · intro uu (pu : Prev uu _)
        go_simp
        try (with_reducible rfl)
      try simp only [List.set]
      refine wpAnyH_on (i := 4) (d := 70) (v := ?_) rfl rfl (by kernel_rfl) (by kernel_rfl) (by kernel_rfl) (fun _ _ _ h => h) (by kernel_rfl) (prev_bel _ _) ?_ ?_
      rotate_left
      · intro uu (pu : Prev uu _)
        go_simp
        try (with_reducible rfl)
      try simp only [List.set]
      refine wpAnyH_on (i := 5) (d := 71) (v := ?_) rfl rfl (by kernel_rfl) (by kernel_rfl) (by kernel_rfl) (fun _ _ _ h => h) (by kernel_rfl) (prev_bel _ _) ?_ ?_
      rotate_left
      · intro uu (pu : Prev uu _)
        go_simp
        try (with_reducible rfl)
      try simp only [List.set]
      refine wpAnyH_on (i := 6) (d := 72) (v := ?_) rfl rfl (by kernel_rfl) (by kernel_rfl) (by kernel_rfl) (fun _ _ _ h => h) (by kernel_rfl) (prev_bel _ _) ?_ ?_
      rotate_left
      · intro uu (pu : Prev uu _)
        go_simp
        try (with_reducible rfl)
      try simp only [List.set]
      refine wpAnyH_on (i := 7) (d := 73) (v := ?_) rfl rfl (by kernel_rfl) (by kernel_rfl) (by kernel_rfl) (fun _ _ _ h => h) (by kernel_rfl) (prev_bel _ _) ?_ ?_
      rotate_left
      · intro uu (pu : Prev uu _)
        go_simp
        try (with_reducible rfl)
      try simp only [List.set]
      refine wpAnyH_on (i := 8) (d := 74) (v := ?_) rfl rfl (by kernel_rfl) (by kernel_rfl) (by kernel_rfl) (fun _ _ _ h => h) (by kernel_rfl) (prev_bel _ _) ?_ ?_
      rotate_left
      · intro uu (pu : Prev uu _)
        go_simp
        try (with_reducible rfl)
      try simp only [List.set]
      refine wpAnyH_on (i := 9) (d := 75) (v := ?_) rfl rfl (by kernel_rfl) (by kernel_rfl) (by kernel_rfl) (fun _ _ _ h => h) (by kernel_rfl) (prev_bel _ _) ?_ ?_
      rotate_left
      · intro uu (pu : Prev uu _)
        go_simp
        try (with_reducible rfl)
      try simp only [List.set]
      refine wpAnyH_on (i := 10) (d := 76) (v := ?_) rfl rfl (by kernel_rfl) (by kernel_rfl) (by kernel_rfl) (fun _ _ _ h => h) (by kernel_rfl) (prev_bel _ _) ?_ ?_
      rotate_left
      · intro uu (pu : Prev uu _)
        go_simp
        try (with_reducible rfl)
      try simp only [List.set]
      refine wpAnyH_on (i := 11) (d := 77) (v := ?_) rfl rfl (by kernel_rfl) (by kernel_rfl) (by kernel_rfl) (fun _ _ _ h => h) (by kernel_rfl) (prev_bel _ _) ?_ ?_
      rotate_left
      · intro uu (pu : Prev uu _)
        go_simp
        try (with_reducible rfl)
      try simp only [List.set]
      refine wpAnyH_on (i := 12) (d := 78) (v := ?_) rfl rfl (by kernel_rfl) (by kernel_rfl) (by kernel_rfl) (fun _ _ _ h => h) (by kernel_rfl) (prev_bel _ _) ?_ ?_
      rotate_left
      · intro uu (pu : Prev uu _)
        go_simp
        try (with_reducible rfl)
      try simp only [List.set]
      refine wpAnyH_on (i := 13) (d := 79) (v := ?_) rfl rfl (by kernel_rfl) (by kernel_rfl) (by kernel_rfl) (fun _ _ _ h => h) (by kernel_rfl) (prev_bel _ _) ?_ ?_
      rotate_left
      · intro uu (pu : Prev uu _)
        go_simp
        try (with_reducible rfl)
      try simp only [List.set]
      refine wpAnyH_on (i := 14) (d := 80) (v := ?_) rfl rfl (by kernel_rfl) (by kernel_rfl) (by kernel_rfl) (fun _ _ _ h => h) (by kernel_rfl) (prev_bel _ _) ?_ ?_
      rotate_left
      · intro uu (pu : Prev uu _)
        go_simp
        try (with_reducible rfl)
      try simp only [List.set]
      refine wpAnyH_on (i := 15) (d := 81) (v := ?_) rfl rfl (by kernel_rfl) (by kernel_rfl) (by kernel_rfl) (fun _ _ _ h => h) (by kernel_rfl) (prev_bel _ _) ?_ ?_
      rotate_left
      · intro uu (pu : Prev uu _)
        go_simp
        try (with_reducible rfl)
      try simp only [List.set]
      refine wpAnyH_on (i := 16) (d := 82) (v := ?_) rfl rfl (by kernel_rfl) (by kernel_rfl) (by kernel_rfl) (fun _ _ _ h => h) (by kernel_rfl) (prev_bel _ _) ?_ ?_
      rotate_left
      · intro uu (pu : Prev uu _)
        go_simp
        try (with_reducible rfl)
      try simp only [List.set]
      refine wpAnyH_on (i := 17) (d := 83) (v := ?_) rfl rfl (by kernel_rfl) (by kernel_rfl) (by kernel_rfl) (fun _ _ _ h => h) (by kernel_rfl) (prev_bel _ _) ?_ ?_
      rotate_left
      · intro uu (pu : Prev uu _)
        go_simp
        try (with_reducible rfl)
      try simp only [List.set]
      refine wpAnyH_on (i := 18) (d := 84) (v := ?_) rfl rfl (by kernel_rfl) (by kernel_rfl) (by kernel_rfl) (fun _ _ _ h => h) (by kernel_rfl) (prev_bel _ _) ?_ ?_
      rotate_left
      · intro uu (pu : Prev uu _)
        go_simp
        try (with_reducible rfl)
      try simp only [List.set]
      refine wpAnyH_on (i := 19) (d := 85) (v := ?_) rfl rfl (by kernel_rfl) (by kernel_rfl) (by kernel_rfl) (fun _ _ _ h => h) (by kernel_rfl) (prev_bel _ _) ?_ ?_
      rotate_left
      · intro uu (pu : Prev uu _)
        go_simp
        try (with_reducible rfl)
      try simp only [List.set]
      refine wpAnyH_on (i := 20) (d := 86) (v := ?_) rfl rfl (by kernel_rfl) (by kernel_rfl) (by kernel_rfl) (fun _ _ _ h => h) (by kernel_rfl) (prev_bel _ _) ?_ ?_
      rotate_left
      · intro uu (pu : Prev uu _)
        go_simp
        try (with_reducible rfl)
      try simp only [List.set]
      refine wpAnyH_on (i := 21) (d := 87) (v := ?_) rfl rfl (by kernel_rfl) (by kernel_rfl) (by kernel_rfl) (fun _ _ _ h => h) (by kernel_rfl) (prev_bel _ _) ?_ ?_
      rotate_left
      · intro uu (pu : Prev uu _)
        go_simp
        try (with_reducible rfl)
      try simp only [List.set]
      refine wpAnyH_done (by kernel_rfl) ?_ _
      go_wp2_with fail
      go_ret
      exact ⟨k, j, HKJ, rfl, hlt, HIT, Lib.hid mL.out.at, HNX2.out.trans (Nx.of mL.out), prev_bel _ _⟩
    · have t1 : (C2 + x1 + x2 == x) = false := by simpa using heq
      have HIT := Lib.hid (fun h => heq (HEQ.out.1 h))
      clear heq
      refine wp_region_up0 (by kernel_rfl) (fun uz _ => ?_)
      refine wpAnyH_on (i := 0) (d := 66) (v := ?_) rfl rfl (by kernel_rfl) (by kernel_rfl) (by kernel_rfl) (fun _ _ _ h => h) (by kernel_rfl) (prev_bel _ _) ?_ ?_
      rotate_left
      · intro uu (pu : Prev uu _)
        go_simp
        try (with_reducible rfl)
      try simp only [List.set]
      refine wpAnyH_on (i := 1) (d := 67) (v := ?_) rfl rfl (by kernel_rfl) (by kernel_rfl) (by kernel_rfl) (fun _ _ _ h => h) (by kernel_rfl) (prev_bel _ _) ?_ ?_
      rotate_left
      · intro uu (pu : Prev uu _)
        go_simp
        try (with_reducible rfl)
      try simp only [List.set]
      refine wpAnyH_on (i := 2) (d := 68) (v := ?_) rfl rfl (by kernel_rfl) (by kernel_rfl) (by kernel_rfl) (fun _ _ _ h => h) (by kernel_rfl) (prev_bel _ _) ?_ ?_
      rotate_left
      · intro uu (pu : Prev uu _)
        go_simp
        try (with_reducible rfl)
      try simp only [List.set]
      refine wpAnyH_on (i := 3) (d := 69) (v := ?_) rfl rfl (by kernel_rfl) (by kernel_rfl) (by kernel_rfl) (fun _ _ _ h => h) (by kernel_rfl) (prev_bel _ _) ?_ ?_
      rotate_left
      · intro uu (pu : Prev uu _)
        go_simp
        try (with_reducible rfl)
      try simp only [List.set]
      refine wpAnyH_on (i := 4) (d := 70) (v := ?_) rfl rfl (by kernel_rfl) (by kernel_rfl) (by kernel_rfl) (fun _ _ _ h => h) (by kernel_rfl) (prev_bel _ _) ?_ ?_
      rotate_left
      · intro uu (pu : Prev uu _)
        go_simp
        try (with_reducible rfl)
      try simp only [List.set]
      refine wpAnyH_on (i := 5) (d := 71) (v := ?_) rfl rfl (by kernel_rfl) (by kernel_rfl) (by kernel_rfl) (fun _ _ _ h => h) (by kernel_rfl) (prev_bel _ _) ?_ ?_
      rotate_left
      · intro uu (pu : Prev uu _)
        go_simp
        try (with_reducible rfl)
      try simp only [List.set]
      refine wpAnyH_on (i := 6) (d := 72) (v := ?_) rfl rfl (by kernel_rfl) (by kernel_rfl) (by kernel_rfl) (fun _ _ _ h => h) (by kernel_rfl) (prev_bel _ _) ?_ ?_
      rotate_left
      · intro uu (pu : Prev uu _)
        go_simp
        try (with_reducible rfl)
      try simp only [List.set]
      refine wpAnyH_on (i := 7) (d := 73) (v := ?_) rfl rfl (by kernel_rfl) (by kernel_rfl) (by kernel_rfl) (fun _ _ _ h => h) (by kernel_rfl) (prev_bel _ _) ?_ ?_
      rotate_left
      · intro uu (pu : Prev uu _)
        go_simp
        try (with_reducible rfl)
      try simp only [List.set]
      refine wpAnyH_on (i := 8) (d := 74) (v := ?_) rfl rfl (by kernel_rfl) (by kernel_rfl) (by kernel_rfl) (fun _ _ _ h => h) (by kernel_rfl) (prev_bel _ _) ?_ ?_
      rotate_left
      · intro uu (pu : Prev uu _)
        go_simp
        try (with_reducible rfl)
      try simp only [List.set]
      refine wpAnyH_on (i := 9) (d := 75) (v := ?_) rfl rfl (by kernel_rfl) (by kernel_rfl) (by kernel_rfl) (fun _ _ _ h => h) (by kernel_rfl) (prev_bel _ _) ?_ ?_
      rotate_left
      · intro uu (pu : Prev uu _)
        go_simp
        try (with_reducible rfl)
      try simp only [List.set]
      refine wpAnyH_on (i := 10) (d := 76) (v := ?_) rfl rfl (by kernel_rfl) (by kernel_rfl) (by kernel_rfl) (fun _ _ _ h => h) (by kernel_rfl) (prev_bel _ _) ?_ ?_
      rotate_left
      · intro uu (pu : Prev uu _)
        go_simp
        try (with_reducible rfl)
      try simp only [List.set]
      refine wpAnyH_on (i := 11) (d := 77) (v := ?_) rfl rfl (by kernel_rfl) (by kernel_rfl) (by kernel_rfl) (fun _ _ _ h => h) (by kernel_rfl) (prev_bel _ _) ?_ ?_
      rotate_left
      · intro uu (pu : Prev uu _)
        go_simp
        try (with_reducible rfl)
      try simp only [List.set]
      refine wpAnyH_on (i := 12) (d := 78) (v := ?_) rfl rfl (by kernel_rfl) (by kernel_rfl) (by kernel_rfl) (fun _ _ _ h => h) (by kernel_rfl) (prev_bel _ _) ?_ ?_
      rotate_left
      · intro uu (pu : Prev uu _)
        go_simp
        try (with_reducible rfl)
      try simp only [List.set]
      refine wpAnyH_on (i := 13) (d := 79) (v := ?_) rfl rfl (by kernel_rfl) (by kernel_rfl) (by kernel_rfl) (fun _ _ _ h => h) (by kernel_rfl) (prev_bel _ _) ?_ ?_
      rotate_left
      · intro uu (pu : Prev uu _)
        go_simp
        try (with_reducible rfl)
      try simp only [List.set]
      refine wpAnyH_on (i := 14) (d := 80) (v := ?_) rfl rfl (by kernel_rfl) (by kernel_rfl) (by kernel_rfl) (fun _ _ _ h => h) (by kernel_rfl) (prev_bel _ _) ?_ ?_
      rotate_left
      · intro uu (pu : Prev uu _)
        go_simp
        try (with_reducible rfl)
      try simp only [List.set]
      refine wpAnyH_on (i := 15) (d := 81) (v := ?_) rfl rfl (by kernel_rfl) (by kernel_rfl) (by kernel_rfl) (fun _ _ _ h => h) (by kernel_rfl) (prev_bel _ _) ?_ ?_
      rotate_left
      · intro uu (pu : Prev uu _)
        go_simp
        try (with_reducible rfl)
      try simp only [List.set]
      refine wpAnyH_on (i := 16) (d := 82) (v := ?_) rfl rfl (by kernel_rfl) (by kernel_rfl) (by kernel_rfl) (fun _ _ _ h => h) (by kernel_rfl) (prev_bel _ _) ?_ ?_
      rotate_left
      · intro uu (pu : Prev uu _)
        go_simp
        try (with_reducible rfl)
      try simp only [List.set]
      refine wpAnyH_on (i := 17) (d := 83) (v := ?_) rfl rfl (by kernel_rfl) (by kernel_rfl) (by kernel_rfl) (fun _ _ _ h => h) (by kernel_rfl) (prev_bel _ _) ?_ ?_
      rotate_left
      · intro uu (pu : Prev uu _)
        go_simp
        try (with_reducible rfl)
      try simp only [List.set]
      refine wpAnyH_on (i := 18) (d := 84) (v := ?_) rfl rfl (by kernel_rfl) (by kernel_rfl) (by kernel_rfl) (fun _ _ _ h => h) (by kernel_rfl) (prev_bel _ _) ?_ ?_
      rotate_left
      · intro uu (pu : Prev uu _)
        go_simp
        try (with_reducible rfl)
      try simp only [List.set]
      refine wpAnyH_on (i := 19) (d := 85) (v := ?_) rfl rfl (by kernel_rfl) (by kernel_rfl) (by kernel_rfl) (fun _ _ _ h => h) (by kernel_rfl) (prev_bel _ _) ?_ ?_
      rotate_left
      · intro uu (pu : Prev uu _)
        go_simp
        try (with_reducible rfl)
      try simp only [List.set]
      refine wpAnyH_on (i := 20) (d := 86) (v := ?_) rfl rfl (by kernel_rfl) (by kernel_rfl) (by kernel_rfl) (fun _ _ _ h => h) (by kernel_rfl) (prev_bel _ _) ?_ ?_
      rotate_left
      · intro uu (pu : Prev uu _)
        go_simp
        try (with_reducible rfl)
      try simp only [List.set]
      refine wpAnyH_on (i := 21) (d := 87) (v := ?_) rfl rfl (by kernel_rfl) (by kernel_rfl) (by kernel_rfl) (fun _ _ _ h => h) (by kernel_rfl) (prev_bel _ _) ?_ ?_
      rotate_left
      · intro uu (pu : Prev uu _)
        go_simp
        try (with_reducible rfl)
      try simp only [List.set]
      refine wpAnyH_done (by kernel_rfl) ?_ _
      go_wp2_with fail
      exact ⟨⟨j + 1, k + 1, N3, C2, by omega, rfl, rfl, by go_num, Lib.hid (by rw [HKJ.out]; omega), HN3, HC2, Lib.hid (fun i hi => by
        by_cases e : i = j
        · subst e; exact HIT.out
        · exact HNO.out i (by omega)), Lib.hid (mL.out.at (w' := uz)), Lib.hid (HNX2.out.trans (Nx.of mL.out)), inferInstance, inferInstance, prev_bel _ _⟩, by simp [intOf]; omega⟩
end

end Go.Proofs.Ytphcffcecncngaa
