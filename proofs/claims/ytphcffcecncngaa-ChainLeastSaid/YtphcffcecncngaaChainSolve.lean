/- newSolver; Least. -/
import Derived.Test.YtphcffcecncngaaChainVal
import Derived.Test.YtphcffcecncngaaAppend2
import Derived.Carry
namespace Go.Proofs.Ytphcffcecncngaa
open Go.RowKit

theorem heap_new (w : World) (o : Obj) : (w.alloc o).heap[w.heap.size]? = some o := by
  show (w.heap.push o)[w.heap.size]? = some o
  exact Array.getElem?_push_size
section
variable {w w' w0 : World} {A B : Option Addr} {n m p q sb mb : Nat} {c : Ch} {cap : Int}
/-- A new solver: its box, its memo, which is empty. -/
def RetSol (w : World) (A : Option Addr) (n p : Nat) (B : Option Addr) (m q : Nat) (c : Ch) (cap : Int) (e : Ending) (w' : World) : Prop :=
  ∃ sb mb, e = .returned (.pointer (some ⟨sb, 0, none⟩)) ∧ w.heap.size ≤ sb ∧ w.heap.size ≤ mb ∧ Bx w' sb 98 (solC A n p B m q cap mb) ∧ Hid (∀ nk, Mem w' mb c cap (fun _ => False) nk) ∧ Prev w' w
theorem Ch.ws_0 {j : Nat} : c.ws 0 (j + 1) = c.ws 0 j + c.w (j + 1) := by rw [Ch.ws, Nat.zero_add]
theorem Ch.Ok.ws_2 (h : c.Ok) (l : Nat) : ∀ j : Nat, c.ws l j ≤ 65536 * (j : Int)
  | 0 => by simp [Ch.ws]
  | j + 1 => by have := h.ws_2 l j; have := h.w_2 (l + j + 1); simp only [Ch.ws]; omega
set_option maxRecDepth 100000 in
set_option maxHeartbeats 8000000 in
theorem ch_solver (hok : Hid c.Ok) (hnp : n ≤ p) [a : Sl w A n c.W] [b : Sl w B m c.K] {cap' : Int} (hcap : Hid (min cap (c.enough 0 c.n) = cap')) :
    Calls Try.prog 50 #[.agg #[.slice A n p, .slice B m q], .int .i64 cap] w (RetSol w A n p B m q c cap') := by
  have CB := @cell_bx
  have CP := @cell_prev
  have h64 := hok.out.n2
  have hmn : m = c.n := b.len
  obtain rfl : n = m + 1 := by rw [hmn]; exact a.len.trans hok.out.len
  obtain ⟨A', hsl, hrd⟩ := slice_from (P := Try.prog) 22 (by kernel_rfl) (by kernel_rfl) A (m + 1) p 1 1 rfl (by omega) hnp
  have HA' : Sl w A' m (c.W.drop 1) := ⟨hrd w c.W a.len.symm a.rd, by rw [List.length_drop, ← a.len]; rfl⟩
  clear hrd
  rw [Nat.add_sub_cancel] at hsl
  have HE : Hid (min cap (2 * c.ws 0 m) = cap') := Lib.hid (by rw [← hcap.out, Ch.enough, Ch.kept, if_pos rfl, hmn]; simp)
  have hm64 : m ≤ 64 := by omega
  clear hmn h64
  have HMM := @run_makeMap Try.prog
  go_enter Try.func50, Try.ntmps50
  go_wp2_with fail
  go_loopw [5, 12] (fun s i wr => ∃ (k : Nat) (S : Int), k ≤ m ∧ i = .int .i64 k ∧ s = .int .i64 S ∧ Hid (2 * c.ws 0 k = S) ∧ Bx wr w.heap.size 24 #[.slice A (m + 1) p, .slice B m q] ∧ Prev wr w) (fun _ i _ => m - (intOf i).toNat)
  case atStart => exact ⟨0, 0, Nat.zero_le _, rfl, rfl, Lib.hid rfl, inferInstance, prev_bel _ _⟩
  case round =>
    obtain ⟨k, S, hk, rfl, rfl, HS, hx, pr⟩ := hrel
    by_cases hlt : k < m
    · obtain ⟨b1, o1, z, rfl, ob1, v1, e1⟩ := HA'.get hlt
      have hz : c.w (k + 1) = z := Ch.w_of (by have := e1.out; rw [List.getElem?_drop] at this; rw [Nat.add_comm]; exact this)
      have z0 := hok.out.w_0 (k + 1)
      have z2 := hok.out.w_2 (k + 1)
      have s0 := hok.out.ws_0 0 k
      have s2 := hok.out.ws_2 0 k
      have hS := HS.out
      have HN : Hid (2 * c.ws 0 (k + 1) = S + 2 * z) := Lib.hid (by rw [Ch.ws_0, hz]; omega)
      rw [hz] at z0 z2
      have w1 : IntKind.i64.wrap (2 * z) = 2 * z := by rw [IntKind.wrap_i64]; omega
      have w2 : IntKind.i64.wrap (S + 2 * z) = S + 2 * z := by rw [IntKind.wrap_i64]; omega
      clear hz z0 z2 s0 s2 hS e1
      go_wp2_with fail
      go_roundw
      case rel => exact ⟨k + 1, S + 2 * z, by omega, by go_num, rfl, HN, inferInstance, prev_bel _ _⟩
      case measure => simp [intOf]; omega
    · have hmin : min cap S = cap' := by rw [← HE.out, ← HS.out, show k = m from by omega]
      go_wp2_with fail
      go_ret
      have hM : ∀ nk, Mem ((wr.alloc (.map #[] 0)).alloc (.cells #[.slice A (m + 1) p, .slice B m q, .int .i64 (m : Int), .int .i64 cap', .map (some wr.heap.size)] 98)) wr.heap.size c cap' (fun _ => False) nk := fun nk => ⟨#[], 0, ((bel (wr.alloc (.map #[] 0)) _).block _ (by simp)).trans (heap_new _ _), by simp⟩
      exact ⟨wr.heap.size + 1, wr.heap.size, rfl, Nat.le_succ_of_le later_size, later_size, inferInstance, Lib.hid hM, prev_bel _ _⟩
theorem ValOk.at0 {bad : Nat → Prop} {nk : Nat → Nat → Prop} {r : Nat} (h : ValOk w0 sb A n p B m q c cap mb 0 r) (p1 : Prev w w0) [p2 : Bx w sb 98 (solC A n p B m q cap mb)] (hm : Mem w mb c cap bad nk) (h1 : ∀ g, bad g → g < w.heap.size) (h2 : ∀ a b, nk a b → r - 0 < b - a) :
    Calls Try.prog 51 #[.pointer (some ⟨sb, 0, none⟩), .agg #[.int .i64 0, .int .i64 r]] w (RetRow w0 w mb c cap bad nk 0 r) := h w bad nk p1 p2 hm h1 h2
/-- What Least returns. -/
def Ch.leastR (c : Ch) (cap : Int) : Int := if c.checkE cap = 0 then (if c.V 0 c.n cap < 1152921504606846976 then c.V 0 c.n cap else 0) else 0
def Ch.leastE (c : Ch) (cap : Int) : Int := if c.checkE cap = 0 then (if c.V 0 c.n cap < 1152921504606846976 then 0 else 26) else c.checkE cap
theorem Ch.check_ok (h : c.checkE cap = 0) : c.Ok ∧ 0 ≤ cap ∧ cap ≤ 4096 := by
  unfold Ch.checkE at h
  split at h
  · split at h
    · omega
    · exact ⟨Ch.ok_of ‹_›, by omega, by omega⟩
  · omega
theorem Ch.Ok.enough_0 (h : c.Ok) (l r : Nat) : 0 ≤ c.enough l r := by
  have := h.kept_0 l; have := h.ws_0 l (r - l); unfold Ch.enough; omega
set_option maxRecDepth 100000 in
set_option maxHeartbeats 8000000 in
theorem ch_least (hnp : n ≤ p) [a : Sl w A n c.W] [b : Sl w B m c.K] : Calls Try.prog 15 #[.agg #[.slice A n p, .slice B m q], .int .i64 cap] w (RetV w (.tuple #[.int .i64 (c.leastR cap), .int .i64 (c.leastE cap)])) := by
  have CB := @cell_bx
  have CP := @cell_prev
  have FR := @field_row
  by_cases h : c.checkE cap = 0
  rotate_left
  · have HT : Hid (c.leastR cap = 0 ∧ c.leastE cap = c.checkE cap) := Lib.hid ⟨by rw [Ch.leastR, if_neg h], by rw [Ch.leastE, if_neg h]⟩
    have h1 : (c.checkE cap != 0) = true := by rw [bne_iff_ne]; exact h
    clear h
    go_enter Try.func15, Try.ntmps15
    go_wp2_with (first | (go_at_call 49; (try first | (with_reducible refine gen_boxK3 (fun u _ _ _ _ => ?_)) | (with_reducible refine gen_boxK2 (fun u _ _ _ => ?_)) | (with_reducible refine gen_boxK (fun u _ _ => ?_))); (with_reducible refine (ch_check).mono ?_); rintro e u ⟨rfl, _⟩))
    go_ret2
    exact ⟨by rw [HT.out.1, HT.out.2]; rfl, prev_bel _ _⟩
  · obtain ⟨ok, hc0, hc4⟩ := Ch.check_ok h
    have hok := Lib.hid ok
    have hmn : m = c.n := b.len
    have hE := ok.enough_0 0 c.n
    obtain ⟨D, hD⟩ : ∃ D : Nat, min cap (c.enough 0 c.n) = (D : Int) := ⟨(min cap (c.enough 0 c.n)).toNat, by omega⟩
    have hcap := Lib.hid hD
    have hD4 : (D : Int) ≤ 4096 := by omega
    have hDrl : c.rl D 0 = D + 1 := by unfold Ch.rl Ch.kept; rw [if_pos rfl]; omega
    have hm1 : 0 < m := by rw [hmn]; exact ok.n1
    have hmr : m ≤ c.n := Nat.le_of_eq hmn
    have hV : c.V 0 m (D : Int) = c.V 0 c.n cap := by rw [hmn, ← hD]; exact ok.V_min ok.n1
    obtain ⟨x, hx⟩ : ∃ x, c.V 0 c.n cap = x := ⟨_, rfl⟩
    have e1 : (ints (c.row D 0 m))[D]? = some (.int .i64 x) := by rw [ints_get, Ch.row_at (by rw [hDrl]; omega), hV, hx]; rfl
    have HT : Hid (c.leastR cap = (if x < 1152921504606846976 then x else 0) ∧ c.leastE cap = (if x < 1152921504606846976 then 0 else 26)) := Lib.hid ⟨by rw [Ch.leastR, if_pos h, hx], by rw [Ch.leastE, if_pos h, hx]⟩
    obtain ⟨N, hN⟩ : ∃ N, c.rl D 0 = N := ⟨_, rfl⟩
    have hDN : D < N := by omega
    have HRL := Lib.hid hN
    clear hmn hE hD ok hDrl hV hx hc4 hc0 hN
    go_enter Try.func15, Try.ntmps15
    go_upto_region 4 with (first | (go_at_call 49; (try first | (with_reducible refine gen_boxK3 (fun u _ _ _ _ => ?_)) | (with_reducible refine gen_boxK2 (fun u _ _ _ => ?_)) | (with_reducible refine gen_boxK (fun u _ _ => ?_))); (with_reducible refine (ch_check).mono ?_); rintro e u ⟨rfl, _⟩))
    obtain ⟨u1, rfl⟩ : ∃ v : World, v = u := ⟨_, rfl⟩
    go_upto_region 5 with (first | (go_at_call 50; (try first | (with_reducible refine gen_boxK3 (fun u _ _ _ _ => ?_)) | (with_reducible refine gen_boxK2 (fun u _ _ _ => ?_)) | (with_reducible refine gen_boxK (fun u _ _ => ?_))); (with_reducible refine (ch_solver hok hnp hcap).mono ?_); rintro e u ⟨sb, mb, rfl, hsb, hmb, kS, HM, _⟩))
    have HVL := ch_values (w0 := u1) (sb := sb) (mb := mb) (cap := (D : Int)) hok (Int.natCast_nonneg D) hD4 hmb (A := A) (B := B) (n := n) (m := m) (p := p) (q := q) m 0 m (by omega) hm1 hmr
    refine wp_region_upR u1 (fun w9 => Bx w9 sb 98 (solC A n p B m q (D : Int) mb)) (by kernel_rfl) inferInstance (fun uz _ => ?_)
    refine wpAnyH_on (i := 0) (d := 18) (v := ?_) rfl rfl (by kernel_rfl) (by kernel_rfl) (by kernel_rfl) (fun _ _ _ h => h) (by kernel_rfl) ⟨prev_bel _ _, inferInstance⟩ ?_ ?_
    rotate_left
    · rintro uu ⟨pu, r1⟩
      go_simp
      try (with_reducible rfl)
    try simp only [List.set]
    refine wpAnyH_on (i := 1) (d := 19) (v := ?_) rfl rfl (by kernel_rfl) (by kernel_rfl) (by kernel_rfl) (fun _ _ _ h => h) (by kernel_rfl) ⟨prev_bel _ _, inferInstance⟩ ?_ ?_
    rotate_left
    · rintro uu ⟨pu, r1⟩
      go_simp
      try (with_reducible rfl)
    try simp only [List.set]
    refine wpAnyH_on (i := 2) (d := 20) (v := ?_) rfl rfl (by kernel_rfl) (by kernel_rfl) (by kernel_rfl) (fun _ _ _ h => h) (by kernel_rfl) ⟨prev_bel _ _, inferInstance⟩ ?_ ?_
    rotate_left
    · rintro uu ⟨pu, r1⟩
      go_simp
      try (with_reducible rfl)
    try simp only [List.set]
    refine wpAnyH_on (i := 3) (d := 21) (v := ?_) rfl rfl (by kernel_rfl) (by kernel_rfl) (by kernel_rfl) (fun _ _ _ h => h) (by kernel_rfl) ⟨prev_bel _ _, inferInstance⟩ ?_ ?_
    rotate_left
    · rintro uu ⟨pu, r1⟩
      go_simp
      try (with_reducible rfl)
    try simp only [List.set]
    refine wpAnyH_on (i := 4) (d := 22) (v := ?_) rfl rfl (by kernel_rfl) (by kernel_rfl) (by kernel_rfl) (fun _ _ _ h => h) (by kernel_rfl) ⟨prev_bel _ _, inferInstance⟩ ?_ ?_
    rotate_left
    · rintro uu ⟨pu, r1⟩
      go_simp
      try (with_reducible rfl)
    try simp only [List.set]
    refine wpAnyH_on (i := 5) (d := 23) (v := ?_) rfl rfl (by kernel_rfl) (by kernel_rfl) (by kernel_rfl) (fun _ _ _ h => h) (by kernel_rfl) ⟨prev_bel _ _, inferInstance⟩ ?_ ?_
    rotate_left
    · rintro uu ⟨pu, r1⟩
      go_simp
      try (with_reducible rfl)
    try simp only [List.set]
    refine wpAnyH_on (i := 8) (d := 26) (v := ?_) rfl rfl (by kernel_rfl) (by kernel_rfl) (by kernel_rfl) (fun _ _ _ h => h) (by kernel_rfl) ⟨prev_bel _ _, inferInstance⟩ ?_ ?_
    rotate_left
    · rintro uu ⟨pu, r1⟩
      go_simp
      try (with_reducible rfl)
    try simp only [List.set]
    refine wpAnyH_on (i := 9) (d := 27) (v := ?_) rfl rfl (by kernel_rfl) (by kernel_rfl) (by kernel_rfl) (fun _ _ _ h => h) (by kernel_rfl) ⟨prev_bel _ _, inferInstance⟩ ?_ ?_
    rotate_left
    · rintro uu ⟨pu, r1⟩
      go_simp
      try (with_reducible rfl)
    try simp only [List.set]
    refine wpAnyH_on (i := 10) (d := 28) (v := ?_) rfl rfl (by kernel_rfl) (by kernel_rfl) (by kernel_rfl) (fun _ _ _ h => h) (by kernel_rfl) ⟨prev_bel _ _, inferInstance⟩ ?_ ?_
    rotate_left
    · rintro uu ⟨pu, r1⟩
      go_simp
      try (with_reducible rfl)
    try simp only [List.set]
    refine wpAnyH_on (i := 11) (d := 29) (v := ?_) rfl rfl (by kernel_rfl) (by kernel_rfl) (by kernel_rfl) (fun _ _ _ h => h) (by kernel_rfl) ⟨prev_bel _ _, inferInstance⟩ ?_ ?_
    rotate_left
    · rintro uu ⟨pu, r1⟩
      go_simp
      try (with_reducible rfl)
    try simp only [List.set]
    refine wpAnyH_ready (rs := [6]) (by kernel_rfl) (by simp) ?_
    refine AllReadyH.cons rfl (fun K hK => ?_) AllReadyH.nil
    go_simp
    (with_reducible refine (HVL.at0 (prev_bel u1 uz) (bad := fun _ => False) (nk := fun _ _ => False) ((HM.out _).at (w' := uz)) (fun _ h => h.elim) (fun _ _ h => h.elim)).mono ?_)
    rintro e uz ⟨g, rfl, kR, nb, mR, nx, pR⟩
    dsimp only
    refine hK.out _ _ ⟨prev_bel u1 _, inferInstance⟩ (fun hHeld => ?_)
    clear hHeld hK K
    try dsimp only [Act.put, List.setIfInBounds_toArray, List.set_cons_zero, List.set_cons_succ]
    rw [HRL.out]
    refine wpAnyH_on (i := 7) (d := 25) (v := ?_) rfl rfl (by kernel_rfl) (by kernel_rfl) (by kernel_rfl) (fun _ _ _ h => h) (by kernel_rfl) ⟨prev_bel _ _, inferInstance⟩ ?_ ?_
    rotate_left
    · rintro uu ⟨pu, r1⟩
      go_simp
      try (with_reducible rfl)
    try simp only [List.set]
    refine wpAnyH_on (i := 12) (d := 30) (v := ?_) rfl rfl (by kernel_rfl) (by kernel_rfl) (by kernel_rfl) (fun _ _ _ h => h) (by kernel_rfl) ⟨prev_bel _ _, inferInstance⟩ ?_ ?_
    rotate_left
    · rintro uu ⟨pu, r1⟩
      go_simp
      try (with_reducible rfl)
    try simp only [List.set]
    refine wpAnyH_ready (rs := [13]) (by kernel_rfl) (by simp) ?_
    refine AllReadyH.cons rfl (fun K hK => ?_) AllReadyH.nil
    go_simp
    refine hK.out _ _ ⟨prev_bel u1 _, inferInstance⟩ (fun hHeld => ?_)
    clear hHeld hK K
    try dsimp only [Act.put, List.setIfInBounds_toArray, List.set_cons_zero, List.set_cons_succ]
    refine wpAnyH_on (i := 14) (d := 8) (v := ?_) rfl rfl (by kernel_rfl) (by kernel_rfl) (by kernel_rfl) (fun _ _ _ h => h) (by kernel_rfl) ⟨prev_bel _ _, inferInstance⟩ ?_ ?_
    rotate_left
    · rintro uu ⟨pu, r1⟩
      go_simp
      try (with_reducible rfl)
    try simp only [List.set]
    refine wpAnyH_done (by kernel_rfl) ?_ _
    go_upto_region 6 with fail
    by_cases hlt : x < 1152921504606846976
    · have HT2 : Hid (c.leastR cap = x ∧ c.leastE cap = 0) := Lib.hid ⟨by rw [HT.out.1, if_pos hlt], by rw [HT.out.2, if_pos hlt]⟩
      go_wp2_with fail
      go_ret2
      exact ⟨by rw [HT2.out.1, HT2.out.2]; rfl, prev_bel _ _⟩
    · have HT2 : Hid (c.leastR cap = 0 ∧ c.leastE cap = 26) := Lib.hid ⟨by rw [HT.out.1, if_neg hlt], by rw [HT.out.2, if_neg hlt]⟩
      go_wp2_with fail
      go_ret2
      exact ⟨by rw [HT2.out.1, HT2.out.2]; rfl, prev_bel _ _⟩
end

end Go.Proofs.Ytphcffcecncngaa
