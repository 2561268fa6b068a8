/- writer.part. -/
import Derived.Test.YtphcffcecncngaaChainWrite
namespace Go.Proofs.Ytphcffcecncngaa
open Go.RowKit

/-- The first cell of a block. -/
class C0 (w : World) (g : Nat) (v : outParam Value) : Prop where
  eq : w.cell? ⟨g, 0, none⟩ = some v
section
variable {w w' w0 x u : World} {A B : Option Addr} {n m p q sb mb wb gs g : Nat} {c : Ch} {cap : Int} {bs : List Bool} {ps : List (Int × Int)} {v : Value}
theorem cell_c0 [h : C0 w g v] : w.cell? ⟨g, 0, none⟩ = some v := h.eq
theorem cell_old {w : World} {g i : Nat} {v : Value} (h : w.cell? ⟨g, i, none⟩ = some v) : g < w.heap.size := by
  rcases h1 : w.heap[g]? with _ | o
  · simp [World.cell?, h1] at h
  · exact (Array.getElem?_eq_some_iff.1 h1).1
instance (priority := low) C0.step [p : Prev w' w] [h : C0 w g v] : C0 w' g v := ⟨(p.st.cell (p := ⟨g, 0, none⟩) (cell_old h.eq)).trans h.eq⟩
/-- The nodes up to t are marked. -/
def Marks (n t : Nat) (bs : List Bool) : Prop := bs.length = n ∧ ∀ i, 1 ≤ i → i < n → bs[i]? = some (decide (i ≤ t))
theorem Marks.set {t : Nat} (h : Marks n t bs) : Marks n (t + 1) (bs.set (t + 1) true) := by
  refine ⟨by rw [List.length_set]; exact h.1, fun i h1 h2 => ?_⟩
  rw [List.getElem?_set]
  by_cases e : t + 1 = i
  · subst e
    rw [if_pos rfl, if_pos (by rw [h.1]; exact h2), decide_eq_true (Nat.le_refl _)]
  · rw [if_neg e, h.2 i h1 h2]
    congr 1
    by_cases e2 : i ≤ t
    · rw [decide_eq_true e2, decide_eq_true (by omega)]
    · rw [decide_eq_false e2, decide_eq_false (by omega)]
theorem Marks.same {t k : Nat} (h : Marks n t bs) (hk : k ≤ t) (h1 : 1 ≤ k) (h2 : k < n) : Marks n t (bs.set k true) := by
  rw [set_sameB]
  · exact h
  · rw [h.2 k h1 h2, decide_eq_true hk]
theorem Marks.all {t t' : Nat} (h : Marks n t bs) (h1 : n ≤ t + 1) (h2 : n ≤ t' + 1) : Marks n t' bs :=
  ⟨h.1, fun i h3 h4 => by rw [h.2 i h3 h4, decide_eq_true (by omega), decide_eq_true (by omega)]⟩
/-- What part leaves. -/
def RetPart (w0 w : World) (sb : Nat) (A : Option Addr) (n p : Nat) (B : Option Addr) (m q : Nat) (c : Ch) (cap : Int) (mb wb gs : Nat) (ps : List (Int × Int)) (l r M : Nat) (e : Ending) (w' : World) : Prop :=
  e = .returned (.tuple #[]) ∧ ∃ code bs', Hid (c.Plan l r M code) ∧ Hid (WI w0 w' sb A n p B m q c cap mb wb gs bs' (ps ++ code)) ∧ Hid (Kp mb wb gs w w') ∧ Hid (Marks n c.n bs') ∧ code.length + 130 ≤ 135 * (r - l)
/-- The contract of part, of one part. -/
def PartOk (w0 : World) (sb : Nat) (A : Option Addr) (n p : Nat) (B : Option Addr) (m q : Nat) (c : Ch) (cap : Int) (mb wb gs l r : Nat) : Prop :=
  ∀ (w : World) (bs : List Bool) (ps : List (Int × Int)) (M : Nat), Hid (WI w0 w sb A n p B m q c cap mb wb gs bs ps) → (M : Int) ≤ cap - c.kept l → Hid (c.V l r M < 1152921504606846976) → ps.length + 135 * (r - l) ≤ 100000 → Hid (Marks n (if r = c.n then l else c.n) bs) →
    Calls Try.prog 52 #[.pointer (some ⟨wb, 0, none⟩), .agg #[.int .i64 l, .int .i64 r], .int .i64 M] w (RetPart w0 w sb A n p B m q c cap mb wb gs ps l r M)
theorem PartOk.at {l r M : Nat} (h : PartOk w0 sb A n p B m q c cap mb wb gs l r) (h1 : Hid (WI w0 w sb A n p B m q c cap mb wb gs bs ps)) (h2 : (M : Int) ≤ cap - c.kept l) (h3 : Hid (c.V l r M < 1152921504606846976)) (h4 : ps.length + 135 * (r - l) ≤ 100000) (h5 : Hid (Marks n (if r = c.n then l else c.n) bs)) :
    Calls Try.prog 52 #[.pointer (some ⟨wb, 0, none⟩), .agg #[.int .i64 l, .int .i64 r], .int .i64 M] w (RetPart w0 w sb A n p B m q c cap mb wb gs ps l r M) := h w bs ps M h1 h2 h3 h4 h5
theorem Ch.single_le {l : Nat} {M : Int} (h : c.V l (l + 1) M < 1152921504606846976) : c.single l (l + 1) ≤ M := by
  rw [Ch.V_one] at h
  split at h
  · assumption
  · omega
set_option maxRecDepth 100000 in
set_option maxHeartbeats 8000000 in
theorem ch_part_one {l r : Nat} (hr1 : Hid (r = l + 1)) (hr : r ≤ c.n) (hok : Hid c.Ok) [a : Sl w0 A n c.W] [b : Sl w0 B m c.K] : PartOk w0 sb A n p B m q c cap mb wb gs l r := by
  intro w bs ps M hI hM hV hl hB
  have CB := @cell_bx
  have CP := @cell_prev
  have hmn : m = c.n := b.len
  have hnn : n = c.n + 1 := a.len.trans hok.out.len
  have hrn : r < n := by omega
  have hl64 : l ≤ 64 := by have := hr1.out; have := hok.out.n2; omega
  have hl9 : ps.length ≤ 99900 := by have := hr1.out; omega
  obtain ⟨CA, cc, kW, oI⟩ := hI.out.wr
  have hpr := hI.out.pr
  have hsb := hI.out.sol
  have t1 : ((r : Int) == (l : Int) + 1) = true := by have := hr1.out; simp; omega
  have hS := Lib.hid (Ch.single_le (c := c) (l := l) (M := M) (by rw [← hr1.out]; exact hV.out))
  have HMN := Lib.hid hmn
  have HNN := Lib.hid hnn
  clear hmn hnn
  by_cases e : r = m
  · have t2 : ((r : Int) == (m : Int)) = true := by simp; omega
    have hb1 : Hid (bs[r]? = some false) := Lib.hid (by
      rw [hB.out.2 r (by have := hr1.out; omega) hrn, if_pos (e.trans HMN.out), decide_eq_false (by have := hr1.out; omega)])
    have HE := Lib.hid (e.trans HMN.out)
    clear e
    go_enter Try.func52, Try.ntmps52
    go_wp2_with fail
    refine wp_region_up0 (by kernel_rfl) (fun u1 _ => ?_)
    refine wpAnyH_on (i := 0) (d := 14) (v := ?_) rfl rfl (by kernel_rfl) (by kernel_rfl) (by kernel_rfl) (fun _ _ _ h => h) (by kernel_rfl) (prev_bel _ _) ?_ ?_
    rotate_left
    · intro uu (pu : Prev uu _)
      go_simp
      try (with_reducible rfl)
    try simp only [List.set]
    refine wpAnyH_on (i := 1) (d := 15) (v := ?_) rfl rfl (by kernel_rfl) (by kernel_rfl) (by kernel_rfl) (fun _ _ _ h => h) (by kernel_rfl) (prev_bel _ _) ?_ ?_
    rotate_left
    · intro uu (pu : Prev uu _)
      go_simp
      try (with_reducible rfl)
    try simp only [List.set]
    refine wpAnyH_on (i := 2) (d := 16) (v := ?_) rfl rfl (by kernel_rfl) (by kernel_rfl) (by kernel_rfl) (fun _ _ _ h => h) (by kernel_rfl) (prev_bel _ _) ?_ ?_
    rotate_left
    · intro uu (pu : Prev uu _)
      go_simp
      try (with_reducible rfl)
    try simp only [List.set]
    refine wpAnyH_on (i := 3) (d := 17) (v := ?_) rfl rfl (by kernel_rfl) (by kernel_rfl) (by kernel_rfl) (fun _ _ _ h => h) (by kernel_rfl) (prev_bel _ _) ?_ ?_
    rotate_left
    · intro uu (pu : Prev uu _)
      go_simp
      try (with_reducible rfl)
    try simp only [List.set]
    refine wpAnyH_on (i := 4) (d := 18) (v := ?_) rfl rfl (by kernel_rfl) (by kernel_rfl) (by kernel_rfl) (fun _ _ _ h => h) (by kernel_rfl) (prev_bel _ _) ?_ ?_
    rotate_left
    · intro uu (pu : Prev uu _)
      go_simp
      try (with_reducible rfl)
    try simp only [List.set]
    refine wpAnyH_on (i := 5) (d := 19) (v := ?_) rfl rfl (by kernel_rfl) (by kernel_rfl) (by kernel_rfl) (fun _ _ _ h => h) (by kernel_rfl) (prev_bel _ _) ?_ ?_
    rotate_left
    · intro uu (pu : Prev uu _)
      go_simp
      try (with_reducible rfl)
    try simp only [List.set]
    refine wpAnyH_on (i := 6) (d := 20) (v := ?_) rfl rfl (by kernel_rfl) (by kernel_rfl) (by kernel_rfl) (fun _ _ _ h => h) (by kernel_rfl) (prev_bel _ _) ?_ ?_
    rotate_left
    · intro uu (pu : Prev uu _)
      go_simp
      try (with_reducible rfl)
    try simp only [List.set]
    refine wpAnyH_on (i := 7) (d := 21) (v := ?_) rfl rfl (by kernel_rfl) (by kernel_rfl) (by kernel_rfl) (fun _ _ _ h => h) (by kernel_rfl) (prev_bel _ _) ?_ ?_
    rotate_left
    · intro uu (pu : Prev uu _)
      go_simp
      try (with_reducible rfl)
    try simp only [List.set]
    refine wpAnyH_on (i := 8) (d := 22) (v := ?_) rfl rfl (by kernel_rfl) (by kernel_rfl) (by kernel_rfl) (fun _ _ _ h => h) (by kernel_rfl) (prev_bel _ _) ?_ ?_
    rotate_left
    · intro uu (pu : Prev uu _)
      go_simp
      try (with_reducible rfl)
    try simp only [List.set]
    refine wpAnyH_on (i := 9) (d := 23) (v := ?_) rfl rfl (by kernel_rfl) (by kernel_rfl) (by kernel_rfl) (fun _ _ _ h => h) (by kernel_rfl) (prev_bel _ _) ?_ ?_
    rotate_left
    · intro uu (pu : Prev uu _)
      go_simp
      try (with_reducible rfl)
    try simp only [List.set]
    refine wpAnyH_done (by kernel_rfl) ?_ _
    obtain ⟨kP, -⟩ : Bx u1 w.heap.size 100 #[.int .i64 l, .int .i64 r] ∧ True := ⟨inferInstance, trivial⟩
    obtain ⟨hI, hK⟩ : Hid (WI w0 u1 sb A n p B m q c cap mb wb gs bs ps) ∧ Hid (Kp mb wb gs w u1) := ⟨Lib.hid hI.out.at, Lib.hid Kp.of⟩
    go_wp2_with (first | (go_at_call 87; (with_reducible refine (ch_compute hI (by omega) hrn hb1).mono ?_); rintro e u ⟨rfl, hJ, h2⟩; obtain ⟨kP, hK⟩ : Bx u w.heap.size 100 #[.int .i64 l, .int .i64 r] ∧ Hid (Kp mb wb gs w u) := ⟨h2.out.bx hI.out kP (by decide) (by decide) (by decide), Lib.hid (hK.out.trans h2.out)⟩; obtain ⟨hI, -⟩ : _ ∧ True := ⟨hJ, trivial⟩; clear hJ h2) | (go_at_call 88; (with_reducible refine (ch_add hI (by (try simp); omega)).mono ?_); rintro e u ⟨rfl, hJ, h2⟩; obtain ⟨kP, hK⟩ : Bx u w.heap.size 100 #[.int .i64 l, .int .i64 r] ∧ Hid (Kp mb wb gs w u) := ⟨h2.out.bx hI.out kP (by decide) (by decide) (by decide), Lib.hid (hK.out.trans h2.out)⟩; obtain ⟨hI, -⟩ : _ ∧ True := ⟨hJ, trivial⟩; clear hJ h2))
    have hM2 := hB.out
    rw [if_pos HE.out] at hM2
    have hr2 := hr1.out
    have hln : l + 1 = c.n := by rw [← hr2]; exact HE.out
    have er : (r : Int) = (l : Int) + 1 := by omega
    refine ⟨rfl, .tuple #[], by simp [results, Try.results52, go_sem], rfl, [(1, (l : Int) + 1), (4, 0), (3, (l : Int) + 1), (5, 0), (6, (l : Int) + 1)], bs.set r true, Lib.hid (by rw [hr2]; exact .last hln hS.out), ?_, hK, Lib.hid (by rw [hr2, ← hln]; exact hM2.set), by simp; omega⟩
    have h9 := hI.out
    rw [er] at h9
    refine Lib.hid ?_
    simpa using h9
  · have t2 : ((r : Int) == (m : Int)) = false := by simp; omega
    have hne : r < c.n := by have := HMN.out; omega
    clear e
    go_enter Try.func52, Try.ntmps52
    go_wp2_with fail
    refine wp_region_up0 (by kernel_rfl) (fun u1 _ => ?_)
    refine wpAnyH_on (i := 0) (d := 14) (v := ?_) rfl rfl (by kernel_rfl) (by kernel_rfl) (by kernel_rfl) (fun _ _ _ h => h) (by kernel_rfl) (prev_bel _ _) ?_ ?_
    rotate_left
    · intro uu (pu : Prev uu _)
      go_simp
      try (with_reducible rfl)
    try simp only [List.set]
    refine wpAnyH_on (i := 1) (d := 15) (v := ?_) rfl rfl (by kernel_rfl) (by kernel_rfl) (by kernel_rfl) (fun _ _ _ h => h) (by kernel_rfl) (prev_bel _ _) ?_ ?_
    rotate_left
    · intro uu (pu : Prev uu _)
      go_simp
      try (with_reducible rfl)
    try simp only [List.set]
    refine wpAnyH_on (i := 2) (d := 16) (v := ?_) rfl rfl (by kernel_rfl) (by kernel_rfl) (by kernel_rfl) (fun _ _ _ h => h) (by kernel_rfl) (prev_bel _ _) ?_ ?_
    rotate_left
    · intro uu (pu : Prev uu _)
      go_simp
      try (with_reducible rfl)
    try simp only [List.set]
    refine wpAnyH_on (i := 3) (d := 17) (v := ?_) rfl rfl (by kernel_rfl) (by kernel_rfl) (by kernel_rfl) (fun _ _ _ h => h) (by kernel_rfl) (prev_bel _ _) ?_ ?_
    rotate_left
    · intro uu (pu : Prev uu _)
      go_simp
      try (with_reducible rfl)
    try simp only [List.set]
    refine wpAnyH_on (i := 4) (d := 18) (v := ?_) rfl rfl (by kernel_rfl) (by kernel_rfl) (by kernel_rfl) (fun _ _ _ h => h) (by kernel_rfl) (prev_bel _ _) ?_ ?_
    rotate_left
    · intro uu (pu : Prev uu _)
      go_simp
      try (with_reducible rfl)
    try simp only [List.set]
    refine wpAnyH_on (i := 5) (d := 19) (v := ?_) rfl rfl (by kernel_rfl) (by kernel_rfl) (by kernel_rfl) (fun _ _ _ h => h) (by kernel_rfl) (prev_bel _ _) ?_ ?_
    rotate_left
    · intro uu (pu : Prev uu _)
      go_simp
      try (with_reducible rfl)
    try simp only [List.set]
    refine wpAnyH_on (i := 6) (d := 20) (v := ?_) rfl rfl (by kernel_rfl) (by kernel_rfl) (by kernel_rfl) (fun _ _ _ h => h) (by kernel_rfl) (prev_bel _ _) ?_ ?_
    rotate_left
    · intro uu (pu : Prev uu _)
      go_simp
      try (with_reducible rfl)
    try simp only [List.set]
    refine wpAnyH_on (i := 7) (d := 21) (v := ?_) rfl rfl (by kernel_rfl) (by kernel_rfl) (by kernel_rfl) (fun _ _ _ h => h) (by kernel_rfl) (prev_bel _ _) ?_ ?_
    rotate_left
    · intro uu (pu : Prev uu _)
      go_simp
      try (with_reducible rfl)
    try simp only [List.set]
    refine wpAnyH_on (i := 8) (d := 22) (v := ?_) rfl rfl (by kernel_rfl) (by kernel_rfl) (by kernel_rfl) (fun _ _ _ h => h) (by kernel_rfl) (prev_bel _ _) ?_ ?_
    rotate_left
    · intro uu (pu : Prev uu _)
      go_simp
      try (with_reducible rfl)
    try simp only [List.set]
    refine wpAnyH_on (i := 9) (d := 23) (v := ?_) rfl rfl (by kernel_rfl) (by kernel_rfl) (by kernel_rfl) (fun _ _ _ h => h) (by kernel_rfl) (prev_bel _ _) ?_ ?_
    rotate_left
    · intro uu (pu : Prev uu _)
      go_simp
      try (with_reducible rfl)
    try simp only [List.set]
    refine wpAnyH_done (by kernel_rfl) ?_ _
    obtain ⟨kP, -⟩ : Bx u1 w.heap.size 100 #[.int .i64 l, .int .i64 r] ∧ True := ⟨inferInstance, trivial⟩
    obtain ⟨hI, hK⟩ : Hid (WI w0 u1 sb A n p B m q c cap mb wb gs bs ps) ∧ Hid (Kp mb wb gs w u1) := ⟨Lib.hid hI.out.at, Lib.hid Kp.of⟩
    go_wp2_with (go_at_call 88; (with_reducible refine (ch_add hI (by (try simp); omega)).mono ?_); rintro e u ⟨rfl, hJ, h2⟩; obtain ⟨kP, hK⟩ : Bx u w.heap.size 100 #[.int .i64 l, .int .i64 r] ∧ Hid (Kp mb wb gs w u) := ⟨h2.out.bx hI.out kP (by decide) (by decide) (by decide), Lib.hid (hK.out.trans h2.out)⟩; obtain ⟨hI, -⟩ : _ ∧ True := ⟨hJ, trivial⟩; clear hJ h2)
    have hM2 := hB.out
    rw [if_neg (by omega)] at hM2
    have hr2 := hr1.out
    have er : (r : Int) = (l : Int) + 1 := by omega
    refine ⟨rfl, .tuple #[], by simp [results, Try.results52, go_sem], rfl, [(6, (l : Int) + 1)], bs, Lib.hid (by rw [hr2]; exact .one (by omega) hS.out), by rw [← er]; exact hI, hK, Lib.hid hM2, by simp; omega⟩
theorem WI.c0 (h : WI w0 w sb A n p B m q c cap mb wb gs bs ps) : C0 w wb (.pointer (some ⟨sb, 0, none⟩)) := by
  obtain ⟨_, _, kW, _⟩ := h.wr
  exact ⟨kW.blk.cell 0⟩
theorem Ch.fwd_len {l r : Nat} : ∀ j, (c.fwd l r j).length ≤ 2 * j
  | 0 => by simp [Ch.fwd]
  | j + 1 => by
    have := Ch.fwd_len (l := l) (r := r) j
    simp only [Ch.fwd, List.length_append, List.length_singleton]
    split <;> simp <;> omega
theorem Ch.fwd_len_le {l r j : Nat} (h : j ≤ 64) : (c.fwd l r j).length ≤ 128 := by have := Ch.fwd_len (c := c) (l := l) (r := r) j; omega
set_option maxRecDepth 100000 in
set_option maxHeartbeats 8000000 in
theorem ch_part_more {l r : Nat} (hlr : l + 1 < r) (hr : r ≤ c.n) (hok : Hid c.Ok) (hc0 : 0 ≤ cap) (hc4 : cap ≤ 4096) [a : Sl w0 A n c.W] [b : Sl w0 B m c.K]
    (ih : Hid (∀ l' r', l' < r' → r' - l' < r - l → r' ≤ c.n → PartOk w0 sb A n p B m q c cap mb wb gs l' r')) : PartOk w0 sb A n p B m q c cap mb wb gs l r := by
  intro w bs ps M hI hM hV hl hB
  have CB := @cell_bx
  have CP := @cell_prev
  have CC := @cell_c0
  have hmn : m = c.n := b.len
  have hnn : n = c.n + 1 := a.len.trans hok.out.len
  have hrn : r < n := by omega
  have h64 := hok.out.n2
  have hl64 : l ≤ 64 := by omega
  have hr64 : r ≤ 64 := by omega
  have hl9 : ps.length ≤ 99900 := by omega
  obtain ⟨CA, cc, kW, oI⟩ := hI.out.wr
  have hpr := hI.out.pr
  have hsb := hI.out.sol
  have hmb0 := hI.out.hmb
  have t1 : ((r : Int) == (l : Int) + 1) = false := by simp; omega
  have HMN := Lib.hid hmn
  have HNN := Lib.hid hnn
  have hMl : M < c.rl cap l := by unfold Ch.rl; omega
  have hM4 : M ≤ 4096 := by have := hok.out.kept_0 l; omega
  clear hmn hnn h64
  go_enter Try.func52, Try.ntmps52
  go_wp2_with fail
  refine wp_region_upR w0 (fun w9 => Bx w9 w.heap.size 100 #[.int .i64 l, .int .i64 r] ∧ Bx w9 wb 103 #[.pointer (some ⟨sb, 0, none⟩), .slice (some ⟨gs, 0, none⟩) n n, .slice CA ps.length cc]) (by kernel_rfl) ⟨inferInstance, inferInstance⟩ (fun u1 _ => ?_)
  refine wpAnyH_on (i := 0) (d := 40) (v := ?_) rfl rfl (by kernel_rfl) (by kernel_rfl) (by kernel_rfl) (fun _ _ _ h => h) (by kernel_rfl) ⟨prev_bel _ _, ⟨inferInstance, inferInstance⟩⟩ ?_ ?_
  rotate_left
  · rintro uu ⟨pu, r1, r2⟩
    go_simp
    try (with_reducible rfl)
  try simp only [List.set]
  refine wpAnyH_on (i := 1) (d := 41) (v := ?_) rfl rfl (by kernel_rfl) (by kernel_rfl) (by kernel_rfl) (fun _ _ _ h => h) (by kernel_rfl) ⟨prev_bel _ _, ⟨inferInstance, inferInstance⟩⟩ ?_ ?_
  rotate_left
  · rintro uu ⟨pu, r1, r2⟩
    go_simp
    try (with_reducible rfl)
  try simp only [List.set]
  refine wpAnyH_on (i := 2) (d := 42) (v := ?_) rfl rfl (by kernel_rfl) (by kernel_rfl) (by kernel_rfl) (fun _ _ _ h => h) (by kernel_rfl) ⟨prev_bel _ _, ⟨inferInstance, inferInstance⟩⟩ ?_ ?_
  rotate_left
  · rintro uu ⟨pu, r1, r2⟩
    go_simp
    try (with_reducible rfl)
  try simp only [List.set]
  refine wpAnyH_on (i := 3) (d := 43) (v := ?_) rfl rfl (by kernel_rfl) (by kernel_rfl) (by kernel_rfl) (fun _ _ _ h => h) (by kernel_rfl) ⟨prev_bel _ _, ⟨inferInstance, inferInstance⟩⟩ ?_ ?_
  rotate_left
  · rintro uu ⟨pu, r1, r2⟩
    go_simp
    try (with_reducible rfl)
  try simp only [List.set]
  refine wpAnyH_on (i := 4) (d := 44) (v := ?_) rfl rfl (by kernel_rfl) (by kernel_rfl) (by kernel_rfl) (fun _ _ _ h => h) (by kernel_rfl) ⟨prev_bel _ _, ⟨inferInstance, inferInstance⟩⟩ ?_ ?_
  rotate_left
  · rintro uu ⟨pu, r1, r2⟩
    go_simp
    try (with_reducible rfl)
  try simp only [List.set]
  refine wpAnyH_on (i := 5) (d := 45) (v := ?_) rfl rfl (by kernel_rfl) (by kernel_rfl) (by kernel_rfl) (fun _ _ _ h => h) (by kernel_rfl) ⟨prev_bel _ _, ⟨inferInstance, inferInstance⟩⟩ ?_ ?_
  rotate_left
  · rintro uu ⟨pu, r1, r2⟩
    go_simp
    try (with_reducible rfl)
  try simp only [List.set]
  refine wpAnyH_ready (rs := [6]) (by kernel_rfl) (by simp) ?_
  refine AllReadyH.cons rfl (fun K hK => ?_) AllReadyH.nil
  obtain ⟨ua, rfl⟩ : ∃ ua : World, ua = u1 := ⟨_, rfl⟩
  go_simp
  (with_reducible refine (ch_best (hp := prev_bel w0 ua) (l := l) (r := r) (M := M) hok hc0 hc4 hmb0 hlr hr (Lib.hid (hI.out.mem.at (w' := ua))) hMl hV).mono ?_)
  rintro e u1 ⟨k, j, HKJ, rfl, hkr, hit, hm2, nx2, p2⟩
  dsimp only
  refine hK.out _ _ ⟨prev_bel w0 _, ⟨inferInstance, inferInstance⟩⟩ (fun hHeld => ?_)
  clear hHeld hK K
  try dsimp only [Act.put, List.setIfInBounds_toArray, List.set_cons_zero, List.set_cons_succ]
  refine wpAnyH_on (i := 7) (d := 6) (v := ?_) rfl rfl (by kernel_rfl) (by kernel_rfl) (by kernel_rfl) (fun _ _ _ h => h) (by kernel_rfl) ⟨prev_bel _ _, ⟨inferInstance, inferInstance⟩⟩ ?_ ?_
  rotate_left
  · rintro uu ⟨pu, r1, r2⟩
    go_simp
    try (with_reducible rfl)
  try simp only [List.set]
  refine wpAnyH_done (by kernel_rfl) ?_ _
  skip
  have hI0 : Hid (WI w0 u1 sb A n p B m q c cap mb wb gs bs ps) := Lib.hid ((hI.out.at (w' := ua)).nx nx2 hm2.out p2)
  have kP0 : Bx u1 w.heap.size 100 #[.int .i64 l, .int .i64 r] := inferInstance
  have hK0 : Hid (Kp mb wb gs w u1) := Lib.hid (Kp.trans (Kp.of (w' := ua)) (Kp.nx nx2))
  have hlk : l < k := by have := HKJ.out; omega
  have hk64 : k ≤ 64 := by omega
  have hj64 : j + 1 ≤ 64 := by have := HKJ.out; omega
  clear nx2 hm2 kW hsb
  go_wp2_with fail
  go_loopw [7] (fun z wr => ∃ (i id : Nat) (bs2 : List Bool), id ≤ k + 1 ∧ z = .int .i64 id ∧ Hid (id = l + i + 1) ∧ Hid (WI w0 wr sb A n p B m q c cap mb wb gs bs2 (ps ++ c.fwd l r i)) ∧ Hid (Kp mb wb gs w wr) ∧ Hid (Marks n (if r = c.n then l + i else c.n) bs2) ∧ Bx wr w.heap.size 100 #[.int .i64 l, .int .i64 r]) (fun z _ => k + 1 - (intOf z).toNat)
  case atStart => exact ⟨0, l + 1, bs, by omega, by go_num, Lib.hid rfl, by rw [Ch.fwd, List.append_nil]; exact hI0, hK0, hB, kP0⟩
  case round =>
    clear hI hpr hI0 hK0 kP0 hB p2
    obtain ⟨i, id, bs2, hid, rfl, HID, hI, hKp, hB, kP⟩ := hrel
    by_cases hlt : id ≤ k
    · have hidn : id < n := by omega
      have hi64 : i ≤ 64 := by have := HID.out; omega
      have hfl : (c.fwd l r i).length ≤ 128 := Ch.fwd_len_le hi64
      obtain ⟨v, hv⟩ : ∃ v : Bool, bs2[id]? = some v := ⟨_, hB.out.2 id (by have := HID.out; omega) hidn⟩
      have hkind : Hid ((if v then (2 : Int) else 1) = if r = c.n then 1 else 2) := Lib.hid (by
        rw [hB.out.2 id (by have := HID.out; omega) hidn] at hv
        injection hv with hv
        by_cases e : r = c.n
        · rw [if_pos e] at hv ⊢
          rw [← hv, decide_eq_false (by have := HID.out; omega)]; rfl
        · rw [if_neg e] at hv ⊢
          rw [← hv, decide_eq_true (by have := HNN.out; omega)]; rfl)
      have hb1 := Lib.hid hv
      have hmk : Hid (Marks n (if r = c.n then l + (i + 1) else c.n) (bs2.set id true)) := Lib.hid (by
        have h1 := hB.out
        by_cases e : r = c.n
        · rw [if_pos e] at h1 ⊢
          have := HID.out
          rw [this]
          exact h1.set
        · rw [if_neg e] at h1 ⊢
          exact h1.same (by have := HNN.out; omega) (by have := HID.out; omega) hidn)
      obtain ⟨d, hd⟩ : ∃ d, l + i = d := ⟨_, rfl⟩
      have hsub : IntKind.i64.wrap ((id : Int) - 1) = (d : Int) := by rw [IntKind.wrap_i64]; have := HID.out; omega
      have hpr := hI.out.pr
      have HD := Lib.hid hd
      clear hv hd
      obtain ⟨CA, cc, kW, oI⟩ := hI.out.wr
      by_cases hi0 : i = 0
      · have t2 : ((d : Int) != (l : Int)) = false := by have := HD.out; simp; omega
        have hF : Hid (c.fwd l r (i + 1) = c.fwd l r i ++ [(if r = c.n then 1 else 2, (id : Int))]) := Lib.hid (by
          rw [Ch.fwd, if_pos hi0, List.append_nil, HID.out]; simp)
        clear hi0
        go_wp2_with (go_at_call 87; (with_reducible refine (ch_compute hI (by (try simp); omega) hidn hb1).mono ?_); rintro e u ⟨rfl, hJ, h2⟩; obtain ⟨kP, hKp⟩ : Bx u w.heap.size 100 #[.int .i64 l, .int .i64 r] ∧ Hid (Kp mb wb gs w u) := ⟨h2.out.bx hI.out kP (by decide) (by decide) (by decide), Lib.hid (hKp.out.trans h2.out)⟩; obtain ⟨hI, -⟩ : _ ∧ True := ⟨hJ, trivial⟩; clear hJ h2)
        exact ⟨⟨i + 1, id + 1, bs2.set id true, by omega, by go_num, Lib.hid (by rw [HID.out]; omega), Lib.hid (by have h := hI.out; rw [hkind.out] at h; rw [hF.out]; simpa using h), hKp, hmk, kP⟩, by simp [intOf]; omega⟩
      · have t2 : ((d : Int) != (l : Int)) = true := by have := HD.out; rw [bne_iff_ne]; omega
        have hF : Hid (c.fwd l r (i + 1) = c.fwd l r i ++ [(if r = c.n then 1 else 2, (id : Int))] ++ [(3, (d : Int))]) := Lib.hid (by
          rw [Ch.fwd, if_neg hi0, HID.out, ← HD.out]; simp)
        clear hi0
        go_wp2_with (first | (go_at_call 87; (with_reducible refine (ch_compute hI (by (try simp); omega) hidn hb1).mono ?_); rintro e u ⟨rfl, hJ, h2⟩; obtain ⟨kP, hKp⟩ : Bx u w.heap.size 100 #[.int .i64 l, .int .i64 r] ∧ Hid (Kp mb wb gs w u) := ⟨h2.out.bx hI.out kP (by decide) (by decide) (by decide), Lib.hid (hKp.out.trans h2.out)⟩; obtain ⟨hI, -⟩ : _ ∧ True := ⟨hJ, trivial⟩; clear hJ h2) | (go_at_call 88; (with_reducible refine (ch_add hI (by (try simp); omega)).mono ?_); rintro e u ⟨rfl, hJ, h2⟩; obtain ⟨kP, hKp⟩ : Bx u w.heap.size 100 #[.int .i64 l, .int .i64 r] ∧ Hid (Kp mb wb gs w u) := ⟨h2.out.bx hI.out kP (by decide) (by decide) (by decide), Lib.hid (hKp.out.trans h2.out)⟩; obtain ⟨hI, -⟩ : _ ∧ True := ⟨hJ, trivial⟩; clear hJ h2))
        exact ⟨⟨i + 1, id + 1, bs2.set id true, by omega, by go_num, Lib.hid (by rw [HID.out]; omega), Lib.hid (by have h := hI.out; rw [hkind.out] at h; rw [hF.out]; simpa using h), hKp, hmk, kP⟩, by simp [intOf]; omega⟩
    · obtain rfl : i = j + 1 := by have := HID.out; have := HKJ.out; omega
      have hkn : k < n := by omega
      have hpr := hI.out.pr
      have hsb := hI.out.sol
      have hc0' := hI.out.c0
      obtain ⟨b2, o2, hA, ob2, v2⟩ := Sl.at_w (c := c) (w := w0) (A := A) (n := n) (l := k) hkn
      subst hA
      have hfl : (c.fwd l r (j + 1)).length ≤ 2 * (j + 1) := Ch.fwd_len _
      have hwM : c.w k ≤ (M : Int) := by
        have := hok.out.nd_w hit.out.1
        rwa [← HKJ.out] at this
      obtain ⟨D, hD⟩ : ∃ D : Nat, (M : Int) - c.w k = (D : Int) := ⟨((M : Int) - c.w k).toNat, by omega⟩
      have hw0 := hok.out.w_0 k
      have hkl := hok.out.kept_0 l
      have hkk : c.kept k = c.w k := by unfold Ch.kept; rw [if_neg (by omega)]
      have hD1 : (D : Int) ≤ cap - c.kept k := by rw [hkk]; omega
      have hVL := Ch.V_left hok.out (by rw [← HKJ.out]; exact hkr) hr hit.out.2 hV.out
      rw [← HKJ.out, hD] at hVL
      have hV1 := Lib.hid hVL.1
      have hV2 := Lib.hid hVL.2
      have hB2 : Hid (Marks n (if r = c.n then k else c.n) bs2) := Lib.hid (by have h := hB.out; rw [show l + (j + 1) = k from by have := HKJ.out; omega] at h; exact h)
      have hsD : IntKind.i64.wrap ((M : Int) - c.w k) = (D : Int) := by rw [hD, IntKind.wrap_i64]; omega
      have HD := Lib.hid hD
      have hlen1 : (ps ++ c.fwd l r (j + 1)).length + 135 * (r - k) ≤ 100000 := by
        have := HKJ.out
        rw [List.length_append]; omega
      clear hVL hw0 hkl hkk hwM hD hB
      go_upto_region 15 with fail
      refine wp_region_upR w0 (fun w9 => Bx w9 w.heap.size 100 #[.int .i64 l, .int .i64 r] ∧ C0 w9 wb (.pointer (some ⟨sb, 0, none⟩)) ∧ Bx w9 sb 98 (solC (some ⟨b2, o2, none⟩) n p B m q cap mb)) (by kernel_rfl) ⟨inferInstance, inferInstance, inferInstance⟩ (fun u3 _ => ?_)
      refine wpAnyH_on (i := 0) (d := 67) (v := ?_) rfl rfl (by kernel_rfl) (by kernel_rfl) (by kernel_rfl) (fun _ _ _ h => h) (by kernel_rfl) ⟨prev_bel _ _, ⟨inferInstance, inferInstance, inferInstance⟩⟩ ?_ ?_
      rotate_left
      · rintro uu ⟨pu, r1, r2, r3⟩
        go_simp
        try (with_reducible rfl)
      try simp only [List.set]
      refine wpAnyH_on (i := 1) (d := 68) (v := ?_) rfl rfl (by kernel_rfl) (by kernel_rfl) (by kernel_rfl) (fun _ _ _ h => h) (by kernel_rfl) ⟨prev_bel _ _, ⟨inferInstance, inferInstance, inferInstance⟩⟩ ?_ ?_
      rotate_left
      · rintro uu ⟨pu, r1, r2, r3⟩
        go_simp
        try (with_reducible rfl)
      try simp only [List.set]
      refine wpAnyH_on (i := 2) (d := 69) (v := ?_) rfl rfl (by kernel_rfl) (by kernel_rfl) (by kernel_rfl) (fun _ _ _ h => h) (by kernel_rfl) ⟨prev_bel _ _, ⟨inferInstance, inferInstance, inferInstance⟩⟩ ?_ ?_
      rotate_left
      · rintro uu ⟨pu, r1, r2, r3⟩
        go_simp
        try (with_reducible rfl)
      try simp only [List.set]
      refine wpAnyH_on (i := 3) (d := 70) (v := ?_) rfl rfl (by kernel_rfl) (by kernel_rfl) (by kernel_rfl) (fun _ _ _ h => h) (by kernel_rfl) ⟨prev_bel _ _, ⟨inferInstance, inferInstance, inferInstance⟩⟩ ?_ ?_
      rotate_left
      · rintro uu ⟨pu, r1, r2, r3⟩
        go_simp
        try (with_reducible rfl)
      try simp only [List.set]
      refine wpAnyH_on (i := 4) (d := 71) (v := ?_) rfl rfl (by kernel_rfl) (by kernel_rfl) (by kernel_rfl) (fun _ _ _ h => h) (by kernel_rfl) ⟨prev_bel _ _, ⟨inferInstance, inferInstance, inferInstance⟩⟩ ?_ ?_
      rotate_left
      · rintro uu ⟨pu, r1, r2, r3⟩
        go_simp
        try (with_reducible rfl)
      try simp only [List.set]
      refine wpAnyH_on (i := 5) (d := 72) (v := ?_) rfl rfl (by kernel_rfl) (by kernel_rfl) (by kernel_rfl) (fun _ _ _ h => h) (by kernel_rfl) ⟨prev_bel _ _, ⟨inferInstance, inferInstance, inferInstance⟩⟩ ?_ ?_
      rotate_left
      · rintro uu ⟨pu, r1, r2, r3⟩
        go_simp
        try (with_reducible rfl)
      try simp only [List.set]
      refine wpAnyH_on (i := 6) (d := 73) (v := ?_) rfl rfl (by kernel_rfl) (by kernel_rfl) (by kernel_rfl) (fun _ _ _ h => h) (by kernel_rfl) ⟨prev_bel _ _, ⟨inferInstance, inferInstance, inferInstance⟩⟩ ?_ ?_
      rotate_left
      · rintro uu ⟨pu, r1, r2, r3⟩
        go_simp
        try (with_reducible rfl)
      try simp only [List.set]
      refine wpAnyH_on (i := 7) (d := 74) (v := ?_) rfl rfl (by kernel_rfl) (by kernel_rfl) (by kernel_rfl) (fun _ _ _ h => h) (by kernel_rfl) ⟨prev_bel _ _, ⟨inferInstance, inferInstance, inferInstance⟩⟩ ?_ ?_
      rotate_left
      · rintro uu ⟨pu, r1, r2, r3⟩
        go_simp
        try (with_reducible rfl)
      try simp only [List.set]
      refine wpAnyH_on (i := 8) (d := 75) (v := ?_) rfl rfl (by kernel_rfl) (by kernel_rfl) (by kernel_rfl) (fun _ _ _ h => h) (by kernel_rfl) ⟨prev_bel _ _, ⟨inferInstance, inferInstance, inferInstance⟩⟩ ?_ ?_
      rotate_left
      · rintro uu ⟨pu, r1, r2, r3⟩
        go_simp
        try (with_reducible rfl)
      try simp only [List.set]
      refine wpAnyH_on (i := 9) (d := 76) (v := ?_) rfl rfl (by kernel_rfl) (by kernel_rfl) (by kernel_rfl) (fun _ _ _ h => h) (by kernel_rfl) ⟨prev_bel _ _, ⟨inferInstance, inferInstance, inferInstance⟩⟩ ?_ ?_
      rotate_left
      · rintro uu ⟨pu, r1, r2, r3⟩
        go_simp
        try (with_reducible rfl)
      try simp only [List.set]
      refine wpAnyH_on (i := 10) (d := 77) (v := ?_) rfl rfl (by kernel_rfl) (by kernel_rfl) (by kernel_rfl) (fun _ _ _ h => h) (by kernel_rfl) ⟨prev_bel _ _, ⟨inferInstance, inferInstance, inferInstance⟩⟩ ?_ ?_
      rotate_left
      · rintro uu ⟨pu, r1, r2, r3⟩
        go_simp
        try (with_reducible rfl)
      try simp only [List.set]
      refine wpAnyH_on (i := 11) (d := 78) (v := ?_) rfl rfl (by kernel_rfl) (by kernel_rfl) (by kernel_rfl) (fun _ _ _ h => h) (by kernel_rfl) ⟨prev_bel _ _, ⟨inferInstance, inferInstance, inferInstance⟩⟩ ?_ ?_
      rotate_left
      · rintro uu ⟨pu, r1, r2, r3⟩
        go_simp
        try (with_reducible rfl)
      try simp only [List.set]
      refine wpAnyH_on (i := 12) (d := 79) (v := ?_) rfl rfl (by kernel_rfl) (by kernel_rfl) (by kernel_rfl) (fun _ _ _ h => h) (by kernel_rfl) ⟨prev_bel _ _, ⟨inferInstance, inferInstance, inferInstance⟩⟩ ?_ ?_
      rotate_left
      · rintro uu ⟨pu, r1, r2, r3⟩
        go_simp
        try (with_reducible rfl)
      try simp only [List.set]
      refine wpAnyH_on (i := 13) (d := 80) (v := ?_) rfl rfl (by kernel_rfl) (by kernel_rfl) (by kernel_rfl) (fun _ _ _ h => h) (by kernel_rfl) ⟨prev_bel _ _, ⟨inferInstance, inferInstance, inferInstance⟩⟩ ?_ ?_
      rotate_left
      · rintro uu ⟨pu, r1, r2, r3⟩
        go_simp
        try (with_reducible rfl)
      try simp only [List.set]
      refine wpAnyH_on (i := 14) (d := 81) (v := ?_) rfl rfl (by kernel_rfl) (by kernel_rfl) (by kernel_rfl) (fun _ _ _ h => h) (by kernel_rfl) ⟨prev_bel _ _, ⟨inferInstance, inferInstance, inferInstance⟩⟩ ?_ ?_
      rotate_left
      · rintro uu ⟨pu, r1, r2, r3⟩
        go_simp
        try (with_reducible rfl)
      try simp only [List.set]
      refine wpAnyH_on (i := 15) (d := 82) (v := ?_) rfl rfl (by kernel_rfl) (by kernel_rfl) (by kernel_rfl) (fun _ _ _ h => h) (by kernel_rfl) ⟨prev_bel _ _, ⟨inferInstance, inferInstance, inferInstance⟩⟩ ?_ ?_
      rotate_left
      · rintro uu ⟨pu, r1, r2, r3⟩
        go_simp
        try (with_reducible rfl)
      try simp only [List.set]
      refine wpAnyH_on (i := 16) (d := 83) (v := ?_) rfl rfl (by kernel_rfl) (by kernel_rfl) (by kernel_rfl) (fun _ _ _ h => h) (by kernel_rfl) ⟨prev_bel _ _, ⟨inferInstance, inferInstance, inferInstance⟩⟩ ?_ ?_
      rotate_left
      · rintro uu ⟨pu, r1, r2, r3⟩
        go_simp
        try (with_reducible rfl)
      try simp only [List.set]
      refine wpAnyH_on (i := 17) (d := 84) (v := ?_) rfl rfl (by kernel_rfl) (by kernel_rfl) (by kernel_rfl) (fun _ _ _ h => h) (by kernel_rfl) ⟨prev_bel _ _, ⟨inferInstance, inferInstance, inferInstance⟩⟩ ?_ ?_
      rotate_left
      · rintro uu ⟨pu, r1, r2, r3⟩
        go_simp
        try (with_reducible rfl)
      try simp only [List.set]
      refine wpAnyH_ready (rs := [18]) (by kernel_rfl) (by simp) ?_
      refine AllReadyH.cons rfl (fun K hK => ?_) AllReadyH.nil
      go_simp
      (with_reducible refine ((ih.out k r hkr (by omega) hr).at (bs := bs2) (ps := ps ++ c.fwd l r (j + 1)) (M := D) (Lib.hid (hI.out.at (w' := u3))) hD1 hV1 hlen1 hB2).mono ?_)
      rintro e u4 ⟨rfl, code1, bs3, hp1, hI3, hK3, hm3, hl3⟩
      have p4 := hI3.out.pr
      have kP4 : Bx u4 w.heap.size 100 #[.int .i64 l, .int .i64 r] := hK3.out.bx (hI.out.at (w' := u3)) inferInstance (by decide) (by decide) (by decide)
      have s4 := hI3.out.sol
      have c4 := hI3.out.c0
      dsimp only
      refine hK.out _ _ ⟨prev_bel w0 _, kP4, c4, s4⟩ (fun hHeld => ?_)
      clear hHeld hK K
      try dsimp only [Act.put, List.setIfInBounds_toArray, List.set_cons_zero, List.set_cons_succ]
      refine wpAnyH_done (by kernel_rfl) ?_ _
      skip
      obtain ⟨hI, hKp, kP⟩ : Hid (WI w0 u4 sb (some ⟨b2, o2, none⟩) n p B m q c cap mb wb gs bs3 (ps ++ c.fwd l r (j + 1) ++ code1)) ∧ Hid (Kp mb wb gs w u4) ∧ Bx u4 w.heap.size 100 #[.int .i64 l, .int .i64 r] := ⟨hI3, Lib.hid ((hKp.out.trans (Kp.of (w' := u3))).trans hK3.out), kP4⟩
      have hB3 : Hid (Marks n (if k = c.n then l else c.n) bs3) := Lib.hid (by rw [if_neg (by omega)]; exact hm3.out)
      have hlen2 : (ps ++ c.fwd l r (j + 1) ++ code1 ++ [(3, (k : Int))]).length + 135 * (k - l) ≤ 100000 := by
        have := HKJ.out
        simp only [List.length_append, List.length_singleton]; omega
      have hlen3 : (ps ++ c.fwd l r (j + 1) ++ code1).length ≤ 1000000 := by simp only [List.length_append, List.length_singleton] at hlen2 ⊢; omega
      clear hlen1 hI3 hK3 kP4
      go_wp2_with (first | (go_at_call 88; (with_reducible refine (ch_add hI hlen3).mono ?_); rintro e u ⟨rfl, hJ, h2⟩; obtain ⟨kP, hKp⟩ : Bx u w.heap.size 100 #[.int .i64 l, .int .i64 r] ∧ Hid (Kp mb wb gs w u) := ⟨h2.out.bx hI.out kP (by decide) (by decide) (by decide), Lib.hid (hKp.out.trans h2.out)⟩; obtain ⟨hI, -⟩ : _ ∧ True := ⟨hJ, trivial⟩; clear hJ h2) | (go_at_call 52; (with_reducible refine ((ih.out l k hlk (by omega) (by omega)).at (bs := bs3) (M := M) hI hM hV2 hlen2 hB3).mono ?_); rintro e u5 ⟨rfl, code2, bs4, hp2, hI5, hK5, hm4, hl4⟩))
      have hkj := HKJ.out
      have hkI : (k : Int) = (l : Int) + j + 1 := by omega
      refine ⟨rfl, .tuple #[], by simp [results, Try.results52, go_sem], rfl, c.fwd l r (j + 1) ++ code1 ++ [(3, (l : Int) + j + 1)] ++ code2, bs4, Lib.hid (.split (by omega) hr hit.out.1 hit.out.2 ?_ ?_), Lib.hid ?_, Lib.hid (hKp.out.trans hK5.out), hm4, ?_⟩
      · have := hp1.out; rw [← HD.out, hkj] at this; exact this
      · have := hp2.out; rw [hkj] at this; exact this
      · have h := hI5.out; rw [hkI] at h; simpa using h
      · simp only [List.length_append, List.length_singleton]; omega
/-- part, of every part. -/
theorem ch_part (hok : Hid c.Ok) (hc0 : 0 ≤ cap) (hc4 : cap ≤ 4096) [a : Sl w0 A n c.W] [b : Sl w0 B m c.K] : ∀ (s l r : Nat), r - l ≤ s → l < r → r ≤ c.n → PartOk w0 sb A n p B m q c cap mb wb gs l r
  | 0, l, r, hs, hl, _ => by omega
  | s + 1, l, r, hs, hl, hr => by
    by_cases e : r = l + 1
    · exact ch_part_one (Lib.hid e) hr hok
    · exact ch_part_more (by omega) hr hok hc0 hc4 (Lib.hid fun l' r' h1 h2 h3 => ch_part hok hc0 hc4 s l' r' (by omega) h1 h3)
end

end Go.Proofs.Ytphcffcecncngaa
