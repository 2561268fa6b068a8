/- A loop over an iterator that makes memory of its own: the rounds leave all blocks from the iterator's first one on as they were. The iterator may be a method value; what a round is handed may be put into a box. -/
import Derived.Test.YteibgdcieaiaiaaRange
namespace Go.Proofs.Yteibgdcieaiaiaa
open Go.RowKit

/-- All blocks of A from n on are in B as they were. -/
structure HeldN (n : Nat) (A B : World) : Prop where
  size : A.heap.size ≤ B.heap.size
  same : ∀ k, n ≤ k → k < A.heap.size → B.heap[k]? = A.heap[k]?
theorem HeldN.refl (n : Nat) (A : World) : HeldN n A A := ⟨Nat.le_refl _, fun _ _ _ => rfl⟩
theorem HeldN.trans {n : Nat} {A B C : World} (h : HeldN n A B) (k : HeldN n B C) : HeldN n A C := ⟨Nat.le_trans h.size k.size, fun i hi hl => (k.same i hi (Nat.lt_of_lt_of_le hl h.size)).trans (h.same i hi hl)⟩
theorem HeldN.below {n : Nat} {A B : World} (h : Below A.heap.size A B) : HeldN n A B := ⟨h.size, fun k _ hl => h.block k hl⟩
theorem HeldN.more {n m : Nat} {A B : World} (h : HeldN n A B) (hm : n ≤ m) : HeldN m A B := ⟨h.size, fun k hk hl => h.same k (Nat.le_trans hm hk) hl⟩
theorem HeldN.set_ {n : Nat} {A : World} {p : Addr} (v : Value) (hp : p.block < n) : HeldN n A (A.setCell p v) := ⟨by simp, fun k hk _ => Below.heap_setCell A p v k (by omega)⟩
theorem HeldN.put {n l : Nat} {A : World} {o : Obj} (o' : Obj) (h : A.heap[l]? = some o) (hl : l < n) : HeldN n A (A.putObj l o') :=
  ⟨(below_put (n₀ := 0) o' h (Nat.zero_le _)).size, fun k hk _ => World.putObj_heap_other (by omega)⟩
theorem HeldN.blk {n g : Nat} {A B : World} {T : TypeId} {cs : Array Value} (h : HeldN n A B) (hb : Blk A g T cs) (hg : n ≤ g) : Blk B g T cs := (h.same g hg hb.lt).trans hb
theorem HeldN.own {n g : Nat} {A B : World} {T : TypeId} {zs : List Int} (h : HeldN n A B) (hb : Own A g T zs) (hg : n ≤ g) : Own B g T zs := (h.same g hg hb.lt).trans hb

/-- What an iterator owes. -/
def ToldN {α : Type} (P : Program) (gf : Nat) (fb lb : Array Value) (encs : α → Array Value) (Px : List α → α → Prop) (S Sp : List α → Prop) (w : World) : Prop :=
  ∀ (l : Nat) (J Jx : List α → World → Prop) (W : World), Below w.heap.size w W →
    (∀ s A B, J s A → Below A.heap.size A B → J s B) → (∀ s A B, Jx s A → Below A.heap.size A B → Jx s B) →
    (∀ pre x W1, J pre W1 → Px pre x → YieldAt Fence.wide 1 P l (encs x) W1 fun e W' =>
      (e = .returned (.bool true) ∧ J (pre ++ [x]) W' ∧ HeldN W.heap.size W1 W') ∨ (e = .returned (.bool false) ∧ Jx (pre ++ [x]) W')) →
    J [] W →
    CallsIn Fence.wide 2 P gf (fb ++ #[.func (.yield l) #[] #[]] ++ lb) W fun e W' => (∃ v, e = .returned v) ∧ ((∃ xs, S xs ∧ J xs W') ∨ (∃ pre, Sp pre ∧ Jx pre W'))

/-- How a round of the body may end. -/
def toldPostN {α : Type} (B n : Nat) (I : List α → World → Prop) (Ix : Code → List α → World → Prop) (xs : List α) (W : World) : Exit → Act → World → Prop
  | .normal, _, W' => KeepsFrom B W W' ∧ HeldN n W W' ∧ I xs W'
  | .ret, _, W' => KeepsFrom B W W' ∧ Ix .ret xs W'
  | .exit id, _, W' => KeepsFrom B W W' ∧ Ix (.exit id) xs W'
  | .goto t, _, W' => KeepsFrom B W W' ∧ Ix (.goto t) xs W'
  | .panic _, _, _ => False
  | .outgrown, _, _ => False

theorem wp_toldN {P : Program} {α : Type} {g : Operand} {ps : Array Tmp} {assign body : Code} {Q : Exit → Act → World → Prop} {a : Act} {w : World} {gf : Nat} {fb lb : Array Value}
    (hg : a.eval g = .func (.func gf) fb lb) (eg : ∀ args w, (callFunc gf args).run P w = .ok (.enter gf args) w)
    {encs : α → Array Value} {Px : List α → α → Prop} {S Sp : List α → Prop} {w0 : World} (hseq : ToldN P gf fb lb encs Px S Sp w0)
    (hb0 : Below w0.heap.size w0 w) (hps : ∀ x, (encs x).size = ps.size)
    (I : List α → World → Prop) (Ix : Code → List α → World → Prop) (hI : Firm w.heap.size I) (hIx : ∀ c, Firm w.heap.size (Ix c))
    (h0 : I [] w) (a₁ : α → World → Act) (asg : α → World → World) (Ax : α → Nat → World → Prop) (hasg : ∀ x W, Below W.heap.size W (asg x W)) (hAx : ∀ x W, Ax x W.heap.size (asg x W))
    (hAt : ∀ x n A l o o', Ax x n A → A.heap[l]? = some o → o.isCells = false → Ax x n (A.putObj l o'))
    (hassign : ∀ (l : Nat) (x : α) (W : World) (K : Act → World → Prop), K (a₁ x W) (asg x W) →
      assign.wpIn (Fence.wide.inRound l) 1 P (Exit.then K (fun _ _ _ => False)) { tmps := (ps.zip (encs x)).foldl (fun t (p, v) => t.setIfInBounds p v) a.tmps, defers := [] } W)
    (hbody : ∀ (l : Nat) (pre : List α) (x : α) (W0 W : World), I pre W → Px pre x → w.heap.size + 2 ≤ W0.heap.size → W0.heap.size ≤ W.heap.size → Ax x W0.heap.size W →
      body.wpIn (Fence.wide.inRound l) 1 P (toldPostN w.heap.size (w.heap.size + 2) I Ix (pre ++ [x]) W) (a₁ x W0) W)
    (hdone : ∀ (D : Nat) (xs : List α) (W : World), w.heap.size ≤ D → S xs → I xs W → W.heap[D]? = some (.deferred (some [])) → Q .normal { a with defers := { target := .collected D, args := #[] } :: a.defers } W)
    (hstop : ∀ (D : Nat) (c : Code) (pre : List α) (W : World), w.heap.size ≤ D → Sp pre → Ix c pre W → W.heap[D]? = some (.deferred (some [])) → c.wpIn Fence.wide 3 P Q { a with defers := { target := .collected D, args := #[] } :: a.defers } W) :
    (Code.rangeFunc g ps assign body).wpIn Fence.wide 3 P Q a w := by
  refine wpIn_rangeFunc ?_
  intro fn hfn
  let lp : LoopState → Option Code → Loop := fun st pe => { state := st, pending := pe, fn, tmps := a.tmps, params := ps, assign, body, defers := w.heap.size }
  let W1 : World := (w.alloc (.deferred (some []))).alloc (.loop (lp .ready none))
  have rec1 : W1.heap[w.heap.size + 1]? = some (.loop (lp .ready none)) := by
    have := World.alloc_heap_new (w.alloc (.deferred (some []))) (.loop (lp .ready none))
    rwa [World.size_alloc] at this
  have def1 : W1.heap[w.heap.size]? = some (.deferred (some [])) := (Below.heap_alloc _ _ _ (by simp)).trans (World.alloc_heap_new w _)
  have inv1 : I [] W1 := hI.grow _ _ _ (hI.grow _ _ _ h0 (below_alloc _ _)) (below_alloc _ _)
  have bel1 : Below w0.heap.size w0 W1 := btr hb0 (btr (below_alloc _ _) (below_alloc _ _))
  have e1 : W1.heap.size = w.heap.size + 2 := by simp [W1]
  refine ⟨w.heap.size + 1, [{ target := .collected w.heap.size, args := #[] }], W1, { target := .fn (.func gf) lb, args := fb ++ #[.func (.yield (w.heap.size + 1)) #[] #[]] }, W1, gf,
    fb ++ #[.func (.yield (w.heap.size + 1)) #[] #[]] ++ lb, W1, run_enterLoop_outer _ _ _ _ _, ?_, ?_, ?_, fun _ => by omega, ?_⟩
  · simp only [resolve, hg]
    simp [go_sem]
  · intro f' _; trivial
  · simp [invoke, go_sem, eg]
  · refine (hseq (w.heap.size + 1)
      (fun pre W => I pre W ∧ W.heap[w.heap.size + 1]? = some (.loop (lp .ready none)) ∧ W.heap[w.heap.size]? = some (.deferred (some [])))
      (fun pre W => ∃ c, Ix c pre W ∧ W.heap[w.heap.size + 1]? = some (.loop (lp .done (some c))) ∧ W.heap[w.heap.size]? = some (.deferred (some [])))
      W1 bel1 ?_ ?_ ?_ ⟨inv1, rec1, def1⟩).mono ?_
    · rintro s A B ⟨hi, hl, hd⟩ hb
      exact ⟨hI.grow _ _ _ hi hb, (hb.block _ (Array.getElem?_eq_some_iff.1 hl).1).trans hl, (hb.block _ (Array.getElem?_eq_some_iff.1 hd).1).trans hd⟩
    · rintro s A B ⟨c, hi, hl, hd⟩ hb
      exact ⟨c, (hIx c).grow _ _ _ hi hb, (hb.block _ (Array.getElem?_eq_some_iff.1 hl).1).trans hl, (hb.block _ (Array.getElem?_eq_some_iff.1 hd).1).trans hd⟩
    · rintro pre x W0 ⟨hi0, hl0, hd0⟩ hx
      have hlt0 : w.heap.size + 1 < W0.heap.size := (Array.getElem?_eq_some_iff.1 hl0).1
      let W : World := asg x W0
      have bA : Below W0.heap.size W0 W := hasg x W0
      have hi : I pre W := hI.grow _ _ _ hi0 bA
      have hl : W.heap[w.heap.size + 1]? = some (.loop (lp .ready none)) := (bA.block _ hlt0).trans hl0
      have hd : W.heap[w.heap.size]? = some (.deferred (some [])) := (bA.block _ (Array.getElem?_eq_some_iff.1 hd0).1).trans hd0
      have hlt : w.heap.size + 1 < W.heap.size := (Array.getElem?_eq_some_iff.1 hl).1
      refine ⟨fn, _, assign, body, run_yield (P := P) (args := encs x) hl0 (hps x), roundIn_of_wpIn hfn (hassign _ x W0 _ ⟨_, run_beginRound hl rfl, ?_⟩)⟩
      let W2 : World := W.putObj (w.heap.size + 1) (.loop { lp .ready none with state := .busy })
      have rec2 : W2.heap[w.heap.size + 1]? = some (.loop { lp .ready none with state := .busy }) := World.putObj_heap_same hlt
      have def2 : W2.heap[w.heap.size]? = some (.deferred (some [])) := (World.putObj_heap_other (by omega)).trans hd
      have bel2 : HeldN (w.heap.size + 2) W0 W2 := (HeldN.below bA).trans (HeldN.put _ hl (by omega))
      refine wpIn_mono (hbody _ pre x W0 W2 (hI.turn _ _ _ _ _ hi (by omega) hl rfl) hx (by omega) bel2.size (hAt _ _ _ _ _ _ (hAx x W0) hl rfl)) ?_
      have fin : ∀ (jump : Option Code) (W3 : World), KeepsFrom w.heap.size W2 W3 →
          (Instr.endRound (w.heap.size + 1) jump).run P W3 = .ok (.bool jump.isNone) (W3.putObj (w.heap.size + 1) (.loop (lp (if jump.isNone then .ready else .done) jump))) ∧
          W3.heap[w.heap.size + 1]? = some (.loop { lp .ready none with state := .busy }) ∧
          (W3.putObj (w.heap.size + 1) (.loop (lp (if jump.isNone then .ready else .done) jump))).heap[w.heap.size + 1]? = some (.loop (lp (if jump.isNone then .ready else .done) jump)) ∧
          (W3.putObj (w.heap.size + 1) (.loop (lp (if jump.isNone then .ready else .done) jump))).heap[w.heap.size]? = some (.deferred (some [])) := fun jump W3 hk => by
        have rec3 := hk.same _ _ (by omega) rec2 rfl
        exact ⟨run_endRound (P := P) jump rec3, rec3, World.putObj_heap_same (Array.getElem?_eq_some_iff.1 rec3).1, (World.putObj_heap_other (by omega)).trans (hk.same _ _ (Nat.le_refl _) def2 rfl)⟩
      rintro e a3 W3 hp
      cases e with
      | normal =>
        obtain ⟨hk, hb, hi3⟩ := hp
        obtain ⟨hr, hl3, hl4, hd4⟩ := fin none W3 hk
        exact ⟨_, _, hr, .inl ⟨rfl, ⟨hI.turn _ _ _ _ _ hi3 (by omega) hl3 rfl, hl4, hd4⟩, by rw [e1]; exact (bel2.trans hb).trans (HeldN.put _ hl3 (by omega))⟩⟩
      | ret =>
        obtain ⟨hk, hi3⟩ := hp
        obtain ⟨hr, hl3, hl4, hd4⟩ := fin (some .ret) W3 hk
        exact ⟨_, _, hr, .inr ⟨rfl, .ret, (hIx _).turn _ _ _ _ _ hi3 (by omega) hl3 rfl, hl4, hd4⟩⟩
      | exit id =>
        obtain ⟨hk, hi3⟩ := hp
        obtain ⟨hr, hl3, hl4, hd4⟩ := fin (some (.exit id)) W3 hk
        exact ⟨_, _, hr, .inr ⟨rfl, .exit id, (hIx _).turn _ _ _ _ _ hi3 (by omega) hl3 rfl, hl4, hd4⟩⟩
      | goto t =>
        obtain ⟨hk, hi3⟩ := hp
        obtain ⟨hr, hl3, hl4, hd4⟩ := fin (some (.goto t)) W3 hk
        exact ⟨_, _, hr, .inr ⟨rfl, .goto t, (hIx _).turn _ _ _ _ _ hi3 (by omega) hl3 rfl, hl4, hd4⟩⟩
      | panic ch => exact hp.elim
      | outgrown => exact hp.elim
    · rintro e W2 ⟨⟨v, rfl⟩, (⟨xs, hS, hi, hl, hd⟩ | ⟨pre, hSp, c, hi, hl, hd⟩)⟩
      · exact ⟨none, _, run_endLoop (P := P) hl (by simp [lp]), hdone _ xs _ (Nat.le_refl _) hS (hI.turn _ _ _ _ _ hi (by omega) hl rfl) ((World.putObj_heap_other (by omega)).trans hd)⟩
      · exact ⟨some c, _, run_endLoop (P := P) hl (by simp [lp]), hstop _ c pre _ (Nat.le_refl _) hSp ((hIx c).turn _ _ _ _ _ hi (by omega) hl rfl) ((World.putObj_heap_other (by omega)).trans hd)⟩

end Go.Proofs.Yteibgdcieaiaiaa
