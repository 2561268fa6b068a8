/- A loop over an iterator whose body is told, in each round, what it is handed: the iterator shows 'Px pre x W' where it calls yield. -/
import Derived.RangeFuncNested
import Derived.RangeFuncBound
import Derived.RangeFuncCalls
import Derived.RangeFuncLeaves
import Derived.OwnWalkIn
import Derived.TacticsInMore
import Derived.LoopNIn
import Derived.LoopIn
import Derived.Test.YteibgdcieaiaiaaBase
namespace Go.Proofs.Yteibgdcieaiaiaa
open Go.RowKit

/-- The blocks of Kk are as they were. -/
def Held (Kk : Nat → Prop) (A B : World) : Prop := ∀ k, Kk k → B.heap[k]? = A.heap[k]?
theorem Held.trans {Kk : Nat → Prop} {A B C : World} (h : Held Kk A B) (k : Held Kk B C) : Held Kk A C := fun i hi => (k i hi).trans (h i hi)

/-- What an iterator owes: whatever the rounds keep (J) is kept, and a round is begun only where Px holds of what it is handed. -/
def Told {α : Type} (P : Program) (gf : Nat) (lb : Array Value) (encs : α → Array Value) (Px : List α → α → World → Prop) (Kk : Nat → Prop) (S Sp : List α → Prop) (w : World) : Prop :=
  ∀ (l : Nat) (J Jx : List α → World → Prop) (W : World), Below w.heap.size w W →
    (∀ s A B, J s A → Below A.heap.size A B → J s B) → (∀ s A B, Jx s A → Below A.heap.size A B → Jx s B) →
    (∀ pre x W1, J pre W1 → Px pre x W1 → YieldAt Fence.wide 1 P l (encs x) W1 fun e W' =>
      (e = .returned (.bool true) ∧ J (pre ++ [x]) W' ∧ Held Kk W1 W') ∨ (e = .returned (.bool false) ∧ Jx (pre ++ [x]) W')) →
    J [] W →
    CallsIn Fence.wide 2 P gf (#[.func (.yield l) #[] #[]] ++ lb) W fun e W' => (∃ v, e = .returned v) ∧ ((∃ xs, S xs ∧ J xs W') ∨ (∃ pre, Sp pre ∧ Jx pre W'))

/-- A property that abides new memory and the turn of a block, at B or beyond, that is no cells. -/
structure Firm {β : Type} (B : Nat) (I : β → World → Prop) : Prop where
  grow : ∀ s A C, I s A → Below A.heap.size A C → I s C
  turn : ∀ s A l o o', I s A → B ≤ l → A.heap[l]? = some o → o.isCells = false → I s (A.putObj l o')

/-- How a round of the body may end. -/
def toldPost {α : Type} (B : Nat) (Kk : Nat → Prop) (I : List α → World → Prop) (Ix : Code → List α → World → Prop) (xs : List α) (W : World) : Exit → Act → World → Prop
  | .normal, _, W' => KeepsFrom B W W' ∧ Held Kk W W' ∧ I xs W'
  | .ret, _, W' => KeepsFrom B W W' ∧ Ix .ret xs W'
  | .exit id, _, W' => KeepsFrom B W W' ∧ Ix (.exit id) xs W'
  | .goto t, _, W' => KeepsFrom B W W' ∧ Ix (.goto t) xs W'
  | .panic _, _, _ => False
  | .outgrown, _, _ => False

theorem below_alloc (W : World) (o : Obj) : Below W.heap.size W (W.alloc o) := (Below.refl _ _).alloc (Nat.le_refl _) _
theorem held_put {Kk : Nat → Prop} {W : World} {l : Nat} (o' : Obj) (hl : ∀ k, Kk k → k < l) : Held Kk W (W.putObj l o') :=
  fun k hk => World.putObj_heap_other (by have := hl k hk; omega)
theorem below_put {n₀ : Nat} {W : World} {l : Nat} {o : Obj} (o' : Obj) (h : W.heap[l]? = some o) (hl : n₀ ≤ l) : Below n₀ W (W.putObj l o') :=
  (Below.refl n₀ W).grown (grownBy_putObj' W l o') (by have := (Array.getElem?_eq_some_iff.1 h).1; omega) (fun k e => by cases e; exact hl)

theorem wp_told {P : Program} {α : Type} {g : Operand} {ps : Array Tmp} {assign body : Code} {Q : Exit → Act → World → Prop} {a : Act} {w : World} {gf : Nat} {lb : Array Value}
    (hg : a.eval g = .func (.func gf) #[] lb) (eg : ∀ args w, (callFunc gf args).run P w = .ok (.enter gf args) w)
    {encs : α → Array Value} {Px : List α → α → World → Prop} {S Sp : List α → Prop} {Kk : Nat → Prop} {w0 : World} (hseq : Told P gf lb encs Px Kk S Sp w0)
    (hn : ∀ k, Kk k → k < w.heap.size) (hb0 : Below w0.heap.size w0 w) (hps : ∀ x, (encs x).size = ps.size)
    (I : List α → World → Prop) (Ix : Code → List α → World → Prop) (hI : Firm w.heap.size I) (hIx : ∀ c, Firm w.heap.size (Ix c))
    (hPx : ∀ pre x A l o o', Px pre x A → w.heap.size ≤ l → A.heap[l]? = some o → o.isCells = false → Px pre x (A.putObj l o')) (h0 : I [] w) (a₁ : α → Act)
    (hassign : ∀ (l : Nat) (x : α) (W : World) (K : Act → World → Prop), K (a₁ x) W →
      assign.wpIn (Fence.wide.inRound l) 1 P (Exit.then K (fun _ _ _ => False)) { tmps := (ps.zip (encs x)).foldl (fun t (p, v) => t.setIfInBounds p v) a.tmps, defers := [] } W)
    (hbody : ∀ (l : Nat) (pre : List α) (x : α) (W : World), I pre W → Px pre x W → body.wpIn (Fence.wide.inRound l) 1 P (toldPost w.heap.size Kk I Ix (pre ++ [x]) W) (a₁ x) W)
    (hdone : ∀ (D : Nat) (xs : List α) (W : World), w.heap.size ≤ D → S xs → I xs W → W.heap[D]? = some (.deferred (some [])) → Q .normal { a with defers := { target := .collected D, args := #[] } :: a.defers } W)
    (hstop : ∀ (D : Nat) (c : Code) (pre : List α) (W : World), w.heap.size ≤ D → Sp pre → Ix c pre W → W.heap[D]? = some (.deferred (some [])) → c.wpIn Fence.wide 3 P Q { a with defers := { target := .collected D, args := #[] } :: a.defers } W) :
    (Code.rangeFunc g ps assign body).wpIn Fence.wide 3 P Q a w := by
  refine wpIn_rangeFunc ?_
  intro fn hfn
  let lp : LoopState → Option Code → Loop := fun st pe => { state := st, pending := pe, fn, tmps := a.tmps, params := ps, assign, body, defers := w.heap.size }
  let W1 : World := (w.alloc (.deferred (some []))).alloc (.loop (lp .ready none))
  have rec1 : W1.heap[w.heap.size + 1]? = some (.loop (lp .ready none)) := by
    have := World.alloc_heap_new (w.alloc (.deferred (some []))) (.loop (lp .ready none))
    rwa [World.size_alloc] at this
  have def1 : W1.heap[w.heap.size]? = some (.deferred (some [])) := (Below.heap_alloc _ _ _ (by simp)).trans (World.alloc_heap_new w _)
  have inv1 : I [] W1 := hI.grow _ _ _ (hI.grow _ _ _ h0 (below_alloc _ _)) (below_alloc _ _)
  have bel1 : Below w0.heap.size w0 W1 := btr hb0 (btr (below_alloc _ _) (below_alloc _ _))
  refine ⟨w.heap.size + 1, [{ target := .collected w.heap.size, args := #[] }], W1, { target := .fn (.func gf) lb, args := #[.func (.yield (w.heap.size + 1)) #[] #[]] }, W1, gf,
    #[.func (.yield (w.heap.size + 1)) #[] #[]] ++ lb, W1, run_enterLoop_outer _ _ _ _ _, ?_, ?_, ?_, fun _ => by omega, ?_⟩
  · simp only [resolve, hg]
    simp [go_sem]
  · intro f' _; trivial
  · simp [invoke, go_sem, eg]
  · refine (hseq (w.heap.size + 1)
      (fun pre W => I pre W ∧ W.heap[w.heap.size + 1]? = some (.loop (lp .ready none)) ∧ W.heap[w.heap.size]? = some (.deferred (some [])))
      (fun pre W => ∃ c, Ix c pre W ∧ W.heap[w.heap.size + 1]? = some (.loop (lp .done (some c))) ∧ W.heap[w.heap.size]? = some (.deferred (some [])))
      W1 bel1 ?_ ?_ ?_ ⟨inv1, rec1, def1⟩).mono ?_
    · rintro s A B ⟨hi, hl, hd⟩ hb
      exact ⟨hI.grow _ _ _ hi hb, (hb.block _ (Array.getElem?_eq_some_iff.1 hl).1).trans hl, (hb.block _ (Array.getElem?_eq_some_iff.1 hd).1).trans hd⟩
    · rintro s A B ⟨c, hi, hl, hd⟩ hb
      exact ⟨c, (hIx c).grow _ _ _ hi hb, (hb.block _ (Array.getElem?_eq_some_iff.1 hl).1).trans hl, (hb.block _ (Array.getElem?_eq_some_iff.1 hd).1).trans hd⟩
    · rintro pre x W ⟨hi, hl, hd⟩ hx
      have hlt : w.heap.size + 1 < W.heap.size := (Array.getElem?_eq_some_iff.1 hl).1
      refine ⟨fn, _, assign, body, run_yield (P := P) (args := encs x) hl (hps x), roundIn_of_wpIn hfn (hassign _ x W _ ⟨_, run_beginRound hl rfl, ?_⟩)⟩
      let W2 : World := W.putObj (w.heap.size + 1) (.loop { lp .ready none with state := .busy })
      have rec2 : W2.heap[w.heap.size + 1]? = some (.loop { lp .ready none with state := .busy }) := World.putObj_heap_same hlt
      have def2 : W2.heap[w.heap.size]? = some (.deferred (some [])) := (World.putObj_heap_other (by omega)).trans hd
      have bel2 : Held Kk W W2 := held_put _ (fun k hk => by have := hn k hk; omega)
      refine wpIn_mono (hbody _ pre x W2 (hI.turn _ _ _ _ _ hi (by omega) hl rfl) (hPx _ _ _ _ _ _ hx (by omega) hl rfl)) ?_
      have fin : ∀ (jump : Option Code) (W3 : World), KeepsFrom w.heap.size W2 W3 →
          (Instr.endRound (w.heap.size + 1) jump).run P W3 = .ok (.bool jump.isNone) (W3.putObj (w.heap.size + 1) (.loop (lp (if jump.isNone then .ready else .done) jump))) ∧
          W3.heap[w.heap.size + 1]? = some (.loop { lp .ready none with state := .busy }) ∧
          (W3.putObj (w.heap.size + 1) (.loop (lp (if jump.isNone then .ready else .done) jump))).heap[w.heap.size + 1]? = some (.loop (lp (if jump.isNone then .ready else .done) jump)) ∧
          (W3.putObj (w.heap.size + 1) (.loop (lp (if jump.isNone then .ready else .done) jump))).heap[w.heap.size]? = some (.deferred (some [])) := fun jump W3 hk => by
        have rec3 := hk.same _ _ (by omega) rec2 rfl
        exact ⟨run_endRound (P := P) jump rec3, rec3, World.putObj_heap_same (Array.getElem?_eq_some_iff.1 rec3).1, (World.putObj_heap_other (by omega)).trans (hk.same _ _ (Nat.le_refl _) def2 rfl)⟩
      rintro e a3 W3 hp
      cases e with
      | normal =>
        obtain ⟨hk, hb, hi3⟩ := hp
        obtain ⟨hr, hl3, hl4, hd4⟩ := fin none W3 hk
        exact ⟨_, _, hr, .inl ⟨rfl, ⟨hI.turn _ _ _ _ _ hi3 (by omega) hl3 rfl, hl4, hd4⟩, (bel2.trans hb).trans (held_put _ (fun k hk => by have := hn k hk; omega))⟩⟩
      | ret =>
        obtain ⟨hk, hi3⟩ := hp
        obtain ⟨hr, hl3, hl4, hd4⟩ := fin (some .ret) W3 hk
        exact ⟨_, _, hr, .inr ⟨rfl, .ret, (hIx _).turn _ _ _ _ _ hi3 (by omega) hl3 rfl, hl4, hd4⟩⟩
      | exit id =>
        obtain ⟨hk, hi3⟩ := hp
        obtain ⟨hr, hl3, hl4, hd4⟩ := fin (some (.exit id)) W3 hk
        exact ⟨_, _, hr, .inr ⟨rfl, .exit id, (hIx _).turn _ _ _ _ _ hi3 (by omega) hl3 rfl, hl4, hd4⟩⟩
      | goto t =>
        obtain ⟨hk, hi3⟩ := hp
        obtain ⟨hr, hl3, hl4, hd4⟩ := fin (some (.goto t)) W3 hk
        exact ⟨_, _, hr, .inr ⟨rfl, .goto t, (hIx _).turn _ _ _ _ _ hi3 (by omega) hl3 rfl, hl4, hd4⟩⟩
      | panic ch => exact hp.elim
      | outgrown => exact hp.elim
    · rintro e W2 ⟨⟨v, rfl⟩, (⟨xs, hS, hi, hl, hd⟩ | ⟨pre, hSp, c, hi, hl, hd⟩)⟩
      · exact ⟨none, _, run_endLoop (P := P) hl (by simp [lp]), hdone _ xs _ (Nat.le_refl _) hS (hI.turn _ _ _ _ _ hi (by omega) hl rfl) ((World.putObj_heap_other (by omega)).trans hd)⟩
      · exact ⟨some c, _, run_endLoop (P := P) hl (by simp [lp]), hstop _ c pre _ (Nat.le_refl _) hSp ((hIx c).turn _ _ _ _ _ hi (by omega) hl rfl) ((World.putObj_heap_other (by omega)).trans hd)⟩

section
variable {β : Type} {B : Nat}
theorem Firm.and {I J : β → World → Prop} (h : Firm B I) (k : Firm B J) : Firm B (fun s W => I s W ∧ J s W) :=
  ⟨fun s A C hi hb => ⟨h.grow s A C hi.1 hb, k.grow s A C hi.2 hb⟩, fun s A l o o' hi hl ho hc => ⟨h.turn s A l o o' hi.1 hl ho hc, k.turn s A l o o' hi.2 hl ho hc⟩⟩
theorem Firm.ex {γ : Type} {I : γ → β → World → Prop} (h : ∀ c, Firm B (I c)) : Firm B (fun s W => ∃ c, I c s W) :=
  ⟨fun s A C ⟨c, hi⟩ hb => ⟨c, (h c).grow s A C hi hb⟩, fun s A l o o' ⟨c, hi⟩ hl ho hc => ⟨c, (h c).turn s A l o o' hi hl ho hc⟩⟩
theorem Firm.pure (p : β → Prop) : Firm B (fun s _ => p s) := ⟨fun _ _ _ h _ => h, fun _ _ _ _ _ h _ _ _ => h⟩
theorem Firm.none_ : Firm B (fun (_ : β) _ => False) := Firm.pure fun _ => False
theorem Firm.blk (g : β → Nat) (T : TypeId) (cs : β → Array Value) : Firm B (fun s W => Blk W (g s) T (cs s)) :=
  ⟨fun _ _ _ h hb => h.keep hb, fun _ _ _ _ _ h _ ho hc => by
    refine (World.putObj_heap_other ?_).trans h
    rintro rfl
    unfold Blk at h
    rw [h] at ho
    injection ho with ho
    subst ho
    cases hc⟩
theorem Firm.own (g : β → Nat) (T : TypeId) (zs : β → List Int) : Firm B (fun s W => Own W (g s) T (zs s)) :=
  ⟨fun _ _ _ h hb => h.keep hb, fun _ _ _ _ _ h _ ho hc => by
    refine (World.putObj_heap_other ?_).trans h
    rintro rfl
    unfold Own at h
    rw [h] at ho
    injection ho with ho
    subst ho
    cases hc⟩
theorem Firm.below {n : Nat} {w : World} (hn : n ≤ w.heap.size) (h : n ≤ B) : Firm B (fun (_ : β) W => Below n w W) :=
  ⟨fun _ _ _ hi hb => hi.trans (hb.mono (Nat.le_trans hn hi.size)), fun _ _ _ _ o' hi hl ho _ => hi.trans ((below_put (n₀ := n) o' ho (Nat.le_trans h hl)))⟩
end

theorem Firm.size {β : Type} {B : Nat} (n : Nat) : Firm B (fun (_ : β) W => n ≤ W.heap.size) :=
  ⟨fun _ _ _ h hb => Nat.le_trans h hb.size, fun _ _ _ _ o' h _ ho _ => Nat.le_trans h (below_put (n₀ := 0) o' ho (Nat.zero_le _)).size⟩
theorem keepsFrom_below {B : Nat} {W W' : World} (h : Below W.heap.size W W') : KeepsFrom B W W' :=
  KeepsOthers.from ⟨h.size, fun k _ ho _ => (h.block k (Array.getElem?_eq_some_iff.1 ho).1).trans ho⟩ B
theorem keepsFrom_set {B : Nat} {W W' : World} (h : KeepsFrom B W W') (p : Addr) (v : Value) : KeepsFrom B W (W'.setCell p v) := h.trans ((KeepsOthers.setCell _ _ _).from B)
theorem held_below {Kk : Nat → Prop} {W W' : World} (h : Below W.heap.size W W') (hk : ∀ k, Kk k → k < W.heap.size) : Held Kk W W' := fun k hk' => h.block k (hk k hk')
theorem held_set {Kk : Nat → Prop} {W : World} {p : Addr} (v : Value) (hk : ∀ k, Kk k → k ≠ p.block) : Held Kk W (W.setCell p v) := fun k hk' => Below.heap_setCell W p v k (hk k hk')
end Go.Proofs.Yteibgdcieaiaiaa
