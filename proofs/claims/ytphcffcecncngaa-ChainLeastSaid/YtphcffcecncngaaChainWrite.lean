/- The writer of plans: add, compute. -/
import Derived.Test.YtphcffcecncngaaChainBest
import Derived.Test.YtphcffcecncngaaInstr
namespace Go.Proofs.Ytphcffcecncngaa
open Go.RowKit

def boolC (bs : List Bool) : Array Value := (bs.map Value.bool).toArray
theorem boolC_get {bs : List Bool} {i : Nat} {x : Bool} (h : bs[i]? = some x) : (boolC bs)[i]? = some (.bool x) := by simp [boolC, h]
theorem boolC_set {bs : List Bool} {i : Nat} {x : Bool} : (boolC bs).setIfInBounds i (.bool x) = boolC (bs.set i x) := by simp [boolC, List.map_set]
section
variable {w w' w0 x u : World} {A B : Option Addr} {n m p q sb mb wb gs : Nat} {c : Ch} {cap : Int} {bs : List Bool} {ps : List (Int × Int)}
/-- A writer and its solver. -/
structure WI (w0 w : World) (sb : Nat) (A : Option Addr) (n p : Nat) (B : Option Addr) (m q : Nat) (c : Ch) (cap : Int) (mb wb gs : Nat) (bs : List Bool) (ps : List (Int × Int)) : Prop where
  pr : Prev w w0
  sol : Bx w sb 98 (solC A n p B m q cap mb)
  mem : Mem w mb c cap (fun _ => False) (fun _ _ => False)
  wr : ∃ CA cc, Bx w wb 103 #[.pointer (some ⟨sb, 0, none⟩), .slice (some ⟨gs, 0, none⟩) n n, .slice CA ps.length cc] ∧ OwnI w w0.heap.size CA cc ps
  sv : Bx w gs 4 (boolC bs)
  hwb : w0.heap.size ≤ wb
  hgs : w0.heap.size ≤ gs
  hmb : w0.heap.size ≤ mb
/-- All blocks but the writer's and the memo are as they were. -/
structure Kp (mb wb gs : Nat) (w w' : World) : Prop where
  size : w.heap.size ≤ w'.heap.size
  keep : ∀ b, b < w.heap.size → b ≠ mb → b ≠ wb → b ≠ gs → (∀ cs fz, w.heap[b]? ≠ some (.cells cs 108 fz)) → w'.heap[b]? = w.heap[b]?
theorem Kp.refl : Kp mb wb gs w w := ⟨Nat.le_refl _, fun _ _ _ _ _ _ => rfl⟩
theorem Kp.trans (h : Kp mb wb gs w x) (k : Kp mb wb gs x u) : Kp mb wb gs w u :=
  ⟨Nat.le_trans h.size k.size, fun b hb h1 h2 h3 h4 => by
    have e := h.keep b hb h1 h2 h3 h4
    exact (k.keep b (Nat.lt_of_lt_of_le hb h.size) h1 h2 h3 (fun cs fz => by rw [e]; exact h4 cs fz)).trans e⟩
theorem Kp.of [l : Later w w'] : Kp mb wb gs w w' := ⟨l.st.size, fun b hb _ _ _ _ => l.st.block b hb⟩
theorem Kp.nx (h : Nx mb w' w) : Kp mb wb gs w w' := ⟨h.st.size, fun b hb h1 _ _ _ => h.keep b hb h1⟩
theorem Blk.ne_typ {g k : Nat} {T T' : TypeId} {cs cs' : Array Value} (h : Blk w g T cs) (h' : Blk w k T' cs') (hT : T ≠ T') : g ≠ k := fun e => by
  subst e
  unfold Blk at h h'
  rw [h] at h'
  injection h' with h'; injection h' with _ h2
  exact hT h2
theorem Kp.bx {b : Nat} {T : TypeId} {cs : Array Value} (h : Kp mb wb gs w w') (i : WI w0 w sb A n p B m q c cap mb wb gs bs ps) (k : Bx w b T cs) (h1 : T ≠ 108) (h2 : T ≠ 103) (h3 : T ≠ 4) : Bx w' b T cs := by
  obtain ⟨_, _, kW, _⟩ := i.wr
  refine ⟨(h.keep b k.blk.lt (i.mem.ne_blk k.blk) (k.blk.ne_typ kW.blk h2) (k.blk.ne_typ i.sv.blk h3) fun cs' fz e => ?_).trans k.blk⟩
  have := k.blk
  unfold Blk at this
  rw [this] at e
  injection e with e; injection e with _ e
  exact h1 e
theorem WI.at [l : Later w w'] (h : WI w0 w sb A n p B m q c cap mb wb gs bs ps) : WI w0 w' sb A n p B m q c cap mb wb gs bs ps := by
  obtain ⟨CA, cc, kW, oI⟩ := h.wr
  have hp := h.pr
  have : Later w0 w := inferInstance
  exact ⟨⟨(Later.trans this l).st⟩, ⟨h.sol.blk.at⟩, h.mem.at, ⟨CA, cc, ⟨kW.blk.at⟩, oI.at⟩, ⟨h.sv.blk.at⟩, h.hwb, h.hgs, h.hmb⟩
/-- Behind a call that may have added to the memo. -/
theorem WI.nx (h : WI w0 w sb A n p B m q c cap mb wb gs bs ps) (k : Nx mb w' w) (hm : Mem w' mb c cap (fun _ => False) (fun _ _ => False)) (hp : Prev w' w0) : WI w0 w' sb A n p B m q c cap mb wb gs bs ps := by
  obtain ⟨CA, cc, kW, oI⟩ := h.wr
  have e1 := h.sol
  have e2 := h.sv
  refine ⟨hp, inferInstance, hm, ⟨CA, cc, inferInstance, oI.same fun ad e => k.keep _ (oI.lt ad e) fun e2 => ?_⟩, inferInstance, h.hwb, h.hgs, h.hmb⟩
  obtain ⟨cs, fz, h1⟩ := oI.typ ad e
  obtain ⟨es, cl, h2⟩ := k.map
  rw [e2, h2] at h1
  cases h1
/-- What stays where all but the writer's box, its row of marks and its code is as it was. -/
theorem WI.keep (i : WI w0 w sb A n p B m q c cap mb wb gs bs ps) (hs : w.heap.size ≤ w'.heap.size) (h : ∀ b, b < w.heap.size → b ≠ wb → b ≠ gs → (∀ cs fz, w.heap[b]? ≠ some (.cells cs 108 fz)) → w'.heap[b]? = w.heap[b]?) :
    Bx w' sb 98 (solC A n p B m q cap mb) ∧ Mem w' mb c cap (fun _ => False) (fun _ _ => False) ∧ Kp mb wb gs w w' := by
  obtain ⟨_, _, kW, _⟩ := i.wr
  have typ : ∀ {b : Nat} {T : TypeId} {cs : Array Value}, Blk w b T cs → T ≠ 108 → T ≠ 103 → T ≠ 4 → w'.heap[b]? = w.heap[b]? := fun {b T cs} k h1 h2 h3 => by
    refine h _ k.lt (k.ne_typ kW.blk h2) (k.ne_typ i.sv.blk h3) fun cs' fz e => ?_
    unfold Blk at k
    rw [k] at e
    injection e with e; injection e with _ e
    exact h1 e
  refine ⟨⟨(typ i.sol.blk (by decide) (by decide) (by decide)).trans i.sol.blk⟩, ?_, ⟨hs, fun b hb _ h2 h3 h4 => h b hb h2 h3 h4⟩⟩
  obtain ⟨es, cl, h1, h2⟩ := i.mem
  have hm : w'.heap[mb]? = w.heap[mb]? := h _ i.mem.lt (fun e => by have := kW.blk; unfold Blk at this; rw [← e, h1] at this; cases this) (fun e => by have := i.sv.blk; unfold Blk at this; rw [← e, h1] at this; cases this) (fun cs fz e => by rw [h1] at e; cases e)
  refine ⟨es, cl, hm.trans h1, fun e he => ?_⟩
  obtain ⟨l, r, g, e1, e2, e3, e4, e5, e6, e7⟩ := h2 e he
  exact ⟨l, r, g, e1, e2, e3, e4, (typ (T := 3) (cs := ints (c.row cap l r)) e5 (by decide) (by decide) (by decide)).trans e5, e6, e7⟩
set_option maxRecDepth 100000 in
set_option maxHeartbeats 4000000 in
theorem ch_add {kind id : Int} (hi : Hid (WI w0 w sb A n p B m q c cap mb wb gs bs ps)) (hl : ps.length ≤ 1000000) :
    Calls Try.prog 88 #[.pointer (some ⟨wb, 0, none⟩), .int .i64 kind, .int .i64 id] w (fun e w' => e = .returned (.tuple #[]) ∧ Hid (WI w0 w' sb A n p B m q c cap mb wb gs bs (ps ++ [(kind, id)])) ∧ Hid (Kp mb wb gs w w')) := by
  have CB := @cell_bx
  have CP := @cell_prev
  have FB := @frozen_bx
  obtain ⟨CA, cc, kW, oI⟩ := hi.out.wr
  have hpr := hi.out.pr
  have hwl : w0.heap.size ≤ w.heap.size := later_size
  go_enter Try.func88, Try.ntmps88
  go_wp2_with (at_builtin; refine wpList_push2 rfl _ _ _ rfl Try.underlying31 rfl oI kind id rfl (by omega) hwl ?_; intro A3 c3 w3 ho3 hb3 hs3; obtain ⟨kW3, -⟩ : Bx w3 wb 103 #[.pointer (some ⟨sb, 0, none⟩), .slice (some ⟨gs, 0, none⟩) n n, .slice CA ps.length cc] ∧ True := ⟨⟨(hs3 _ kW.blk.lt (oI.ne_blk kW.blk (by decide))).trans kW.blk⟩, trivial⟩)
  obtain ⟨w9, h9⟩ : ∃ w9, w9 = w3.setCell ⟨wb, 2, none⟩ (.slice A3 (ps.length + 1) c3) := ⟨_, rfl⟩
  have hS : ∀ b, b ≠ wb → w9.heap[b]? = w3.heap[b]? := fun b hb => by rw [h9]; exact Below.heap_setCell _ ⟨wb, 2, none⟩ _ b hb
  have hZ : w9.heap.size = w3.heap.size := by rw [h9]; simp
  have hF : ∀ b, b < w.heap.size → b ≠ wb → b ≠ gs → (∀ cs fz, w.heap[b]? ≠ some (.cells cs 108 fz)) → w9.heap[b]? = w.heap[b]? := fun b hb h1 _ h2 =>
    (hS b h1).trans (hs3 b hb fun ad e eb => by obtain ⟨cs, fz, ht⟩ := oI.typ ad e; rw [eb] at ht; exact h2 _ _ ht)
  obtain ⟨f1, f2, f3⟩ := hi.out.keep (by rw [hZ]; exact hb3.size) hF
  have kW9 : Blk w9 wb 103 #[.pointer (some ⟨sb, 0, none⟩), .slice (some ⟨gs, 0, none⟩) n n, .slice A3 (ps.length + 1) c3] := by rw [h9]; exact Blk.set_ kW3.blk 2 _
  have hsv := hi.out.sv
  have p9 : Below w0.heap.size w0 w9 := by rw [h9]; exact ((bel w0 w).trans hb3).setCell (p := ⟨wb, 2, none⟩) hi.out.hwb _
  refine ⟨rfl, .tuple #[], by simp [results, Try.results88, go_sem], rfl, Lib.hid (h9 ▸ ⟨⟨p9⟩, f1, f2, ⟨A3, c3, by rw [List.length_append]; exact ⟨kW9⟩, ho3.same fun ad e => hS _ (ho3.ne_blk kW3.blk (by decide) ad e)⟩, ⟨(hS gs (hsv.blk.ne_typ kW.blk (by decide))).trans ((hs3 gs hsv.blk.lt (oI.ne_blk hsv.blk (by decide))).trans hsv.blk)⟩, hi.out.hwb, hi.out.hgs, hi.out.hmb⟩), Lib.hid (h9 ▸ f3)⟩
/-- A mark is set. -/
theorem WI.mark (i : WI w0 w sb A n p B m q c cap mb wb gs bs ps) (k : Nat) (v : Bool) : WI w0 (w.setCell ⟨gs, k, none⟩ (.bool v)) sb A n p B m q c cap mb wb gs (bs.set k v) ps ∧ Kp mb wb gs w (w.setCell ⟨gs, k, none⟩ (.bool v)) := by
  obtain ⟨CA, cc, kW, oI⟩ := i.wr
  have hpr := i.pr
  have hS : ∀ b, b ≠ gs → (w.setCell ⟨gs, k, none⟩ (.bool v)).heap[b]? = w.heap[b]? := fun b hb => Below.heap_setCell _ ⟨gs, k, none⟩ _ b hb
  obtain ⟨f1, f2, f3⟩ := i.keep (w' := w.setCell ⟨gs, k, none⟩ (.bool v)) (by simp) (fun b _ _ h _ => hS b h)
  exact ⟨⟨⟨(bel w0 w).setCell (p := ⟨gs, k, none⟩) i.hgs _⟩, f1, f2, ⟨CA, cc, ⟨(hS _ (kW.blk.ne_typ i.sv.blk (by decide))).trans kW.blk⟩, oI.same fun ad e => hS _ (oI.ne_blk i.sv.blk (by decide) ad e)⟩, ⟨by rw [← boolC_set]; exact i.sv.blk.set_ k _⟩, i.hwb, i.hgs, i.hmb⟩, f3⟩
theorem set_sameB {bs : List Bool} {k : Nat} {v : Bool} (h : bs[k]? = some v) : bs.set k v = bs := by
  apply List.ext_getElem?
  intro i
  rw [List.getElem?_set]
  split
  · rename_i e
    subst e
    rw [h]
    split
    · rfl
    · rename_i e2
      exact absurd (List.getElem?_eq_some_iff.1 h).1 e2
  · rfl
set_option maxRecDepth 100000 in
set_option maxHeartbeats 4000000 in
theorem ch_compute {k : Nat} {v : Bool} (hi : Hid (WI w0 w sb A n p B m q c cap mb wb gs bs ps)) (hl : ps.length ≤ 1000000) (hk : k < n) (hv : Hid (bs[k]? = some v)) :
    Calls Try.prog 87 #[.pointer (some ⟨wb, 0, none⟩), .int .i64 k] w (fun e w' => e = .returned (.tuple #[]) ∧ Hid (WI w0 w' sb A n p B m q c cap mb wb gs (bs.set k true) (ps ++ [(if v then 2 else 1, (k : Int))])) ∧ Hid (Kp mb wb gs w w')) := by
  have CB := @cell_bx
  have CP := @cell_prev
  have FB := @frozen_bx
  obtain ⟨CA, cc, kW, oI⟩ := hi.out.wr
  have kG := hi.out.sv
  have e1 : (boolC bs)[k]? = some (.bool v) := boolC_get hv.out
  rcases v with _ | _
  · have oM := hi.out.mark k true
    go_enter Try.func87, Try.ntmps87
    go_wp2_with (go_at_call 88; (with_reducible refine (ch_add (Lib.hid oM.1) hl).mono ?_); rintro e u ⟨rfl, h1, h2⟩)
    exact ⟨rfl, .tuple #[], by simp [results, Try.results87, go_sem], rfl, h1, Lib.hid (oM.2.trans h2.out)⟩
  · have hs := Lib.hid (set_sameB hv.out)
    go_enter Try.func87, Try.ntmps87
    go_wp2_with (go_at_call 88; (with_reducible refine (ch_add hi hl).mono ?_); rintro e u ⟨rfl, h1, h2⟩)
    exact ⟨rfl, .tuple #[], by simp [results, Try.results87, go_sem], rfl, by rw [hs.out]; exact h1, h2⟩
end

end Go.Proofs.Ytphcffcecncngaa
