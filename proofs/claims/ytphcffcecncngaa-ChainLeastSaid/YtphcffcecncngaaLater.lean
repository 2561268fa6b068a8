/- Worlds that follow one another: what is known of one is known of the later ones. And the steps of a region that draws its order, one operation at a time. -/
import Derived.Test.YtphcffcecncngaaAside
import Derived.Deep.RegionHeld3
namespace Go.Proofs.Ytphcffcecncngaa
open Go.RowKit

/-- w' comes right behind w: nothing that w holds has changed. -/
class Prev (w' : World) (w : outParam World) : Prop where
  st : Below w.heap.size w w'
/-- w' is w, or comes behind it. -/
class Later (w w' : World) : Prop where
  st : Below w.heap.size w w'
instance (priority := high) Later.same (w : World) : Later w w := ⟨Below.refl _ _⟩
instance Later.step {w x w' : World} [p : Prev w' x] [l : Later w x] : Later w w' := ⟨btr l.st p.st⟩
instance Prev.alloc (w : World) (o : Obj) : Prev (w.alloc o) w := ⟨(Below.refl _ _).alloc (Nat.le_refl _) _⟩
instance Prev.drew (w : World) : Prev w.drew w := ⟨(Below.refl _ _).drew⟩
instance Prev.drewN (w : World) (n : Nat) : Prev (w.drewN n) w := ⟨below_drewN (Below.refl _ _) n⟩
theorem Later.trans {a b c : World} (h : Later a b) (k : Later b c) : Later a c := ⟨btr h.st k.st⟩
section
variable {w w' : World}
theorem Rd.at {A : Option Addr} {zs : List Int} (h : Rd w A zs) [l : Later w w'] : Rd w' A zs := h.below l.st
theorem Blk.at {g : Nat} {T : TypeId} {cs : Array Value} (h : Blk w g T cs) [l : Later w w'] : Blk w' g T cs := h.keep l.st
theorem Own.at {g : Nat} {T : TypeId} {zs : List Int} (h : Own w g T zs) [l : Later w w'] : Own w' g T zs := h.keep l.st
theorem OwnA.at {B c : Nat} {T : TypeId} {A : Option Addr} {zs : List Int} (h : OwnA w B T A c zs) [l : Later w w'] : OwnA w' B T A c zs := h.keep l.st
theorem later_size [l : Later w w'] : w.heap.size ≤ w'.heap.size := l.st.size
end
theorem Aside.trans {g : Nat} {W a b : World} (h : Aside g W a) (k : Aside g a b) : Aside g W b :=
  ⟨Nat.le_trans h.size k.size, fun j hj hg => (k.same j (Nat.lt_of_lt_of_le hj h.size) hg).trans (h.same j hj hg)⟩
/-- The way from the first world to the last. -/
theorem bel (w w' : World) [l : Later w w'] : Below w.heap.size w w' := l.st

section
variable {P : Program} {ops : Array Oper} {Q : Exit → Act → World → Prop} {md : Region.Mode} {S : World → Prop}
/-- An operation that reads comes up first. -/
theorem wpAnyH_on {i d : Nat} {oi : Oper} {v : Value} {fuel : Nat} {listed : Array Bool} {l : List Value} {df : List Deferred} {w : World} (hi : ops[i]? = some oi) (hd : oi.dst = some d)
    (hs : Region.noSelect ops = true) (hf : Region.free md ops listed i = true) (hr : (Region.ready md ops listed).contains i = true)
    (hQ : ∀ c a w, Q (.panic c) (a.put oi.dst v) w → Q (.panic c) a w) (hw : Region.wanted oi (yielded ops l.toArray) = true) (hS : S w)
    (hy : ∀ u, S u → (execOp (Act.eval ⟨l.toArray, df⟩) oi).run P u = .ok (.value v) u)
    (h : wpAnyH P md ops Q S fuel (listed.setIfInBounds i true) ⟨(l.set d v).toArray, df⟩ w) : wpAnyH P md ops Q S (fuel + 1) listed ⟨l.toArray, df⟩ w := by
  refine wpAnyH_take hi hs hf hr hQ (.inl ⟨hw, hy⟩) hS ?_
  rw [hd]
  simpa [Act.put] using h
/-- An operation that is not wanted comes up first. -/
theorem wpAnyH_off {i d : Nat} {oi : Oper} {fuel : Nat} {listed : Array Bool} {l : List Value} {df : List Deferred} {w : World} (hi : ops[i]? = some oi) (hd : oi.dst = some d)
    (hs : Region.noSelect ops = true) (hf : Region.free md ops listed i = true) (hr : (Region.ready md ops listed).contains i = true)
    (hQ : ∀ c a w, Q (.panic c) (a.put oi.dst undef) w → Q (.panic c) a w) (hw : Region.wanted oi (yielded ops l.toArray) = false) (hS : S w)
    (h : wpAnyH P md ops Q S fuel (listed.setIfInBounds i true) ⟨(l.set d undef).toArray, df⟩ w) : wpAnyH P md ops Q S (fuel + 1) listed ⟨l.toArray, df⟩ w := by
  refine wpAnyH_take hi hs hf hr hQ (.inr ⟨hw, rfl⟩) hS ?_
  rw [hd]
  simpa [Act.put] using h
/-- One operation alone may come up; two; three. -/
theorem wpAnyH_one {i : Nat} {fuel : Nat} {listed : Array Bool} {a : Act} {w : World} (hr : Region.ready md ops listed = [i])
    (h : wpOp P ops Q i (fun a' w' => S w' ∧ wpAnyH P md ops Q S fuel (listed.setIfInBounds i true) a' w') a w) : wpAnyH P md ops Q S (fuel + 1) listed a w :=
  wpAnyH_all hr (by simp) fun k hk => by
    obtain rfl := List.mem_singleton.1 hk
    exact h
theorem wpAnyH_two {i j : Nat} {fuel : Nat} {listed : Array Bool} {a : Act} {w : World} (hr : Region.ready md ops listed = [i, j])
    (h : wpOp P ops Q i (fun a' w' => S w' ∧ wpAnyH P md ops Q S fuel (listed.setIfInBounds i true) a' w') a w)
    (h' : wpOp P ops Q j (fun a' w' => S w' ∧ wpAnyH P md ops Q S fuel (listed.setIfInBounds j true) a' w') a w) : wpAnyH P md ops Q S (fuel + 1) listed a w :=
  wpAnyH_all hr (by simp) fun k hk => by
    rcases List.mem_cons.1 hk with rfl | hk
    · exact h
    · obtain rfl := List.mem_singleton.1 hk
      exact h'
theorem wpAnyH_three {i j m : Nat} {fuel : Nat} {listed : Array Bool} {a : Act} {w : World} (hr : Region.ready md ops listed = [i, j, m])
    (h : wpOp P ops Q i (fun a' w' => S w' ∧ wpAnyH P md ops Q S fuel (listed.setIfInBounds i true) a' w') a w)
    (h' : wpOp P ops Q j (fun a' w' => S w' ∧ wpAnyH P md ops Q S fuel (listed.setIfInBounds j true) a' w') a w)
    (h'' : wpOp P ops Q m (fun a' w' => S w' ∧ wpAnyH P md ops Q S fuel (listed.setIfInBounds m true) a' w') a w) : wpAnyH P md ops Q S (fuel + 1) listed a w :=
  wpAnyH_all hr (by simp) fun k hk => by
    rcases List.mem_cons.1 hk with rfl | hk
    · exact h
    · rcases List.mem_cons.1 hk with rfl | hk
      · exact h'
      · obtain rfl := List.mem_singleton.1 hk
        exact h''
/-- A call of a Go function. -/
theorem wpOp_call {i d f : Nat} {oi : Oper} {args : Array Value} {K : Act → World → Prop} {l : List Value} {df : List Deferred} {w : World} (hi : ops[i]? = some oi) (hd : oi.dst = some d)
    (hw : Region.wanted oi (yielded ops l.toArray) = true) (hrun : (execOp (Act.eval ⟨l.toArray, df⟩) oi).run P w = .ok (.enter f args) w)
    (hc : Calls P f args w fun e u => ∃ v, e = .returned v ∧ K ⟨(l.set d v).toArray, df⟩ u) : wpOp P ops Q i K ⟨l.toArray, df⟩ w := by
  unfold Go.wpOp
  simp only [hi, hw, if_true, Oper.wp, hrun, Oper.upon]
  refine .inl (hc.mono ?_)
  rintro e u ⟨v, rfl, h⟩
  rw [hd]
  simpa [Act.put] using h
/-- An operation that is carried out: it makes or writes memory. -/
theorem wpOp_eff {i d : Nat} {oi : Oper} {v : Value} {K : Act → World → Prop} {l : List Value} {df : List Deferred} {w w' : World} (hi : ops[i]? = some oi) (hd : oi.dst = some d)
    (hw : Region.wanted oi (yielded ops l.toArray) = true) (hrun : (execOp (Act.eval ⟨l.toArray, df⟩) oi).run P w = .ok (.value v) w')
    (hc : K ⟨(l.set d v).toArray, df⟩ w') : wpOp P ops Q i K ⟨l.toArray, df⟩ w := by
  unfold Go.wpOp
  simp only [hi, hw, if_true, Oper.wp, hrun, Oper.upon]
  refine .inl ?_
  rw [hd]
  simpa [Act.put] using hc
theorem wpOp_store {i : Nat} {oi : Oper} {v : Value} {K : Act → World → Prop} {a : Act} {w w' : World} (hi : ops[i]? = some oi) (hd : oi.dst = none)
    (hw : Region.wanted oi (yielded ops a.tmps) = true) (hrun : (execOp a.eval oi).run P w = .ok (.value v) w')
    (hc : K a w') : wpOp P ops Q i K a w := by
  unfold Go.wpOp
  simp only [hi, hw, if_true, Oper.wp, hrun, Oper.upon]
  refine .inl ?_
  rw [hd]
  exact hc
end

end Go.Proofs.Ytphcffcecncngaa
