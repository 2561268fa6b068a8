/- 'append([]T{}, ys...)' of numbers as a step of a region that draws its order: a row of the call's own. -/
import Derived.Test.YteibgdcieaiaiaaPush
import Derived.Test.YteibgdcieaiaiaaAuto
import Derived.Deep.Upon
namespace Go.Proofs.Yteibgdcieaiaiaa
open Go.RowKit

theorem OwnA.empty {w : World} {g B : Nat} {E : TypeId} (h : Bx w g E #[]) (hB : B ≤ g) : OwnA w B E (some ⟨g, 0, none⟩) 0 [] :=
  ⟨rfl, .inr ⟨g, 0, #[], rfl, hB, h.blk, Nat.le_refl _, Nat.zero_le _, rfl, rfl⟩⟩
theorem rd_addr {w : World} {a : Addr} {ys : List Int} (h : Rd w (some a) ys) : ∀ j u, (ys.map (Value.int .i64))[j]? = some u → w.cell? (a.add j) = some u := by
  intro j u hu
  rw [List.getElem?_map] at hu
  obtain ⟨y, hy, rfl⟩ := Option.map_eq_some_iff.1 hu
  obtain ⟨b, off, e, _, hc⟩ := h j y hy
  injection e with e; subst e
  unfold Addr.add
  split
  · rename_i e; subst e; exact hc
  · exact hc
theorem run_appendE {P : Program} {w : World} (t ty E : TypeId) (ht : P.underlying t = some (.slice E))
    (hinfo : (P.info? E).map (fun i => (i.zero, i.size, i.bytes)) = some (some (.int .i64 0), 1, 8))
    {g : Nat} (hg : Bx w g E #[]) {A2 : Option Addr} {n2 cc : Nat} {ys : List Int} (r : Sl w A2 n2 ys) (hlen : n2 ≤ 17592186044416) :
    ∃ A' c' w', (Builtin.append_ #[t, t] ty #[.slice (some ⟨g, 0, none⟩) 0 0, .slice A2 n2 cc]).run P w = .ok (.slice A' n2 c') w' ∧
      OwnA w' g E A' c' ys ∧ Prev w' w := by
  obtain ⟨i, hi, hzz⟩ := Option.map_eq_some_iff.1 hinfo
  simp only [Prod.mk.injEq] at hzz
  obtain ⟨hz0, hz1, hz2⟩ := hzz
  obtain ⟨r, rfl⟩ := r
  have hsrc : Src P i.size t (.slice A2 ys.length cc) ys.length (ys.map (Value.int .i64)) w := by
    cases A2 with
    | none =>
      have : ys = [] := by
        cases ys with
        | nil => rfl
        | cons y ys => obtain ⟨b, off, e, _⟩ := r 0 y rfl; cases e
      subst this
      exact Src.ofNil w ht cc
    | some a => exact Src.ofSlice w ht a _ cc _ (by simp [hz1]) (rd_addr r) (by simp [Value.oneCell'])
  by_cases h0 : ys = []
  · subst h0
    exact ⟨some ⟨g, 0, none⟩, 0, w, run_append_nothing w t t ty E i ht hi _ 0 0 (Nat.le_refl _) _ hsrc, OwnA.empty hg (Nat.le_refl _), ⟨Below.refl _ _⟩⟩
  · have hl : 0 < ys.length := List.length_pos_iff.2 h0
    have hfc : (Builtin.firstCells i.size 0 (.slice (some ⟨g, 0, none⟩) 0 0)).run P w.drew = .ok (([] : List Value).toArray) w.drew := run_firstCells_some (P := P) w.drew i.size 0 ⟨g, 0, none⟩ 0 0 [] (by simp) (by simp)
    have R := run_append_grow_src w t t ty E i (.int .i64 0) ht hi hz0 (some ⟨g, 0, none⟩) 0 0 [] hfc _ ys.length _ hsrc (by omega) (by omega) (growslice_fits (by omega) (by rw [hz2]; omega))
    simp only [Nat.zero_add, List.nil_append] at R
    refine ⟨_, _, _, R, ⟨by simp, .inr ⟨w.heap.size, _, _, rfl, Nat.le_of_lt hg.blk.lt, heap_alloc_new w.drew _, ?_, ?_, ?_, ?_⟩⟩, ⟨(Below.refl _ _).drew.alloc (Nat.le_refl _) _⟩⟩
    · exact grownCap_ge w ys.length 0 E
    · exact grownCap_le_maxLen w ys.length 0 E (by unfold maxLen; omega)
    · have := grownCap_ge w ys.length 0 E
      simp [size_zeroCells, Value.cells]
      omega
    · simp
theorem step_appendE {P : Program} {w : World} {ops : Array Oper} {o : Oper} {a : Act} {K : Act → World → Prop} {Q : Exit → Act → World → Prop} (hw : Region.wanted o (yielded ops a.tmps) = true) (s x : Operand) (t : TypeId)
    (ho : o.op = .call { callee := .builtin .append, args := #[s, x], argTypes := #[t, t] }) {E : TypeId} (ht : P.underlying t = some (.slice E))
    (hinfo : (P.info? E).map (fun i => (i.zero, i.size, i.bytes)) = some (some (.int .i64 0), 1, 8)) {g : Nat}
    (hs : a.eval s = .slice (some ⟨g, 0, none⟩) 0 0) [hg : Bx w g E #[]]
    {A2 : Option Addr} {n2 cc : Nat} (hx : a.eval x = .slice A2 n2 cc) {ys : List Int} [r : Sl w A2 n2 ys] (hlen : n2 ≤ 17592186044416)
    (h : ∀ A' c' w', OwnA w' g E A' c' ys → Prev w' w → K (a.put o.dst (.slice A' n2 c')) w') :
    if Region.wanted o (yielded ops a.tmps) = true then Oper.wp P o a w K Q else K (a.put o.dst undef) w := by
  rw [if_pos hw]
  obtain ⟨A', c', w', hr, h1, h2⟩ := run_appendE (P := P) t o.type E ht hinfo hg (cc := cc) r hlen
  unfold Oper.wp execOp
  simp only [ho, resolve, invoke, builtin, Sem.run_bind, Sem.run_pure, Result.andThen_ok, List.map_toArray, List.map_cons, List.map_nil, hs, hx, hr]
  exact h A' c' w' h1 h2

end Go.Proofs.Yteibgdcieaiaiaa
