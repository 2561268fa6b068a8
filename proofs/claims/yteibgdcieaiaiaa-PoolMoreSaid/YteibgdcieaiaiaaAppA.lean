/- 'append(out, ys...)' of numbers, onto a slice of the call's own, as a step of a region that draws its order. -/
import Derived.Test.YteibgdcieaiaiaaAppendA
namespace Go.Proofs.Yteibgdcieaiaiaa
open Go.RowKit

theorem run_appA {P : Program} {w : World} (t ty E : TypeId) (ht : P.underlying t = some (.slice E))
    (hinfo : (P.info? E).map (fun i => (i.zero, i.size, i.bytes)) = some (some (.int .i64 0), 1, 8))
    (B : Nat) (A : Option Addr) (c : Nat) (zs : List Int) (hown : OwnA w B E A c zs) {A2 : Option Addr} {n2 cc : Nat} {ys : List Int} (r : Sl w A2 n2 ys) (hlen : zs.length + n2 ≤ 1000000000) (hB : B ≤ w.heap.size) :
    ∃ A' c' w', (Builtin.append_ #[t, t] ty #[.slice A zs.length c, .slice A2 n2 cc]).run P w = .ok (.slice A' (zs.length + n2) c') w' ∧ OwnA w' B E A' c' (zs ++ ys) ∧ Below B w w' := by
  obtain ⟨rd, rfl⟩ := r
  obtain ⟨i, hi, hzz⟩ := Option.map_eq_some_iff.1 hinfo
  simp only [Prod.mk.injEq] at hzz
  obtain ⟨hz0, hz1, hz2⟩ := hzz
  cases A2 with
  | none =>
    have hy : ys = [] := by
      cases ys with
      | nil => rfl
      | cons y ys => obtain ⟨b, off, e, _⟩ := rd 0 y rfl; cases e
    subst hy
    exact ⟨A, c, w, run_append_none w B t ty E i 1 ht hi _ _ _ hown cc, by simpa using hown, Below.refl _ _⟩
  | some ad =>
    obtain ⟨v', w', hr, ho', hg, -, -⟩ := run_append_own_at (P := P) w B t ty E i (.int .i64 0) 1 8 ht hi hz0 hz1 hz2 rfl (by decide) _ _ _ hown ad ys.length cc (ys.map (Value.int .i64)) (by simp) (rd_addr rd) (by simp [Value.oneCell']) (by unfold maxLen; omega) (by omega) hB
    obtain ⟨A', c', rfl⟩ : ∃ A' c', v' = .slice A' (zs.length + ys.length) c' := by
      rcases ho'.2 with ⟨hv, hn⟩ | ⟨g, cap, cur, hv, _⟩
      · exact ⟨none, 0, by rw [hv, hn]⟩
      · exact ⟨_, cap, hv⟩
    refine ⟨A', c', w', hr, ?_, ?_⟩
    · unfold OwnA
      rw [List.map_append, List.length_append]
      exact ho'
    · refine (Below.refl B w).grown hg hB ?_
      intro k hk
      have : Value.ownBlock (.slice A zs.length c) = A.map (·.block) := by cases A <;> rfl
      rw [this] at hk
      obtain ⟨ad', had, rfl⟩ := Option.map_eq_some_iff.1 hk
      exact hown.fresh ad' had
theorem step_appA {P : Program} {w : World} {ops : Array Oper} {o : Oper} {a : Act} {K : Act → World → Prop} {Q : Exit → Act → World → Prop} (hw : Region.wanted o (yielded ops a.tmps) = true) (s x : Operand) (t : TypeId)
    (ho : o.op = .call { callee := .builtin .append, args := #[s, x], argTypes := #[t, t] }) (E : TypeId) (ht : P.underlying t = some (.slice E))
    (hinfo : (P.info? E).map (fun i => (i.zero, i.size, i.bytes)) = some (some (.int .i64 0), 1, 8))
    (B : Nat) (A : Option Addr) (c : Nat) (zs : List Int) (hs : a.eval s = .slice A zs.length c) (hown : OwnA w B E A c zs)
    {A2 : Option Addr} {n2 cc : Nat} (hx : a.eval x = .slice A2 n2 cc) {ys : List Int} [r : Sl w A2 n2 ys] (hlen : zs.length + n2 ≤ 1000000000) (hB : B ≤ w.heap.size)
    (h : ∀ A' c' w', OwnA w' B E A' c' (zs ++ ys) → Below B w w' → K (a.put o.dst (.slice A' (zs.length + n2) c')) w') :
    if Region.wanted o (yielded ops a.tmps) = true then Oper.wp P o a w K Q else K (a.put o.dst undef) w := by
  rw [if_pos hw]
  obtain ⟨A', c', w', hr, h1, h2⟩ := run_appA (P := P) t o.type E ht hinfo B A c zs hown (cc := cc) r hlen hB
  unfold Oper.wp execOp
  simp only [ho, resolve, invoke, builtin, Sem.run_bind, Sem.run_pure, Result.andThen_ok, List.map_toArray, List.map_cons, List.map_nil, hs, hx, hr]
  exact h A' c' w' h1 h2

end Go.Proofs.Yteibgdcieaiaiaa
