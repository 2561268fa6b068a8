/- 'append(out, y)' as a step of a region that draws its order. -/
import Derived.Test.YtphcffcecncngaaAppend2
import Derived.Test.YtphcffcecncngaaOff
namespace Go.Proofs.Ytphcffcecncngaa
open Go.RowKit

theorem run_pushI {P : Program} {w : World} (t ty E : TypeId) (ht : P.underlying t = some (.slice E))
    (hinfo : (P.info? E).map (fun i => (i.zero, i.size, i.bytes)) = some (some (.int .i64 0), 1, 8))
    (B : Nat) (A : Option Addr) (c : Nat) (zs : List Int) (hown : OwnA w B E A c zs) (x : Addr) (y : Int) (hx : w.cell? x = some (.int .i64 y)) (hlen : zs.length ≤ 1000000000) (hB : B ≤ w.heap.size) :
    ∃ A' c' w', (Builtin.append_ #[t, t] ty #[.slice A zs.length c, .slice (some x) 1 1]).run P w = .ok (.slice A' (zs.length + 1) c') w' ∧
      OwnA w' B E A' c' (zs ++ [y]) ∧ Below B w w' ∧ (∀ k, k < w.heap.size → (∀ ad, A = some ad → ad.block ≠ k) → w'.heap[k]? = w.heap[k]?) ∧ w.heap.size ≤ w'.heap.size := by
  obtain ⟨i, hi, hzz⟩ := Option.map_eq_some_iff.1 hinfo
  simp only [Prod.mk.injEq] at hzz
  obtain ⟨hz0, hz1, hz2⟩ := hzz
  have R := run_append_own_at (P := P) w B t ty E i (.int .i64 0) 1 8 ht hi hz0 hz1 hz2 rfl (by decide) _ _ _ hown x 1 1 [.int .i64 y] rfl
    (fun j u hu => by
      have hj : j = 0 := by
        cases j with
        | zero => rfl
        | succ j => simp at hu
      subst hj
      simp at hu; subst hu
      simpa [Addr.add] using hx) (by simp [Value.oneCell']) (by unfold maxLen; omega) (by omega) hB
  obtain ⟨v', w', hr, ho', hg, -, -⟩ := R
  have hl : (zs ++ [y]).length = zs.length + 1 := by simp
  rcases ho'.2 with ⟨hv, hn⟩ | ⟨g, cap, cur, hv, hBg, hgg, hnc, hcm, hcs, htk⟩
  · omega
  · have hv2 : v' = .slice (some ⟨g, 0, none⟩) (zs.length + 1) cap := hv
    rw [hv2] at ho' hr
    refine ⟨_, _, w', hr, ?_, ?_, ?_, hg.size⟩
    · unfold OwnA
      rw [hl, List.map_append]
      exact ho'
    · refine (Below.refl B w).grown hg hB ?_
      intro k hk
      have : Value.ownBlock (.slice A zs.length c) = A.map (·.block) := by cases A <;> rfl
      rw [this] at hk
      obtain ⟨ad, had, rfl⟩ := Option.map_eq_some_iff.1 hk
      exact hown.fresh ad had
    · intro k hk hne
      refine hg.block k hk ?_
      have : Value.ownBlock (.slice A zs.length c) = A.map (·.block) := by cases A <;> rfl
      rw [this]
      intro e
      obtain ⟨ad, had, rfl⟩ := Option.map_eq_some_iff.1 e.symm
      exact hne ad had rfl

/-- The step of a region. -/
theorem step_pushI {P : Program} {w : World} {ops : Array Oper} {o : Oper} {a : Act} {K : Act → World → Prop} {Q : Exit → Act → World → Prop} (hw : Region.wanted o (yielded ops a.tmps) = true) (s x : Operand) (t : TypeId)
    (ho : o.op = .call { callee := .builtin .append, args := #[s, x], argTypes := #[t, t] }) (E : TypeId) (ht : P.underlying t = some (.slice E))
    (hinfo : (P.info? E).map (fun i => (i.zero, i.size, i.bytes)) = some (some (.int .i64 0), 1, 8))
    (B : Nat) (A : Option Addr) (c : Nat) (zs : List Int) (hs : a.eval s = .slice A zs.length c) (hown : OwnA w B E A c zs) (p : Addr) (y : Int)
    (hx : a.eval x = .slice (some p) 1 1) (hp : w.cell? p = some (.int .i64 y)) (hlen : zs.length ≤ 1000000000) (hB : B ≤ w.heap.size)
    (h : ∀ A' c' w', OwnA w' B E A' c' (zs ++ [y]) → Below B w w' → (∀ k, k < w.heap.size → (∀ ad, A = some ad → ad.block ≠ k) → w'.heap[k]? = w.heap[k]?) → w.heap.size ≤ w'.heap.size →
      K (a.put o.dst (.slice A' (zs.length + 1) c')) w') :
    if Region.wanted o (yielded ops a.tmps) = true then Oper.wp P o a w K Q else K (a.put o.dst undef) w := by
  rw [if_pos hw]
  obtain ⟨A', c', w', hr, h1, h2, h3, h4⟩ := run_pushI (P := P) t o.type E ht hinfo B A c zs hown p y hp hlen hB
  unfold Oper.wp execOp
  simp only [ho, resolve, invoke, builtin, Sem.run_bind, Sem.run_pure, Result.andThen_ok, List.map_toArray, List.map_cons, List.map_nil, hs, hx, hr]
  exact h A' c' w' h1 h2 h3 h4

end Go.Proofs.Ytphcffcecncngaa
