/- Words for slices of integers that a call makes by append. -/
import Derived.Test.YtphcffcecncngaaBase
import Derived.Maps.AppendAt
import Derived.OwnWalk
namespace Go.Proofs.Ytphcffcecncngaa
open Go.RowKit

/-- The slice with address A and capacity c is the call's own (from block B on) and holds zs. -/
def OwnA (w : World) (B : Nat) (E : TypeId) (A : Option Addr) (c : Nat) (zs : List Int) : Prop := w.ownsRow B E 1 (.slice A zs.length c) zs.length (zs.map (Value.int .i64))
section
variable {w w' : World} {B : Nat} {E : TypeId} {A : Option Addr} {c : Nat} {zs : List Int}
theorem OwnA.nil (w : World) (B : Nat) (E : TypeId) : OwnA w B E none 0 [] := World.ownsRow_nil w B E 1
theorem OwnA.form (h : OwnA w B E A c zs) : (A = none ∧ zs = [] ∧ c = 0) ∨ ∃ g cur, A = some ⟨g, 0, none⟩ ∧ B ≤ g ∧ w.heap[g]? = some (.cells cur E (0, 0)) ∧ zs.length ≤ c ∧ c ≤ maxLen ∧ cur.size = c ∧ cur.toList.take zs.length = zs.map (Value.int .i64) := by
  rcases h.2 with ⟨hv, hn⟩ | ⟨g, cap, cur, hv, hB, hg, hl, hm, hc, ht⟩
  · injection hv with h1 h2 h3
    exact .inl ⟨h1, List.eq_nil_of_length_eq_zero hn, h3⟩
  · injection hv with h1 h2 h3
    subst h3
    exact .inr ⟨g, cur, h1, hB, hg, hl, hm, by simpa using hc, by simpa using ht⟩
theorem OwnA.rd (h : OwnA w B E A c zs) : Rd w A zs := by
  rcases h.form with ⟨_, rfl, _⟩ | ⟨g, cur, rfl, hB, hg, hl, hm, hc, ht⟩
  · exact Rd.nil _ _
  · intro j z hj
    refine ⟨g, 0, rfl, (Array.getElem?_eq_some_iff.1 hg).1, ?_⟩
    have hjl : j < zs.length := (List.getElem?_eq_some_iff.1 hj).1
    have e : cur[j]? = some (.int .i64 z) := by
      have h1 : (cur.toList.take zs.length)[j]? = some (.int .i64 z) := by rw [ht, List.getElem?_map, hj]; rfl
      rw [List.getElem?_take, if_pos hjl] at h1
      simpa using h1
    simp [World.cell?, hg, e]
theorem OwnA.fresh (h : OwnA w B E A c zs) : ∀ ad, A = some ad → B ≤ ad.block := by
  rcases h.form with ⟨rfl, _, _⟩ | ⟨g, cur, rfl, hB, _⟩
  · intro ad h; cases h
  · intro ad h; injection h with h; subst h; exact hB
theorem OwnA.lt (h : OwnA w B E A c zs) : ∀ ad, A = some ad → ad.block < w.heap.size := by
  rcases h.form with ⟨rfl, _, _⟩ | ⟨g, cur, rfl, hB, hg, _⟩
  · intro ad h; cases h
  · intro ad h; injection h with h; subst h; exact (Array.getElem?_eq_some_iff.1 hg).1
theorem OwnA.len_le (h : OwnA w B E A c zs) : zs.length ≤ c := by
  rcases h.form with ⟨_, rfl, rfl⟩ | ⟨_, _, _, _, _, hl, _⟩
  · exact Nat.le_refl _
  · exact hl
theorem OwnA.same (h : OwnA w B E A c zs) (hk : ∀ ad, A = some ad → w'.heap[ad.block]? = w.heap[ad.block]?) : OwnA w' B E A c zs := by
  refine ⟨h.1, ?_⟩
  rcases h.2 with hn | ⟨g, cap, cur, hv, hB, hg, rest⟩
  · exact .inl hn
  · injection hv with h1 h2 h3
    exact .inr ⟨g, cap, cur, by rw [h1, h3], hB, by rw [← hg]; exact hk _ h1, rest⟩
theorem OwnA.keep (h : OwnA w B E A c zs) (hb : Below w.heap.size w w') : OwnA w' B E A c zs := h.same fun ad e => hb.block _ (h.lt ad e)
theorem OwnA.alloc (h : OwnA w B E A c zs) (o : Obj) : OwnA (w.alloc o) B E A c zs := h.same fun ad e => Below.heap_alloc w o _ (h.lt ad e)
theorem OwnA.drewN (h : OwnA w B E A c zs) (n : Nat) : OwnA (w.drewN n) B E A c zs := h
theorem OwnA.drew (h : OwnA w B E A c zs) : OwnA w.drew B E A c zs := h
theorem OwnA.more {B' : Nat} (h : OwnA w B E A c zs) (hB : B' ≤ B) : OwnA w B' E A c zs := by
  refine ⟨h.1, ?_⟩
  rcases h.2 with hn | ⟨g, cap, cur, hv, hb, r⟩
  · exact .inl hn
  · exact .inr ⟨g, cap, cur, hv, by omega, r⟩
end

/-- 'out = append(out, y)' for a slice of the call's own. -/
theorem wpList_pushI {P : Program} {w : World} {ops : Array Oper} {rest : List Oper} {o : Oper} {a : Act} {Q : Exit → Act → World → Prop} (hgd : o.guard = none) (s x : Operand) (t : TypeId)
    (ho : o.op = .call { callee := .builtin .append, args := #[s, x], argTypes := #[t, t] }) (E : TypeId) (ht : P.underlying t = some (.slice E))
    (hinfo : (P.info? E).map (fun i => (i.zero, i.size, i.bytes)) = some (some (.int .i64 0), 1, 8))
    (B : Nat) (A : Option Addr) (c : Nat) (zs : List Int) (hs : a.eval s = .slice A zs.length c) (hown : OwnA w B E A c zs) (y : Int)
    (hx : a.eval x = .slice (some ⟨w.heap.size, 0, none⟩) 1 1) (hlen : zs.length ≤ 1000000000) (hB : B ≤ w.heap.size)
    (h : ∀ A' c' w', OwnA w' B E A' c' (zs ++ [y]) → Below B w w' → (∀ k, k < w.heap.size → (∀ ad, A = some ad → ad.block ≠ k) → w'.heap[k]? = w.heap[k]?) → w.heap.size < w'.heap.size →
      wpList P ops Q rest (a.put o.dst (.slice A' (zs.length + 1) c')) w') :
    wpList P ops Q (o :: rest) a (w.alloc (.cells #[.int .i64 y] E)) := by
  obtain ⟨i, hi, hzz⟩ := Option.map_eq_some_iff.1 hinfo
  simp only [Prod.mk.injEq] at hzz
  obtain ⟨hz0, hz1, hz2⟩ := hzz
  have hown2 := hown.alloc (.cells #[.int .i64 y] E)
  refine wpList_append_own_at (w.alloc (.cells #[.int .i64 y] E)) hgd s x t ho B E i (.int .i64 0) 1 8 ht hi hz0 hz1 hz2 rfl (by decide) _ _ _ hs hown2 ⟨w.heap.size, 0, none⟩ 1 1 [.int .i64 y] hx rfl
    (fun j u hu => ?_) (by simp [Value.oneCell']) (by unfold maxLen; omega) (by omega) (by simp; omega) ?_
  · have hj : j = 0 := by
      cases j with
      | zero => rfl
      | succ j => simp at hu
    subst hj
    simp at hu; subst hu
    simp [Addr.add, World.cell?_alloc_at]
  · intro v' w' ho' hg _ _
    have hl : (zs ++ [y]).length = zs.length + 1 := by simp
    rcases ho'.2 with ⟨hv, hn⟩ | ⟨g, cap, cur, hv, hBg, hgg, hnc, hcm, hcs, htk⟩
    · omega
    · have hv2 : v' = .slice (some ⟨g, 0, none⟩) (zs.length + 1) cap := hv
      rw [hv2]
      rw [hv2] at ho'
      refine h _ _ _ ?_ ?_ ?_ ?_
      · unfold OwnA
        rw [hl, List.map_append]
        exact ho'
      · refine ((Below.refl B w).alloc hB _).grown hg (by simp; omega) ?_
        intro k hk
        have : Value.ownBlock (.slice A zs.length c) = A.map (·.block) := by cases A <;> rfl
        rw [this] at hk
        obtain ⟨ad, had, rfl⟩ := Option.map_eq_some_iff.1 hk
        exact hown.fresh ad had
      · intro k hk hne
        rw [hg.block k (by simp; omega) ?_, Below.heap_alloc _ _ _ hk]
        have : Value.ownBlock (.slice A zs.length c) = A.map (·.block) := by cases A <;> rfl
        rw [this]
        intro e
        obtain ⟨ad, had, rfl⟩ := Option.map_eq_some_iff.1 e.symm
        exact hne ad had rfl
      · have := hg.size
        simp at this
        omega
end Go.Proofs.Ytphcffcecncngaa
