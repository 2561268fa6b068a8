/- 'append(out, ys...)' onto a slice of the call's own. -/
import Derived.Test.YtphcffcecncngaaAppend
namespace Go.Proofs.Ytphcffcecncngaa
open Go.RowKit

/-- 'out = append(out, ys...)' for a slice of the call's own; the source reads as ys. -/
theorem wpList_appendI {P : Program} {w : World} {ops : Array Oper} {rest : List Oper} {o : Oper} {a : Act} {Q : Exit → Act → World → Prop} (hgd : o.guard = none) (s x : Operand) (t : TypeId)
    (ho : o.op = .call { callee := .builtin .append, args := #[s, x], argTypes := #[t, t] }) (E : TypeId) (ht : P.underlying t = some (.slice E))
    (hinfo : (P.info? E).map (fun i => (i.zero, i.size, i.bytes)) = some (some (.int .i64 0), 1, 8))
    (B : Nat) (A : Option Addr) (c : Nat) (zs : List Int) (hs : a.eval s = .slice A zs.length c) (hown : OwnA w B E A c zs) (ad : Addr) (cc : Nat) (ys : List Int)
    (hx : a.eval x = .slice (some ad) ys.length cc) (hrd : Rd w (some ad) ys) (hlen : zs.length + ys.length ≤ 1000000000) (hB : B ≤ w.heap.size)
    (h : ∀ A' c' w', OwnA w' B E A' c' (zs ++ ys) → Below B w w' → (∀ k, k < w.heap.size → (∀ ad, A = some ad → ad.block ≠ k) → w'.heap[k]? = w.heap[k]?) → w.heap.size ≤ w'.heap.size →
      wpList P ops Q rest (a.put o.dst (.slice A' (zs ++ ys).length c')) w') :
    wpList P ops Q (o :: rest) a w := by
  obtain ⟨i, hi, hzz⟩ := Option.map_eq_some_iff.1 hinfo
  simp only [Prod.mk.injEq] at hzz
  obtain ⟨hz0, hz1, hz2⟩ := hzz
  refine wpList_append_own_at w hgd s x t ho B E i (.int .i64 0) 1 8 ht hi hz0 hz1 hz2 rfl (by decide) _ _ _ hs hown ad ys.length cc (ys.map (Value.int .i64)) hx (by simp)
    (fun j u hu => ?_) (by simp [Value.oneCell']) (by unfold maxLen; omega) (by omega) hB ?_
  · rw [List.getElem?_map] at hu
    obtain ⟨y, hy, rfl⟩ := Option.map_eq_some_iff.1 hu
    obtain ⟨b, off, e, _, hc⟩ := hrd j y hy
    injection e with e; subst e
    unfold Addr.add
    split
    · rename_i e; subst e; exact hc
    · exact hc
  · intro v' w' ho' hg hnil _
    have hl : (zs ++ ys).length = zs.length + ys.length := by simp
    obtain ⟨A', c', rfl⟩ : ∃ A' c', v' = .slice A' (zs ++ ys).length c' := by
      rcases ho'.2 with ⟨hv, hn⟩ | ⟨g, cap, cur, hv, _⟩
      · exact ⟨none, 0, by rw [hv, hl, hn]⟩
      · exact ⟨_, cap, by rw [hl]; exact hv⟩
    refine h _ _ _ ?_ ?_ ?_ hg.size
    · unfold OwnA
      rw [List.map_append]
      rw [hl] at ho' ⊢
      exact ho'
    · refine (Below.refl B w).grown hg (by omega) ?_
      intro k hk
      have : Value.ownBlock (.slice A zs.length c) = A.map (·.block) := by cases A <;> rfl
      rw [this] at hk
      obtain ⟨ad', had, rfl⟩ := Option.map_eq_some_iff.1 hk
      exact hown.fresh ad' had
    · intro k hk hne
      refine hg.block k hk ?_
      have : Value.ownBlock (.slice A zs.length c) = A.map (·.block) := by cases A <;> rfl
      rw [this]
      intro e
      obtain ⟨ad', had, rfl⟩ := Option.map_eq_some_iff.1 e.symm
      exact hne ad' had rfl

theorem sizeOf_one {P : Program} {t : TypeId} (hs : (P.info? (P.elem t)).map (·.size) = some 1) (w : World) : (sizeOf (P.elem t)).run P w = .ok 1 w := by
  obtain ⟨i, hi, e⟩ := Option.map_eq_some_iff.1 hs
  simp [sizeOf, typeInfo, hi, e]
section
variable {P : Program} (t : TypeId) (ht : P.underlying t = some (.slice (P.elem t))) (hs : (P.info? (P.elem t)).map (·.size) = some 1)
include ht hs
/-- The part of a slice from k on. -/
theorem slice_from (A : Option Addr) (l c k : Nat) (i : Int) (hi : i = (k : Int)) (hk : k ≤ l) (hlc : l ≤ c) :
    ∃ A', (∀ w, (Instr.slice t (.slice A l c) (some (.int .i64 i)) none none).run P w = .ok (.slice A' (l - k) (c - k)) w) ∧ (∀ w zs, zs.length = l → Rd w A zs → Rd w A' (zs.drop k)) := by
  subst hi
  refine ⟨if c = k then A else A.map (·.add k), fun w => ?_, fun w zs hl h j z hj => ?_⟩
  · rw [run_slice_l w t A l c ht .i64 k (by omega) (by omega), sizeOf_one hs]
    simp [Result.andThen, sliced]
  · rw [List.getElem?_drop] at hj
    obtain ⟨b, off, rfl, hb, hc⟩ := h _ z hj
    have hlt := (List.getElem?_eq_some_iff.1 hj).1
    rw [if_neg (by omega)]
    by_cases h0 : k = 0
    · subst h0; exact ⟨b, off, by simp [Addr.add], hb, by simpa using hc⟩
    · exact ⟨b, off + k, by simp [Addr.add, h0], hb, by rw [Nat.add_assoc]; exact hc⟩
/-- The part of a slice up to k. -/
theorem slice_to (A : Option Addr) (l c k : Nat) (i : Int) (hi : i = (k : Int)) (hk : k ≤ l) (hlc : l ≤ c) :
    ∃ A', (∀ w, (Instr.slice t (.slice A l c) none (some (.int .i64 i)) none).run P w = .ok (.slice A' k c) w) ∧ (∀ w zs, zs.length = l → Rd w A zs → Rd w A' (zs.take k)) := by
  subst hi
  refine ⟨A, fun w => ?_, fun w zs hl h j z hj => ?_⟩
  · rw [run_slice_h w t A l c ht .i64 k (by omega) (by omega), sizeOf_one hs]
    cases A <;> simp [Result.andThen, sliced, Addr.add]
  · rw [List.getElem?_take] at hj
    split at hj
    · exact h j z hj
    · cases hj
/-- The part of a slice from k to m. -/
theorem slice_part (A : Option Addr) (l c k m : Nat) (i j : Int) (hi : i = (k : Int)) (hj : j = (m : Int)) (hk : k ≤ m) (hm : m ≤ l) (hlc : l ≤ c) :
    ∃ A', (∀ w, (Instr.slice t (.slice A l c) (some (.int .i64 i)) (some (.int .i64 j)) none).run P w = .ok (.slice A' (m - k) (c - k)) w) ∧ (∀ w zs, zs.length = l → Rd w A zs → Rd w A' ((zs.drop k).take (m - k))) := by
  subst hi hj
  refine ⟨if c = k then A else A.map (·.add k), fun w => ?_, fun w zs hl h j z hj => ?_⟩
  · rw [run_slice_lh w t A l c ht .i64 .i64 k m (by omega) (by omega) (by omega), sizeOf_one hs]
    simp [Result.andThen, sliced]
  · rw [List.getElem?_take] at hj
    split at hj
    · rw [List.getElem?_drop] at hj
      obtain ⟨b, off, rfl, hb, hc⟩ := h _ z hj
      have hlt := (List.getElem?_eq_some_iff.1 hj).1
      rw [if_neg (by omega)]
      by_cases h0 : k = 0
      · subst h0; exact ⟨b, off, by simp [Addr.add], hb, by simpa using hc⟩
      · exact ⟨b, off + k, by simp [Addr.add, h0], hb, by rw [Nat.add_assoc]; exact hc⟩
    · cases hj
end

theorem run_append_none {P : Program} (w : World) (base : Nat) (t ty e : TypeId) (i : TypeInfo) (size : Nat) (ht : P.underlying t = some (.slice e)) (hi : P.info? e = some i)
    (v : Value) (n : Nat) (xs : List Value) (hown : w.ownsRow base e size v n xs) (c : Nat) : (Builtin.append_ #[t, t] ty #[v, .slice none 0 c]).run P w = .ok v w := by
  rcases hown.2 with ⟨rfl, rfl⟩ | ⟨g, cap, cur, rfl, _, _, hnc, _⟩
  · simp [Builtin.append_, run_underlying ht, sizeOf, typeInfo, hi, Builtin.lenOf, Builtin.firstCells]
  · simp [Builtin.append_, run_underlying ht, sizeOf, typeInfo, hi, Builtin.lenOf, Builtin.firstCells, hnc, storeCells]
/-- The same, the source nil or not. -/
theorem wpList_appendA {P : Program} {w : World} {ops : Array Oper} {rest : List Oper} {o : Oper} {a : Act} {Q : Exit → Act → World → Prop} (hgd : o.guard = none) (s x : Operand) (t : TypeId)
    (ho : o.op = .call { callee := .builtin .append, args := #[s, x], argTypes := #[t, t] }) (E : TypeId) (ht : P.underlying t = some (.slice E))
    (hinfo : (P.info? E).map (fun i => (i.zero, i.size, i.bytes)) = some (some (.int .i64 0), 1, 8))
    (B : Nat) (A : Option Addr) (c : Nat) (zs : List Int) (hs : a.eval s = .slice A zs.length c) (hown : OwnA w B E A c zs) (A2 : Option Addr) (l2 cc : Nat) (ys : List Int) (hl2 : ys.length = l2)
    (hx : a.eval x = .slice A2 l2 cc) (hrd : Rd w A2 ys) (hlen : zs.length + ys.length ≤ 1000000000) (hB : B ≤ w.heap.size)
    (h : ∀ A' c' w', OwnA w' B E A' c' (zs ++ ys) → Below B w w' → (∀ k, k < w.heap.size → (∀ ad, A = some ad → ad.block ≠ k) → w'.heap[k]? = w.heap[k]?) → w.heap.size ≤ w'.heap.size →
      wpList P ops Q rest (a.put o.dst (.slice A' (zs ++ ys).length c')) w') :
    wpList P ops Q (o :: rest) a w := by
  subst hl2
  cases A2 with
  | some ad => exact wpList_appendI hgd s x t ho E ht hinfo B A c zs hs hown ad cc ys hx hrd hlen hB h
  | none =>
    have hy : ys = [] := by
      cases ys with
      | nil => rfl
      | cons y ys => obtain ⟨b, off, e, _⟩ := hrd 0 y rfl; cases e
    subst hy
    obtain ⟨i, hi, _⟩ := Option.map_eq_some_iff.1 hinfo
    refine wpList_plain hgd fun K hK => ?_
    have hr := run_append_none w B t o.type E i 1 ht hi _ _ _ hown cc
    unfold Oper.wp execOp
    simp only [ho, resolve, invoke, builtin, Sem.run_bind, Sem.run_pure, Result.andThen_ok, List.map_toArray, List.map_cons, List.map_nil, hs, hx, List.length_nil, hr]
    have := h A c w (by simpa using hown) (Below.refl _ _) (fun _ _ _ => rfl) (Nat.le_refl _)
    rw [List.append_nil] at this
    exact hK _ _ this
end Go.Proofs.Ytphcffcecncngaa
