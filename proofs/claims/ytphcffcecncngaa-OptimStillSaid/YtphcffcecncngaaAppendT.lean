/- 'append' of tensors to a slice of the call's own. -/
import Derived.Test.YtphcffcecncngaaTens
import Derived.Deep.Upon
import Derived.Test.YtphcffcecncngaaPush
namespace Go.Proofs.Ytphcffcecncngaa
open Go.RowKit

/-- The cells of a row of tensors. -/
def tc (ts : List Tn) : List Value := ts.flatMap fun t => [.slice t.A t.zs.length t.c, .slice t.B t.xs.length t.d]
theorem tc_append (ts us : List Tn) : tc (ts ++ us) = tc ts ++ tc us := by simp [tc]
theorem tc_length (ts : List Tn) : (tc ts).length = ts.length * 2 := by
  induction ts with
  | nil => rfl
  | cons t l ih => simp [tc] at ih ⊢; omega
theorem tc_at : ∀ {ts : List Tn} {j : Nat} {t : Tn}, ts[j]? = some t → (tc ts)[j * 2]? = some (.slice t.A t.zs.length t.c) ∧ (tc ts)[j * 2 + 1]? = some (.slice t.B t.xs.length t.d)
  | u :: l, 0, t, h => by simp at h; subst h; simp [tc]
  | u :: l, j + 1, t, h => by
    have := tc_at (ts := l) (j := j) (t := t) (by simpa using h)
    have e : tc (u :: l) = [.slice u.A u.zs.length u.c, .slice u.B u.xs.length u.d] ++ tc l := by simp [tc]
    rw [e, List.getElem?_append_right (by simp; omega), List.getElem?_append_right (by simp; omega)]
    simp only [List.length_cons, List.length_nil]
    rw [show (j + 1) * 2 - (0 + 1 + 1) = j * 2 from by omega, show (j + 1) * 2 + 1 - (0 + 1 + 1) = j * 2 + 1 from by omega]
    exact this
theorem tc_one (ts : List Tn) : ∀ u ∈ tc ts, u.oneCell' = true := by
  intro u hu
  obtain ⟨t, _, hu⟩ := List.mem_flatMap.1 hu
  simp at hu
  rcases hu with rfl | rfl <;> rfl
theorem TRd.news {w : World} {b o : Nat} {ts : List Tn} (h : TRd w (some ⟨b, o, none⟩) ts) : ∀ j u, (tc ts)[j]? = some u → w.cell? ((⟨b, o, none⟩ : Addr).add j) = some u := by
  intro j u hj
  have hl := (List.getElem?_eq_some_iff.1 hj).1
  rw [tc_length] at hl
  have hadd : (⟨b, o, none⟩ : Addr).add j = ⟨b, o + j, none⟩ := by
    unfold Addr.add; split
    · rename_i e; subst e; rfl
    · rfl
  rw [hadd]
  obtain ⟨t, ht⟩ : ∃ t, ts[j / 2]? = some t := ⟨_, List.getElem?_eq_getElem (by omega)⟩
  obtain ⟨b', o', e, k⟩ := h _ t ht
  injection e with e; injection e with e1 e2; subst e1 e2
  obtain ⟨a0, a1⟩ := tc_at ht
  rcases Nat.mod_two_eq_zero_or_one j with hm | hm
  · have ej : j / 2 * 2 = j := by omega
    rw [ej] at a0
    rw [a0] at hj; injection hj with hj; subst hj
    have := k.c0; rw [ej] at this; exact this
  · have ej : j / 2 * 2 + 1 = j := by omega
    rw [ej] at a1
    rw [a1] at hj; injection hj with hj; subst hj
    have := k.c1; rw [Nat.add_assoc, ej] at this; exact this

/-- A slice of tensors of the call's own. -/
def OwnT (w : World) (B : Nat) (A : Option Addr) (c : Nat) (ts : List Tn) : Prop := w.ownsRow B 65 2 (.slice A ts.length c) ts.length (tc ts)
/-- What a tensor's slices read as. -/
def TE (w : World) (t : Tn) : Prop := Rd w t.A t.zs ∧ Rd w t.B t.xs ∧ t.xs.length ≤ t.d ∧ ∀ z ∈ t.xs, I64 z
theorem TE.below {w w' : World} {t : Tn} (h : TE w t) (hb : Below w.heap.size w w') : TE w' t := ⟨h.1.below hb, h.2.1.below hb, h.2.2⟩
theorem TRd.elems {w : World} {A : Option Addr} {ts : List Tn} (h : TRd w A ts) : ∀ t ∈ ts, TE w t := fun t ht => by
  obtain ⟨j, hj⟩ := List.mem_iff_getElem?.1 ht
  obtain ⟨_, _, _, k⟩ := h j t hj
  exact ⟨k.s, k.x, k.le, k.bd⟩
section
variable {w w' : World} {B c : Nat} {A : Option Addr} {ts : List Tn}
theorem OwnT.empty {g : Nat} (h : Bx w g 65 #[]) (hB : B ≤ g) : OwnT w B (some ⟨g, 0, none⟩) 0 [] :=
  ⟨rfl, .inr ⟨g, 0, #[], rfl, hB, h.blk, Nat.le_refl _, Nat.zero_le _, rfl, rfl⟩⟩
theorem OwnT.keep (h : OwnT w B A c ts) (hb : Below w.heap.size w w') : OwnT w' B A c ts := by
  refine ⟨h.1, ?_⟩
  rcases h.2 with h | ⟨g, cap, cur, hv, hB, hg, r⟩
  · exact .inl h
  · exact .inr ⟨g, cap, cur, hv, hB, (hb.block g (Array.getElem?_eq_some_iff.1 hg).1).trans hg, r⟩
theorem OwnT.at (h : OwnT w B A c ts) [l : Later w w'] : OwnT w' B A c ts := h.keep l.st
theorem OwnT.trd (h : OwnT w B A c ts) (he : ∀ t ∈ ts, TE w t) : TRd w A ts := by
  rcases h.2 with ⟨_, hn⟩ | ⟨g, cap, cur, hv, hB, hg, hl, hm, hc, ht⟩
  · rw [List.eq_nil_of_length_eq_zero hn]; exact TRd.nil _ _
  · injection hv with hv _ _
    subst hv
    intro j t hj
    obtain ⟨a0, a1⟩ := tc_at hj
    have hjl := (List.getElem?_eq_some_iff.1 hj).1
    have look : ∀ k v, k < ts.length * 2 → (tc ts)[k]? = some v → w.cell? ⟨g, k, none⟩ = some v := by
      intro k v hk hv
      rw [← ht, List.getElem?_take, if_pos hk] at hv
      have : cur[k]? = some v := by simpa using hv
      simp [World.cell?, hg, this]
    obtain ⟨s, x, le, bd⟩ := he t (List.mem_of_getElem? hj)
    refine ⟨g, 0, rfl, (Array.getElem?_eq_some_iff.1 hg).1, ?_, ?_, s, x, le, bd⟩
    · rw [Nat.zero_add]; exact look _ _ (by omega) a0
    · rw [Nat.zero_add]; exact look _ _ (by omega) a1
set_option maxRecDepth 100000 in
theorem run_appendT (t ty : TypeId) (ht : Try.prog.underlying t = some (.slice 65)) (hown : OwnT w B A c ts) {A2 : Option Addr} {cc : Nat} {us : List Tn} (hrd : TRd w A2 us) (hlen : (ts.length + us.length) * 48 ≤ 140737488355328) (hB : B ≤ w.heap.size) :
    ∃ A' c' w', (Builtin.append_ #[t, t] ty #[.slice A ts.length c, .slice A2 us.length cc]).run Try.prog w = .ok (.slice A' (ts ++ us).length c') w' ∧ OwnT w' B A' c' (ts ++ us) ∧ Below B w w' ∧ (∀ k, k < w.heap.size → (∀ ad, A = some ad → ad.block ≠ k) → w'.heap[k]? = w.heap[k]?) := by
  have hinfo : (Try.prog.info? 65).map (fun i => (i.zero, i.size, i.bytes)) = some (some (.agg #[.slice none 0 0, .slice none 0 0]), 2, 48) := by kernel_rfl
  obtain ⟨i, hi, hzz⟩ := Option.map_eq_some_iff.1 hinfo
  simp only [Prod.mk.injEq] at hzz
  obtain ⟨hz0, hz1, hz2⟩ := hzz
  cases us with
  | nil =>
    cases A2 with
    | none =>
      refine ⟨A, c, w, ?_, by rw [List.append_nil]; exact hown, Below.refl _ _, fun _ _ _ => rfl⟩
      rw [List.append_nil]
      exact run_append_none (P := Try.prog) w B t ty 65 i 2 ht hi _ _ _ hown cc
    | some ad =>
      have R := run_append_own_at (P := Try.prog) w B t ty 65 i _ 2 48 ht hi hz0 hz1 hz2 rfl (by decide) _ _ _ hown ad 0 cc [] rfl (fun j u hu => by simp at hu) (by simp) (by unfold maxLen; simp at hlen ⊢; omega) (by simpa using hlen) hB
      obtain ⟨v', w', hr, ho', hg, -, -⟩ := R
      simp only [Nat.add_zero, List.append_nil] at ho'
      have hbel : Below B w w' := (Below.refl B w).grown hg hB fun k hk => by
        rcases hown.2 with ⟨hv, _⟩ | ⟨g, cap, cur, hv, hBg, _⟩
        · rw [hv] at hk; cases hk
        · rw [hv] at hk; injection hk with hk; subst hk; exact hBg
      have hkp : ∀ k, k < w.heap.size → (∀ ad, A = some ad → ad.block ≠ k) → w'.heap[k]? = w.heap[k]? := fun k hk hne => by
        refine hg.block k hk ?_
        have : Value.ownBlock (.slice A ts.length c) = A.map (·.block) := by cases A <;> rfl
        rw [this]
        intro e
        obtain ⟨ad, had, rfl⟩ := Option.map_eq_some_iff.1 e.symm
        exact hne ad had rfl
      rcases ho'.2 with ⟨hv, hn⟩ | ⟨g, cap, cur, hv, rest⟩
      · refine ⟨none, 0, w', ?_, ?_, hbel, hkp⟩
        · rw [hv] at hr; rw [List.append_nil]; refine hr.trans ?_; rw [hn]
        · rw [List.append_nil]; unfold OwnT; rw [hn] at ho' ⊢; rw [hv] at ho'; exact ho'
      · refine ⟨some ⟨g, 0, none⟩, cap, w', ?_, ?_, hbel, hkp⟩
        · rw [List.append_nil]; rw [hv] at hr; exact hr
        · rw [List.append_nil]; rw [hv] at ho'; exact ho'
  | cons u us =>
    obtain ⟨b, o, rfl, _⟩ := hrd 0 u rfl
    have R := run_append_own_at (P := Try.prog) w B t ty 65 i _ 2 48 ht hi hz0 hz1 hz2 rfl (by decide) _ _ _ hown ⟨b, o, none⟩ (u :: us).length cc (tc (u :: us)) (tc_length _) hrd.news (tc_one _) (by unfold maxLen; omega) hlen hB
    obtain ⟨v', w', hr, ho', hg, -, -⟩ := R
    have hbel : Below B w w' := (Below.refl B w).grown hg hB fun k hk => by
      rcases hown.2 with ⟨hv, _⟩ | ⟨g, cap, cur, hv, hBg, _⟩
      · rw [hv] at hk; cases hk
      · rw [hv] at hk; injection hk with hk; subst hk; exact hBg
    rw [← tc_append, ← List.length_append] at ho'
    have hkp : ∀ k, k < w.heap.size → (∀ ad, A = some ad → ad.block ≠ k) → w'.heap[k]? = w.heap[k]? := fun k hk hne => by
      refine hg.block k hk ?_
      have : Value.ownBlock (.slice A ts.length c) = A.map (·.block) := by cases A <;> rfl
      rw [this]
      intro e
      obtain ⟨ad, had, rfl⟩ := Option.map_eq_some_iff.1 e.symm
      exact hne ad had rfl
    rcases ho'.2 with ⟨_, hn⟩ | ⟨g, cap, cur, hv, rest⟩
    · simp at hn
    · refine ⟨some ⟨g, 0, none⟩, cap, w', ?_, ?_, hbel, hkp⟩
      · rw [hv] at hr; exact hr
      · rw [hv] at ho'; exact ho'
set_option maxRecDepth 100000 in
theorem step_appendT {ops : Array Oper} {o : Oper} {a : Act} {K : Act → World → Prop} {Q : Exit → Act → World → Prop} (hw : Region.wanted o (yielded ops a.tmps) = true) (s x : Operand) (t : TypeId)
    (ho : o.op = .call { callee := .builtin .append, args := #[s, x], argTypes := #[t, t] }) (ht : Try.prog.underlying t = some (.slice 65)) {n : Nat} (hn : n = ts.length) (hs : a.eval s = .slice A n c) (hown : OwnT w B A c ts)
    {A2 : Option Addr} {n2 cc : Nat} (hx : a.eval x = .slice A2 n2 cc) {us : List Tn} [r : Ts w A2 n2 us] (hlen : (ts.length + us.length) * 48 ≤ 140737488355328) (hB : B ≤ w.heap.size)
    (h : ∀ A' c' w', OwnT w' B A' c' (ts ++ us) → Below B w w' → (∀ k, k < w.heap.size → (∀ ad, A = some ad → ad.block ≠ k) → w'.heap[k]? = w.heap[k]?) → K (a.put o.dst (.slice A' (ts ++ us).length c')) w') :
    if Region.wanted o (yielded ops a.tmps) = true then Oper.wp Try.prog o a w K Q else K (a.put o.dst undef) w := by
  rw [if_pos hw]
  subst hn
  obtain ⟨r, rfl⟩ := r
  obtain ⟨A', c', w', hr, h1, h2, h3⟩ := run_appendT t o.type ht hown (cc := cc) r hlen hB
  unfold Oper.wp execOp
  simp only [ho, resolve, invoke, builtin, Sem.run_bind, Sem.run_pure, Result.andThen_ok, List.map_toArray, List.map_cons, List.map_nil, hs, hx, hr]
  exact h A' c' w' h1 h2 h3
set_option maxRecDepth 100000 in
/-- Onto '[]T{}': nothing that was there changes. -/
theorem run_appendT0 (t ty : TypeId) (ht : Try.prog.underlying t = some (.slice 65)) {g : Nat} (hg : Bx w g 65 #[]) {A2 : Option Addr} {n2 cc : Nat} {us : List Tn} (r : Ts w A2 n2 us) (hlen : n2 * 48 ≤ 140737488355328) :
    ∃ A' c' w', (Builtin.append_ #[t, t] ty #[.slice (some ⟨g, 0, none⟩) 0 0, .slice A2 n2 cc]).run Try.prog w = .ok (.slice A' n2 c') w' ∧ OwnT w' g A' c' us ∧ Prev w' w := by
  have hinfo : (Try.prog.info? 65).map (fun i => (i.zero, i.size, i.bytes)) = some (some (.agg #[.slice none 0 0, .slice none 0 0]), 2, 48) := by kernel_rfl
  obtain ⟨i, hi, hzz⟩ := Option.map_eq_some_iff.1 hinfo
  simp only [Prod.mk.injEq] at hzz
  obtain ⟨hz0, hz1, hz2⟩ := hzz
  obtain ⟨r, rfl⟩ := r
  have hsrc : Src Try.prog i.size t (.slice A2 us.length cc) us.length (tc us) w := by
    cases A2 with
    | none =>
      have : us = [] := by
        cases us with
        | nil => rfl
        | cons y ys => obtain ⟨b, off, e, _⟩ := r 0 y rfl; cases e
      subst this
      exact Src.ofNil w ht cc
    | some a =>
      by_cases h0 : us = []
      · subst h0; exact Src.ofSlice w ht a _ cc _ (by simp [tc]) (fun j u hu => by simp [tc] at hu) (by simp [tc])
      · obtain ⟨u, us', rfl⟩ := List.exists_cons_of_ne_nil h0
        obtain ⟨b, o, e, _⟩ := r 0 u rfl
        injection e with e; subst e
        exact Src.ofSlice w ht _ _ cc _ (by rw [tc_length, hz1]) r.news (tc_one _)
  by_cases h0 : us = []
  · subst h0
    exact ⟨some ⟨g, 0, none⟩, 0, w, run_append_nothing w t t ty 65 i ht hi _ 0 0 (Nat.le_refl _) _ hsrc, OwnT.empty hg (Nat.le_refl _), ⟨Below.refl _ _⟩⟩
  · have hl : 0 < us.length := List.length_pos_iff.2 h0
    have hfc : (Builtin.firstCells i.size 0 (.slice (some ⟨g, 0, none⟩) 0 0)).run Try.prog w.drew = .ok (([] : List Value).toArray) w.drew := run_firstCells_some (P := Try.prog) w.drew i.size 0 ⟨g, 0, none⟩ 0 0 [] (by simp) (by simp)
    have R := run_append_grow_src w t t ty 65 i _ ht hi hz0 (some ⟨g, 0, none⟩) 0 0 [] hfc _ us.length _ hsrc (by omega) (by omega) (growslice_fits (by omega) (by rw [hz2]; omega))
    simp only [Nat.zero_add, List.nil_append] at R
    have hcap := grownCap_ge w us.length 0 65
    refine ⟨_, _, _, R, ⟨by rw [tc_length], .inr ⟨w.heap.size, _, _, rfl, Nat.le_of_lt hg.blk.lt, heap_alloc_new w.drew _, hcap, grownCap_le_maxLen w us.length 0 65 (by unfold maxLen; omega), ?_, ?_⟩⟩, ⟨(Below.refl _ _).drew.alloc (Nat.le_refl _) _⟩⟩
    · simp [size_zeroCells, Value.cells, tc_length]
      omega
    · simp [tc_length]
theorem step_appendT0 {ops : Array Oper} {o : Oper} {a : Act} {K : Act → World → Prop} {Q : Exit → Act → World → Prop} (hw : Region.wanted o (yielded ops a.tmps) = true) (s x : Operand) (t : TypeId)
    (ho : o.op = .call { callee := .builtin .append, args := #[s, x], argTypes := #[t, t] }) (ht : Try.prog.underlying t = some (.slice 65)) {g : Nat}
    (hs : a.eval s = .slice (some ⟨g, 0, none⟩) 0 0) [hg : Bx w g 65 #[]]
    {A2 : Option Addr} {n2 cc : Nat} (hx : a.eval x = .slice A2 n2 cc) {us : List Tn} [r : Ts w A2 n2 us] (hlen : n2 * 48 ≤ 140737488355328)
    (h : ∀ A' c' w', OwnT w' g A' c' us → Prev w' w → K (a.put o.dst (.slice A' n2 c')) w') :
    if Region.wanted o (yielded ops a.tmps) = true then Oper.wp Try.prog o a w K Q else K (a.put o.dst undef) w := by
  rw [if_pos hw]
  obtain ⟨A', c', w', hr, h1, h2⟩ := run_appendT0 t o.type ht hg (cc := cc) r hlen
  unfold Oper.wp execOp
  simp only [ho, resolve, invoke, builtin, Sem.run_bind, Sem.run_pure, Result.andThen_ok, List.map_toArray, List.map_cons, List.map_nil, hs, hx, hr]
  exact h A' c' w' h1 h2
theorem OwnT.more {B' : Nat} (h : OwnT w B A c ts) (hB : B' ≤ B) : OwnT w B' A c ts := by
  refine ⟨h.1, ?_⟩
  rcases h.2 with hn | ⟨g, cap, cur, hv, hb, r⟩
  · exact .inl hn
  · exact .inr ⟨g, cap, cur, hv, by omega, r⟩
end

end Go.Proofs.Ytphcffcecncngaa
