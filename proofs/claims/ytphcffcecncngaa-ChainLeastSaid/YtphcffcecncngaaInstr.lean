/- Rows of instructions: pairs of numbers. -/
import Derived.Test.YtphcffcecncngaaAuto
import Derived.Test.YtphcffcecncngaaAppend
namespace Go.Proofs.Ytphcffcecncngaa
open Go.RowKit

/-- The cells of a row of instructions. -/
def ic (ps : List (Int × Int)) : List Value := ps.flatMap fun x => [.int .i64 x.1, .int .i64 x.2]
theorem ic_append (ps qs : List (Int × Int)) : ic (ps ++ qs) = ic ps ++ ic qs := by simp [ic]
theorem ic_length (ps : List (Int × Int)) : (ic ps).length = ps.length * 2 := by
  induction ps with
  | nil => rfl
  | cons t l ih => simp [ic] at ih ⊢; omega
theorem ic_at : ∀ {ps : List (Int × Int)} {j : Nat} {x : Int × Int}, ps[j]? = some x → (ic ps)[j * 2]? = some (.int .i64 x.1) ∧ (ic ps)[j * 2 + 1]? = some (.int .i64 x.2)
  | u :: l, 0, x, h => by simp at h; subst h; simp [ic]
  | u :: l, j + 1, x, h => by
    have := ic_at (ps := l) (j := j) (x := x) (by simpa using h)
    have e : ic (u :: l) = [.int .i64 u.1, .int .i64 u.2] ++ ic l := by simp [ic]
    rw [e, List.getElem?_append_right (by simp; omega), List.getElem?_append_right (by simp; omega)]
    simp only [List.length_cons, List.length_nil]
    rw [show (j + 1) * 2 - (0 + 1 + 1) = j * 2 from by omega, show (j + 1) * 2 + 1 - (0 + 1 + 1) = j * 2 + 1 from by omega]
    exact this
/-- The slice with address A reads as these instructions. -/
def IRd (w : World) (A : Option Addr) (ps : List (Int × Int)) : Prop :=
  ∀ (j : Nat) (x : Int × Int), ps[j]? = some x → ∃ b off, A = some ⟨b, off, none⟩ ∧ b < w.heap.size ∧ w.cell? ⟨b, off + j * 2, none⟩ = some (.int .i64 x.1) ∧ w.cell? ⟨b, off + j * 2 + 1, none⟩ = some (.int .i64 x.2)
theorem IRd.nil (w : World) (A : Option Addr) : IRd w A [] := fun j _ hj => absurd hj (by simp)
theorem IRd.below {w w' : World} {A : Option Addr} {ps : List (Int × Int)} (h : IRd w A ps) (hb : Below w.heap.size w w') : IRd w' A ps := fun j x hj => by
  obtain ⟨b, off, e, hlt, h1, h2⟩ := h j x hj
  exact ⟨b, off, e, Nat.lt_of_lt_of_le hlt hb.size, (hb.cell (p := ⟨b, off + j * 2, none⟩) hlt).trans h1, (hb.cell (p := ⟨b, off + j * 2 + 1, none⟩) hlt).trans h2⟩
/-- The slice of length n at A reads as these instructions. -/
class Is (w : World) (A : Option Addr) (n : Nat) (ps : outParam (List (Int × Int))) : Prop where
  rd : IRd w A ps
  len : n = ps.length
section
variable {w w' : World} {A : Option Addr} {n B c : Nat} {ps qs : List (Int × Int)}
instance (priority := low) Is.step [p : Prev w' w] [h : Is w A n ps] : Is w' A n ps := ⟨h.rd.below p.st, h.len⟩
theorem Is.get (h : Is w A n ps) {k : Nat} (hk : k < n) : ∃ b off x y, A = some ⟨b, off, none⟩ ∧ Old b w ∧ w.cell? ⟨b, off + k * 2, none⟩ = some (.int .i64 x) ∧ w.cell? ⟨b, off + k * 2 + 1, none⟩ = some (.int .i64 y) ∧ Hid (ps[k]? = some (x, y)) := by
  have e : ps[k]? = some (ps[k]'(by rw [← h.len]; exact hk)) := List.getElem?_eq_getElem _
  obtain ⟨b, off, rfl, hb, h1, h2⟩ := h.rd k _ e
  exact ⟨b, off, _, _, rfl, ⟨hb⟩, h1, h2, Lib.hid e⟩
/-- A slice of instructions of the call's own. -/
def OwnI (w : World) (B : Nat) (A : Option Addr) (c : Nat) (ps : List (Int × Int)) : Prop := w.ownsRow B 108 2 (.slice A ps.length c) ps.length (ic ps)
theorem OwnI.nil (w : World) (B : Nat) : OwnI w B none 0 [] := World.ownsRow_nil w B 108 2
theorem OwnI.form (h : OwnI w B A c ps) : (A = none ∧ ps = [] ∧ c = 0) ∨ ∃ g cur, A = some ⟨g, 0, none⟩ ∧ B ≤ g ∧ w.heap[g]? = some (.cells cur 108 (0, 0)) ∧ cur.toList.take (ps.length * 2) = ic ps := by
  rcases h.2 with ⟨hv, hn⟩ | ⟨g, cap, cur, hv, hB, hg, hl, hm, hc, ht⟩
  · injection hv with h1 h2 h3
    exact .inl ⟨h1, List.eq_nil_of_length_eq_zero hn, h3⟩
  · injection hv with h1 h2 h3
    exact .inr ⟨g, cur, h1, hB, hg, ht⟩
theorem OwnI.rd (h : OwnI w B A c ps) : IRd w A ps := by
  rcases h.form with ⟨_, rfl, _⟩ | ⟨g, cur, rfl, hB, hg, ht⟩
  · exact IRd.nil _ _
  · intro j x hj
    obtain ⟨a0, a1⟩ := ic_at hj
    have hjl := (List.getElem?_eq_some_iff.1 hj).1
    have look : ∀ k v, k < ps.length * 2 → (ic ps)[k]? = some v → w.cell? ⟨g, k, none⟩ = some v := by
      intro k v hk hv
      rw [← ht, List.getElem?_take, if_pos hk] at hv
      have : cur[k]? = some v := by simpa using hv
      simp [World.cell?, hg, this]
    refine ⟨g, 0, rfl, (Array.getElem?_eq_some_iff.1 hg).1, ?_, ?_⟩
    · rw [Nat.zero_add]; exact look _ _ (by omega) a0
    · rw [Nat.zero_add]; exact look _ _ (by omega) a1
theorem OwnI.lt (h : OwnI w B A c ps) : ∀ ad, A = some ad → ad.block < w.heap.size := by
  rcases h.form with ⟨rfl, _, _⟩ | ⟨g, cur, rfl, hB, hg, _⟩
  · intro ad h; cases h
  · intro ad h; injection h with h; subst h; exact (Array.getElem?_eq_some_iff.1 hg).1
theorem OwnI.fresh (h : OwnI w B A c ps) : ∀ ad, A = some ad → B ≤ ad.block := by
  rcases h.form with ⟨rfl, _, _⟩ | ⟨g, cur, rfl, hB, hg, _⟩
  · intro ad h; cases h
  · intro ad h; injection h with h; subst h; exact hB
theorem OwnI.same (h : OwnI w B A c ps) (hk : ∀ ad, A = some ad → w'.heap[ad.block]? = w.heap[ad.block]?) : OwnI w' B A c ps := by
  refine ⟨h.1, ?_⟩
  rcases h.2 with h | ⟨g, cap, cur, hv, hB, hg, r⟩
  · exact .inl h
  · refine .inr ⟨g, cap, cur, hv, hB, ?_, r⟩
    injection hv with hv
    rw [← hg]
    exact hk _ hv
theorem OwnI.at (h : OwnI w B A c ps) [l : Later w w'] : OwnI w' B A c ps := h.same fun ad e => l.st.block _ (h.lt ad e)
/-- The block of such a slice is of the instructions' type. -/
theorem OwnI.typ (h : OwnI w B A c ps) : ∀ ad, A = some ad → ∃ cs fz, w.heap[ad.block]? = some (.cells cs 108 fz) := by
  rcases h.form with ⟨rfl, _, _⟩ | ⟨g, cur, rfl, hB, hg, _⟩
  · intro ad h; cases h
  · intro ad h; injection h with h; subst h; exact ⟨_, _, hg⟩
theorem OwnI.ne_blk {g : Nat} {T : TypeId} {cs : Array Value} (h : OwnI w B A c ps) (h' : Blk w g T cs) (hne : T ≠ 108) : ∀ ad, A = some ad → ad.block ≠ g := by
  intro ad e hb
  obtain ⟨cs', fz, h1⟩ := h.typ ad e
  rw [hb] at h1
  unfold Blk at h'
  rw [h1] at h'
  injection h' with h'; injection h' with _ h2
  exact hne h2.symm
/-- 'out = append(out, instr)' for a slice of the call's own. -/
theorem wpList_push2 {ops : Array Oper} {rest : List Oper} {o : Oper} {a : Act} {Q : Exit → Act → World → Prop} (hgd : o.guard = none) (s x : Operand) (t : TypeId)
    (ho : o.op = .call { callee := .builtin .append, args := #[s, x], argTypes := #[t, t] }) (ht : Try.prog.underlying t = some (.slice 108))
    (hs : a.eval s = .slice A ps.length c) (hown : OwnI w B A c ps) (y z : Int)
    (hx : a.eval x = .slice (some ⟨w.heap.size, 0, none⟩) 1 1) (hlen : ps.length ≤ 1000000000) (hB : B ≤ w.heap.size)
    (h : ∀ A' c' w', OwnI w' B A' c' (ps ++ [(y, z)]) → Below B w w' → (∀ k, k < w.heap.size → (∀ ad, A = some ad → ad.block ≠ k) → w'.heap[k]? = w.heap[k]?) →
      wpList Try.prog ops Q rest (a.put o.dst (.slice A' (ps.length + 1) c')) w') :
    wpList Try.prog ops Q (o :: rest) a (w.alloc (.cells #[.int .i64 y, .int .i64 z] 108)) := by
  have hinfo : (Try.prog.info? 108).map (fun i => (i.zero, i.size, i.bytes)) = some (some (.agg #[.int .i64 0, .int .i64 0]), 2, 16) := by kernel_rfl
  obtain ⟨i, hi, hzz⟩ := Option.map_eq_some_iff.1 hinfo
  simp only [Prod.mk.injEq] at hzz
  obtain ⟨hz0, hz1, hz2⟩ := hzz
  have hown2 : OwnI (w.alloc (.cells #[.int .i64 y, .int .i64 z] 108)) B A c ps := hown.at
  refine wpList_append_own_at (w.alloc (.cells #[.int .i64 y, .int .i64 z] 108)) hgd s x t ho B 108 i _ 2 16 ht hi hz0 hz1 hz2 rfl (by decide) _ _ _ hs hown2 ⟨w.heap.size, 0, none⟩ 1 1 [.int .i64 y, .int .i64 z] hx rfl
    (fun j u hu => ?_) (by simp [Value.oneCell']) (by unfold maxLen; omega) (by omega) (by simp; omega) ?_
  · have hj : j = 0 ∨ j = 1 := by
      have := (List.getElem?_eq_some_iff.1 hu).1
      simp at this; omega
    rcases hj with rfl | rfl
    · simp at hu; subst hu
      simp [Addr.add, World.cell?_alloc_at]
    · simp at hu; subst hu
      simp [Addr.add, World.cell?_alloc_at]
  · intro v' w' ho' hg _ _
    have hl : (ps ++ [(y, z)]).length = ps.length + 1 := by simp
    rcases ho'.2 with ⟨hv, hn⟩ | ⟨g, cap, cur, hv, hBg, hgg, hnc, hcm, hcs, htk⟩
    · omega
    · have hv2 : v' = .slice (some ⟨g, 0, none⟩) (ps.length + 1) cap := hv
      rw [hv2]
      rw [hv2] at ho'
      refine h _ _ _ ?_ ?_ ?_
      · unfold OwnI
        rw [hl, ic_append]
        exact ho'
      · refine ((Below.refl B w).alloc hB _).grown hg (by simp; omega) ?_
        intro k hk
        have : Value.ownBlock (.slice A ps.length c) = A.map (·.block) := by cases A <;> rfl
        rw [this] at hk
        obtain ⟨ad, had, rfl⟩ := Option.map_eq_some_iff.1 hk
        exact hown.fresh ad had
      · intro k hk hne
        rw [hg.block k (by simp; omega) ?_, Below.heap_alloc _ _ _ hk]
        have : Value.ownBlock (.slice A ps.length c) = A.map (·.block) := by cases A <;> rfl
        rw [this]
        intro e
        obtain ⟨ad, had, rfl⟩ := Option.map_eq_some_iff.1 e.symm
        exact hne ad had rfl
end

end Go.Proofs.Ytphcffcecncngaa
