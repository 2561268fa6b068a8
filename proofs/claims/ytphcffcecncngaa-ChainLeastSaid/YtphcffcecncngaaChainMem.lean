/- The solver's memo: each entry is a row of least costs. The world behind a call that may add to the memo. -/
import Derived.Test.YtphcffcecncngaaChainMap
namespace Go.Proofs.Ytphcffcecncngaa
open Go.RowKit

/-- How long the rows from position l are. -/
def Ch.rl (c : Ch) (cap : Int) (l : Nat) : Nat := (cap - c.kept l + 1).toNat
/-- The least costs of a part, by words; the same, where only j splits have been looked at. -/
def Ch.row (c : Ch) (cap : Int) (l r : Nat) : List Int := (List.range (c.rl cap l)).map fun (m : Nat) => c.V l r (m : Int)
def Ch.rowJ (c : Ch) (cap : Int) (l r j : Nat) : List Int := (List.range (c.rl cap l)).map fun (m : Nat) => c.pv c.V l r (m : Int) j
section
variable {w w' : World} {c : Ch} {cap : Int} {l r : Nat} {bad bad' : Nat → Prop} {nk nk' : Nat → Nat → Prop} {mb : Nat}
theorem Ch.row_len : (c.row cap l r).length = c.rl cap l := by simp [Ch.row]
theorem Ch.row_at {m : Nat} (h : m < c.rl cap l) : (c.row cap l r)[m]? = some (c.V l r (m : Int)) := by simp [Ch.row, h]
/-- An entry. -/
def EntP (w : World) (c : Ch) (cap : Int) (bad : Nat → Prop) (nk : Nat → Nat → Prop) (e : MapEntry) : Prop :=
  ∃ l r g : Nat, l < r ∧ r ≤ c.n ∧ e.key = keyP (l : Int) (r : Int) ∧ e.val = .agg #[.slice (some ⟨g, 0, none⟩) (c.rl cap l) (c.rl cap l)] ∧ Own w g 3 (c.row cap l r) ∧ ¬ bad g ∧ ¬ nk l r
/-- Block mb is the memo: its rows lie in no bad block; no part of nk is in it. -/
def Mem (w : World) (mb : Nat) (c : Ch) (cap : Int) (bad : Nat → Prop) (nk : Nat → Nat → Prop) : Prop :=
  ∃ es clock, w.heap[mb]? = some (.map es clock) ∧ ∀ e ∈ es.toList, EntP w c cap bad nk e
theorem EntP.same {e : MapEntry} (h : EntP w c cap bad nk e) (hk : ∀ b, b < w.heap.size → ¬ bad b → w'.heap[b]? = w.heap[b]?) : EntP w' c cap bad nk e := by
  obtain ⟨l, r, g, h1, h2, h3, h4, h5, h6, h7⟩ := h
  exact ⟨l, r, g, h1, h2, h3, h4, (hk g h5.lt h6).trans h5, h6, h7⟩
theorem Mem.same (h : Mem w mb c cap bad nk) (hm : w'.heap[mb]? = w.heap[mb]?) (hk : ∀ b, b < w.heap.size → ¬ bad b → w'.heap[b]? = w.heap[b]?) : Mem w' mb c cap bad nk := by
  obtain ⟨es, cl, h1, h2⟩ := h
  exact ⟨es, cl, hm.trans h1, fun e he => (h2 e he).same hk⟩
theorem Mem.lt (h : Mem w mb c cap bad nk) : mb < w.heap.size := by
  obtain ⟨es, cl, h1, _⟩ := h
  exact (Array.getElem?_eq_some_iff.1 h1).1
theorem Mem.at (h : Mem w mb c cap bad nk) [l : Later w w'] : Mem w' mb c cap bad nk := h.same (l.st.block _ h.lt) fun b hb _ => l.st.block b hb
theorem Mem.less (h : Mem w mb c cap bad nk) (hb : ∀ g, bad' g → bad g) (hn : ∀ l r, nk' l r → nk l r) : Mem w mb c cap bad' nk' := by
  obtain ⟨es, cl, h1, h2⟩ := h
  refine ⟨es, cl, h1, fun e he => ?_⟩
  obtain ⟨l, r, g, e1, e2, e3, e4, e5, e6, e7⟩ := h2 e he
  exact ⟨l, r, g, e1, e2, e3, e4, e5, fun x => e6 (hb _ x), fun x => e7 (hn _ _ x)⟩
/-- A block that was not there yet may be bad. -/
theorem Mem.fresh (h : Mem w mb c cap bad nk) {g0 : Nat} (hg : w.heap.size ≤ g0) : Mem w mb c cap (fun g => bad g ∨ g = g0) nk := by
  obtain ⟨es, cl, h1, h2⟩ := h
  refine ⟨es, cl, h1, fun e he => ?_⟩
  obtain ⟨l, r, g, e1, e2, e3, e4, e5, e6, e7⟩ := h2 e he
  have := e5.lt
  exact ⟨l, r, g, e1, e2, e3, e4, e5, fun x => x.elim e6 (fun x => by omega), e7⟩
theorem Mem.keysP {es : Array MapEntry} (h2 : ∀ e ∈ es.toList, EntP w c cap bad nk e) : KeysP es.toList := fun e he => by
  obtain ⟨l, r, g, e1, e2, e3, _⟩ := h2 e he
  exact ⟨_, _, e3⟩
theorem keyP_inj {a b a' b' : Nat} (h : keyP (a : Int) (b : Int) = keyP (a' : Int) (b' : Int)) : a = a' ∧ b = b' := by
  simp at h
  omega
theorem Mem.look (h : Mem w mb c cap bad nk) (l r : Nat) :
    (∃ g, (∀ w' : World, w'.heap[mb]? = w.heap[mb]? → (Instr.lookup 96 (.map (some mb)) (keyP (l : Int) (r : Int)) true).run Try.prog w' = .ok (.tuple #[.agg #[.slice (some ⟨g, 0, none⟩) (c.rl cap l) (c.rl cap l)], .bool true]) w') ∧ Own w g 3 (c.row cap l r) ∧ ¬ bad g) ∨
    ((∀ w' : World, w'.heap[mb]? = w.heap[mb]? → (Instr.lookup 96 (.map (some mb)) (keyP (l : Int) (r : Int)) true).run Try.prog w' = .ok (.tuple #[.agg #[.slice none 0 0], .bool false]) w') ∧ Mem w mb c cap bad (fun a b => nk a b ∨ a = l ∧ b = r)) := by
  obtain ⟨es, cl, h1, h2⟩ := h
  rcases run_lookP (mb := mb) (clock := cl) (Mem.keysP h2) (l : Int) (r : Int) with ⟨e, he, hk, hr⟩ | ⟨hn, hr⟩
  · obtain ⟨l', r', g, e1, e2, e3, e4, e5, e6, e7⟩ := h2 e he
    rw [e3] at hk
    obtain ⟨rfl, rfl⟩ := keyP_inj hk
    rw [e4] at hr
    exact .inl ⟨g, fun w' hw => hr w' (hw.trans h1), e5, e6⟩
  · refine .inr ⟨fun w' hw => hr w' (hw.trans h1), es, cl, h1, fun e he => ?_⟩
    obtain ⟨l', r', g, e1, e2, e3, e4, e5, e6, e7⟩ := h2 e he
    refine ⟨l', r', g, e1, e2, e3, e4, e5, e6, fun x => x.elim e7 (fun ⟨x, y⟩ => ?_)⟩
    subst x y
    exact hn e he e3
theorem Mem.put (h : Mem w mb c cap bad nk) {l r g0 : Nat} (hl : l < r) (hr : r ≤ c.n) (hk : nk l r) (ho : Own w g0 3 (c.row cap l r)) (hb : ∀ g, bad' g → bad g) (hg : ¬ bad' g0) (hn : ∀ a b, nk' a b → nk a b) (hn0 : ¬ nk' l r) :
    ∃ w', (Instr.mapUpdate 96 (.map (some mb)) (keyP (l : Int) (r : Int)) (.agg #[.slice (some ⟨g0, 0, none⟩) (c.rl cap l) (c.rl cap l)])).run Try.prog w = .ok () w' ∧ Mem w' mb c cap bad' nk' ∧
      (∀ b, b ≠ mb → w'.heap[b]? = w.heap[b]?) ∧ w'.heap.size = w.heap.size ∧ (mb < w.heap.size) ∧ (∀ B, B ≤ mb → Below B w w') := by
  have hlt := h.lt
  obtain ⟨es, cl, h1, h2⟩ := h
  have habs : ∀ e ∈ es.toList, e.key ≠ keyP (l : Int) (r : Int) := fun e he hke => by
    obtain ⟨l', r', g, e1, e2, e3, e4, e5, e6, e7⟩ := h2 e he
    rw [e3] at hke
    obtain ⟨rfl, rfl⟩ := keyP_inj hke
    exact e7 hk
  have hsame : ∀ b, b ≠ mb → (ChangeMaps.setBlock w mb (.map (es.push { key := keyP (l : Int) (r : Int), val := .agg #[.slice (some ⟨g0, 0, none⟩) (c.rl cap l) (c.rl cap l)], born := cl }) (cl + 1))).heap[b]? = w.heap[b]? := fun b hne => ChangeMaps.heap_setBlock_other h1 _ hne
  have hcell : ∀ {g : Nat} {zs : List Int}, Own w g 3 zs → g ≠ mb := fun {g zs} o e => by
    subst e
    unfold Own at o
    rw [h1] at o
    cases o
  refine ⟨_, run_putP ⟨h1, Mem.keysP h2⟩ _ _ _ habs, ⟨_, _, ChangeMaps.heap_setBlock_same h1 _, fun e he => ?_⟩, hsame, by simp [ChangeMaps.setBlock], hlt, fun B hB => ⟨rfl, rfl, rfl, by simp [ChangeMaps.setBlock], fun k hk => hsame k (by omega)⟩⟩
  rw [Array.toList_push, List.mem_append, List.mem_singleton] at he
  rcases he with he | rfl
  · obtain ⟨l', r', g, e1, e2, e3, e4, e5, e6, e7⟩ := h2 e he
    exact ⟨l', r', g, e1, e2, e3, e4, (hsame g (hcell e5)).trans e5, fun x => e6 (hb _ x), fun x => e7 (hn _ _ x)⟩
  · exact ⟨l, r, g0, hl, hr, rfl, rfl, (hsame g0 (hcell ho)).trans ho, hg, hn0⟩

/-- The memo mb may have grown; all else is as it was. -/
class Nx (mb : outParam Nat) (w' : World) (w : outParam World) : Prop where
  st : Below mb w w'
  keep : ∀ b, b < w.heap.size → b ≠ mb → w'.heap[b]? = w.heap[b]?
  map : ∃ es clock, w.heap[mb]? = some (.map es clock)
theorem Nx.ne {g : Nat} {T : TypeId} {cs : Array Value} (h : Nx mb w' w) (b : Blk w g T cs) : g ≠ mb := fun e => by
  subst e
  obtain ⟨es, cl, h1⟩ := h.map
  unfold Blk at b
  rw [h1] at b
  cases b
instance (priority := low) Old.nx [p : Nx mb w' w] {b : Nat} [h : Old b w] : Old b w' := ⟨Nat.lt_of_lt_of_le h.lt p.st.size⟩
instance (priority := low) Bx.nx [p : Nx mb w' w] {g : Nat} {T : TypeId} {cs : Array Value} [h : Bx w g T cs] : Bx w' g T cs := ⟨(p.keep g h.blk.lt (p.ne h.blk)).trans h.blk⟩
instance (priority := low) Sl.nx [p : Nx mb w' w] {A : Option Addr} {n : Nat} {zs : List Int} [h : Sl w A n zs] : Sl w' A n zs :=
  ⟨fun j z hj => by
    obtain ⟨b, off, e, hb, hc⟩ := h.rd j z hj
    refine ⟨b, off, e, Nat.lt_of_lt_of_le hb p.st.size, ?_⟩
    rw [← hc]
    refine World.cell?_of_block (p.keep b hb fun e => ?_)
    subst e
    obtain ⟨es, cl, h1⟩ := p.map
    simp [World.cell?, h1] at hc, h.len⟩
theorem Own.nx {g : Nat} {T : TypeId} {zs : List Int} (p : Nx mb w' w) (h : Own w g T zs) : Own w' g T zs := (p.keep g h.lt (p.ne h)).trans h
theorem Nx.trans {w'' : World} (h : Nx mb w' w) (k : Nx mb w'' w') : Nx mb w'' w :=
  ⟨h.st.trans k.st, fun b hb hne => (k.keep b (Nat.lt_of_lt_of_le hb h.st.size) hne).trans (h.keep b hb hne), h.map⟩
theorem Nx.of [p : Later w w'] (hm : Mem w mb c cap bad nk) : Nx mb w' w := by
  have hlt := hm.lt
  obtain ⟨es, cl, h1, _⟩ := hm
  exact ⟨p.st.mono (Nat.le_of_lt hlt), fun b hb _ => p.st.block b hb, es, cl, h1⟩
end

end Go.Proofs.Ytphcffcecncngaa
