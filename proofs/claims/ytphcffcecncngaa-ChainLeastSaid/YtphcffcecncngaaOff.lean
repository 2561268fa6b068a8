/- All blocks but some are as they were; rows of cells that are cleared or copied; a floating allocation. -/
import Derived.Test.YtphcffcecncngaaLater
import Derived.Lib.SliceRun
import Derived.Deep.Upon
namespace Go.Proofs.Ytphcffcecncngaa
open Go.RowKit

/-- All blocks of W but those of bs are as they were. -/
structure Off (bs : List Nat) (W wr : World) : Prop where
  size : W.heap.size ≤ wr.heap.size
  same : ∀ k, k < W.heap.size → k ∉ bs → wr.heap[k]? = W.heap[k]?
section
variable {bs : List Nat} {W wr : World}
theorem Off.refl (bs : List Nat) (W : World) : Off bs W W := ⟨Nat.le_refl _, fun _ _ _ => rfl⟩
theorem Off.set_ (h : Off bs W wr) {g : Nat} (hg : g ∈ bs) (i : Nat) (v : Value) : Off bs W (wr.setCell ⟨g, i, none⟩ v) :=
  ⟨by have := h.size; simp; omega, fun k hk hn => (Below.heap_setCell wr ⟨g, i, none⟩ v k (fun e => hn (e ▸ hg))).trans (h.same k hk hn)⟩
theorem Off.drewN (h : Off bs W wr) (n : Nat) : Off bs W (wr.drewN n) := ⟨h.size, h.same⟩
theorem Off.drew (h : Off bs W wr) : Off bs W wr.drew := ⟨h.size, h.same⟩
theorem Off.below {w' : World} (h : Off bs W wr) (hb : Below wr.heap.size wr w') : Off bs W w' :=
  ⟨Nat.le_trans h.size hb.size, fun k hk hg => (hb.block k (Nat.lt_of_lt_of_le hk h.size)).trans (h.same k hk hg)⟩
theorem Off.trans {a b : World} (h : Off bs W a) (k : Off bs a b) : Off bs W b :=
  ⟨Nat.le_trans h.size k.size, fun j hj hg => (k.same j (Nat.lt_of_lt_of_le hj h.size) hg).trans (h.same j hj hg)⟩
theorem Off.blk {k : Nat} {T : TypeId} {cs : Array Value} (h : Off bs W wr) (hb : Blk W k T cs) (hne : k ∉ bs) : Blk wr k T cs := (h.same k hb.lt hne).trans hb
theorem Off.own {k : Nat} {T : TypeId} {zs : List Int} (h : Off bs W wr) (hb : Own W k T zs) (hne : k ∉ bs) : Own wr k T zs := (h.same k hb.lt hne).trans hb
theorem Off.ownA {B c : Nat} {T : TypeId} {A : Option Addr} {zs : List Int} (h : Off bs W wr) (ho : OwnA W B T A c zs) (hne : ∀ ad, A = some ad → ad.block ∉ bs) : OwnA wr B T A c zs :=
  ho.same fun ad e => h.same _ (ho.lt ad e) (hne ad e)
theorem Off.rd {A : Option Addr} {zs : List Int} (h : Off bs W wr) (ho : Rd W A zs) (hne : ∀ ad, A = some ad → ad.block ∉ bs) : Rd wr A zs := by
  intro j z hj
  obtain ⟨b, off, e, hb, hc⟩ := ho j z hj
  refine ⟨b, off, e, Nat.lt_of_lt_of_le hb h.size, ?_⟩
  rw [← hc]
  exact World.cell?_of_block (h.same b hb (hne _ e))
/-- What was there when the call began. -/
theorem Off.rd_old {w : World} {A : Option Addr} {zs : List Int} (h : Off bs W wr) (h0 : Rd w A zs) (ho : Rd W A zs) (hg : ∀ g ∈ bs, w.heap.size ≤ g) : Rd wr A zs := by
  by_cases hz : zs = []
  · subst hz; exact Rd.nil _ _
  · exact h.rd ho fun ad e hm => by have := h0.old hz ad e; have := hg _ hm; omega
end
theorem setCells_off {bs : List Nat} {W : World} {g : Nat} (hg : g ∈ bs) : ∀ (vs : List Value) (o : Nat) {wr : World}, Off bs W wr → Off bs W (wr.setCells g o vs)
  | [], _, _, h => h
  | v :: vs, o, _, h => setCells_off hg vs (o + 1) (h.set_ hg o v)
theorem setCells_below {n g : Nat} {w : World} (hg : n ≤ g) : ∀ (vs : List Value) (o : Nat) {wr : World}, Below n w wr → Below n w (wr.setCells g o vs)
  | [], _, _, h => h
  | v :: vs, o, _, h => setCells_below hg vs (o + 1) (h.setCell (p := ⟨g, o, none⟩) hg v)
theorem setCells_own {g : Nat} {T : TypeId} : ∀ (vs : List Int) (o : Nat) {w : World} {xs : List Int}, Own w g T xs → o + vs.length ≤ xs.length → Own (w.setCells g o (vs.map (Value.int .i64))) g T (xs.take o ++ vs ++ xs.drop (o + vs.length))
  | [], o, w, xs, h, _ => by simpa [World.setCells] using h
  | v :: vs, o, w, xs, h, hl => by
    have h1 := setCells_own vs (o + 1) (h.set_ o v) (by simp at hl ⊢; omega)
    have e : (xs.set o v).take (o + 1) ++ vs ++ (xs.set o v).drop (o + 1 + vs.length) = xs.take o ++ (v :: vs) ++ xs.drop (o + (v :: vs).length) := by
      simp at hl
      rw [List.drop_set, if_pos (by omega), List.take_succ_eq_append_getElem (by simp; omega), List.take_set_of_le (Nat.le_refl o)]
      simp [Nat.add_comm]
      omega
    rw [e] at h1
    exact h1
theorem Own.clear {w : World} {g : Nat} {T : TypeId} {xs : List Int} (h : Own w g T xs) : Own (w.setCells g 0 (List.replicate xs.length (.int .i64 0))) g T (List.replicate xs.length 0) := by
  have := setCells_own (List.replicate xs.length 0) 0 h (by simp)
  simpa using this
/-- 'clear' of a whole row of the call's own. -/
theorem run_clear_own {P : Program} (t e ty : TypeId) (ht : P.underlying t = some (.slice e)) (hz : (P.info? e).map (·.zero) = some (some (.int .i64 0))) {w : World} {g : Nat} {T : TypeId} {xs : List Int} (h : Own w g T xs) (hn : 0 < xs.length) (c : Nat) :
    (Builtin.clear_ #[t] ty #[.slice (some ⟨g, 0, none⟩) xs.length c]).run P w = .ok (.tuple #[]) (w.setCells g 0 (List.replicate xs.length (.int .i64 0))) := by
  obtain ⟨i, hi, hz'⟩ := Option.map_eq_some_iff.1 hz
  refine Lib.run_clear_slice w t e ty (.int .i64 0) ht (fun w => ?_) rfl rfl g 0 xs.length c hn (fun j hj => ?_) (fun j _ => by rw [Nat.zero_add]; exact h.frozen j)
  · simp [zeroValue, typeInfo, hi, hz', go_sem]
  · rw [Nat.zero_add, h.cell (List.getElem?_eq_getElem hj)]; rfl
/-- A new block: the world gets a name. -/
theorem gen_alloc {G : World → Prop} {X : World} {T : TypeId} {cs : Array Value} (h : ∀ u, Prev u X → Blk u X.heap.size T cs → u.heap.size = X.heap.size + 1 → G u) : G (X.alloc (.cells cs T)) :=
  h _ (Prev.alloc _ _) (Blk.new _ _ _) (by simp)
theorem gen_allocH {P : Program} {md : Region.Mode} {ops : Array Oper} {Q : Exit → Act → World → Prop} {S : World → Prop} {fuel : Nat} {listed : Array Bool} {a : Act} {X : World} {T : TypeId} {cs : Array Value}
    (h : ∀ u, Prev u X → Blk u X.heap.size T cs → u.heap.size = X.heap.size + 1 → wpAnyH P md ops Q S fuel listed a u) : wpAnyH P md ops Q S fuel listed a (X.alloc (.cells cs T)) :=
  h _ (Prev.alloc _ _) (Blk.new _ _ _) (by simp)
theorem gen_drewH {P : Program} {md : Region.Mode} {ops : Array Oper} {Q : Exit → Act → World → Prop} {S : World → Prop} {fuel : Nat} {listed : Array Bool} {a : Act} {X : World}
    (h : ∀ u, Prev u X → wpAnyH P md ops Q S fuel listed a u) : wpAnyH P md ops Q S fuel listed a X.drew := h _ (Prev.drew _)
theorem gen_intsH {P : Program} {md : Region.Mode} {ops : Array Oper} {Q : Exit → Act → World → Prop} {S : World → Prop} {fuel : Nat} {listed : Array Bool} {a : Act} {X : World} {T : TypeId} (zs : List Int) {cs : Array Value} (hc : cs = ints zs)
    (h : ∀ u, Prev u X → Own u X.heap.size T zs → u.heap.size = X.heap.size + 1 → wpAnyH P md ops Q S fuel listed a u) : wpAnyH P md ops Q S fuel listed a (X.alloc (.cells cs T)) := by
  subst hc
  exact h _ (Prev.alloc _ _) (Own.new _ _ _) (by simp)
theorem gen_ints {G : World → Prop} {X : World} {T : TypeId} (zs : List Int) {cs : Array Value} (hc : cs = ints zs) (h : ∀ u, Prev u X → Own u X.heap.size T zs → u.heap.size = X.heap.size + 1 → G u) : G (X.alloc (.cells cs T)) := by
  subst hc
  exact h _ (Prev.alloc _ _) (Own.new _ _ _) (by simp)

end Go.Proofs.Ytphcffcecncngaa
