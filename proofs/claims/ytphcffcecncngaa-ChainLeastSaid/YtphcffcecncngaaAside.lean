/- All blocks but one are as they were. -/
import Derived.Test.YtphcffcecncngaaAppend
namespace Go.Proofs.Ytphcffcecncngaa
open Go.RowKit

structure Aside (g : Nat) (W wr : World) : Prop where
  size : W.heap.size ≤ wr.heap.size
  same : ∀ k, k < W.heap.size → k ≠ g → wr.heap[k]? = W.heap[k]?
section
variable {g : Nat} {W wr : World}
theorem Aside.refl (g : Nat) (W : World) : Aside g W W := ⟨Nat.le_refl _, fun _ _ _ => rfl⟩
theorem Aside.set_ (h : Aside g W wr) (i : Nat) (v : Value) : Aside g W (wr.setCell ⟨g, i, none⟩ v) :=
  ⟨by have := h.size; simp; omega, fun k hk hg => (Below.heap_setCell wr ⟨g, i, none⟩ v k hg).trans (h.same k hk hg)⟩
theorem Aside.drewN (h : Aside g W wr) (n : Nat) : Aside g W (wr.drewN n) := ⟨h.size, h.same⟩
theorem Aside.drew (h : Aside g W wr) : Aside g W wr.drew := ⟨h.size, h.same⟩
theorem Aside.below {w' : World} (h : Aside g W wr) (hb : Below wr.heap.size wr w') : Aside g W w' :=
  ⟨Nat.le_trans h.size hb.size, fun k hk hg => (hb.block k (Nat.lt_of_lt_of_le hk h.size)).trans (h.same k hk hg)⟩
theorem Aside.blk {k : Nat} {T : TypeId} {cs : Array Value} (h : Aside g W wr) (hb : Blk W k T cs) (hne : k ≠ g) : Blk wr k T cs := (h.same k hb.lt hne).trans hb
theorem Aside.own {k : Nat} {T : TypeId} {zs : List Int} (h : Aside g W wr) (hb : Own W k T zs) (hne : k ≠ g) : Own wr k T zs := (h.same k hb.lt hne).trans hb
theorem Aside.ownA {B c : Nat} {T : TypeId} {A : Option Addr} {zs : List Int} (h : Aside g W wr) (ho : OwnA W B T A c zs) (hne : ∀ ad, A = some ad → ad.block ≠ g) : OwnA wr B T A c zs :=
  ho.same fun ad e => h.same _ (ho.lt ad e) (hne ad e)
theorem Aside.rd {A : Option Addr} {zs : List Int} (h : Aside g W wr) (ho : Rd W A zs) (hne : ∀ ad, A = some ad → ad.block ≠ g) : Rd wr A zs := by
  intro j z hj
  obtain ⟨b, off, e, hb, hc⟩ := ho j z hj
  refine ⟨b, off, e, Nat.lt_of_lt_of_le hb h.size, ?_⟩
  rw [← hc]
  exact World.cell?_of_block (h.same b hb (hne _ e))
end
/-- What was there when the call began lies in no block of its own. -/
theorem Rd.old {w : World} {A : Option Addr} {zs : List Int} (h : Rd w A zs) (hz : zs ≠ []) : ∀ ad, A = some ad → ad.block < w.heap.size := by
  intro ad e
  obtain ⟨z, t, rfl⟩ := List.exists_cons_of_ne_nil hz
  obtain ⟨b, off, e2, hb, _⟩ := h 0 z rfl
  rw [e] at e2; injection e2 with e2; subst e2; exact hb
/-- A slice of the caller's, read on while a block of the call's own is written. -/
theorem Aside.rd_old {g : Nat} {w W wr : World} {A : Option Addr} {zs : List Int} (h : Aside g W wr) (h0 : Rd w A zs) (ho : Rd W A zs) (hg : w.heap.size ≤ g) : Rd wr A zs := by
  by_cases hz : zs = []
  · subst hz; exact Rd.nil _ _
  · exact h.rd ho fun ad e => by have := h0.old hz ad e; omega
theorem OwnA.ne_own {w : World} {B c g' : Nat} {T T' : TypeId} {A : Option Addr} {zs ys : List Int} (h : OwnA w B T A c zs) (h' : Own w g' T' ys) (hne : T ≠ T') : ∀ ad, A = some ad → ad.block ≠ g' := by
  intro ad e
  rcases h.form with ⟨rfl, _, _⟩ | ⟨g, cur, rfl, hB, hg, _⟩
  · cases e
  · injection e with e; subst e
    rintro rfl
    unfold Own at h'
    dsimp only at h'
    rw [hg] at h'
    injection h' with h'
    injection h' with _ ht
    exact hne ht

end Go.Proofs.Ytphcffcecncngaa
