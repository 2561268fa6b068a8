/- A write into a slice that the call has made by append. -/
import Derived.Test.YteibgdcieaiaiaaAppend
namespace Go.Proofs.Yteibgdcieaiaiaa
open Go.RowKit

section
variable {w : World} {B c g : Nat} {E : TypeId} {A : Option Addr} {zs : List Int}
theorem OwnA.addr (h : OwnA w B E A c zs) (hne : 0 < zs.length) : ∃ g, A = some ⟨g, 0, none⟩ ∧ B ≤ g ∧ g < w.heap.size := by
  rcases h.form with ⟨_, rfl, _⟩ | ⟨g, cur, rfl, hB, hg, _⟩
  · simp at hne
  · exact ⟨g, rfl, hB, (Array.getElem?_eq_some_iff.1 hg).1⟩
theorem OwnA.frozen (h : OwnA w B E (some ⟨g, 0, none⟩) c zs) (k : Nat) : w.frozen? ⟨g, k, none⟩ = false := by
  rcases h.form with ⟨h0, _, _⟩ | ⟨g', cur, e, hB, hg, _⟩
  · cases h0
  · injection e with e; injection e with e1 e2; subst e1
    simp [World.frozen?, hg]
theorem OwnA.cell (h : OwnA w B E (some ⟨g, 0, none⟩) c zs) {k : Nat} {z : Int} (hz : zs[k]? = some z) : w.cell? ⟨g, k, none⟩ = some (.int .i64 z) := by
  have := h.rd.all hz
  rwa [Nat.zero_add] at this
theorem OwnA.set_ (h : OwnA w B E (some ⟨g, 0, none⟩) c zs) (k : Nat) (z : Int) : OwnA (w.setCell ⟨g, k, none⟩ (.int .i64 z)) B E (some ⟨g, 0, none⟩) c (zs.set k z) := by
  rcases h.form with ⟨h0, _, _⟩ | ⟨g', cur, e, hB, hg, hl, hm, hc, ht⟩
  · cases h0
  · injection e with e; injection e with e1 e2; subst e1
    refine ⟨by simp, .inr ⟨g, c, cur.setIfInBounds k (.int .i64 z), rfl, hB, ?_, by simpa using hl, hm, by simpa using hc, ?_⟩⟩
    · simp [World.setCell, Array.getElem?_modify, hg]
    · rw [Nat.mul_one, List.length_set, Array.toList_setIfInBounds, List.map_set, ← ht, List.take_set]
end

end Go.Proofs.Yteibgdcieaiaiaa
