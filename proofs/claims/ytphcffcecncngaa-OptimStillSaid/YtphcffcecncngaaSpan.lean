/- The walks of package tensor: span, Cut. -/
import Derived.Test.YtphcffcecncngaaTensor5
import Derived.Test.YtphcffcecncngaaAppend2
import Derived.Test.YtphcffcecncngaaCutMath
namespace Go.Proofs.Ytphcffcecncngaa
open Go.RowKit

/-- A slice of integers that is the call's own, and no error. -/
def RetOE (w : World) (zs : List Int) (e : Ending) (w' : World) : Prop :=
  ∃ g, e = .returned (.tuple #[.slice (some ⟨g, 0, none⟩) zs.length zs.length, .int .i64 0]) ∧ w.heap.size ≤ g ∧ Own w' g 3 zs ∧ Below w.heap.size w w'

theorem run_make_cap {P : Program} (t e : TypeId) (ht : P.underlying t = some (.slice e)) (hinfo : (P.info? e).map (fun i => (i.zero, i.size, i.bytes)) = some (some (.int .i64 0), 1, 8)) (n : Nat) (hn : n ≤ 1000000) (W : World) :
    (Instr.makeSlice t (.int .i64 0) (.int .i64 (n : Int))).run P W = .ok (.slice (some ⟨W.heap.size, 0, none⟩) 0 n) (W.alloc (.cells (ints (List.replicate n 0)) e)) := by
  obtain ⟨i, hi, hzz⟩ := Option.map_eq_some_iff.1 hinfo
  simp only [Prod.mk.injEq] at hzz
  obtain ⟨hz, hs, hb⟩ := hzz
  have := run_make (P := P) W t e i (.int .i64 0) ht hi hz .i64 .i64 0 n (Int.le_refl _) (by omega) (by rw [hb]; omega) (by omega)
  rw [this, hs, ← ints_made]
  simp [Value.cells]
theorem own_made (W : World) (E : TypeId) (n : Nat) (hn : n ≤ 1000000) : OwnA (W.alloc (.cells (ints (List.replicate n 0)) E)) W.heap.size E (some ⟨W.heap.size, 0, none⟩) n [] :=
  World.ownsRow_made W _ n (Nat.le_refl _) (by unfold maxLen; omega) (by simp [ints])

def tcutE (zs xs : List Int) (side a b : Int) : Int := if tRightB zs xs then cutE zs side a b else 20

end Go.Proofs.Ytphcffcecncngaa
