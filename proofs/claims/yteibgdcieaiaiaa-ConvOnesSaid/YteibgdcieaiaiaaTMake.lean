/- The contract of a tensor that is made: two rows of the call's own. -/
import Derived.Test.YteibgdcieaiaiaaTAuto
namespace Go.Proofs.Yteibgdcieaiaiaa
open Go.RowKit

section
variable {w : World} {A : Option Addr} {n m c : Nat} {zs xs : List Int}
def RetMO (w : World) (zs xs : List Int) (n m : Nat) (e : Ending) (w' : World) : Prop :=
  ∃ g g', e = .returned (.tuple #[.agg #[.slice (some ⟨g, 0, none⟩) n n, .slice (some ⟨g', 0, none⟩) m m], .int .i64 0]) ∧ w.heap.size ≤ g ∧ w.heap.size ≤ g' ∧ Own w' g 3 zs ∧ Own w' g' 56 xs ∧ Prev w' w
theorem aT_makeO [a : Sl w A n zs] (hn : n ≤ 1000000) {fill : Int} (hr : rightB zs = true) (hp : Hid (prodL zs = (m : Int))) : Calls Try.prog 30 #[.slice A n c, .int .i64 fill] w (RetMO w zs (List.replicate m fill) n m) := by
  obtain ⟨a, rfl⟩ := a
  exact (t_make_row A c zs fill m w hn a (Lib.hid hr) hp).mono fun _ _ ⟨g, g', he, h1, h2, o1, o2, hb⟩ => ⟨g, g', by rw [he, List.length_replicate], h1, h2, o1, o2, ⟨hb⟩⟩
end

end Go.Proofs.Yteibgdcieaiaiaa
