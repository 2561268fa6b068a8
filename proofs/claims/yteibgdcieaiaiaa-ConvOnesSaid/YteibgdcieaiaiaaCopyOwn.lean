/- 'copy' into a row of the call's own, at any place of it. -/
import Derived.Test.YteibgdcieaiaiaaAuto
namespace Go.Proofs.Yteibgdcieaiaiaa
open Go.RowKit

theorem setRow_size (w : World) (g : Nat) (cs : Array Value) : (w.setRow g cs).heap.size = w.heap.size := by simp [World.setRow]
theorem Own.setRow {w : World} {g : Nat} {T : TypeId} {l : List Int} (h : Own w g T l) (l' : List Int) : Own (w.setRow g (ints l')) g T l' := by
  unfold Own at h ⊢
  simp [World.setRow, Array.getElem?_modify, h]
theorem heap_setRow (w : World) (g k : Nat) (cs : Array Value) (h : k ≠ g) : (w.setRow g cs).heap[k]? = w.heap[k]? := by
  simp only [World.setRow, Array.getElem?_modify]
  rw [if_neg (by omega)]
theorem below_setRow {B : Nat} {a w : World} (h : Below B a w) {g : Nat} (hg : B ≤ g) (cs : Array Value) : Below B a (w.setRow g cs) :=
  h.trans ⟨rfl, rfl, rfl, by simp [World.setRow], fun k hk => heap_setRow _ _ _ _ (by omega)⟩
/-- The list l with zs written over it from o on. -/
def over (l zs : List Int) (o : Nat) : List Int := l.take o ++ zs ++ l.drop (o + zs.length)
theorem run_copy_own {P : Program} (dT sT ty elem : TypeId) (hu : P.underlying dT = some (.slice elem)) (hs : (P.info? elem).map (·.size) = some 1)
    {w : World} {g : Nat} {T : TypeId} {l zs : List Int} (ho : Own w g T l) {b oa o dLen dCap sLen sCap : Nat} (h : Rd w (some ⟨b, oa, none⟩) zs) (hn : zs.length = Nat.min sLen dLen) (hfit : o + zs.length ≤ l.length) :
    (Builtin.copy_ #[dT, sT] ty #[.slice (some ⟨g, o, none⟩) dLen dCap, .slice (some ⟨b, oa, none⟩) sLen sCap]).run P w = .ok (.int .i64 zs.length) (w.setRow g (ints (over l zs o))) := by
  have := run_copy_row (P := P) w dT sT ty elem g o dLen dCap ⟨b, oa, none⟩ sLen sCap (ints l) T (zs.map (Value.int .i64)) hu hs ho (by simpa using hn) (fun j v hv => by
    rw [List.getElem?_map] at hv
    obtain ⟨z, hz, rfl⟩ := Option.map_eq_some_iff.1 hv
    have := h.all hz
    unfold Addr.add
    split
    · rename_i e; subst e; exact this
    · exact this) (by simpa [ints_size] using hfit) (by simp [Value.oneCell'])
  rw [this]
  have e : ((ints l).toList.take o ++ zs.map (Value.int .i64) ++ (ints l).toList.drop (o + (zs.map (Value.int .i64)).length)).toArray = ints (over l zs o) := by
    simp [ints, over]
  rw [e]
  simp [goInt]

end Go.Proofs.Yteibgdcieaiaiaa
