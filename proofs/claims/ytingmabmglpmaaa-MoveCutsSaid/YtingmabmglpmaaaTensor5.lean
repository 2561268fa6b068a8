/- The walks of package tensor: Scale, Dot. -/
import Derived.Test.YtingmabmglpmaaaTensor4
namespace Go.Proofs.Ytingmabmglpmaaa
open Go.RowKit

/-- Cell by cell: a list of which the first k elements have been turned. -/
def mapTo (f : Int → Int) (xs : List Int) (k : Nat) : List Int := (xs.take k).map f ++ xs.drop k
theorem mapTo_zero (f : Int → Int) (xs : List Int) : mapTo f xs 0 = xs := by simp [mapTo]
theorem mapTo_length {f : Int → Int} {xs : List Int} {k : Nat} (hk : k ≤ xs.length) : (mapTo f xs k).length = xs.length := by simp [mapTo]; omega
theorem mapTo_at {f : Int → Int} {xs : List Int} {k : Nat} {x : Int} (hx : xs[k]? = some x) : (mapTo f xs k)[k]? = some x := by
  obtain ⟨hk, _⟩ := List.getElem?_eq_some_iff.1 hx
  rw [mapTo, List.getElem?_append_right (by simp; omega)]
  simp only [List.length_map, List.length_take, List.getElem?_drop]
  rw [show k + (k - min k xs.length) = k from by omega]
  exact hx
theorem mapTo_set {f : Int → Int} {xs : List Int} {k : Nat} {x : Int} (hx : xs[k]? = some x) : (mapTo f xs k).set k (f x) = mapTo f xs (k + 1) := by
  obtain ⟨hk, _⟩ := List.getElem?_eq_some_iff.1 hx
  have hn : ((xs.take k).map f).length = k := by simp; omega
  rw [mapTo, List.set_append_right _ _ (by omega), hn, Nat.sub_self, drop_at hx, List.set_cons_zero, mapTo, take_at hx, List.map_append]
  simp
theorem mapTo_all {f : Int → Int} {xs : List Int} {k : Nat} (hk : ¬ k < xs.length) : mapTo f xs k = xs.map f := by
  rw [mapTo, List.take_of_length_le (by omega), List.drop_of_length_le (by omega), List.append_nil]

theorem tRight_len {zs xs : List Int} (h : tRightB zs xs = true) : xs.length ≤ 65536 ∧ zs.length ≤ 4 := by
  have g1 := (tRightB_iff _ _).1 h
  obtain ⟨n, hn, _, hn6⟩ := rightB_size g1.1
  exact ⟨by omega, ((rightB_iff zs).1 g1.1).2.1⟩

end Go.Proofs.Ytingmabmglpmaaa
