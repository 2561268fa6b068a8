/- The walks of package tensor: alike, Add, Scale, Dot. -/
import Derived.Test.YtphcffcecncngaaTensor3
import Derived.Test.YtphcffcecncngaaFixDot
import Derived.StillTailTactics
namespace Go.Proofs.Ytphcffcecncngaa
open Go.RowKit

theorem calls_same {P : Program} {f : FuncId} {args : Array Value} {w : World} {v : Value} (h : Calls P f args w fun e w' => e = .returned v ∧ w = w') : Calls P f args w fun e w' => e = .returned v ∧ w' = w :=
  h.mono fun _ _ ⟨he, hw⟩ => ⟨he, hw.symm⟩
def alikeB (zs xs ts ys : List Int) : Bool := tRightB zs xs && tRightB ts ys && decide (zs = ts)

/-- Cell by cell: the sums under way. -/
def addTo (xs ys : List Int) (k : Nat) : List Int := (xs.take k).zipWith fadd (ys.take k) ++ xs.drop k
theorem addTo_length {xs ys : List Int} {k : Nat} (hl : xs.length = ys.length) (hk : k ≤ xs.length) : (addTo xs ys k).length = xs.length := by simp [addTo]; omega
theorem addTo_at {xs ys : List Int} {k : Nat} {x : Int} (hl : xs.length = ys.length) (hx : xs[k]? = some x) : (addTo xs ys k)[k]? = some x := by
  obtain ⟨hk, _⟩ := List.getElem?_eq_some_iff.1 hx
  rw [addTo, List.getElem?_append_right (by simp; omega)]
  simp only [List.length_zipWith, List.length_take, List.getElem?_drop]
  rw [show k + (k - min (min k xs.length) (min k ys.length)) = k from by omega]
  exact hx
theorem addTo_set {xs ys : List Int} {k : Nat} {x y : Int} (hl : xs.length = ys.length) (hx : xs[k]? = some x) (hy : ys[k]? = some y) : (addTo xs ys k).set k (fadd x y) = addTo xs ys (k + 1) := by
  obtain ⟨hk, _⟩ := List.getElem?_eq_some_iff.1 hx
  have hn : ((xs.take k).zipWith fadd (ys.take k)).length = k := by simp; omega
  rw [addTo, List.set_append_right _ _ (by omega), hn, Nat.sub_self, drop_at hx, List.set_cons_zero, addTo, take_at hx, take_at hy, List.zipWith_append (by simp; omega)]
  simp
theorem addTo_all {xs ys : List Int} {k : Nat} (hl : xs.length = ys.length) (hk : ¬ k < xs.length) : addTo xs ys k = xs.zipWith fadd ys := by
  rw [addTo, List.take_of_length_le (by omega), List.take_of_length_le (by omega), List.drop_of_length_le (by omega), List.append_nil]

theorem alike_len {zs xs ts ys : List Int} (h : alikeB zs xs ts ys = true) : zs = ts ∧ xs.length = ys.length ∧ tRightB zs xs = true ∧ tRightB ts ys = true ∧ xs.length ≤ 65536 ∧ zs.length ≤ 4 := by
  simp only [alikeB, Bool.and_eq_true, decide_eq_true_eq] at h
  obtain ⟨⟨h1, h2⟩, h3⟩ := h
  have g1 := (tRightB_iff _ _).1 h1
  have g2 := (tRightB_iff _ _).1 h2
  subst h3
  obtain ⟨n, hn, _, hn6⟩ := rightB_size g1.1
  exact ⟨rfl, by omega, h1, h2, by omega, ((rightB_iff zs).1 g1.1).2.1⟩

end Go.Proofs.Ytphcffcecncngaa
