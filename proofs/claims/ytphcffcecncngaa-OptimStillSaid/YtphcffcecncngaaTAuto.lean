/- The contracts of tensors and shapes, their arguments found by themselves. -/
import Derived.Test.YtphcffcecncngaaTens
import Derived.Test.YtphcffcecncngaaTensor3
namespace Go.Proofs.Ytphcffcecncngaa
open Go.RowKit

section
variable {w : World} {A B C D : Option Addr} {n m n' m' c d c' d' : Nat} {zs xs ts ys : List Int}
theorem aT_right [a : Sl w A n zs] [b : Sl w B m xs] (hn : n ≤ 1000000) : Calls Try.prog 82 #[.agg #[.slice A n c, .slice B m d]] w (RetV w (.bool (tRightB zs xs))) := by
  obtain ⟨a, rfl⟩ := a
  obtain ⟨b, rfl⟩ := b
  exact retV (t_right A B c d zs xs w hn a)
theorem aS_equal [a : Sl w A n zs] [b : Sl w B m xs] (hn : n ≤ 1000000) (hm : m ≤ 1000000) : Calls Try.prog 78 #[.slice A n c, .slice B m d] w (RetV w (.bool (decide (zs = xs)))) := by
  obtain ⟨a, rfl⟩ := a
  obtain ⟨b, rfl⟩ := b
  exact retVD (sh_equal A B c d zs xs w hn hm a b)
theorem a03_same [a : Sl w A n zs] [b : Sl w B m xs] (hn : n ≤ 1000000) (hm : m ≤ 1000000) : Calls Try.prog 69 #[.slice A n c, .slice B m d] w (RetV w (.bool (decide (zs = xs)))) := by
  obtain ⟨a, rfl⟩ := a
  obtain ⟨b, rfl⟩ := b
  exact retVD (ref_same A B c d zs xs w hn hm a b)
theorem aT_equal [a : Sl w A n zs] [b : Sl w B m xs] [a' : Sl w C n' ts] [b' : Sl w D m' ys] (hn : n ≤ 1000000) (hm : m ≤ 1000000) (hn' : n' ≤ 1000000) : Calls Try.prog 46 #[.agg #[.slice A n c, .slice B m d], .agg #[.slice C n' c', .slice D m' d']] w (RetV w (.bool (decide (zs = ts) && decide (xs = ys)))) := by
  obtain ⟨a, rfl⟩ := a
  obtain ⟨b, rfl⟩ := b
  obtain ⟨a', rfl⟩ := a'
  obtain ⟨b', rfl⟩ := b'
  exact retV (t_equal A B C D c d c' d' zs xs ts ys w hn hm hn' a b a' b')
theorem aT_of_no [a : Sl w A n zs] [b : Sl w B m xs] (hn : n ≤ 1000000) (h : tRightB zs xs = false) : Calls Try.prog 62 #[.slice A n c, .slice B m d] w (RetTS w [] [] 20) := by
  obtain ⟨a, rfl⟩ := a
  obtain ⟨b, rfl⟩ := b
  exact retTS (t_of_no A B c d zs xs w hn a (Lib.hid h))
theorem aT_of_yes [a : Sl w A n zs] [b : Sl w B m xs] (hn : n ≤ 1000000) (hm : m ≤ 1000000) (h : tRightB zs xs = true) : Calls Try.prog 62 #[.slice A n c, .slice B m d] w (RetTS w zs xs 0) := by
  obtain ⟨a, rfl⟩ := a
  obtain ⟨b, rfl⟩ := b
  exact retTS (t_of_yes A B c d zs xs w hn hm a b (Lib.hid h))
/-- A copy: two rows of the call's own. -/
def RetC (w : World) (zs xs : List Int) (e : Ending) (w' : World) : Prop :=
  ∃ g g', e = .returned (.agg #[.slice (some ⟨g, 0, none⟩) zs.length zs.length, .slice (some ⟨g', 0, none⟩) xs.length xs.length]) ∧ w.heap.size ≤ g ∧ w.heap.size ≤ g' ∧ Own w' g 3 zs ∧ Own w' g' 45 xs ∧ Prev w' w
theorem aT_copy [a : Sl w A n zs] [b : Sl w B m xs] (hn : n ≤ 1000000) (hm : m ≤ 1000000) : Calls Try.prog 83 #[.agg #[.slice A n c, .slice B m d]] w (RetC w zs xs) := by
  obtain ⟨a, rfl⟩ := a
  obtain ⟨b, rfl⟩ := b
  exact (t_copy A B c d zs xs w hn hm a b).mono fun _ _ ⟨g, g', he, h1, h2, o1, o2, hb⟩ => ⟨g, g', he, h1, h2, o1, o2, ⟨hb⟩⟩
end

end Go.Proofs.Ytphcffcecncngaa
