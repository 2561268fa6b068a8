/- The contracts of athanorlaw06's own functions, their arguments found by themselves. -/
import Derived.Test.YthcdjdhnjbdfeaaAuto
import Derived.Test.YthcdjdhnjbdfeaaLaw06b
import Derived.Test.YthcdjdhnjbdfeaaLaw06c
namespace Go.Proofs.Ythcdjdhnjbdfeaa
open Go.RowKit

section
variable {w : World} {A B C D : Option Addr} {n m n' m' c d c' d' : Nat} {zs xs ts ys : List Int}
theorem a06_awake : Calls Try.prog 33 #[] w (RetV w (.bool true)) := retV (l06_awake w)
theorem a06_right [a : Sl w A n zs] [b : Sl w B m xs] (hn : n ≤ 1000000) : Calls Try.prog 40 #[.agg #[.slice A n c, .slice B m d]] w (RetV w (.bool (tRightB zs xs))) := by
  obtain ⟨a, rfl⟩ := a
  obtain ⟨b, rfl⟩ := b
  exact retV (l06_right A B c d zs xs w hn a)
theorem a03_same [a : Sl w A n zs] [b : Sl w B m xs] (hn : n ≤ 1000000) (hm : m ≤ 1000000) : Calls Try.prog 41 #[.slice A n c, .slice B m d] w (RetV w (.bool (decide (zs = xs)))) := by
  obtain ⟨a, rfl⟩ := a
  obtain ⟨b, rfl⟩ := b
  exact retVD (ref_same A B c d zs xs w hn hm a b)
theorem a06_cells [a : Sl w A n zs] [b : Sl w B m xs] (hm : m ≤ 1000000) : Calls Try.prog 38 #[.agg #[.slice A n c, .slice B m d]] w (RetS w xs) := by
  obtain ⟨a, rfl⟩ := a
  obtain ⟨b, rfl⟩ := b
  exact (l06_cells A B c d zs xs w hm b).mono fun _ _ ⟨A, c, he, ho, hb⟩ => ⟨A, c, he, ⟨ho.rd, rfl⟩, ⟨hb⟩⟩
theorem a06_same [a : Sl w A n zs] [b : Sl w B m xs] [a' : Sl w C n' ts] [b' : Sl w D m' ys] (hn : n ≤ 1000000) (hn' : n' ≤ 1000000) (hm : m ≤ 1000000) (hm' : m' ≤ 1000000) : Calls Try.prog 36 #[.agg #[.slice A n c, .slice B m d], .slice C n' c', .slice D m' d'] w (RetV w (.bool (decide (zs = ts) && decide (xs = ys)))) := by
  obtain ⟨a, rfl⟩ := a
  obtain ⟨b, rfl⟩ := b
  obtain ⟨a', rfl⟩ := a'
  obtain ⟨b', rfl⟩ := b'
  exact retV (l06_same A B C D c d c' d' zs xs ts ys w hn hn' hm hm' a b a' b')
theorem a06_bias_no [a : Sl w A n zs] [b : Sl w B m xs] [a' : Sl w C n' ts] [b' : Sl w D m' ys] (hn : n ≤ 1000000) (hn' : n' ≤ 1000000) (hx : Hid (∀ z ∈ xs, I64 z)) (hy : Hid (∀ z ∈ ys, I64 z)) (h : alikeB ts ys zs xs = false) :
    Calls Try.prog 44 #[.agg #[.slice A n c, .slice B m d], .agg #[.slice C n' c', .slice D m' d']] w (RetTS w [] [] 20) := by
  obtain ⟨a, rfl⟩ := a
  obtain ⟨b, rfl⟩ := b
  obtain ⟨a', rfl⟩ := a'
  obtain ⟨b', rfl⟩ := b'
  have := retTS (d_bias A B C D c d c' d' zs xs ts ys w hn hn' a b a' b' hx hy)
  simpa [adS, adX, adE, h] using this
theorem a06_bias_yes [a : Sl w A n zs] [b : Sl w B m xs] [a' : Sl w C n' ts] [b' : Sl w D m' ys] (hn : n ≤ 1000000) (hn' : n' ≤ 1000000) (hx : Hid (∀ z ∈ xs, I64 z)) (hy : Hid (∀ z ∈ ys, I64 z)) (h : alikeB ts ys zs xs = true) {L : List Int} (hL : Hid (L = ys.zipWith fadd xs)) :
    Calls Try.prog 44 #[.agg #[.slice A n c, .slice B m d], .agg #[.slice C n' c', .slice D m' d']] w (RetTS w ts L 0) := by
  obtain ⟨a, rfl⟩ := a
  obtain ⟨b, rfl⟩ := b
  obtain ⟨a', rfl⟩ := a'
  obtain ⟨b', rfl⟩ := b'
  have := retTS (d_bias A B C D c d c' d' zs xs ts ys w hn hn' a b a' b' hx hy)
  rw [hL.out]
  simpa [adS, adX, adE, h] using this
theorem a01_add {x y : Int} (hx : I64 x) (hy : I64 y) : Calls Try.prog 45 #[.int .i64 x, .int .i64 y] w (RetV w (.int .i64 (fadd x y))) := (r1_add x y w hx hy).mono fun _ _ ⟨he, hw⟩ => ⟨he, hw ▸ prev_bel _ _⟩
theorem a01_mul {x y : Int} (hx : I64 x) (hy : I64 y) : Calls Try.prog 51 #[.int .i64 x, .int .i64 y] w (RetV w (.int .i64 (fmul x y))) := (r1_mul x y w hx hy).mono fun _ _ ⟨he, hb⟩ => ⟨he, ⟨hb⟩⟩
end

end Go.Proofs.Ythcdjdhnjbdfeaa
