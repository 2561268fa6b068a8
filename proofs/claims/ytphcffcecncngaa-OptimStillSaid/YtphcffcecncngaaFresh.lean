/- The contracts of tensors and shapes whose results lie in memory of the call's own. -/
import Derived.Test.YtphcffcecncngaaFre
import Derived.Test.YtphcffcecncngaaAppend2
import Derived.Test.YtphcffcecncngaaTJoin2
import Derived.Test.YtphcffcecncngaaTCut
import Derived.Test.YtphcffcecncngaaJoinMath
import Derived.Test.YtphcffcecncngaaMoveMath
namespace Go.Proofs.Ytphcffcecncngaa
open Go.RowKit

section
variable {w w' : World} {A B C D : Option Addr} {n m c d n' m' c' d' b b' : Nat} {zs xs ts ys : List Int} {side E : Int}
theorem aS_size [a : Sl w A n zs] (hn : n ≤ 1000000) {V J : Int} (hV : Hid (sizeV zs = V)) (hJ : Hid (sizeE zs = J)) : Calls Try.prog 80 #[.slice A n c] w (RetV w (.tuple #[.int .i64 V, .int .i64 J])) := by
  obtain ⟨a, rfl⟩ := a
  rw [← hJ.out, ← hV.out]
  exact retV (sh_size A c zs w hn a)
theorem aT_ofA [a : Sl w A n zs] [b : Sl w B m xs] (hn : n ≤ 1000000) (hm : m ≤ 1000000) (h : tRightB zs xs = true) : Calls Try.prog 62 #[.slice A n c, .slice B m d] w (RetTA w zs xs 0) := by
  obtain ⟨a, rfl⟩ := a
  obtain ⟨b, rfl⟩ := b
  exact retTA (t_of_yes A B c d zs xs w hn hm a b (Lib.hid h))

theorem aT_ofA_no [a : Sl w A n zs] [b : Sl w B m xs] (hn : n ≤ 1000000) (h : tRightB zs xs = false) : Calls Try.prog 62 #[.slice A n c, .slice B m d] w (RetTA w [] [] 20) := by
  obtain ⟨a, rfl⟩ := a
  obtain ⟨b, rfl⟩ := b
  exact retTA (t_of_no A B c d zs xs w hn a (Lib.hid h))

/-- What 'Join' of two makes. -/
def tjS (zs xs ts ys : List Int) (side : Int) : List Int := if tjoinE zs xs ts ys side = 0 then joinV zs ts side else []
def tjX (zs xs ts ys : List Int) (side : Int) : List Int :=
  if tjoinE zs xs ts ys side = 0 then joinCells (prodL (zs.drop side.toNat)).toNat (prodL (ts.drop side.toNat)).toNat xs ys (prodL (zs.take side.toNat)).toNat else []
theorem prodL_drop {n : Nat} {z : Int} (hz : zs[n]? = some z) : prodL (zs.drop n) = z * prodL (zs.drop (n + 1)) := by
  rw [drop_at hz, prodL_cons]
/-- What 'Cut' makes. -/
def tcS (zs xs : List Int) (side x y : Int) : List Int := if tcutE zs xs side x y = 0 then cutV zs side x y else []
def tcX (zs xs : List Int) (side x y : Int) : List Int :=
  if tcutE zs xs side x y = 0 then cutCells (prodL (zs.drop side.toNat)).toNat (x * prodL (zs.drop (side.toNat + 1))).toNat ((y - x) * prodL (zs.drop (side.toNat + 1))).toNat xs (prodL (zs.take side.toNat)).toNat else []
end

end Go.Proofs.Ytphcffcecncngaa
