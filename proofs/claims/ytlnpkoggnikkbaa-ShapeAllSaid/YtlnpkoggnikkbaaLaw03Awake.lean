/- The walk of the fixed answer of the statements on shapes. -/
import Derived.Test.YtlnpkoggnikkbaaShape4
namespace Go.Proofs.Ytlnpkoggnikkbaa
open Go.RowKit

theorem own_lit (w : World) (T : TypeId) (zs : List Int) (cs : Array Value) (h : cs = ints zs) : Own (w.alloc (.cells cs T)) w.heap.size T zs := by subst h; exact Own.new _ _ _

set_option maxHeartbeats 2000000 in
theorem l03_awake (w : World) : Calls Try.prog 15 #[] w (RetB w (.bool true)) := by
  go_enter Try.func15, Try.ntmps15
  go_wp2_with fail
  have o1 := own_lit w 3 [2, 3] #[.int .i64 2, .int .i64 3] rfl
  have b1 := (Below.refl w.heap.size w).alloc (Nat.le_refl _) (.cells #[.int .i64 2, .int .i64 3] 3)
  generalize w.alloc (.cells #[.int .i64 2, .int .i64 3] 3) = w1 at *
  refine (sh_size (some ⟨w.heap.size, 0, none⟩) 2 [2, 3] w1 (by decide) o1.rd).mono ?_
  rintro e w2 ⟨rfl, hb2⟩
  rw [show sizeV [2, 3] = 6 from by decide, show sizeE [2, 3] = 0 from by decide]
  have o2 := o1.keep hb2
  have b2 := b1.trans (hb2.mono b1.size)
  clear o1 b1 hb2 w1
  go_wp2_with fail
  have p1 := own_lit w2 3 [1, 0] #[.int .i64 1, .int .i64 0] rfl
  have o1 := o2.alloc (.cells #[.int .i64 1, .int .i64 0] 3)
  have b1 := b2.alloc b2.size (.cells #[.int .i64 1, .int .i64 0] 3)
  generalize w2.alloc (.cells #[.int .i64 1, .int .i64 0] 3) = w1 at *
  refine (sh_place (some ⟨w.heap.size, 0, none⟩) (some ⟨w2.heap.size, 0, none⟩) 2 2 [2, 3] [1, 0] w1 (by decide) (by decide) o1.rd p1.rd).mono ?_
  rintro e w3 ⟨rfl, hb2⟩
  rw [show placeV [2, 3] [1, 0] = 3 from by decide, show placeE [2, 3] [1, 0] = 0 from by decide]
  have o3 := o1.keep hb2
  have b3 := b1.trans (hb2.mono b1.size)
  clear o1 b1 hb2 p1 o2 b2 w1
  go_wp2_with fail
  have p1 := own_lit w3 3 [2, 4] #[.int .i64 2, .int .i64 4] rfl
  have o1 := o3.alloc (.cells #[.int .i64 2, .int .i64 4] 3)
  have b1 := b3.alloc b3.size (.cells #[.int .i64 2, .int .i64 4] 3)
  generalize w3.alloc (.cells #[.int .i64 2, .int .i64 4] 3) = w1 at *
  refine (sh_join (some ⟨w.heap.size, 0, none⟩) (some ⟨w3.heap.size, 0, none⟩) 2 2 [2, 3] [2, 4] 1 w1 (by decide) (by decide) o1.rd p1.rd).mono ?_
  rintro e w4 ⟨A, c, rfl, HRD, hb2, -, -⟩
  rw [show joinE [2, 3] [2, 4] 1 = 0 from by decide, show (joinV [2, 3] [2, 4] 1).length = 2 from by decide]
  rw [show joinV [2, 3] [2, 4] 1 = [2, 7] from by decide] at HRD
  have b4 := b1.trans (hb2.mono b1.size)
  clear o1 b1 hb2 p1 o3 b3 w1
  go_wp2_with fail
  refine (sh_window 5 3 1 w4).mono ?_
  rintro e w5 ⟨rfl, rfl⟩
  rw [show winV 5 3 1 = 3 from by decide, show winE 5 3 1 = 0 from by decide]
  go_wp2_with fail
  have p1 := own_lit w4 3 [0] #[.int .i64 0] rfl
  have b1 := b4.alloc b4.size (.cells #[.int .i64 0] 3)
  have HRD1 := HRD.alloc (.cells #[.int .i64 0] 3)
  generalize w4.alloc (.cells #[.int .i64 0] 3) = w1 at *
  refine (sh_size (some ⟨w4.heap.size, 0, none⟩) 1 [0] w1 (by decide) p1.rd).mono ?_
  rintro e w5 ⟨rfl, hb2⟩
  rw [show sizeV [0] = 0 from by decide, show sizeE [0] = 20 from by decide]
  have HRD2 := HRD1.below hb2
  have b5 := b1.trans (hb2.mono b1.size)
  clear HRD HRD1 b1 hb2 p1 b4 w1
  go_wp2_with fail
  have p1 := own_lit w5 3 [2, 7] #[.int .i64 2, .int .i64 7] rfl
  have b1 := b5.alloc b5.size (.cells #[.int .i64 2, .int .i64 7] 3)
  have HRD1 := HRD2.alloc (.cells #[.int .i64 2, .int .i64 7] 3)
  generalize w5.alloc (.cells #[.int .i64 2, .int .i64 7] 3) = w1 at *
  refine (sh_equal A (some ⟨w5.heap.size, 0, none⟩) c 2 [2, 7] [2, 7] w1 (by decide) (by decide) HRD1 p1.rd).mono ?_
  rintro e w6 ⟨rfl, n, rfl⟩
  go_wp2_with fail
  go_ret
  exact ⟨rfl, below_drewN b1 _⟩
end Go.Proofs.Ytlnpkoggnikkbaa
