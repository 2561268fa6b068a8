/- The walk of the fixed answer of the statements on numbers. -/
import Derived.Test.YtlnpkoggnikkbaaFixDiv
import Derived.Test.YtlnpkoggnikkbaaRef01Div
namespace Go.Proofs.Ytlnpkoggnikkbaa
open Go.RowKit

theorem i64_of {n : Int} (h1 : -9223372036854775808 ≤ n) (h2 : n ≤ 9223372036854775807) : I64 n := ⟨h1, h2⟩
set_option maxHeartbeats 2000000 in
theorem l01_awake (w : World) : Calls Try.prog 33 #[] w fun e w' => e = .returned (.bool true) ∧ Below w.heap.size w w' := by
  go_enter Try.func33, Try.ntmps33
  go_wp2_with fail
  refine (fix_int 2 w).mono ?_
  rintro e w' ⟨rfl, rfl⟩
  rw [show fint 2 = 8589934592 from by decide]
  go_wp2_with fail
  refine (fix_div 4294967296 8589934592 w (i64_of (by decide) (by decide)) (i64_of (by decide) (by decide))).mono ?_
  rintro e w1 ⟨rfl, b1⟩
  rw [show fdiv 4294967296 8589934592 = 2147483648 from by decide]
  go_wp2_with fail
  refine (fix_mul 3 2147483648 w1 (i64_of (by decide) (by decide)) (i64_of (by decide) (by decide))).mono ?_
  rintro e w' ⟨rfl, rfl⟩
  rw [show fmul 3 2147483648 = 2 from by decide]
  go_wp2_with fail
  refine (fix_mul 5 2147483648 w1 (i64_of (by decide) (by decide)) (i64_of (by decide) (by decide))).mono ?_
  rintro e w' ⟨rfl, rfl⟩
  rw [show fmul 5 2147483648 = 2 from by decide]
  go_wp2_with fail
  refine (fix_add 9223372036854775807 1 w1 (i64_of (by decide) (by decide)) (i64_of (by decide) (by decide))).mono ?_
  rintro e w' ⟨rfl, rfl⟩
  rw [show fadd 9223372036854775807 1 = 9223372036854775807 from by decide]
  go_wp2_with fail
  refine (fix_neg (-9223372036854775808) w1 (i64_of (by decide) (by decide))).mono ?_
  rintro e w' ⟨rfl, rfl⟩
  rw [show fneg (-9223372036854775808) = 9223372036854775807 from by decide]
  go_wp2_with fail
  refine (fix_ratio (-1) 4 w1 (i64_of (by decide) (by decide)) (i64_of (by decide) (by decide))).mono ?_
  rintro e w2 ⟨rfl, b2⟩
  rw [show fdiv (-1) 4 = -1073741824 from by decide]
  have bb := btr b1 b2
  go_wp2_with fail
  have o1 := heap_alloc_new w2 (.cells #[.int .i64 1, .int .i64 2, .int .i64 3] 47)
  have o2 : Own (w2.alloc (.cells #[.int .i64 1, .int .i64 2, .int .i64 3] 47)) w2.heap.size 47 [1, 2, 3] := o1
  have b3 := bb.alloc bb.size (.cells #[.int .i64 1, .int .i64 2, .int .i64 3] 47)
  clear o1
  generalize w2.alloc (.cells #[.int .i64 1, .int .i64 2, .int .i64 3] 47) = w3 at *
  refine (fix_sum (some ⟨w2.heap.size, 0, none⟩) 3 [1, 2, 3] w3 (by decide) (Lib.hid (fun z hz => by simp at hz; rcases hz with rfl | rfl | rfl <;> exact i64_of (by decide) (by decide))) o2.rd).mono ?_
  rintro e w' ⟨rfl, rfl⟩
  rw [show fsum [1, 2, 3] = 6 from by decide]
  go_wp2_with fail
  refine (fix_floor (-1) w3 (i64_of (by decide) (by decide))).mono ?_
  rintro e w' ⟨rfl, rfl⟩
  go_wp2_with fail
  go_ret
  exact ⟨rfl, b3⟩
end Go.Proofs.Ytlnpkoggnikkbaa
