/- The walk of the statement FixSums. -/
import Derived.Test.YtlnpkoggnikkbaaFixProducts
namespace Go.Proofs.Ytlnpkoggnikkbaa
open Go.RowKit

set_option maxHeartbeats 2000000 in
theorem fixSums_calls (x y : Int) (w : World) (hx : I64 x) (hy : I64 y) : Calls Try.prog 12 #[.int .i64 x, .int .i64 y] w (LawTrue w) := by
  have HC := Lib.hid (fadd_comm y x)
  have HS := Lib.hid (fsub_self x)
  by_cases hm : y = -9223372036854775808
  · subst hm
    by_cases hn : x < 0
    · have HE := Lib.hid (fsub_min hx hn)
      obtain ⟨x1, x2⟩ := id hx
      go_enter Try.func12, Try.ntmps12
      go_wp2_with fail
      refine (fix_add x (-9223372036854775808) w hx hy).mono ?_
      rintro e w' ⟨rfl, rfl⟩
      go_wp2_with fail
      refine (r1_add x (-9223372036854775808) w hx hy).mono ?_
      rintro e w' ⟨rfl, rfl⟩
      go_wp2_with fail
      refine (fix_add (-9223372036854775808) x w hy hx).mono ?_
      rintro e w' ⟨rfl, rfl⟩
      rw [HC.out]
      go_wp2_with fail
      refine (fix_sub x x w hx hx).mono ?_
      rintro e w' ⟨rfl, rfl⟩
      rw [HS.out]
      go_wp2_with fail
      refine (fix_sub x (-9223372036854775808) w hx hy).mono ?_
      rintro e w' ⟨rfl, rfl⟩
      rw [HE.out]
      have e1 : (x + 9223372036854775808 == x + 4611686018427387904 + 4611686018427387904) = true := by simp; omega
      go_wp2_with fail
      refine (l01_awake w).mono ?_
      rintro e w2 ⟨rfl, b2⟩
      go_wp2_with fail
      go_ret
      exact ⟨rfl, b2⟩
    · have HE := Lib.hid (fsub_min_pos (x := x) (by omega))
      go_enter Try.func12, Try.ntmps12
      go_wp2_with fail
      refine (fix_add x (-9223372036854775808) w hx hy).mono ?_
      rintro e w' ⟨rfl, rfl⟩
      go_wp2_with fail
      refine (r1_add x (-9223372036854775808) w hx hy).mono ?_
      rintro e w' ⟨rfl, rfl⟩
      go_wp2_with fail
      refine (fix_add (-9223372036854775808) x w hy hx).mono ?_
      rintro e w' ⟨rfl, rfl⟩
      rw [HC.out]
      go_wp2_with fail
      refine (fix_sub x x w hx hx).mono ?_
      rintro e w' ⟨rfl, rfl⟩
      rw [HS.out]
      go_wp2_with fail
      refine (fix_sub x (-9223372036854775808) w hx hy).mono ?_
      rintro e w' ⟨rfl, rfl⟩
      rw [HE.out]
      go_wp2_with fail
      refine (l01_awake w).mono ?_
      rintro e w2 ⟨rfl, b2⟩
      go_wp2_with fail
      go_ret
      exact ⟨rfl, b2⟩
  · have hm1 : (y == -9223372036854775808) = false := by simpa using hm
    have hm2 : (y != -9223372036854775808) = true := by simpa using hm
    have HE := Lib.hid (fsub_add x y)
    obtain ⟨y1, y2⟩ := id hy
    have hny : -9223372036854775808 < y := by omega
    have hyn : I64 (-y) := ⟨by omega, by omega⟩
    clear hm
    go_enter Try.func12, Try.ntmps12
    go_wp2_with fail
    refine (fix_add x y w hx hy).mono ?_
    rintro e w' ⟨rfl, rfl⟩
    go_wp2_with fail
    refine (r1_add x y w hx hy).mono ?_
    rintro e w' ⟨rfl, rfl⟩
    go_wp2_with fail
    refine (fix_add y x w hy hx).mono ?_
    rintro e w' ⟨rfl, rfl⟩
    rw [HC.out]
    go_wp2_with fail
    refine (fix_sub x x w hx hx).mono ?_
    rintro e w' ⟨rfl, rfl⟩
    rw [HS.out]
    go_wp2_with fail
    refine (fix_sub x y w hx hy).mono ?_
    rintro e w' ⟨rfl, rfl⟩
    rw [HE.out]
    go_wp2_with fail
    refine (r1_add x (-y) w hx hyn).mono ?_
    rintro e w' ⟨rfl, rfl⟩
    go_wp2_with fail
    refine (l01_awake w).mono ?_
    rintro e w2 ⟨rfl, b2⟩
    go_wp2_with fail
    go_ret
    exact ⟨rfl, b2⟩
end Go.Proofs.Ytlnpkoggnikkbaa
