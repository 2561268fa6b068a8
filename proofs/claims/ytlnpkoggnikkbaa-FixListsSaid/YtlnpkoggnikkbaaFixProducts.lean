/- The walks of the statements FixProducts and FixQuotients. -/
import Derived.Test.YtlnpkoggnikkbaaOpen
import Derived.Test.YtlnpkoggnikkbaaLaw01Awake
import Derived.Test.YtlnpkoggnikkbaaFixLawMath
namespace Go.Proofs.Ytlnpkoggnikkbaa
open Go.RowKit

theorem i64_wf {n : Int} (h : (Lit.int .i64 n).wf = true) : I64 n := wf_bounds h
set_option maxHeartbeats 2000000 in
theorem fixProducts_calls (x y : Int) (w : World) (hx : I64 x) (hy : I64 y) : Calls Try.prog 9 #[.int .i64 x, .int .i64 y] w (LawTrue w) := by
  have HC := Lib.hid (fmul_comm y x)
  have H1 := Lib.hid (fmul_one hx)
  have H0 := Lib.hid (fmul_zero x)
  go_enter Try.func9, Try.ntmps9
  go_wp2_with fail
  refine (fix_mul x y w hx hy).mono ?_
  rintro e w' ⟨rfl, rfl⟩
  go_wp2_with fail
  refine (r1_mul x y w hx hy).mono ?_
  rintro e w1 ⟨rfl, b1⟩
  go_wp2_with fail
  refine (fix_mul y x w1 hy hx).mono ?_
  rintro e w' ⟨rfl, rfl⟩
  rw [HC.out]
  go_wp2_with fail
  refine (fix_mul x 4294967296 w1 hx (i64_of (by decide) (by decide))).mono ?_
  rintro e w' ⟨rfl, rfl⟩
  rw [H1.out]
  go_wp2_with fail
  refine (fix_mul x 0 w1 hx (i64_of (by decide) (by decide))).mono ?_
  rintro e w' ⟨rfl, rfl⟩
  rw [H0.out]
  go_wp2_with fail
  refine (l01_awake w1).mono ?_
  rintro e w2 ⟨rfl, b2⟩
  go_wp2_with fail
  go_ret
  exact ⟨rfl, btr b1 b2⟩

set_option maxHeartbeats 2000000 in
theorem fixQuotients_calls (x y : Int) (w : World) (hx : I64 x) (hy : I64 y) : Calls Try.prog 10 #[.int .i64 x, .int .i64 y] w (LawTrue w) := by
  have H1 := Lib.hid (fdiv_one hx)
  by_cases h0 : x = 0
  · subst h0
    go_enter Try.func10, Try.ntmps10
    go_wp2_with fail
    refine (fix_div 0 y w hx hy).mono ?_
    rintro e w1 ⟨rfl, b1⟩
    go_wp2_with fail
    refine (r1_div 0 y w1 hx hy).mono ?_
    rintro e w2 ⟨rfl, b2⟩
    go_wp2_with fail
    refine (fix_div 0 4294967296 w2 hx (i64_of (by decide) (by decide))).mono ?_
    rintro e w3 ⟨rfl, b3⟩
    rw [H1.out]
    go_wp2_with fail
    refine (l01_awake w3).mono ?_
    rintro e w4 ⟨rfl, b4⟩
    go_wp2_with fail
    go_ret
    exact ⟨rfl, btr (btr (btr b1 b2) b3) b4⟩
  · have hb : (x == 0) = false := by simpa using h0
    have HS := Lib.hid (fdiv_self h0)
    clear h0
    go_enter Try.func10, Try.ntmps10
    go_wp2_with fail
    refine (fix_div x y w hx hy).mono ?_
    rintro e w1 ⟨rfl, b1⟩
    go_wp2_with fail
    refine (r1_div x y w1 hx hy).mono ?_
    rintro e w2 ⟨rfl, b2⟩
    go_wp2_with fail
    refine (fix_div x 4294967296 w2 hx (i64_of (by decide) (by decide))).mono ?_
    rintro e w3 ⟨rfl, b3⟩
    rw [H1.out]
    go_wp2_with fail
    refine (fix_div x x w3 hx hx).mono ?_
    rintro e w4 ⟨rfl, b4⟩
    rw [HS.out]
    go_wp2_with fail
    refine (l01_awake w4).mono ?_
    rintro e w5 ⟨rfl, b5⟩
    go_wp2_with fail
    go_ret
    exact ⟨rfl, btr (btr (btr (btr b1 b2) b3) b4) b5⟩
end Go.Proofs.Ytlnpkoggnikkbaa
