/- The walks of package fix: sums, differences, signs, floors, bounds, sums of lists. -/
import Derived.Test.YtphcffcecncngaaFix
import Derived.Test.YtphcffcecncngaaShapeMath
namespace Go.Proofs.Ytphcffcecncngaa
open Go.RowKit

set_option maxHeartbeats 1000000 in
theorem fix_add (x y : Int) (w : World) (hx : I64 x) (hy : I64 y) : Calls Try.prog 67 #[.int .i64 x, .int .i64 y] w fun e w' => e = .returned (.int .i64 (fadd x y)) ∧ w = w' := by
  have HX := Lib.hid hx
  have HY := Lib.hid hy
  obtain ⟨h1, h2⟩ := hx
  obtain ⟨h3, h4⟩ := hy
  by_cases hin : -9223372036854775808 ≤ x + y ∧ x + y ≤ 9223372036854775807
  · obtain ⟨i1, i2⟩ := hin
    have ht := sign_test HX.out HY.out (s := x + y) ⟨i1, i2⟩
    have hf : decide (bits .and .i64 (bits .xor .i64 x (x + y)) (bits .xor .i64 y (x + y)) < 0) = false := by
      rw [ht]
      by_cases a : x < 0 <;> by_cases b : y < 0 <;> by_cases c : x + y < 0 <;> simp [a, b, c] <;> omega
    clear ht
    go_enter Try.func67, Try.ntmps67
    go_wp2_with fail
    go_ret
    exact ⟨ret_int (by rw [fadd, clampI, if_neg (by omega), if_neg (by omega)]), rfl⟩
  · have hw := wrap64_eq (x + y)
    have hwb := wrap64_bd (x + y)
    have ht := sign_test HX.out HY.out (s := wrap64 (x + y)) hwb
    have hf : decide (bits .and .i64 (bits .xor .i64 x (wrap64 (x + y))) (bits .xor .i64 y (wrap64 (x + y))) < 0) = true := by
      rw [ht, hw]
      by_cases a : x < 0
      · have b : y < 0 := by omega
        have c : ¬ ((x + y + 9223372036854775808) % 18446744073709551616 - 9223372036854775808 < 0) := by omega
        simp [a, b]; omega
      · have b : ¬ y < 0 := by omega
        have c : (x + y + 9223372036854775808) % 18446744073709551616 - 9223372036854775808 < 0 := by omega
        simp [a, b]; omega
    have HE : Hid (fadd x y = edgeI (decide (x < 0))) := Lib.hid (by
      rw [fadd, clampI]
      by_cases a : x < 0
      · rw [if_pos (by omega)]; simp [edgeI, a]
      · rw [if_neg (by omega), if_pos (by omega)]; simp [edgeI, a])
    clear hw ht hwb
    go_enter Try.func67, Try.ntmps67
    go_wp2_with fail
    refine (fix_edge _ w).mono ?_
    rintro e w' ⟨rfl, rfl⟩
    go_wp2_with fail
    go_ret
    exact ⟨ret_int HE.out.symm, rfl⟩
set_option maxHeartbeats 1000000 in
theorem fix_sub (x y : Int) (w : World) (hx : I64 x) (hy : I64 y) : Calls Try.prog 107 #[.int .i64 x, .int .i64 y] w fun e w' => e = .returned (.int .i64 (fsub x y)) ∧ w = w' := by
  have HX := Lib.hid hx
  have HY := Lib.hid hy
  obtain ⟨h1, h2⟩ := hx
  obtain ⟨h3, h4⟩ := hy
  by_cases hin : -9223372036854775808 ≤ x - y ∧ x - y ≤ 9223372036854775807
  · obtain ⟨i1, i2⟩ := hin
    have ht := sign_test2 HX.out HY.out (d := x - y) ⟨i1, i2⟩
    have hf : decide (bits .and .i64 (bits .xor .i64 x y) (bits .xor .i64 x (x - y)) < 0) = false := by
      rw [ht]
      by_cases a : x < 0 <;> by_cases b : y < 0 <;> by_cases c : x - y < 0 <;> simp [a, b, c] <;> omega
    clear ht
    go_enter Try.func107, Try.ntmps107
    go_wp2_with fail
    go_ret
    exact ⟨ret_int (by rw [fsub, clampI, if_neg (by omega), if_neg (by omega)]), rfl⟩
  · have hw := wrap64_eq (x - y)
    have hwb := wrap64_bd (x - y)
    have ht := sign_test2 HX.out HY.out (d := wrap64 (x - y)) hwb
    have hf : decide (bits .and .i64 (bits .xor .i64 x y) (bits .xor .i64 x (wrap64 (x - y))) < 0) = true := by
      rw [ht, hw]
      by_cases a : x < 0
      · have b : ¬ y < 0 := by omega
        have c : ¬ ((x - y + 9223372036854775808) % 18446744073709551616 - 9223372036854775808 < 0) := by omega
        simp [a, b]; omega
      · have b : y < 0 := by omega
        have c : (x - y + 9223372036854775808) % 18446744073709551616 - 9223372036854775808 < 0 := by omega
        simp [a, b]; omega
    have HE : Hid (fsub x y = edgeI (decide (x < 0))) := Lib.hid (by
      rw [fsub, clampI]
      by_cases a : x < 0
      · rw [if_pos (by omega)]; simp [edgeI, a]
      · rw [if_neg (by omega), if_pos (by omega)]; simp [edgeI, a])
    clear hw ht hwb
    go_enter Try.func107, Try.ntmps107
    go_wp2_with fail
    refine (fix_edge _ w).mono ?_
    rintro e w' ⟨rfl, rfl⟩
    go_wp2_with fail
    go_ret
    exact ⟨ret_int HE.out.symm, rfl⟩
theorem fix_neg (x : Int) (w : World) (hx : I64 x) : Calls Try.prog 77 #[.int .i64 x] w fun e w' => e = .returned (.int .i64 (fneg x)) ∧ w = w' := by
  obtain ⟨h1, h2⟩ := hx
  by_cases hm : x = -9223372036854775808
  · subst hm
    go_enter Try.func77, Try.ntmps77
    go_wp2_with fail
    go_ret
    exact ⟨ret_int (by decide), rfl⟩
  · have hb : (x == -9223372036854775808) = false := by simpa using hm
    have hm2 : -9223372036854775808 < x := by omega
    clear hm
    go_enter Try.func77, Try.ntmps77
    go_wp2_with fail
    go_ret
    exact ⟨ret_int (by rw [fneg, clampI, if_neg (by omega), if_neg (by omega)]), rfl⟩
def fabs (x : Int) : Int := if x < 0 then fneg x else x
theorem fabs_bd {x : Int} (h : I64 x) : I64 (fabs x) := by
  unfold fabs
  split
  · exact fneg_bd x
  · exact h
theorem fix_abs (x : Int) (w : World) (hx : I64 x) : Calls Try.prog 44 #[.int .i64 x] w fun e w' => e = .returned (.int .i64 (fabs x)) ∧ w = w' := by
  by_cases hn : x < 0
  · have HE : Hid (fabs x = fneg x) := Lib.hid (by rw [fabs, if_pos hn])
    go_enter Try.func44, Try.ntmps44
    go_wp2_with fail
    refine (fix_neg x w hx).mono ?_
    rintro e w' ⟨rfl, rfl⟩
    go_wp2_with fail
    go_ret
    exact ⟨ret_int HE.out.symm, rfl⟩
  · go_enter Try.func44, Try.ntmps44
    go_wp2_with fail
    go_ret
    exact ⟨ret_int (by rw [fabs, if_neg (by omega)]), rfl⟩
def fint (n : Int) : Int := clampI (n * 4294967296)
theorem fint_bd (n : Int) : I64 (fint n) := clampI_bd _
theorem fix_int (n : Int) (w : World) : Calls Try.prog 63 #[.int .i64 n] w fun e w' => e = .returned (.int .i64 (fint n)) ∧ w = w' := by
  by_cases h1 : 2147483648 ≤ n
  · go_enter Try.func63, Try.ntmps63
    go_wp2_with fail
    go_ret
    exact ⟨ret_int (by rw [fint, clampI, if_neg (by omega), if_pos (by omega)]), rfl⟩
  · by_cases h2 : n < -2147483648
    · go_enter Try.func63, Try.ntmps63
      go_wp2_with fail
      go_ret
      exact ⟨ret_int (by rw [fint, clampI, if_pos (by omega)]), rfl⟩
    · go_enter Try.func63, Try.ntmps63
      go_wp2_with fail
      go_ret
      exact ⟨ret_int (by rw [fint, clampI, if_neg (by omega), if_neg (by omega)]), rfl⟩
def fclamp (x low high : Int) : Int := if high < x then high else if x < low then low else x
theorem fix_clamp (x low high : Int) (w : World) : Calls Try.prog 106 #[.int .i64 x, .int .i64 low, .int .i64 high] w fun e w' => e = .returned (.int .i64 (fclamp x low high)) ∧ w = w' := by
  by_cases h1 : high < x
  · go_enter Try.func106, Try.ntmps106
    go_wp2_with fail
    go_ret
    exact ⟨ret_int (by rw [fclamp, if_pos h1]), rfl⟩
  · by_cases h2 : x < low
    · go_enter Try.func106, Try.ntmps106
      go_wp2_with fail
      go_ret
      exact ⟨ret_int (by rw [fclamp, if_neg (by omega), if_pos h2]), rfl⟩
    · go_enter Try.func106, Try.ntmps106
      go_wp2_with fail
      go_ret
      exact ⟨ret_int (by rw [fclamp, if_neg (by omega), if_neg (by omega)]), rfl⟩
/-- The sum of a list, from the first one on. -/
def fsum (l : List Int) : Int := l.foldl fadd 0
theorem fsum_snoc (l : List Int) (x : Int) : fsum (l ++ [x]) = fadd (fsum l) x := by simp [fsum]
theorem fsum_bd (l : List Int) : I64 (fsum l) := by
  rcases List.eq_nil_or_concat l with rfl | ⟨m, x, rfl⟩
  · exact ⟨by decide, by decide⟩
  · rw [List.concat_eq_append, fsum_snoc]; exact fadd_bd _ _
end Go.Proofs.Ytphcffcecncngaa
