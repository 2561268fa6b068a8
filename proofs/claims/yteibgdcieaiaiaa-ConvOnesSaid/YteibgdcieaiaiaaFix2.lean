/- The walks of package fix: sums, differences, signs, floors, bounds, sums of lists. -/
import Derived.Test.YteibgdcieaiaiaaFix
import Derived.Test.YteibgdcieaiaiaaShapeMath
namespace Go.Proofs.Yteibgdcieaiaiaa
open Go.RowKit

set_option maxHeartbeats 1000000 in
theorem fix_add (x y : Int) (w : World) (hx : I64 x) (hy : I64 y) : Calls Try.prog 53 #[.int .i64 x, .int .i64 y] w fun e w' => e = .returned (.int .i64 (fadd x y)) ∧ w = w' := by
  have HX := Lib.hid hx
  have HY := Lib.hid hy
  obtain ⟨h1, h2⟩ := hx
  obtain ⟨h3, h4⟩ := hy
  by_cases hin : -9223372036854775808 ≤ x + y ∧ x + y ≤ 9223372036854775807
  · obtain ⟨i1, i2⟩ := hin
    have ht := sign_test HX.out HY.out (s := x + y) ⟨i1, i2⟩
    have hf : decide (bits .and .i64 (bits .xor .i64 x (x + y)) (bits .xor .i64 y (x + y)) < 0) = false := by
      rw [ht]
      by_cases a : x < 0 <;> by_cases b : y < 0 <;> by_cases c : x + y < 0 <;> simp [a, b, c] <;> omega
    clear ht
    go_enter Try.func53, Try.ntmps53
    go_wp2_with fail
    go_ret
    exact ⟨ret_int (by rw [fadd, clampI, if_neg (by omega), if_neg (by omega)]), rfl⟩
  · have hw := wrap64_eq (x + y)
    have hwb := wrap64_bd (x + y)
    have ht := sign_test HX.out HY.out (s := wrap64 (x + y)) hwb
    have hf : decide (bits .and .i64 (bits .xor .i64 x (wrap64 (x + y))) (bits .xor .i64 y (wrap64 (x + y))) < 0) = true := by
      rw [ht, hw]
      by_cases a : x < 0
      · have b : y < 0 := by omega
        have c : ¬ ((x + y + 9223372036854775808) % 18446744073709551616 - 9223372036854775808 < 0) := by omega
        simp [a, b]; omega
      · have b : ¬ y < 0 := by omega
        have c : (x + y + 9223372036854775808) % 18446744073709551616 - 9223372036854775808 < 0 := by omega
        simp [a, b]; omega
    have HE : Hid (fadd x y = edgeI (decide (x < 0))) := Lib.hid (by
      rw [fadd, clampI]
      by_cases a : x < 0
      · rw [if_pos (by omega)]; simp [edgeI, a]
      · rw [if_neg (by omega), if_pos (by omega)]; simp [edgeI, a])
    clear hw ht hwb
    go_enter Try.func53, Try.ntmps53
    go_wp2_with fail
    refine (fix_edge _ w).mono ?_
    rintro e w' ⟨rfl, rfl⟩
    go_wp2_with fail
    go_ret
    exact ⟨ret_int HE.out.symm, rfl⟩
def fabs (x : Int) : Int := if x < 0 then fneg x else x
theorem fabs_bd {x : Int} (h : I64 x) : I64 (fabs x) := by
  unfold fabs
  split
  · exact fneg_bd x
  · exact h
def fint (n : Int) : Int := clampI (n * 4294967296)
theorem fint_bd (n : Int) : I64 (fint n) := clampI_bd _
theorem fix_int (n : Int) (w : World) : Calls Try.prog 66 #[.int .i64 n] w fun e w' => e = .returned (.int .i64 (fint n)) ∧ w = w' := by
  by_cases h1 : 2147483648 ≤ n
  · go_enter Try.func66, Try.ntmps66
    go_wp2_with fail
    go_ret
    exact ⟨ret_int (by rw [fint, clampI, if_neg (by omega), if_pos (by omega)]), rfl⟩
  · by_cases h2 : n < -2147483648
    · go_enter Try.func66, Try.ntmps66
      go_wp2_with fail
      go_ret
      exact ⟨ret_int (by rw [fint, clampI, if_pos (by omega)]), rfl⟩
    · go_enter Try.func66, Try.ntmps66
      go_wp2_with fail
      go_ret
      exact ⟨ret_int (by rw [fint, clampI, if_neg (by omega), if_neg (by omega)]), rfl⟩
def fclamp (x low high : Int) : Int := if high < x then high else if x < low then low else x
/-- The sum of a list, from the first one on. -/
def fsum (l : List Int) : Int := l.foldl fadd 0
theorem fsum_snoc (l : List Int) (x : Int) : fsum (l ++ [x]) = fadd (fsum l) x := by simp [fsum]
theorem fsum_bd (l : List Int) : I64 (fsum l) := by
  rcases List.eq_nil_or_concat l with rfl | ⟨m, x, rfl⟩
  · exact ⟨by decide, by decide⟩
  · rw [List.concat_eq_append, fsum_snoc]; exact fadd_bd _ _
set_option maxHeartbeats 1000000 in
theorem fix_sum (A : Option Addr) (c : Nat) (l : List Int) (w : World) (hs : l.length ≤ 1000000) (hb : Hid (∀ z ∈ l, I64 z)) (h : Rd w A l) :
    Calls Try.prog 64 #[.slice A l.length c] w fun e w' => e = .returned (.int .i64 (fsum l)) ∧ w = w' := by
  go_enter Try.func64, Try.ntmps64
  go_wp2_with fail
  go_loop [3, 8] (fun s i => ∃ k : Nat, k ≤ l.length ∧ i = .int .i64 k ∧ s = .int .i64 (fsum (l.take k))) (fun _ i => l.length - (intOf i).toNat)
  case atStart => exact ⟨0, Nat.zero_le _, rfl, rfl⟩
  case round =>
    obtain ⟨k, hk, rfl, rfl⟩ := hrel
    by_cases hlt : k < l.length
    · obtain ⟨b, off, z, rfl, hbb, hc, hz⟩ := h.get hlt
      have CA := Lib.hid (fix_add (fsum (l.take k)) z w (fsum_bd _) (hb.out z (List.mem_of_getElem? hz.out)))
      go_wp2_with fail
      refine CA.out.mono ?_
      rintro e w' ⟨rfl, rfl⟩
      go_wp2_with fail
      go_round
      case rel => exact ⟨k + 1, by omega, by go_num, by rw [take_at hz.out, fsum_snoc]⟩
      case measure => simp [intOf]; omega
    · have e : Hid (l.take k = l) := Lib.hid (List.take_of_length_le (by omega))
      go_wp2_with fail
      go_ret
      exact ⟨ret_int (by rw [e.out]), rfl⟩
end Go.Proofs.Yteibgdcieaiaiaa
