/- The walk of the statement PointBounds. -/
import Derived.Test.YtingmabmglpmaaaLaw05b
import Derived.Test.YtingmabmglpmaaaFixLawMath
import Derived.Lib.MinMax
namespace Go.Proofs.Ytingmabmglpmaaa
open Go.RowKit

theorem lineF_mono {x y : Int} (h : x ≤ y) : lineF x ≤ lineF y := fadd_mono (fmul_mono (by decide) h)
theorem fclamp_mono {x y l h : Int} (hxy : x ≤ y) (_hlh : l ≤ h) : fclamp x l h ≤ fclamp y l h := by
  unfold fclamp; split <;> split <;> (try split) <;> (try split) <;> omega
theorem fclamp_in {x l h : Int} (hlh : l ≤ h) : l ≤ fclamp x l h ∧ fclamp x l h ≤ h := by
  unfold fclamp; split <;> (try split) <;> omega
theorem idx3i {v0 v1 v2 : Value} (W : World) : (Instr.index 69 (.agg #[v0, v1, v2]) (.int .i64 0)).run Try.prog W = .ok v0 W ∧ (Instr.index 69 (.agg #[v0, v1, v2]) (.int .i64 1)).run Try.prog W = .ok v1 W ∧ (Instr.index 69 (.agg #[v0, v1, v2]) (.int .i64 2)).run Try.prog W = .ok v2 W := by
  refine ⟨?_, ?_, ?_⟩ <;> simp [Instr.index, run_underlying Try.underlying69, asIntOf, go_sem]

set_option maxRecDepth 100000 in
set_option maxHeartbeats 4000000 in
theorem pointBounds_calls (x y : Int) (w : World) (hx : I64 x) (hy : I64 y) :
    Calls Try.prog 11 #[.int .i64 x, .int .i64 y] w (LawTrue w) := by
  obtain ⟨a, ha⟩ : ∃ a, min x y = a := ⟨_, rfl⟩
  obtain ⟨b, hb⟩ : ∃ b, max x y = b := ⟨_, rfl⟩
  have ia : I6 a := ⟨by unfold I64 at *; omega⟩
  have ib : I6 b := ⟨by unfold I64 at *; omega⟩
  have hab : a ≤ b := by omega
  obtain ⟨p1, P1⟩ : ∃ p, cellF 1 0 a 0 = p := ⟨_, rfl⟩
  obtain ⟨q1, Q1⟩ : ∃ p, cellF 1 0 b 0 = p := ⟨_, rfl⟩
  obtain ⟨p3, P3⟩ : ∃ p, cellF 3 0 a 0 = p := ⟨_, rfl⟩
  obtain ⟨q3, Q3⟩ : ∃ p, cellF 3 0 b 0 = p := ⟨_, rfl⟩
  obtain ⟨p4, P4⟩ : ∃ p, cellF 4 0 a 0 = p := ⟨_, rfl⟩
  obtain ⟨q4, Q4⟩ : ∃ p, cellF 4 0 b 0 = p := ⟨_, rfl⟩
  have b1 : 0 ≤ p1 ∧ q1 ≤ 9223372036854775807 ∧ p1 ≤ q1 := by
    rw [cellF_1] at P1 Q1
    have := ib.bd.2
    omega
  have b3 : -4294967296 ≤ p3 ∧ q3 ≤ 4294967296 ∧ p3 ≤ q3 := by
    rw [cellF_3] at P3 Q3
    rw [← P3, ← Q3]
    exact ⟨(fclamp_in (by decide)).1, (fclamp_in (by decide)).2, fclamp_mono hab (by decide)⟩
  have b4 : 0 ≤ p4 ∧ q4 ≤ 4294967296 ∧ p4 ≤ q4 := by
    rw [cellF_4] at P4 Q4
    rw [← P4, ← Q4]
    exact ⟨(fclamp_in (by decide)).1, (fclamp_in (by decide)).2, fclamp_mono (lineF_mono hab) (by decide)⟩
  obtain ⟨b11, b12, b13⟩ := b1
  obtain ⟨b31, b32, b33⟩ := b3
  obtain ⟨b41, b42, b43⟩ := b4
  clear hx hy hab
  go_enter Try.func11, Try.ntmps11
  go_wp2_with fail
  refine wp_loop_rounds 4 ?_
  rw [rounds_succ]
  obtain ⟨r0, r1, r2⟩ := idx3i (v0 := .int .i64 1) (v1 := .int .i64 3) (v2 := .int .i64 4) w
  go_wp2_with (first | (go_at_call 39; (try first | (with_reducible refine gen_boxK3 (fun u _ _ _ _ => ?_)) | (with_reducible refine gen_boxK2 (fun u _ _ _ => ?_)) | (with_reducible refine gen_boxK (fun u _ _ => ?_))); (with_reducible refine (pt_cell).mono ?_); rintro e u ⟨rfl, _⟩))
  rw [rounds_succ]
  obtain ⟨r3, r4, r5⟩ := idx3i (v0 := .int .i64 1) (v1 := .int .i64 3) (v2 := .int .i64 4) u
  go_wp2_with (first | (go_at_call 39; (try first | (with_reducible refine gen_boxK3 (fun u _ _ _ _ => ?_)) | (with_reducible refine gen_boxK2 (fun u _ _ _ => ?_)) | (with_reducible refine gen_boxK (fun u _ _ => ?_))); (with_reducible refine (pt_cell).mono ?_); rintro e u ⟨rfl, _⟩))
  rw [rounds_succ]
  obtain ⟨r6, r7, r8⟩ := idx3i (v0 := .int .i64 1) (v1 := .int .i64 3) (v2 := .int .i64 4) u
  go_wp2_with (first | (go_at_call 39; (try first | (with_reducible refine gen_boxK3 (fun u _ _ _ _ => ?_)) | (with_reducible refine gen_boxK2 (fun u _ _ _ => ?_)) | (with_reducible refine gen_boxK (fun u _ _ => ?_))); (with_reducible refine (pt_cell).mono ?_); rintro e u ⟨rfl, _⟩))
  rw [rounds_succ]
  go_wp2_with (first | (go_at_call 29; (try first | (with_reducible refine gen_boxK3 (fun u _ _ _ _ => ?_)) | (with_reducible refine gen_boxK2 (fun u _ _ _ => ?_)) | (with_reducible refine gen_boxK (fun u _ _ => ?_))); (with_reducible refine (a05_awake).mono ?_); rintro e u ⟨rfl, _⟩))
  go_ret
  exact ⟨rfl, bel w _⟩

end Go.Proofs.Ytingmabmglpmaaa
