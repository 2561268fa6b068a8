/- point's cells and slopes, the program's and the document's. -/
import Derived.Test.YtingmabmglpmaaaI6
import Derived.Test.YtingmabmglpmaaaPointMath
import Derived.Lib.MinMax
namespace Go.Proofs.Ytingmabmglpmaaa
open Go.RowKit

instance I6.line {x : Int} : I6 (lineF x) := ⟨lineF_bd x⟩
instance I6.cell {kind k x y : Int} [a : I6 k] [b : I6 x] [c : I6 y] : I6 (cellF kind k x y) := ⟨cellF_bd a.bd b.bd c.bd⟩
instance I6.slopeX {kind k x y g : Int} [a : I6 k] [b : I6 y] [c : I6 g] : I6 (slopeX kind k x y g) := ⟨slopeX_bd a.bd b.bd c.bd⟩
instance I6.slopeY {kind x g : Int} [a : I6 x] [b : I6 g] : I6 (slopeY kind x g) := ⟨slopeY_bd a.bd b.bd⟩

theorem retV_of {P : Program} {f : Nat} {args : Array Value} {w : World} {v v' : Value} (h : Calls P f args w (RetV w v)) (e : v = v') : Calls P f args w (RetV w v') := e ▸ h

section
variable {w : World} {kind k x y g : Int}
set_option maxHeartbeats 1000000 in
theorem pt_ins : Calls Try.prog 50 #[.int .i64 kind] w (RetV w (.int .i64 (insN kind))) := by
  by_cases h1 : kind = 1 ∨ kind = 2 ∨ kind = 3 ∨ kind = 4 ∨ kind = 5 ∨ kind = 6 ∨ kind = 7
  · rcases h1 with rfl | rfl | rfl | rfl | rfl | rfl | rfl <;>
    · go_enter Try.func50, Try.ntmps50
      go_wp2_with fail
      go_ret
      exact ⟨rfl, prev_bel _ _⟩
  · have e : insN kind = 0 := by unfold insN; rw [if_neg (by omega), if_neg (by omega)]
    have k1 : (kind == 1) = false := by simpa using fun h => h1 (by omega)
    have k2 : (kind == 2) = false := by simpa using fun h => h1 (by omega)
    have k3 : (kind == 3) = false := by simpa using fun h => h1 (by omega)
    have k4 : (kind == 4) = false := by simpa using fun h => h1 (by omega)
    have k5 : (kind == 5) = false := by simpa using fun h => h1 (by omega)
    have k6 : (kind == 6) = false := by simpa using fun h => h1 (by omega)
    have k7 : (kind == 7) = false := by simpa using fun h => h1 (by omega)
    rw [e]
    clear h1 e
    go_enter Try.func50, Try.ntmps50
    go_wp2_with fail
    go_ret
    exact ⟨rfl, prev_bel _ _⟩
theorem pt_line [a : I6 x] : Calls Try.prog 61 #[.int .i64 x] w (RetV w (.int .i64 (lineF x))) := by
  go_enter Try.func61, Try.ntmps61
  go_wp2_with (first | (go_at_call 58; (try first | (with_reducible refine gen_boxK3 (fun u _ _ _ _ => ?_)) | (with_reducible refine gen_boxK2 (fun u _ _ _ => ?_)) | (with_reducible refine gen_boxK (fun u _ _ => ?_))); (with_reducible refine (aF_mul).mono ?_); rintro e u ⟨rfl, _⟩) | (go_at_call 62; (try first | (with_reducible refine gen_boxK3 (fun u _ _ _ _ => ?_)) | (with_reducible refine gen_boxK2 (fun u _ _ _ => ?_)) | (with_reducible refine gen_boxK (fun u _ _ => ?_))); (with_reducible refine (aF_add).mono ?_); rintro e u ⟨rfl, _⟩))
  go_ret
  exact ⟨rfl, prev_bel _ _⟩
set_option maxHeartbeats 2000000 in
theorem pt_cell [I6 k] [a : I6 x] [I6 y] : Calls Try.prog 39 #[.int .i64 kind, .int .i64 k, .int .i64 x, .int .i64 y] w (RetV w (.int .i64 (cellF kind k x y))) := by
  by_cases h1 : kind = 1 ∨ kind = 2 ∨ kind = 3 ∨ kind = 4 ∨ kind = 5 ∨ kind = 6 ∨ kind = 7
  · rcases h1 with rfl | rfl | rfl | rfl | rfl | rfl | rfl
    · refine retV_of (v := .int .i64 (max x 0)) ?_ (by rw [cellF_1])
      go_enter Try.func39, Try.ntmps39
      go_wp2_with fail
      go_ret
      exact ⟨rfl, prev_bel _ _⟩
    · by_cases hx : 0 < x
      · refine retV_of (v := .int .i64 x) ?_ (by rw [cellF_2, if_pos (by omega)])
        go_enter Try.func39, Try.ntmps39
        go_wp2_with fail
        go_ret
        exact ⟨rfl, prev_bel _ _⟩
      · refine retV_of (v := .int .i64 (fmul x k)) ?_ (by rw [cellF_2, if_neg (by omega)])
        go_enter Try.func39, Try.ntmps39
        go_wp2_with (first | (go_at_call 58; (try first | (with_reducible refine gen_boxK3 (fun u _ _ _ _ => ?_)) | (with_reducible refine gen_boxK2 (fun u _ _ _ => ?_)) | (with_reducible refine gen_boxK (fun u _ _ => ?_))); (with_reducible refine (aF_mul).mono ?_); rintro e u ⟨rfl, _⟩))
        go_ret
        exact ⟨rfl, prev_bel _ _⟩
    · refine retV_of (v := .int .i64 (fclamp x (fneg 4294967296) 4294967296)) ?_ (by rw [cellF_3]; simp [fneg, clampI])
      go_enter Try.func39, Try.ntmps39
      go_wp2_with (first | (go_at_call 60; (try first | (with_reducible refine gen_boxK3 (fun u _ _ _ _ => ?_)) | (with_reducible refine gen_boxK2 (fun u _ _ _ => ?_)) | (with_reducible refine gen_boxK (fun u _ _ => ?_))); (with_reducible refine (aF_neg).mono ?_); rintro e u ⟨rfl, _⟩) | (go_at_call 59; (try first | (with_reducible refine gen_boxK3 (fun u _ _ _ _ => ?_)) | (with_reducible refine gen_boxK2 (fun u _ _ _ => ?_)) | (with_reducible refine gen_boxK (fun u _ _ => ?_))); (with_reducible refine (aF_clamp).mono ?_); rintro e u ⟨rfl, _⟩))
      go_ret
      exact ⟨rfl, prev_bel _ _⟩
    · refine retV_of (v := .int .i64 (fclamp (lineF x) 0 4294967296)) ?_ (by rw [cellF_4])
      go_enter Try.func39, Try.ntmps39
      go_wp2_with (first | (go_at_call 61; (try first | (with_reducible refine gen_boxK3 (fun u _ _ _ _ => ?_)) | (with_reducible refine gen_boxK2 (fun u _ _ _ => ?_)) | (with_reducible refine gen_boxK (fun u _ _ => ?_))); (with_reducible refine (pt_line).mono ?_); rintro e u ⟨rfl, _⟩) | (go_at_call 59; (try first | (with_reducible refine gen_boxK3 (fun u _ _ _ _ => ?_)) | (with_reducible refine gen_boxK2 (fun u _ _ _ => ?_)) | (with_reducible refine gen_boxK (fun u _ _ => ?_))); (with_reducible refine (aF_clamp).mono ?_); rintro e u ⟨rfl, _⟩))
      go_ret
      exact ⟨rfl, prev_bel _ _⟩
    · refine retV_of (v := .int .i64 (fmul x k)) ?_ (by rw [cellF_5])
      go_enter Try.func39, Try.ntmps39
      go_wp2_with (first | (go_at_call 58; (try first | (with_reducible refine gen_boxK3 (fun u _ _ _ _ => ?_)) | (with_reducible refine gen_boxK2 (fun u _ _ _ => ?_)) | (with_reducible refine gen_boxK (fun u _ _ => ?_))); (with_reducible refine (aF_mul).mono ?_); rintro e u ⟨rfl, _⟩))
      go_ret
      exact ⟨rfl, prev_bel _ _⟩
    · refine retV_of (v := .int .i64 (fadd x y)) ?_ (by rw [cellF_6])
      go_enter Try.func39, Try.ntmps39
      go_wp2_with (first | (go_at_call 62; (try first | (with_reducible refine gen_boxK3 (fun u _ _ _ _ => ?_)) | (with_reducible refine gen_boxK2 (fun u _ _ _ => ?_)) | (with_reducible refine gen_boxK (fun u _ _ => ?_))); (with_reducible refine (aF_add).mono ?_); rintro e u ⟨rfl, _⟩))
      go_ret
      exact ⟨rfl, prev_bel _ _⟩
    · refine retV_of (v := .int .i64 (fmul x y)) ?_ (by rw [cellF_7])
      go_enter Try.func39, Try.ntmps39
      go_wp2_with (first | (go_at_call 58; (try first | (with_reducible refine gen_boxK3 (fun u _ _ _ _ => ?_)) | (with_reducible refine gen_boxK2 (fun u _ _ _ => ?_)) | (with_reducible refine gen_boxK (fun u _ _ => ?_))); (with_reducible refine (aF_mul).mono ?_); rintro e u ⟨rfl, _⟩))
      go_ret
      exact ⟨rfl, prev_bel _ _⟩
  · refine retV_of (v := .int .i64 0) ?_ (by unfold cellF; repeat rw [if_neg (by omega)])
    have k1 : (kind == 1) = false := by simpa using fun h => h1 (by omega)
    have k2 : (kind == 2) = false := by simpa using fun h => h1 (by omega)
    have k3 : (kind == 3) = false := by simpa using fun h => h1 (by omega)
    have k4 : (kind == 4) = false := by simpa using fun h => h1 (by omega)
    have k5 : (kind == 5) = false := by simpa using fun h => h1 (by omega)
    have k6 : (kind == 6) = false := by simpa using fun h => h1 (by omega)
    have k7 : (kind == 7) = false := by simpa using fun h => h1 (by omega)
    clear h1
    go_enter Try.func39, Try.ntmps39
    go_wp2_with fail
    go_ret
    exact ⟨rfl, prev_bel _ _⟩
theorem a5_line : Calls Try.prog 56 #[.int .i64 (fmul x 1073741824), .int .i64 2147483648] w (RetV w (.int .i64 (lineF x))) := a1_add (x := fmul x 1073741824) (a := ⟨heldI_bd (rnd_nonneg (Int.mul_nonneg (by unfold absI; split <;> omega) (by decide)) (by decide)) _⟩)
theorem fneg5 : Calls Try.prog 60 #[.int .i64 4294967296] w (RetV w (.int .i64 (-4294967296))) := retV_of aF_neg (by simp [fneg, clampI])
set_option maxHeartbeats 4000000 in
theorem pt_slope [I6 k] [I6 x] [I6 y] [I6 g] : Calls Try.prog 57 #[.int .i64 kind, .int .i64 k, .int .i64 x, .int .i64 y, .int .i64 g] w (RetV w (.tuple #[.int .i64 (slopeX kind k x y g), .int .i64 (slopeY kind x g)])) := by
  by_cases h1 : kind = 1 ∨ kind = 2 ∨ kind = 3 ∨ kind = 4 ∨ kind = 5 ∨ kind = 6 ∨ kind = 7
  · rcases h1 with rfl | rfl | rfl | rfl | rfl | rfl | rfl
    · by_cases h2 : 0 < x
      · refine retV_of (v := .tuple #[.int .i64 (g), .int .i64 (0)]) ?_ (by rw [slopeX_1, slopeY_0 (by decide)]; repeat (first | rw [if_pos (by omega)] | rw [if_neg (by omega)]))
        go_enter Try.func57, Try.ntmps57
        go_wp2_with fail
        go_ret2
        exact ⟨rfl, prev_bel _ _⟩
      refine retV_of (v := .tuple #[.int .i64 (0), .int .i64 (0)]) ?_ (by rw [slopeX_1, slopeY_0 (by decide)]; repeat (first | rw [if_pos (by omega)] | rw [if_neg (by omega)]))
      go_enter Try.func57, Try.ntmps57
      go_wp2_with fail
      go_ret2
      exact ⟨rfl, prev_bel _ _⟩
    · by_cases h2 : 0 < x
      · refine retV_of (v := .tuple #[.int .i64 (g), .int .i64 (0)]) ?_ (by rw [slopeX_2, slopeY_0 (by decide)]; repeat (first | rw [if_pos (by omega)] | rw [if_neg (by omega)]))
        go_enter Try.func57, Try.ntmps57
        go_wp2_with fail
        go_ret2
        exact ⟨rfl, prev_bel _ _⟩
      refine retV_of (v := .tuple #[.int .i64 (fmul g k), .int .i64 (0)]) ?_ (by rw [slopeX_2, slopeY_0 (by decide)]; repeat (first | rw [if_pos (by omega)] | rw [if_neg (by omega)]))
      go_enter Try.func57, Try.ntmps57
      go_wp2_with (first | (go_at_call 58; (try first | (with_reducible refine gen_boxK3 (fun u _ _ _ _ => ?_)) | (with_reducible refine gen_boxK2 (fun u _ _ _ => ?_)) | (with_reducible refine gen_boxK (fun u _ _ => ?_))); (with_reducible refine (aF_mul).mono ?_); rintro e u ⟨rfl, _⟩))
      go_ret2
      exact ⟨rfl, prev_bel _ _⟩
    · by_cases h2 : x ≤ -4294967296
      · refine retV_of (v := .tuple #[.int .i64 (0), .int .i64 (0)]) ?_ (by rw [slopeX_3, slopeY_0 (by decide)]; repeat (first | rw [if_pos (by omega)] | rw [if_neg (by omega)]))
        go_enter Try.func57, Try.ntmps57
        go_wp2_with (first | (go_at_call 60; (try first | (with_reducible refine gen_boxK3 (fun u _ _ _ _ => ?_)) | (with_reducible refine gen_boxK2 (fun u _ _ _ => ?_)) | (with_reducible refine gen_boxK (fun u _ _ => ?_))); (with_reducible refine (fneg5).mono ?_); rintro e u ⟨rfl, _⟩))
        go_ret2
        exact ⟨rfl, prev_bel _ _⟩
      by_cases h3 : 4294967296 ≤ x
      · refine retV_of (v := .tuple #[.int .i64 (0), .int .i64 (0)]) ?_ (by rw [slopeX_3, slopeY_0 (by decide)]; repeat (first | rw [if_pos (by omega)] | rw [if_neg (by omega)]))
        go_enter Try.func57, Try.ntmps57
        go_wp2_with (first | (go_at_call 60; (try first | (with_reducible refine gen_boxK3 (fun u _ _ _ _ => ?_)) | (with_reducible refine gen_boxK2 (fun u _ _ _ => ?_)) | (with_reducible refine gen_boxK (fun u _ _ => ?_))); (with_reducible refine (fneg5).mono ?_); rintro e u ⟨rfl, _⟩))
        go_ret2
        exact ⟨rfl, prev_bel _ _⟩
      refine retV_of (v := .tuple #[.int .i64 (g), .int .i64 (0)]) ?_ (by rw [slopeX_3, slopeY_0 (by decide)]; repeat (first | rw [if_pos (by omega)] | rw [if_neg (by omega)]))
      go_enter Try.func57, Try.ntmps57
      go_wp2_with (first | (go_at_call 60; (try first | (with_reducible refine gen_boxK3 (fun u _ _ _ _ => ?_)) | (with_reducible refine gen_boxK2 (fun u _ _ _ => ?_)) | (with_reducible refine gen_boxK (fun u _ _ => ?_))); (with_reducible refine (fneg5).mono ?_); rintro e u ⟨rfl, _⟩))
      go_ret2
      exact ⟨rfl, prev_bel _ _⟩
    · by_cases h2 : lineF x ≤ 0
      · refine retV_of (v := .tuple #[.int .i64 (0), .int .i64 (0)]) ?_ (by rw [slopeX_4, slopeY_0 (by decide)]; repeat (first | rw [if_pos (by omega)] | rw [if_neg (by omega)]))
        go_enter Try.func57, Try.ntmps57
        go_wp2_with (first | (go_at_call 61; (try first | (with_reducible refine gen_boxK3 (fun u _ _ _ _ => ?_)) | (with_reducible refine gen_boxK2 (fun u _ _ _ => ?_)) | (with_reducible refine gen_boxK (fun u _ _ => ?_))); (with_reducible refine (pt_line).mono ?_); rintro e u ⟨rfl, _⟩))
        go_ret2
        exact ⟨rfl, prev_bel _ _⟩
      by_cases h3 : 4294967296 ≤ lineF x
      · refine retV_of (v := .tuple #[.int .i64 (0), .int .i64 (0)]) ?_ (by rw [slopeX_4, slopeY_0 (by decide)]; repeat (first | rw [if_pos (by omega)] | rw [if_neg (by omega)]))
        go_enter Try.func57, Try.ntmps57
        go_wp2_with (first | (go_at_call 61; (try first | (with_reducible refine gen_boxK3 (fun u _ _ _ _ => ?_)) | (with_reducible refine gen_boxK2 (fun u _ _ _ => ?_)) | (with_reducible refine gen_boxK (fun u _ _ => ?_))); (with_reducible refine (pt_line).mono ?_); rintro e u ⟨rfl, _⟩))
        go_ret2
        exact ⟨rfl, prev_bel _ _⟩
      refine retV_of (v := .tuple #[.int .i64 (fmul g 1073741824), .int .i64 (0)]) ?_ (by rw [slopeX_4, slopeY_0 (by decide)]; repeat (first | rw [if_pos (by omega)] | rw [if_neg (by omega)]))
      go_enter Try.func57, Try.ntmps57
      go_wp2_with (first | (go_at_call 61; (try first | (with_reducible refine gen_boxK3 (fun u _ _ _ _ => ?_)) | (with_reducible refine gen_boxK2 (fun u _ _ _ => ?_)) | (with_reducible refine gen_boxK (fun u _ _ => ?_))); (with_reducible refine (pt_line).mono ?_); rintro e u ⟨rfl, _⟩) | (go_at_call 58; (try first | (with_reducible refine gen_boxK3 (fun u _ _ _ _ => ?_)) | (with_reducible refine gen_boxK2 (fun u _ _ _ => ?_)) | (with_reducible refine gen_boxK (fun u _ _ => ?_))); (with_reducible refine (aF_mul).mono ?_); rintro e u ⟨rfl, _⟩))
      go_ret2
      exact ⟨rfl, prev_bel _ _⟩
    · refine retV_of (v := .tuple #[.int .i64 (fmul g k), .int .i64 (0)]) ?_ (by rw [slopeX_5, slopeY_0 (by decide)])
      go_enter Try.func57, Try.ntmps57
      go_wp2_with (first | (go_at_call 58; (try first | (with_reducible refine gen_boxK3 (fun u _ _ _ _ => ?_)) | (with_reducible refine gen_boxK2 (fun u _ _ _ => ?_)) | (with_reducible refine gen_boxK (fun u _ _ => ?_))); (with_reducible refine (aF_mul).mono ?_); rintro e u ⟨rfl, _⟩))
      go_ret2
      exact ⟨rfl, prev_bel _ _⟩
    · refine retV_of (v := .tuple #[.int .i64 (g), .int .i64 (g)]) ?_ (by rw [slopeX_6, slopeY_6])
      go_enter Try.func57, Try.ntmps57
      go_wp2_with fail
      go_ret2
      exact ⟨rfl, prev_bel _ _⟩
    · refine retV_of (v := .tuple #[.int .i64 (fmul g y), .int .i64 (fmul g x)]) ?_ (by rw [slopeX_7, slopeY_7])
      go_enter Try.func57, Try.ntmps57
      go_wp2_with (first | (go_at_call 58; (try first | (with_reducible refine gen_boxK3 (fun u _ _ _ _ => ?_)) | (with_reducible refine gen_boxK2 (fun u _ _ _ => ?_)) | (with_reducible refine gen_boxK (fun u _ _ => ?_))); (with_reducible refine (aF_mul).mono ?_); rintro e u ⟨rfl, _⟩))
      go_ret2
      exact ⟨rfl, prev_bel _ _⟩
  · refine retV_of (v := .tuple #[.int .i64 (0), .int .i64 (0)]) ?_ (by unfold slopeX slopeY; repeat rw [if_neg (by omega)])
    have k1 : (kind == 1) = false := by simpa using fun h => h1 (by omega)
    have k2 : (kind == 2) = false := by simpa using fun h => h1 (by omega)
    have k3 : (kind == 3) = false := by simpa using fun h => h1 (by omega)
    have k4 : (kind == 4) = false := by simpa using fun h => h1 (by omega)
    have k5 : (kind == 5) = false := by simpa using fun h => h1 (by omega)
    have k6 : (kind == 6) = false := by simpa using fun h => h1 (by omega)
    have k7 : (kind == 7) = false := by simpa using fun h => h1 (by omega)
    clear h1
    go_enter Try.func57, Try.ntmps57
    go_wp2_with fail
    go_ret2
    exact ⟨rfl, prev_bel _ _⟩
theorem r5_mul [I6 x] [I6 y] : Calls Try.prog 55 #[.int .i64 x, .int .i64 y] w (RetV w (.int .i64 (fmul x y))) := by
  go_enter Try.func55, Try.ntmps55
  go_wp2_with (first | (go_at_call 67; (try first | (with_reducible refine gen_boxK3 (fun u _ _ _ _ => ?_)) | (with_reducible refine gen_boxK2 (fun u _ _ _ => ?_)) | (with_reducible refine gen_boxK (fun u _ _ => ?_))); (with_reducible refine (a1_mul).mono ?_); rintro e u ⟨rfl, _⟩))
  go_ret
  exact ⟨rfl, prev_bel _ _⟩
set_option maxHeartbeats 1000000 in
theorem r5_ins : Calls Try.prog 53 #[.int .i64 kind] w (RetV w (.int .i64 (insN kind))) := by
  by_cases a : 1 ≤ kind ∧ kind ≤ 5
  · have e : insN kind = 1 := by unfold insN; rw [if_pos a]
    obtain ⟨a, b⟩ := a
    rw [e]
    clear e
    go_enter Try.func53, Try.ntmps53
    go_wp2_with fail
    go_ret
    exact ⟨rfl, prev_bel _ _⟩
  by_cases b : kind = 6 ∨ kind = 7
  · rcases b with rfl | rfl <;>
    · clear a
      go_enter Try.func53, Try.ntmps53
      go_wp2_with fail
      go_ret
      exact ⟨rfl, prev_bel _ _⟩
  · have e : insN kind = 0 := by unfold insN; rw [if_neg a, if_neg b]
    have k6 : (kind == 6) = false := by simpa using fun h => b (by omega)
    have k7 : (kind == 7) = false := by simpa using fun h => b (by omega)
    rw [e]
    clear e b
    by_cases c : 1 ≤ kind
    · have d : ¬ kind ≤ 5 := by omega
      clear a
      go_enter Try.func53, Try.ntmps53
      go_wp2_with fail
      go_ret
      exact ⟨rfl, prev_bel _ _⟩
    · clear a
      go_enter Try.func53, Try.ntmps53
      go_wp2_with fail
      go_ret
      exact ⟨rfl, prev_bel _ _⟩
set_option maxHeartbeats 4000000 in
theorem r5_cell [I6 k] [I6 x] [I6 y] : Calls Try.prog 33 #[.int .i64 kind, .int .i64 k, .int .i64 x, .int .i64 y] w (RetV w (.int .i64 (cellF kind k x y))) := by
  by_cases h1 : kind = 1 ∨ kind = 2 ∨ kind = 3 ∨ kind = 4 ∨ kind = 5 ∨ kind = 6 ∨ kind = 7
  · rcases h1 with rfl | rfl | rfl | rfl | rfl | rfl | rfl
    · by_cases h2 : 0 < x
      · refine retV_of (v := .int .i64 x) ?_ (by rw [cellF_1]; congr 1; omega)
        go_enter Try.func33, Try.ntmps33
        go_wp2_with fail
        go_ret
        exact ⟨rfl, prev_bel _ _⟩
      refine retV_of (v := .int .i64 0) ?_ (by rw [cellF_1]; congr 1; omega)
      go_enter Try.func33, Try.ntmps33
      go_wp2_with fail
      go_ret
      exact ⟨rfl, prev_bel _ _⟩
    · by_cases h2 : 0 < x
      · refine retV_of (v := .int .i64 x) ?_ (by rw [cellF_2, if_pos (by omega)])
        go_enter Try.func33, Try.ntmps33
        go_wp2_with fail
        go_ret
        exact ⟨rfl, prev_bel _ _⟩
      refine retV_of (v := .int .i64 (fmul x k)) ?_ (by rw [cellF_2, if_neg (by omega)])
      go_enter Try.func33, Try.ntmps33
      go_wp2_with (first | (go_at_call 55; (try first | (with_reducible refine gen_boxK3 (fun u _ _ _ _ => ?_)) | (with_reducible refine gen_boxK2 (fun u _ _ _ => ?_)) | (with_reducible refine gen_boxK (fun u _ _ => ?_))); (with_reducible refine (r5_mul).mono ?_); rintro e u ⟨rfl, _⟩))
      go_ret
      exact ⟨rfl, prev_bel _ _⟩
    · by_cases h2 : 4294967296 < x
      · refine retV_of (v := .int .i64 4294967296) ?_ (by rw [cellF_3]; unfold fclamp; repeat (first | rw [if_pos (by omega)] | rw [if_neg (by omega)]))
        go_enter Try.func33, Try.ntmps33
        go_wp2_with fail
        go_ret
        exact ⟨rfl, prev_bel _ _⟩
      by_cases h3 : x < -4294967296
      · refine retV_of (v := .int .i64 (-4294967296)) ?_ (by rw [cellF_3]; unfold fclamp; repeat (first | rw [if_pos (by omega)] | rw [if_neg (by omega)]))
        go_enter Try.func33, Try.ntmps33
        go_wp2_with fail
        go_ret
        exact ⟨rfl, prev_bel _ _⟩
      refine retV_of (v := .int .i64 x) ?_ (by rw [cellF_3]; unfold fclamp; repeat (first | rw [if_pos (by omega)] | rw [if_neg (by omega)]))
      go_enter Try.func33, Try.ntmps33
      go_wp2_with fail
      go_ret
      exact ⟨rfl, prev_bel _ _⟩
    · by_cases h2 : 4294967296 < lineF x
      · refine retV_of (v := .int .i64 4294967296) ?_ (by rw [cellF_4]; unfold fclamp; repeat (first | rw [if_pos (by omega)] | rw [if_neg (by omega)]))
        go_enter Try.func33, Try.ntmps33
        go_wp2_with (first | (go_at_call 55; (try first | (with_reducible refine gen_boxK3 (fun u _ _ _ _ => ?_)) | (with_reducible refine gen_boxK2 (fun u _ _ _ => ?_)) | (with_reducible refine gen_boxK (fun u _ _ => ?_))); (with_reducible refine (r5_mul).mono ?_); rintro e u ⟨rfl, _⟩) | (go_at_call 56; (try first | (with_reducible refine gen_boxK3 (fun u _ _ _ _ => ?_)) | (with_reducible refine gen_boxK2 (fun u _ _ _ => ?_)) | (with_reducible refine gen_boxK (fun u _ _ => ?_))); (with_reducible refine (a5_line).mono ?_); rintro e u ⟨rfl, _⟩))
        go_ret
        exact ⟨rfl, prev_bel _ _⟩
      by_cases h3 : lineF x < 0
      · refine retV_of (v := .int .i64 0) ?_ (by rw [cellF_4]; unfold fclamp; repeat (first | rw [if_pos (by omega)] | rw [if_neg (by omega)]))
        go_enter Try.func33, Try.ntmps33
        go_wp2_with (first | (go_at_call 55; (try first | (with_reducible refine gen_boxK3 (fun u _ _ _ _ => ?_)) | (with_reducible refine gen_boxK2 (fun u _ _ _ => ?_)) | (with_reducible refine gen_boxK (fun u _ _ => ?_))); (with_reducible refine (r5_mul).mono ?_); rintro e u ⟨rfl, _⟩) | (go_at_call 56; (try first | (with_reducible refine gen_boxK3 (fun u _ _ _ _ => ?_)) | (with_reducible refine gen_boxK2 (fun u _ _ _ => ?_)) | (with_reducible refine gen_boxK (fun u _ _ => ?_))); (with_reducible refine (a5_line).mono ?_); rintro e u ⟨rfl, _⟩))
        go_ret
        exact ⟨rfl, prev_bel _ _⟩
      refine retV_of (v := .int .i64 (lineF x)) ?_ (by rw [cellF_4]; unfold fclamp; repeat (first | rw [if_pos (by omega)] | rw [if_neg (by omega)]))
      go_enter Try.func33, Try.ntmps33
      go_wp2_with (first | (go_at_call 55; (try first | (with_reducible refine gen_boxK3 (fun u _ _ _ _ => ?_)) | (with_reducible refine gen_boxK2 (fun u _ _ _ => ?_)) | (with_reducible refine gen_boxK (fun u _ _ => ?_))); (with_reducible refine (r5_mul).mono ?_); rintro e u ⟨rfl, _⟩) | (go_at_call 56; (try first | (with_reducible refine gen_boxK3 (fun u _ _ _ _ => ?_)) | (with_reducible refine gen_boxK2 (fun u _ _ _ => ?_)) | (with_reducible refine gen_boxK (fun u _ _ => ?_))); (with_reducible refine (a5_line).mono ?_); rintro e u ⟨rfl, _⟩))
      go_ret
      exact ⟨rfl, prev_bel _ _⟩
    · refine retV_of (v := .int .i64 (fmul x k)) ?_ (by rw [cellF_5])
      go_enter Try.func33, Try.ntmps33
      go_wp2_with (first | (go_at_call 55; (try first | (with_reducible refine gen_boxK3 (fun u _ _ _ _ => ?_)) | (with_reducible refine gen_boxK2 (fun u _ _ _ => ?_)) | (with_reducible refine gen_boxK (fun u _ _ => ?_))); (with_reducible refine (r5_mul).mono ?_); rintro e u ⟨rfl, _⟩))
      go_ret
      exact ⟨rfl, prev_bel _ _⟩
    · refine retV_of (v := .int .i64 (fadd x y)) ?_ (by rw [cellF_6])
      go_enter Try.func33, Try.ntmps33
      go_wp2_with (first | (go_at_call 56; (try first | (with_reducible refine gen_boxK3 (fun u _ _ _ _ => ?_)) | (with_reducible refine gen_boxK2 (fun u _ _ _ => ?_)) | (with_reducible refine gen_boxK (fun u _ _ => ?_))); (with_reducible refine (a1_add).mono ?_); rintro e u ⟨rfl, _⟩))
      go_ret
      exact ⟨rfl, prev_bel _ _⟩
    · refine retV_of (v := .int .i64 (fmul x y)) ?_ (by rw [cellF_7])
      go_enter Try.func33, Try.ntmps33
      go_wp2_with (first | (go_at_call 55; (try first | (with_reducible refine gen_boxK3 (fun u _ _ _ _ => ?_)) | (with_reducible refine gen_boxK2 (fun u _ _ _ => ?_)) | (with_reducible refine gen_boxK (fun u _ _ => ?_))); (with_reducible refine (r5_mul).mono ?_); rintro e u ⟨rfl, _⟩))
      go_ret
      exact ⟨rfl, prev_bel _ _⟩
  · refine retV_of (v := .int .i64 0) ?_ (by unfold cellF; repeat rw [if_neg (by omega)])
    have k1 : (kind == 1) = false := by simpa using fun h => h1 (by omega)
    have k2 : (kind == 2) = false := by simpa using fun h => h1 (by omega)
    have k3 : (kind == 3) = false := by simpa using fun h => h1 (by omega)
    have k4 : (kind == 4) = false := by simpa using fun h => h1 (by omega)
    have k5 : (kind == 5) = false := by simpa using fun h => h1 (by omega)
    have k6 : (kind == 6) = false := by simpa using fun h => h1 (by omega)
    have k7 : (kind == 7) = false := by simpa using fun h => h1 (by omega)
    clear h1
    go_enter Try.func33, Try.ntmps33
    go_wp2_with fail
    go_ret
    exact ⟨rfl, prev_bel _ _⟩
set_option maxHeartbeats 4000000 in
theorem r5_slope [I6 k] [I6 x] [I6 y] [I6 g] : Calls Try.prog 37 #[.int .i64 kind, .int .i64 k, .int .i64 x, .int .i64 y, .int .i64 g] w (RetV w (.tuple #[.int .i64 (slopeX kind k x y g), .int .i64 (slopeY kind x g)])) := by
  by_cases h1 : kind = 1 ∨ kind = 2 ∨ kind = 3 ∨ kind = 4 ∨ kind = 5 ∨ kind = 6 ∨ kind = 7
  · rcases h1 with rfl | rfl | rfl | rfl | rfl | rfl | rfl
    · by_cases h2 : 0 < x
      · refine retV_of (v := .tuple #[.int .i64 (g), .int .i64 (0)]) ?_ (by rw [slopeX_1, slopeY_0 (by decide)]; repeat (first | rw [if_pos (by omega)] | rw [if_neg (by omega)]))
        go_enter Try.func37, Try.ntmps37
        go_wp2_with fail
        go_ret2
        exact ⟨rfl, prev_bel _ _⟩
      refine retV_of (v := .tuple #[.int .i64 (0), .int .i64 (0)]) ?_ (by rw [slopeX_1, slopeY_0 (by decide)]; repeat (first | rw [if_pos (by omega)] | rw [if_neg (by omega)]))
      go_enter Try.func37, Try.ntmps37
      go_wp2_with fail
      go_ret2
      exact ⟨rfl, prev_bel _ _⟩
    · by_cases h2 : 0 < x
      · refine retV_of (v := .tuple #[.int .i64 (g), .int .i64 (0)]) ?_ (by rw [slopeX_2, slopeY_0 (by decide)]; repeat (first | rw [if_pos (by omega)] | rw [if_neg (by omega)]))
        go_enter Try.func37, Try.ntmps37
        go_wp2_with fail
        go_ret2
        exact ⟨rfl, prev_bel _ _⟩
      refine retV_of (v := .tuple #[.int .i64 (fmul g k), .int .i64 (0)]) ?_ (by rw [slopeX_2, slopeY_0 (by decide)]; repeat (first | rw [if_pos (by omega)] | rw [if_neg (by omega)]))
      go_enter Try.func37, Try.ntmps37
      go_wp2_with (first | (go_at_call 55; (try first | (with_reducible refine gen_boxK3 (fun u _ _ _ _ => ?_)) | (with_reducible refine gen_boxK2 (fun u _ _ _ => ?_)) | (with_reducible refine gen_boxK (fun u _ _ => ?_))); (with_reducible refine (r5_mul).mono ?_); rintro e u ⟨rfl, _⟩))
      go_ret2
      exact ⟨rfl, prev_bel _ _⟩
    · by_cases h2 : x ≤ -4294967296
      · refine retV_of (v := .tuple #[.int .i64 (0), .int .i64 (0)]) ?_ (by rw [slopeX_3, slopeY_0 (by decide)]; repeat (first | rw [if_pos (by omega)] | rw [if_neg (by omega)]))
        go_enter Try.func37, Try.ntmps37
        go_wp2_with fail
        go_ret2
        exact ⟨rfl, prev_bel _ _⟩
      by_cases h3 : 4294967296 ≤ x
      · refine retV_of (v := .tuple #[.int .i64 (0), .int .i64 (0)]) ?_ (by rw [slopeX_3, slopeY_0 (by decide)]; repeat (first | rw [if_pos (by omega)] | rw [if_neg (by omega)]))
        go_enter Try.func37, Try.ntmps37
        go_wp2_with fail
        go_ret2
        exact ⟨rfl, prev_bel _ _⟩
      refine retV_of (v := .tuple #[.int .i64 (g), .int .i64 (0)]) ?_ (by rw [slopeX_3, slopeY_0 (by decide)]; repeat (first | rw [if_pos (by omega)] | rw [if_neg (by omega)]))
      go_enter Try.func37, Try.ntmps37
      go_wp2_with fail
      go_ret2
      exact ⟨rfl, prev_bel _ _⟩
    · by_cases h2 : lineF x ≤ 0
      · refine retV_of (v := .tuple #[.int .i64 (0), .int .i64 (0)]) ?_ (by rw [slopeX_4, slopeY_0 (by decide)]; repeat (first | rw [if_pos (by omega)] | rw [if_neg (by omega)]))
        go_enter Try.func37, Try.ntmps37
        go_wp2_with (first | (go_at_call 55; (try first | (with_reducible refine gen_boxK3 (fun u _ _ _ _ => ?_)) | (with_reducible refine gen_boxK2 (fun u _ _ _ => ?_)) | (with_reducible refine gen_boxK (fun u _ _ => ?_))); (with_reducible refine (r5_mul).mono ?_); rintro e u ⟨rfl, _⟩) | (go_at_call 56; (try first | (with_reducible refine gen_boxK3 (fun u _ _ _ _ => ?_)) | (with_reducible refine gen_boxK2 (fun u _ _ _ => ?_)) | (with_reducible refine gen_boxK (fun u _ _ => ?_))); (with_reducible refine (a5_line).mono ?_); rintro e u ⟨rfl, _⟩))
        go_ret2
        exact ⟨rfl, prev_bel _ _⟩
      by_cases h3 : 4294967296 ≤ lineF x
      · refine retV_of (v := .tuple #[.int .i64 (0), .int .i64 (0)]) ?_ (by rw [slopeX_4, slopeY_0 (by decide)]; repeat (first | rw [if_pos (by omega)] | rw [if_neg (by omega)]))
        go_enter Try.func37, Try.ntmps37
        go_wp2_with (first | (go_at_call 55; (try first | (with_reducible refine gen_boxK3 (fun u _ _ _ _ => ?_)) | (with_reducible refine gen_boxK2 (fun u _ _ _ => ?_)) | (with_reducible refine gen_boxK (fun u _ _ => ?_))); (with_reducible refine (r5_mul).mono ?_); rintro e u ⟨rfl, _⟩) | (go_at_call 56; (try first | (with_reducible refine gen_boxK3 (fun u _ _ _ _ => ?_)) | (with_reducible refine gen_boxK2 (fun u _ _ _ => ?_)) | (with_reducible refine gen_boxK (fun u _ _ => ?_))); (with_reducible refine (a5_line).mono ?_); rintro e u ⟨rfl, _⟩))
        go_ret2
        exact ⟨rfl, prev_bel _ _⟩
      refine retV_of (v := .tuple #[.int .i64 (fmul g 1073741824), .int .i64 (0)]) ?_ (by rw [slopeX_4, slopeY_0 (by decide)]; repeat (first | rw [if_pos (by omega)] | rw [if_neg (by omega)]))
      go_enter Try.func37, Try.ntmps37
      go_wp2_with (first | (go_at_call 55; (try first | (with_reducible refine gen_boxK3 (fun u _ _ _ _ => ?_)) | (with_reducible refine gen_boxK2 (fun u _ _ _ => ?_)) | (with_reducible refine gen_boxK (fun u _ _ => ?_))); (with_reducible refine (r5_mul).mono ?_); rintro e u ⟨rfl, _⟩) | (go_at_call 56; (try first | (with_reducible refine gen_boxK3 (fun u _ _ _ _ => ?_)) | (with_reducible refine gen_boxK2 (fun u _ _ _ => ?_)) | (with_reducible refine gen_boxK (fun u _ _ => ?_))); (with_reducible refine (a5_line).mono ?_); rintro e u ⟨rfl, _⟩) | (go_at_call 55; (try first | (with_reducible refine gen_boxK3 (fun u _ _ _ _ => ?_)) | (with_reducible refine gen_boxK2 (fun u _ _ _ => ?_)) | (with_reducible refine gen_boxK (fun u _ _ => ?_))); (with_reducible refine (r5_mul).mono ?_); rintro e u ⟨rfl, _⟩))
      go_ret2
      exact ⟨rfl, prev_bel _ _⟩
    · refine retV_of (v := .tuple #[.int .i64 (fmul g k), .int .i64 (0)]) ?_ (by rw [slopeX_5, slopeY_0 (by decide)])
      go_enter Try.func37, Try.ntmps37
      go_wp2_with (first | (go_at_call 55; (try first | (with_reducible refine gen_boxK3 (fun u _ _ _ _ => ?_)) | (with_reducible refine gen_boxK2 (fun u _ _ _ => ?_)) | (with_reducible refine gen_boxK (fun u _ _ => ?_))); (with_reducible refine (r5_mul).mono ?_); rintro e u ⟨rfl, _⟩))
      go_ret2
      exact ⟨rfl, prev_bel _ _⟩
    · refine retV_of (v := .tuple #[.int .i64 (g), .int .i64 (g)]) ?_ (by rw [slopeX_6, slopeY_6])
      go_enter Try.func37, Try.ntmps37
      go_wp2_with fail
      go_ret2
      exact ⟨rfl, prev_bel _ _⟩
    · refine retV_of (v := .tuple #[.int .i64 (fmul g y), .int .i64 (fmul g x)]) ?_ (by rw [slopeX_7, slopeY_7])
      go_enter Try.func37, Try.ntmps37
      go_wp2_with (first | (go_at_call 55; (try first | (with_reducible refine gen_boxK3 (fun u _ _ _ _ => ?_)) | (with_reducible refine gen_boxK2 (fun u _ _ _ => ?_)) | (with_reducible refine gen_boxK (fun u _ _ => ?_))); (with_reducible refine (r5_mul).mono ?_); rintro e u ⟨rfl, _⟩))
      go_ret2
      exact ⟨rfl, prev_bel _ _⟩
  · refine retV_of (v := .tuple #[.int .i64 (0), .int .i64 (0)]) ?_ (by unfold slopeX slopeY; repeat rw [if_neg (by omega)])
    have k1 : (kind == 1) = false := by simpa using fun h => h1 (by omega)
    have k2 : (kind == 2) = false := by simpa using fun h => h1 (by omega)
    have k3 : (kind == 3) = false := by simpa using fun h => h1 (by omega)
    have k4 : (kind == 4) = false := by simpa using fun h => h1 (by omega)
    have k5 : (kind == 5) = false := by simpa using fun h => h1 (by omega)
    have k6 : (kind == 6) = false := by simpa using fun h => h1 (by omega)
    have k7 : (kind == 7) = false := by simpa using fun h => h1 (by omega)
    clear h1
    go_enter Try.func37, Try.ntmps37
    go_wp2_with fail
    go_ret2
    exact ⟨rfl, prev_bel _ _⟩
end

end Go.Proofs.Ytingmabmglpmaaa
