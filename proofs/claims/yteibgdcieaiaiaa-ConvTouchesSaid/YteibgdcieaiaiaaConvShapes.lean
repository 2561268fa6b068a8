/- The walk of the statement ConvShapes. -/
import Derived.Test.YteibgdcieaiaiaaLaw07b
import Derived.Test.YteibgdcieaiaiaaLaw07d
namespace Go.Proofs.Yteibgdcieaiaiaa
open Go.RowKit

theorem cvV_len (ws xs : List Int) (S : Int) : (cvV ws xs S).length ≤ xs.length + 1 := by
  unfold cvV
  split
  · rw [cvV0, List.length_cons, cvWins_len]; omega
  · simp
set_option maxRecDepth 100000 in
set_option maxHeartbeats 4000000 in
theorem convShapes_calls (A B : Option Addr) (c d : Nat) (ws xs : List Int) (S : Int) (w : World) (iA : IntsIn w A c ws) (iB : IntsIn w B d xs) :
    Calls Try.prog 3 #[.slice A ws.length c, .slice B xs.length d, .int .i64 S] w (LawTrue w) := by
  have a : Sl w A ws.length ws := ⟨iA.rd, rfl⟩
  have b : Sl w B xs.length xs := ⟨iB.rd, rfl⟩
  have ld : Le xs.length d := ⟨iB.2.1⟩
  clear iA iB
  have CP := @cell_prev
  rcases hs : (decide (ws.length ≤ 9) && decide (xs.length ≤ 9)) with _ | _
  · go_enter Try.func3, Try.ntmps3
    go_wp2_with (first | (go_at_call 14; (try first | (with_reducible refine gen_boxK3 (fun u _ _ _ _ => ?_)) | (with_reducible refine gen_boxK2 (fun u _ _ _ => ?_)) | (with_reducible refine gen_boxK (fun u _ _ => ?_))); (with_reducible refine (a07_fewH hs).mono ?_); rintro e u ⟨rfl, _⟩) | (go_at_call 15; (try first | (with_reducible refine gen_boxK3 (fun u _ _ _ _ => ?_)) | (with_reducible refine gen_boxK2 (fun u _ _ _ => ?_)) | (with_reducible refine gen_boxK (fun u _ _ => ?_))); (with_reducible refine (a07_awake).mono ?_); rintro e u ⟨rfl, _⟩))
    go_ret
    exact ⟨rfl, bel w _⟩
  have hs' := hs
  simp only [Bool.and_eq_true, decide_eq_true_eq] at hs'
  obtain ⟨hl1, hl2⟩ := hs'
  obtain ⟨V, hV⟩ : ∃ V, cvV ws xs S = V := ⟨_, rfl⟩
  obtain ⟨E, hE⟩ : ∃ E, cvE ws xs S = E := ⟨_, rfl⟩
  have hVl : V.length ≤ 10 := by have := cvV_len ws xs S; rw [hV] at this; omega
  have HV := Lib.hid hV
  have HE := Lib.hid hE
  clear hV hE
  go_enter Try.func3, Try.ntmps3
  go_wp2_with (first | (go_at_call 14; (try first | (with_reducible refine gen_boxK3 (fun u _ _ _ _ => ?_)) | (with_reducible refine gen_boxK2 (fun u _ _ _ => ?_)) | (with_reducible refine gen_boxK (fun u _ _ => ?_))); (with_reducible refine (a07_fewH hs).mono ?_); rintro e u ⟨rfl, _⟩) | (go_at_call 16; (try first | (with_reducible refine gen_boxK3 (fun u _ _ _ _ => ?_)) | (with_reducible refine gen_boxK2 (fun u _ _ _ => ?_)) | (with_reducible refine gen_boxK (fun u _ _ => ?_))); (with_reducible refine (cv_shape (by omega) (by omega) HE HV).mono ?_); rintro e u ⟨A', c', rfl, sJ, lJ, fJ, _⟩) | (go_at_call 17; (try first | (with_reducible refine gen_boxK3 (fun u _ _ _ _ => ?_)) | (with_reducible refine gen_boxK2 (fun u _ _ _ => ?_)) | (with_reducible refine gen_boxK (fun u _ _ => ?_))); (with_reducible refine (a07_told (by omega) (by omega) HE HV).mono ?_); rintro e u ⟨A', c', rfl, sJ, lJ, fJ, _⟩) | (go_at_call 18; (try first | (with_reducible refine gen_boxK3 (fun u _ _ _ _ => ?_)) | (with_reducible refine gen_boxK2 (fun u _ _ _ => ?_)) | (with_reducible refine gen_boxK (fun u _ _ => ?_))); (with_reducible refine (a03_sameT (by omega) (by omega)).mono ?_); rintro e u ⟨rfl, _⟩) | (go_at_call 15; (try first | (with_reducible refine gen_boxK3 (fun u _ _ _ _ => ?_)) | (with_reducible refine gen_boxK2 (fun u _ _ _ => ?_)) | (with_reducible refine gen_boxK (fun u _ _ => ?_))); (with_reducible refine (a07_awake).mono ?_); rintro e u ⟨rfl, _⟩))
  go_ret
  exact ⟨rfl, bel w _⟩

end Go.Proofs.Yteibgdcieaiaiaa
