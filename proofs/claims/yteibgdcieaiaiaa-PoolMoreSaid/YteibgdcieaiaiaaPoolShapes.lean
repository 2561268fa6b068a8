/- The walk of the statement PoolShapes. -/
import Derived.Test.YteibgdcieaiaiaaLaw08
namespace Go.Proofs.Yteibgdcieaiaiaa
open Go.RowKit

theorem plV_len (zs : List Int) (W S : Int) : (plV zs W S).length ≤ zs.length := by
  unfold plV
  split
  · simp
  · simp
set_option maxRecDepth 100000 in
set_option maxHeartbeats 4000000 in
theorem poolShapes_calls (A : Option Addr) (c : Nat) (zs : List Int) (W S : Int) (w : World) (h : IntsIn w A c zs) :
    Calls Try.prog 8 #[.slice A zs.length c, .int .i64 W, .int .i64 S] w (LawTrue w) := by
  have a : Sl w A zs.length zs := ⟨h.rd, rfl⟩
  clear h
  have CP := @cell_prev
  by_cases hl : 9 < zs.length
  · go_enter Try.func8, Try.ntmps8
    go_wp2_with (first | (go_at_call 32; (try first | (with_reducible refine gen_boxK3 (fun u _ _ _ _ => ?_)) | (with_reducible refine gen_boxK2 (fun u _ _ _ => ?_)) | (with_reducible refine gen_boxK (fun u _ _ => ?_))); (with_reducible refine (a08_awake).mono ?_); rintro e u ⟨rfl, _⟩))
    go_ret
    exact ⟨rfl, bel w _⟩
  obtain ⟨V, hV⟩ : ∃ V, plV zs W S = V := ⟨_, rfl⟩
  obtain ⟨E, hE⟩ : ∃ E, plE zs W S = E := ⟨_, rfl⟩
  have hVl : V.length ≤ 9 := by have := plV_len zs W S; rw [hV] at this; omega
  have HV := Lib.hid hV
  have HE := Lib.hid hE
  clear hV hE
  go_enter Try.func8, Try.ntmps8
  go_wp2_with (first | (go_at_call 33; (try first | (with_reducible refine gen_boxK3 (fun u _ _ _ _ => ?_)) | (with_reducible refine gen_boxK2 (fun u _ _ _ => ?_)) | (with_reducible refine gen_boxK (fun u _ _ => ?_))); (with_reducible refine (aS_plshape (by omega) HE HV).mono ?_); rintro e u ⟨A', c', rfl, sJ, lJ, fJ, _⟩) | (go_at_call 34; (try first | (with_reducible refine gen_boxK3 (fun u _ _ _ _ => ?_)) | (with_reducible refine gen_boxK2 (fun u _ _ _ => ?_)) | (with_reducible refine gen_boxK (fun u _ _ => ?_))); (with_reducible refine (a08_told (by omega) HE HV).mono ?_); rintro e u ⟨A', c', rfl, sJ, lJ, fJ, _⟩) | (go_at_call 18; (try first | (with_reducible refine gen_boxK3 (fun u _ _ _ _ => ?_)) | (with_reducible refine gen_boxK2 (fun u _ _ _ => ?_)) | (with_reducible refine gen_boxK (fun u _ _ => ?_))); (with_reducible refine (a03_sameT (by omega) (by omega)).mono ?_); rintro e u ⟨rfl, _⟩) | (go_at_call 32; (try first | (with_reducible refine gen_boxK3 (fun u _ _ _ _ => ?_)) | (with_reducible refine gen_boxK2 (fun u _ _ _ => ?_)) | (with_reducible refine gen_boxK (fun u _ _ => ?_))); (with_reducible refine (a08_awake).mono ?_); rintro e u ⟨rfl, _⟩))
  go_ret
  exact ⟨rfl, bel w _⟩

end Go.Proofs.Yteibgdcieaiaiaa
