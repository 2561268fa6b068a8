/- The walk of the statement PoolBest. -/
import Derived.Test.YteibgdcieaiaiaaLaw08
namespace Go.Proofs.Yteibgdcieaiaiaa
open Go.RowKit

set_option maxRecDepth 100000 in
set_option maxHeartbeats 4000000 in
theorem poolBest_calls (A : Option Addr) (c : Nat) (zs : List Int) (w : World) (h : IntsIn w A c zs) :
    Calls Try.prog 11 #[.slice A zs.length c] w (LawTrue w) := by
  have a : Sl w A zs.length zs := ⟨h.rd, rfl⟩
  clear h
  have CP := @cell_prev
  by_cases hl : 300 < zs.length
  · go_enter Try.func11, Try.ntmps11
    go_wp2_with (first | (go_at_call 32; (try first | (with_reducible refine gen_boxK3 (fun u _ _ _ _ => ?_)) | (with_reducible refine gen_boxK2 (fun u _ _ _ => ?_)) | (with_reducible refine gen_boxK (fun u _ _ => ?_))); (with_reducible refine (a08_awake).mono ?_); rintro e u ⟨rfl, _⟩))
    go_ret
    exact ⟨rfl, bel w _⟩
  by_cases h0 : zs.length = 0
  · have e : zs = [] := List.eq_nil_of_length_eq_zero h0
    subst e
    clear h0
    have hb : Calls Try.prog 44 #[.slice A 0 c] w (RetV w (.int .i64 (-1))) := pl_best (zs := []) (by omega)
    go_enter Try.func11, Try.ntmps11
    go_wp2_with (first | (first | (go_at_call 32; (try first | (with_reducible refine gen_boxK3 (fun u _ _ _ _ => ?_)) | (with_reducible refine gen_boxK2 (fun u _ _ _ => ?_)) | (with_reducible refine gen_boxK (fun u _ _ => ?_))); (with_reducible refine (a08_awake).mono ?_); rintro e u ⟨rfl, _⟩)) | (go_at_call 44; (with_reducible refine hb.mono ?_); rintro e u ⟨rfl, _⟩))
    go_ret
    exact ⟨rfl, bel w _⟩
  obtain ⟨b, hb, hbl, h1, h2⟩ := bestTo_spec (l := zs) (k := zs.length) (by omega)
  have HB : Hid (bestI zs = (b : Int)) := Lib.hid hb
  have H1 := Lib.hid h1
  have H2 := Lib.hid h2
  obtain ⟨bb, oo, y, rfl, ob, cy, hy⟩ := a.get hbl
  have h0' : ((zs.length : Int) == 0) = false := by rw [beq_eq_false_iff_ne]; omega
  have d2 : decide ((zs.length : Int) ≤ (b : Int)) = false := by simp; omega
  clear hb h1 h2
  go_enter Try.func11, Try.ntmps11
  go_wp2_with (first | (go_at_call 44; (try first | (with_reducible refine gen_boxK3 (fun u _ _ _ _ => ?_)) | (with_reducible refine gen_boxK2 (fun u _ _ _ => ?_)) | (with_reducible refine gen_boxK (fun u _ _ => ?_))); (with_reducible refine (pl_bestH (by omega) HB).mono ?_); rintro e u ⟨rfl, _⟩))
  obtain ⟨v, rfl⟩ : ∃ v : World, v = u := ⟨_, rfl⟩
  go_loop [30] (fun i => ∃ k : Nat, k ≤ zs.length ∧ i = .int .i64 k) (fun i => zs.length - (intOf i).toNat)
  case atStart => exact ⟨0, Nat.zero_le _, rfl⟩
  case round =>
    obtain ⟨k, hk, rfl⟩ := hrel
    by_cases hlt : k < zs.length
    · obtain ⟨b2, o2, x, e2, ob2, cx, hx⟩ := a.get hlt
      injection e2 with e2
      injection e2 with e2 e2'
      subst e2 e2'
      have g1 : zs.getD b 0 = y := by rw [List.getD_eq_getElem?_getD, hy.out]; rfl
      have g2 : zs.getD k 0 = x := by rw [List.getD_eq_getElem?_getD, hx.out]; rfl
      have hxy : x ≤ y := by have := H1.out k hlt; rw [g1, g2] at this; exact this
      have hlt2 : k < b → x < y := fun h => by have := H2.out k h; rw [g1, g2] at this; exact this
      clear g1 g2
      by_cases hkb : k < b
      · have hxy2 := hlt2 hkb
        clear hlt2
        have e1 : (x == y) = false := by simp; omega
        go_wp2_with fail
        go_round
        case rel => exact ⟨_, _, _, _, ⟨k + 1, by omega, by go_num⟩, rfl, rfl, rfl, rfl⟩
        case measure => simp [intOf]; omega
      · clear hlt2
        go_wp2_with fail
        go_round
        case rel => exact ⟨_, _, _, _, ⟨k + 1, by omega, by go_num⟩, rfl, rfl, rfl, rfl⟩
        case measure => simp [intOf]; omega
    · go_wp2_with (first | (go_at_call 32; (try first | (with_reducible refine gen_boxK3 (fun u _ _ _ _ => ?_)) | (with_reducible refine gen_boxK2 (fun u _ _ _ => ?_)) | (with_reducible refine gen_boxK (fun u _ _ => ?_))); (with_reducible refine (a08_awake).mono ?_); rintro e u ⟨rfl, _⟩))
      go_ret
      exact ⟨rfl, bel w _⟩

end Go.Proofs.Yteibgdcieaiaiaa
