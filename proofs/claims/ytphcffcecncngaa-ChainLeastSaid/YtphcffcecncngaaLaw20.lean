/- athanorlaw20's fixed answer. -/
import Derived.Test.YtphcffcecncngaaChainRun
import Derived.Test.YtphcffcecncngaaChainLow
namespace Go.Proofs.Ytphcffcecncngaa
open Go.RowKit

theorem Ch.Plan.inv_one {c : Ch} {l r : Nat} {m : Int} {ps : List (Int × Int)} (h : c.Plan l r m ps) (e : r = l + 1) : ps = if r = c.n then [(1, (l : Int) + 1), (4, 0), (3, (l : Int) + 1), (5, 0), (6, (l : Int) + 1)] else [(6, (l : Int) + 1)] := by
  cases h with
  | last h _ => rw [if_pos h]
  | one h _ => rw [if_neg (by omega)]
  | split hj _ _ _ _ _ => omega
theorem Ch.Plan.inv_two {c : Ch} {l r : Nat} {m : Int} {ps : List (Int × Int)} (h : c.Plan l r m ps) (e : r = l + 2) : ∃ p q, c.Plan (l + 1) r (m - c.w (l + 1)) p ∧ c.Plan l (l + 1) m q ∧ ps = c.fwd l r 1 ++ p ++ [(3, (l : Int) + 1)] ++ q := by
  cases h with
  | last h _ => omega
  | one h _ => omega
  | @split _ _ j _ p q hj _ _ _ hp hq =>
    obtain rfl : j = 0 := by omega
    exact ⟨p, q, hp, hq, by simp⟩
/-- The chain of the fixed answer. -/
abbrev ch11 : Ch := ⟨[1, 1, 1], [1, 1]⟩
theorem plan11 {code : List (Int × Int)} (h : ch11.Plan 0 2 3 code) : code = [(1, 1), (1, 2), (4, 0), (3, 2), (5, 0), (6, 2), (3, 1), (6, 1)] := by
  obtain ⟨p, q, hp, hq, rfl⟩ := h.inv_two rfl
  rw [hp.inv_one rfl, hq.inv_one rfl]
  kernel_rfl
section
variable {w : World} {A B : Option Addr} {p q k : Nat} {W K : List Int} {cap : Int}
theorem least11 (hp : 3 ≤ p) [a : Sl w A 3 [1, 1, 1]] [b : Sl w B 2 [1, 1]] : Calls Try.prog 15 #[.agg #[.slice A 3 p, .slice B 2 q], .int .i64 3] w (RetV w (.tuple #[.int .i64 2, .int .i64 0])) := by
  have h := ch_least (c := ch11) (cap := 3) (q := q) hp (a := a) (b := b)
  have e1 : ch11.leastR 3 = 2 := by kernel_rfl
  have e2 : ch11.leastE 3 = 0 := by kernel_rfl
  rw [e1, e2] at h
  exact h
theorem least11' (hp : 3 ≤ p) [a : Sl w A 3 [1, 1, 1]] [b : Sl w B 2 [1, 1]] : Calls Try.prog 15 #[.agg #[.slice A 3 p, .slice B 2 q], .int .i64 1] w (RetV w (.tuple #[.int .i64 0, .int .i64 26])) := by
  have h := ch_least (c := ch11) (cap := 1) (q := q) hp (a := a) (b := b)
  have e1 : ch11.leastR 1 = 0 := by kernel_rfl
  have e2 : ch11.leastE 1 = 26 := by kernel_rfl
  rw [e1, e2] at h
  exact h
def RetPlan11 (w : World) (e : Ending) (w' : World) : Prop := ∃ CA cc, e = .returned (.tuple #[.slice CA 8 cc, .int .i64 0]) ∧ Is w' CA 8 [(1, 1), (1, 2), (4, 0), (3, 2), (5, 0), (6, 2), (3, 1), (6, 1)] ∧ Prev w' w
theorem plan11c (hp : 3 ≤ p) [a : Sl w A 3 [1, 1, 1]] [b : Sl w B 2 [1, 1]] : Calls Try.prog 16 #[.agg #[.slice A 3 p, .slice B 2 q], .int .i64 3] w (RetPlan11 w) := by
  have h := ch_plan_yes (c := ch11) (cap := 3) (q := q) hp (a := a) (b := b) (Lib.hid (by kernel_rfl))
  refine h.mono ?_
  rintro e u ⟨CA, cc, code, D, rfl, hP, hD, hI, _, hp⟩
  have e1 : min 3 (ch11.enough 0 ch11.n) = 3 := by kernel_rfl
  have hD' := hD.out
  rw [e1] at hD'
  have hc := hP.out
  rw [← hD'] at hc
  have := plan11 hc
  subst this
  exact ⟨CA, cc, rfl, hI, hp⟩
theorem walk11 {I : Option Addr} [a : Sl w A 3 [1, 1, 1]] [b : Sl w B 2 [1, 1]] [i : Is w I 8 [(1, 1), (1, 2), (4, 0), (3, 2), (5, 0), (6, 2), (3, 1), (6, 1)]] : Calls Try.prog 18 #[.agg #[.slice A 3 p, .slice B 2 q], .int .i64 3, .slice I 8 k] w (RetV w (.tuple #[.int .i64 2, .int .i64 3, .int .i64 0])) := by
  have h := ch_walk (c := ch11) (cap := 3) (p := p) (q := q) (kq := k) (by omega) (a := a) (b := b) (i := i)
  have e1 : trip (ch11.walkR 3 [(1, 1), (1, 2), (4, 0), (3, 2), (5, 0), (6, 2), (3, 1), (6, 1)]) = .tuple #[.int .i64 2, .int .i64 3, .int .i64 0] := by kernel_rfl
  rw [e1] at h
  exact h
theorem low11 [a : Sl w A 3 [1, 1, 1]] [b : Sl w B 2 [1, 1]] : Calls Try.prog 21 #[.agg #[.slice A 3 p, .slice B 2 q]] w (RetV w (.tuple #[.int .i64 3, .int .i64 0])) := by
  have h := ch_lowest (c := ch11) (p := p) (q := q) (a := a) (b := b)
  have e1 : ch11.lowV = 3 := by kernel_rfl
  have e2 : ch11.lowE = 0 := by kernel_rfl
  rw [e1, e2] at h
  exact h
theorem total11 [a : Sl w A 3 [1, 1, 1]] [b : Sl w B 2 [1, 1]] : Calls Try.prog 24 #[.agg #[.slice A 3 p, .slice B 2 q]] w (RetV w (.int .i64 2)) := by
  have h := ch_total (c := ch11) (p := p) (q := q) (a := a) (b := b)
  have e1 : ch11.totR = 2 := by kernel_rfl
  rw [e1] at h
  exact h
set_option maxRecDepth 100000 in
set_option maxHeartbeats 4000000 in
theorem a20_awake : Calls Try.prog 14 #[] w (RetV w (.bool true)) := by
  have CB := @cell_bx
  have CP := @cell_prev
  go_enter Try.func14, Try.ntmps14
  go_wp2_with (first | (go_at_call 15; (try first | (with_reducible refine gen_boxK3 (fun u _ _ _ _ => ?_)) | (with_reducible refine gen_boxK2 (fun u _ _ _ => ?_)) | (with_reducible refine gen_boxK (fun u _ _ => ?_))); (with_reducible refine (least11 (by omega)).mono ?_); rintro e u ⟨rfl, _⟩) | (go_at_call 15; (try first | (with_reducible refine gen_boxK3 (fun u _ _ _ _ => ?_)) | (with_reducible refine gen_boxK2 (fun u _ _ _ => ?_)) | (with_reducible refine gen_boxK (fun u _ _ => ?_))); (with_reducible refine (least11' (by omega)).mono ?_); rintro e u ⟨rfl, _⟩) | (go_at_call 16; (try first | (with_reducible refine gen_boxK3 (fun u _ _ _ _ => ?_)) | (with_reducible refine gen_boxK2 (fun u _ _ _ => ?_)) | (with_reducible refine gen_boxK (fun u _ _ => ?_))); (with_reducible refine (plan11c (by omega)).mono ?_); rintro e u ⟨CA, cc, rfl, iP, _⟩) | (go_at_call 18; (try first | (with_reducible refine gen_boxK3 (fun u _ _ _ _ => ?_)) | (with_reducible refine gen_boxK2 (fun u _ _ _ => ?_)) | (with_reducible refine gen_boxK (fun u _ _ => ?_))); (with_reducible refine (walk11).mono ?_); rintro e u ⟨rfl, _⟩) | (go_at_call 21; (try first | (with_reducible refine gen_boxK3 (fun u _ _ _ _ => ?_)) | (with_reducible refine gen_boxK2 (fun u _ _ _ => ?_)) | (with_reducible refine gen_boxK (fun u _ _ => ?_))); (with_reducible refine (low11).mono ?_); rintro e u ⟨rfl, _⟩) | (go_at_call 24; (try first | (with_reducible refine gen_boxK3 (fun u _ _ _ _ => ?_)) | (with_reducible refine gen_boxK2 (fun u _ _ _ => ?_)) | (with_reducible refine gen_boxK (fun u _ _ => ?_))); (with_reducible refine (total11).mono ?_); rintro e u ⟨rfl, _⟩))
  go_ret
  exact ⟨rfl, prev_bel _ _⟩
end
end Go.Proofs.Ytphcffcecncngaa
