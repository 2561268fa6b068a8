/- Instructions that may be: code.Instr.Right, code.Code.Check. -/
import Derived.Test.YtphcffcecncngaaInstr
namespace Go.Proofs.Ytphcffcecncngaa
open Go.RowKit

/-- May an instruction be, in any net? -/
def insR (kind id : Int) : Bool := if kind = 4 ∨ kind = 5 then id == 0 else if kind = 1 ∨ kind = 2 ∨ kind = 3 ∨ kind = 6 then decide (1 ≤ id) && decide (id ≤ 512) else false
section
variable {w w' : World} {A : Option Addr} {n p : Nat} {ps : List (Int × Int)}
theorem insR_node {kind id : Int} (h : kind = 1 ∨ kind = 2 ∨ kind = 3 ∨ kind = 6) : insR kind id = (decide (1 ≤ id) && decide (id ≤ 512)) := by
  unfold insR
  rw [if_neg (by omega), if_pos h]
theorem insR_zero {kind id : Int} (h : kind = 4 ∨ kind = 5) : insR kind id = (id == 0) := by
  unfold insR
  rw [if_pos h]
set_option maxRecDepth 100000 in
set_option maxHeartbeats 4000000 in
theorem cd_right_node {kind id : Int} (h : Hid (kind = 1 ∨ kind = 2 ∨ kind = 3 ∨ kind = 6)) : Calls Try.prog 94 #[.agg #[.int .i64 kind, .int .i64 id]] w (RetV w (.bool (insR kind id))) := by
  have CB := @cell_bx
  have CP := @cell_prev
  have HT := Lib.hid (insR_node (id := id) h.out)
  by_cases h1 : 1 ≤ id
  · by_cases h2 : id ≤ 512
    · have HN : Hid (insR kind id = true) := Lib.hid (by rw [HT.out, decide_eq_true h1, decide_eq_true h2]; rfl)
      rcases h.out with rfl | rfl | rfl | rfl
      all_goals
        go_enter Try.func94, Try.ntmps94
        go_wp2_with fail
        go_ret
        exact ⟨by rw [HN.out]; rfl, prev_bel _ _⟩
    · have HN : Hid (insR kind id = false) := Lib.hid (by rw [HT.out, decide_eq_true h1, decide_eq_false h2]; rfl)
      rcases h.out with rfl | rfl | rfl | rfl
      all_goals
        go_enter Try.func94, Try.ntmps94
        go_wp2_with fail
        go_ret
        exact ⟨by rw [HN.out]; rfl, prev_bel _ _⟩
  · have HN : Hid (insR kind id = false) := Lib.hid (by rw [HT.out, decide_eq_false h1]; rfl)
    rcases h.out with rfl | rfl | rfl | rfl
    all_goals
      go_enter Try.func94, Try.ntmps94
      go_wp2_with fail
      go_ret
      exact ⟨by rw [HN.out]; rfl, prev_bel _ _⟩
set_option maxRecDepth 100000 in
set_option maxHeartbeats 4000000 in
theorem cd_right_zero {kind id : Int} (h : Hid (kind = 4 ∨ kind = 5)) : Calls Try.prog 94 #[.agg #[.int .i64 kind, .int .i64 id]] w (RetV w (.bool (insR kind id))) := by
  have CB := @cell_bx
  have CP := @cell_prev
  have HT := Lib.hid (insR_zero (id := id) h.out)
  rcases h.out with rfl | rfl
  all_goals
    go_enter Try.func94, Try.ntmps94
    go_wp2_with fail
    go_ret
    exact ⟨by rw [HT.out]; rfl, prev_bel _ _⟩
set_option maxRecDepth 100000 in
set_option maxHeartbeats 4000000 in
theorem cd_right_no {kind id : Int} (h : Hid (insR kind id = false)) (k1 : (kind == 1) = false) (k2 : (kind == 2) = false) (k3 : (kind == 3) = false) (k4 : (kind == 4) = false) (k5 : (kind == 5) = false) (k6 : (kind == 6) = false) :
    Calls Try.prog 94 #[.agg #[.int .i64 kind, .int .i64 id]] w (RetV w (.bool (insR kind id))) := by
  have CB := @cell_bx
  have CP := @cell_prev
  go_enter Try.func94, Try.ntmps94
  go_wp2_with fail
  go_ret
  exact ⟨by rw [h.out]; rfl, prev_bel _ _⟩
theorem cd_right {kind id : Int} : Calls Try.prog 94 #[.agg #[.int .i64 kind, .int .i64 id]] w (RetV w (.bool (insR kind id))) := by
  by_cases h : kind = 1 ∨ kind = 2 ∨ kind = 3 ∨ kind = 6
  · exact cd_right_node (Lib.hid h)
  · by_cases h' : kind = 4 ∨ kind = 5
    · exact cd_right_zero (Lib.hid h')
    · have : ∀ j : Int, (j = 1 ∨ j = 2 ∨ j = 3 ∨ j = 4 ∨ j = 5 ∨ j = 6) → (kind == j) = false := fun j hj => by
        rw [beq_eq_false_iff_ne]; omega
      exact cd_right_no (Lib.hid (by unfold insR; rw [if_neg h', if_neg h])) (this 1 (by simp)) (this 2 (by simp)) (this 3 (by simp)) (this 4 (by simp)) (this 5 (by simp)) (this 6 (by simp))
/-- All instructions may be. -/
def insAll (ps : List (Int × Int)) : Bool := ps.all fun x => insR x.1 x.2
theorem all_badP {f : Int × Int → Bool} {ps : List (Int × Int)} {k : Nat} {x : Int × Int} (h : ps[k]? = some x) (hf : f x = false) : ps.all f = false := by
  rw [List.all_eq_false]
  exact ⟨x, List.mem_of_getElem? h, by simp [hf]⟩
theorem all_takeP {f : Int × Int → Bool} {ps : List (Int × Int)} {k : Nat} {x : Int × Int} (h : (ps.take k).all f = true) (hx : ps[k]? = some x) (hf : f x = true) : (ps.take (k + 1)).all f = true := by
  rw [List.take_add_one, List.all_append, h, hx]
  simp [hf]
theorem all_endP {f : Int × Int → Bool} {ps : List (Int × Int)} {k : Nat} (h : (ps.take k).all f = true) (hk : ps.length ≤ k) : ps.all f = true := by rwa [List.take_of_length_le hk] at h
/-- What Check answers. -/
def checkC (ps : List (Int × Int)) : Int := if insAll ps then 0 else 10
set_option maxRecDepth 100000 in
set_option maxHeartbeats 4000000 in
theorem cd_check [i : Is w A n ps] (hn : n ≤ 65536) : Calls Try.prog 55 #[.slice A n p] w (RetV w (.int .i64 (checkC ps))) := by
  have CB := @cell_bx
  have CP := @cell_prev
  have HL : Hid (n = ps.length) := Lib.hid i.len
  go_enter Try.func55, Try.ntmps55
  go_wp2_with fail
  go_loopw [10] (fun i wr => ∃ k : Nat, k ≤ n ∧ i = .int .i64 k ∧ Hid ((ps.take k).all (fun x => insR x.1 x.2) = true) ∧ Prev wr w) (fun i _ => n - (intOf i).toNat)
  case atStart => exact ⟨0, Nat.zero_le _, rfl, Lib.hid rfl, prev_bel _ _⟩
  case round =>
    obtain ⟨k, hk, rfl, HV, hp⟩ := hrel
    by_cases hlt : k < n
    · obtain ⟨b1, o1, x, y, rfl, ob1, v1, v2, e1⟩ := i.get hlt
      rcases hx : insR x y with _ | _
      · have HN : Hid (checkC ps = 10) := Lib.hid (by rw [checkC, if_neg]; rw [insAll, all_badP e1.out hx]; simp)
        clear e1
        go_wp2_with (first | (go_at_call 94; (try first | (with_reducible refine gen_boxK3 (fun u _ _ _ _ => ?_)) | (with_reducible refine gen_boxK2 (fun u _ _ _ => ?_)) | (with_reducible refine gen_boxK (fun u _ _ => ?_))); (with_reducible refine (cd_right).mono ?_); rintro e u ⟨rfl, _⟩))
        go_ret
        exact ⟨by rw [HN.out]; rfl, prev_bel _ _⟩
      · have HV2 := Lib.hid (all_takeP HV.out e1.out hx)
        clear e1
        go_wp2_with (first | (go_at_call 94; (try first | (with_reducible refine gen_boxK3 (fun u _ _ _ _ => ?_)) | (with_reducible refine gen_boxK2 (fun u _ _ _ => ?_)) | (with_reducible refine gen_boxK (fun u _ _ => ?_))); (with_reducible refine (cd_right).mono ?_); rintro e u ⟨rfl, _⟩))
        go_roundw
        case rel => exact ⟨k + 1, by omega, by go_num, HV2, prev_bel _ _⟩
        case measure => simp [intOf]; omega
    · have HN : Hid (checkC ps = 0) := Lib.hid (by rw [checkC, if_pos]; exact all_endP HV.out (by rw [← HL.out]; omega))
      go_wp2_with fail
      go_ret
      exact ⟨by rw [HN.out]; rfl, prev_bel _ _⟩
end

end Go.Proofs.Ytphcffcecncngaa
