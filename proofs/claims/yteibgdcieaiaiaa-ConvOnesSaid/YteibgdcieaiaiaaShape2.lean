/- The walks of package shape: places, indices, cuts and windows. -/
import Derived.Test.YteibgdcieaiaiaaShape
namespace Go.Proofs.Yteibgdcieaiaiaa
open Go.RowKit

/-- What 'Place' tells. -/
def placeE (zs ats : List Int) : Int := if rightB zs then (if decide (ats.length = zs.length) && inPlace (zs.zip ats) then 0 else 11) else 20
def placeV (zs ats : List Int) : Int := if rightB zs && decide (ats.length = zs.length) && inPlace (zs.zip ats) then placeOf (zs.zip ats) else 0

theorem take_zip (xs ys : List Int) (k : Nat) : (xs.zip ys).take k = (xs.take k).zip (ys.take k) := by
  induction xs generalizing ys k with
  | nil => simp
  | cons x xs ih => cases ys <;> cases k <;> simp [ih]

theorem placeOf_take_bd {zs ats : List Int} {k : Nat} (h : inPlace ((zs.zip ats).take k) = true) (hk : k ≤ zs.length) (hl : ats.length = zs.length) :
    0 ≤ placeOf ((zs.zip ats).take k) ∧ placeOf ((zs.zip ats).take k) < prodL (zs.take k) := by
  have := placeOf_bd (zs.take k) (ats.take k) (by rw [← take_zip]; exact h) k (by simp; omega) (by simp [hl])
  rw [← take_zip] at this
  simpa [List.take_take] using this

/-- What 'Window' tells. -/
def winOk (a b c : Int) : Bool := decide (1 ≤ a) && decide (a ≤ 1024) && decide (1 ≤ b) && decide (b ≤ 1024) && decide (1 ≤ c) && decide (c ≤ 1024) && decide (b ≤ a)
def winV (a b c : Int) : Int := if winOk a b c then 1 + (a - b) / c else 0
def winE (a b c : Int) : Int := if winOk a b c then 0 else 11

set_option maxHeartbeats 1000000 in
theorem sh_window (a b c : Int) (w : World) :
    Calls Try.prog 47 #[.int .i64 a, .int .i64 b, .int .i64 c] w fun e w' => e = .returned (.tuple #[.int .i64 (winV a b c), .int .i64 (winE a b c)]) ∧ w = w' := by
  have i0 : ∀ w, (Instr.index 83 (.agg #[.int .i64 a, .int .i64 b, .int .i64 c]) (.int .i64 0)).run Try.prog w = .ok (.int .i64 a) w := fun _ => by kernel_rfl
  have i1 : ∀ w, (Instr.index 83 (.agg #[.int .i64 a, .int .i64 b, .int .i64 c]) (.int .i64 1)).run Try.prog w = .ok (.int .i64 b) w := fun _ => by kernel_rfl
  have i2 : ∀ w, (Instr.index 83 (.agg #[.int .i64 a, .int .i64 b, .int .i64 c]) (.int .i64 2)).run Try.prog w = .ok (.int .i64 c) w := fun _ => by kernel_rfl
  by_cases h : winOk a b c = true
  · have HV : Hid (winV a b c = 1 + (a - b) / c) := Lib.hid (by simp [winV, h])
    have HE : Hid (winE a b c = 0) := Lib.hid (by simp [winE, h])
    simp only [winOk, Bool.and_eq_true, decide_eq_true_eq, and_assoc] at h
    obtain ⟨h1, h2, h3, h4, h5, h6, h7⟩ := h
    have hd1 : 0 ≤ (a - b) / c := Int.ediv_nonneg (by omega) (by omega)
    have hd2 : (a - b) / c ≤ 1024 := Int.le_trans (Int.ediv_le_self _ (by omega)) (by omega)
    go_enter Try.func47, Try.ntmps47
    go_wp2
    refine wp_loop_rounds 4 ?_
    iterate 4 (rw [rounds_succ]; go_wp2)
    go_ret2
    exact ⟨by rw [HV.out, HE.out]; rfl, rfl⟩
  · have HV : Hid (winV a b c = 0) := Lib.hid (by simp [winV, h])
    have HE : Hid (winE a b c = 11) := Lib.hid (by simp [winE, h])
    simp only [winOk, Bool.and_eq_true, decide_eq_true_eq, and_assoc] at h
    by_cases ha : 1 ≤ a ∧ a ≤ 1024
    · by_cases hb : 1 ≤ b ∧ b ≤ 1024
      · by_cases hc : 1 ≤ c ∧ c ≤ 1024
        · have hd : ¬ b ≤ a := by omega
          clear h
          go_enter Try.func47, Try.ntmps47
          go_wp2
          refine wp_loop_rounds 4 ?_
          iterate 4 (rw [rounds_succ]; go_wp2)
          go_ret2
          exact ⟨by rw [HV.out, HE.out]; rfl, rfl⟩
        · clear h
          go_enter Try.func47, Try.ntmps47
          go_wp2
          refine wp_loop_rounds 3 ?_
          rw [rounds_succ]; go_wp2
          rw [rounds_succ]; go_wp2
          rw [rounds_succ]; go_wp2
          all_goals first | omega | (go_ret2; exact ⟨by rw [HV.out, HE.out]; rfl, rfl⟩)
      · clear h
        go_enter Try.func47, Try.ntmps47
        go_wp2
        refine wp_loop_rounds 2 ?_
        rw [rounds_succ]; go_wp2
        rw [rounds_succ]; go_wp2
        all_goals first | omega | (go_ret2; exact ⟨by rw [HV.out, HE.out]; rfl, rfl⟩)
    · clear h
      go_enter Try.func47, Try.ntmps47
      go_wp2
      refine wp_loop_rounds 1 ?_
      rw [rounds_succ]; go_wp2
      all_goals first | omega | (go_ret2; exact ⟨by rw [HV.out, HE.out]; rfl, rfl⟩)
end Go.Proofs.Yteibgdcieaiaiaa
