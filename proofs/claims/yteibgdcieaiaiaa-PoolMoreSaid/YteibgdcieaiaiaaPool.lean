/- The walks of package pool: Best, window, Shape. -/
import Derived.Test.YteibgdcieaiaiaaFre
import Derived.Test.YteibgdcieaiaiaaPoolMath
import Derived.Test.YteibgdcieaiaiaaMisc
namespace Go.Proofs.Yteibgdcieaiaiaa
open Go.RowKit

section
variable {w : World} {A B : Option Addr} {n m c d : Nat} {zs xs : List Int}
set_option maxHeartbeats 1000000 in
theorem pl_best [a : Sl w A n zs] (hn : n ≤ 1000000) : Calls Try.prog 44 #[.slice A n c] w (RetV w (.int .i64 (bestI zs))) := by
  obtain ⟨a, rfl⟩ := a
  have a : Sl w A zs.length zs := ⟨a, rfl⟩
  go_enter Try.func44, Try.ntmps44
  go_wp2_with fail
  go_loop [3, 8] (fun b i => ∃ k : Nat, k ≤ zs.length ∧ i = .int .i64 k ∧ b = .int .i64 (bestTo zs k)) (fun _ i => zs.length - (intOf i).toNat)
  case atStart => exact ⟨0, Nat.zero_le _, rfl, rfl⟩
  case round =>
    obtain ⟨k, hk, rfl, rfl⟩ := hrel
    by_cases hlt : k < zs.length
    · obtain ⟨b, off, z, rfl, ob, hc, hz⟩ := a.get hlt
      by_cases hk0 : k = 0
      · subst hk0
        simp only [Nat.add_zero] at hc
        rw [show bestTo zs 0 = -1 from rfl]
        go_wp2_with fail
        go_round
        case rel => exact ⟨1, by omega, rfl, by simp [bestTo]⟩
        case measure => simp [intOf]; omega
      · obtain ⟨j, e, hj, h1, h2⟩ := bestTo_spec (l := zs) (k := k) (by omega)
        have hjl : j < zs.length := by omega
        obtain ⟨b2, off2, y, e2, ob2, hcy, hy⟩ := a.get hjl
        injection e2 with e2
        injection e2 with e2 e2'
        subst e2 e2'
        have hst : bestTo zs (k + 1) = if y < z then (k : Int) else (j : Int) := by
          have g1 : zs.getD j 0 = y := by rw [List.getD_eq_getElem?_getD, hy.out]; rfl
          have g2 : zs.getD k 0 = z := by rw [List.getD_eq_getElem?_getD, hz.out]; rfl
          rw [bestTo, e, Int.toNat_natCast, g1, g2]
          by_cases h : y < z
          · rw [if_pos (.inr h), if_pos h]
          · rw [if_neg (by omega), if_neg h]
        rw [e]
        clear h1 h2 e hz hy
        by_cases hyz : y < z
        · have HS : Hid (bestTo zs (k + 1) = (k : Int)) := Lib.hid (by rw [hst, if_pos hyz])
          clear hst
          go_wp2_with fail
          go_round
          case rel => exact ⟨k + 1, by omega, by go_num, by rw [HS.out]⟩
          case measure => simp [intOf]; omega
        · have HS : Hid (bestTo zs (k + 1) = (j : Int)) := Lib.hid (by rw [hst, if_neg hyz])
          clear hst
          go_wp2_with fail
          go_round
          case rel => exact ⟨k + 1, by omega, by go_num, by rw [HS.out]⟩
          case measure => simp [intOf]; omega
    · obtain rfl : k = zs.length := by omega
      go_wp2_with fail
      go_ret
      exact ⟨rfl, prev_bel _ _⟩
end

end Go.Proofs.Yteibgdcieaiaiaa
