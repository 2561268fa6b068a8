/- The walks of package tensor: same, Equal, Get, With. -/
import Derived.Test.YtphcffcecncngaaTensor2
import Derived.Recover
import Derived.Defers
namespace Go.Proofs.Ytphcffcecncngaa
open Go.RowKit

theorem t_catch (p : Addr) (w : World) :
    CallsD Try.prog 109 #[.pointer (some p)] .returning w fun e u' w' => e = .returned (.tuple #[]) ∧ u' = .returning ∧ w' = w := by
  refine callsD_of_wpS Try.func109 rfl fun c₀ cs hu => ?_
  apply wpS_seq
  apply wpS_region
  simp [wpOpsS, go_sem, recoverD, hu, Try.ntmps109, Exit.thenS]
  refine wpS_cond (t := false) (by simp [Act.eval, Array.replicate]) ?_
  simp only [Bool.false_eq_true, if_false]
  refine wpS_of_wp (wp_skip ?_)
  cases c₀
  simp_all [bodyPostS, results, Try.results109]

set_option maxHeartbeats 1000000 in
theorem t_same (A B : Option Addr) (c d : Nat) (xs ys : List Int) (w : World) (hx : xs.length ≤ 1000000) (hl : Hid (xs.length = ys.length)) (h : Rd w A xs) (h' : Rd w B ys) :
    Calls Try.prog 79 #[.slice A xs.length c, .slice B ys.length d] w (RetB w (.bool (decide (xs = ys)))) := by
  have hmf : ∀ (fn : Fn) (first cap : Array Value) (w : World), (Instr.makeFunc fn first cap).run Try.prog w = .ok (.func fn first cap) w := fun _ _ _ _ => rfl
  have B0 := (Below.refl w.heap.size w).alloc (Nat.le_refl _) (.cells #[.bool false] 4)
  have g := h.below B0
  have g' := h'.below B0
  go_enter_defers Try.func79, Try.ntmps79
  go_wp2_with fail
  go_loop [10] (fun i => ∃ k : Nat, k ≤ xs.length ∧ i = .int .i64 k ∧ xs.take k = ys.take k) (fun i => xs.length - (intOf i).toNat)
  case atStart => exact ⟨0, Nat.zero_le _, rfl, rfl⟩
  case round =>
    obtain ⟨k, hk, rfl, htk⟩ := hrel
    have HT := Lib.hid htk
    clear htk
    by_cases hlt : k < xs.length
    · obtain ⟨b, off, x, rfl, hb, hcx, hx1⟩ := g.get hlt
      have hlt' : k < ys.length := by rw [← hl.out]; exact hlt
      obtain ⟨b', off', y, rfl, hb', hcy, hy1⟩ := g'.get hlt'
      by_cases hxy : x = y
      · have e1 : (x != y) = false := by simp [hxy]
        have HXY := Lib.hid hxy
        clear hxy
        go_wp2_with fail
        go_round
        case rel => exact ⟨k + 1, by omega, by go_num, by rw [take_at hx1.out, take_at hy1.out, HT.out, HXY.out]⟩
        case measure => simp [intOf]; omega
      · have e1 : (x != y) = true := by simp [hxy]
        have HD : Hid (decide (xs = ys) = false) := Lib.hid (by simpa using ne_at hx1.out hy1.out hxy)
        clear hxy
        go_wp2_with fail
        refine leaves_cons (f := 109) (args := #[.pointer (some ⟨w.heap.size, 0, none⟩)]) (by simp) (by simp [go_sem]) ?_
        refine (t_catch ⟨w.heap.size, 0, none⟩ _).mono ?_
        rintro e u' w'' ⟨rfl, rfl, rfl⟩
        rw [HD.out]
        simp [Leaves, settle, results, Try.results79, go_sem]
        exact ⟨rfl, (Below.refl _ _).alloc (Nat.le_refl _) _⟩
    · have HD : Hid (decide (xs = ys) = true) := Lib.hid (by simpa using eq_of_takes hl.out HT.out hlt)
      go_wp2_with fail
      refine leaves_cons (f := 109) (args := #[.pointer (some ⟨w.heap.size, 0, none⟩)]) (by simp) (by simp [go_sem]) ?_
      refine (t_catch ⟨w.heap.size, 0, none⟩ _).mono ?_
      rintro e u' w'' ⟨rfl, rfl, rfl⟩
      rw [HD.out]
      simp [Leaves, settle, results, Try.results79, go_sem]
      exact ⟨rfl, (Below.refl _ _).alloc (Nat.le_refl _) _⟩

set_option maxRecDepth 100000 in
set_option maxHeartbeats 1000000 in
theorem t_equal (A B C D : Option Addr) (c d c' d' : Nat) (zs xs ts ys : List Int) (w : World) (hz : zs.length ≤ 1000000) (hx : xs.length ≤ 1000000) (ht : ts.length ≤ 1000000)
    (h1 : Rd w A zs) (h2 : Rd w B xs) (h3 : Rd w C ts) (h4 : Rd w D ys) :
    Calls Try.prog 46 #[.agg #[.slice A zs.length c, .slice B xs.length d], .agg #[.slice C ts.length c', .slice D ys.length d']] w (RetB w (.bool (decide (zs = ts) && decide (xs = ys)))) := by
  have B0 := ((Below.refl w.heap.size w).alloc (Nat.le_refl _) (.cells #[.slice A zs.length c, .slice B xs.length d] 65)).alloc (by simp) (.cells #[.slice C ts.length c', .slice D ys.length d'] 65)
  have k0 := (Blk.new w 65 #[.slice A zs.length c, .slice B xs.length d]).alloc (.cells #[.slice C ts.length c', .slice D ys.length d'] 65)
  have k0' := Blk.new' (w.alloc (.cells #[.slice A zs.length c, .slice B xs.length d] 65)) 65 #[.slice C ts.length c', .slice D ys.length d'] (n := w.heap.size + 1) (by simp)
  by_cases hzt : zs = ts
  · have HZT : Hid (decide (zs = ts) = true) := Lib.hid (by simpa using hzt)
    clear hzt
    by_cases hl : xs.length = ys.length
    · have HL := Lib.hid hl
      have e1 : ((xs.length : Int) == (ys.length : Int)) = true := by simp; omega
      have HV : Hid ((decide (zs = ts) && decide (xs = ys)) = decide (xs = ys)) := Lib.hid (by rw [HZT.out]; simp)
      clear hl
      go_enter Try.func46, Try.ntmps46
      go_wp2_with fail
      refine (sh_equal A C c c' zs ts _ hz ht (h1.below B0) (h3.below B0)).mono ?_
      rintro e w1 ⟨rfl, n, rfl⟩
      rw [HZT.out]
      obtain ⟨p0, p1⟩ := box2 (k0.drewN n)
      obtain ⟨q0, q1⟩ := box2 (k0'.drewN n)
      go_wp2_with fail
      refine (t_same B D d d' xs ys _ hx HL ((h2.below B0).drewN n) ((h4.below B0).drewN n)).mono ?_
      rintro e w2 ⟨rfl, hb⟩
      go_wp2_with fail
      go_ret
      exact ⟨ret_bool HV.out.symm, btr B0 (undrewN hb)⟩
    · have e1 : ((xs.length : Int) == (ys.length : Int)) = false := by simp; omega
      have HV : Hid ((decide (zs = ts) && decide (xs = ys)) = false) := Lib.hid (by simp; intro _ e; exact hl (by rw [e]))
      clear hl
      go_enter Try.func46, Try.ntmps46
      go_wp2_with fail
      refine (sh_equal A C c c' zs ts _ hz ht (h1.below B0) (h3.below B0)).mono ?_
      rintro e w1 ⟨rfl, n, rfl⟩
      rw [HZT.out]
      obtain ⟨p0, p1⟩ := box2 (k0.drewN n)
      obtain ⟨q0, q1⟩ := box2 (k0'.drewN n)
      go_wp2_with fail
      go_ret
      exact ⟨ret_bool HV.out.symm, below_drewN B0 n⟩
  · have HZT : Hid (decide (zs = ts) = false) := Lib.hid (by simpa using hzt)
    have HV : Hid ((decide (zs = ts) && decide (xs = ys)) = false) := Lib.hid (by rw [HZT.out]; rfl)
    clear hzt
    go_enter Try.func46, Try.ntmps46
    go_wp2_with fail
    refine (sh_equal A C c c' zs ts _ hz ht (h1.below B0) (h3.below B0)).mono ?_
    rintro e w1 ⟨rfl, n, rfl⟩
    rw [HZT.out]
    go_wp2_with fail
    go_ret
    exact ⟨ret_bool HV.out.symm, below_drewN B0 n⟩

def getE (zs xs ats : List Int) : Int := if tRightB zs xs then placeE zs ats else 20
def getV (zs xs ats : List Int) : Int := if getE zs xs ats = 0 then xs.getD (placeV zs ats).toNat 0 else 0
theorem placeV_in {zs xs ats : List Int} (hr : tRightB zs xs = true) (hp : placeE zs ats = 0) : ∃ n : Nat, placeV zs ats = (n : Int) ∧ n < xs.length := by
  obtain ⟨hrz, hl⟩ := (tRightB_iff _ _).1 hr
  obtain ⟨_, h4, hin, _⟩ := (rightB_iff zs).1 hrz
  have hg : (decide (ats.length = zs.length) && inPlace (zs.zip ats)) = true := by
    unfold placeE at hp
    rw [if_pos hrz] at hp
    split at hp
    · assumption
    · cases hp
  have hv : placeV zs ats = placeOf (zs.zip ats) := by
    unfold placeV
    rw [if_pos (by rw [hrz, Bool.true_and]; exact hg)]
  simp only [Bool.and_eq_true, decide_eq_true_eq] at hg
  have hb := placeOf_bd zs ats hg.2 zs.length (Nat.le_refl _) hg.1.symm
  rw [List.take_of_length_le (by simp; omega), List.take_of_length_le (Nat.le_refl _)] at hb
  exact ⟨(placeOf (zs.zip ats)).toNat, by rw [hv]; omega, by omega⟩

end Go.Proofs.Ytphcffcecncngaa
