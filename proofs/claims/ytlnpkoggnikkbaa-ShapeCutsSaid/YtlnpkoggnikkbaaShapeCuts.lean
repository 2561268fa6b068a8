/- The walk of the statement ShapeCuts. -/
import Derived.Test.YtlnpkoggnikkbaaOpen
import Derived.Test.YtlnpkoggnikkbaaLaw03Awake
import Derived.StillTailTactics
namespace Go.Proofs.Ytlnpkoggnikkbaa
open Go.RowKit

theorem box5 {w : World} {g : Nat} {T : TypeId} {v0 v1 v2 v3 v4 : Value} (h : Blk w g T #[v0, v1, v2, v3, v4]) :
    w.cell? ⟨g, 0, none⟩ = some v0 ∧ w.cell? ⟨g, 1, none⟩ = some v1 ∧ w.cell? ⟨g, 2, none⟩ = some v2 ∧ w.cell? ⟨g, 3, none⟩ = some v3 ∧ w.cell? ⟨g, 4, none⟩ = some v4 :=
  ⟨h.cell 0, h.cell 1, h.cell 2, h.cell 3, h.cell 4⟩

set_option maxHeartbeats 4000000 in
theorem shapeCuts_calls (A B : Option Addr) (c d : Nat) (zs ts : List Int) (side a b : Int) (w : World) (h : IntsIn w A c zs) :
    Calls Try.prog 6 #[.agg #[.slice A zs.length c, .slice B ts.length d, .int .i64 side, .int .i64 a, .int .i64 b]] w (LawTrue w) := by
  obtain ⟨h, hc, _, _⟩ := h
  have B0 := (Below.refl w.heap.size w).alloc (Nat.le_refl _) (.cells #[.slice A zs.length c, .slice B ts.length d, .int .i64 side, .int .i64 a, .int .i64 b] 36)
  have k0 := Blk.new w 36 #[.slice A zs.length c, .slice B ts.length d, .int .i64 side, .int .i64 a, .int .i64 b]
  have h0 := h.alloc (.cells #[.slice A zs.length c, .slice B ts.length d, .int .i64 side, .int .i64 a, .int .i64 b] 36)
  by_cases h50 : 50 < zs.length
  · go_enter Try.func6, Try.ntmps6
    go_wp2_with fail
    refine (l03_awake _).mono ?_
    rintro e w1 ⟨rfl, hb⟩
    go_wp2_with fail
    go_ret
    exact ⟨rfl, B0.trans (hb.mono B0.size)⟩
  have hs : zs.length ≤ 1000000 := by omega
  rcases hr : rightB zs with _ | _
  · have HR := Lib.hid hr
    have HS : Hid (cutE zs side a b = 20) := Lib.hid (by simp [cutE, hr])
    have HV : Hid (cutV zs side a b = []) := Lib.hid (by simp [cutV, HS.out])
    clear hr
    go_enter Try.func6, Try.ntmps6
    go_wp2_with fail
    generalize w.alloc (.cells #[.slice A zs.length c, .slice B ts.length d, .int .i64 side, .int .i64 a, .int .i64 b] 36) = w0 at *
    refine (sh_cut A c zs side a b w0 hs h0).mono ?_
    rintro e w1 ⟨A1, c1, rfl, hr1, hb1, -, -⟩
    rw [HS.out, HV.out]
    have k1 := k0.keep hb1
    have b1 := B0.trans (hb1.mono B0.size)
    obtain ⟨q0, q1, q2, q3, q4⟩ := box5 k1
    go_wp2_with fail
    refine (ref_right A c zs w1 hs (h0.below hb1)).mono ?_
    rintro e w2 ⟨rfl, rfl⟩
    rw [HR.out]
    go_wp2_with fail
    refine (l03_awake _).mono ?_
    rintro e w2 ⟨rfl, hb⟩
    go_wp2_with fail
    go_ret
    exact ⟨rfl, b1.trans (hb.mono b1.size)⟩
  have HR := Lib.hid hr
  obtain ⟨r1, r4, rin, rpr⟩ := (rightB_iff zs).1 hr
  have RIN := Lib.hid rin
  by_cases hsd : 0 ≤ side ∧ side < zs.length
  · obtain ⟨n, rfl⟩ := Int.eq_ofNat_of_zero_le hsd.1
    have hn : n < zs.length := by omega
    obtain ⟨b0, off, z, rfl, hb0, hcc, hz⟩ := h0.get hn
    obtain ⟨hz1, hz2⟩ := inSides_get rin hz.out
    have e0 : decide ((n : Int) < 0) = false := by simp
    have e1 : decide (zs.length ≤ n) = false := by simp; omega
    clear hsd
    by_cases hab : 0 ≤ a ∧ b ≤ z ∧ a < b
    · obtain ⟨ha, hbz, hlt⟩ := hab
      have d1 : decide (a < 0) = false := by simp; omega
      have d2 : decide (z < b) = false := by simp; omega
      have d3 : decide (b ≤ a) = false := by simp; omega
      have HS : Hid (cutE zs n a b = 0) := Lib.hid (by
        rw [cutE, if_pos hr, if_pos]
        simp only [Bool.and_eq_true, decide_eq_true_eq, Int.toNat_natCast]
        simp [List.getD, hz.out]; omega)
      have HV : Hid (cutV zs n a b = zs.set n (b - a)) := Lib.hid (by simp [cutV, HS.out])
      clear hr rin
      go_enter Try.func6, Try.ntmps6
      go_wp2_with fail
      generalize w.alloc (.cells #[.slice (some ⟨b0, off, none⟩) zs.length c, .slice B ts.length d, .int .i64 n, .int .i64 a, .int .i64 b] 36) = w0 at *
      refine (sh_cut _ c zs n a b w0 hs h0).mono ?_
      rintro e w1 ⟨A1, c1, rfl, hr1, hb1, -, -⟩
      rw [HS.out]
      rw [HV.out] at hr1 ⊢
      rw [show (zs.set n (b - a)).length = zs.length from by simp]
      have k1 := k0.keep hb1
      have b1 := B0.trans (hb1.mono B0.size)
      have g1 := h0.below hb1
      have hcz := g1.all hz.out
      clear hcc
      obtain ⟨q0, q1, q2, q3, q4⟩ := box5 k1
      go_wp2_with fail
      refine (ref_right _ c zs w1 hs (h0.below hb1)).mono ?_
      rintro e w2 ⟨rfl, rfl⟩
      rw [HR.out]
      go_wp2_with fail
      go_big_quiet (fail)
      go_wp2_with fail
      go_loopw [84] (fun i wr => ∃ k m : Nat, k ≤ zs.length ∧ i = .int .i64 k ∧ wr = w1.drewN m) (fun i _ => zs.length - (intOf i).toNat)
      case atStart => exact ⟨0, _, Nat.zero_le _, rfl, rfl⟩
      case round =>
        obtain ⟨k, m, hk, rfl, rfl⟩ := hrel
        by_cases hlt2 : k < zs.length
        · have e2 : decide (k < zs.length) = true := by simpa using hlt2
          by_cases hkn : k = n
          · subst hkn
            have hkk : ((k : Int) != (k : Int)) = false := by simp
            go_wp2_with fail
            go_big_quiet (fail)
            go_wp2_with fail
            go_roundw
            case rel => exact ⟨k + 1, _, by omega, by go_num, rfl⟩
            case measure => simp [intOf]; omega
          · have hkk : ((k : Int) != (n : Int)) = true := by simp; omega
            obtain ⟨y, hy⟩ : ∃ y, Hid (zs[k]? = some y) := ⟨_, Lib.hid (List.getElem?_eq_getElem hlt2)⟩
            have hcy := g1.all hy.out
            have hyl : (zs.set n (b - a))[k]? = some y := by rw [List.getElem?_set_ne (by omega)]; exact hy.out
            obtain ⟨b2, off2, rfl, hb2, hcc2⟩ := hr1 k y hyl
            have hyy : (y != y) = false := by simp
            clear hyl
            go_wp2_with fail
            go_big_quiet (fail)
            go_wp2_with fail
            go_roundw
            case rel => exact ⟨k + 1, _, by omega, by go_num, rfl⟩
            case measure => simp [intOf]; omega
        · have hyl : (zs.set n (b - a))[n]? = some (b - a) := by rw [List.getElem?_set_self (by omega)]
          obtain ⟨b2, off2, rfl, hb2, hcc2⟩ := hr1 n _ hyl
          clear hyl
          have hzz : ((zs.length : Int) == (zs.length : Int)) = true := by simp
          have hbb : ((b - a) == (b - a)) = true := by simp
          go_wp2_with fail
          refine wp_region_still_tail 24 (by kernel_rfl) (by kernel_rfl) ?_
          change wpStill _ _ (w1.drewN m).drew _ _ _
          simp only [List.take_succ_cons, List.take_zero, List.drop_succ_cons, List.drop_zero]
          repeat still_step
          refine wpStill_nil ?_
          go_wp2_with fail
          refine (l03_awake _).mono ?_
          rintro e w2 ⟨rfl, hb⟩
          go_wp2_with fail
          go_ret
          have b2 := (below_drewN b1 m).drew
          exact ⟨rfl, b2.trans (hb.mono b2.size)⟩
    · have HS : Hid (cutE zs n a b = 11) := Lib.hid (by
        rw [cutE, if_pos hr, if_neg]
        simp only [Bool.and_eq_true, decide_eq_true_eq, Int.toNat_natCast]
        simp [List.getD, hz.out]; omega)
      have HV : Hid (cutV zs n a b = []) := Lib.hid (by simp [cutV, HS.out])
      clear hr rin
      go_enter Try.func6, Try.ntmps6
      go_wp2_with fail
      generalize w.alloc (.cells #[.slice (some ⟨b0, off, none⟩) zs.length c, .slice B ts.length d, .int .i64 n, .int .i64 a, .int .i64 b] 36) = w0 at *
      refine (sh_cut _ c zs n a b w0 hs h0).mono ?_
      rintro e w1 ⟨A1, c1, rfl, hr1, hb1, -, -⟩
      rw [HS.out, HV.out]
      have k1 := k0.keep hb1
      have b1 := B0.trans (hb1.mono B0.size)
      have g1 := h0.below hb1
      have hcz := g1.all hz.out
      clear hcc
      obtain ⟨q0, q1, q2, q3, q4⟩ := box5 k1
      have fin : Hid (∀ m, Below w.heap.size w (w1.drewN m)) := Lib.hid (fun m => below_drewN b1 m)
      go_wp2_with fail
      refine (ref_right _ c zs w1 hs (h0.below hb1)).mono ?_
      rintro e w2 ⟨rfl, rfl⟩
      rw [HR.out]
      by_cases ha : 0 ≤ a
      · by_cases hb : b ≤ z
        · have hab2 : ¬ a < b := by omega
          have d1 : decide (a < 0) = false := by simp; omega
          have d2 : decide (z < b) = false := by simp; omega
          have d3 : decide (b ≤ a) = true := by simp; omega
          clear hab
          go_wp2_with fail
          go_big_quiet (fail)
          go_wp2_with fail
          refine (l03_awake _).mono ?_
          rintro e w2 ⟨rfl, hb⟩
          go_wp2_with fail
          go_ret
          exact ⟨rfl, btr (fin.out _) hb⟩
        · have d1 : decide (a < 0) = false := by simp; omega
          have d2 : decide (z < b) = true := by simp; omega
          clear hab
          go_wp2_with fail
          go_big_quiet (fail)
          go_wp2_with fail
          refine (l03_awake _).mono ?_
          rintro e w2 ⟨rfl, hb⟩
          go_wp2_with fail
          go_ret
          exact ⟨rfl, btr (fin.out _) hb⟩
      · have d1 : decide (a < 0) = true := by simp; omega
        clear hab
        go_wp2_with fail
        go_big_quiet (fail)
        go_wp2_with fail
        refine (l03_awake _).mono ?_
        rintro e w2 ⟨rfl, hb⟩
        go_wp2_with fail
        go_ret
        exact ⟨rfl, btr (fin.out _) hb⟩
  · have HS : Hid (cutE zs side a b = 11) := Lib.hid (by
      rw [cutE, if_pos hr, if_neg]
      simp only [Bool.and_eq_true, decide_eq_true_eq]; omega)
    have HV : Hid (cutV zs side a b = []) := Lib.hid (by simp [cutV, HS.out])
    clear hr rin
    go_enter Try.func6, Try.ntmps6
    go_wp2_with fail
    generalize w.alloc (.cells #[.slice A zs.length c, .slice B ts.length d, .int .i64 side, .int .i64 a, .int .i64 b] 36) = w0 at *
    refine (sh_cut _ c zs side a b w0 hs h0).mono ?_
    rintro e w1 ⟨A1, c1, rfl, hr1, hb1, -, -⟩
    rw [HS.out, HV.out]
    have k1 := k0.keep hb1
    have b1 := B0.trans (hb1.mono B0.size)
    obtain ⟨q0, q1, q2, q3, q4⟩ := box5 k1
    have fin : Hid (∀ m, Below w.heap.size w (w1.drewN m)) := Lib.hid (fun m => below_drewN b1 m)
    go_wp2_with fail
    refine (ref_right _ c zs w1 hs (h0.below hb1)).mono ?_
    rintro e w2 ⟨rfl, rfl⟩
    rw [HR.out]
    by_cases hs0 : 0 ≤ side
    · have d1 : decide (side < 0) = false := by simp; omega
      have d2 : decide ((zs.length : Int) ≤ side) = true := by simp; omega
      clear hsd
      go_wp2_with fail
      go_big_quiet (fail)
      go_wp2_with fail
      refine (l03_awake _).mono ?_
      rintro e w2 ⟨rfl, hb⟩
      go_wp2_with fail
      go_ret
      exact ⟨rfl, btr (fin.out _) hb⟩
    · have d1 : decide (side < 0) = true := by simp; omega
      clear hsd
      go_wp2_with fail
      go_big_quiet (fail)
      go_wp2_with fail
      refine (l03_awake _).mono ?_
      rintro e w2 ⟨rfl, hb⟩
      go_wp2_with fail
      go_ret
      exact ⟨rfl, btr (fin.out _) hb⟩
end Go.Proofs.Ytlnpkoggnikkbaa
