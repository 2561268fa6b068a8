/- The walks of Shape.Join and of tensor.Join where they are joined. -/
import Derived.Test.YtingmabmglpmaaaTCut
import Derived.Test.YtingmabmglpmaaaJoinMath
namespace Go.Proofs.Ytingmabmglpmaaa
open Go.RowKit

theorem restSame_at {zs ts : List Int} {n j : Nat} {z t : Int} (h : restSame zs ts n = true) (hj : j ≠ n) (hz : zs[j]? = some z) (ht : ts[j]? = some t) : z = t := by
  by_cases e : z = t
  · exact e
  · rw [restSame_not hj hz ht e] at h; cases h

set_option maxHeartbeats 2000000 in
theorem sh_join_yes (A B : Option Addr) (c d : Nat) (zs ts : List Int) (n Z1 Z2 : Nat) (w : World) (hr : Hid (rightB zs = true)) (hr' : Hid (rightB ts = true)) (hl : Hid (zs.length = ts.length)) (hn : n < zs.length) (hz : Hid (zs[n]? = some (Z1 : Int))) (ht : Hid (ts[n]? = some (Z2 : Int)))
    (hrs : Hid (restSame zs ts n = true)) (hj : Hid (joinL zs ts n = zs.set n ((Z1 : Int) + Z2))) (hrj : Hid (rightB (zs.set n ((Z1 : Int) + Z2)) = true)) (h : Rd w A zs) (h' : Rd w B ts) :
    Calls Try.prog 45 #[.slice A zs.length c, .slice B ts.length d, .int .i64 n] w (RetOE w (zs.set n ((Z1 : Int) + Z2))) := by
  obtain ⟨r1, r4, rin, rpr⟩ := (rightB_iff zs).1 hr.out
  obtain ⟨r1', r4', rin', rpr'⟩ := (rightB_iff ts).1 hr'.out
  have hne : ((zs.length : Int) != (ts.length : Int)) = false := by rw [hl.out]; simp
  have RIN := Lib.hid rin
  have RIN' := Lib.hid rin'
  clear rin rin'
  go_enter Try.func45, Try.ntmps45
  go_wp2_with fail
  refine (sh_right A c zs w (by omega) h).mono ?_
  rintro e w1 ⟨rfl, hb⟩
  rw [hr.out]
  go_wp2_with fail
  refine (sh_right B d ts w1 (by omega) (h'.below hb)).mono ?_
  rintro e w2 ⟨rfl, hb2⟩
  rw [hr'.out]
  have hb12 := btr hb hb2
  go_wp2_with fail
  refine (sh_copy A c zs w2 (by omega) (h.below hb12)).mono ?_
  rintro e w3 ⟨g, rfl, hg, ho, hb3⟩
  have hb13 := btr hb12 hb3
  have hgw : w.heap.size ≤ g := Nat.le_trans hb12.size hg
  have HO := Lib.hid ho
  clear ho hb hb2 hb3
  go_wp2_with fail
  go_loopw [37] (fun i wr => ∃ k : Nat, k ≤ zs.length ∧ i = .int .i64 k ∧ Own wr g 3 (joinTo zs ts n k) ∧ Below w.heap.size w wr) (fun i _ => zs.length - (intOf i).toNat)
  case atStart => exact ⟨0, Nat.zero_le _, rfl, HO.out, hb13⟩
  case round =>
    obtain ⟨k, hk, rfl, hown, hbel⟩ := hrel
    by_cases hlt : k < zs.length
    · obtain ⟨b, off, z, rfl, hbb, hc, hzk⟩ := (h.below hbel).get hlt
      obtain ⟨b', off', t, rfl, hbb', hc', htk⟩ := (h'.below hbel).get (k := k) (by rw [← hl.out]; exact hlt)
      have hlt' : k < ts.length := by rw [← hl.out]; exact hlt
      obtain ⟨hz1, hz2⟩ := inSides_get RIN.out hzk.out
      obtain ⟨ht1, ht2⟩ := inSides_get RIN'.out htk.out
      by_cases hkn : k = n
      · subst hkn
        have hcg := hown.cell (joinTo_at (ts := ts) (Nat.le_refl k) hzk.out)
        have hfg := hown.frozen k
        have HO2 := Lib.hid (hown.set_ k (z + t))
        rw [joinTo_here hzk.out htk.out] at HO2
        clear hown
        have hkk : ((k : Int) == (k : Int)) = true := by simp
        go_wp2_with fail
        go_region
        all_goals go_wp2_with fail
        all_goals
          go_roundw
          case rel => exact ⟨k + 1, by omega, by go_num, by first | exact HO2.out | exact HO2.out.drew, by first | exact (hbel.drew).setCell hgw _ | exact (hbel.setCell hgw _).drew⟩
          case measure => simp [intOf]; omega
      · have hkk : ((k : Int) == (n : Int)) = false := by simp; omega
        have HO2 := Lib.hid hown
        rw [← joinTo_past hkn] at HO2
        have hzt1 : (z != t) = false := by simp [restSame_at hrs.out hkn hzk.out htk.out]
        clear hown hkn
        go_wp2_with fail
        go_quiet (fail)
        go_wp2_with fail
        go_roundw
        case rel => exact ⟨k + 1, by omega, by go_num, HO2.out.drewN _, below_drewN hbel _⟩
        case measure => simp [intOf]; omega
    · have e : joinTo zs ts n k = zs.set n ((Z1 : Int) + Z2) := by rw [joinTo, if_pos (by omega), hj.out]
      rw [e] at hown
      have HO2 := Lib.hid hown
      have CR := Lib.hid (sh_right (some ⟨g, 0, none⟩) zs.length (zs.set n ((Z1 : Int) + Z2)) wr (by simp; omega) hown.rd)
      rw [List.length_set, hrj.out] at CR
      clear hown e
      go_wp2_with fail
      refine CR.out.mono ?_
      rintro e w4 ⟨rfl, hb4⟩
      go_wp2_with fail
      go_ret2
      exact ⟨g, by rw [List.length_set]; rfl, hgw, HO2.out.keep hb4, btr hbel hb4⟩

def tjoinE (zs xs ts ys : List Int) (side : Int) : Int := if tRightB zs xs && tRightB ts ys then joinE zs ts side else 20

set_option maxRecDepth 100000 in
set_option maxHeartbeats 2000000 in
theorem t_join_no (A B C D : Option Addr) (c d c' d' : Nat) (zs xs ts ys : List Int) (side : Int) (w : World) (hz : zs.length ≤ 1000000) (ht : ts.length ≤ 1000000) (h1 : Rd w A zs) (h3 : Rd w C ts) (hr : Hid (tjoinE zs xs ts ys side ≠ 0)) :
    Calls Try.prog 23 #[.agg #[.slice A zs.length c, .slice B xs.length d], .agg #[.slice C ts.length c', .slice D ys.length d'], .int .i64 side] w (RetTE w [] [] (tjoinE zs xs ts ys side)) := by
  have b1 := (((Below.refl w.heap.size w).alloc (Nat.le_refl _) (.cells #[.slice A zs.length c, .slice B xs.length d] 26)).alloc (by simp) (.cells #[.slice C ts.length c', .slice D ys.length d'] 26)).alloc (by simp; omega) (.cells #[.slice none 0 0, .slice none 0 0] 26)
  have kR := Blk.new' ((w.alloc (.cells #[.slice A zs.length c, .slice B xs.length d] 26)).alloc (.cells #[.slice C ts.length c', .slice D ys.length d'] 26)) 26 #[.slice none 0 0, .slice none 0 0] (n := w.heap.size + 1 + 1) (by simp)
  have k1 := ((Blk.new w 26 #[.slice A zs.length c, .slice B xs.length d]).alloc (.cells #[.slice C ts.length c', .slice D ys.length d'] 26)).alloc (.cells #[.slice none 0 0, .slice none 0 0] 26)
  have k2 := (Blk.new' (w.alloc (.cells #[.slice A zs.length c, .slice B xs.length d] 26)) 26 #[.slice C ts.length c', .slice D ys.length d'] (n := w.heap.size + 1) (by simp)).alloc (.cells #[.slice none 0 0, .slice none 0 0] 26)
  rcases hq : tRightB zs xs with _ | _
  · have HQ := Lib.hid hq
    have HE : Hid (tjoinE zs xs ts ys side = 20) := Lib.hid (by simp [tjoinE, hq])
    clear hq
    go_enter Try.func23, Try.ntmps23
    go_wp2_with fail
    refine (t_right A B c d zs xs _ hz (h1.below b1)).mono ?_
    rintro e w1 ⟨rfl, hb⟩
    rw [HQ.out]
    replace kR := kR.keep hb
    replace b1 := btr b1 hb
    clear hb
    obtain ⟨q0, q1⟩ := box2 kR
    have f0 := kR.frozen 0
    have f1 := kR.frozen 1
    go_wp2_with fail
    have k3 := kR.set2 (.slice none 0 0) (.slice none 0 0)
    have B3 := bset2 b1 (p := w.heap.size + 1 + 1) (by omega) (.slice none 0 0) (.slice none 0 0)
    clear q0 q1
    obtain ⟨q0, q1⟩ := box2 k3
    refine bodyPost_ret (v := .tuple #[.agg #[.slice none 0 0, .slice none 0 0], .int .i64 20]) (by simp [results, Try.results23, go_sem, q0, q1]) rfl ?_
    exact RetTE.no rfl rfl B3 _ (by rw [HE.out])
  rcases hq' : tRightB ts ys with _ | _
  · have HQ := Lib.hid hq
    have HQ' := Lib.hid hq'
    have HE : Hid (tjoinE zs xs ts ys side = 20) := Lib.hid (by simp [tjoinE, hq'])
    clear hq hq'
    go_enter Try.func23, Try.ntmps23
    go_wp2_with fail
    refine (t_right A B c d zs xs _ hz (h1.below b1)).mono ?_
    rintro e w1 ⟨rfl, hb⟩
    rw [HQ.out]
    replace kR := kR.keep hb
    replace k2 := k2.keep hb
    replace b1 := btr b1 hb
    clear hb
    obtain ⟨p0, p1⟩ := box2 k2
    go_wp2_with fail
    refine (t_right C D c' d' ts ys _ ht (h3.below b1)).mono ?_
    rintro e w2 ⟨rfl, hb⟩
    rw [HQ'.out]
    clear p0 p1
    replace kR := kR.keep hb
    replace b1 := btr b1 hb
    clear hb
    obtain ⟨q0, q1⟩ := box2 kR
    have f0 := kR.frozen 0
    have f1 := kR.frozen 1
    go_wp2_with fail
    have k3 := kR.set2 (.slice none 0 0) (.slice none 0 0)
    have B3 := bset2 b1 (p := w.heap.size + 1 + 1) (by omega) (.slice none 0 0) (.slice none 0 0)
    clear q0 q1
    obtain ⟨q0, q1⟩ := box2 k3
    refine bodyPost_ret (v := .tuple #[.agg #[.slice none 0 0, .slice none 0 0], .int .i64 20]) (by simp [results, Try.results23, go_sem, q0, q1]) rfl ?_
    exact RetTE.no rfl rfl B3 _ (by rw [HE.out])
  · have HQ := Lib.hid hq
    have HQ' := Lib.hid hq'
    have HE : Hid (tjoinE zs xs ts ys side = joinE zs ts side) := Lib.hid (by simp [tjoinE, hq, hq'])
    rw [HE.out] at hr ⊢
    have HV : Hid (joinV zs ts side = []) := Lib.hid (by simp [joinV, hr.out])
    have e1 : (joinE zs ts side != 0) = true := by simpa using hr.out
    clear hq hq'
    go_enter Try.func23, Try.ntmps23
    go_wp2_with fail
    refine (t_right A B c d zs xs _ hz (h1.below b1)).mono ?_
    rintro e w1 ⟨rfl, hb⟩
    rw [HQ.out]
    replace kR := kR.keep hb
    replace k1 := k1.keep hb
    replace k2 := k2.keep hb
    replace b1 := btr b1 hb
    clear hb
    obtain ⟨p0, p1⟩ := box2 k2
    go_wp2_with fail
    refine (t_right C D c' d' ts ys _ ht (h3.below b1)).mono ?_
    rintro e w2 ⟨rfl, hb⟩
    rw [HQ'.out]
    clear p0 p1
    replace kR := kR.keep hb
    replace k1 := k1.keep hb
    replace k2 := k2.keep hb
    replace b1 := btr b1 hb
    clear hb
    obtain ⟨p0, p1⟩ := box2 k2
    obtain ⟨o0, o1⟩ := box2 k1
    go_wp2_with fail
    refine (sh_join A C c c' zs ts side w2 hz ht (h1.below b1) (h3.below b1)).mono ?_
    rintro e w3 ⟨A1, c1, rfl, -, hb, -, -⟩
    rw [HV.out]
    clear p0 p1 o0 o1
    replace kR := kR.keep hb
    replace b1 := btr b1 hb
    clear hb
    obtain ⟨q0, q1⟩ := box2 kR
    have f0 := kR.frozen 0
    have f1 := kR.frozen 1
    go_wp2_with fail
    have k3 := kR.set2 (.slice none 0 0) (.slice none 0 0)
    have B3 := bset2 b1 (p := w.heap.size + 1 + 1) (by omega) (.slice none 0 0) (.slice none 0 0)
    clear q0 q1
    obtain ⟨q0, q1⟩ := box2 k3
    refine bodyPost_ret (v := .tuple #[.agg #[.slice none 0 0, .slice none 0 0], .int .i64 (joinE zs ts side)]) (by simp [results, Try.results23, go_sem, q0, q1]) rfl ?_
    exact RetTE.no rfl rfl B3 _ (rfl)

end Go.Proofs.Ytingmabmglpmaaa
