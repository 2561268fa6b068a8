/- The walk of the statement ShapeJoins. -/
import Derived.Test.YtlnpkoggnikkbaaOpen
import Derived.Test.YtlnpkoggnikkbaaAppend
import Derived.Test.YtlnpkoggnikkbaaLaw03Awake
import Derived.Deep.RegionHeld3
import Derived.Deep.DrawnRows
namespace Go.Proofs.Ytlnpkoggnikkbaa
open Go.RowKit
attribute [local go_sem ↓] Go.wp_at_zero Go.wp_at_succ

theorem boxJ {w : World} {g : Nat} {T : TypeId} {v0 v1 v2 v3 v4 : Value} (h : Blk w g T #[v0, v1, v2, v3, v4]) :
    w.cell? ⟨g, 0, none⟩ = some v0 ∧ w.cell? ⟨g, 1, none⟩ = some v1 ∧ w.cell? ⟨g, 2, none⟩ = some v2 :=
  ⟨h.cell 0, h.cell 1, h.cell 2⟩

/-- What the statement gathers: the sides that are to be, as far as it has come. -/
theorem take_joinL {zs ts : List Int} {n k : Nat} {z t : Int} (hz : zs[k]? = some z) (ht : ts[k]? = some t) :
    (joinL zs ts n).take (k + 1) = (joinL zs ts n).take k ++ [if k = n then z + t else z] := by
  apply take_at
  unfold joinL
  by_cases h : k = n
  · subst h
    rw [List.getElem?_set_self (List.getElem?_eq_some_iff.1 hz).1]; simp [List.getD, hz, ht]
  · rw [List.getElem?_set_ne (by omega), if_neg h]; exact hz

theorem joinL_at {zs ts : List Int} {n : Nat} {z t : Int} (hz : zs[n]? = some z) (ht : ts[n]? = some t) : (joinL zs ts n)[n]? = some (z + t) := by
  unfold joinL
  rw [List.getElem?_set_self (List.getElem?_eq_some_iff.1 hz).1]; simp [List.getD, hz, ht]
theorem joinL_length (zs ts : List Int) (n : Nat) : (joinL zs ts n).length = zs.length := by simp [joinL]
theorem cut_left {zs ts : List Int} {n : Nat} {z t : Int} (hr : rightB (joinL zs ts n) = true) (hz : zs[n]? = some z) (ht : ts[n]? = some t) (h1 : 1 ≤ z) (h2 : 1 ≤ t) :
    cutE (joinL zs ts n) n 0 z = 0 ∧ cutV (joinL zs ts n) n 0 z = zs := by
  have hn : n < zs.length := (List.getElem?_eq_some_iff.1 hz).1
  have e : cutE (joinL zs ts n) n 0 z = 0 := by
    rw [cutE, if_pos hr, if_pos]
    simp only [Bool.and_eq_true, decide_eq_true_eq, Int.toNat_natCast, joinL_length]
    simp [List.getD, joinL_at hz ht]; omega
  refine ⟨e, ?_⟩
  rw [cutV, if_pos e, Int.toNat_natCast, joinL, List.set_set, Int.sub_zero]
  apply List.ext_getElem?
  intro j
  by_cases hj : j = n
  · subst hj; rw [List.getElem?_set_self hn, hz]
  · rw [List.getElem?_set_ne (by omega)]
theorem cut_right {zs ts : List Int} {n : Nat} {z t : Int} (hr : rightB (joinL zs ts n) = true) (hl : zs.length = ts.length) (hs : restSame zs ts n = true) (hz : zs[n]? = some z) (ht : ts[n]? = some t) (h1 : 1 ≤ z) (h2 : 1 ≤ t) :
    cutE (joinL zs ts n) n z (z + t) = 0 ∧ cutV (joinL zs ts n) n z (z + t) = ts := by
  have hn : n < zs.length := (List.getElem?_eq_some_iff.1 hz).1
  have e : cutE (joinL zs ts n) n z (z + t) = 0 := by
    rw [cutE, if_pos hr, if_pos]
    simp only [Bool.and_eq_true, decide_eq_true_eq, Int.toNat_natCast, joinL_length]
    simp [List.getD, joinL_at hz ht]; omega
  refine ⟨e, ?_⟩
  rw [cutV, if_pos e, Int.toNat_natCast, joinL, List.set_set]
  have : z + t - z = t := by omega
  rw [this]
  simp only [restSame, Bool.and_eq_true, decide_eq_true_eq] at hs
  apply List.ext_getElem?
  intro j
  by_cases hj : j = n
  · subst hj; rw [List.getElem?_set_self hn, ht]
  · rw [List.getElem?_set_ne (by omega)]
    rcases Nat.lt_or_gt_of_ne hj with hlt | hgt
    · have := congrArg (fun l => l[j]?) hs.1
      simpa [List.getElem?_take, hlt] using this
    · have := congrArg (fun l => l[j - (n + 1)]?) hs.2
      simp only [List.getElem?_drop] at this
      rwa [show n + 1 + (j - (n + 1)) = j from by omega] at this

set_option maxRecDepth 100000 in
set_option maxHeartbeats 4000000 in
theorem shapeJoins_good (A B : Option Addr) (c d : Nat) (zs ts : List Int) (n : Nat) (a b : Int) (w : World) (h : Rd w A zs) (h' : Rd w B ts)
    (hr : rightB zs = true) (hr' : rightB ts = true) (hl : zs.length = ts.length) (hn : n < zs.length) :
    Calls Try.prog 5 #[.agg #[.slice A zs.length c, .slice B ts.length d, .int .i64 n, .int .i64 a, .int .i64 b]] w (LawTrue w) := by
  have B0 := (Below.refl w.heap.size w).alloc (Nat.le_refl _) (.cells #[.slice A zs.length c, .slice B ts.length d, .int .i64 n, .int .i64 a, .int .i64 b] 36)
  have k0 := Blk.new w 36 #[.slice A zs.length c, .slice B ts.length d, .int .i64 n, .int .i64 a, .int .i64 b]
  have h0 := h.alloc (.cells #[.slice A zs.length c, .slice B ts.length d, .int .i64 n, .int .i64 a, .int .i64 b] 36)
  have h0' := h'.alloc (.cells #[.slice A zs.length c, .slice B ts.length d, .int .i64 n, .int .i64 a, .int .i64 b] 36)
  have HR := Lib.hid hr
  have HR' := Lib.hid hr'
  have HL := Lib.hid hl
  obtain ⟨r1, r4, rin, rpr⟩ := (rightB_iff zs).1 hr
  obtain ⟨r1', r4', rin', rpr'⟩ := (rightB_iff ts).1 hr'
  have RIN := Lib.hid rin
  have RIN' := Lib.hid rin'
  have hs : zs.length ≤ 1000000 := by omega
  have hs' : ts.length ≤ 1000000 := by omega
  have hll : ((zs.length : Int) == (ts.length : Int)) = true := by rw [hl]; simp
  have JF : Hid (restSame zs ts n = false → joinE zs ts n = 20 ∧ joinV zs ts n = []) := Lib.hid (fun hf => by
    have : joinE zs ts n = 20 := by simp [joinE, hr, hr', hl, hf]; omega
    exact ⟨this, by simp [joinV, this]⟩)
  have JN : Hid (restSame zs ts n = true → rightB (joinL zs ts n) = false → joinE zs ts n = 20 ∧ joinV zs ts n = []) := Lib.hid (fun hf hg => by
    have : joinE zs ts n = 20 := by simp [joinE, hr, hr', hl, hf, hg]; omega
    exact ⟨this, by simp [joinV, this]⟩)
  have JY : Hid (restSame zs ts n = true → rightB (joinL zs ts n) = true → joinE zs ts n = 0 ∧ joinV zs ts n = joinL zs ts n) := Lib.hid (fun hf hg => by
    have : joinE zs ts n = 0 := by simp [joinE, hr, hr', hl, hf, hg]; omega
    exact ⟨this, by simp [joinV, this]⟩)
  clear h h' hr hr' hl rin rin'
  go_enter Try.func5, Try.ntmps5
  go_wp2_with fail
  generalize w.alloc (.cells #[.slice A zs.length c, .slice B ts.length d, .int .i64 n, .int .i64 a, .int .i64 b] 36) = w0 at *
  refine (sh_join A B c d zs ts n w0 hs hs' h0 h0').mono ?_
  rintro e w1 ⟨A1, c1, rfl, hj, hb1, -, -⟩
  have k1 := k0.keep hb1
  have b1 := btr B0 hb1
  have hA := h0.below hb1
  have hB := h0'.below hb1
  clear h0 h0' B0 k0 hb1
  obtain ⟨q0, q1, q2⟩ := boxJ k1
  go_wp2_with fail
  refine (ref_right A c zs w1 hs hA).mono ?_
  rintro e w2 ⟨rfl, rfl⟩
  rw [HR.out]
  go_wp2_with fail
  refine (ref_right B d ts w1 hs' hB).mono ?_
  rintro e w2 ⟨rfl, rfl⟩
  rw [HR'.out]
  go_wp2_with fail
  go_loopw [5, 7, 84] (fun g v i wr => ∃ (k : Nat) (x : Bool) (A2 : Option Addr) (c2 : Nat) (ys : List Int), k ≤ zs.length ∧ i = .int .i64 k ∧ g = .bool x ∧ v = .slice A2 ys.length c2 ∧ OwnA wr w1.heap.size 3 A2 c2 ys ∧ Below w1.heap.size w1 wr ∧ ys = (joinL zs ts n).take k ∧ (x = true → sameTo zs ts n k) ∧ (x = false → restSame zs ts n = false)) (fun _ _ i _ => zs.length - (intOf i).toNat)
  case atStart => exact ⟨0, true, none, 0, [], Nat.zero_le _, rfl, rfl, rfl, OwnA.nil _ _ _, Below.refl _ _, rfl, fun _ j z t hj => absurd hj (by omega), fun hx => by cases hx⟩
  case round =>
    obtain ⟨k, x, A2, c2, ys, hk, rfl, rfl, rfl, hown, hbel, hys, hx1, hx2⟩ := hrel
    have HYS := Lib.hid hys
    have HX1 := Lib.hid hx1
    have HX2 := Lib.hid hx2
    have hyl : ys.length ≤ 4 := by rw [hys]; simp [joinL_length]; omega
    clear hys hx1 hx2
    have k2 := k1.keep hbel
    clear q0 q1 q2
    obtain ⟨q0, q1, q2⟩ := boxJ k2
    by_cases hlt : k < zs.length
    · obtain ⟨b0, off0, z, rfl, _, hcz, hz⟩ := (hA.below hbel).get hlt
      obtain ⟨b1', off1, t, rfl, _, hct, ht⟩ := (hB.below hbel).get (k := k) (by rw [← HL.out]; exact hlt)
      have hlt' : k < ts.length := by rw [← HL.out]; exact hlt
      obtain ⟨hz1, hz2⟩ := inSides_get RIN.out hz.out
      obtain ⟨ht1, ht2⟩ := inSides_get RIN'.out ht.out
      have e0 : decide (k < zs.length) = true := by simpa using hlt
      by_cases hkn : k = n
      · subst hkn
        have hkk : ((k : Int) == (k : Int)) = true := by simp
        go_wp2_with (at_builtin; refine wpList_pushI rfl _ _ _ rfl 3 Try.underlying22 (by kernel_rfl) w1.heap.size A2 c2 ys rfl hown (z + t) rfl (by omega) hbel.size ?_; intro A3 c3 w3 ho3 hb3 _ _)
        go_roundw
        case rel => exact ⟨k + 1, x, A3, c3, ys ++ [z + t], by omega, by go_num, rfl, by simp, ho3, hbel.trans hb3, by rw [take_joinL hz.out ht.out, if_pos rfl, HYS.out], fun hx j y u hj hjn hy hu => HX1.out hx j y u (by omega) hjn hy hu, HX2.out⟩
        case measure => simp [intOf]; omega
      · have hkk : ((k : Int) == (n : Int)) = false := by simp; omega
        have HKN := Lib.hid hkn
        clear hkn
        by_cases hzt : t = z
        · have hzt1 : (t != z) = false := by simp [hzt]
          have HZT := Lib.hid hzt
          clear hzt
          go_wp2_with (at_builtin; refine wpList_pushI rfl _ _ _ rfl 3 Try.underlying22 (by kernel_rfl) w1.heap.size A2 c2 ys rfl hown z rfl (by omega) hbel.size ?_; intro A3 c3 w3 ho3 hb3 _ _)
          go_roundw
          case rel =>
            refine ⟨k + 1, x, A3, c3, ys ++ [z], by omega, by go_num, rfl, by simp, ho3, hbel.trans hb3, by rw [take_joinL hz.out ht.out, if_neg HKN.out, HYS.out], fun hx j y u hj hjn hy hu => ?_, HX2.out⟩
            by_cases hjk : j < k
            · exact HX1.out hx j y u hjk hjn hy hu
            · obtain rfl : j = k := by omega
              rw [hz.out] at hy; rw [ht.out] at hu
              injection hy with hy; injection hu with hu
              rw [← hy, ← hu, HZT.out]
          case measure => simp [intOf]; omega
        · have hzt1 : (t != z) = true := by simp [hzt]
          have HF := Lib.hid (restSame_not HKN.out hz.out ht.out (fun e => hzt e.symm))
          clear hzt
          go_wp2_with (at_builtin; refine wpList_pushI rfl _ _ _ rfl 3 Try.underlying22 (by kernel_rfl) w1.heap.size A2 c2 ys rfl hown z rfl (by omega) hbel.size ?_; intro A3 c3 w3 ho3 hb3 _ _)
          go_roundw
          case rel => exact ⟨k + 1, false, A3, c3, ys ++ [z], by omega, by go_num, rfl, by simp, ho3, hbel.trans hb3, by rw [take_joinL hz.out ht.out, if_neg HKN.out, HYS.out], (fun hx => by cases hx), fun _ => HF.out⟩
          case measure => simp [intOf]; omega
    · have e0 : decide (k < zs.length) = false := by simpa using hlt
      have e : ys = joinL zs ts n := by rw [HYS.out, List.take_of_length_le (by rw [joinL_length]; omega)]
      have bw := btr b1 hbel
      have hA2 := hA.below hbel
      have hB2 := hB.below hbel
      have hj2 := hj.below hbel
      clear hA hB hj k1
      cases x with
      | false =>
        have HE := Lib.hid (JF.out (HX2.out rfl))
        rw [HE.out.1, HE.out.2]
        clear e
        go_wp2_with fail
        refine (l03_awake wr).mono ?_
        rintro e w7 ⟨rfl, hb7⟩
        go_wp2_with fail
        go_ret
        exact ⟨rfl, btr bw hb7⟩
      | true =>
        have HRS := Lib.hid (restSame_of HL.out (HX1.out rfl) (by omega))
        have CR := Lib.hid (ref_right A2 c2 ys wr (by omega) hown.rd)
        have HYJ := Lib.hid e
        clear e
        rcases hrj : rightB (joinL zs ts n) with _ | _
        · have HE := Lib.hid (JN.out HRS.out hrj)
          rw [HYJ.out, hrj, ← HYJ.out] at CR
          clear hrj
          rw [HE.out.1, HE.out.2]
          go_wp2_with fail
          refine CR.out.mono ?_
          rintro e w5 ⟨rfl, rfl⟩
          go_wp2_with fail
          refine (l03_awake wr).mono ?_
          rintro e w7 ⟨rfl, hb7⟩
          go_wp2_with fail
          go_ret
          exact ⟨rfl, btr bw hb7⟩
        · have HE := Lib.hid (JY.out HRS.out hrj)
          have HRJ := Lib.hid hrj
          rw [HYJ.out, hrj, ← HYJ.out] at CR
          clear hrj
          rw [HE.out.1, HE.out.2, ← HYJ.out]
          rw [HE.out.2, ← HYJ.out] at hj2
          obtain ⟨b0, off0, z, rfl, hbz, hcz, hz⟩ := hA2.get hn
          obtain ⟨b1', off1, t, rfl, _, hct, ht⟩ := hB2.get (k := n) (by rw [← HL.out]; exact hn)
          obtain ⟨hz1, hz2⟩ := inSides_get RIN.out hz.out
          obtain ⟨ht1, ht2⟩ := inSides_get RIN'.out ht.out
          have CL := Lib.hid (cut_left HRJ.out hz.out ht.out hz1 ht1)
          have CT := Lib.hid (cut_right HRJ.out HL.out HRS.out hz.out ht.out hz1 ht1)
          rw [← HYJ.out] at CL CT
          have hyn : n < ys.length := by rw [HYJ.out, joinL_length]; exact hn
          obtain ⟨g3, o3, hcy⟩ : ∃ g3 o3, A2 = some ⟨g3, o3, none⟩ ∧ wr.cell? ⟨g3, o3 + n, none⟩ = some (.int .i64 (z + t)) := by
            obtain ⟨g3, o3, e1, _, e2⟩ := hown.rd n (z + t) (by rw [HYJ.out]; exact joinL_at hz.out ht.out)
            exact ⟨g3, o3, e1, e2⟩
          obtain ⟨rfl, hcy⟩ := hcy
          go_wp2_with fail
          refine CR.out.mono ?_
          rintro e w5 ⟨rfl, rfl⟩
          go_wp2_with fail
          have HK : Hid (∀ w', Below wr.heap.size wr w' → w'.cell? ⟨w.heap.size, 0, none⟩ = some (.slice (some ⟨b0, off0, none⟩) zs.length c) ∧ w'.cell? ⟨w.heap.size, 2, none⟩ = some (.int .i64 n) ∧ w'.cell? ⟨b0, off0 + n, none⟩ = some (.int .i64 z)) :=
            Lib.hid (fun w' hb => ⟨(hb.cell (p := ⟨_, _, _⟩) k2.lt).trans q0, (hb.cell (p := ⟨_, _, _⟩) k2.lt).trans q2, (hb.cell (p := ⟨_, _, _⟩) hbz).trans hcz⟩)
          go_region_held3 (fun w' => w'.cell? ⟨w.heap.size, 0, none⟩ = some (.slice (some ⟨b0, off0, none⟩) zs.length c) ∧ w'.cell? ⟨w.heap.size, 2, none⟩ = some (.int .i64 n) ∧ w'.cell? ⟨b0, off0 + n, none⟩ = some (.int .i64 z)) (first | go_keep | exact HK.out _ (undrew hb4))
            (first | (go_at_call 25; refine (sh_cut A1 c1 ys n 0 z _ (by omega) (by exact hj2)).mono ?_; rintro e w5 ⟨A4, c4, rfl, hrd4, hb4, -, -⟩))
          rw [CL.out.1, CL.out.2]
          rw [CL.out.2] at hrd4
          have bd := undrew hb4
          obtain ⟨p0, p2, pz⟩ := HK.out _ bd
          have hj3 := hj2.below bd
          have b5 := btr bw bd
          have own3 := hown.keep bd
          have hA3 := hA2.below bd
          have hB3 := hB2.below bd
          have hcy3 : w5.cell? ⟨g3, o3 + n, none⟩ = some (.int .i64 (z + t)) := own3.rd.all (by rw [HYJ.out]; exact joinL_at hz.out ht.out)
          have hg3 : g3 < wr.heap.size := hown.lt _ rfl
          have HK2 : Hid (∀ w', Below w5.heap.size w5 w' → w'.cell? ⟨w.heap.size, 0, none⟩ = some (.slice (some ⟨b0, off0, none⟩) zs.length c) ∧ w'.cell? ⟨w.heap.size, 2, none⟩ = some (.int .i64 n) ∧ w'.cell? ⟨b0, off0 + n, none⟩ = some (.int .i64 z) ∧ w'.cell? ⟨g3, o3 + n, none⟩ = some (.int .i64 (z + t))) :=
            Lib.hid (fun w' hb => ⟨(hb.cell (p := ⟨_, _, _⟩) (by have := k2.lt; have := bd.size; simp; omega)).trans p0, (hb.cell (p := ⟨_, _, _⟩) (by have := k2.lt; have := bd.size; simp; omega)).trans p2, (hb.cell (p := ⟨_, _, _⟩) (by have := bd.size; simp; omega)).trans pz, (hb.cell (p := ⟨_, _, _⟩) (by have := bd.size; simp; omega)).trans hcy3⟩)
          have P1 : w5.cell? ⟨w.heap.size, 1, none⟩ = some (.slice (some ⟨b1', off1, none⟩) ts.length d) := (bd.cell (p := ⟨_, _, _⟩) k2.lt).trans q1
          clear q0 q1 q2 hcz hct hcy hA2 hB2 hj2 HK hb4
          go_wp2_with fail
          go_region_held3 (fun w' => w'.cell? ⟨w.heap.size, 0, none⟩ = some (.slice (some ⟨b0, off0, none⟩) zs.length c) ∧ w'.cell? ⟨w.heap.size, 2, none⟩ = some (.int .i64 n) ∧ w'.cell? ⟨b0, off0 + n, none⟩ = some (.int .i64 z) ∧ w'.cell? ⟨g3, o3 + n, none⟩ = some (.int .i64 (z + t))) (first | go_keep | exact HK2.out _ (undrew hb6))
            (first | (go_at_call 25; refine (sh_cut A1 c1 ys n z (z + t) _ (by omega) (by exact hj3)).mono ?_; rintro e w6 ⟨A5, c5, rfl, hrd5, hb6, -, -⟩))
          rw [CT.out.1, CT.out.2]
          rw [CT.out.2] at hrd5
          have bd6 := undrew hb6
          obtain ⟨s0, s2, sz, sy⟩ := HK2.out _ bd6
          have hlt5 : w.heap.size < w5.heap.size := by have := k2.lt; have := bd.size; omega
          have s1 : w6.cell? ⟨w.heap.size, 1, none⟩ = some (.slice (some ⟨b1', off1, none⟩) ts.length d) := (bd6.cell (p := ⟨_, _, _⟩) hlt5).trans P1
          have hj4 := hj3.below bd6
          have own4 := own3.keep bd6
          have hA4 := hA3.below bd6
          have hB4 := hB3.below bd6
          have r4' := hrd4.below bd6
          have b6 := btr b5 bd6
          clear p0 p2 pz hcy3 HK2 P1 hA3 hB3 hj3 own3 hb6
          go_wp2_with fail
          refine (ref_same A1 (some ⟨g3, o3, none⟩) c1 c2 ys ys w6 (by omega) (by omega) hj4 own4.rd).mono ?_
          rintro e w7 ⟨rfl, n7, rfl⟩
          rw [show decide (ys = ys) = true from by simp]
          go_wp2_with fail
          refine (sh_equal A4 (some ⟨b0, off0, none⟩) c4 c zs zs (w6.drewN n7) hs hs (r4'.drewN _) (hA4.drewN _)).mono ?_
          rintro e w8 ⟨rfl, n8, rfl⟩
          rw [show decide (zs = zs) = true from by simp]
          go_wp2_with fail
          refine (sh_equal A5 (some ⟨b1', off1, none⟩) c5 d ts ts _ hs' hs' (hrd5.drewN _) (hB4.drewN _)).mono ?_
          rintro e w9 ⟨rfl, n9, rfl⟩
          rw [show decide (ts = ts) = true from by simp]
          go_wp2_with fail
          refine (l03_awake _).mono ?_
          rintro e w10 ⟨rfl, hb10⟩
          go_wp2_with fail
          go_ret
          exact ⟨rfl, btr b6 (undrewN hb10)⟩

set_option maxRecDepth 100000 in
set_option maxHeartbeats 4000000 in
theorem shapeJoins_calls (A B : Option Addr) (c d : Nat) (zs ts : List Int) (side a b : Int) (w : World) (h : IntsIn w A c zs) (h' : IntsIn w B d ts) :
    Calls Try.prog 5 #[.agg #[.slice A zs.length c, .slice B ts.length d, .int .i64 side, .int .i64 a, .int .i64 b]] w (LawTrue w) := by
  obtain ⟨h, -, -, -⟩ := h
  obtain ⟨h', -, -, -⟩ := h'
  by_cases hgood : rightB zs = true ∧ rightB ts = true ∧ zs.length = ts.length ∧ 0 ≤ side ∧ side < zs.length
  · obtain ⟨g1, g2, g3, g4, g5⟩ := hgood
    obtain ⟨n, rfl⟩ := Int.eq_ofNat_of_zero_le g4
    exact shapeJoins_good A B c d zs ts n a b w h h' g1 g2 g3 (by omega)
  have B0 := (Below.refl w.heap.size w).alloc (Nat.le_refl _) (.cells #[.slice A zs.length c, .slice B ts.length d, .int .i64 side, .int .i64 a, .int .i64 b] 36)
  have k0 := Blk.new w 36 #[.slice A zs.length c, .slice B ts.length d, .int .i64 side, .int .i64 a, .int .i64 b]
  have h0 := h.alloc (.cells #[.slice A zs.length c, .slice B ts.length d, .int .i64 side, .int .i64 a, .int .i64 b] 36)
  have h0' := h'.alloc (.cells #[.slice A zs.length c, .slice B ts.length d, .int .i64 side, .int .i64 a, .int .i64 b] 36)
  clear h h'
  by_cases h50 : 50 < zs.length
  · clear hgood
    go_enter Try.func5, Try.ntmps5
    go_wp2_with fail
    refine (l03_awake _).mono ?_
    rintro e w1 ⟨rfl, hb⟩
    go_wp2_with fail
    go_ret
    exact ⟨rfl, btr B0 hb⟩
  by_cases h50' : 50 < ts.length
  · clear hgood
    go_enter Try.func5, Try.ntmps5
    go_wp2_with fail
    refine (l03_awake _).mono ?_
    rintro e w1 ⟨rfl, hb⟩
    go_wp2_with fail
    go_ret
    exact ⟨rfl, btr B0 hb⟩
  have hs : zs.length ≤ 1000000 := by omega
  have hs' : ts.length ≤ 1000000 := by omega
  by_cases hg3 : rightB zs = true ∧ rightB ts = true ∧ zs.length = ts.length
  · obtain ⟨hr, hr', hl⟩ := hg3
    have hsd : ¬ (0 ≤ side ∧ side < zs.length) := fun hx => hgood ⟨hr, hr', hl, hx⟩
    have HE : Hid (joinE zs ts side = 11) := Lib.hid (by
      rw [joinE, if_pos (by simp [hr, hr', hl]), if_neg]
      simp only [Bool.and_eq_true, decide_eq_true_eq]; omega)
    have HV : Hid (joinV zs ts side = []) := Lib.hid (by simp [joinV, HE.out])
    have HR := Lib.hid hr
    have HR' := Lib.hid hr'
    have hll : ((zs.length : Int) == (ts.length : Int)) = true := by rw [hl]; simp
    clear hgood hr hr' hl
    go_enter Try.func5, Try.ntmps5
    go_wp2_with fail
    generalize w.alloc (.cells #[.slice A zs.length c, .slice B ts.length d, .int .i64 side, .int .i64 a, .int .i64 b] 36) = w0 at *
    refine (sh_join A B c d zs ts side w0 hs hs' h0 h0').mono ?_
    rintro e w1 ⟨A1, c1, rfl, hj, hb1, -, -⟩
    rw [HE.out, HV.out]
    have k1 := k0.keep hb1
    have b1 := btr B0 hb1
    have hA := h0.below hb1
    have hB := h0'.below hb1
    clear h0 h0' B0 k0 hb1
    obtain ⟨q0, q1, q2⟩ := boxJ k1
    go_wp2_with fail
    refine (ref_right A c zs w1 hs hA).mono ?_
    rintro e w2 ⟨rfl, rfl⟩
    rw [HR.out]
    go_wp2_with fail
    refine (ref_right B d ts w1 hs' hB).mono ?_
    rintro e w2 ⟨rfl, rfl⟩
    rw [HR'.out]
    by_cases hs0 : 0 ≤ side
    · have d0 : decide (0 ≤ side) = true := by simpa using hs0
      have d1 : decide (side < (zs.length : Int)) = false := by simp; omega
      clear hsd
      go_wp2_with fail
      refine (l03_awake _).mono ?_
      rintro e w3 ⟨rfl, hb⟩
      go_wp2_with fail
      go_ret
      exact ⟨rfl, btr b1 hb⟩
    · have d0 : decide (0 ≤ side) = false := by simpa using hs0
      clear hsd
      go_wp2_with fail
      refine (l03_awake _).mono ?_
      rintro e w3 ⟨rfl, hb⟩
      go_wp2_with fail
      go_ret
      exact ⟨rfl, btr b1 hb⟩
  · have HE : Hid (joinE zs ts side = 20) := Lib.hid (by
      rw [joinE, if_neg]
      simp only [Bool.and_eq_true, decide_eq_true_eq, and_assoc]
      exact hg3)
    have HV : Hid (joinV zs ts side = []) := Lib.hid (by simp [joinV, HE.out])
    have HG := Lib.hid hg3
    clear hgood hg3
    go_enter Try.func5, Try.ntmps5
    go_wp2_with fail
    generalize w.alloc (.cells #[.slice A zs.length c, .slice B ts.length d, .int .i64 side, .int .i64 a, .int .i64 b] 36) = w0 at *
    refine (sh_join A B c d zs ts side w0 hs hs' h0 h0').mono ?_
    rintro e w1 ⟨A1, c1, rfl, hj, hb1, -, -⟩
    rw [HE.out, HV.out]
    have k1 := k0.keep hb1
    have b1 := btr B0 hb1
    have hA := h0.below hb1
    have hB := h0'.below hb1
    clear h0 h0' B0 k0 hb1
    obtain ⟨q0, q1, q2⟩ := boxJ k1
    go_wp2_with fail
    refine (ref_right A c zs w1 hs hA).mono ?_
    rintro e w2 ⟨rfl, rfl⟩
    rcases hr : rightB zs with _ | _
    · clear hr
      go_wp2_with fail
      by_cases hz0 : 0 < zs.length
      · have e0 : decide (0 < zs.length) = true := by simpa using hz0
        refine wp_loop_rounds 1 ?_
        rw [rounds_succ]
        go_wp2_with fail
        refine (l03_awake _).mono ?_
        rintro e w3 ⟨rfl, hb⟩
        go_wp2_with fail
        go_ret
        exact ⟨rfl, btr b1 hb⟩
      · have e0 : decide (0 < zs.length) = false := by simpa using hz0
        refine wp_loop_rounds 1 ?_
        rw [rounds_succ]
        go_wp2_with fail
        refine (l03_awake _).mono ?_
        rintro e w3 ⟨rfl, hb⟩
        go_wp2_with fail
        go_ret
        exact ⟨rfl, btr b1 hb⟩
    · go_wp2_with fail
      refine (ref_right B d ts w1 hs' hB).mono ?_
      rintro e w2 ⟨rfl, rfl⟩
      rcases hr' : rightB ts with _ | _
      · clear hr hr'
        go_wp2_with fail
        by_cases hz0 : 0 < zs.length
        · have e0 : decide (0 < zs.length) = true := by simpa using hz0
          refine wp_loop_rounds 1 ?_
          rw [rounds_succ]
          go_wp2_with fail
          refine (l03_awake _).mono ?_
          rintro e w3 ⟨rfl, hb⟩
          go_wp2_with fail
          go_ret
          exact ⟨rfl, btr b1 hb⟩
        · have e0 : decide (0 < zs.length) = false := by simpa using hz0
          refine wp_loop_rounds 1 ?_
          rw [rounds_succ]
          go_wp2_with fail
          refine (l03_awake _).mono ?_
          rintro e w3 ⟨rfl, hb⟩
          go_wp2_with fail
          go_ret
          exact ⟨rfl, btr b1 hb⟩
      · have hll : ((zs.length : Int) == (ts.length : Int)) = false := by
          have : ¬ zs.length = ts.length := fun hl => HG.out ⟨hr, hr', hl⟩
          simp; omega
        clear hr hr'
        go_wp2_with fail
        by_cases hz0 : 0 < zs.length
        · have e0 : decide (0 < zs.length) = true := by simpa using hz0
          refine wp_loop_rounds 1 ?_
          rw [rounds_succ]
          go_wp2_with fail
          refine (l03_awake _).mono ?_
          rintro e w3 ⟨rfl, hb⟩
          go_wp2_with fail
          go_ret
          exact ⟨rfl, btr b1 hb⟩
        · have e0 : decide (0 < zs.length) = false := by simpa using hz0
          refine wp_loop_rounds 1 ?_
          rw [rounds_succ]
          go_wp2_with fail
          refine (l03_awake _).mono ?_
          rintro e w3 ⟨rfl, hb⟩
          go_wp2_with fail
          go_ret
          exact ⟨rfl, btr b1 hb⟩
end Go.Proofs.Ytlnpkoggnikkbaa
