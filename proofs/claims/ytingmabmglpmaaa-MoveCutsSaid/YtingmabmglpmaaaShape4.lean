/- The walk of Shape.Join. -/
import Derived.Test.YtingmabmglpmaaaShape3
namespace Go.Proofs.Ytingmabmglpmaaa
open Go.RowKit

/-- All sides but one are alike. -/
def restSame (zs ts : List Int) (n : Nat) : Bool := decide (zs.take n = ts.take n) && decide (zs.drop (n + 1) = ts.drop (n + 1))
def joinL (zs ts : List Int) (n : Nat) : List Int := zs.set n (zs.getD n 0 + ts.getD n 0)
def joinE (zs ts : List Int) (side : Int) : Int :=
  if rightB zs && rightB ts && decide (zs.length = ts.length) then
    (if decide (0 ≤ side) && decide (side < zs.length) then (if restSame zs ts side.toNat && rightB (joinL zs ts side.toNat) then 0 else 20) else 11)
  else 20
def joinV (zs ts : List Int) (side : Int) : List Int := if joinE zs ts side = 0 then joinL zs ts side.toNat else []

/-- The shape under way: the side that is joined is joined once it has been passed. -/
def joinTo (zs ts : List Int) (n k : Nat) : List Int := if n < k then joinL zs ts n else zs
/-- What has been met so far is alike. -/
def sameTo (zs ts : List Int) (n k : Nat) : Prop := ∀ j z t, j < k → j ≠ n → zs[j]? = some z → ts[j]? = some t → z = t
theorem restSame_of {zs ts : List Int} {n k : Nat} (hl : zs.length = ts.length) (h : sameTo zs ts n k) (hk : zs.length ≤ k) : restSame zs ts n = true := by
  have key : ∀ j, j ≠ n → zs[j]? = ts[j]? := by
    intro j hj
    by_cases hlt : j < zs.length
    · have h1 := List.getElem?_eq_getElem hlt
      have h2 := List.getElem?_eq_getElem (l := ts) (i := j) (by omega)
      rw [h1, h2, h j _ _ (by omega) hj h1 h2]
    · rw [List.getElem?_eq_none (by omega), List.getElem?_eq_none (by omega)]
  simp only [restSame, Bool.and_eq_true, decide_eq_true_eq]
  constructor
  · apply List.ext_getElem?
    intro j
    rw [List.getElem?_take, List.getElem?_take]
    split
    · exact key j (by omega)
    · rfl
  · apply List.ext_getElem?
    intro j
    rw [List.getElem?_drop, List.getElem?_drop]
    exact key _ (by omega)
theorem restSame_not {zs ts : List Int} {n j : Nat} {z t : Int} (hj : j ≠ n) (hz : zs[j]? = some z) (ht : ts[j]? = some t) (h : z ≠ t) : restSame zs ts n = false := by
  rcases hb : restSame zs ts n with _ | _
  · rfl
  · simp only [restSame, Bool.and_eq_true, decide_eq_true_eq] at hb
    exfalso
    rcases Nat.lt_or_gt_of_ne hj with hlt | hgt
    · have := congrArg (fun l => l[j]?) hb.1
      simp only [List.getElem?_take, if_pos hlt, hz, ht] at this
      injection this with this; exact h this
    · have := congrArg (fun l => l[j - (n + 1)]?) hb.2
      simp only [List.getElem?_drop] at this
      rw [show n + 1 + (j - (n + 1)) = j from by omega, hz, ht] at this
      injection this with this; exact h this
theorem joinTo_length (zs ts : List Int) (n k : Nat) : (joinTo zs ts n k).length = zs.length := by unfold joinTo joinL; split <;> simp
theorem joinTo_at {zs ts : List Int} {n k : Nat} {z : Int} (hk : k ≤ n) (h : zs[n]? = some z) : (joinTo zs ts n k)[n]? = some z := by rw [joinTo, if_neg (by omega)]; exact h
theorem joinTo_here {zs ts : List Int} {n : Nat} {z t : Int} (hz : zs[n]? = some z) (ht : ts[n]? = some t) : (joinTo zs ts n n).set n (z + t) = joinTo zs ts n (n + 1) := by
  rw [joinTo, if_neg (by omega), joinTo, if_pos (by omega), joinL]; simp [List.getD, hz, ht]
theorem joinTo_past {zs ts : List Int} {n k : Nat} (h : k ≠ n) : joinTo zs ts n (k + 1) = joinTo zs ts n k := by
  unfold joinTo
  by_cases h1 : n < k
  · rw [if_pos h1, if_pos (by omega)]
  · rw [if_neg h1, if_neg (by omega)]

set_option maxHeartbeats 2000000 in
theorem sh_join (A B : Option Addr) (c d : Nat) (zs ts : List Int) (side : Int) (w : World) (hs : zs.length ≤ 1000000) (hs' : ts.length ≤ 1000000) (h : Rd w A zs) (h' : Rd w B ts) :
    Calls Try.prog 45 #[.slice A zs.length c, .slice B ts.length d, .int .i64 side] w (RetSE w (joinV zs ts side) (joinE zs ts side)) := by
  rcases hr : rightB zs with _ | _
  · have HE : Hid (joinE zs ts side = 20) := Lib.hid (by simp [joinE, hr])
    have HV : Hid (joinV zs ts side = []) := Lib.hid (by simp [joinV, HE.out])
    have HR := Lib.hid hr
    clear hr
    go_enter Try.func45, Try.ntmps45
    go_wp2_with fail
    refine (sh_right A c zs w hs h).mono ?_
    rintro e w1 ⟨rfl, hb⟩
    rw [HR.out]
    go_wp2_with fail
    go_ret2
    exact RetSE.none_ HV.out hb _ (by rw [HE.out]; rfl)
  rcases hr' : rightB ts with _ | _
  · have HE : Hid (joinE zs ts side = 20) := Lib.hid (by simp [joinE, hr'])
    have HV : Hid (joinV zs ts side = []) := Lib.hid (by simp [joinV, HE.out])
    have HR := Lib.hid hr
    have HR' := Lib.hid hr'
    clear hr hr'
    go_enter Try.func45, Try.ntmps45
    go_wp2_with fail
    refine (sh_right A c zs w hs h).mono ?_
    rintro e w1 ⟨rfl, hb⟩
    rw [HR.out]
    go_wp2_with fail
    refine (sh_right B d ts w1 hs' (h'.below hb)).mono ?_
    rintro e w2 ⟨rfl, hb2⟩
    rw [HR'.out]
    go_wp2_with fail
    go_ret2
    exact RetSE.none_ HV.out (hb.trans (hb2.mono hb.size)) _ (by rw [HE.out]; rfl)
  have HR := Lib.hid hr
  have HR' := Lib.hid hr'
  by_cases hl : zs.length = ts.length
  · have hne : ((zs.length : Int) != (ts.length : Int)) = false := by rw [hl]; simp
    have HL := Lib.hid hl
    by_cases hsd : 0 ≤ side ∧ side < zs.length
    · obtain ⟨n, rfl⟩ := Int.eq_ofNat_of_zero_le hsd.1
      have hn : n < zs.length := by omega
      have HJ0 : Hid (restSame zs ts n = false → joinE zs ts n = 20) := Lib.hid (fun hf => by simp [joinE, hr, hr', hl, hf]; omega)
      have HJ1 : Hid (restSame zs ts n = true → joinE zs ts n = if rightB (joinL zs ts n) then 0 else 20) := Lib.hid (fun hf => by simp [joinE, hr, hr', hl, hf]; omega)
      have HJV : Hid (joinE zs ts n = 20 → joinV zs ts n = []) := Lib.hid (fun hf => by simp [joinV, hf])
      have HJW : Hid (joinE zs ts n = 0 → joinV zs ts n = joinL zs ts n) := Lib.hid (fun hf => by simp [joinV, hf])
      obtain ⟨r1, r4, rin, rpr⟩ := (rightB_iff zs).1 hr
      obtain ⟨r1', r4', rin', rpr'⟩ := (rightB_iff ts).1 hr'
      have RIN := Lib.hid rin
      have RIN' := Lib.hid rin'
      clear hr hr' hl rin rin'
      go_enter Try.func45, Try.ntmps45
      go_wp2_with fail
      refine (sh_right A c zs w hs h).mono ?_
      rintro e w1 ⟨rfl, hb⟩
      rw [HR.out]
      go_wp2_with fail
      refine (sh_right B d ts w1 hs' (h'.below hb)).mono ?_
      rintro e w2 ⟨rfl, hb2⟩
      rw [HR'.out]
      have hb12 := hb.trans (hb2.mono hb.size)
      go_wp2_with fail
      refine (sh_copy A c zs w2 hs (h.below hb12)).mono ?_
      rintro e w3 ⟨g, rfl, hg, ho, hb3⟩
      have hb13 := hb12.trans (hb3.mono hb12.size)
      have hgw : w.heap.size ≤ g := Nat.le_trans hb12.size hg
      have HO := Lib.hid ho
      clear ho hb hb2 hb3
      go_wp2_with fail
      go_loopw [37] (fun i wr => ∃ k : Nat, k ≤ zs.length ∧ i = .int .i64 k ∧ Own wr g 3 (joinTo zs ts n k) ∧ Below w.heap.size w wr ∧ sameTo zs ts n k) (fun i _ => zs.length - (intOf i).toNat)
      case atStart => exact ⟨0, Nat.zero_le _, rfl, HO.out, hb13, fun j z t hj => absurd hj (by omega)⟩
      case round =>
        obtain ⟨k, hk, rfl, hown, hbel, hsm⟩ := hrel
        have HSM := Lib.hid hsm
        clear hsm
        by_cases hlt : k < zs.length
        · obtain ⟨b, off, z, rfl, hbb, hc, hz⟩ := (h.below hbel).get hlt
          obtain ⟨b', off', t, rfl, hbb', hc', ht⟩ := (h'.below hbel).get (k := k) (by rw [← HL.out]; exact hlt)
          have hlt' : k < ts.length := by rw [← HL.out]; exact hlt
          obtain ⟨hz1, hz2⟩ := inSides_get RIN.out hz.out
          obtain ⟨ht1, ht2⟩ := inSides_get RIN'.out ht.out
          by_cases hkn : k = n
          · subst hkn
            have hcg := hown.cell (joinTo_at (ts := ts) (Nat.le_refl k) hz.out)
            have hfg := hown.frozen k
            have HO2 := Lib.hid (hown.set_ k (z + t))
            rw [joinTo_here hz.out ht.out] at HO2
            clear hown
            have hkk : ((k : Int) == (k : Int)) = true := by simp
            go_wp2_with fail
            go_region
            all_goals go_wp2_with fail
            all_goals
              go_roundw
              case rel => exact ⟨k + 1, by omega, by go_num, by first | exact HO2.out | exact HO2.out.drew, by first | exact (hbel.drew).setCell hgw _ | exact (hbel.setCell hgw _).drew, fun j y u hj hjn hy hu => HSM.out j y u (by omega) hjn hy hu⟩
              case measure => simp [intOf]; omega
          · have hkk : ((k : Int) == (n : Int)) = false := by simp; omega
            have HO2 := Lib.hid hown
            rw [← joinTo_past hkn] at HO2
            clear hown
            by_cases hzt : z = t
            · have hzt1 : (z != t) = false := by simp [hzt]
              have HZT := Lib.hid hzt
              have HKN := Lib.hid hkn
              clear hzt hkn
              go_wp2_with fail
              go_quiet (fail)
              go_wp2_with fail
              go_roundw
              case rel =>
                refine ⟨k + 1, by omega, by go_num, HO2.out.drewN _, below_drewN hbel _, fun j y u hj hjn hy hu => ?_⟩
                by_cases hjk : j < k
                · exact HSM.out j y u hjk hjn hy hu
                · obtain rfl : j = k := by omega
                  rw [hz.out] at hy; rw [ht.out] at hu
                  injection hy with hy; injection hu with hu
                  rw [← hy, ← hu, HZT.out]
              case measure => simp [intOf]; omega
            · have hzt1 : (z != t) = true := by simp [hzt]
              have HF := Lib.hid (HJ0.out (restSame_not hkn hz.out ht.out hzt))
              clear hzt hkn
              go_wp2_with fail
              go_quiet (fail)
              go_wp2_with fail
              go_ret2
              exact RetSE.none_ (HJV.out HF.out) (below_drewN hbel _) _ (by rw [HF.out]; rfl)
        · have HT := Lib.hid (HJ1.out (restSame_of HL.out HSM.out (by omega)))
          have e : joinTo zs ts n k = joinL zs ts n := by rw [joinTo, if_pos (by omega)]
          rw [e] at hown
          have HO2 := Lib.hid hown
          have hlen : (joinL zs ts n).length = zs.length := by simp [joinL]
          have CR := Lib.hid (sh_right (some ⟨g, 0, none⟩) (joinL zs ts n).length (joinL zs ts n) wr (by omega) hown.rd)
          rw [hlen] at CR
          have HLEN := Lib.hid hlen
          clear hown e hlen
          rcases hj : rightB (joinL zs ts n) with _ | _
          · have HJ := Lib.hid hj
            rw [hj] at HT
            clear hj
            go_wp2_with fail
            refine CR.out.mono ?_
            rintro e w4 ⟨rfl, hb4⟩
            rw [HJ.out]
            go_wp2_with fail
            go_ret2
            exact RetSE.none_ (HJV.out HT.out) (hbel.trans (hb4.mono hbel.size)) _ (by rw [HT.out]; rfl)
          · have HJ := Lib.hid hj
            rw [hj] at HT
            clear hj
            go_wp2_with fail
            refine CR.out.mono ?_
            rintro e w4 ⟨rfl, hb4⟩
            rw [HJ.out]
            go_wp2_with fail
            go_ret2
            rw [HJW.out HT.out, HT.out]
            exact RetSE.own hgw (HO2.out.keep hb4) (hbel.trans (hb4.mono hbel.size)) _ (by rw [HLEN.out]; rfl)
    · have HE : Hid (joinE zs ts side = 11) := Lib.hid (by
        rw [joinE, if_pos (by simp [hr, hr', hl]), if_neg]
        simp only [Bool.and_eq_true, decide_eq_true_eq]; omega)
      have HV : Hid (joinV zs ts side = []) := Lib.hid (by simp [joinV, HE.out])
      clear hr hr' hl
      go_enter Try.func45, Try.ntmps45
      go_wp2_with fail
      refine (sh_right A c zs w hs h).mono ?_
      rintro e w1 ⟨rfl, hb⟩
      rw [HR.out]
      go_wp2_with fail
      refine (sh_right B d ts w1 hs' (h'.below hb)).mono ?_
      rintro e w2 ⟨rfl, hb2⟩
      rw [HR'.out]
      have hb12 := hb.trans (hb2.mono hb.size)
      go_wp2_with fail
      all_goals first | omega | (go_ret2; exact RetSE.none_ HV.out hb12 _ (by rw [HE.out]; rfl))
  · have hne : ((zs.length : Int) != (ts.length : Int)) = true := by simp; omega
    have HE : Hid (joinE zs ts side = 20) := Lib.hid (by simp [joinE, hl])
    have HV : Hid (joinV zs ts side = []) := Lib.hid (by simp [joinV, HE.out])
    clear hr hr'
    go_enter Try.func45, Try.ntmps45
    go_wp2_with fail
    refine (sh_right A c zs w hs h).mono ?_
    rintro e w1 ⟨rfl, hb⟩
    rw [HR.out]
    go_wp2_with fail
    refine (sh_right B d ts w1 hs' (h'.below hb)).mono ?_
    rintro e w2 ⟨rfl, hb2⟩
    rw [HR'.out]
    have hb12 := hb.trans (hb2.mono hb.size)
    go_wp2_with fail
    go_ret2
    exact RetSE.none_ HV.out hb12 _ (by rw [HE.out]; rfl)
end Go.Proofs.Ytingmabmglpmaaa
