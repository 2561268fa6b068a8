/- The walks of package shape: places, indices, cuts and windows. -/
import Derived.Test.YthcdjdhnjbdfeaaShape
namespace Go.Proofs.Ythcdjdhnjbdfeaa
open Go.RowKit

/-- What 'Place' tells. -/
def placeE (zs ats : List Int) : Int := if rightB zs then (if decide (ats.length = zs.length) && inPlace (zs.zip ats) then 0 else 11) else 20
def placeV (zs ats : List Int) : Int := if rightB zs && decide (ats.length = zs.length) && inPlace (zs.zip ats) then placeOf (zs.zip ats) else 0

theorem take_zip (xs ys : List Int) (k : Nat) : (xs.zip ys).take k = (xs.take k).zip (ys.take k) := by
  induction xs generalizing ys k with
  | nil => simp
  | cons x xs ih => cases ys <;> cases k <;> simp [ih]

theorem placeOf_take_bd {zs ats : List Int} {k : Nat} (h : inPlace ((zs.zip ats).take k) = true) (hk : k ≤ zs.length) (hl : ats.length = zs.length) :
    0 ≤ placeOf ((zs.zip ats).take k) ∧ placeOf ((zs.zip ats).take k) < prodL (zs.take k) := by
  have := placeOf_bd (zs.take k) (ats.take k) (by rw [← take_zip]; exact h) k (by simp; omega) (by simp [hl])
  rw [← take_zip] at this
  simpa [List.take_take] using this

set_option maxHeartbeats 1000000 in
theorem sh_place (A B : Option Addr) (c d : Nat) (zs ats : List Int) (w : World) (hs : zs.length ≤ 1000000) (_hs' : ats.length ≤ 1000000) (h : Rd w A zs) (h' : Rd w B ats) :
    Calls Try.prog 26 #[.slice A zs.length c, .slice B ats.length d] w (RetB w (.tuple #[.int .i64 (placeV zs ats), .int .i64 (placeE zs ats)])) := by
  rcases hr : rightB zs with _ | _
  · have HV : Hid (placeV zs ats = 0) := Lib.hid (by simp [placeV, hr])
    have HE : Hid (placeE zs ats = 20) := Lib.hid (by simp [placeE, hr])
    have HR := Lib.hid hr
    clear hr
    go_enter Try.func26, Try.ntmps26
    go_wp2_with fail
    refine (sh_right A c zs w hs h).mono ?_
    rintro e w' ⟨rfl, hb⟩
    rw [HR.out]
    go_wp2_with fail
    go_ret2
    exact ⟨by rw [HV.out, HE.out]; rfl, hb⟩
  · have HR := Lib.hid hr
    obtain ⟨r1, r4, rin, rpr⟩ := (rightB_iff zs).1 hr
    have RIN := Lib.hid rin
    by_cases hl : ats.length = zs.length
    · have hl1 : ((ats.length : Int) != (zs.length : Int)) = false := by rw [hl]; simp
      have HL := Lib.hid hl
      have HVE : Hid (inPlace (zs.zip ats) = true → placeV zs ats = placeOf (zs.zip ats) ∧ placeE zs ats = 0) := Lib.hid (fun hi => by simp [placeV, placeE, hr, hl, hi])
      have HVF : Hid (inPlace (zs.zip ats) = false → placeV zs ats = 0 ∧ placeE zs ats = 11) := Lib.hid (fun hi => by simp [placeV, placeE, hr, hl, hi])
      clear hr rin hl
      go_enter Try.func26, Try.ntmps26
      go_wp2_with fail
      refine (sh_right A c zs w hs h).mono ?_
      rintro e w1 ⟨rfl, hb⟩
      rw [HR.out]
      have g := h.below hb
      have g' := h'.below hb
      clear h h'
      go_wp2_with fail
      go_loop [6, 19] (fun p i => ∃ k : Nat, k ≤ zs.length ∧ i = .int .i64 k ∧ p = .int .i64 (placeOf ((zs.zip ats).take k)) ∧ inPlace ((zs.zip ats).take k) = true) (fun _ i => zs.length - (intOf i).toNat)
      case atStart => exact ⟨0, Nat.zero_le _, rfl, rfl, rfl⟩
      case round =>
        obtain ⟨k, hk, rfl, rfl, hin⟩ := hrel
        have HIN := Lib.hid hin
        clear hin
        obtain ⟨pb1, pb2⟩ := placeOf_take_bd HIN.out hk HL.out
        obtain ⟨qb1, qb2⟩ := prodL_take_bd zs RIN.out r4 k
        by_cases hlt : k < zs.length
        · obtain ⟨b, off, z, rfl, hbb, hc, hz⟩ := g.get hlt
          obtain ⟨b', off', a, rfl, hbb', hc', ha⟩ := g'.get (k := k) (by rw [HL.out]; exact hlt)
          obtain ⟨hz1, hz2⟩ := inSides_get RIN.out hz.out
          have hlt' : k < ats.length := by rw [HL.out]; exact hlt
          have HZA := Lib.hid (zip_at hz.out ha.out)
          by_cases hin2 : 0 ≤ a ∧ a < z
          · obtain ⟨ha1, ha2⟩ := hin2
            have hm := mul_le_1024 (a := placeOf ((zs.zip ats).take k) + 1) (b := z) (c := 1099511627776) (by omega) (by omega) hz1 hz2
            obtain ⟨hm1, hm2⟩ := hm
            rw [Int.add_mul, Int.one_mul] at hm1 hm2
            have hm0 : 0 ≤ placeOf ((zs.zip ats).take k) * z := Int.mul_nonneg pb1 (by omega)
            go_wp2_with fail
            go_round
            case rel => exact ⟨k + 1, by omega, by go_num, by rw [take_at HZA.out, placeOf_snoc], by rw [take_at HZA.out, inPlace_snoc, HIN.out]; simp [ha1, ha2]⟩
            case measure => simp [intOf]; omega
          · have HF : Hid (inPlace (zs.zip ats) = false) := Lib.hid (by
              rcases hx : inPlace (zs.zip ats) with _ | _
              · rfl
              · have := List.all_eq_true.1 hx _ (List.mem_of_getElem? HZA.out)
                simp at this
                omega)
            go_wp2_with fail
            all_goals first | omega | (go_ret2; exact ⟨by rw [(HVF.out HF.out).1, (HVF.out HF.out).2]; rfl, hb⟩)
        · have e : Hid ((zs.zip ats).take k = zs.zip ats) := Lib.hid (List.take_of_length_le (by simp [HL.out]; omega))
          rw [e.out] at HIN
          go_wp2_with fail
          go_ret2
          exact ⟨by rw [(HVE.out HIN.out).1, (HVE.out HIN.out).2, e.out]; rfl, hb⟩
    · have HV : Hid (placeV zs ats = 0) := Lib.hid (by simp [placeV, hl])
      have HE : Hid (placeE zs ats = 11) := Lib.hid (by simp [placeE, hr, hl])
      have hl1 : ((ats.length : Int) != (zs.length : Int)) = true := by simp; omega
      clear hr
      go_enter Try.func26, Try.ntmps26
      go_wp2_with fail
      refine (sh_right A c zs w hs h).mono ?_
      rintro e w1 ⟨rfl, hb⟩
      rw [HR.out]
      go_wp2_with fail
      go_ret2
      exact ⟨by rw [HV.out, HE.out]; rfl, hb⟩

/-- What 'Window' tells. -/
def winOk (a b c : Int) : Bool := decide (1 ≤ a) && decide (a ≤ 1024) && decide (1 ≤ b) && decide (b ≤ 1024) && decide (1 ≤ c) && decide (c ≤ 1024) && decide (b ≤ a)
def winV (a b c : Int) : Int := if winOk a b c then 1 + (a - b) / c else 0
def winE (a b c : Int) : Int := if winOk a b c then 0 else 11

end Go.Proofs.Ythcdjdhnjbdfeaa
