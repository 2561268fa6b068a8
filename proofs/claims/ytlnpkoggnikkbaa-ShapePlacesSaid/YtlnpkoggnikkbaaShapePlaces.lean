/- The walk of the statement ShapePlaces. -/
import Derived.Test.YtlnpkoggnikkbaaOpen
import Derived.Test.YtlnpkoggnikkbaaLaw03Awake
namespace Go.Proofs.Ytlnpkoggnikkbaa
open Go.RowKit

set_option maxRecDepth 100000 in
set_option maxHeartbeats 4000000 in
theorem shapePlaces_calls (A B : Option Addr) (c d : Nat) (zs ats : List Int) (p : Int) (w : World) (h : IntsIn w A c zs) (h' : IntsIn w B d ats) :
    Calls Try.prog 7 #[.slice A zs.length c, .slice B ats.length d, .int .i64 p] w (LawTrue w) := by
  obtain ⟨h, -, -, -⟩ := h
  obtain ⟨h', -, -, -⟩ := h'
  by_cases h50 : 50 < zs.length
  · go_enter Try.func7, Try.ntmps7
    go_wp2_with fail
    refine (l03_awake w).mono ?_
    rintro e w1 ⟨rfl, hb⟩
    go_wp2_with fail
    go_ret
    exact ⟨rfl, hb⟩
  by_cases h50' : 50 < ats.length
  · go_enter Try.func7, Try.ntmps7
    go_wp2_with fail
    refine (l03_awake w).mono ?_
    rintro e w1 ⟨rfl, hb⟩
    go_wp2_with fail
    go_ret
    exact ⟨rfl, hb⟩
  have hs : zs.length ≤ 1000000 := by omega
  have hs' : ats.length ≤ 1000000 := by omega
  rcases hr : rightB zs with _ | _
  · have HP : Hid (placeV zs ats = 0 ∧ placeE zs ats = 20 ∧ atV zs p = [] ∧ atE zs p = 20) := Lib.hid (by simp [placeV, placeE, atV, atE, hr])
    have HR := Lib.hid hr
    clear hr
    go_enter Try.func7, Try.ntmps7
    go_wp2_with fail
    refine (sh_place A B c d zs ats w hs hs' h h').mono ?_
    rintro e w1 ⟨rfl, hb1⟩
    rw [HP.out.1, HP.out.2.1]
    go_wp2_with fail
    refine (sh_at A c zs p w1 hs (h.below hb1)).mono ?_
    rintro e w2 ⟨A1, c1, rfl, hrd, hb2, -, -⟩
    rw [HP.out.2.2.1, HP.out.2.2.2]
    have b2 := btr hb1 hb2
    go_wp2_with fail
    refine (ref_right A c zs w2 hs (h.below b2)).mono ?_
    rintro e w3 ⟨rfl, rfl⟩
    rw [HR.out]
    go_wp2_with fail
    refine (l03_awake w2).mono ?_
    rintro e w3 ⟨rfl, hb3⟩
    go_wp2_with fail
    go_ret
    exact ⟨rfl, btr b2 hb3⟩
  obtain ⟨r1, r4, rin, rpr⟩ := (rightB_iff zs).1 hr
  have RIN := Lib.hid rin
  have HR := Lib.hid hr
  have PIN : Hid (0 ≤ p ∧ p < prodL zs → atV zs p = idx zs p ∧ atE zs p = 0 ∧ placeV zs (idx zs p) = p ∧ placeE zs (idx zs p) = 0) := Lib.hid (fun ⟨p0, p1⟩ => by
    obtain ⟨e1, e2⟩ := place_idx zs (fun z hz => (inSides_mem rin hz).1) p
    rw [Int.emod_eq_of_lt p0 p1] at e1
    simp [atV, atE, placeV, placeE, hr, p0, p1, idx_length, e1, e2])
  have POUT : Hid (¬ (0 ≤ p ∧ p < prodL zs) → atV zs p = [] ∧ atE zs p = 11) := Lib.hid (fun hn => by
    constructor
    · rw [atV, if_neg]; simp only [Bool.and_eq_true, decide_eq_true_eq]; omega
    · rw [atE, if_pos hr, if_neg]; simp only [Bool.and_eq_true, decide_eq_true_eq]; omega)
  by_cases hl : ats.length = zs.length
  · have HL := Lib.hid hl
    have hl1 : ((ats.length : Int) == (zs.length : Int)) = true := by rw [hl]; simp
    have HT : Hid (inPlace (zs.zip ats) = true → placeV zs ats = placeOf (zs.zip ats) ∧ placeE zs ats = 0 ∧ atV zs (placeOf (zs.zip ats)) = ats ∧ atE zs (placeOf (zs.zip ats)) = 0) := Lib.hid (fun hi => by
      have hb := placeOf_bd zs ats hi zs.length (Nat.le_refl _) (by omega)
      rw [List.take_of_length_le (by simp; omega), List.take_of_length_le (Nat.le_refl _)] at hb
      have hx := idx_place zs ats (by omega) hi 0 (by omega)
      rw [Int.zero_mul, Int.zero_add] at hx
      simp [placeV, placeE, atV, atE, hr, hl, hi, hb, hx])
    have HF : Hid (inPlace (zs.zip ats) = false → placeV zs ats = 0 ∧ placeE zs ats = 11) := Lib.hid (fun hi => by simp [placeV, placeE, hr, hl, hi])
    clear hr rin hl
    go_enter Try.func7, Try.ntmps7
    go_wp2_with fail
    refine (sh_place A B c d zs ats w hs hs' h h').mono ?_
    rintro e w1 ⟨rfl, hb1⟩
    go_wp2_with fail
    refine (sh_at A c zs p w1 hs (h.below hb1)).mono ?_
    rintro e w2 ⟨A1, c1, rfl, hrd, hb2, -, -⟩
    have b2 := btr hb1 hb2
    have hA := h.below b2
    have hB := h'.below b2
    clear h h' hb1 hb2
    go_wp2_with fail
    refine (ref_right A c zs w2 hs hA).mono ?_
    rintro e w3 ⟨rfl, rfl⟩
    rw [HR.out]
    go_wp2_with fail
    go_loopw [11, 12, 67] (fun g x i wr => ∃ (k m : Nat) (b : Bool) (y : Int), k ≤ ats.length ∧ i = .int .i64 k ∧ g = .bool b ∧ x = .int .i64 y ∧ wr = w2.drewN m ∧ b = inPlace ((zs.zip ats).take k) ∧ (b = true → y = placeOf ((zs.zip ats).take k))) (fun _ _ i _ => ats.length - (intOf i).toNat)
    case atStart => exact ⟨0, 0, true, 0, Nat.zero_le _, rfl, rfl, rfl, rfl, rfl, fun _ => rfl⟩
    case round =>
      obtain ⟨k, m, b, y, hk, rfl, rfl, rfl, rfl, hbk, hy⟩ := hrel
      have HB := Lib.hid hbk
      have HY := Lib.hid hy
      clear hbk hy
      by_cases hlt : k < ats.length
      · obtain ⟨b1, off1, a, rfl, hbb1, hca, ha⟩ := hB.get hlt
        have hltz : k < zs.length := by rw [← HL.out]; exact hlt
        obtain ⟨b0, off0, z, rfl, hbb0, hcz, hz⟩ := hA.get hltz
        have HZA := Lib.hid (zip_at hz.out ha.out)
        have e0 : decide (k < ats.length) = true := by simpa using hlt
        cases b with
        | false =>
          go_wp2_with fail
          go_roundw
          case rel => exact ⟨k + 1, m, false, y, by omega, by go_num, rfl, rfl, rfl, by rw [take_at HZA.out, inPlace_snoc, ← HB.out]; rfl, fun hx => by cases hx⟩
          case measure => simp [intOf]; omega
        | true =>
          obtain ⟨pb1, pb2⟩ := placeOf_take_bd HB.out.symm (by omega) HL.out
          obtain ⟨qb1, qb2⟩ := prodL_take_bd zs RIN.out r4 k
          obtain ⟨hz1, hz2⟩ := inSides_get RIN.out hz.out
          have HY2 := Lib.hid (HY.out rfl)
          obtain ⟨y1, y2⟩ : 0 ≤ y ∧ y < 1099511627776 := by rw [HY2.out]; omega
          clear pb1 pb2 qb1 qb2
          have hm := mul_le_1024 (a := y + 1) (b := z) (c := 1099511627776) (by omega) (by omega) hz1 hz2
          obtain ⟨hm1, hm2⟩ := hm
          rw [Int.add_mul, Int.one_mul] at hm1 hm2
          have hm0 : 0 ≤ y * z := Int.mul_nonneg y1 (by omega)
          by_cases ha0 : 0 ≤ a
          · have d0 : decide (0 ≤ a) = true := by simpa using ha0
            by_cases haz : a < z
            · have d1 : decide (a < z) = true := by simpa using haz
              go_wp2_with fail
              go_big_quiet (fail)
              go_wp2_with fail
              go_big_quiet (fail)
              go_wp2_with fail
              go_roundw
              case rel => exact ⟨k + 1, _, true, _, by omega, by go_num, rfl, rfl, rfl, by rw [take_at HZA.out, inPlace_snoc, ← HB.out]; simp [ha0, haz], fun _ => by rw [take_at HZA.out, placeOf_snoc, HY2.out]⟩
              case measure => simp [intOf]; omega
            · have d1 : decide (a < z) = false := by simpa using haz
              go_wp2_with fail
              go_big_quiet (fail)
              go_wp2_with fail
              go_big_quiet (fail)
              go_wp2_with fail
              go_roundw
              case rel => exact ⟨k + 1, _, false, _, by omega, by go_num, rfl, rfl, rfl, by rw [take_at HZA.out, inPlace_snoc, ← HB.out]; simp; omega, fun hx => by cases hx⟩
              case measure => simp [intOf]; omega
          · have d0 : decide (0 ≤ a) = false := by simpa using ha0
            go_wp2_with fail
            go_big_quiet (fail)
            go_wp2_with fail
            go_big_quiet (fail)
            go_wp2_with fail
            go_roundw
            case rel => exact ⟨k + 1, _, false, _, by omega, by go_num, rfl, rfl, rfl, by rw [take_at HZA.out, inPlace_snoc, ← HB.out]; simp; omega, fun hx => by cases hx⟩
            case measure => simp [intOf]; omega
      · have e : Hid ((zs.zip ats).take k = zs.zip ats) := Lib.hid (List.take_of_length_le (by have := HL.out; simp; omega))
        have e0 : decide (k < ats.length) = false := by simpa using hlt
        rw [e.out] at HB HY
        have bm := below_drewN b2 m
        cases b with
        | true =>
          have HT2 := Lib.hid (HT.out HB.out.symm)
          have HY2 := Lib.hid (HY.out rfl)
          rw [HT2.out.1, HT2.out.2.1]
          rw [HY2.out]
          have CA := Lib.hid (sh_at A c zs (placeOf (zs.zip ats)) (w2.drewN m) hs (hA.drewN m))
          rw [HT2.out.2.2.1, HT2.out.2.2.2] at CA
          go_wp2_with fail
          refine CA.out.mono ?_
          rintro e w3 ⟨A2, c2, rfl, hrd2, hb3, -, -⟩
          go_wp2_with fail
          refine (ref_same A2 B c2 d ats ats w3 hs' hs' hrd2 ((hB.drewN m).below hb3)).mono ?_
          rintro e w4 ⟨rfl, n, rfl⟩
          rw [show decide (ats = ats) = true from by simp]
          have hA3 := (hA.drewN m).below hb3
          have hrd3 := (hrd.drewN m).below hb3
          have b3 := btr bm hb3
          clear hA hrd
          have hA := hA3
          have hrd := hrd3
          clear hA3 hrd3
          by_cases hp : 0 ≤ p ∧ p < prodL zs
          · have PV := Lib.hid (PIN.out hp)
            obtain ⟨hp0, hp1⟩ := hp
            have gA := hrd.drewN n
            rw [PV.out.1, PV.out.2.1]
            rw [PV.out.1] at gA
            go_wp2_with fail
            refine (ref_size A c zs _ r4 RIN (hA.drewN n)).mono ?_
            rintro e w5 ⟨rfl, rfl⟩
            go_wp2_with fail
            rw [idx_length]
            have CP := Lib.hid (sh_place A A1 c c1 zs (idx zs p) (w3.drewN n) hs (by rw [idx_length]; exact hs) (hA.drewN n) gA)
            rw [idx_length, PV.out.2.2.1, PV.out.2.2.2] at CP
            refine CP.out.mono ?_
            rintro e w6 ⟨rfl, hb6⟩
            go_wp2_with fail
            refine (l03_awake _).mono ?_
            rintro e w7 ⟨rfl, hb7⟩
            go_wp2_with fail
            go_ret
            exact ⟨rfl, btr (btr (below_drewN b3 n) hb6) hb7⟩
          · have PV := Lib.hid (POUT.out hp)
            rw [PV.out.1, PV.out.2]
            by_cases hp0 : p < 0
            · clear hp
              go_wp2_with fail
              refine (l03_awake _).mono ?_
              rintro e w7 ⟨rfl, hb7⟩
              go_wp2_with fail
              go_ret
              exact ⟨rfl, btr (below_drewN b3 n) hb7⟩
            · have hp1 : prodL zs ≤ p := by omega
              clear hp
              go_wp2_with fail
              refine (ref_size A c zs _ r4 RIN (hA.drewN n)).mono ?_
              rintro e w5 ⟨rfl, rfl⟩
              go_wp2_with fail
              refine (l03_awake _).mono ?_
              rintro e w7 ⟨rfl, hb7⟩
              go_wp2_with fail
              go_ret
              exact ⟨rfl, btr (below_drewN b3 n) hb7⟩
        | false =>
          have HF2 := Lib.hid (HF.out HB.out.symm)
          rw [HF2.out.1, HF2.out.2]
          by_cases hp : 0 ≤ p ∧ p < prodL zs
          · have PV := Lib.hid (PIN.out hp)
            obtain ⟨hp0, hp1⟩ := hp
            have gA := hrd.drewN m
            rw [PV.out.1, PV.out.2.1]
            rw [PV.out.1] at gA
            go_wp2_with fail
            refine (ref_size A c zs _ r4 RIN (hA.drewN m)).mono ?_
            rintro e w5 ⟨rfl, rfl⟩
            go_wp2_with fail
            rw [idx_length]
            have CP := Lib.hid (sh_place A A1 c c1 zs (idx zs p) (w2.drewN m) hs (by rw [idx_length]; exact hs) (hA.drewN m) gA)
            rw [idx_length, PV.out.2.2.1, PV.out.2.2.2] at CP
            refine CP.out.mono ?_
            rintro e w6 ⟨rfl, hb6⟩
            go_wp2_with fail
            refine (l03_awake _).mono ?_
            rintro e w7 ⟨rfl, hb7⟩
            go_wp2_with fail
            go_ret
            exact ⟨rfl, btr (btr (bm) hb6) hb7⟩
          · have PV := Lib.hid (POUT.out hp)
            rw [PV.out.1, PV.out.2]
            by_cases hp0 : p < 0
            · clear hp
              go_wp2_with fail
              refine (l03_awake _).mono ?_
              rintro e w7 ⟨rfl, hb7⟩
              go_wp2_with fail
              go_ret
              exact ⟨rfl, btr (bm) hb7⟩
            · have hp1 : prodL zs ≤ p := by omega
              clear hp
              go_wp2_with fail
              refine (ref_size A c zs _ r4 RIN (hA.drewN m)).mono ?_
              rintro e w5 ⟨rfl, rfl⟩
              go_wp2_with fail
              refine (l03_awake _).mono ?_
              rintro e w7 ⟨rfl, hb7⟩
              go_wp2_with fail
              go_ret
              exact ⟨rfl, btr (bm) hb7⟩
  · have HF2 : Hid (placeV zs ats = 0 ∧ placeE zs ats = 11) := Lib.hid (by simp [placeV, placeE, hr, hl])
    have hl1 : ((ats.length : Int) == (zs.length : Int)) = false := by simp; omega
    clear hr rin
    go_enter Try.func7, Try.ntmps7
    go_wp2_with fail
    refine (sh_place A B c d zs ats w hs hs' h h').mono ?_
    rintro e w1 ⟨rfl, hb1⟩
    rw [HF2.out.1, HF2.out.2]
    go_wp2_with fail
    refine (sh_at A c zs p w1 hs (h.below hb1)).mono ?_
    rintro e w2 ⟨A1, c1, rfl, hrd, hb2, -, -⟩
    have b2 := btr hb1 hb2
    have hA := h.below b2
    clear h h' hb1 hb2
    go_wp2_with fail
    refine (ref_right A c zs w2 hs hA).mono ?_
    rintro e w3 ⟨rfl, rfl⟩
    rw [HR.out]
    go_wp2_with fail
    go_loop [11, 12, 67] (fun g x i => ∃ k : Nat, k ≤ ats.length ∧ i = .int .i64 k ∧ g = .bool false ∧ x = .int .i64 0) (fun _ _ i => ats.length - (intOf i).toNat)
    case atStart => exact ⟨0, Nat.zero_le _, rfl, rfl, rfl⟩
    case round =>
      obtain ⟨k, hk, rfl, rfl, rfl⟩ := hrel
      by_cases hlt : k < ats.length
      · have e0 : decide (k < ats.length) = true := by simpa using hlt
        go_wp2_with fail
        go_round
        case rel => exact ⟨k + 1, by omega, by go_num, rfl, rfl⟩
        case measure => simp [intOf]; omega
      · have e0 : decide (k < ats.length) = false := by simpa using hlt
        by_cases hp : 0 ≤ p ∧ p < prodL zs
        · have PV := Lib.hid (PIN.out hp)
          obtain ⟨hp0, hp1⟩ := hp
          have gA := hrd.drewN 0
          rw [PV.out.1, PV.out.2.1]
          rw [PV.out.1] at gA
          go_wp2_with fail
          refine (ref_size A c zs _ r4 RIN (hA.drewN 0)).mono ?_
          rintro e w5 ⟨rfl, rfl⟩
          go_wp2_with fail
          rw [idx_length]
          have CP := Lib.hid (sh_place A A1 c c1 zs (idx zs p) (w2.drewN 0) hs (by rw [idx_length]; exact hs) (hA.drewN 0) gA)
          rw [idx_length, PV.out.2.2.1, PV.out.2.2.2] at CP
          refine CP.out.mono ?_
          rintro e w6 ⟨rfl, hb6⟩
          go_wp2_with fail
          refine (l03_awake _).mono ?_
          rintro e w7 ⟨rfl, hb7⟩
          go_wp2_with fail
          go_ret
          exact ⟨rfl, btr (btr (b2) hb6) hb7⟩
        · have PV := Lib.hid (POUT.out hp)
          rw [PV.out.1, PV.out.2]
          by_cases hp0 : p < 0
          · clear hp
            go_wp2_with fail
            refine (l03_awake _).mono ?_
            rintro e w7 ⟨rfl, hb7⟩
            go_wp2_with fail
            go_ret
            exact ⟨rfl, btr (b2) hb7⟩
          · have hp1 : prodL zs ≤ p := by omega
            clear hp
            go_wp2_with fail
            refine (ref_size A c zs _ r4 RIN (hA.drewN 0)).mono ?_
            rintro e w5 ⟨rfl, rfl⟩
            go_wp2_with fail
            refine (l03_awake _).mono ?_
            rintro e w7 ⟨rfl, hb7⟩
            go_wp2_with fail
            go_ret
            exact ⟨rfl, btr (b2) hb7⟩
end Go.Proofs.Ytlnpkoggnikkbaa
