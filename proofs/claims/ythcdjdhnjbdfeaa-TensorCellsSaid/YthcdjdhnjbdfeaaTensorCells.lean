/- The walk of the statement TensorCells. -/
import Derived.Test.YthcdjdhnjbdfeaaLaw04
import Derived.Test.YthcdjdhnjbdfeaaOpen
namespace Go.Proofs.Ythcdjdhnjbdfeaa
open Go.RowKit

set_option maxRecDepth 100000 in
set_option maxHeartbeats 4000000 in
theorem tensorCells_calls (A B C : Option Addr) (c d c' : Nat) (zs xs ats : List Int) (v : Int) (w : World) (h1 : IntsIn w A c zs) (h2 : IntsIn w B d xs) (h3 : IntsIn w C c' ats) :
    Calls Try.prog 4 #[.agg #[.slice A zs.length c, .slice B xs.length d], .slice C ats.length c', .int .i64 v] w (LawTrue w) := by
  obtain ⟨h1, -, -, -⟩ := h1
  obtain ⟨h2, -, -, -⟩ := h2
  obtain ⟨h3, hc3, hm3, -⟩ := h3
  unfold maxLen at hm3
  have b1 := (Below.refl w.heap.size w).alloc (Nat.le_refl _) (.cells #[.slice A zs.length c, .slice B xs.length d] 26)
  have k1 := Blk.new w 26 #[.slice A zs.length c, .slice B xs.length d]
  rcases hsm : smallB zs xs with _ | _
  · have HS := Lib.hid hsm
    clear hsm
    go_enter Try.func4, Try.ntmps4
    go_wp2_with fail
    refine (l04_small A B c d zs xs _).mono ?_
    rintro e w1 ⟨rfl, hb⟩
    rw [HS.out]
    go_wp2_with fail
    refine (l04_awake _).mono ?_
    rintro e w2 ⟨rfl, hb2⟩
    go_wp2_with fail
    go_ret
    exact ⟨rfl, btr (btr b1 hb) hb2⟩
  have HS := Lib.hid hsm
  obtain ⟨hs, hx⟩ : zs.length ≤ 50 ∧ xs.length ≤ 600 := by simpa [smallB] using hsm
  clear hsm
  by_cases ha : 50 < ats.length
  · go_enter Try.func4, Try.ntmps4
    go_wp2_with fail
    refine (l04_small A B c d zs xs _).mono ?_
    rintro e w1 ⟨rfl, hb⟩
    rw [HS.out]
    go_wp2_with fail
    refine (l04_awake _).mono ?_
    rintro e w2 ⟨rfl, hb2⟩
    go_wp2_with fail
    go_ret
    exact ⟨rfl, btr (btr b1 hb) hb2⟩
  have ha2 : ats.length ≤ 50 := by omega
  clear ha
  rcases hr : tRightB zs xs with _ | _
  · have HR := Lib.hid hr
    have HE : Hid (getE zs xs ats = 20) := Lib.hid (by simp [getE, hr])
    have HV : Hid (getV zs xs ats = 0) := Lib.hid (by simp [getV, HE.out])
    clear hr
    go_enter Try.func4, Try.ntmps4
    go_wp2_with fail
    refine (l04_small A _ c d zs xs _).mono ?_
    rintro e w1 ⟨rfl, hb⟩
    rw [HS.out]
    replace k1 := k1.keep hb
    replace b1 := btr b1 hb
    clear hb
    obtain ⟨q0, q1⟩ := box2 k1
    go_wp2_with fail
    refine (t_get A _ C c d c' zs xs ats w1 (by omega) (by omega) (by omega) (h1.below b1) (h2.below b1) (h3.below b1)).mono ?_
    rintro e w2 ⟨rfl, hb⟩
    rw [HE.out, HV.out]
    clear q0 q1
    replace k1 := k1.keep hb
    replace b1 := btr b1 hb
    clear hb
    obtain ⟨q0, q1⟩ := box2 k1
    go_wp2_with fail
    refine (t_with A _ C c d c' zs xs ats v w2 (by omega) (by omega) (by omega) (h1.below b1) (h2.below b1) (h3.below b1)).mono ?_
    rintro e w3 ⟨A1, c1, B1, d1, rfl, oS, oX, hb⟩
    replace oS := oS.more (B' := w.heap.size) b1.size
    replace oX := oX.more (B' := w.heap.size) b1.size
    clear q0 q1
    replace k1 := k1.keep hb
    replace b1 := btr b1 hb
    clear hb
    rw [HE.out, if_neg (by decide), if_neg (by decide)]
    rw [HE.out, if_neg (by decide)] at oX
    obtain ⟨q0, q1⟩ := box2 (k1.alloc (.cells #[.slice A1 0 c1, .slice B1 0 d1] 26))
    go_wp2_with fail
    clear q0 q1
    have kA := Blk.new (w3) 26 #[.slice A1 0 c1, .slice B1 0 d1]
    replace k1 := k1.alloc (.cells #[.slice A1 0 c1, .slice B1 0 d1] 26)
    replace b1 := b1.alloc b1.size (.cells #[.slice A1 0 c1, .slice B1 0 d1] 26)
    generalize hnew : (w3).alloc (.cells #[.slice A1 0 c1, .slice B1 0 d1] 26) = w4 at *
    clear hnew
    refine (l04_right A B c d zs xs w4 (by omega) (h1.below b1)).mono ?_
    rintro e w5 ⟨rfl, hb⟩
    rw [HR.out]
    replace kA := kA.keep hb
    replace b1 := btr b1 hb
    clear hb
    obtain ⟨p0, p1⟩ := box2 kA
    go_wp2_with fail
    refine (l04_awake _).mono ?_
    rintro e w6 ⟨rfl, hb⟩
    go_wp2_with fail
    go_ret
    exact ⟨rfl, btr b1 hb⟩
  have HR := Lib.hid hr
  by_cases hp : placeE zs ats = 0
  · obtain ⟨n, hn, hlt⟩ := placeV_in hr hp
    have HN := Lib.hid hn
    have HP := Lib.hid hp
    have HE : Hid (getE zs xs ats = 0) := Lib.hid (by simp [getE, hr, hp])
    obtain ⟨b0, off0, x, rfl, _, _, hx1⟩ := h2.get hlt
    have HV : Hid (getV zs xs ats = x) := Lib.hid (by simp [getV, HE.out, hn, List.getD, hx1.out])
    clear hr hp hn
    go_enter Try.func4, Try.ntmps4
    go_wp2_with fail
    refine (l04_small A _ c d zs xs _).mono ?_
    rintro e w1 ⟨rfl, hb⟩
    rw [HS.out]
    replace k1 := k1.keep hb
    replace b1 := btr b1 hb
    clear hb
    obtain ⟨q0, q1⟩ := box2 k1
    go_wp2_with fail
    refine (t_get A _ C c d c' zs xs ats w1 (by omega) (by omega) (by omega) (h1.below b1) (h2.below b1) (h3.below b1)).mono ?_
    rintro e w2 ⟨rfl, hb⟩
    rw [HE.out, HV.out]
    clear q0 q1
    replace k1 := k1.keep hb
    replace b1 := btr b1 hb
    clear hb
    obtain ⟨q0, q1⟩ := box2 k1
    go_wp2_with fail
    refine (t_with A _ C c d c' zs xs ats v w2 (by omega) (by omega) (by omega) (h1.below b1) (h2.below b1) (h3.below b1)).mono ?_
    rintro e w3 ⟨A1, c1, B1, d1, rfl, oS, oX, hb⟩
    replace oS := oS.more (B' := w.heap.size) b1.size
    replace oX := oX.more (B' := w.heap.size) b1.size
    clear q0 q1
    replace k1 := k1.keep hb
    replace b1 := btr b1 hb
    clear hb
    rw [HE.out, if_pos rfl] at oS
    rw [HE.out, if_pos rfl, HN.out, Int.toNat_natCast] at oX
    rw [HE.out, if_pos rfl, if_pos rfl, HN.out, Int.toNat_natCast, List.length_set]
    obtain ⟨q0, q1⟩ := box2 (k1.alloc (.cells #[.slice A1 zs.length c1, .slice B1 xs.length d1] 26))
    go_wp2_with fail
    clear q0 q1
    have kA := Blk.new (w3) 26 #[.slice A1 zs.length c1, .slice B1 xs.length d1]
    replace k1 := k1.alloc (.cells #[.slice A1 zs.length c1, .slice B1 xs.length d1] 26)
    replace oS := oS.alloc (.cells #[.slice A1 zs.length c1, .slice B1 xs.length d1] 26)
    replace oX := oX.alloc (.cells #[.slice A1 zs.length c1, .slice B1 xs.length d1] 26)
    replace b1 := b1.alloc b1.size (.cells #[.slice A1 zs.length c1, .slice B1 xs.length d1] 26)
    generalize hnew : (w3).alloc (.cells #[.slice A1 zs.length c1, .slice B1 xs.length d1] 26) = w4 at *
    clear hnew
    refine (l04_right A _ c d zs xs w4 (by omega) (h1.below b1)).mono ?_
    rintro e w5 ⟨rfl, hb⟩
    rw [HR.out]
    replace k1 := k1.keep hb
    replace kA := kA.keep hb
    replace oS := oS.keep hb
    replace oX := oX.keep hb
    replace b1 := btr b1 hb
    clear hb
    obtain ⟨q0, q1⟩ := box2 k1
    go_wp2_with fail
    refine (sh_place A C c c' zs ats w5 (by omega) (by omega) (h1.below b1) (h3.below b1)).mono ?_
    rintro e w6 ⟨rfl, hb⟩
    rw [HP.out, HN.out]
    clear q0 q1
    replace k1 := k1.keep hb
    replace kA := kA.keep hb
    replace oS := oS.keep hb
    replace oX := oX.keep hb
    replace b1 := btr b1 hb
    clear hb
    obtain ⟨q0, q1⟩ := box2 k1
    obtain ⟨p0, p1⟩ := box2 kA
    have r2 := h2.below b1
    have hcx := r2.all hx1.out
    have e1 : (x != x) = false := by simp
    have e2 : ((xs.length : Int) != (xs.length : Int)) = false := by simp
    have e3 : decide (xs.length ≤ n) = false := by simp; omega
    go_wp2_with fail
    refine (sh_equal A1 A c1 c zs zs w6 (by omega) (by omega) oS.rd (h1.below b1)).mono ?_
    rintro e w7 ⟨rfl, m, rfl⟩
    rw [decide_eq_true (rfl : zs = zs)]
    clear q0 q1 p0 p1 hcx
    obtain ⟨q0, q1⟩ := box2 (k1.drewN m)
    obtain ⟨p0, p1⟩ := box2 (kA.drewN m)
    go_wp2_with fail
    go_loopw [134] (fun i wr => ∃ k : Nat, k ≤ xs.length ∧ i = .int .i64 k ∧ Blk wr w.heap.size 26 #[.slice A zs.length c, .slice (some ⟨b0, off0, none⟩) xs.length d] ∧ Blk wr w3.heap.size 26 #[.slice A1 zs.length c1, .slice B1 xs.length d1] ∧ OwnA wr w.heap.size 27 B1 d1 (xs.set n v) ∧ Rd wr (some ⟨b0, off0, none⟩) xs ∧ Below w.heap.size w wr) (fun i _ => xs.length - (intOf i).toNat)
    case atStart => exact ⟨0, Nat.zero_le _, rfl, k1.drewN m, kA.drewN m, oX.drewN m, r2.drewN m, below_drewN b1 m⟩
    case round =>
      clear q0 q1 p0 p1
      obtain ⟨k, hk, rfl, k1r, kAr, oXr, r2r, hbel⟩ := hrel
      obtain ⟨q0, q1⟩ := box2 k1r
      obtain ⟨p0, p1⟩ := box2 kAr
      by_cases hlt2 : k < xs.length
      · by_cases hkn : k = n
        · subst hkn
          have hy : (xs.set k v)[k]? = some v := by rw [List.getElem?_set_self hlt2]
          obtain ⟨b2, off2, rfl, hb2, hcc2⟩ := oXr.rd k _ hy
          have e4 : ((k : Int) == (k : Int)) = true := by simp
          have e5 : ((k : Int) != (k : Int)) = false := by simp
          have e6 : (v != v) = false := by simp
          clear hy
          go_wp2_with fail
          go_big_quiet (fail)
          go_wp2_with fail
          go_roundw
          case rel => exact ⟨k + 1, by omega, by go_num, k1r.drewN _, kAr.drewN _, oXr.drewN _, r2r.drewN _, below_drewN hbel _⟩
          case measure => simp [intOf]; omega
        · obtain ⟨y, hy⟩ : ∃ y, Hid (xs[k]? = some y) := ⟨_, Lib.hid (List.getElem?_eq_getElem hlt2)⟩
          have hy2 : (xs.set n v)[k]? = some y := by rw [List.getElem?_set_ne (by omega)]; exact hy.out
          obtain ⟨b2, off2, rfl, hb2, hcc2⟩ := oXr.rd k _ hy2
          have hcy := r2r.all hy.out
          have e4 : ((k : Int) == (n : Int)) = false := by simp; omega
          have e5 : ((k : Int) != (n : Int)) = true := by simp; omega
          have e6 : (y != y) = false := by simp
          clear hy2 hkn
          go_wp2_with fail
          go_big_quiet (fail)
          go_wp2_with fail
          go_roundw
          case rel => exact ⟨k + 1, by omega, by go_num, k1r.drewN _, kAr.drewN _, oXr.drewN _, r2r.drewN _, below_drewN hbel _⟩
          case measure => simp [intOf]; omega
      · go_wp2_with fail
        refine (l04_awake _).mono ?_
        rintro e w8 ⟨rfl, hb⟩
        go_wp2_with fail
        go_ret
        exact ⟨rfl, btr hbel hb⟩
  · have HE : Hid (getE zs xs ats = placeE zs ats) := Lib.hid (by simp [getE, hr])
    have HV : Hid (getV zs xs ats = 0) := Lib.hid (by simp [getV, HE.out, hp])
    have HNE : Hid (¬ placeE zs ats = 0) := Lib.hid hp
    have e1 : (placeE zs ats != 0) = true := by simpa using hp
    have e2 : (placeE zs ats == placeE zs ats) = true := by simp
    clear hr hp
    go_enter Try.func4, Try.ntmps4
    go_wp2_with fail
    refine (l04_small A _ c d zs xs _).mono ?_
    rintro e w1 ⟨rfl, hb⟩
    rw [HS.out]
    replace k1 := k1.keep hb
    replace b1 := btr b1 hb
    clear hb
    obtain ⟨q0, q1⟩ := box2 k1
    go_wp2_with fail
    refine (t_get A _ C c d c' zs xs ats w1 (by omega) (by omega) (by omega) (h1.below b1) (h2.below b1) (h3.below b1)).mono ?_
    rintro e w2 ⟨rfl, hb⟩
    rw [HE.out, HV.out]
    clear q0 q1
    replace k1 := k1.keep hb
    replace b1 := btr b1 hb
    clear hb
    obtain ⟨q0, q1⟩ := box2 k1
    go_wp2_with fail
    refine (t_with A _ C c d c' zs xs ats v w2 (by omega) (by omega) (by omega) (h1.below b1) (h2.below b1) (h3.below b1)).mono ?_
    rintro e w3 ⟨A1, c1, B1, d1, rfl, oS, oX, hb⟩
    replace oS := oS.more (B' := w.heap.size) b1.size
    replace oX := oX.more (B' := w.heap.size) b1.size
    clear q0 q1
    replace k1 := k1.keep hb
    replace b1 := btr b1 hb
    clear hb
    rw [HE.out, if_neg HNE.out, if_neg HNE.out]
    rw [HE.out, if_neg HNE.out] at oX
    obtain ⟨q0, q1⟩ := box2 (k1.alloc (.cells #[.slice A1 0 c1, .slice B1 0 d1] 26))
    go_wp2_with fail
    clear q0 q1
    have kA := Blk.new (w3) 26 #[.slice A1 0 c1, .slice B1 0 d1]
    replace k1 := k1.alloc (.cells #[.slice A1 0 c1, .slice B1 0 d1] 26)
    replace b1 := b1.alloc b1.size (.cells #[.slice A1 0 c1, .slice B1 0 d1] 26)
    generalize hnew : (w3).alloc (.cells #[.slice A1 0 c1, .slice B1 0 d1] 26) = w4 at *
    clear hnew
    refine (l04_right A B c d zs xs w4 (by omega) (h1.below b1)).mono ?_
    rintro e w5 ⟨rfl, hb⟩
    rw [HR.out]
    replace k1 := k1.keep hb
    replace kA := kA.keep hb
    replace b1 := btr b1 hb
    clear hb
    obtain ⟨q0, q1⟩ := box2 k1
    go_wp2_with fail
    refine (sh_place A C c c' zs ats w5 (by omega) (by omega) (h1.below b1) (h3.below b1)).mono ?_
    rintro e w6 ⟨rfl, hb⟩
    clear q0 q1
    replace kA := kA.keep hb
    replace b1 := btr b1 hb
    clear hb
    obtain ⟨p0, p1⟩ := box2 kA
    go_wp2_with fail
    refine (l04_awake _).mono ?_
    rintro e w7 ⟨rfl, hb⟩
    go_wp2_with fail
    go_ret
    exact ⟨rfl, btr b1 hb⟩

end Go.Proofs.Ythcdjdhnjbdfeaa
