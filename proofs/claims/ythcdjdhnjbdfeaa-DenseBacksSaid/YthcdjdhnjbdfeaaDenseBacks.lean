/- The walk of the statement DenseBacks. -/
import Derived.Test.YthcdjdhnjbdfeaaDenseGoes
namespace Go.Proofs.Ythcdjdhnjbdfeaa
open Go.RowKit

set_option maxRecDepth 100000 in
set_option maxHeartbeats 8000000 in
theorem denseBacks_calls (A B C D E F G H : Option Addr) (c d c' d' e' f' g' h' : Nat) (zs xs ts ys us vs ps gs : List Int) (w : World) (i1 : IntsIn w A c zs) (i2 : IntsIn w B d xs) (i3 : IntsIn w C c' ts) (i4 : IntsIn w D d' ys) (i5 : IntsIn w E e' us) (i6 : IntsIn w F f' vs) (i7 : IntsIn w G g' ps) (i8 : IntsIn w H h' gs) :
    Calls Try.prog 7 #[.agg #[.slice A zs.length c, .slice B xs.length d, .slice C ts.length c', .slice D ys.length d', .slice E us.length e', .slice F vs.length f', .slice G ps.length g', .slice H gs.length h']] w (LawTrue w) := by
  have HX := ints_i64 i2
  have HY := ints_i64 i4
  have HV := ints_i64 i6
  have HG := ints_i64 i8
  have hxd := i2.2.1
  have h1 := i1.rd
  have h2 := i2.rd
  have h3 := i3.rd
  have h4 := i4.rd
  have h5 := i5.rd
  have h6 := i6.rd
  have h7 := i7.rd
  have h8 := i8.rd
  clear i1 i2 i3 i4 i5 i6 i7 i8
  have k1 := Blk.new w 57 #[.slice A zs.length c, .slice B xs.length d, .slice C ts.length c', .slice D ys.length d', .slice E us.length e', .slice F vs.length f', .slice G ps.length g', .slice H gs.length h']
  rcases hsm : small6B zs xs ts ys us vs ps gs with _ | _
  · have HS := Lib.hid hsm
    clear hsm
    go_enter Try.func7, Try.ntmps7
    go_wp2_with fail
    refine (l06_small A B C D E F G H c d c' d' e' f' g' h' zs xs ts ys us vs ps gs _).mono ?_
    rintro e w1 ⟨rfl, hb⟩
    have pw1 := Prev.mk hb
    clear hb
    rw [HS.out]
    go_wp2_with fail
    refine (l06_awake _).mono ?_
    rintro e w2 ⟨rfl, hb⟩
    have pw2 := Prev.mk hb
    clear hb
    go_wp2_with fail
    go_ret
    exact ⟨rfl, bel w w2⟩
  obtain ⟨l2, l4, l6, l8, l1, l3, l5, l7⟩ := small6_le hsm
  have HS := Lib.hid hsm
  clear hsm
  rcases hbk : backB zs xs ts ys us vs ps gs with _ | _
  · have HB := Lib.hid hbk
    rcases hag : agreeB zs xs ts ys us vs with _ | _
    · have HA := Lib.hid hag
      clear hag hbk
      go_enter Try.func7, Try.ntmps7
      go_wp2_with fail
      refine (l06_small A B C D E F G H c d c' d' e' f' g' h' zs xs ts ys us vs ps gs _).mono ?_
      rintro e w1 ⟨rfl, hb⟩
      have pw1 := Prev.mk hb
      clear hb
      rw [HS.out]
      obtain ⟨q0, q1, q2, q3, q4, q5, q6, q7⟩ := box8 (k1.at (w' := w1))
      go_wp2_with fail
      clear q0 q1 q2 q3 q4 q5 q6 q7
      refine (d_back_no A B C D E F G H c d c' d' e' f' g' h' zs xs ts ys us vs ps gs _ (by omega) (by omega) (by omega) (by omega) h1.at h3.at h5.at h7.at HB).mono ?_
      rintro e w2 ⟨A1, c1, B1, d1, A2, c2, B2, d2, A3, c3, B3, d3, rfl, -, -, -, -, -, -, hb⟩
      have pw2 := Prev.mk hb
      clear hb
      have kY := Blk.new w2 63 #[.slice A1 0 c1, .slice B1 0 d1, .slice A2 0 c2, .slice B2 0 d2, .slice A3 0 c3, .slice B3 0 d3]
      have pY := Prev.alloc w2 (.cells #[.slice A1 0 c1, .slice B1 0 d1, .slice A2 0 c2, .slice B2 0 d2, .slice A3 0 c3, .slice B3 0 d3] 63)
      obtain ⟨q0, q1, q2, q3, q4, q5, q6, q7⟩ := box8 (k1.at (w' := w2.alloc (.cells #[.slice A1 0 c1, .slice B1 0 d1, .slice A2 0 c2, .slice B2 0 d2, .slice A3 0 c3, .slice B3 0 d3] 63)))
      go_wp2_with fail
      clear q0 q1 q2 q3 q4 q5 q6 q7
      generalize w2.alloc (.cells #[.slice A1 0 c1, .slice B1 0 d1, .slice A2 0 c2, .slice B2 0 d2, .slice A3 0 c3, .slice B3 0 d3] 63) = wy at *
      refine (l06_fits A B C D E F G H c d c' d' e' f' g' h' zs xs ts ys us vs ps gs _ (by omega) (by omega) (by omega) h1.at h3.at h5.at).mono ?_
      rintro e w3 ⟨rfl, hb⟩
      have pw3 := Prev.mk hb
      clear hb
      rw [HA.out]
      obtain ⟨t0, t1, t2, t3, t4, t5⟩ := box6 (kY.at (w' := w3))
      go_wp2_with fail
      refine (l06_awake _).mono ?_
      rintro e w9 ⟨rfl, hb⟩
      have pw9 := Prev.mk hb
      clear hb
      go_wp2_with fail
      go_ret
      exact ⟨rfl, bel w w9⟩
    rcases hrt : tRightB ps gs with _ | _
    · have HA := Lib.hid hag
      have HR := Lib.hid hrt
      clear hag hbk hrt
      go_enter Try.func7, Try.ntmps7
      go_wp2_with fail
      refine (l06_small A B C D E F G H c d c' d' e' f' g' h' zs xs ts ys us vs ps gs _).mono ?_
      rintro e w1 ⟨rfl, hb⟩
      have pw1 := Prev.mk hb
      clear hb
      rw [HS.out]
      obtain ⟨q0, q1, q2, q3, q4, q5, q6, q7⟩ := box8 (k1.at (w' := w1))
      go_wp2_with fail
      clear q0 q1 q2 q3 q4 q5 q6 q7
      refine (d_back_no A B C D E F G H c d c' d' e' f' g' h' zs xs ts ys us vs ps gs _ (by omega) (by omega) (by omega) (by omega) h1.at h3.at h5.at h7.at HB).mono ?_
      rintro e w2 ⟨A1, c1, B1, d1, A2, c2, B2, d2, A3, c3, B3, d3, rfl, -, -, -, -, -, -, hb⟩
      have pw2 := Prev.mk hb
      clear hb
      have kY := Blk.new w2 63 #[.slice A1 0 c1, .slice B1 0 d1, .slice A2 0 c2, .slice B2 0 d2, .slice A3 0 c3, .slice B3 0 d3]
      have pY := Prev.alloc w2 (.cells #[.slice A1 0 c1, .slice B1 0 d1, .slice A2 0 c2, .slice B2 0 d2, .slice A3 0 c3, .slice B3 0 d3] 63)
      obtain ⟨q0, q1, q2, q3, q4, q5, q6, q7⟩ := box8 (k1.at (w' := w2.alloc (.cells #[.slice A1 0 c1, .slice B1 0 d1, .slice A2 0 c2, .slice B2 0 d2, .slice A3 0 c3, .slice B3 0 d3] 63)))
      go_wp2_with fail
      clear q0 q1 q2 q3 q4 q5 q6 q7
      generalize w2.alloc (.cells #[.slice A1 0 c1, .slice B1 0 d1, .slice A2 0 c2, .slice B2 0 d2, .slice A3 0 c3, .slice B3 0 d3] 63) = wy at *
      refine (l06_fits A B C D E F G H c d c' d' e' f' g' h' zs xs ts ys us vs ps gs _ (by omega) (by omega) (by omega) h1.at h3.at h5.at).mono ?_
      rintro e w3 ⟨rfl, hb⟩
      have pw3 := Prev.mk hb
      clear hb
      rw [HA.out]
      obtain ⟨q0, q1, q2, q3, q4, q5, q6, q7⟩ := box8 (k1.at (w' := w3))
      go_wp2_with fail
      clear q0 q1 q2 q3 q4 q5 q6 q7
      refine (l06_right G H g' h' ps gs _ (by omega) h7.at).mono ?_
      rintro e w4 ⟨rfl, hb⟩
      have pw4 := Prev.mk hb
      clear hb
      rw [HR.out]
      obtain ⟨t0, t1, t2, t3, t4, t5⟩ := box6 (kY.at (w' := w4))
      go_wp2_with fail
      refine (l06_awake _).mono ?_
      rintro e w9 ⟨rfl, hb⟩
      have pw9 := Prev.mk hb
      clear hb
      go_wp2_with fail
      go_ret
      exact ⟨rfl, bel w w9⟩
    · have HA := Lib.hid hag
      have HR := Lib.hid hrt
      have HE : Hid (decide (ps = ts) = false) := Lib.hid (by simpa [backB, hag, hrt] using hbk)
      clear hag hbk hrt
      go_enter Try.func7, Try.ntmps7
      go_wp2_with fail
      refine (l06_small A B C D E F G H c d c' d' e' f' g' h' zs xs ts ys us vs ps gs _).mono ?_
      rintro e w1 ⟨rfl, hb⟩
      have pw1 := Prev.mk hb
      clear hb
      rw [HS.out]
      obtain ⟨q0, q1, q2, q3, q4, q5, q6, q7⟩ := box8 (k1.at (w' := w1))
      go_wp2_with fail
      clear q0 q1 q2 q3 q4 q5 q6 q7
      refine (d_back_no A B C D E F G H c d c' d' e' f' g' h' zs xs ts ys us vs ps gs _ (by omega) (by omega) (by omega) (by omega) h1.at h3.at h5.at h7.at HB).mono ?_
      rintro e w2 ⟨A1, c1, B1, d1, A2, c2, B2, d2, A3, c3, B3, d3, rfl, -, -, -, -, -, -, hb⟩
      have pw2 := Prev.mk hb
      clear hb
      have kY := Blk.new w2 63 #[.slice A1 0 c1, .slice B1 0 d1, .slice A2 0 c2, .slice B2 0 d2, .slice A3 0 c3, .slice B3 0 d3]
      have pY := Prev.alloc w2 (.cells #[.slice A1 0 c1, .slice B1 0 d1, .slice A2 0 c2, .slice B2 0 d2, .slice A3 0 c3, .slice B3 0 d3] 63)
      obtain ⟨q0, q1, q2, q3, q4, q5, q6, q7⟩ := box8 (k1.at (w' := w2.alloc (.cells #[.slice A1 0 c1, .slice B1 0 d1, .slice A2 0 c2, .slice B2 0 d2, .slice A3 0 c3, .slice B3 0 d3] 63)))
      go_wp2_with fail
      clear q0 q1 q2 q3 q4 q5 q6 q7
      generalize w2.alloc (.cells #[.slice A1 0 c1, .slice B1 0 d1, .slice A2 0 c2, .slice B2 0 d2, .slice A3 0 c3, .slice B3 0 d3] 63) = wy at *
      refine (l06_fits A B C D E F G H c d c' d' e' f' g' h' zs xs ts ys us vs ps gs _ (by omega) (by omega) (by omega) h1.at h3.at h5.at).mono ?_
      rintro e w3 ⟨rfl, hb⟩
      have pw3 := Prev.mk hb
      clear hb
      rw [HA.out]
      obtain ⟨q0, q1, q2, q3, q4, q5, q6, q7⟩ := box8 (k1.at (w' := w3))
      go_wp2_with fail
      clear q0 q1 q2 q3 q4 q5 q6 q7
      refine (l06_right G H g' h' ps gs _ (by omega) h7.at).mono ?_
      rintro e w4 ⟨rfl, hb⟩
      have pw4 := Prev.mk hb
      clear hb
      rw [HR.out]
      obtain ⟨q0, q1, q2, q3, q4, q5, q6, q7⟩ := box8 (k1.at (w' := w4))
      go_wp2_with fail
      clear q0 q1 q2 q3 q4 q5 q6 q7
      refine (retB_bdrew (ref_same G C g' c' ps ts _ (by omega) (by omega) h7.at h3.at)).mono ?_
      rintro e w5 ⟨rfl, hb⟩
      have pw5 := Prev.mk hb
      clear hb
      rw [HE.out]
      obtain ⟨t0, t1, t2, t3, t4, t5⟩ := box6 (kY.at (w' := w5))
      go_wp2_with fail
      refine (l06_awake _).mono ?_
      rintro e w9 ⟨rfl, hb⟩
      have pw9 := Prev.mk hb
      clear hb
      go_wp2_with fail
      go_ret
      exact ⟨rfl, bel w w9⟩
  · have HB := Lib.hid hbk
    obtain ⟨hag, hrt, hpt⟩ : agreeB zs xs ts ys us vs = true ∧ tRightB ps gs = true ∧ ps = ts := by simpa [backB, and_assoc] using hbk
    have HA := Lib.hid hag
    have HR := Lib.hid hrt
    subst hpt
    obtain ⟨M, N, rfl, rfl, hxl, hyl, hvl, hM1, hN1, hM, hN, hx6, -, -, -⟩ := agree_nats hag
    have hgl : gs.length = M := by have := ((tRightB_iff _ _).1 hrt).2; simp [prodL] at this; omega
    clear hag hbk hrt
    have HXL : Hid (xs.length = gs.length * vs.length) := Lib.hid (by rw [hgl, hvl]; exact hxl)
    clear hxl hyl hvl hgl
    have hvN : vs.length ≤ 1024 := by omega
    have hgN : gs.length ≤ 1024 := by omega
    obtain ⟨BW, HBW⟩ : ∃ L, Hid (L = backW gs vs) := ⟨_, Lib.hid rfl⟩
    obtain ⟨BX, HBX⟩ : ∃ L, Hid (L = backX vs.length xs gs) := ⟨_, Lib.hid rfl⟩
    have lBW : BW.length ≤ 1000000 := by
      rw [HBW.out, backW_length]
      have := Nat.mul_le_mul l8 l6
      omega
    have lBX : BX.length ≤ 1000000 := by rw [HBX.out]; simp [backX]; omega
    have CG := Lib.hid fun (w' : World) (g1 : Rd w' A [(M : Int), (N : Int)]) (g2 : Rd w' B xs) (g3 : Rd w' C [(M : Int)]) (g5 : Rd w' E us) (g6 : Rd w' F vs) (g7 : Rd w' G [(M : Int)]) (g8 : Rd w' H gs) => d_back_yes A B C D E F G H c d c' d' e' f' g' h' [(M : Int), (N : Int)] xs [(M : Int)] ys us vs [(M : Int)] gs w' hxd (by omega) g1 g2 g3 g5 g6 g7 g8 HX HV HG HB
    rw [← HBW.out, ← HBX.out] at CG
    have CW := Lib.hid fun (A4 A5 : Option Addr) (c4 c5 : Nat) (w' : World) (g1 : Rd w' A4 gs) (g2 : Rd w' A5 vs) => r6_backW A4 A5 c4 c5 gs vs w' hgN hvN g1 g2 HG HV
    rw [← HBW.out] at CW
    have CX := Lib.hid fun (A4 A5 : Option Addr) (c4 c5 : Nat) (w' : World) (g1 : Rd w' A4 xs) (g2 : Rd w' A5 gs) => r6_backX A4 A5 c4 c5 vs.length xs gs w' hvN hgN HXL hx6 g1 g2 HX HG
    rw [← HBX.out] at CX
    have CS1 := Lib.hid fun (A1 B1 D1 : Option Addr) (c1 d1 d2 : Nat) (w' : World) (g1 : Rd w' A1 [(M : Int), (N : Int)]) (g2 : Rd w' B1 BW) (g3 : Rd w' A [(M : Int), (N : Int)]) (g4 : Rd w' D1 BW) => l06_same A1 B1 A D1 c1 d1 c d2 [(M : Int), (N : Int)] BW [(M : Int), (N : Int)] BW w' (by simp) (by simp) lBW lBW g1 g2 g3 g4
    simp only [decide_true, Bool.and_self] at CS1
    have CS2 := Lib.hid fun (A1 B1 D1 : Option Addr) (c1 d1 d2 : Nat) (w' : World) (g1 : Rd w' A1 [(M : Int)]) (g2 : Rd w' B1 gs) (g3 : Rd w' C [(M : Int)]) (g4 : Rd w' D1 gs) => l06_same A1 B1 C D1 c1 d1 c' d2 [(M : Int)] gs [(M : Int)] gs w' (by simp) (by simp) (by omega) (by omega) g1 g2 g3 g4
    simp only [decide_true, Bool.and_self] at CS2
    have CS3 := Lib.hid fun (A1 B1 D1 : Option Addr) (c1 d1 d2 : Nat) (w' : World) (g1 : Rd w' A1 us) (g2 : Rd w' B1 BX) (g3 : Rd w' E us) (g4 : Rd w' D1 BX) => l06_same A1 B1 E D1 c1 d1 e' d2 us BX us BX w' (by omega) (by omega) lBX lBX g1 g2 g3 g4
    simp only [decide_true, Bool.and_self] at CS3
    go_enter Try.func7, Try.ntmps7
    go_wp2_with fail
    refine (l06_small A B C D E F G H c d c' d' e' f' g' h' [(M : Int), (N : Int)] xs [(M : Int)] ys us vs [(M : Int)] gs _).mono ?_
    rintro e w1 ⟨rfl, hb⟩
    have pw1 := Prev.mk hb
    clear hb
    rw [HS.out]
    obtain ⟨q0, q1, q2, q3, q4, q5, q6, q7⟩ := box8 (k1.at (w' := w1))
    go_wp2_with fail
    clear q0 q1 q2 q3 q4 q5 q6 q7
    refine (CG.out _ h1.at h2.at h3.at h5.at h6.at h7.at h8.at).mono ?_
    rintro e w2 ⟨A1, c1, B1, d1, A2, c2, B2, d2, A3, c3, B3, d3, rfl, s1, x1, s2, x2, s3, x3, hb⟩
    have pw2 := Prev.mk hb
    clear hb
    have kY := Blk.new w2 63 #[.slice A1 2 c1, .slice B1 BW.length d1, .slice A2 1 c2, .slice B2 gs.length d2, .slice A3 us.length c3, .slice B3 BX.length d3]
    have pY := Prev.alloc w2 (.cells #[.slice A1 2 c1, .slice B1 BW.length d1, .slice A2 1 c2, .slice B2 gs.length d2, .slice A3 us.length c3, .slice B3 BX.length d3] 63)
    obtain ⟨q0, q1, q2, q3, q4, q5, q6, q7⟩ := box8 (k1.at (w' := w2.alloc (.cells #[.slice A1 2 c1, .slice B1 BW.length d1, .slice A2 1 c2, .slice B2 gs.length d2, .slice A3 us.length c3, .slice B3 BX.length d3] 63)))
    go_wp2_with fail
    clear q0 q1 q2 q3 q4 q5 q6 q7
    generalize w2.alloc (.cells #[.slice A1 2 c1, .slice B1 BW.length d1, .slice A2 1 c2, .slice B2 gs.length d2, .slice A3 us.length c3, .slice B3 BX.length d3] 63) = wy at *
    refine (l06_fits A B C D E F G H c d c' d' e' f' g' h' [(M : Int), (N : Int)] xs [(M : Int)] ys us vs [(M : Int)] gs _ (by simp) (by simp) (by omega) h1.at h3.at h5.at).mono ?_
    rintro e w3 ⟨rfl, hb⟩
    have pw3 := Prev.mk hb
    clear hb
    rw [HA.out]
    obtain ⟨q0, q1, q2, q3, q4, q5, q6, q7⟩ := box8 (k1.at (w' := w3))
    go_wp2_with fail
    clear q0 q1 q2 q3 q4 q5 q6 q7
    refine (l06_right G H g' h' [(M : Int)] gs _ (by simp) h7.at).mono ?_
    rintro e w4 ⟨rfl, hb⟩
    have pw4 := Prev.mk hb
    clear hb
    rw [HR.out]
    obtain ⟨q0, q1, q2, q3, q4, q5, q6, q7⟩ := box8 (k1.at (w' := w4))
    go_wp2_with fail
    clear q0 q1 q2 q3 q4 q5 q6 q7
    refine (retB_bdrew (ref_same G C g' c' [(M : Int)] [(M : Int)] _ (by simp) (by simp) h7.at h3.at)).mono ?_
    rintro e w5 ⟨rfl, hb⟩
    have pw5 := Prev.mk hb
    clear hb
    rw [show decide (([(M : Int)] : List Int) = [(M : Int)]) = true from decide_eq_true rfl]
    go_wp2_with fail
    have HK0 : Hid (∀ w' : World, Below (w5).heap.size (w5) w' → w'.cell? ⟨w2.heap.size, 0, none⟩ = some (.slice A1 2 c1) ∧ w'.cell? ⟨w2.heap.size, 1, none⟩ = some (.slice B1 BW.length d1) ∧ w'.cell? ⟨w2.heap.size, 2, none⟩ = some (.slice A2 1 c2) ∧ w'.cell? ⟨w2.heap.size, 3, none⟩ = some (.slice B2 gs.length d2) ∧ w'.cell? ⟨w2.heap.size, 4, none⟩ = some (.slice A3 us.length c3) ∧ w'.cell? ⟨w2.heap.size, 5, none⟩ = some (.slice B3 BX.length d3) ∧ w'.cell? ⟨w.heap.size, 0, none⟩ = some (.slice A 2 c) ∧ w'.cell? ⟨w.heap.size, 1, none⟩ = some (.slice B xs.length d) ∧ w'.cell? ⟨w.heap.size, 2, none⟩ = some (.slice C 1 c') ∧ w'.cell? ⟨w.heap.size, 3, none⟩ = some (.slice D ys.length d') ∧ w'.cell? ⟨w.heap.size, 4, none⟩ = some (.slice E us.length e') ∧ w'.cell? ⟨w.heap.size, 5, none⟩ = some (.slice F vs.length f') ∧ w'.cell? ⟨w.heap.size, 6, none⟩ = some (.slice G 1 g') ∧ w'.cell? ⟨w.heap.size, 7, none⟩ = some (.slice H gs.length h')) := Lib.hid (fun w' hbk => ⟨(kY.at.keep hbk).cell 0, (kY.at.keep hbk).cell 1, (kY.at.keep hbk).cell 2, (kY.at.keep hbk).cell 3, (kY.at.keep hbk).cell 4, (kY.at.keep hbk).cell 5, (k1.at.keep hbk).cell 0, (k1.at.keep hbk).cell 1, (k1.at.keep hbk).cell 2, (k1.at.keep hbk).cell 3, (k1.at.keep hbk).cell 4, (k1.at.keep hbk).cell 5, (k1.at.keep hbk).cell 6, (k1.at.keep hbk).cell 7⟩)
    refine wp_region_held_drew (S := fun w' => w'.cell? ⟨w2.heap.size, 0, none⟩ = some (.slice A1 2 c1) ∧ w'.cell? ⟨w2.heap.size, 1, none⟩ = some (.slice B1 BW.length d1) ∧ w'.cell? ⟨w2.heap.size, 2, none⟩ = some (.slice A2 1 c2) ∧ w'.cell? ⟨w2.heap.size, 3, none⟩ = some (.slice B2 gs.length d2) ∧ w'.cell? ⟨w2.heap.size, 4, none⟩ = some (.slice A3 us.length c3) ∧ w'.cell? ⟨w2.heap.size, 5, none⟩ = some (.slice B3 BX.length d3) ∧ w'.cell? ⟨w.heap.size, 0, none⟩ = some (.slice A 2 c) ∧ w'.cell? ⟨w.heap.size, 1, none⟩ = some (.slice B xs.length d) ∧ w'.cell? ⟨w.heap.size, 2, none⟩ = some (.slice C 1 c') ∧ w'.cell? ⟨w.heap.size, 3, none⟩ = some (.slice D ys.length d') ∧ w'.cell? ⟨w.heap.size, 4, none⟩ = some (.slice E us.length e') ∧ w'.cell? ⟨w.heap.size, 5, none⟩ = some (.slice F vs.length f') ∧ w'.cell? ⟨w.heap.size, 6, none⟩ = some (.slice G 1 g') ∧ w'.cell? ⟨w.heap.size, 7, none⟩ = some (.slice H gs.length h')) (by kernel_rfl) (HK0.out _ (bel _ _)) (fun _ => ?_)
    refine gen_drewH (fun wD pwD => ?_)
    have hHeld := HK0.out wD (bel _ _)
    refine wpAnyH_on (i := 0) (d := 66) (v := ?_) rfl rfl (by kernel_rfl) (by kernel_rfl) (by kernel_rfl) (fun _ _ _ h => h) (by kernel_rfl) (by assumption) ?_ ?_
    rotate_left
    · intro w hSw
      (try dsimp only at hSw)
      go_simp
      try (with_reducible rfl)
    simp only [List.set]
    refine wpAnyH_on (i := 1) (d := 67) (v := ?_) rfl rfl (by kernel_rfl) (by kernel_rfl) (by kernel_rfl) (fun _ _ _ h => h) (by kernel_rfl) (by assumption) ?_ ?_
    rotate_left
    · intro w hSw
      (try dsimp only at hSw)
      go_simp
      try (with_reducible rfl)
    simp only [List.set]
    refine wpAnyH_on (i := 2) (d := 68) (v := ?_) rfl rfl (by kernel_rfl) (by kernel_rfl) (by kernel_rfl) (fun _ _ _ h => h) (by kernel_rfl) (by assumption) ?_ ?_
    rotate_left
    · intro w hSw
      (try dsimp only at hSw)
      go_simp
      try (with_reducible rfl)
    simp only [List.set]
    refine wpAnyH_on (i := 3) (d := 69) (v := ?_) rfl rfl (by kernel_rfl) (by kernel_rfl) (by kernel_rfl) (fun _ _ _ h => h) (by kernel_rfl) (by assumption) ?_ ?_
    rotate_left
    · intro w hSw
      (try dsimp only at hSw)
      go_simp
      try (with_reducible rfl)
    simp only [List.set]
    refine wpAnyH_on (i := 4) (d := 70) (v := ?_) rfl rfl (by kernel_rfl) (by kernel_rfl) (by kernel_rfl) (fun _ _ _ h => h) (by kernel_rfl) (by assumption) ?_ ?_
    rotate_left
    · intro w hSw
      (try dsimp only at hSw)
      go_simp
      try (with_reducible rfl)
    simp only [List.set]
    refine wpAnyH_on (i := 5) (d := 71) (v := ?_) rfl rfl (by kernel_rfl) (by kernel_rfl) (by kernel_rfl) (fun _ _ _ h => h) (by kernel_rfl) (by assumption) ?_ ?_
    rotate_left
    · intro w hSw
      (try dsimp only at hSw)
      go_simp
      try (with_reducible rfl)
    simp only [List.set]
    refine wpAnyH_on (i := 6) (d := 72) (v := ?_) rfl rfl (by kernel_rfl) (by kernel_rfl) (by kernel_rfl) (fun _ _ _ h => h) (by kernel_rfl) (by assumption) ?_ ?_
    rotate_left
    · intro w hSw
      (try dsimp only at hSw)
      go_simp
      try (with_reducible rfl)
    simp only [List.set]
    refine wpAnyH_on (i := 7) (d := 73) (v := ?_) rfl rfl (by kernel_rfl) (by kernel_rfl) (by kernel_rfl) (fun _ _ _ h => h) (by kernel_rfl) (by assumption) ?_ ?_
    rotate_left
    · intro w hSw
      (try dsimp only at hSw)
      go_simp
      try (with_reducible rfl)
    simp only [List.set]
    refine wpAnyH_on (i := 8) (d := 74) (v := ?_) rfl rfl (by kernel_rfl) (by kernel_rfl) (by kernel_rfl) (fun _ _ _ h => h) (by kernel_rfl) (by assumption) ?_ ?_
    rotate_left
    · intro w hSw
      (try dsimp only at hSw)
      go_simp
      try (with_reducible rfl)
    simp only [List.set]
    refine wpAnyH_on (i := 9) (d := 75) (v := ?_) rfl rfl (by kernel_rfl) (by kernel_rfl) (by kernel_rfl) (fun _ _ _ h => h) (by kernel_rfl) (by assumption) ?_ ?_
    rotate_left
    · intro w hSw
      (try dsimp only at hSw)
      go_simp
      try (with_reducible rfl)
    simp only [List.set]
    refine wpAnyH_on (i := 11) (d := 77) (v := ?_) rfl rfl (by kernel_rfl) (by kernel_rfl) (by kernel_rfl) (fun _ _ _ h => h) (by kernel_rfl) (by assumption) ?_ ?_
    rotate_left
    · intro w hSw
      (try dsimp only at hSw)
      go_simp
      try (with_reducible rfl)
    simp only [List.set]
    refine wpAnyH_on (i := 12) (d := 78) (v := ?_) rfl rfl (by kernel_rfl) (by kernel_rfl) (by kernel_rfl) (fun _ _ _ h => h) (by kernel_rfl) (by assumption) ?_ ?_
    rotate_left
    · intro w hSw
      (try dsimp only at hSw)
      go_simp
      try (with_reducible rfl)
    simp only [List.set]
    refine wpAnyH_ready (rs := [10]) (by kernel_rfl) (by simp) ?_
    refine AllReadyH.cons rfl (fun K hK => ?_) AllReadyH.nil
    go_simp
    refine (l06_cells G H g' h' [(M : Int)] gs _ (by omega) h8.at).mono ?_
    rintro e u1 ⟨P1, m1, rfl, o1, hb⟩
    dsimp only
    have pu1 := Prev.mk hb
    clear hb
    refine hK.out _ _ (HK0.out _ (bel _ _)) (fun hHeld => ?_)
    clear hK K
    try dsimp only [Act.put, List.setIfInBounds_toArray, List.set_cons_zero, List.set_cons_succ]
    refine wpAnyH_ready (rs := [13]) (by kernel_rfl) (by simp) ?_
    refine AllReadyH.cons rfl (fun K hK => ?_) AllReadyH.nil
    go_simp
    refine (l06_cells E F e' f' us vs _ (by omega) h6.at).mono ?_
    rintro e u2 ⟨P2, m2, rfl, o2, hb⟩
    dsimp only
    have pu2 := Prev.mk hb
    clear hb
    refine hK.out _ _ (HK0.out _ (bel _ _)) (fun hHeld => ?_)
    clear hK K
    try dsimp only [Act.put, List.setIfInBounds_toArray, List.set_cons_zero, List.set_cons_succ]
    refine wpAnyH_ready (rs := [14]) (by kernel_rfl) (by simp) ?_
    refine AllReadyH.cons rfl (fun K hK => ?_) AllReadyH.nil
    go_simp
    refine (CW.out P1 P2 m1 m2 _ o1.rd.at o2.rd.at).mono ?_
    rintro e u3 ⟨P3, m3, rfl, o3, hb⟩
    dsimp only
    have pu3 := Prev.mk hb
    clear hb
    refine hK.out _ _ (HK0.out _ (bel _ _)) (fun hHeld => ?_)
    clear hK K
    try dsimp only [Act.put, List.setIfInBounds_toArray, List.set_cons_zero, List.set_cons_succ]
    refine wpAnyH_ready (rs := [15]) (by kernel_rfl) (by simp) ?_
    refine AllReadyH.cons rfl (fun K hK => ?_) AllReadyH.nil
    go_simp
    refine (CS1.out A1 B1 P3 c1 d1 m3 _ s1.rd.at x1.rd.at h1.at o3.rd.at).mono ?_
    rintro e u4 ⟨rfl, hb⟩
    dsimp only
    have pu4 := Prev.mk hb
    clear hb
    refine hK.out _ _ (HK0.out _ (bel _ _)) (fun hHeld => ?_)
    clear hK K
    try dsimp only [Act.put, List.setIfInBounds_toArray, List.set_cons_zero, List.set_cons_succ]
    refine wpAnyH_on (i := 16) (d := 82) (v := ?_) rfl rfl (by kernel_rfl) (by kernel_rfl) (by kernel_rfl) (fun _ _ _ h => h) (by kernel_rfl) (by assumption) ?_ ?_
    rotate_left
    · intro w hSw
      (try dsimp only at hSw)
      go_simp
      try (with_reducible rfl)
    simp only [List.set]
    refine wpAnyH_on (i := 17) (d := 83) (v := ?_) rfl rfl (by kernel_rfl) (by kernel_rfl) (by kernel_rfl) (fun _ _ _ h => h) (by kernel_rfl) (by assumption) ?_ ?_
    rotate_left
    · intro w hSw
      (try dsimp only at hSw)
      go_simp
      try (with_reducible rfl)
    simp only [List.set]
    refine wpAnyH_on (i := 18) (d := 84) (v := ?_) rfl rfl (by kernel_rfl) (by kernel_rfl) (by kernel_rfl) (fun _ _ _ h => h) (by kernel_rfl) (by assumption) ?_ ?_
    rotate_left
    · intro w hSw
      (try dsimp only at hSw)
      go_simp
      try (with_reducible rfl)
    simp only [List.set]
    refine wpAnyH_on (i := 19) (d := 85) (v := ?_) rfl rfl (by kernel_rfl) (by kernel_rfl) (by kernel_rfl) (fun _ _ _ h => h) (by kernel_rfl) (by assumption) ?_ ?_
    rotate_left
    · intro w hSw
      (try dsimp only at hSw)
      go_simp
      try (with_reducible rfl)
    simp only [List.set]
    refine wpAnyH_on (i := 20) (d := 86) (v := ?_) rfl rfl (by kernel_rfl) (by kernel_rfl) (by kernel_rfl) (fun _ _ _ h => h) (by kernel_rfl) (by assumption) ?_ ?_
    rotate_left
    · intro w hSw
      (try dsimp only at hSw)
      go_simp
      try (with_reducible rfl)
    simp only [List.set]
    refine wpAnyH_on (i := 21) (d := 87) (v := ?_) rfl rfl (by kernel_rfl) (by kernel_rfl) (by kernel_rfl) (fun _ _ _ h => h) (by kernel_rfl) (by assumption) ?_ ?_
    rotate_left
    · intro w hSw
      (try dsimp only at hSw)
      go_simp
      try (with_reducible rfl)
    simp only [List.set]
    refine wpAnyH_on (i := 22) (d := 88) (v := ?_) rfl rfl (by kernel_rfl) (by kernel_rfl) (by kernel_rfl) (fun _ _ _ h => h) (by kernel_rfl) (by assumption) ?_ ?_
    rotate_left
    · intro w hSw
      (try dsimp only at hSw)
      go_simp
      try (with_reducible rfl)
    simp only [List.set]
    refine wpAnyH_on (i := 23) (d := 89) (v := ?_) rfl rfl (by kernel_rfl) (by kernel_rfl) (by kernel_rfl) (fun _ _ _ h => h) (by kernel_rfl) (by assumption) ?_ ?_
    rotate_left
    · intro w hSw
      (try dsimp only at hSw)
      go_simp
      try (with_reducible rfl)
    simp only [List.set]
    refine wpAnyH_on (i := 24) (d := 90) (v := ?_) rfl rfl (by kernel_rfl) (by kernel_rfl) (by kernel_rfl) (fun _ _ _ h => h) (by kernel_rfl) (by assumption) ?_ ?_
    rotate_left
    · intro w hSw
      (try dsimp only at hSw)
      go_simp
      try (with_reducible rfl)
    simp only [List.set]
    refine wpAnyH_ready (rs := [25]) (by kernel_rfl) (by simp) ?_
    refine AllReadyH.cons rfl (fun K hK => ?_) AllReadyH.nil
    go_simp
    refine (l06_cells G H g' h' [(M : Int)] gs _ (by omega) h8.at).mono ?_
    rintro e u5 ⟨P5, m5, rfl, o5, hb⟩
    dsimp only
    have pu5 := Prev.mk hb
    clear hb
    refine hK.out _ _ (HK0.out _ (bel _ _)) (fun hHeld => ?_)
    clear hK K
    try dsimp only [Act.put, List.setIfInBounds_toArray, List.set_cons_zero, List.set_cons_succ]
    refine wpAnyH_ready (rs := [26]) (by kernel_rfl) (by simp) ?_
    refine AllReadyH.cons rfl (fun K hK => ?_) AllReadyH.nil
    go_simp
    refine (CS2.out A2 B2 P5 c2 d2 m5 _ s2.rd.at x2.rd.at h3.at o5.rd.at).mono ?_
    rintro e u6 ⟨rfl, hb⟩
    dsimp only
    have pu6 := Prev.mk hb
    clear hb
    refine hK.out _ _ (HK0.out _ (bel _ _)) (fun hHeld => ?_)
    clear hK K
    try dsimp only [Act.put, List.setIfInBounds_toArray, List.set_cons_zero, List.set_cons_succ]
    refine wpAnyH_on (i := 27) (d := 93) (v := ?_) rfl rfl (by kernel_rfl) (by kernel_rfl) (by kernel_rfl) (fun _ _ _ h => h) (by kernel_rfl) (by assumption) ?_ ?_
    rotate_left
    · intro w hSw
      (try dsimp only at hSw)
      go_simp
      try (with_reducible rfl)
    simp only [List.set]
    refine wpAnyH_on (i := 28) (d := 94) (v := ?_) rfl rfl (by kernel_rfl) (by kernel_rfl) (by kernel_rfl) (fun _ _ _ h => h) (by kernel_rfl) (by assumption) ?_ ?_
    rotate_left
    · intro w hSw
      (try dsimp only at hSw)
      go_simp
      try (with_reducible rfl)
    simp only [List.set]
    refine wpAnyH_on (i := 29) (d := 95) (v := ?_) rfl rfl (by kernel_rfl) (by kernel_rfl) (by kernel_rfl) (fun _ _ _ h => h) (by kernel_rfl) (by assumption) ?_ ?_
    rotate_left
    · intro w hSw
      (try dsimp only at hSw)
      go_simp
      try (with_reducible rfl)
    simp only [List.set]
    refine wpAnyH_on (i := 30) (d := 96) (v := ?_) rfl rfl (by kernel_rfl) (by kernel_rfl) (by kernel_rfl) (fun _ _ _ h => h) (by kernel_rfl) (by assumption) ?_ ?_
    rotate_left
    · intro w hSw
      (try dsimp only at hSw)
      go_simp
      try (with_reducible rfl)
    simp only [List.set]
    refine wpAnyH_on (i := 31) (d := 97) (v := ?_) rfl rfl (by kernel_rfl) (by kernel_rfl) (by kernel_rfl) (fun _ _ _ h => h) (by kernel_rfl) (by assumption) ?_ ?_
    rotate_left
    · intro w hSw
      (try dsimp only at hSw)
      go_simp
      try (with_reducible rfl)
    simp only [List.set]
    refine wpAnyH_on (i := 32) (d := 98) (v := ?_) rfl rfl (by kernel_rfl) (by kernel_rfl) (by kernel_rfl) (fun _ _ _ h => h) (by kernel_rfl) (by assumption) ?_ ?_
    rotate_left
    · intro w hSw
      (try dsimp only at hSw)
      go_simp
      try (with_reducible rfl)
    simp only [List.set]
    refine wpAnyH_on (i := 33) (d := 99) (v := ?_) rfl rfl (by kernel_rfl) (by kernel_rfl) (by kernel_rfl) (fun _ _ _ h => h) (by kernel_rfl) (by assumption) ?_ ?_
    rotate_left
    · intro w hSw
      (try dsimp only at hSw)
      go_simp
      try (with_reducible rfl)
    simp only [List.set]
    refine wpAnyH_on (i := 34) (d := 100) (v := ?_) rfl rfl (by kernel_rfl) (by kernel_rfl) (by kernel_rfl) (fun _ _ _ h => h) (by kernel_rfl) (by assumption) ?_ ?_
    rotate_left
    · intro w hSw
      (try dsimp only at hSw)
      go_simp
      try (with_reducible rfl)
    simp only [List.set]
    refine wpAnyH_on (i := 35) (d := 101) (v := ?_) rfl rfl (by kernel_rfl) (by kernel_rfl) (by kernel_rfl) (fun _ _ _ h => h) (by kernel_rfl) (by assumption) ?_ ?_
    rotate_left
    · intro w hSw
      (try dsimp only at hSw)
      go_simp
      try (with_reducible rfl)
    simp only [List.set]
    refine wpAnyH_on (i := 36) (d := 102) (v := ?_) rfl rfl (by kernel_rfl) (by kernel_rfl) (by kernel_rfl) (fun _ _ _ h => h) (by kernel_rfl) (by assumption) ?_ ?_
    rotate_left
    · intro w hSw
      (try dsimp only at hSw)
      go_simp
      try (with_reducible rfl)
    simp only [List.set]
    refine wpAnyH_on (i := 37) (d := 103) (v := ?_) rfl rfl (by kernel_rfl) (by kernel_rfl) (by kernel_rfl) (fun _ _ _ h => h) (by kernel_rfl) (by assumption) ?_ ?_
    rotate_left
    · intro w hSw
      (try dsimp only at hSw)
      go_simp
      try (with_reducible rfl)
    simp only [List.set]
    refine wpAnyH_on (i := 38) (d := 104) (v := ?_) rfl rfl (by kernel_rfl) (by kernel_rfl) (by kernel_rfl) (fun _ _ _ h => h) (by kernel_rfl) (by assumption) ?_ ?_
    rotate_left
    · intro w hSw
      (try dsimp only at hSw)
      go_simp
      try (with_reducible rfl)
    simp only [List.set]
    refine wpAnyH_on (i := 39) (d := 105) (v := ?_) rfl rfl (by kernel_rfl) (by kernel_rfl) (by kernel_rfl) (fun _ _ _ h => h) (by kernel_rfl) (by assumption) ?_ ?_
    rotate_left
    · intro w hSw
      (try dsimp only at hSw)
      go_simp
      try (with_reducible rfl)
    simp only [List.set]
    refine wpAnyH_on (i := 41) (d := 107) (v := ?_) rfl rfl (by kernel_rfl) (by kernel_rfl) (by kernel_rfl) (fun _ _ _ h => h) (by kernel_rfl) (by assumption) ?_ ?_
    rotate_left
    · intro w hSw
      (try dsimp only at hSw)
      go_simp
      try (with_reducible rfl)
    simp only [List.set]
    refine wpAnyH_on (i := 42) (d := 108) (v := ?_) rfl rfl (by kernel_rfl) (by kernel_rfl) (by kernel_rfl) (fun _ _ _ h => h) (by kernel_rfl) (by assumption) ?_ ?_
    rotate_left
    · intro w hSw
      (try dsimp only at hSw)
      go_simp
      try (with_reducible rfl)
    simp only [List.set]
    refine wpAnyH_ready (rs := [40]) (by kernel_rfl) (by simp) ?_
    refine AllReadyH.cons rfl (fun K hK => ?_) AllReadyH.nil
    go_simp
    refine (l06_cells A B c d [(M : Int), (N : Int)] xs _ (by omega) h2.at).mono ?_
    rintro e u7 ⟨P7, m7, rfl, o7, hb⟩
    dsimp only
    have pu7 := Prev.mk hb
    clear hb
    refine hK.out _ _ (HK0.out _ (bel _ _)) (fun hHeld => ?_)
    clear hK K
    try dsimp only [Act.put, List.setIfInBounds_toArray, List.set_cons_zero, List.set_cons_succ]
    refine wpAnyH_ready (rs := [43]) (by kernel_rfl) (by simp) ?_
    refine AllReadyH.cons rfl (fun K hK => ?_) AllReadyH.nil
    go_simp
    refine (l06_cells G H g' h' [(M : Int)] gs _ (by omega) h8.at).mono ?_
    rintro e u8 ⟨P8, m8, rfl, o8, hb⟩
    dsimp only
    have pu8 := Prev.mk hb
    clear hb
    refine hK.out _ _ (HK0.out _ (bel _ _)) (fun hHeld => ?_)
    clear hK K
    try dsimp only [Act.put, List.setIfInBounds_toArray, List.set_cons_zero, List.set_cons_succ]
    refine wpAnyH_ready (rs := [44]) (by kernel_rfl) (by simp) ?_
    refine AllReadyH.cons rfl (fun K hK => ?_) AllReadyH.nil
    go_simp
    refine (CX.out P7 P8 m7 m8 _ o7.rd.at o8.rd.at).mono ?_
    rintro e u9 ⟨P9, m9, rfl, o9, hb⟩
    dsimp only
    have pu9 := Prev.mk hb
    clear hb
    refine hK.out _ _ (HK0.out _ (bel _ _)) (fun hHeld => ?_)
    clear hK K
    try dsimp only [Act.put, List.setIfInBounds_toArray, List.set_cons_zero, List.set_cons_succ]
    refine wpAnyH_ready (rs := [45]) (by kernel_rfl) (by simp) ?_
    refine AllReadyH.cons rfl (fun K hK => ?_) AllReadyH.nil
    go_simp
    refine (CS3.out A3 B3 P9 c3 d3 m9 _ s3.rd.at x3.rd.at h5.at o9.rd.at).mono ?_
    rintro e u10 ⟨rfl, hb⟩
    dsimp only
    have pu10 := Prev.mk hb
    clear hb
    refine hK.out _ _ (HK0.out _ (bel _ _)) (fun hHeld => ?_)
    clear hK K
    try dsimp only [Act.put, List.setIfInBounds_toArray, List.set_cons_zero, List.set_cons_succ]
    refine wpAnyH_on (i := 46) (d := 112) (v := ?_) rfl rfl (by kernel_rfl) (by kernel_rfl) (by kernel_rfl) (fun _ _ _ h => h) (by kernel_rfl) (by assumption) ?_ ?_
    rotate_left
    · intro w hSw
      (try dsimp only at hSw)
      go_simp
      try (with_reducible rfl)
    simp only [List.set]
    refine wpAnyH_on (i := 47) (d := 113) (v := ?_) rfl rfl (by kernel_rfl) (by kernel_rfl) (by kernel_rfl) (fun _ _ _ h => h) (by kernel_rfl) (by assumption) ?_ ?_
    rotate_left
    · intro w hSw
      (try dsimp only at hSw)
      go_simp
      try (with_reducible rfl)
    simp only [List.set]
    refine wpAnyH_ready (rs := [48]) (by kernel_rfl) (by simp) ?_
    refine AllReadyH.cons rfl (fun K hK => ?_) AllReadyH.nil
    go_simp
    refine (l06_awake _).mono ?_
    rintro e u11 ⟨rfl, hb⟩
    dsimp only
    have pu11 := Prev.mk hb
    clear hb
    refine hK.out _ _ (HK0.out _ (bel _ _)) (fun hHeld => ?_)
    clear hK K
    try dsimp only [Act.put, List.setIfInBounds_toArray, List.set_cons_zero, List.set_cons_succ]
    refine wpAnyH_on (i := 49) (d := 115) (v := ?_) rfl rfl (by kernel_rfl) (by kernel_rfl) (by kernel_rfl) (fun _ _ _ h => h) (by kernel_rfl) (by assumption) ?_ ?_
    rotate_left
    · intro w hSw
      (try dsimp only at hSw)
      go_simp
      try (with_reducible rfl)
    simp only [List.set]
    refine wpAnyH_on (i := 50) (d := 2) (v := ?_) rfl rfl (by kernel_rfl) (by kernel_rfl) (by kernel_rfl) (fun _ _ _ h => h) (by kernel_rfl) (by assumption) ?_ ?_
    rotate_left
    · intro w hSw
      (try dsimp only at hSw)
      go_simp
      try (with_reducible rfl)
    simp only [List.set]
    refine wpAnyH_done (by kernel_rfl) ?_ _
    go_wp2_with fail
    go_ret
    exact ⟨rfl, bel w u11⟩

end Go.Proofs.Ythcdjdhnjbdfeaa
