/- The walk of the statement DenseNoughts. -/
import Derived.Test.YthcdjdhnjbdfeaaDenseGoes
namespace Go.Proofs.Ythcdjdhnjbdfeaa
open Go.RowKit

theorem fmul_zero_l (y : Int) : fmul 0 y = 0 := by
  simp [fmul, absI, rnd, heldI]
theorem fmul_zero_r (x : Int) : fmul x 0 = 0 := by
  simp [fmul, absI, rnd, heldI]
theorem fadd_zero_l {y : Int} (h : I64 y) : fadd 0 y = y := by
  obtain ⟨h1, h2⟩ := h
  rw [fadd, Int.zero_add, clampI, if_neg (by omega), if_neg (by omega)]
theorem fdot_zero : ∀ (l : List (Int × Int)), (∀ p ∈ l, p.1 = 0) → l.foldl (fun s p => fadd s (fmul p.1 p.2)) 0 = 0
  | [], _ => rfl
  | p :: l, h => by
    rw [List.foldl_cons, h p (by simp), fmul_zero_l, fadd_zero_l ⟨by decide, by decide⟩]
    exact fdot_zero l fun q hq => h q (by simp [hq])
theorem goCells_zero {n : Nat} {ys vs : List Int} (hy : ∀ z ∈ ys, I64 z) : goCells (List.replicate n 0) ys vs ys.length = ys := by
  apply List.ext_getElem?
  intro i
  by_cases hi : i < ys.length
  · have e : goCell (List.replicate n 0) ys vs i = ys[i] := by
      unfold goCell fdot
      rw [fdot_zero _ (fun p hp => by
        have := rowL_mem (List.of_mem_zip (a := p.1) (b := p.2) hp).1
        exact (List.mem_replicate.1 this).2)]
      rw [List.getD_eq_getElem?_getD, List.getElem?_eq_getElem hi]
      exact fadd_zero_l (hy _ (List.getElem_mem hi))
    rw [goCells, List.getElem?_map, List.getElem?_range hi, Option.map_some, e, List.getElem?_eq_getElem hi]
  · rw [List.getElem?_eq_none (by rw [goCells_length]; omega), List.getElem?_eq_none (by omega)]
theorem acc_zero (f : Nat → Int) (hf : ∀ i, f i = 0) : ∀ l : List Nat, l.foldl (fun s i => fadd s (f i)) 0 = 0
  | [] => rfl
  | i :: l => by rw [List.foldl_cons, hf, fadd_zero_l ⟨by decide, by decide⟩]; exact acc_zero f hf l
theorem getD_zero (n i : Nat) : (List.replicate n (0 : Int)).getD i 0 = 0 := by
  rw [List.getD_eq_getElem?_getD, List.getElem?_replicate]
  split <;> rfl
theorem backX_zero_w {n m : Nat} {gs : List Int} : ∀ z ∈ backX n (List.replicate m 0) gs, z = 0 := by
  intro z hz
  obtain ⟨j, _, rfl⟩ := List.mem_map.1 hz
  exact acc_zero (fun i => fmul ((List.replicate m 0).getD (i * n + j) 0) (gs.getD i 0)) (fun i => by show fmul _ _ = 0; rw [getD_zero, fmul_zero_l]) _
theorem backX_zero_g {n m : Nat} {xs : List Int} : ∀ z ∈ backX n xs (List.replicate m 0), z = 0 := by
  intro z hz
  obtain ⟨j, _, rfl⟩ := List.mem_map.1 hz
  exact acc_zero (fun i => fmul (xs.getD (i * n + j) 0) ((List.replicate m 0).getD i 0)) (fun i => by show fmul _ _ = 0; rw [getD_zero, fmul_zero_r]) _
theorem backW_zero {m : Nat} {vs : List Int} : ∀ z ∈ backW (List.replicate m 0) vs, z = 0 := by
  intro z hz
  obtain ⟨g, hg, hz⟩ := List.mem_flatMap.1 hz
  obtain ⟨v, _, rfl⟩ := List.mem_map.1 hz
  rw [(List.mem_replicate.1 hg).2, fmul_zero_l]
theorem agree_len {zs xs xs' ts ys us vs : List Int} (h : xs'.length = xs.length) : agreeB zs xs' ts ys us vs = agreeB zs xs ts ys us vs := by
  simp only [agreeB, flatB, tRightB, h]
theorem back_len {zs xs xs' ts ys us vs ps gs gs' : List Int} (h : xs'.length = xs.length) (h' : gs'.length = gs.length) : backB zs xs' ts ys us vs ps gs' = backB zs xs ts ys us vs ps gs := by
  simp only [backB, agree_len h, tRightB, h']
theorem zero_i64 {n : Nat} : ∀ z ∈ List.replicate n (0 : Int), I64 z := fun z hz => by
  rw [(List.mem_replicate.1 hz).2]; exact ⟨by decide, by decide⟩

theorem idx3F {v0 v1 v2 : Value} (W : World) : (Instr.index 69 (.agg #[v0, v1, v2]) (.int .i64 0)).run Try.prog W = .ok v0 W ∧ (Instr.index 69 (.agg #[v0, v1, v2]) (.int .i64 1)).run Try.prog W = .ok v1 W ∧ (Instr.index 69 (.agg #[v0, v1, v2]) (.int .i64 2)).run Try.prog W = .ok v2 W := by
  refine ⟨?_, ?_, ?_⟩ <;> simp [Instr.index, run_underlying Try.underlying69, asIntOf, go_sem]

set_option maxRecDepth 100000 in
set_option maxHeartbeats 8000000 in
theorem denseNoughts_calls (A B C D E F G H : Option Addr) (c d c' d' e' f' g' h' : Nat) (zs xs ts ys us vs ps gs : List Int) (w : World) (i1 : IntsIn w A c zs) (i2 : IntsIn w B d xs) (i3 : IntsIn w C c' ts) (i4 : IntsIn w D d' ys) (i5 : IntsIn w E e' us) (i6 : IntsIn w F f' vs) (i7 : IntsIn w G g' ps) (i8 : IntsIn w H h' gs) :
    Calls Try.prog 8 #[.agg #[.slice A zs.length c, .slice B xs.length d, .slice C ts.length c', .slice D ys.length d', .slice E us.length e', .slice F vs.length f', .slice G ps.length g', .slice H gs.length h']] w (LawTrue w) := by
  have HX := ints_i64 i2
  have HY := ints_i64 i4
  have HV := ints_i64 i6
  have HG := ints_i64 i8
  have hxd := i2.2.1
  have h1 := i1.rd
  have h2 := i2.rd
  have h3 := i3.rd
  have h4 := i4.rd
  have h5 := i5.rd
  have h6 := i6.rd
  have h7 := i7.rd
  have h8 := i8.rd
  clear i1 i2 i3 i4 i5 i6 i7 i8
  have k1 := Blk.new w 57 #[.slice A zs.length c, .slice B xs.length d, .slice C ts.length c', .slice D ys.length d', .slice E us.length e', .slice F vs.length f', .slice G ps.length g', .slice H gs.length h']
  rcases hsm : small6B zs xs ts ys us vs ps gs with _ | _
  · have HS := Lib.hid hsm
    clear hsm
    go_enter Try.func8, Try.ntmps8
    go_wp2_with fail
    refine (l06_small A B C D E F G H c d c' d' e' f' g' h' zs xs ts ys us vs ps gs _).mono ?_
    rintro e w1 ⟨rfl, hb⟩
    have pw1 := Prev.mk hb
    clear hb
    rw [HS.out]
    go_wp2_with fail
    refine (l06_awake _).mono ?_
    rintro e w9 ⟨rfl, hb⟩
    have pw9 := Prev.mk hb
    clear hb
    go_wp2_with fail
    go_ret
    exact ⟨rfl, bel w w9⟩
  obtain ⟨l2, l4, l6, l8, l1, l3, l5, l7⟩ := small6_le hsm
  have HS := Lib.hid hsm
  clear hsm
  rcases hag : agreeB zs xs ts ys us vs with _ | _
  · have HA := Lib.hid hag
    clear hag
    go_enter Try.func8, Try.ntmps8
    go_wp2_with fail
    refine (l06_small A B C D E F G H c d c' d' e' f' g' h' zs xs ts ys us vs ps gs _).mono ?_
    rintro e w1 ⟨rfl, hb⟩
    have pw1 := Prev.mk hb
    clear hb
    rw [HS.out]
    obtain ⟨q0, q1, q2, q3, q4, q5, q6, q7⟩ := box8 (k1.at (w' := w1))
    go_wp2_with fail
    clear q0 q1 q2 q3 q4 q5 q6 q7
    refine (l06_fits A B C D E F G H c d c' d' e' f' g' h' zs xs ts ys us vs ps gs _ (by first | omega | simp) (by first | omega | simp) (by omega) h1.at h3.at h5.at).mono ?_
    rintro e w3 ⟨rfl, hb⟩
    have pw3 := Prev.mk hb
    clear hb
    rw [HA.out]
    go_wp2_with fail
    refine (l06_awake _).mono ?_
    rintro e w9 ⟨rfl, hb⟩
    have pw9 := Prev.mk hb
    clear hb
    go_wp2_with fail
    go_ret
    exact ⟨rfl, bel w w9⟩
  have HA := Lib.hid hag
  rcases hrt : tRightB ps gs with _ | _
  · have HR := Lib.hid hrt
    clear hag hrt
    go_enter Try.func8, Try.ntmps8
    go_wp2_with fail
    refine (l06_small A B C D E F G H c d c' d' e' f' g' h' zs xs ts ys us vs ps gs _).mono ?_
    rintro e w1 ⟨rfl, hb⟩
    have pw1 := Prev.mk hb
    clear hb
    rw [HS.out]
    obtain ⟨q0, q1, q2, q3, q4, q5, q6, q7⟩ := box8 (k1.at (w' := w1))
    go_wp2_with fail
    clear q0 q1 q2 q3 q4 q5 q6 q7
    refine (l06_fits A B C D E F G H c d c' d' e' f' g' h' zs xs ts ys us vs ps gs _ (by first | omega | simp) (by first | omega | simp) (by omega) h1.at h3.at h5.at).mono ?_
    rintro e w3 ⟨rfl, hb⟩
    have pw3 := Prev.mk hb
    clear hb
    rw [HA.out]
    obtain ⟨q0, q1, q2, q3, q4, q5, q6, q7⟩ := box8 (k1.at (w' := w3))
    go_wp2_with fail
    clear q0 q1 q2 q3 q4 q5 q6 q7
    refine (l06_right G H g' h' ps gs _ (by first | omega | simp) h7.at).mono ?_
    rintro e w4 ⟨rfl, hb⟩
    have pw4 := Prev.mk hb
    clear hb
    rw [HR.out]
    go_wp2_with fail
    refine (l06_awake _).mono ?_
    rintro e w9 ⟨rfl, hb⟩
    have pw9 := Prev.mk hb
    clear hb
    go_wp2_with fail
    go_ret
    exact ⟨rfl, bel w w9⟩
  have HR := Lib.hid hrt
  by_cases hpt : ps = ts
  rotate_left
  · have HE : Hid (decide (ps = ts) = false) := Lib.hid (decide_eq_false hpt)
    clear hag hrt hpt
    go_enter Try.func8, Try.ntmps8
    go_wp2_with fail
    refine (l06_small A B C D E F G H c d c' d' e' f' g' h' zs xs ts ys us vs ps gs _).mono ?_
    rintro e w1 ⟨rfl, hb⟩
    have pw1 := Prev.mk hb
    clear hb
    rw [HS.out]
    obtain ⟨q0, q1, q2, q3, q4, q5, q6, q7⟩ := box8 (k1.at (w' := w1))
    go_wp2_with fail
    clear q0 q1 q2 q3 q4 q5 q6 q7
    refine (l06_fits A B C D E F G H c d c' d' e' f' g' h' zs xs ts ys us vs ps gs _ (by first | omega | simp) (by first | omega | simp) (by omega) h1.at h3.at h5.at).mono ?_
    rintro e w3 ⟨rfl, hb⟩
    have pw3 := Prev.mk hb
    clear hb
    rw [HA.out]
    obtain ⟨q0, q1, q2, q3, q4, q5, q6, q7⟩ := box8 (k1.at (w' := w3))
    go_wp2_with fail
    clear q0 q1 q2 q3 q4 q5 q6 q7
    refine (l06_right G H g' h' ps gs _ (by first | omega | simp) h7.at).mono ?_
    rintro e w4 ⟨rfl, hb⟩
    have pw4 := Prev.mk hb
    clear hb
    rw [HR.out]
    obtain ⟨q0, q1, q2, q3, q4, q5, q6, q7⟩ := box8 (k1.at (w' := w4))
    go_wp2_with fail
    clear q0 q1 q2 q3 q4 q5 q6 q7
    refine (retB_bdrew (ref_same G C g' c' ps ts _ (by first | omega | simp) (by first | omega | simp) h7.at h3.at)).mono ?_
    rintro e w5 ⟨rfl, hb⟩
    have pw5 := Prev.mk hb
    clear hb
    rw [HE.out]
    go_wp2_with fail
    refine (l06_awake _).mono ?_
    rintro e w9 ⟨rfl, hb⟩
    have pw9 := Prev.mk hb
    clear hb
    go_wp2_with fail
    go_ret
    exact ⟨rfl, bel w w9⟩
  have HB : Hid (backB zs xs ts ys us vs ps gs = true) := Lib.hid (by subst hpt; simp [backB, hag, hrt])
  subst hpt
  obtain ⟨M, N, rfl, rfl, hxl, hyl, hvl, hM1, hN1, hM, hN, hx6, hr1, -, -⟩ := agree_nats hag
  have hgl : gs.length = M := by have := ((tRightB_iff _ _).1 hrt).2; simp [prodL] at this; omega
  have HRZ : Hid (rightB [(M : Int), (N : Int)] = true) := Lib.hid ((tRightB_iff _ _).1 hr1).1
  have HPZ : Hid (prodL [(M : Int), (N : Int)] = (xs.length : Int)) := Lib.hid ((tRightB_iff _ _).1 hr1).2.symm
  have HRG : Hid (rightB [(M : Int)] = true) := Lib.hid ((tRightB_iff _ _).1 hrt).1
  have HPG : Hid (prodL [(M : Int)] = (gs.length : Int)) := Lib.hid ((tRightB_iff _ _).1 hrt).2.symm
  have HLW : Hid (gs.length * vs.length = xs.length) := Lib.hid (by rw [hgl, hvl]; exact hxl.symm)
  clear hag hrt hxl hyl hvl hgl hr1
  obtain ⟨ZW, HZW⟩ : ∃ L : List Int, Hid (L = List.replicate xs.length 0) := ⟨_, Lib.hid rfl⟩
  obtain ⟨ZG, HZG⟩ : ∃ L : List Int, Hid (L = List.replicate gs.length 0) := ⟨_, Lib.hid rfl⟩
  have LZW : Hid (ZW.length = xs.length) := Lib.hid (by rw [HZW.out]; simp)
  have LZG : Hid (ZG.length = gs.length) := Lib.hid (by rw [HZG.out]; simp)
  have IZW : Hid (∀ z ∈ ZW, I64 z) := Lib.hid (by rw [HZW.out]; exact zero_i64)
  have IZG : Hid (∀ z ∈ ZG, I64 z) := Lib.hid (by rw [HZG.out]; exact zero_i64)
  obtain ⟨X1, HX1⟩ : ∃ L, Hid (L = backX vs.length ZW gs) := ⟨_, Lib.hid rfl⟩
  obtain ⟨W1, HW1⟩ : ∃ L, Hid (L = backW gs vs) := ⟨_, Lib.hid rfl⟩
  obtain ⟨X2, HX2⟩ : ∃ L, Hid (L = backX vs.length xs ZG) := ⟨_, Lib.hid rfl⟩
  obtain ⟨W2, HW2⟩ : ∃ L, Hid (L = backW ZG vs) := ⟨_, Lib.hid rfl⟩
  have NX1 : Hid (∀ z ∈ X1, z = 0) := Lib.hid (by rw [HX1.out, HZW.out]; exact backX_zero_w)
  have NX2 : Hid (∀ z ∈ X2, z = 0) := Lib.hid (by rw [HX2.out, HZG.out]; exact backX_zero_g)
  have NW2 : Hid (∀ z ∈ W2, z = 0) := Lib.hid (by rw [HW2.out, HZG.out]; exact backW_zero)
  have LX1 : X1.length = vs.length := by rw [HX1.out]; simp [backX]
  have LX2 : X2.length = vs.length := by rw [HX2.out]; simp [backX]
  have LW2 : W2.length = xs.length := by rw [HW2.out, backW_length, LZG.out]; exact HLW.out
  have e1 : ((X1.length : Int) != (vs.length : Int)) = false := by simp [LX1]
  have e2 : ((W2.length : Int) != (xs.length : Int)) = false := by simp [LW2]
  have bX1 : X1.length ≤ 1000000 := by omega
  have bX2 : X2.length ≤ 1000000 := by omega
  have bW2 : W2.length ≤ 1000000 := by omega
  clear LX1 LX2 LW2
  have CM1 := Lib.hid fun (w' : World) (g1 : Rd w' A [(M : Int), (N : Int)]) => t_make_yes A c [(M : Int), (N : Int)] 0 xs.length w' (by simp) g1 HRZ HPZ
  rw [← HZW.out] at CM1
  have CM2 := Lib.hid fun (w' : World) (g1 : Rd w' G [(M : Int)]) => t_make_yes G g' [(M : Int)] 0 gs.length w' (by simp) g1 HRG HPG
  rw [← HZG.out] at CM2
  have CG := Lib.hid fun (A1 B1 : Option Addr) (c1 d1 : Nat) (w' : World) (hd : ZW.length ≤ d1) (g1 : Rd w' A1 [(M : Int), (N : Int)]) (g2 : Rd w' B1 ZW) (g3 : Rd w' C [(M : Int)]) (g4 : Rd w' D ys) (g5 : Rd w' E us) (g6 : Rd w' F vs) => d_go_yes A1 B1 C D E F c1 d1 c' d' e' f' [(M : Int), (N : Int)] ZW [(M : Int)] ys us vs w' hd (by omega) g1 g2 g3 g4 g5 g6 IZW HY HV (Lib.hid (by rw [agree_len LZW.out]; exact HA.out))
  rw [show goCells ZW ys vs ys.length = ys from by rw [HZW.out]; exact goCells_zero HY.out] at CG
  have CB1 := Lib.hid fun (A1 B1 : Option Addr) (c1 d1 : Nat) (w' : World) (hd : ZW.length ≤ d1) (g1 : Rd w' A1 [(M : Int), (N : Int)]) (g2 : Rd w' B1 ZW) (g3 : Rd w' C [(M : Int)]) (g5 : Rd w' E us) (g6 : Rd w' F vs) (g7 : Rd w' G [(M : Int)]) (g8 : Rd w' H gs) => d_back_yes A1 B1 C D E F G H c1 d1 c' d' e' f' g' h' [(M : Int), (N : Int)] ZW [(M : Int)] ys us vs [(M : Int)] gs w' hd (by omega) g1 g2 g3 g5 g6 g7 g8 IZW HV HG (Lib.hid (by rw [back_len LZW.out rfl]; exact HB.out))
  rw [← HX1.out, ← HW1.out] at CB1
  have CB2 := Lib.hid fun (G1 H1 : Option Addr) (c1 d1 : Nat) (w' : World) (g1 : Rd w' A [(M : Int), (N : Int)]) (g2 : Rd w' B xs) (g3 : Rd w' C [(M : Int)]) (g5 : Rd w' E us) (g6 : Rd w' F vs) (g7 : Rd w' G1 [(M : Int)]) (g8 : Rd w' H1 ZG) => d_back_yes A B C D E F G1 H1 c d c' d' e' f' c1 d1 [(M : Int), (N : Int)] xs [(M : Int)] ys us vs [(M : Int)] ZG w' hxd (by omega) g1 g2 g3 g5 g6 g7 g8 HX HV IZG (Lib.hid (by rw [back_len rfl LZG.out]; exact HB.out))
  rw [← HX2.out, ← HW2.out] at CB2
  have CE := Lib.hid fun (A1 B1 : Option Addr) (c1 d1 : Nat) (w' : World) (g1 : Rd w' A1 [(M : Int)]) (g2 : Rd w' B1 ys) (g3 : Rd w' C [(M : Int)]) (g4 : Rd w' D ys) => t_equal A1 B1 C D c1 d1 c' d' [(M : Int)] ys [(M : Int)] ys w' (by simp) (by omega) (by simp) g1 g2 g3 g4
  simp only [decide_true, Bool.and_self] at CE
  go_enter Try.func8, Try.ntmps8
  go_wp2_with fail
  refine (l06_small A B C D E F G H c d c' d' e' f' g' h' [(M : Int), (N : Int)] xs [(M : Int)] ys us vs [(M : Int)] gs _).mono ?_
  rintro e w1 ⟨rfl, hb⟩
  have pw1 := Prev.mk hb
  clear hb
  rw [HS.out]
  obtain ⟨q0, q1, q2, q3, q4, q5, q6, q7⟩ := box8 (k1.at (w' := w1))
  go_wp2_with fail
  clear q0 q1 q2 q3 q4 q5 q6 q7
  refine (l06_fits A B C D E F G H c d c' d' e' f' g' h' [(M : Int), (N : Int)] xs [(M : Int)] ys us vs [(M : Int)] gs _ (by first | omega | simp) (by first | omega | simp) (by omega) h1.at h3.at h5.at).mono ?_
  rintro e w3 ⟨rfl, hb⟩
  have pw3 := Prev.mk hb
  clear hb
  rw [HA.out]
  obtain ⟨q0, q1, q2, q3, q4, q5, q6, q7⟩ := box8 (k1.at (w' := w3))
  go_wp2_with fail
  clear q0 q1 q2 q3 q4 q5 q6 q7
  refine (l06_right G H g' h' [(M : Int)] gs _ (by first | omega | simp) h7.at).mono ?_
  rintro e w4 ⟨rfl, hb⟩
  have pw4 := Prev.mk hb
  clear hb
  rw [HR.out]
  obtain ⟨q0, q1, q2, q3, q4, q5, q6, q7⟩ := box8 (k1.at (w' := w4))
  go_wp2_with fail
  clear q0 q1 q2 q3 q4 q5 q6 q7
  refine (retB_bdrew (ref_same G C g' c' [(M : Int)] [(M : Int)] _ (by first | omega | simp) (by first | omega | simp) h7.at h3.at)).mono ?_
  rintro e w5 ⟨rfl, hb⟩
  have pw5 := Prev.mk hb
  clear hb
  rw [show decide (([(M : Int)] : List Int) = [(M : Int)]) = true from decide_eq_true rfl]
  obtain ⟨q0, q1, q2, q3, q4, q5, q6, q7⟩ := box8 (k1.at (w' := w5))
  go_wp2_with fail
  clear q0 q1 q2 q3 q4 q5 q6 q7
  refine (CM1.out _ h1.at).mono ?_
  rintro e w6 ⟨A1, c1, B1, d1, rfl, s1, x1, hb⟩
  have pw6 := Prev.mk hb
  clear hb
  have k6 := Blk.new w6 26 #[.slice A1 2 c1, .slice B1 ZW.length d1]
  have p6a := Prev.alloc w6 (.cells #[.slice A1 2 c1, .slice B1 ZW.length d1] 26)
  obtain ⟨q0, q1, q2, q3, q4, q5, q6, q7⟩ := box8 (k1.at (w' := w6.alloc (.cells #[.slice A1 2 c1, .slice B1 ZW.length d1] 26)))
  go_wp2_with fail
  clear q0 q1 q2 q3 q4 q5 q6 q7
  generalize w6.alloc (.cells #[.slice A1 2 c1, .slice B1 ZW.length d1] 26) = v6 at *
  refine (CM2.out _ h7.at).mono ?_
  rintro e w7 ⟨A2, c2, B2, d2, rfl, s2, x2, hb⟩
  have pw7 := Prev.mk hb
  clear hb
  have k7 := Blk.new w7 26 #[.slice A2 1 c2, .slice B2 ZG.length d2]
  have p7a := Prev.alloc w7 (.cells #[.slice A2 1 c2, .slice B2 ZG.length d2] 26)
  obtain ⟨q0, q1, q2, q3, q4, q5, q6, q7⟩ := box8 (k1.at (w' := w7.alloc (.cells #[.slice A2 1 c2, .slice B2 ZG.length d2] 26)))
  obtain ⟨t0, t1⟩ := box2 (k6.at (w' := w7.alloc (.cells #[.slice A2 1 c2, .slice B2 ZG.length d2] 26)))
  go_wp2_with fail
  clear t0 t1
  clear q0 q1 q2 q3 q4 q5 q6 q7
  generalize w7.alloc (.cells #[.slice A2 1 c2, .slice B2 ZG.length d2] 26) = v7 at *
  refine (CG.out A1 B1 c1 d1 _ x1.len_le s1.rd.at x1.rd.at h3.at h4.at h5.at h6.at).mono ?_
  rintro e w8 ⟨A3, c3, B3, d3, rfl, s3, x3, hb⟩
  have pw8 := Prev.mk hb
  clear hb
  have k8 := Blk.new w8 26 #[.slice A3 1 c3, .slice B3 ys.length d3]
  have p8a := Prev.alloc w8 (.cells #[.slice A3 1 c3, .slice B3 ys.length d3] 26)
  obtain ⟨q0, q1, q2, q3, q4, q5, q6, q7⟩ := box8 (k1.at (w' := w8.alloc (.cells #[.slice A3 1 c3, .slice B3 ys.length d3] 26)))
  obtain ⟨t0, t1⟩ := box2 (k6.at (w' := w8.alloc (.cells #[.slice A3 1 c3, .slice B3 ys.length d3] 26)))
  go_wp2_with fail
  clear t0 t1
  clear q0 q1 q2 q3 q4 q5 q6 q7
  generalize w8.alloc (.cells #[.slice A3 1 c3, .slice B3 ys.length d3] 26) = v8 at *
  refine (CB1.out A1 B1 c1 d1 _ x1.len_le s1.rd.at x1.rd.at h3.at h5.at h6.at h7.at h8.at).mono ?_
  rintro e w9 ⟨A4, c4, B4, d4, A5, c5, B5, d5, A6, c6, B6, d6, rfl, -, -, -, -, -, x6, hb⟩
  have pw9 := Prev.mk hb
  clear hb
  have k9 := Blk.new w9 63 #[.slice A4 2 c4, .slice B4 W1.length d4, .slice A5 1 c5, .slice B5 gs.length d5, .slice A6 us.length c6, .slice B6 X1.length d6]
  have p9a := Prev.alloc w9 (.cells #[.slice A4 2 c4, .slice B4 W1.length d4, .slice A5 1 c5, .slice B5 gs.length d5, .slice A6 us.length c6, .slice B6 X1.length d6] 63)
  obtain ⟨q0, q1, q2, q3, q4, q5, q6, q7⟩ := box8 (k1.at (w' := w9.alloc (.cells #[.slice A4 2 c4, .slice B4 W1.length d4, .slice A5 1 c5, .slice B5 gs.length d5, .slice A6 us.length c6, .slice B6 X1.length d6] 63)))
  obtain ⟨t0, t1⟩ := box2 (k7.at (w' := w9.alloc (.cells #[.slice A4 2 c4, .slice B4 W1.length d4, .slice A5 1 c5, .slice B5 gs.length d5, .slice A6 us.length c6, .slice B6 X1.length d6] 63)))
  go_wp2_with fail
  clear t0 t1
  clear q0 q1 q2 q3 q4 q5 q6 q7
  generalize w9.alloc (.cells #[.slice A4 2 c4, .slice B4 W1.length d4, .slice A5 1 c5, .slice B5 gs.length d5, .slice A6 us.length c6, .slice B6 X1.length d6] 63) = v9 at *
  refine (CB2.out A2 B2 c2 d2 _ h1.at h2.at h3.at h5.at h6.at s2.rd.at x2.rd.at).mono ?_
  rintro e w10 ⟨A7, c7, B7, d7, A8, c8, B8, d8, A9, c9, B9, d9, rfl, -, x7, -, -, -, x9, hb⟩
  have pw10 := Prev.mk hb
  clear hb
  have k10 := Blk.new w10 63 #[.slice A7 2 c7, .slice B7 W2.length d7, .slice A8 1 c8, .slice B8 ZG.length d8, .slice A9 us.length c9, .slice B9 X2.length d9]
  have p10a := Prev.alloc w10 (.cells #[.slice A7 2 c7, .slice B7 W2.length d7, .slice A8 1 c8, .slice B8 ZG.length d8, .slice A9 us.length c9, .slice B9 X2.length d9] 63)
  obtain ⟨q0, q1, q2, q3, q4, q5, q6, q7⟩ := box8 (k1.at (w' := w10.alloc (.cells #[.slice A7 2 c7, .slice B7 W2.length d7, .slice A8 1 c8, .slice B8 ZG.length d8, .slice A9 us.length c9, .slice B9 X2.length d9] 63)))
  obtain ⟨t0, t1⟩ := box2 (k8.at (w' := w10.alloc (.cells #[.slice A7 2 c7, .slice B7 W2.length d7, .slice A8 1 c8, .slice B8 ZG.length d8, .slice A9 us.length c9, .slice B9 X2.length d9] 63)))
  go_wp2_with fail
  clear t0 t1
  clear q0 q1 q2 q3 q4 q5 q6 q7
  generalize w10.alloc (.cells #[.slice A7 2 c7, .slice B7 W2.length d7, .slice A8 1 c8, .slice B8 ZG.length d8, .slice A9 us.length c9, .slice B9 X2.length d9] 63) = v10 at *
  refine (CE.out A3 B3 c3 d3 _ s3.rd.at x3.rd.at h3.at h4.at).mono ?_
  rintro e w11 ⟨rfl, hb⟩
  have pw11 := Prev.mk hb
  clear hb
  obtain ⟨q0, q1, q2, q3, q4, q5, q6, q7⟩ := box8 (k1.at (w' := w11))
  obtain ⟨t0, t1, t2, t3, t4, t5⟩ := box6 (k9.at (w' := w11))
  obtain ⟨r0, r1, r2, r3, r4, r5⟩ := box6 (k10.at (w' := w11))
  go_wp2_with fail
  clear t0 t1 t2 t3 t4 t5 r0 r1 r2 r3 r4 r5
  clear q0 q1 q2 q3 q4 q5 q6 q7
  go_loopw [136] (fun i wr => ∃ k : Nat, k ≤ 3 ∧ i = .int .i64 k ∧ w11 = wr) (fun i _ => 3 - (intOf i).toNat)
  case atStart => exact ⟨0, by omega, rfl, rfl⟩
  case round =>
    obtain ⟨k, hk, rfl, rfl⟩ := hrel
    obtain ⟨ri0, ri1, ri2⟩ := idx3F (v0 := .slice B6 X1.length d6) (v1 := .slice B7 W2.length d7) (v2 := .slice B9 X2.length d9) w11
    match k, hk with
    | 0, _ =>
      go_wp2_with fail
      go_loopw [141] (fun i wr => ∃ j : Nat, j ≤ (X1).length ∧ i = .int .i64 j ∧ w11 = wr) (fun i _ => (X1).length - (intOf i).toNat)
      case atStart => exact ⟨0, Nat.zero_le _, rfl, rfl⟩
      case round =>
        obtain ⟨j, hj, rfl, rfl⟩ := hrel
        by_cases hlj : j < (X1).length
        · obtain ⟨b, off, x, rfl, hbb, hcx, hxk⟩ := ((x6).at (w' := w11)).rd.get hlj
          obtain rfl : x = 0 := (NX1).out x (List.mem_of_getElem? hxk.out)
          go_wp2_with fail
          go_roundw
          case rel => exact ⟨j + 1, by omega, by go_num, by first | rfl | trivial⟩
          case measure => simp [intOf]; omega
        · go_wp2_with fail
          go_roundw
          case rel => exact ⟨1, by omega, rfl, by first | rfl | trivial⟩
          case measure => simp [intOf]
    | 1, _ =>
      go_wp2_with fail
      go_loopw [141] (fun i wr => ∃ j : Nat, j ≤ (W2).length ∧ i = .int .i64 j ∧ w11 = wr) (fun i _ => (W2).length - (intOf i).toNat)
      case atStart => exact ⟨0, Nat.zero_le _, rfl, rfl⟩
      case round =>
        obtain ⟨j, hj, rfl, rfl⟩ := hrel
        by_cases hlj : j < (W2).length
        · obtain ⟨b, off, x, rfl, hbb, hcx, hxk⟩ := ((x7).at (w' := w11)).rd.get hlj
          obtain rfl : x = 0 := (NW2).out x (List.mem_of_getElem? hxk.out)
          go_wp2_with fail
          go_roundw
          case rel => exact ⟨j + 1, by omega, by go_num, by first | rfl | trivial⟩
          case measure => simp [intOf]; omega
        · go_wp2_with fail
          go_roundw
          case rel => exact ⟨2, by omega, rfl, by first | rfl | trivial⟩
          case measure => simp [intOf]
    | 2, _ =>
      go_wp2_with fail
      go_loopw [141] (fun i wr => ∃ j : Nat, j ≤ (X2).length ∧ i = .int .i64 j ∧ w11 = wr) (fun i _ => (X2).length - (intOf i).toNat)
      case atStart => exact ⟨0, Nat.zero_le _, rfl, rfl⟩
      case round =>
        obtain ⟨j, hj, rfl, rfl⟩ := hrel
        by_cases hlj : j < (X2).length
        · obtain ⟨b, off, x, rfl, hbb, hcx, hxk⟩ := ((x9).at (w' := w11)).rd.get hlj
          obtain rfl : x = 0 := (NX2).out x (List.mem_of_getElem? hxk.out)
          go_wp2_with fail
          go_roundw
          case rel => exact ⟨j + 1, by omega, by go_num, by first | rfl | trivial⟩
          case measure => simp [intOf]; omega
        · go_wp2_with fail
          go_roundw
          case rel => exact ⟨3, by omega, rfl, by first | rfl | trivial⟩
          case measure => simp [intOf]
    | 3, _ =>
      go_wp2_with fail
      refine (l06_awake _).mono ?_
      rintro e w12 ⟨rfl, hb⟩
      have pw12 := Prev.mk hb
      clear hb
      go_wp2_with fail
      go_ret
      exact ⟨rfl, bel w w12⟩

end Go.Proofs.Ythcdjdhnjbdfeaa
