/- The walk of the statement TensorCuts. -/
import Derived.Test.YthcdjdhnjbdfeaaTCut
import Derived.Test.YthcdjdhnjbdfeaaTensorSums
import Derived.Test.YthcdjdhnjbdfeaaRef04
import Derived.Test.YthcdjdhnjbdfeaaOpen
import Derived.Deep.RegionHeld3
namespace Go.Proofs.Ythcdjdhnjbdfeaa
open Go.RowKit

theorem sh_equal_b (A B : Option Addr) (c d : Nat) (xs ys : List Int) (w : World) (hs : xs.length ≤ 1000000) (hs' : ys.length ≤ 1000000) (h : Rd w A xs) (h' : Rd w B ys) :
    Calls Try.prog 23 #[.slice A xs.length c, .slice B ys.length d] w (RetB w (.bool (decide (xs = ys)))) :=
  (sh_equal A B c d xs ys w hs hs' h h').mono fun _ _ ⟨he, m, hm⟩ => ⟨he, by rw [hm]; exact below_drewN (Below.refl _ _) m⟩
/-- What a cut that is not refused is made of. -/
theorem cut_nats {zs xs : List Int} {side a b : Int} (hr : tRightB zs xs = true) (hc : cutE zs side a b = 0) :
    ∃ n P Z I F T : Nat, side = (n : Int) ∧ a = (F : Int) ∧ b = (T : Int) ∧ zs[n]? = some (Z : Int) ∧ prodL (zs.take n) = (P : Int) ∧ prodL (zs.drop (n + 1)) = (I : Int) ∧ F < T ∧ T ≤ Z ∧ xs.length = P * (Z * I) := by
  obtain ⟨hrz, hxl⟩ := (tRightB_iff _ _).1 hr
  obtain ⟨_, _, rin, _⟩ := (rightB_iff zs).1 hrz
  unfold cutE at hc
  rw [if_pos hrz] at hc
  split at hc
  · rename_i hg
    simp only [Bool.and_eq_true, decide_eq_true_eq] at hg
    obtain ⟨⟨⟨⟨g1, g2⟩, g3⟩, g4⟩, g5⟩ := hg
    obtain ⟨n, rfl⟩ := Int.eq_ofNat_of_zero_le g1
    obtain ⟨F, rfl⟩ := Int.eq_ofNat_of_zero_le g3
    obtain ⟨T, rfl⟩ := Int.eq_ofNat_of_zero_le (show 0 ≤ b by omega)
    have hn : n < zs.length := by omega
    obtain ⟨P, Z, I, eP, eZ, eI, _, _, _, eN⟩ := sides_nat rin (List.getElem?_eq_getElem hn)
    refine ⟨n, P, Z, I, F, T, rfl, rfl, rfl, ?_, eP, eI, by omega, ?_, ?_⟩
    · rw [List.getElem?_eq_getElem hn, eZ]
    · rw [Int.toNat_natCast, List.getD, List.getElem?_eq_getElem hn, Option.getD_some, eZ] at g4; omega
    · rw [eN] at hxl; exact Int.ofNat.inj hxl
  · cases hc

set_option maxRecDepth 100000 in
set_option maxHeartbeats 8000000 in
theorem tensorCuts_calls (A B C D : Option Addr) (c d c' d' : Nat) (zs xs ts ys : List Int) (s0 s1 s2 : Int) (w : World) (h1 : IntsIn w A c zs) (h2 : IntsIn w B d xs) :
    Calls Try.prog 5 #[.agg #[.slice A zs.length c, .slice B xs.length d, .slice C ts.length c', .slice D ys.length d', .int .i64 s0, .int .i64 s1, .int .i64 s2]] w (LawTrue w) := by
  obtain ⟨h1, hc1, -, -⟩ := h1
  obtain ⟨h2, hd1, -, -⟩ := h2
  have b1 := (Below.refl w.heap.size w).alloc (Nat.le_refl _) (.cells #[.slice A zs.length c, .slice B xs.length d, .slice C ts.length c', .slice D ys.length d', .int .i64 s0, .int .i64 s1, .int .i64 s2] 47)
  have k1 := Blk.new w 47 #[.slice A zs.length c, .slice B xs.length d, .slice C ts.length c', .slice D ys.length d', .int .i64 s0, .int .i64 s1, .int .i64 s2]
  rcases hsm : smallB zs xs with _ | _
  · have HS := Lib.hid hsm
    clear hsm
    go_enter Try.func5, Try.ntmps5
    go_wp2_with fail
    refine (l04_small A B c d zs xs _).mono ?_
    rintro e w1 ⟨rfl, hb⟩
    rw [HS.out]
    go_wp2_with fail
    refine (l04_awake _).mono ?_
    rintro e w2 ⟨rfl, hb2⟩
    go_wp2_with fail
    go_ret
    exact ⟨rfl, btr (btr b1 hb) hb2⟩
  have HS := Lib.hid hsm
  obtain ⟨hs, hx⟩ : zs.length ≤ 50 ∧ xs.length ≤ 600 := by simpa [smallB] using hsm
  clear hsm
  by_cases hcut : tcutE zs xs s0 s1 s2 = 0
  · have hr : tRightB zs xs = true := by
      rcases hr : tRightB zs xs with _ | _
      · simp [tcutE, hr] at hcut
      · rfl
    have hce : cutE zs s0 s1 s2 = 0 := by simpa [tcutE, hr] using hcut
    obtain ⟨n, P, Z, I, F, T, rfl, rfl, rfl, hz, hP, hI, hFT, hTZ, hxl⟩ := cut_nats hr hce
    obtain ⟨hrz, -⟩ := (tRightB_iff _ _).1 hr
    obtain ⟨r1, r4, rin, -⟩ := (rightB_iff zs).1 hrz
    have HR := Lib.hid hr
    have HRZ := Lib.hid hrz
    have RIN := Lib.hid rin
    have HZ := Lib.hid hz
    have HP := Lib.hid hP
    have HI := Lib.hid hI
    have HXL := Lib.hid hxl
    have hn : n < zs.length := (List.getElem?_eq_some_iff.1 hz).1
    clear hcut hr hce hrz rin hz hP hI hxl
    go_enter Try.func5, Try.ntmps5
    go_wp2_with fail
    refine (l04_small A B c d zs xs _).mono ?_
    rintro e w1 ⟨rfl, hb⟩
    rw [HS.out]
    replace k1 := k1.keep hb
    replace b1 := btr b1 hb
    clear hb
    obtain ⟨q0, q1, q2, q3, q4, q5, q6⟩ := box7 k1
    go_wp2_with fail
    refine (t_cut_yes A B c d zs xs n P Z I F T w1 HR HZ HP HI hFT hTZ hd1 (h1.below b1) (h2.below b1)).mono ?_
    rintro e w2 ⟨A1, c1, B1, d1, rfl, oS, oX, hb⟩
    replace oS := oS.more (B' := w.heap.size) b1.size
    replace oX := oX.more (B' := w.heap.size) b1.size
    replace k1 := k1.keep hb
    replace b1 := btr b1 hb
    clear hb
    rw [List.length_set]
    obtain ⟨X, hX⟩ : ∃ X, cutCells (Z * I) (F * I) ((T - F) * I) xs P = X := ⟨_, rfl⟩
    rw [hX] at oX ⊢
    have HX := Lib.hid hX
    have hX6 : X.length ≤ 65536 := by
      rw [← hX, cutCells_length (by rw [← HXL.out]; exact Nat.le_refl _) (by rw [← Nat.add_mul]; exact Nat.mul_le_mul_right _ (by omega))]
      have e1 : P * ((T - F) * I) ≤ P * (Z * I) := Nat.mul_le_mul_left _ (Nat.mul_le_mul_right _ (by omega))
      have e2 := HXL.out
      omega
    clear q0 q1 q2 q3 q4 q5 q6 hX
    obtain ⟨q0, q1, q2, q3, q4, q5, q6⟩ := box7 (k1.alloc (.cells #[.slice A1 zs.length c1, .slice B1 X.length d1] 26))
    go_wp2_with fail
    clear q0 q1 q2 q3 q4 q5 q6
    have kA := Blk.new (w2) 26 #[.slice A1 zs.length c1, .slice B1 X.length d1]
    replace k1 := k1.alloc (.cells #[.slice A1 zs.length c1, .slice B1 X.length d1] 26)
    replace oS := oS.alloc (.cells #[.slice A1 zs.length c1, .slice B1 X.length d1] 26)
    replace oX := oX.alloc (.cells #[.slice A1 zs.length c1, .slice B1 X.length d1] 26)
    replace b1 := b1.alloc b1.size (.cells #[.slice A1 zs.length c1, .slice B1 X.length d1] 26)
    generalize hnew : (w2).alloc (.cells #[.slice A1 zs.length c1, .slice B1 X.length d1] 26) = w3 at *
    clear hnew
    refine (l04_right A B c d zs xs w3 (by omega) (h1.below b1)).mono ?_
    rintro e w4 ⟨rfl, hb⟩
    rw [HR.out]
    replace k1 := k1.keep hb
    replace kA := kA.keep hb
    replace oS := oS.keep hb
    replace oX := oX.keep hb
    replace b1 := btr b1 hb
    clear hb
    obtain ⟨q0, q1, q2, q3, q4, q5, q6⟩ := box7 k1
    go_wp2_with fail
    refine (sh_cut_yes A c zs n Z F T w4 (by omega) HRZ HZ (by omega) (by omega) (by omega) (h1.below b1)).mono ?_
    rintro e w5 ⟨g, rfl, -, ho, hb⟩
    replace k1 := k1.keep hb
    replace kA := kA.keep hb
    replace oS := oS.keep hb
    replace oX := oX.keep hb
    replace b1 := btr b1 hb
    clear hb
    rw [List.length_set]
    clear q0 q1 q2 q3 q4 q5 q6
    obtain ⟨q0, q1, q2, q3, q4, q5, q6⟩ := box7 k1
    obtain ⟨p0, p1⟩ := box2 kA
    obtain ⟨b0, off0, z', rfl, hb0, hcz, hz'⟩ := (h1.below b1).get hn
    obtain rfl : (Z : Int) = z' := by have := HZ.out.symm.trans hz'.out; injection this
    have e0 : decide ((n : Int) < 0) = false := by simp
    have e1 : decide (zs.length ≤ n) = false := by simp; omega
    have e2 : decide ((F : Int) < 0) = false := by simp
    have e3 : decide (Z < T) = false := by simp; omega
    clear hz'
    go_wp2_with fail
    go_big_quiet (fail)
    rename_i nq
    replace k1 := k1.drewN nq
    replace kA := kA.drewN nq
    replace oS := oS.drewN nq
    replace oX := oX.drewN nq
    replace ho := ho.drewN nq
    replace b1 := below_drewN b1 nq
    clear q0 q1 q2 q3 q4 q5 q6 p0 p1 hcz
    generalize w5.drewN nq = w6 at *
    go_wp2_with fail
    have CE : Hid (∀ w', Below w6.heap.size w6 w' → Calls Try.prog 23 #[.slice A1 zs.length c1, .slice (some ⟨g, 0, none⟩) zs.length zs.length] w' (RetB w' (.bool true))) := Lib.hid fun w' hbk => by
      have := sh_equal_b A1 (some ⟨g, 0, none⟩) c1 zs.length (zs.set n ((T : Int) - F)) (zs.set n ((T : Int) - F)) w' (by simp; omega) (by simp; omega) (oS.keep hbk).rd (ho.keep hbk).rd
      rw [List.length_set, decide_eq_true rfl] at this
      exact this
    have CC : Hid (∀ w' A5 c5, Below w6.heap.size w6 w' → Rd w' A5 xs → Calls Try.prog 30 #[.slice (some ⟨b0, off0, none⟩) zs.length c, .slice A5 xs.length c5, .int .i64 n, .int .i64 F, .int .i64 T] w' (RetA w' 2 X)) := Lib.hid fun w' A5 c5 hbk h5 => by
      have := r4_cut (some ⟨b0, off0, none⟩) A5 c c5 zs xs n P Z I F T w' r4 hc1 RIN HZ HP HI HXL (by omega) hFT hTZ ((h1.below b1).below hbk) h5
      rw [HX.out] at this
      exact this
    have HK0 : Hid (∀ w' : World, Below (w6).heap.size (w6) w' → Below (w6).heap.size (w6) w' ∧ w'.cell? ⟨w.heap.size, 0, none⟩ = some (.slice (some ⟨b0, off0, none⟩) zs.length c) ∧ w'.cell? ⟨w.heap.size, 1, none⟩ = some (.slice B xs.length d) ∧ w'.cell? ⟨w.heap.size, 4, none⟩ = some (.int .i64 n) ∧ w'.cell? ⟨w.heap.size, 5, none⟩ = some (.int .i64 F) ∧ w'.cell? ⟨w.heap.size, 6, none⟩ = some (.int .i64 T) ∧ w'.cell? ⟨w2.heap.size, 0, none⟩ = some (.slice A1 zs.length c1) ∧ w'.cell? ⟨w2.heap.size, 1, none⟩ = some (.slice B1 X.length d1)) := Lib.hid (fun w' hbk => ⟨hbk, (k1.keep hbk).cell 0, (k1.keep hbk).cell 1, (k1.keep hbk).cell 4, (k1.keep hbk).cell 5, (k1.keep hbk).cell 6, (kA.keep hbk).cell 0, (kA.keep hbk).cell 1⟩)
    have HK : Hid (∀ w'' w' : World, Below w''.heap.size w'' w' → (fun w' : World => Below (w6).heap.size (w6) w' ∧ w'.cell? ⟨w.heap.size, 0, none⟩ = some (.slice (some ⟨b0, off0, none⟩) zs.length c) ∧ w'.cell? ⟨w.heap.size, 1, none⟩ = some (.slice B xs.length d) ∧ w'.cell? ⟨w.heap.size, 4, none⟩ = some (.int .i64 n) ∧ w'.cell? ⟨w.heap.size, 5, none⟩ = some (.int .i64 F) ∧ w'.cell? ⟨w.heap.size, 6, none⟩ = some (.int .i64 T) ∧ w'.cell? ⟨w2.heap.size, 0, none⟩ = some (.slice A1 zs.length c1) ∧ w'.cell? ⟨w2.heap.size, 1, none⟩ = some (.slice B1 X.length d1)) w'' → Below (w6).heap.size (w6) w' ∧ w'.cell? ⟨w.heap.size, 0, none⟩ = some (.slice (some ⟨b0, off0, none⟩) zs.length c) ∧ w'.cell? ⟨w.heap.size, 1, none⟩ = some (.slice B xs.length d) ∧ w'.cell? ⟨w.heap.size, 4, none⟩ = some (.int .i64 n) ∧ w'.cell? ⟨w.heap.size, 5, none⟩ = some (.int .i64 F) ∧ w'.cell? ⟨w.heap.size, 6, none⟩ = some (.int .i64 T) ∧ w'.cell? ⟨w2.heap.size, 0, none⟩ = some (.slice A1 zs.length c1) ∧ w'.cell? ⟨w2.heap.size, 1, none⟩ = some (.slice B1 X.length d1)) := Lib.hid (fun w'' w' hbk hsk => HK0.out w' (btr hsk.1 hbk))
    have HB : Hid (∀ w' : World, (Below (w6).heap.size (w6) w' ∧ w'.cell? ⟨w.heap.size, 0, none⟩ = some (.slice (some ⟨b0, off0, none⟩) zs.length c) ∧ w'.cell? ⟨w.heap.size, 1, none⟩ = some (.slice B xs.length d) ∧ w'.cell? ⟨w.heap.size, 4, none⟩ = some (.int .i64 n) ∧ w'.cell? ⟨w.heap.size, 5, none⟩ = some (.int .i64 F) ∧ w'.cell? ⟨w.heap.size, 6, none⟩ = some (.int .i64 T) ∧ w'.cell? ⟨w2.heap.size, 0, none⟩ = some (.slice A1 zs.length c1) ∧ w'.cell? ⟨w2.heap.size, 1, none⟩ = some (.slice B1 X.length d1)) → Below (w6).heap.size (w6) w') := Lib.hid (fun w' hsk => hsk.1)
    first | (go_region_held3 (fun w' => Below (w6).heap.size (w6) w' ∧ w'.cell? ⟨w.heap.size, 0, none⟩ = some (.slice (some ⟨b0, off0, none⟩) zs.length c) ∧ w'.cell? ⟨w.heap.size, 1, none⟩ = some (.slice B xs.length d) ∧ w'.cell? ⟨w.heap.size, 4, none⟩ = some (.int .i64 n) ∧ w'.cell? ⟨w.heap.size, 5, none⟩ = some (.int .i64 F) ∧ w'.cell? ⟨w.heap.size, 6, none⟩ = some (.int .i64 T) ∧ w'.cell? ⟨w2.heap.size, 0, none⟩ = some (.slice A1 zs.length c1) ∧ w'.cell? ⟨w2.heap.size, 1, none⟩ = some (.slice B1 X.length d1)) (first | exact HK0.out _ (Below.refl _ _).drew | exact HK.out _ _ (by assumption) (by assumption) | go_keep) (first | (go_at_call 23; refine (CE.out _ (HB.out _ (by assumption))).mono ?_; rintro e w7 ⟨rfl, hb7⟩) | (go_at_call 31; refine (l04_cells _ B c d zs xs _ (by omega) ((h2.below b1).below (HB.out _ (by assumption)))).mono ?_; rintro e w8 ⟨A5, c5, rfl, o5, hb8⟩) | (go_at_call 30; refine (CC.out _ A5 c5 (HB.out _ (by assumption)) o5.rd).mono ?_; rintro e w9 ⟨A6, c6, rfl, o6, hb9⟩) | (go_at_call 29; refine (l04_same A1 B1 A6 c1 d1 c6 _ X X _ (by omega) (by omega) (oX.keep (HB.out _ (by assumption))).rd o6.rd).mono ?_; rintro e w10 ⟨rfl, hb10⟩) | (go_at_call 14; refine (l04_awake _).mono ?_; rintro e w11 ⟨rfl, hb11⟩))) | fail
    have hb := HB.out w11 (by assumption)
    go_wp2_with fail
    go_ret
    exact ⟨rfl, btr b1 hb⟩
  · have HC := Lib.hid hcut
    rcases hr : tRightB zs xs with _ | _
    · have HR := Lib.hid hr
      have HE : Hid (tcutE zs xs s0 s1 s2 = 20) := Lib.hid (by simp [tcutE, hr])
      clear hr hcut
      go_enter Try.func5, Try.ntmps5
      go_wp2_with fail
      refine (l04_small A B c d zs xs _).mono ?_
      rintro e w1 ⟨rfl, hb⟩
      rw [HS.out]
      replace k1 := k1.keep hb
      replace b1 := btr b1 hb
      clear hb
      obtain ⟨q0, q1, q2, q3, q4, q5, q6⟩ := box7 k1
      go_wp2_with fail
      refine (t_cut_no A B c d zs xs s0 s1 s2 w1 (by omega) (h1.below b1) HC).mono ?_
      rintro e w2 ⟨A1, c1, B1, d1, rfl, -, -, hb⟩
      clear q0 q1 q2 q3 q4 q5 q6
      replace k1 := k1.keep hb
      replace b1 := btr b1 hb
      clear hb
      rw [HE.out]
      obtain ⟨q0, q1, q2, q3, q4, q5, q6⟩ := box7 (k1.alloc (.cells #[.slice A1 0 c1, .slice B1 0 d1] 26))
      go_wp2_with fail
      clear q0 q1 q2 q3 q4 q5 q6
      have kA := Blk.new (w2) 26 #[.slice A1 0 c1, .slice B1 0 d1]
      replace k1 := k1.alloc (.cells #[.slice A1 0 c1, .slice B1 0 d1] 26)
      replace b1 := b1.alloc b1.size (.cells #[.slice A1 0 c1, .slice B1 0 d1] 26)
      generalize hnew : (w2).alloc (.cells #[.slice A1 0 c1, .slice B1 0 d1] 26) = w3 at *
      clear hnew
      refine (l04_right A B c d zs xs w3 (by omega) (h1.below b1)).mono ?_
      rintro e w4 ⟨rfl, hb⟩
      rw [HR.out]
      replace kA := kA.keep hb
      replace b1 := btr b1 hb
      clear hb
      obtain ⟨p0, p1⟩ := box2 kA
      go_wp2_with fail
      refine (l04_awake _).mono ?_
      rintro e w5 ⟨rfl, hb⟩
      go_wp2_with fail
      go_ret
      exact ⟨rfl, btr b1 hb⟩
    · have HR := Lib.hid hr
      have HE : Hid (tcutE zs xs s0 s1 s2 = cutE zs s0 s1 s2) := Lib.hid (by simp [tcutE, hr])
      have hce : cutE zs s0 s1 s2 ≠ 0 := by rw [← HE.out]; exact hcut
      have HV : Hid (cutV zs s0 s1 s2 = []) := Lib.hid (by simp [cutV, hce])
      have e1 : (cutE zs s0 s1 s2 != 0) = true := by simpa using hce
      have e2 : (cutE zs s0 s1 s2 == cutE zs s0 s1 s2) = true := by simp
      clear hr hcut hce
      go_enter Try.func5, Try.ntmps5
      go_wp2_with fail
      refine (l04_small A B c d zs xs _).mono ?_
      rintro e w1 ⟨rfl, hb⟩
      rw [HS.out]
      replace k1 := k1.keep hb
      replace b1 := btr b1 hb
      clear hb
      obtain ⟨q0, q1, q2, q3, q4, q5, q6⟩ := box7 k1
      go_wp2_with fail
      refine (t_cut_no A B c d zs xs s0 s1 s2 w1 (by omega) (h1.below b1) HC).mono ?_
      rintro e w2 ⟨A1, c1, B1, d1, rfl, -, -, hb⟩
      clear q0 q1 q2 q3 q4 q5 q6
      replace k1 := k1.keep hb
      replace b1 := btr b1 hb
      clear hb
      rw [HE.out]
      obtain ⟨q0, q1, q2, q3, q4, q5, q6⟩ := box7 (k1.alloc (.cells #[.slice A1 0 c1, .slice B1 0 d1] 26))
      go_wp2_with fail
      clear q0 q1 q2 q3 q4 q5 q6
      have kA := Blk.new (w2) 26 #[.slice A1 0 c1, .slice B1 0 d1]
      replace k1 := k1.alloc (.cells #[.slice A1 0 c1, .slice B1 0 d1] 26)
      replace b1 := b1.alloc b1.size (.cells #[.slice A1 0 c1, .slice B1 0 d1] 26)
      generalize hnew : (w2).alloc (.cells #[.slice A1 0 c1, .slice B1 0 d1] 26) = w3 at *
      clear hnew
      refine (l04_right A B c d zs xs w3 (by omega) (h1.below b1)).mono ?_
      rintro e w4 ⟨rfl, hb⟩
      rw [HR.out]
      replace k1 := k1.keep hb
      replace kA := kA.keep hb
      replace b1 := btr b1 hb
      clear hb
      obtain ⟨q0, q1, q2, q3, q4, q5, q6⟩ := box7 k1
      go_wp2_with fail
      refine (sh_cut A c zs s0 s1 s2 w4 (by omega) (h1.below b1)).mono ?_
      rintro e w5 ⟨A2, c2, rfl, -, hb, -, -⟩
      rw [HV.out]
      replace kA := kA.keep hb
      replace b1 := btr b1 hb
      clear hb
      clear q0 q1 q2 q3 q4 q5 q6
      obtain ⟨p0, p1⟩ := box2 kA
      go_wp2_with fail
      refine (l04_awake _).mono ?_
      rintro e w6 ⟨rfl, hb⟩
      go_wp2_with fail
      go_ret
      exact ⟨rfl, btr b1 hb⟩

end Go.Proofs.Ythcdjdhnjbdfeaa
