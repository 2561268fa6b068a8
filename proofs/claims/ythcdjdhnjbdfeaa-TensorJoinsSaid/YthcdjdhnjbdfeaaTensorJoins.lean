/- The walk of the statement TensorJoins. -/
import Derived.Test.YthcdjdhnjbdfeaaTJoin2
import Derived.Test.YthcdjdhnjbdfeaaRef04Join
import Derived.Test.YthcdjdhnjbdfeaaTensorCuts
import Derived.Deep.DeepCutAuto
namespace Go.Proofs.Ythcdjdhnjbdfeaa
open Go.RowKit

set_option maxRecDepth 100000 in
set_option maxHeartbeats 2000000 in
theorem tensorJoins_big1 (A B C D : Option Addr) (c d c' d' : Nat) (zs xs ts ys : List Int) (s0 s1 s2 : Int) (w : World) (HS : Hid (smallB zs xs = false)) :
    Calls Try.prog 12 #[.agg #[.slice A zs.length c, .slice B xs.length d, .slice C ts.length c', .slice D ys.length d', .int .i64 s0, .int .i64 s1, .int .i64 s2]] w (LawTrue w) := by
  have b1 := (Below.refl w.heap.size w).alloc (Nat.le_refl _) (.cells #[.slice A zs.length c, .slice B xs.length d, .slice C ts.length c', .slice D ys.length d', .int .i64 s0, .int .i64 s1, .int .i64 s2] 47)
  go_enter Try.func12, Try.ntmps12
  go_wp2_with fail
  refine (l04_small A B c d zs xs _).mono ?_
  rintro e w1 ⟨rfl, hb⟩
  rw [HS.out]
  go_wp2_with fail
  refine (l04_awake _).mono ?_
  rintro e w2 ⟨rfl, hb2⟩
  go_wp2_with fail
  go_ret
  exact ⟨rfl, btr (btr b1 hb) hb2⟩
set_option maxRecDepth 100000 in
set_option maxHeartbeats 2000000 in
theorem tensorJoins_big2 (A B C D : Option Addr) (c d c' d' : Nat) (zs xs ts ys : List Int) (s0 s1 s2 : Int) (w : World) (HS : Hid (smallB zs xs = true)) (HS' : Hid (smallB ts ys = false)) :
    Calls Try.prog 12 #[.agg #[.slice A zs.length c, .slice B xs.length d, .slice C ts.length c', .slice D ys.length d', .int .i64 s0, .int .i64 s1, .int .i64 s2]] w (LawTrue w) := by
  have b1 := (Below.refl w.heap.size w).alloc (Nat.le_refl _) (.cells #[.slice A zs.length c, .slice B xs.length d, .slice C ts.length c', .slice D ys.length d', .int .i64 s0, .int .i64 s1, .int .i64 s2] 47)
  have k1 := Blk.new w 47 #[.slice A zs.length c, .slice B xs.length d, .slice C ts.length c', .slice D ys.length d', .int .i64 s0, .int .i64 s1, .int .i64 s2]
  go_enter Try.func12, Try.ntmps12
  go_wp2_with fail
  refine (l04_small A B c d zs xs _).mono ?_
  rintro e w1 ⟨rfl, hb⟩
  rw [HS.out]
  replace k1 := k1.keep hb
  replace b1 := btr b1 hb
  clear hb
  obtain ⟨q0, q1, q2, q3, q4, q5, q6⟩ := box7 k1
  go_wp2_with fail
  refine (l04_small C D c' d' ts ys _).mono ?_
  rintro e w2 ⟨rfl, hb⟩
  rw [HS'.out]
  go_wp2_with fail
  refine (l04_awake _).mono ?_
  rintro e w3 ⟨rfl, hb2⟩
  go_wp2_with fail
  go_ret
  exact ⟨rfl, btr (btr b1 hb) hb2⟩

set_option maxRecDepth 100000 in
set_option maxHeartbeats 16000000 in
theorem tensorJoins_no (A B C D : Option Addr) (c d c' d' : Nat) (zs xs ts ys : List Int) (s0 s1 s2 : Int) (w : World) (h1 : Rd w A zs) (h3 : Rd w C ts)
    (HS : Hid (smallB zs xs = true)) (HS' : Hid (smallB ts ys = true)) (hs : zs.length ≤ 50) (hx : xs.length ≤ 600) (hs' : ts.length ≤ 50) (hx' : ys.length ≤ 600) (HC : Hid (tjoinE zs xs ts ys s0 ≠ 0)) :
    Calls Try.prog 12 #[.agg #[.slice A zs.length c, .slice B xs.length d, .slice C ts.length c', .slice D ys.length d', .int .i64 s0, .int .i64 s1, .int .i64 s2]] w (LawTrue w) := by
  have b1 := (Below.refl w.heap.size w).alloc (Nat.le_refl _) (.cells #[.slice A zs.length c, .slice B xs.length d, .slice C ts.length c', .slice D ys.length d', .int .i64 s0, .int .i64 s1, .int .i64 s2] 47)
  have k1 := Blk.new w 47 #[.slice A zs.length c, .slice B xs.length d, .slice C ts.length c', .slice D ys.length d', .int .i64 s0, .int .i64 s1, .int .i64 s2]
  rcases hq : tRightB zs xs with _ | _
  · have HQ := Lib.hid hq
    have HE : Hid (tjoinE zs xs ts ys s0 = 20) := Lib.hid (by simp [tjoinE, hq])
    clear hq
    go_enter Try.func12, Try.ntmps12
    go_wp2_with fail
    refine (l04_small A B c d zs xs _).mono ?_
    rintro e w1 ⟨rfl, hb⟩
    rw [HS.out]
    replace k1 := k1.keep hb
    replace b1 := btr b1 hb
    clear hb
    obtain ⟨q0, q1, q2, q3, q4, q5, q6⟩ := box7 k1
    go_wp2_with fail
    refine (l04_small C D c' d' ts ys _).mono ?_
    rintro e w2 ⟨rfl, hb⟩
    rw [HS'.out]
    replace k1 := k1.keep hb
    replace b1 := btr b1 hb
    clear hb
    clear q0 q1 q2 q3 q4 q5 q6
    obtain ⟨q0, q1, q2, q3, q4, q5, q6⟩ := box7 k1
    go_wp2_with fail
    refine (t_join_no A B C D c d c' d' zs xs ts ys s0 w2 (by omega) (by omega) (h1.below b1) (h3.below b1) HC).mono ?_
    rintro e w3 ⟨A1, c1, B1, d1, rfl, -, -, hb⟩
    clear q0 q1 q2 q3 q4 q5 q6
    replace k1 := k1.keep hb
    replace b1 := btr b1 hb
    clear hb
    rw [HE.out]
    obtain ⟨q0, q1, q2, q3, q4, q5, q6⟩ := box7 (k1.alloc (.cells #[.slice A1 0 c1, .slice B1 0 d1] 26))
    go_wp2_with fail
    clear q0 q1 q2 q3 q4 q5 q6
    have kA := Blk.new (w3) 26 #[.slice A1 0 c1, .slice B1 0 d1]
    replace k1 := k1.alloc (.cells #[.slice A1 0 c1, .slice B1 0 d1] 26)
    replace b1 := b1.alloc b1.size (.cells #[.slice A1 0 c1, .slice B1 0 d1] 26)
    generalize hnew : (w3).alloc (.cells #[.slice A1 0 c1, .slice B1 0 d1] 26) = w4 at *
    clear hnew
    refine (l04_right A B c d zs xs w4 (by omega) (h1.below b1)).mono ?_
    rintro e w5 ⟨rfl, hb⟩
    rw [HQ.out]
    replace kA := kA.keep hb
    replace b1 := btr b1 hb
    clear hb
    obtain ⟨p0, p1⟩ := box2 kA
    go_wp2_with fail
    refine (l04_awake _).mono ?_
    rintro e w6 ⟨rfl, hb⟩
    go_wp2_with fail
    go_ret
    exact ⟨rfl, btr b1 hb⟩
  rcases hq' : tRightB ts ys with _ | _
  · have HQ := Lib.hid hq
    have HQ' := Lib.hid hq'
    have HE : Hid (tjoinE zs xs ts ys s0 = 20) := Lib.hid (by simp [tjoinE, hq'])
    clear hq hq'
    go_enter Try.func12, Try.ntmps12
    go_wp2_with fail
    refine (l04_small A B c d zs xs _).mono ?_
    rintro e w1 ⟨rfl, hb⟩
    rw [HS.out]
    replace k1 := k1.keep hb
    replace b1 := btr b1 hb
    clear hb
    obtain ⟨q0, q1, q2, q3, q4, q5, q6⟩ := box7 k1
    go_wp2_with fail
    refine (l04_small C D c' d' ts ys _).mono ?_
    rintro e w2 ⟨rfl, hb⟩
    rw [HS'.out]
    replace k1 := k1.keep hb
    replace b1 := btr b1 hb
    clear hb
    clear q0 q1 q2 q3 q4 q5 q6
    obtain ⟨q0, q1, q2, q3, q4, q5, q6⟩ := box7 k1
    go_wp2_with fail
    refine (t_join_no A B C D c d c' d' zs xs ts ys s0 w2 (by omega) (by omega) (h1.below b1) (h3.below b1) HC).mono ?_
    rintro e w3 ⟨A1, c1, B1, d1, rfl, -, -, hb⟩
    clear q0 q1 q2 q3 q4 q5 q6
    replace k1 := k1.keep hb
    replace b1 := btr b1 hb
    clear hb
    rw [HE.out]
    obtain ⟨q0, q1, q2, q3, q4, q5, q6⟩ := box7 (k1.alloc (.cells #[.slice A1 0 c1, .slice B1 0 d1] 26))
    go_wp2_with fail
    clear q0 q1 q2 q3 q4 q5 q6
    have kA := Blk.new (w3) 26 #[.slice A1 0 c1, .slice B1 0 d1]
    replace k1 := k1.alloc (.cells #[.slice A1 0 c1, .slice B1 0 d1] 26)
    replace b1 := b1.alloc b1.size (.cells #[.slice A1 0 c1, .slice B1 0 d1] 26)
    generalize hnew : (w3).alloc (.cells #[.slice A1 0 c1, .slice B1 0 d1] 26) = w4 at *
    clear hnew
    refine (l04_right A B c d zs xs w4 (by omega) (h1.below b1)).mono ?_
    rintro e w5 ⟨rfl, hb⟩
    rw [HQ.out]
    replace kA := kA.keep hb
    replace k1 := k1.keep hb
    replace b1 := btr b1 hb
    clear hb
    obtain ⟨q0, q1, q2, q3, q4, q5, q6⟩ := box7 k1
    go_wp2_with fail
    refine (l04_right C D c' d' ts ys w5 (by omega) (h3.below b1)).mono ?_
    rintro e w6 ⟨rfl, hb⟩
    rw [HQ'.out]
    replace kA := kA.keep hb
    replace b1 := btr b1 hb
    clear hb
    clear q0 q1 q2 q3 q4 q5 q6
    obtain ⟨p0, p1⟩ := box2 kA
    go_wp2_with fail
    refine (l04_awake _).mono ?_
    rintro e w7 ⟨rfl, hb⟩
    go_wp2_with fail
    go_ret
    exact ⟨rfl, btr b1 hb⟩
  · have HQ := Lib.hid hq
    have HQ' := Lib.hid hq'
    have HE : Hid (tjoinE zs xs ts ys s0 = joinE zs ts s0) := Lib.hid (by simp [tjoinE, hq, hq'])
    have hje : joinE zs ts s0 ≠ 0 := by rw [← HE.out]; exact HC.out
    have HV : Hid (joinV zs ts s0 = []) := Lib.hid (by simp [joinV, hje])
    have e1 : (joinE zs ts s0 != 0) = true := by simpa using hje
    have e2 : (joinE zs ts s0 == joinE zs ts s0) = true := by simp
    clear hq hq' hje
    go_enter Try.func12, Try.ntmps12
    go_wp2_with fail
    refine (l04_small A B c d zs xs _).mono ?_
    rintro e w1 ⟨rfl, hb⟩
    rw [HS.out]
    replace k1 := k1.keep hb
    replace b1 := btr b1 hb
    clear hb
    obtain ⟨q0, q1, q2, q3, q4, q5, q6⟩ := box7 k1
    go_wp2_with fail
    refine (l04_small C D c' d' ts ys _).mono ?_
    rintro e w2 ⟨rfl, hb⟩
    rw [HS'.out]
    replace k1 := k1.keep hb
    replace b1 := btr b1 hb
    clear hb
    clear q0 q1 q2 q3 q4 q5 q6
    obtain ⟨q0, q1, q2, q3, q4, q5, q6⟩ := box7 k1
    go_wp2_with fail
    refine (t_join_no A B C D c d c' d' zs xs ts ys s0 w2 (by omega) (by omega) (h1.below b1) (h3.below b1) HC).mono ?_
    rintro e w3 ⟨A1, c1, B1, d1, rfl, -, -, hb⟩
    clear q0 q1 q2 q3 q4 q5 q6
    replace k1 := k1.keep hb
    replace b1 := btr b1 hb
    clear hb
    rw [HE.out]
    obtain ⟨q0, q1, q2, q3, q4, q5, q6⟩ := box7 (k1.alloc (.cells #[.slice A1 0 c1, .slice B1 0 d1] 26))
    go_wp2_with fail
    clear q0 q1 q2 q3 q4 q5 q6
    have kA := Blk.new (w3) 26 #[.slice A1 0 c1, .slice B1 0 d1]
    replace k1 := k1.alloc (.cells #[.slice A1 0 c1, .slice B1 0 d1] 26)
    replace b1 := b1.alloc b1.size (.cells #[.slice A1 0 c1, .slice B1 0 d1] 26)
    generalize hnew : (w3).alloc (.cells #[.slice A1 0 c1, .slice B1 0 d1] 26) = w4 at *
    clear hnew
    refine (l04_right A B c d zs xs w4 (by omega) (h1.below b1)).mono ?_
    rintro e w5 ⟨rfl, hb⟩
    rw [HQ.out]
    replace kA := kA.keep hb
    replace k1 := k1.keep hb
    replace b1 := btr b1 hb
    clear hb
    obtain ⟨q0, q1, q2, q3, q4, q5, q6⟩ := box7 k1
    go_wp2_with fail
    refine (l04_right C D c' d' ts ys w5 (by omega) (h3.below b1)).mono ?_
    rintro e w6 ⟨rfl, hb⟩
    rw [HQ'.out]
    replace kA := kA.keep hb
    replace k1 := k1.keep hb
    replace b1 := btr b1 hb
    clear hb
    clear q0 q1 q2 q3 q4 q5 q6
    obtain ⟨q0, q1, q2, q3, q4, q5, q6⟩ := box7 k1
    go_wp2_with fail
    refine (sh_join A C c c' zs ts s0 w6 (by omega) (by omega) (h1.below b1) (h3.below b1)).mono ?_
    rintro e w7 ⟨A2, c2, rfl, -, hb, -, -⟩
    rw [HV.out]
    replace kA := kA.keep hb
    replace b1 := btr b1 hb
    clear hb
    clear q0 q1 q2 q3 q4 q5 q6
    obtain ⟨p0, p1⟩ := box2 kA
    go_wp2_with fail
    refine (l04_awake _).mono ?_
    rintro e w8 ⟨rfl, hb⟩
    go_wp2_with fail
    go_ret
    exact ⟨rfl, btr b1 hb⟩

set_option maxRecDepth 100000 in
set_option maxHeartbeats 16000000 in
theorem tensorJoins_yes (A B C D : Option Addr) (c d c' d' : Nat) (zs xs ts ys : List Int) (n P Z1 Z2 I : Nat) (s1 s2 : Int) (w : World) (h1 : Rd w A zs) (h2 : Rd w B xs) (h3 : Rd w C ts) (h4 : Rd w D ys) (hc : zs.length ≤ c) (hc' : ts.length ≤ c') (hd : xs.length ≤ d) (hd' : ys.length ≤ d')
    (HS : Hid (smallB zs xs = true)) (HS' : Hid (smallB ts ys = true)) (hs : zs.length ≤ 50) (hx : xs.length ≤ 600) (hs' : ts.length ≤ 50) (hx' : ys.length ≤ 600)
    (HQ : Hid (tRightB zs xs = true)) (HQ' : Hid (tRightB ts ys = true)) (hl : Hid (zs.length = ts.length)) (hn : n < zs.length) (hz : Hid (zs[n]? = some (Z1 : Int))) (ht : Hid (ts[n]? = some (Z2 : Int)))
    (hP : Hid (prodL (zs.take n) = (P : Int))) (hI : Hid (prodL (zs.drop (n + 1)) = (I : Int))) (hI' : Hid (prodL (ts.drop (n + 1)) = (I : Int))) (hxl : Hid (xs.length = P * (Z1 * I))) (hyl : Hid (ys.length = P * (Z2 * I)))
    (hrs : Hid (restSame zs ts n = true)) (hj : Hid (joinL zs ts n = zs.set n ((Z1 : Int) + Z2))) (hrj : Hid (rightB (zs.set n ((Z1 : Int) + Z2)) = true)) (hset : Hid (zs.set n (Z2 : Int) = ts)) (hZ1 : 1 ≤ Z1) (hZ2 : 1 ≤ Z2) (hP1 : 1 ≤ P) (hI1 : 1 ≤ I) :
    Calls Try.prog 12 #[.agg #[.slice A zs.length c, .slice B xs.length d, .slice C ts.length c', .slice D ys.length d', .int .i64 n, .int .i64 s1, .int .i64 s2]] w (LawTrue w) := by
  have b1 := (Below.refl w.heap.size w).alloc (Nat.le_refl _) (.cells #[.slice A zs.length c, .slice B xs.length d, .slice C ts.length c', .slice D ys.length d', .int .i64 n, .int .i64 s1, .int .i64 s2] 47)
  have k1 := Blk.new w 47 #[.slice A zs.length c, .slice B xs.length d, .slice C ts.length c', .slice D ys.length d', .int .i64 n, .int .i64 s1, .int .i64 s2]
  obtain ⟨hrz, -⟩ := (tRightB_iff _ _).1 HQ.out
  obtain ⟨hrt, -⟩ := (tRightB_iff _ _).1 HQ'.out
  obtain ⟨r1, r4, rin, -⟩ := (rightB_iff zs).1 hrz
  have HRZ := Lib.hid hrz
  have HRT := Lib.hid hrt
  have RIN := Lib.hid rin
  have hn' : n < ts.length := by rw [← hl.out]; exact hn
  clear hrz hrt rin
  obtain ⟨J, hJ⟩ : ∃ J, zs.set n ((Z1 : Int) + Z2) = J := ⟨_, rfl⟩
  obtain ⟨X, hX⟩ : ∃ X, joinCells (Z1 * I) (Z2 * I) xs ys P = X := ⟨_, rfl⟩
  have hxl1 : P * (Z1 * I) ≤ xs.length := by rw [hxl.out]; exact Nat.le_refl _
  have hyl1 : P * (Z2 * I) ≤ ys.length := by rw [hyl.out]; exact Nat.le_refl _
  have hJl : J.length = zs.length := by rw [← hJ]; simp
  have hXl : X.length = P * ((Z1 + Z2) * I) := by rw [← hX, joinCells_length hxl1 hyl1, Nat.add_mul]
  have hX6 : X.length ≤ 1200 := by rw [hXl, Nat.add_mul, Nat.mul_add, ← hxl.out, ← hyl.out]; omega
  have hJz : J[n]? = some (((Z1 + Z2 : Nat) : Int)) := by rw [← hJ, List.getElem?_set_self hn]; simp
  have hJP : prodL (J.take n) = (P : Int) := by rw [← hJ, List.take_set_of_le (Nat.le_refl n)]; exact hP.out
  have hJI : prodL (J.drop (n + 1)) = (I : Int) := by rw [← hJ, List.drop_set, if_pos (by omega)]; exact hI.out
  have hJr : tRightB J X = true := by
    refine (tRightB_iff _ _).2 ⟨by rw [← hJ]; exact hrj.out, ?_⟩
    rw [sides_split hJz, hJP, hJI, hXl]
    simp [Int.natCast_mul]
  have cl1 : cutCells ((Z1 + Z2) * I) (0 * I) ((Z1 - 0) * I) X P = xs := by
    rw [← hX, Nat.zero_mul, Nat.sub_zero, Nat.add_mul, cut_join_left hxl1 hyl1, ← hxl.out, List.take_length]
  have cl2 : cutCells ((Z1 + Z2) * I) (Z1 * I) ((Z1 + Z2 - Z1) * I) X P = ys := by
    rw [← hX, Nat.add_sub_cancel_left, Nat.add_mul, cut_join_right hxl1 hyl1, ← hyl.out, List.take_length]
  have sl1 : J.set n ((Z1 : Int) - ((0 : Nat) : Int)) = zs := by
    rw [← hJ, List.set_set]
    apply List.ext_getElem?
    intro i
    by_cases hi : i = n
    · subst hi; rw [List.getElem?_set_self hn, hz.out]; simp
    · rw [List.getElem?_set_ne (by omega)]
  have sl2 : J.set n (((Z1 + Z2 : Nat) : Int) - (Z1 : Int)) = ts := by
    rw [← hJ, List.set_set, show ((Z1 + Z2 : Nat) : Int) - (Z1 : Int) = (Z2 : Int) from by omega, hset.out]
  have HJr := Lib.hid hJr
  have HJz := Lib.hid hJz
  have HJP := Lib.hid hJP
  have HJI := Lib.hid hJI
  have CL1 := Lib.hid cl1
  have CL2 := Lib.hid cl2
  have SL1 := Lib.hid sl1
  have SL2 := Lib.hid sl2
  have HJ := Lib.hid hJ
  have HX := Lib.hid hX
  have HJl := Lib.hid hJl
  clear hJ hX hJl hXl hJz hJP hJI hJr cl1 cl2 sl1 sl2
  go_enter Try.func12, Try.ntmps12
  go_wp2_with fail
  refine (l04_small A B c d zs xs _).mono ?_
  rintro e w1 ⟨rfl, hb⟩
  rw [HS.out]
  replace k1 := k1.keep hb
  replace b1 := btr b1 hb
  clear hb
  obtain ⟨q0, q1, q2, q3, q4, q5, q6⟩ := box7 k1
  go_wp2_with fail
  refine (l04_small C D c' d' ts ys _).mono ?_
  rintro e w2 ⟨rfl, hb⟩
  rw [HS'.out]
  replace k1 := k1.keep hb
  replace b1 := btr b1 hb
  clear hb
  clear q0 q1 q2 q3 q4 q5 q6
  obtain ⟨q0, q1, q2, q3, q4, q5, q6⟩ := box7 k1
  go_wp2_with fail
  refine (t_join_yes A B C D c d c' d' zs xs ts ys n P Z1 Z2 I w2 HQ HQ' hl hn hz ht hP hI hI' hxl hyl hrs hj hrj hc hc' hd hd' (h1.below b1) (h2.below b1) (h3.below b1) (h4.below b1)).mono ?_
  rintro e w3 ⟨A1, c1, B1, d1, rfl, oS, oX, hb⟩
  replace oS := oS.more (B' := w.heap.size) b1.size
  replace oX := oX.more (B' := w.heap.size) b1.size
  replace k1 := k1.keep hb
  replace b1 := btr b1 hb
  clear hb
  rw [HJ.out, HJl.out, HX.out]
  rw [HJ.out] at oS
  rw [HX.out] at oX
  clear q0 q1 q2 q3 q4 q5 q6
  obtain ⟨q0, q1, q2, q3, q4, q5, q6⟩ := box7 (k1.alloc (.cells #[.slice A1 zs.length c1, .slice B1 X.length d1] 26))
  go_wp2_with fail
  clear q0 q1 q2 q3 q4 q5 q6
  have kA := Blk.new (w3) 26 #[.slice A1 zs.length c1, .slice B1 X.length d1]
  replace k1 := k1.alloc (.cells #[.slice A1 zs.length c1, .slice B1 X.length d1] 26)
  replace oS := oS.alloc (.cells #[.slice A1 zs.length c1, .slice B1 X.length d1] 26)
  replace oX := oX.alloc (.cells #[.slice A1 zs.length c1, .slice B1 X.length d1] 26)
  replace b1 := b1.alloc b1.size (.cells #[.slice A1 zs.length c1, .slice B1 X.length d1] 26)
  generalize hnew : (w3).alloc (.cells #[.slice A1 zs.length c1, .slice B1 X.length d1] 26) = w4 at *
  clear hnew
  refine (l04_right A B c d zs xs w4 (by omega) (h1.below b1)).mono ?_
  rintro e w5 ⟨rfl, hb⟩
  rw [HQ.out]
  replace kA := kA.keep hb
  replace k1 := k1.keep hb
  replace oS := oS.keep hb
  replace oX := oX.keep hb
  replace b1 := btr b1 hb
  clear hb
  obtain ⟨q0, q1, q2, q3, q4, q5, q6⟩ := box7 k1
  go_wp2_with fail
  refine (l04_right C D c' d' ts ys w5 (by omega) (h3.below b1)).mono ?_
  rintro e w6 ⟨rfl, hb⟩
  rw [HQ'.out]
  replace kA := kA.keep hb
  replace k1 := k1.keep hb
  replace oS := oS.keep hb
  replace oX := oX.keep hb
  replace b1 := btr b1 hb
  clear hb
  clear q0 q1 q2 q3 q4 q5 q6
  obtain ⟨q0, q1, q2, q3, q4, q5, q6⟩ := box7 k1
  go_wp2_with fail
  refine (sh_join_yes A C c c' zs ts n Z1 Z2 w6 HRZ HRT hl hn hz ht hrs hj hrj (h1.below b1) (h3.below b1)).mono ?_
  rintro e w7 ⟨g, rfl, -, ho, hb⟩
  rw [HJ.out, HJl.out]
  rw [HJ.out] at ho
  replace kA := kA.keep hb
  replace k1 := k1.keep hb
  replace oS := oS.keep hb
  replace oX := oX.keep hb
  replace b1 := btr b1 hb
  clear hb
  clear q0 q1 q2 q3 q4 q5 q6
  obtain ⟨q0, q1, q2, q3, q4, q5, q6⟩ := box7 k1
  obtain ⟨p0, p1⟩ := box2 kA
  have e0 : decide ((n : Int) < 0) = false := by simp
  have e1 : decide (zs.length ≤ n) = false := by simp; omega
  have e2 : decide (ts.length ≤ n) = false := by simp; omega
  have e3 : ((zs.length : Int) != (zs.length : Int)) = false := by simp
  obtain ⟨b0, off0, z', rfl, hb0, hcz, hz'⟩ := (h1.below b1).get hn
  obtain rfl : (Z1 : Int) = z' := by have := hz.out.symm.trans hz'.out; injection this
  have hcg := ho.cell HJz.out
  clear hz'
  have CC : Hid (∀ w', Below w7.heap.size w7 w' → Calls Try.prog 27 #[.agg #[.slice A1 zs.length c1, .slice B1 X.length d1], .int .i64 n, .int .i64 0, .int .i64 Z1] w' (RetTE w' zs xs 0)) := Lib.hid fun w' hbk => by
    have := t_cut_yes A1 B1 c1 d1 J X n P (Z1 + Z2) I 0 Z1 w' HJr HJz HJP HJI (by omega) (by omega) oX.len_le (oS.keep hbk).rd (oX.keep hbk).rd
    rw [SL1.out, CL1.out, HJl.out] at this
    exact this
  go_upto_region 11 with fail
  go_cut [7, 8] (fun s7 s8 wx => ∃ (bx : Nat) (A2 : Option Addr) (c2 : Nat) (B2 : Option Addr) (d2 : Nat), s7 = .pointer (some ⟨bx, 0, none⟩) ∧ s8 = .int .i64 0 ∧ Blk wx bx 26 #[.slice A2 zs.length c2, .slice B2 xs.length d2] ∧ Rd wx A2 zs ∧ Rd wx B2 xs ∧ Below w7.heap.size w7 wx)
  case first =>
    have HK0 : Hid (∀ w' : World, Below (w7).heap.size (w7) w' → Below (w7).heap.size (w7) w' ∧ w'.cell? ⟨w.heap.size, 0, none⟩ = some (.slice (some ⟨b0, off0, none⟩) zs.length c) ∧ w'.cell? ⟨w.heap.size, 4, none⟩ = some (.int .i64 n) ∧ w'.cell? ⟨w3.heap.size, 0, none⟩ = some (.slice A1 zs.length c1) ∧ w'.cell? ⟨w3.heap.size, 1, none⟩ = some (.slice B1 X.length d1) ∧ w'.cell? ⟨b0, off0 + n, none⟩ = some (.int .i64 Z1)) := Lib.hid (fun w' hbk => ⟨hbk, (k1.keep hbk).cell 0, (k1.keep hbk).cell 4, (kA.keep hbk).cell 0, (kA.keep hbk).cell 1, (hbk.cell (p := ⟨_, _, _⟩) hb0).trans hcz⟩)
    have HK : Hid (∀ w'' w' : World, Below w''.heap.size w'' w' → (fun w' : World => Below (w7).heap.size (w7) w' ∧ w'.cell? ⟨w.heap.size, 0, none⟩ = some (.slice (some ⟨b0, off0, none⟩) zs.length c) ∧ w'.cell? ⟨w.heap.size, 4, none⟩ = some (.int .i64 n) ∧ w'.cell? ⟨w3.heap.size, 0, none⟩ = some (.slice A1 zs.length c1) ∧ w'.cell? ⟨w3.heap.size, 1, none⟩ = some (.slice B1 X.length d1) ∧ w'.cell? ⟨b0, off0 + n, none⟩ = some (.int .i64 Z1)) w'' → Below (w7).heap.size (w7) w' ∧ w'.cell? ⟨w.heap.size, 0, none⟩ = some (.slice (some ⟨b0, off0, none⟩) zs.length c) ∧ w'.cell? ⟨w.heap.size, 4, none⟩ = some (.int .i64 n) ∧ w'.cell? ⟨w3.heap.size, 0, none⟩ = some (.slice A1 zs.length c1) ∧ w'.cell? ⟨w3.heap.size, 1, none⟩ = some (.slice B1 X.length d1) ∧ w'.cell? ⟨b0, off0 + n, none⟩ = some (.int .i64 Z1)) := Lib.hid (fun w'' w' hbk hsk => HK0.out w' (btr hsk.1 hbk))
    have HB : Hid (∀ w' : World, (Below (w7).heap.size (w7) w' ∧ w'.cell? ⟨w.heap.size, 0, none⟩ = some (.slice (some ⟨b0, off0, none⟩) zs.length c) ∧ w'.cell? ⟨w.heap.size, 4, none⟩ = some (.int .i64 n) ∧ w'.cell? ⟨w3.heap.size, 0, none⟩ = some (.slice A1 zs.length c1) ∧ w'.cell? ⟨w3.heap.size, 1, none⟩ = some (.slice B1 X.length d1) ∧ w'.cell? ⟨b0, off0 + n, none⟩ = some (.int .i64 Z1)) → Below (w7).heap.size (w7) w') := Lib.hid (fun w' hsk => hsk.1)
    go_region_held3 (fun w' => Below (w7).heap.size (w7) w' ∧ w'.cell? ⟨w.heap.size, 0, none⟩ = some (.slice (some ⟨b0, off0, none⟩) zs.length c) ∧ w'.cell? ⟨w.heap.size, 4, none⟩ = some (.int .i64 n) ∧ w'.cell? ⟨w3.heap.size, 0, none⟩ = some (.slice A1 zs.length c1) ∧ w'.cell? ⟨w3.heap.size, 1, none⟩ = some (.slice B1 X.length d1) ∧ w'.cell? ⟨b0, off0 + n, none⟩ = some (.int .i64 Z1)) (first | exact HK0.out _ (Below.refl _ _).drew | exact HK0.out _ ((Below.refl _ _).alloc (Nat.le_refl _) _).drew | exact HK0.out _ hz8 | exact HK0.out _ (hz8.alloc hz8.size _) | exact HK0.out _ (bset2 hz8 (Nat.le_refl _) _ _) | go_keep) (first | (go_at_call 27; refine (CC.out _ (HB.out _ (by assumption))).mono ?_; rintro e w8 ⟨A2, c2, B2, d2, rfl, cS, cX, hb8⟩; have hz8 := btr (HB.out _ (by assumption)) hb8; first | (have kz8 := (Blk.new w7 26 #[.slice none 0 0, .slice none 0 0]).drew.keep hb8; obtain ⟨z0, z1⟩ := box2 kz8; have y0 := kz8.frozen 0; have y1 := kz8.frozen 1) | skip))
    all_goals (go_wp2_with fail; go_meet; first | exact ⟨_, A2, c2, B2, d2, rfl, rfl, Blk.new _ _ _, (cS.alloc _).rd, (cX.alloc _).rd, hz8.alloc hz8.size _⟩ | exact ⟨_, A2, c2, B2, d2, rfl, rfl, kz8.set2 _ _, (cS.far2 (cS.ne_blk kz8 (by decide)) _ _).rd, (cX.far2 (cX.ne_blk kz8 (by decide)) _ _).rd, bset2 hz8 (Nat.le_refl _) _ _⟩)
  case rest =>
    obtain ⟨bx, A2, c2, B2, d2, rfl, rfl, kX, rS, rX, hb⟩ := hcut
    replace kA := kA.keep hb
    replace k1 := k1.keep hb
    replace oS := oS.keep hb
    replace oX := oX.keep hb
    replace ho := ho.keep hb
    replace b1 := btr b1 hb
    clear hb
    clear q0 q1 q2 q3 q4 q5 q6 p0 p1 hcz hcg CC
    have hcz := (h1.below b1).all hz.out
    have hcg := ho.cell HJz.out
    have hgl := ho.lt
    have hb0' : b0 < wc.heap.size := by
      obtain ⟨_, _, e, hlt, _⟩ := (h1.below b1) n _ hz.out
      injection e with e; injection e with e; subst e; exact hlt
    have CC : Hid (∀ w', Below wc.heap.size wc w' → Calls Try.prog 27 #[.agg #[.slice A1 zs.length c1, .slice B1 X.length d1], .int .i64 n, .int .i64 Z1, .int .i64 ((Z1 : Int) + Z2)] w' (RetTE w' ts ys 0)) := Lib.hid fun w' hbk => by
      have := t_cut_yes A1 B1 c1 d1 J X n P (Z1 + Z2) I Z1 (Z1 + Z2) w' HJr HJz HJP HJI (by omega) (by omega) oX.len_le (oS.keep hbk).rd (oX.keep hbk).rd
      rw [SL2.out, CL2.out, HJl.out] at this
      simpa using this
    rw [Int.natCast_add] at hcg
    go_upto_region 12 with fail
    go_cut [9, 10] (fun s9 s10 wx => ∃ (by_ : Nat) (A3 : Option Addr) (c3 : Nat) (B3 : Option Addr) (d3 : Nat), s9 = .pointer (some ⟨by_, 0, none⟩) ∧ s10 = .int .i64 0 ∧ Blk wx by_ 26 #[.slice A3 ts.length c3, .slice B3 ys.length d3] ∧ Rd wx A3 ts ∧ Rd wx B3 ys ∧ Below wc.heap.size wc wx)
    case first =>
      have HK0 : Hid (∀ w' : World, Below (wc).heap.size (wc) w' → Below (wc).heap.size (wc) w' ∧ w'.cell? ⟨w.heap.size, 0, none⟩ = some (.slice (some ⟨b0, off0, none⟩) zs.length c) ∧ w'.cell? ⟨w.heap.size, 4, none⟩ = some (.int .i64 n) ∧ w'.cell? ⟨w3.heap.size, 0, none⟩ = some (.slice A1 zs.length c1) ∧ w'.cell? ⟨w3.heap.size, 1, none⟩ = some (.slice B1 X.length d1) ∧ w'.cell? ⟨b0, off0 + n, none⟩ = some (.int .i64 Z1) ∧ w'.cell? ⟨g, n, none⟩ = some (.int .i64 ((Z1 : Int) + Z2))) := Lib.hid (fun w' hbk => ⟨hbk, (k1.keep hbk).cell 0, (k1.keep hbk).cell 4, (kA.keep hbk).cell 0, (kA.keep hbk).cell 1, (hbk.cell (p := ⟨_, _, _⟩) hb0').trans hcz, (hbk.cell (p := ⟨_, _, _⟩) hgl).trans hcg⟩)
      have HK : Hid (∀ w'' w' : World, Below w''.heap.size w'' w' → (fun w' : World => Below (wc).heap.size (wc) w' ∧ w'.cell? ⟨w.heap.size, 0, none⟩ = some (.slice (some ⟨b0, off0, none⟩) zs.length c) ∧ w'.cell? ⟨w.heap.size, 4, none⟩ = some (.int .i64 n) ∧ w'.cell? ⟨w3.heap.size, 0, none⟩ = some (.slice A1 zs.length c1) ∧ w'.cell? ⟨w3.heap.size, 1, none⟩ = some (.slice B1 X.length d1) ∧ w'.cell? ⟨b0, off0 + n, none⟩ = some (.int .i64 Z1) ∧ w'.cell? ⟨g, n, none⟩ = some (.int .i64 ((Z1 : Int) + Z2))) w'' → Below (wc).heap.size (wc) w' ∧ w'.cell? ⟨w.heap.size, 0, none⟩ = some (.slice (some ⟨b0, off0, none⟩) zs.length c) ∧ w'.cell? ⟨w.heap.size, 4, none⟩ = some (.int .i64 n) ∧ w'.cell? ⟨w3.heap.size, 0, none⟩ = some (.slice A1 zs.length c1) ∧ w'.cell? ⟨w3.heap.size, 1, none⟩ = some (.slice B1 X.length d1) ∧ w'.cell? ⟨b0, off0 + n, none⟩ = some (.int .i64 Z1) ∧ w'.cell? ⟨g, n, none⟩ = some (.int .i64 ((Z1 : Int) + Z2))) := Lib.hid (fun w'' w' hbk hsk => HK0.out w' (btr hsk.1 hbk))
      have HB : Hid (∀ w' : World, (Below (wc).heap.size (wc) w' ∧ w'.cell? ⟨w.heap.size, 0, none⟩ = some (.slice (some ⟨b0, off0, none⟩) zs.length c) ∧ w'.cell? ⟨w.heap.size, 4, none⟩ = some (.int .i64 n) ∧ w'.cell? ⟨w3.heap.size, 0, none⟩ = some (.slice A1 zs.length c1) ∧ w'.cell? ⟨w3.heap.size, 1, none⟩ = some (.slice B1 X.length d1) ∧ w'.cell? ⟨b0, off0 + n, none⟩ = some (.int .i64 Z1) ∧ w'.cell? ⟨g, n, none⟩ = some (.int .i64 ((Z1 : Int) + Z2))) → Below (wc).heap.size (wc) w') := Lib.hid (fun w' hsk => hsk.1)
      go_region_held3 (fun w' => Below (wc).heap.size (wc) w' ∧ w'.cell? ⟨w.heap.size, 0, none⟩ = some (.slice (some ⟨b0, off0, none⟩) zs.length c) ∧ w'.cell? ⟨w.heap.size, 4, none⟩ = some (.int .i64 n) ∧ w'.cell? ⟨w3.heap.size, 0, none⟩ = some (.slice A1 zs.length c1) ∧ w'.cell? ⟨w3.heap.size, 1, none⟩ = some (.slice B1 X.length d1) ∧ w'.cell? ⟨b0, off0 + n, none⟩ = some (.int .i64 Z1) ∧ w'.cell? ⟨g, n, none⟩ = some (.int .i64 ((Z1 : Int) + Z2))) (first | exact HK0.out _ (Below.refl _ _).drew | exact HK0.out _ ((Below.refl _ _).alloc (Nat.le_refl _) _).drew | exact HK0.out _ hz8 | exact HK0.out _ (hz8.alloc hz8.size _) | exact HK0.out _ (bset2 hz8 (Nat.le_refl _) _ _) | go_keep) (first | (go_at_call 27; refine (CC.out _ (HB.out _ (by assumption))).mono ?_; rintro e w8 ⟨A3, c3, B3, d3, rfl, cS, cX, hb8⟩; have hz8 := btr (HB.out _ (by assumption)) hb8; first | (have kz8 := (Blk.new wc 26 #[.slice none 0 0, .slice none 0 0]).drew.keep hb8; obtain ⟨z0, z1⟩ := box2 kz8; have y0 := kz8.frozen 0; have y1 := kz8.frozen 1) | skip))
      all_goals (go_wp2_with fail; go_meet; first | exact ⟨_, A3, c3, B3, d3, rfl, rfl, Blk.new _ _ _, (cS.alloc _).rd, (cX.alloc _).rd, hz8.alloc hz8.size _⟩ | exact ⟨_, A3, c3, B3, d3, rfl, rfl, kz8.set2 _ _, (cS.far2 (cS.ne_blk kz8 (by decide)) _ _).rd, (cX.far2 (cX.ne_blk kz8 (by decide)) _ _).rd, bset2 hz8 (Nat.le_refl _) _ _⟩)
    case rest =>
      obtain ⟨by_, A3, c3, B3, d3, rfl, rfl, kY, tS, tX, hb⟩ := hcut
      replace rS := rS.below hb
      replace rX := rX.below hb
      replace kA := kA.keep hb
      replace k1 := k1.keep hb
      replace kX := kX.keep hb
      replace oS := oS.keep hb
      replace oX := oX.keep hb
      replace ho := ho.keep hb
      replace b1 := btr b1 hb
      clear hb
      clear hcz hcg hgl hb0' CC
      have CE : Hid (∀ w', Below wc.heap.size wc w' → Calls Try.prog 23 #[.slice A1 zs.length c1, .slice (some ⟨g, 0, none⟩) zs.length zs.length] w' (RetB w' (.bool true))) := Lib.hid fun w' hbk => by
        have := sh_equal_b A1 (some ⟨g, 0, none⟩) c1 zs.length J J w' (by rw [HJl.out]; omega) (by rw [HJl.out]; omega) (oS.keep hbk).rd (ho.keep hbk).rd
        rw [HJl.out, decide_eq_true rfl] at this
        exact this
      have CJ : Hid (∀ w' A5 c5 A6 c6, Below wc.heap.size wc w' → Rd w' A5 xs → Rd w' A6 ys → Calls Try.prog 54 #[.slice (some ⟨b0, off0, none⟩) zs.length c, .slice C ts.length c', .slice A5 xs.length c5, .slice A6 ys.length c6, .int .i64 n] w' (RetA w' 2 X)) := Lib.hid fun w' A5 c5 A6 c6 hbk h5 h6 => by
        have := r4_join (some ⟨b0, off0, none⟩) C A5 A6 c c' c5 c6 zs ts xs ys n P Z1 Z2 I w' r4 hc RIN hz ht hP hI hxl hyl (by omega) (by omega) hP1 hI1 hZ1 hZ2 ((h1.below b1).below hbk) ((h3.below b1).below hbk) h5 h6
        rw [HX.out] at this
        exact this
      go_wp2_with fail
      have HK0 : Hid (∀ w' : World, Below (wc).heap.size (wc) w' → Below (wc).heap.size (wc) w' ∧ w'.cell? ⟨w.heap.size, 0, none⟩ = some (.slice (some ⟨b0, off0, none⟩) zs.length c) ∧ w'.cell? ⟨w.heap.size, 1, none⟩ = some (.slice B xs.length d) ∧ w'.cell? ⟨w.heap.size, 2, none⟩ = some (.slice C ts.length c') ∧ w'.cell? ⟨w.heap.size, 3, none⟩ = some (.slice D ys.length d') ∧ w'.cell? ⟨w.heap.size, 4, none⟩ = some (.int .i64 n) ∧ w'.cell? ⟨w3.heap.size, 0, none⟩ = some (.slice A1 zs.length c1) ∧ w'.cell? ⟨w3.heap.size, 1, none⟩ = some (.slice B1 X.length d1) ∧ w'.cell? ⟨bx, 0, none⟩ = some (.slice A2 zs.length c2) ∧ w'.cell? ⟨bx, 1, none⟩ = some (.slice B2 xs.length d2) ∧ w'.cell? ⟨by_, 0, none⟩ = some (.slice A3 ts.length c3) ∧ w'.cell? ⟨by_, 1, none⟩ = some (.slice B3 ys.length d3)) := Lib.hid (fun w' hbk => ⟨hbk, (k1.keep hbk).cell 0, (k1.keep hbk).cell 1, (k1.keep hbk).cell 2, (k1.keep hbk).cell 3, (k1.keep hbk).cell 4, (kA.keep hbk).cell 0, (kA.keep hbk).cell 1, (kX.keep hbk).cell 0, (kX.keep hbk).cell 1, (kY.keep hbk).cell 0, (kY.keep hbk).cell 1⟩)
      have HK : Hid (∀ w'' w' : World, Below w''.heap.size w'' w' → (fun w' : World => Below (wc).heap.size (wc) w' ∧ w'.cell? ⟨w.heap.size, 0, none⟩ = some (.slice (some ⟨b0, off0, none⟩) zs.length c) ∧ w'.cell? ⟨w.heap.size, 1, none⟩ = some (.slice B xs.length d) ∧ w'.cell? ⟨w.heap.size, 2, none⟩ = some (.slice C ts.length c') ∧ w'.cell? ⟨w.heap.size, 3, none⟩ = some (.slice D ys.length d') ∧ w'.cell? ⟨w.heap.size, 4, none⟩ = some (.int .i64 n) ∧ w'.cell? ⟨w3.heap.size, 0, none⟩ = some (.slice A1 zs.length c1) ∧ w'.cell? ⟨w3.heap.size, 1, none⟩ = some (.slice B1 X.length d1) ∧ w'.cell? ⟨bx, 0, none⟩ = some (.slice A2 zs.length c2) ∧ w'.cell? ⟨bx, 1, none⟩ = some (.slice B2 xs.length d2) ∧ w'.cell? ⟨by_, 0, none⟩ = some (.slice A3 ts.length c3) ∧ w'.cell? ⟨by_, 1, none⟩ = some (.slice B3 ys.length d3)) w'' → Below (wc).heap.size (wc) w' ∧ w'.cell? ⟨w.heap.size, 0, none⟩ = some (.slice (some ⟨b0, off0, none⟩) zs.length c) ∧ w'.cell? ⟨w.heap.size, 1, none⟩ = some (.slice B xs.length d) ∧ w'.cell? ⟨w.heap.size, 2, none⟩ = some (.slice C ts.length c') ∧ w'.cell? ⟨w.heap.size, 3, none⟩ = some (.slice D ys.length d') ∧ w'.cell? ⟨w.heap.size, 4, none⟩ = some (.int .i64 n) ∧ w'.cell? ⟨w3.heap.size, 0, none⟩ = some (.slice A1 zs.length c1) ∧ w'.cell? ⟨w3.heap.size, 1, none⟩ = some (.slice B1 X.length d1) ∧ w'.cell? ⟨bx, 0, none⟩ = some (.slice A2 zs.length c2) ∧ w'.cell? ⟨bx, 1, none⟩ = some (.slice B2 xs.length d2) ∧ w'.cell? ⟨by_, 0, none⟩ = some (.slice A3 ts.length c3) ∧ w'.cell? ⟨by_, 1, none⟩ = some (.slice B3 ys.length d3)) := Lib.hid (fun w'' w' hbk hsk => HK0.out w' (btr hsk.1 hbk))
      have HB : Hid (∀ w' : World, (Below (wc).heap.size (wc) w' ∧ w'.cell? ⟨w.heap.size, 0, none⟩ = some (.slice (some ⟨b0, off0, none⟩) zs.length c) ∧ w'.cell? ⟨w.heap.size, 1, none⟩ = some (.slice B xs.length d) ∧ w'.cell? ⟨w.heap.size, 2, none⟩ = some (.slice C ts.length c') ∧ w'.cell? ⟨w.heap.size, 3, none⟩ = some (.slice D ys.length d') ∧ w'.cell? ⟨w.heap.size, 4, none⟩ = some (.int .i64 n) ∧ w'.cell? ⟨w3.heap.size, 0, none⟩ = some (.slice A1 zs.length c1) ∧ w'.cell? ⟨w3.heap.size, 1, none⟩ = some (.slice B1 X.length d1) ∧ w'.cell? ⟨bx, 0, none⟩ = some (.slice A2 zs.length c2) ∧ w'.cell? ⟨bx, 1, none⟩ = some (.slice B2 xs.length d2) ∧ w'.cell? ⟨by_, 0, none⟩ = some (.slice A3 ts.length c3) ∧ w'.cell? ⟨by_, 1, none⟩ = some (.slice B3 ys.length d3)) → Below (wc).heap.size (wc) w') := Lib.hid (fun w' hsk => hsk.1)
      go_region_held3 (fun w' => Below (wc).heap.size (wc) w' ∧ w'.cell? ⟨w.heap.size, 0, none⟩ = some (.slice (some ⟨b0, off0, none⟩) zs.length c) ∧ w'.cell? ⟨w.heap.size, 1, none⟩ = some (.slice B xs.length d) ∧ w'.cell? ⟨w.heap.size, 2, none⟩ = some (.slice C ts.length c') ∧ w'.cell? ⟨w.heap.size, 3, none⟩ = some (.slice D ys.length d') ∧ w'.cell? ⟨w.heap.size, 4, none⟩ = some (.int .i64 n) ∧ w'.cell? ⟨w3.heap.size, 0, none⟩ = some (.slice A1 zs.length c1) ∧ w'.cell? ⟨w3.heap.size, 1, none⟩ = some (.slice B1 X.length d1) ∧ w'.cell? ⟨bx, 0, none⟩ = some (.slice A2 zs.length c2) ∧ w'.cell? ⟨bx, 1, none⟩ = some (.slice B2 xs.length d2) ∧ w'.cell? ⟨by_, 0, none⟩ = some (.slice A3 ts.length c3) ∧ w'.cell? ⟨by_, 1, none⟩ = some (.slice B3 ys.length d3)) (first | exact HK0.out _ (Below.refl _ _).drew | exact HK.out _ _ (by assumption) (by assumption) | go_keep) (first | (go_at_call 23; refine (CE.out _ (HB.out _ (by assumption))).mono ?_; rintro e w8 ⟨rfl, hb8⟩) | (go_at_call 31; (with_reducible refine (l04_cells (some ⟨b0, off0, none⟩) B c d zs xs _ (by omega) ((h2.below b1).below (HB.out _ (by assumption)))).mono ?_); rintro e w9 ⟨A5, c5, rfl, o5, hb9⟩) | (go_at_call 31; (with_reducible refine (l04_cells C D c' d' ts ys _ (by omega) ((h4.below b1).below (HB.out _ (by assumption)))).mono ?_); rintro e w10 ⟨A6, c6, rfl, o6, hb10⟩) | (go_at_call 54; refine (CJ.out _ A5 c5 A6 c6 (HB.out _ (by assumption)) (o5.keep hb10).rd o6.rd).mono ?_; rintro e w11 ⟨A7, c7, rfl, o7, hb11⟩) | (go_at_call 29; refine (l04_same A1 B1 A7 c1 d1 c7 _ X X _ (by omega) (by omega) (oX.keep (HB.out _ (by assumption))).rd o7.rd).mono ?_; rintro e w12 ⟨rfl, hb12⟩) | (go_at_call 20; (with_reducible refine (t_equal A2 B2 (some ⟨b0, off0, none⟩) B c2 d2 c d zs xs zs xs _ (by omega) (by omega) (by omega) (rS.below (HB.out _ (by assumption))) (rX.below (HB.out _ (by assumption))) ((h1.below b1).below (HB.out _ (by assumption))) ((h2.below b1).below (HB.out _ (by assumption)))).mono ?_); rintro e w13 ⟨rfl, hb13⟩) | (go_at_call 20; (with_reducible refine (t_equal A3 B3 C D c3 d3 c' d' ts ys ts ys _ (by omega) (by omega) (by omega) (tS.below (HB.out _ (by assumption))) (tX.below (HB.out _ (by assumption))) ((h3.below b1).below (HB.out _ (by assumption))) ((h4.below b1).below (HB.out _ (by assumption)))).mono ?_); rintro e w14 ⟨rfl, hb14⟩) | (go_at_call 14; refine (l04_awake _).mono ?_; rintro e w15 ⟨rfl, hb15⟩))
      have hb := HB.out w15 (by assumption)
      go_wp2_with fail
      go_ret
      exact ⟨rfl, btr b1 hb⟩

theorem tensorJoins_calls (A B C D : Option Addr) (c d c' d' : Nat) (zs xs ts ys : List Int) (s0 s1 s2 : Int) (w : World) (h1 : IntsIn w A c zs) (h2 : IntsIn w B d xs) (h3 : IntsIn w C c' ts) (h4 : IntsIn w D d' ys) :
    Calls Try.prog 12 #[.agg #[.slice A zs.length c, .slice B xs.length d, .slice C ts.length c', .slice D ys.length d', .int .i64 s0, .int .i64 s1, .int .i64 s2]] w (LawTrue w) := by
  obtain ⟨h1, hc, -, -⟩ := h1
  obtain ⟨h2, hd, -, -⟩ := h2
  obtain ⟨h3, hc', -, -⟩ := h3
  obtain ⟨h4, hd', -, -⟩ := h4
  rcases hsm : smallB zs xs with _ | _
  · exact tensorJoins_big1 A B C D c d c' d' zs xs ts ys s0 s1 s2 w (Lib.hid hsm)
  rcases hsm' : smallB ts ys with _ | _
  · exact tensorJoins_big2 A B C D c d c' d' zs xs ts ys s0 s1 s2 w (Lib.hid hsm) (Lib.hid hsm')
  obtain ⟨hs, hx⟩ : zs.length ≤ 50 ∧ xs.length ≤ 600 := by simpa [smallB] using hsm
  obtain ⟨hs', hx'⟩ : ts.length ≤ 50 ∧ ys.length ≤ 600 := by simpa [smallB] using hsm'
  by_cases hj : tjoinE zs xs ts ys s0 = 0
  · have hq : tRightB zs xs = true ∧ tRightB ts ys = true := by
      rcases hq : tRightB zs xs with _ | _ <;> rcases hq' : tRightB ts ys with _ | _ <;> simp [tjoinE, hq, hq'] at hj ⊢
    have hje : joinE zs ts s0 = 0 := by simpa [tjoinE, hq.1, hq.2] using hj
    obtain ⟨n, P, Z1, Z2, I, rfl, hr, hr', hl, hn, hz, ht, hZ1, hZ2, hP1, hI1, hP, hI, hP', hI', hN, hN', hjl, hrs, hrj, hset⟩ := join_nats hje
    have hxl : xs.length = P * (Z1 * I) := by have := ((tRightB_iff _ _).1 hq.1).2; rw [hN] at this; exact Int.ofNat.inj this
    have hyl : ys.length = P * (Z2 * I) := by have := ((tRightB_iff _ _).1 hq.2).2; rw [hN'] at this; exact Int.ofNat.inj this
    exact tensorJoins_yes A B C D c d c' d' zs xs ts ys n P Z1 Z2 I s1 s2 w h1 h2 h3 h4 hc hc' hd hd' (Lib.hid hsm) (Lib.hid hsm') hs hx hs' hx' (Lib.hid hq.1) (Lib.hid hq.2) (Lib.hid hl) hn (Lib.hid hz) (Lib.hid ht) (Lib.hid hP) (Lib.hid hI) (Lib.hid hI') (Lib.hid hxl) (Lib.hid hyl) (Lib.hid hrs) (Lib.hid hjl) (Lib.hid hrj) (Lib.hid hset) hZ1 hZ2 hP1 hI1
  · exact tensorJoins_no A B C D c d c' d' zs xs ts ys s0 s1 s2 w h1 h3 (Lib.hid hsm) (Lib.hid hsm') hs hx hs' hx' (Lib.hid hj)

end Go.Proofs.Ythcdjdhnjbdfeaa
