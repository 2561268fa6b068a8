/- The walk of tensor.Join where two are joined. -/
import Derived.Test.YtingmabmglpmaaaTJoin
namespace Go.Proofs.Ytingmabmglpmaaa
open Go.RowKit

set_option maxRecDepth 100000 in
set_option maxHeartbeats 8000000 in
theorem t_join_yes (A B C D : Option Addr) (c d c' d' : Nat) (zs xs ts ys : List Int) (n P Z1 Z2 I : Nat) (w : World) (hq : Hid (tRightB zs xs = true)) (hq' : Hid (tRightB ts ys = true)) (hl : Hid (zs.length = ts.length)) (hn : n < zs.length) (hz : Hid (zs[n]? = some (Z1 : Int))) (ht : Hid (ts[n]? = some (Z2 : Int)))
    (hP : Hid (prodL (zs.take n) = (P : Int))) (hI : Hid (prodL (zs.drop (n + 1)) = (I : Int))) (hI' : Hid (prodL (ts.drop (n + 1)) = (I : Int))) (hxl : Hid (xs.length = P * (Z1 * I))) (hyl : Hid (ys.length = P * (Z2 * I)))
    (hrs : Hid (restSame zs ts n = true)) (hj : Hid (joinL zs ts n = zs.set n ((Z1 : Int) + Z2))) (hrj : Hid (rightB (zs.set n ((Z1 : Int) + Z2)) = true)) (hc : zs.length ≤ c) (hc' : ts.length ≤ c') (hd : xs.length ≤ d) (hd' : ys.length ≤ d') (h1 : Rd w A zs) (h2 : Rd w B xs) (h3 : Rd w C ts) (h4 : Rd w D ys) :
    Calls Try.prog 23 #[.agg #[.slice A zs.length c, .slice B xs.length d], .agg #[.slice C ts.length c', .slice D ys.length d'], .int .i64 n] w (RetTE w (zs.set n ((Z1 : Int) + Z2)) (joinCells (Z1 * I) (Z2 * I) xs ys P) 0) := by
  obtain ⟨hrz, -⟩ := (tRightB_iff _ _).1 hq.out
  obtain ⟨hrt, -⟩ := (tRightB_iff _ _).1 hq'.out
  obtain ⟨r1, r4, rin, -⟩ := (rightB_iff zs).1 hrz
  obtain ⟨r1', r4', rin', -⟩ := (rightB_iff ts).1 hrt
  obtain ⟨-, -, rinj, rprj⟩ := (rightB_iff _).1 hrj.out
  have HRZ := Lib.hid hrz
  have HRT := Lib.hid hrt
  have hn' : n < ts.length := by rw [← hl.out]; exact hn
  obtain ⟨hx6, -⟩ := tRight_len hq.out
  obtain ⟨hy6, -⟩ := tRight_len hq'.out
  obtain ⟨R1, hR1⟩ : ∃ R, Z1 * I = R := ⟨_, rfl⟩
  obtain ⟨R2, hR2⟩ : ∃ R, Z2 * I = R := ⟨_, rfl⟩
  obtain ⟨N, hN⟩ : ∃ N, P * (R1 + R2) = N := ⟨_, rfl⟩
  have e1 : prodL (zs.drop n) = (R1 : Int) := by rw [drop_at hz.out, prodL_cons, hI.out, ← hR1, Int.natCast_mul]
  have e2 : prodL (ts.drop n) = (R2 : Int) := by rw [drop_at ht.out, prodL_cons, hI'.out, ← hR2, Int.natCast_mul]
  have e3 : prodL (zs.set n ((Z1 : Int) + Z2)) = (N : Int) := by
    rw [prodL_set _ hn, hP.out, hI.out, ← hN, ← hR1, ← hR2, ← Nat.add_mul, Int.natCast_mul, Int.natCast_mul, Int.natCast_add]
  have hN6 : N ≤ 65536 := by rw [e3] at rprj; omega
  rw [hR1, hR2]
  have HXL : Hid (xs.length = P * R1) := Lib.hid (by rw [← hR1]; exact hxl.out)
  have HYL : Hid (ys.length = P * R2) := Lib.hid (by rw [← hR2]; exact hyl.out)
  have HN := Lib.hid hN
  have E1 := Lib.hid e1
  have E2 := Lib.hid e2
  have E3 := Lib.hid e3
  have RIN := Lib.hid rin
  have RIN' := Lib.hid rin'
  have RINJ := Lib.hid rinj
  clear hrz hrt rin rin' rinj rprj hR1 hR2 hN e1 e2 e3
  have b1 := (((Below.refl w.heap.size w).alloc (Nat.le_refl _) (.cells #[.slice A zs.length c, .slice B xs.length d] 26)).alloc (by simp) (.cells #[.slice C ts.length c', .slice D ys.length d'] 26)).alloc (by simp; omega) (.cells #[.slice none 0 0, .slice none 0 0] 26)
  have kR := Blk.new' ((w.alloc (.cells #[.slice A zs.length c, .slice B xs.length d] 26)).alloc (.cells #[.slice C ts.length c', .slice D ys.length d'] 26)) 26 #[.slice none 0 0, .slice none 0 0] (n := w.heap.size + 1 + 1) (by simp)
  have k1 := ((Blk.new w 26 #[.slice A zs.length c, .slice B xs.length d]).alloc (.cells #[.slice C ts.length c', .slice D ys.length d'] 26)).alloc (.cells #[.slice none 0 0, .slice none 0 0] 26)
  have k2 := (Blk.new' (w.alloc (.cells #[.slice A zs.length c, .slice B xs.length d] 26)) 26 #[.slice C ts.length c', .slice D ys.length d'] (n := w.heap.size + 1) (by simp)).alloc (.cells #[.slice none 0 0, .slice none 0 0] 26)
  go_enter Try.func23, Try.ntmps23
  go_wp2_with fail
  refine (t_right A B c d zs xs _ (by omega) (h1.below b1)).mono ?_
  rintro e w1 ⟨rfl, hb⟩
  rw [hq.out]
  replace kR := kR.keep hb
  replace k1 := k1.keep hb
  replace k2 := k2.keep hb
  replace b1 := btr b1 hb
  clear hb
  obtain ⟨p0, p1⟩ := box2 k2
  go_wp2_with fail
  refine (t_right C D c' d' ts ys _ (by omega) (h3.below b1)).mono ?_
  rintro e w2 ⟨rfl, hb⟩
  rw [hq'.out]
  clear p0 p1
  replace kR := kR.keep hb
  replace k1 := k1.keep hb
  replace k2 := k2.keep hb
  replace b1 := btr b1 hb
  clear hb
  obtain ⟨p0, p1⟩ := box2 k2
  obtain ⟨o0, o1⟩ := box2 k1
  go_wp2_with fail
  refine (sh_join_yes A C c c' zs ts n Z1 Z2 w2 HRZ HRT hl hn hz ht hrs hj hrj (h1.below b1) (h3.below b1)).mono ?_
  rintro e w3 ⟨g, rfl, hg, ho, hb⟩
  rw [List.length_set]
  clear p0 p1 o0 o1
  have hgw : w.heap.size ≤ g := Nat.le_trans b1.size hg
  replace kR := kR.keep hb
  replace k1 := k1.keep hb
  replace k2 := k2.keep hb
  replace b1 := btr b1 hb
  clear hb
  obtain ⟨p0, p1⟩ := box2 k2
  obtain ⟨o0, o1⟩ := box2 k1
  obtain ⟨AS, hsl, hrsA⟩ := slice_from (P := Try.prog) 23 (by kernel_rfl) (by kernel_rfl) A zs.length c n (n : Int) rfl (by omega) hc
  obtain ⟨BS, hsl', hrsB⟩ := slice_from (P := Try.prog) 23 (by kernel_rfl) (by kernel_rfl) C ts.length c' n (n : Int) rfl (by omega) hc'
  have C1 := Lib.hid fun m => calls_same (t_span AS (c - n) (zs.drop n) (w3.drewN m) (by simp; omega) (Lib.hid (inSides_drop RIN.out _)) ((hrsA w3 zs rfl (h1.below b1)).drewN m))
  have C2 := Lib.hid fun m => calls_same (t_span BS (c' - n) (ts.drop n) (w3.drewN m) (by simp; omega) (Lib.hid (inSides_drop RIN'.out _)) ((hrsB w3 ts rfl (h3.below b1)).drewN m))
  rw [List.length_drop, E1.out] at C1
  rw [List.length_drop, E2.out] at C2
  clear hrsA hrsB
  go_wp2_with fail
  go_quiet ((first | (go_at_call 46; with_reducible exact Calls.quiet_of_same (C1.out _)) | (go_at_call 46; with_reducible exact Calls.quiet_of_same (C2.out _))))
  rename_i nq
  replace kR := kR.drewN nq
  replace k1 := k1.drewN nq
  replace k2 := k2.drewN nq
  replace ho := ho.drewN nq
  replace b1 := below_drewN b1 nq
  clear p0 p1 o0 o1 hsl hsl' C1 C2
  generalize w3.drewN nq = w4 at *
  have CN := Lib.hid (t_span (some ⟨g, 0, none⟩) zs.length (zs.set n ((Z1 : Int) + Z2)) w4 (by simp; omega) RINJ ho.rd)
  rw [List.length_set, E3.out] at CN
  have hmk := fun W => run_make_cap (P := Try.prog) 24 38 Try.underlying24 (by kernel_rfl) N (by omega) W
  go_wp2_with fail
  refine CN.out.mono ?_
  rintro e w5 ⟨rfl, rfl⟩
  have hsz4 := b1.size
  obtain ⟨TS, hsl, hrsT⟩ := slice_to (P := Try.prog) 23 (by kernel_rfl) (by kernel_rfl) (some ⟨g, 0, none⟩) zs.length zs.length n (n : Int) rfl (by omega) (Nat.le_refl _)
  have hset : (zs.set n ((Z1 : Int) + Z2)).take n = zs.take n := List.take_set_of_le (Nat.le_refl n)
  have RT : Rd (w4.alloc (.cells (ints (List.replicate N 0)) 38)) TS (zs.take n) := by rw [← hset]; exact hrsT _ _ (by simp) (ho.alloc _).rd
  have CP := Lib.hid (t_span TS zs.length (zs.take n) (w4.alloc (.cells (ints (List.replicate N 0)) 38)) (by simp; omega) (Lib.hid (inSides_take RIN.out n)) RT)
  rw [hP.out, show (zs.take n).length = n from by simp; omega] at CP
  clear hrsT hset RT
  go_wp2_with fail
  refine CP.out.mono ?_
  rintro e w5 ⟨rfl, rfl⟩
  go_wp2_with fail
  have hP6 : P ≤ 65536 := by
    have e1 := HXL.out
    have := (prodL_take_bd zs RIN.out r4 n)
    have e2 := prodL_take_le (l := zs) (fun z hz => (inSides_mem RIN.out hz).1) n
    rw [hP.out] at e2
    obtain ⟨-, -, -, e4⟩ := (rightB_iff zs).1 HRZ.out
    omega
  go_loopw [12, 53] (fun v i wr => ∃ (j : Nat) (A' : Option Addr) (c2 : Nat), j ≤ P ∧ i = .int .i64 j ∧ v = .slice A' (joinCells R1 R2 xs ys j).length c2 ∧ OwnA wr w4.heap.size 38 A' c2 (joinCells R1 R2 xs ys j) ∧ Below w4.heap.size w4 wr) (fun _ i _ => P - (intOf i).toNat)
  case atStart => exact ⟨0, _, _, Nat.zero_le _, rfl, rfl, own_made _ _ _ (by omega), (Below.refl _ _).alloc (Nat.le_refl _) _⟩
  case round =>
    obtain ⟨j, A', c2, hjP, rfl, rfl, hown, hbel⟩ := hrel
    have k1r := k1.keep hbel
    have k2r := k2.keep hbel
    obtain ⟨o0, o1⟩ := box2 k1r
    obtain ⟨p0, p1⟩ := box2 k2r
    by_cases hlt : j < P
    · obtain ⟨S1, hS1⟩ : ∃ S, j * R1 = S := ⟨_, rfl⟩
      obtain ⟨S2, hS2⟩ : ∃ S, j * R2 = S := ⟨_, rfl⟩
      have g1 : S1 + R1 ≤ xs.length := by rw [HXL.out, ← hS1, ← Nat.succ_mul]; exact Nat.mul_le_mul_right _ hlt
      have g2 : S2 + R2 ≤ ys.length := by rw [HYL.out, ← hS2, ← Nat.succ_mul]; exact Nat.mul_le_mul_right _ hlt
      have m1 : (j : Int) * (R1 : Int) = (S1 : Int) := by rw [← hS1, Int.natCast_mul]
      have m2 : (j : Int) * (R2 : Int) = (S2 : Int) := by rw [← hS2, Int.natCast_mul]
      have m3 : ((j : Int) + 1) * (R1 : Int) = (S1 : Int) + R1 := by rw [Int.add_mul, m1, Int.one_mul]
      have m4 : ((j : Int) + 1) * (R2 : Int) = (S2 : Int) + R2 := by rw [Int.add_mul, m2, Int.one_mul]
      have hjl : (joinCells R1 R2 xs ys j).length ≤ 131072 := by
        rw [joinCells_length (by omega) (by omega), Nat.mul_add, hS1, hS2]; omega
      obtain ⟨A2, hsl2, hrs2⟩ := slice_part (P := Try.prog) 24 (by kernel_rfl) (by kernel_rfl) B xs.length d S1 (S1 + R1) (S1 : Int) ((S1 : Int) + R1) (by omega) (by omega) (by omega) (by omega) hd
      obtain ⟨A3, hsl3, hrs3⟩ := slice_part (P := Try.prog) 24 (by kernel_rfl) (by kernel_rfl) D ys.length d' S2 (S2 + R2) (S2 : Int) ((S2 : Int) + R2) (by omega) (by omega) (by omega) (by omega) hd'
      rw [Nat.add_sub_cancel_left] at hsl2 hrs2 hsl3 hrs3
      have Q2 := hrs2 wr xs rfl ((h2.below b1).below hbel)
      have l2 : ((xs.drop S1).take R1).length = R1 := by simp; omega
      have l3 : ((ys.drop S2).take R2).length = R2 := by simp; omega
      have Q3 := fun (w' : World) (hb : Below w4.heap.size w4 w') => hrs3 w' ys rfl ((h4.below b1).below hb)
      have HQ3 := Lib.hid Q3
      have HS1 := Lib.hid hS1
      have HS2 := Lib.hid hS2
      have HM : Hid (∀ w', Below w4.heap.size w4 w' → w'.cell? ⟨w.heap.size + 1, 1, none⟩ = some (.slice D ys.length d')) := Lib.hid fun w' hb => (k2.keep hb).cell 1
      clear hrs2 hrs3 Q3 hS1 hS2
      go_wp2_with (first | (at_builtin; refine wpList_appendA rfl (.tmp 56) (.tmp 66) 24 rfl 38 Try.underlying24 (by kernel_rfl) w4.heap.size A' c2 (joinCells R1 R2 xs ys j) rfl hown A2 R1 _ ((xs.drop S1).take R1) l2 rfl Q2 (by omega) hbel.size ?_; intro A5 c5 w5 ho5 hb5 hfr5 hsz5; have hbw5 := hbel.trans hb5; have p5 := HM.out w5 hbw5; obtain ⟨L5, hL5⟩ : ∃ L, joinCells R1 R2 xs ys j ++ (xs.drop S1).take R1 = L := ⟨_, rfl⟩; rw [hL5] at ho5 ⊢; have hl5 : L5.length ≤ 200000 := (by rw [← hL5, List.length_append, l2]; omega); have HL5 := Lib.hid hL5; clear hL5 hfr5) | (at_builtin; refine wpList_appendA rfl (.tmp 68) (.tmp 78) 24 rfl 38 Try.underlying24 (by kernel_rfl) w4.heap.size A5 c5 L5 rfl ho5 A3 R2 _ ((ys.drop S2).take R2) l3 rfl (HQ3.out _ hbw5) (by omega) hbw5.size ?_; intro A6 c6 w6 ho6 hb6 hfr6 hsz6))
      have e5 : joinCells R1 R2 xs ys (j + 1) = L5 ++ (ys.drop S2).take R2 := by rw [joinCells_succ, HS1.out, HS2.out, ← HL5.out, List.append_assoc]
      refine ⟨⟨j + 1, A6, c6, by omega, by go_num, ?_, by rw [e5]; exact ho6, hbw5.trans hb6⟩, by simp [intOf]; omega⟩
      rw [e5, List.length_append, l3]
    · obtain rfl : j = P := by omega
      have kRr := kR.keep hbel
      have hor := ho.keep hbel
      obtain ⟨q0, q1⟩ := box2 kRr
      have f0 := kRr.frozen 0
      have f1 := kRr.frozen 1
      have l1 := hor.ne_blk kRr (by decide)
      have l2 := hown.ne_blk kRr (by decide)
      have B2 := btr b1 hbel
      go_wp2_with fail
      have k3 := kRr.set2 (.slice (some ⟨g, 0, none⟩) zs.length zs.length) (.slice A' (joinCells R1 R2 xs ys j).length c2)
      have B3 := bset2 B2 (p := w.heap.size + 1 + 1) (by omega) (.slice (some ⟨g, 0, none⟩) zs.length zs.length) (.slice A' (joinCells R1 R2 xs ys j).length c2)
      have o3 := hor.far2 l1 (.slice (some ⟨g, 0, none⟩) zs.length zs.length) (.slice A' (joinCells R1 R2 xs ys j).length c2)
      have o4 := hown.far2 l2 (.slice (some ⟨g, 0, none⟩) zs.length zs.length) (.slice A' (joinCells R1 R2 xs ys j).length c2)
      clear q0 q1
      obtain ⟨q0, q1⟩ := box2 k3
      refine bodyPost_ret (v := .tuple #[.agg #[.slice (some ⟨g, 0, none⟩) zs.length zs.length, .slice A' (joinCells R1 R2 xs ys j).length c2], .int .i64 0]) (by simp [results, Try.results23, go_sem, q0, q1]) rfl ?_
      exact ⟨_, _, _, _, by rw [List.length_set], by have := OwnA.of_own o3 hgw (by simp; omega); rw [List.length_set] at this; exact this, o4.more hsz4, B3⟩

end Go.Proofs.Ytingmabmglpmaaa
