/- The walk of Grid.Cut where there is a part. -/
import Derived.Test.YtingmabmglpmaaaSpan
namespace Go.Proofs.Ytingmabmglpmaaa
open Go.RowKit

set_option maxRecDepth 100000 in
set_option maxHeartbeats 4000000 in
theorem t_cut_yes (A B : Option Addr) (c d : Nat) (zs xs : List Int) (n P Z I F T : Nat) (w : World) (hr : Hid (tRightB zs xs = true)) (hz : Hid (zs[n]? = some (Z : Int))) (hP : Hid (prodL (zs.take n) = (P : Int))) (hI : Hid (prodL (zs.drop (n + 1)) = (I : Int)))
    (hFT : F < T) (hTZ : T ≤ Z) (hd : xs.length ≤ d) (h1 : Rd w A zs) (h2 : Rd w B xs) :
    Calls Try.prog 25 #[.agg #[.slice A zs.length c, .slice B xs.length d], .int .i64 n, .int .i64 F, .int .i64 T] w (RetTE w (zs.set n ((T : Int) - F)) (cutCells (Z * I) (F * I) ((T - F) * I) xs P) 0) := by
  obtain ⟨hrz, hxl⟩ := (tRightB_iff _ _).1 hr.out
  obtain ⟨r1, r4, rin, rpr⟩ := (rightB_iff zs).1 hrz
  have HRZ := Lib.hid hrz
  have RIN := Lib.hid rin
  have hn : n < zs.length := (List.getElem?_eq_some_iff.1 hz.out).1
  clear hrz rin
  have b1 := ((Below.refl w.heap.size w).alloc (Nat.le_refl _) (.cells #[.slice A zs.length c, .slice B xs.length d] 26)).alloc (by simp) (.cells #[.slice none 0 0, .slice none 0 0] 26)
  have k1 := (Blk.new w 26 #[.slice A zs.length c, .slice B xs.length d]).alloc (.cells #[.slice none 0 0, .slice none 0 0] 26)
  have kR := Blk.new' (w.alloc (.cells #[.slice A zs.length c, .slice B xs.length d] 26)) 26 #[.slice none 0 0, .slice none 0 0] (n := w.heap.size + 1) (by simp)
  have HXL := Lib.hid hxl
  clear hxl
  go_enter Try.func25, Try.ntmps25
  go_wp2_with fail
  refine (t_right A B c d zs xs _ (by omega) (h1.below b1)).mono ?_
  rintro e w1 ⟨rfl, hb⟩
  rw [hr.out]
  replace k1 := k1.keep hb
  replace kR := kR.keep hb
  replace b1 := btr b1 hb
  clear hb
  obtain ⟨p0, p1⟩ := box2 k1
  go_wp2_with fail
  refine (sh_cut_yes A c zs n Z F T w1 (by omega) HRZ hz (by omega) (by omega) (by omega) (h1.below b1)).mono ?_
  rintro e w2 ⟨g, rfl, hg, ho, hb⟩
  clear p0 p1
  have hgw : w.heap.size ≤ g := Nat.le_trans b1.size hg
  replace k1 := k1.keep hb
  replace kR := kR.keep hb
  replace b1 := btr b1 hb
  clear hb
  obtain ⟨p0, p1⟩ := box2 k1
  obtain ⟨AS, hsl, hrs⟩ := slice_from (P := Try.prog) 23 (by kernel_rfl) (by kernel_rfl) (some ⟨g, 0, none⟩) zs.length zs.length (n + 1) ((n : Int) + 1) (by omega) (by omega) (Nat.le_refl _)
  have hset : (zs.set n ((T : Int) - F)).drop (n + 1) = zs.drop (n + 1) := by rw [List.drop_set, if_pos (by omega)]
  have RS : Rd w2 AS (zs.drop (n + 1)) := by rw [← hset]; exact hrs w2 _ (by simp) ho.rd
  have CSP := Lib.hid (t_span AS (zs.length - (n + 1)) (zs.drop (n + 1)) w2 (by simp; omega) (Lib.hid (inSides_drop RIN.out _)) RS)
  rw [List.length_drop, hI.out] at CSP
  clear hset hrs
  go_wp2_with fail
  refine CSP.out.mono ?_
  rintro e w3 ⟨rfl, rfl⟩
  obtain ⟨hz1, hz2⟩ := inSides_get RIN.out hz.out
  obtain ⟨P', Z', I', eP, eZ, eI, hP1, hZ1, hI1, eN⟩ := sides_nat RIN.out hz.out
  obtain rfl : P = P' := by have := hP.out.symm.trans eP; omega
  obtain rfl : Z = Z' := by omega
  obtain rfl : I = I' := by have := hI.out.symm.trans eI; omega
  have hxn : xs.length = P * (Z * I) := by have := HXL.out; rw [eN] at this; exact Int.ofNat.inj this
  have hx6 : xs.length ≤ 65536 := by have := HXL.out; omega
  clear eP eZ eI eN
  obtain ⟨R, hR⟩ : ∃ R, Z * I = R := ⟨_, rfl⟩
  obtain ⟨LO, hLO⟩ : ∃ LO, F * I = LO := ⟨_, rfl⟩
  obtain ⟨HI, hHI⟩ : ∃ HI, T * I = HI := ⟨_, rfl⟩
  obtain ⟨LEN, hLEN⟩ : ∃ LEN, (T - F) * I = LEN := ⟨_, rfl⟩
  obtain ⟨N, hN⟩ : ∃ N, P * LEN = N := ⟨_, rfl⟩
  have hHR : HI ≤ R := by rw [← hHI, ← hR]; exact Nat.mul_le_mul_right _ hTZ
  have hLL : LO + LEN = HI := by rw [← hLO, ← hLEN, ← hHI, ← Nat.add_mul]; congr 1; omega
  have hR1 : 1 ≤ R := by rw [← hR]; exact Nat.mul_pos hZ1 hI1
  have hRx : R ≤ xs.length := by rw [hxn, hR]; exact Nat.le_mul_of_pos_left _ hP1
  have hNx : N ≤ xs.length := by rw [hxn, hR, ← hN]; exact Nat.mul_le_mul_left _ (by omega)
  rw [hR] at hxn
  have mR : (Z : Int) * (I : Int) = (R : Int) := by rw [← hR, Int.natCast_mul]
  have mLO : (F : Int) * (I : Int) = (LO : Int) := by rw [← hLO, Int.natCast_mul]
  have mHI : (T : Int) * (I : Int) = (HI : Int) := by rw [← hHI, Int.natCast_mul]
  have hN2 : prodL (zs.set n ((T : Int) - F)) = (N : Int) := by
    rw [prodL_set _ hn, hP.out, hI.out, ← hN, ← hLEN, Int.natCast_mul, Int.natCast_mul, Int.natCast_sub (by omega)]
  obtain ⟨b0, off0, z', rfl, hb0, hc0, hz'⟩ := (h1.below b1).get hn
  obtain rfl : (Z : Int) = z' := by have := hz.out.symm.trans hz'.out; injection this
  have HR' := Lib.hid hR
  have HLO := Lib.hid hLO
  have HLEN := Lib.hid hLEN
  have HXN := Lib.hid hxn
  have CN := Lib.hid (t_span (some ⟨g, 0, none⟩) zs.length (zs.set n ((T : Int) - F)) w2 (by simp; omega) (Lib.hid (inSides_set RIN.out n (by omega) (by omega))) ho.rd)
  rw [hN2, List.length_set] at CN
  have hmk := fun W => run_make_cap (P := Try.prog) 24 38 Try.underlying24 (by kernel_rfl) N (by omega) W
  clear hR hLO hHI hLEN hxn hN hN2 hz' CSP
  go_wp2_with fail
  refine CN.out.mono ?_
  rintro e w3 ⟨rfl, rfl⟩
  have hsz2 := b1.size
  go_wp2_with fail
  clear p0 p1 hc0
  go_loopw [14, 15] (fun v i wr => ∃ (j S : Nat) (A' : Option Addr) (c' : Nat), j ≤ P ∧ Hid (j * R = S) ∧ i = .int .i64 S ∧ v = .slice A' (cutCells R LO LEN xs j).length c' ∧ OwnA wr w2.heap.size 38 A' c' (cutCells R LO LEN xs j) ∧ Below w2.heap.size w2 wr) (fun _ i _ => xs.length - (intOf i).toNat)
  case atStart => exact ⟨0, 0, _, _, Nat.zero_le _, Lib.hid (by simp), rfl, rfl, own_made _ _ _ (by omega), (Below.refl _ _).alloc (Nat.le_refl _) _⟩
  case round =>
    obtain ⟨j, S, A', c', hj, hS, rfl, rfl, hown, hbel⟩ := hrel
    have k1r := k1.keep hbel
    obtain ⟨p0, p1⟩ := box2 k1r
    by_cases hjP : j < P
    · have hSx : S + R ≤ xs.length := by
        rw [HXN.out, ← hS.out, ← Nat.succ_mul]; exact Nat.mul_le_mul_right _ hjP
      obtain ⟨A2, hsl2, hrs2⟩ := slice_part (P := Try.prog) 24 (by kernel_rfl) (by kernel_rfl) B xs.length d (S + LO) (S + HI) ((S : Int) + LO) ((S : Int) + HI) (by omega) (by omega) (by omega) (by omega) hd
      have e1 : S + HI - (S + LO) = LEN := by omega
      rw [e1] at hsl2 hrs2
      have R2 := hrs2 wr xs rfl ((h2.below b1).below hbel)
      have hyl : ((xs.drop (S + LO)).take LEN).length = LEN := by simp; omega
      have hcl : (cutCells R LO LEN xs j).length ≤ 65536 := by
        rw [cutCells_length (by rw [hS.out]; omega) (by omega)]
        have h1 : j * LEN ≤ j * R := Nat.mul_le_mul_left _ (by omega)
        have h2 := hS.out
        omega
      have ESX : S < xs.length := by omega
      clear hrs2 e1
      go_wp2_with (at_builtin; refine wpList_appendA rfl (.tmp 56) (.tmp 69) 24 rfl 38 Try.underlying24 (by kernel_rfl) w2.heap.size A' c' (cutCells R LO LEN xs j) rfl hown A2 LEN _ ((xs.drop (S + LO)).take LEN) hyl rfl R2 (by omega) hbel.size ?_; intro A3 c3 w3 ho3 hb3 hfr3 hsz3)
      refine ⟨⟨j + 1, S + R, A3, c3, by omega, Lib.hid (by rw [Nat.succ_mul, hS.out]), by go_num, ?_, ?_, hbel.trans hb3⟩, by simp [intOf]; omega⟩
      · rw [cutCells_succ, hS.out, List.length_append, hyl]
      · rw [cutCells_succ, hS.out]; exact ho3
    · obtain rfl : j = P := by omega
      have hSx : xs.length = S := by rw [HXN.out, hS.out]
      have hSx2 : ¬ S < xs.length := by omega
      clear hSx hjP
      have kRr := kR.keep hbel
      have hor := ho.keep hbel
      obtain ⟨q0, q1⟩ := box2 kRr
      have f0 := kRr.frozen 0
      have f1 := kRr.frozen 1
      have l1 := hor.ne_blk kRr (by decide)
      have l2 := hown.ne_blk kRr (by decide)
      have B2 := btr b1 hbel
      go_wp2_with fail
      have k3 := kRr.set2 (.slice (some ⟨g, 0, none⟩) zs.length zs.length) (.slice A' (cutCells R LO LEN xs j).length c')
      have B3 := bset2 B2 (p := w.heap.size + 1) (by omega) (.slice (some ⟨g, 0, none⟩) zs.length zs.length) (.slice A' (cutCells R LO LEN xs j).length c')
      have o3 := hor.far2 l1 (.slice (some ⟨g, 0, none⟩) zs.length zs.length) (.slice A' (cutCells R LO LEN xs j).length c')
      have o4 := hown.far2 l2 (.slice (some ⟨g, 0, none⟩) zs.length zs.length) (.slice A' (cutCells R LO LEN xs j).length c')
      clear q0 q1
      obtain ⟨q0, q1⟩ := box2 k3
      refine bodyPost_ret (v := .tuple #[.agg #[.slice (some ⟨g, 0, none⟩) zs.length zs.length, .slice A' (cutCells R LO LEN xs j).length c'], .int .i64 0]) (by simp [results, Try.results25, go_sem, q0, q1]) rfl ?_
      rw [HR'.out, HLO.out, HLEN.out]
      exact ⟨_, _, _, _, by rw [List.length_set], by have := OwnA.of_own o3 hgw (by simp; omega); rw [List.length_set] at this; exact this, o4.more hsz2, B3⟩

end Go.Proofs.Ytingmabmglpmaaa
