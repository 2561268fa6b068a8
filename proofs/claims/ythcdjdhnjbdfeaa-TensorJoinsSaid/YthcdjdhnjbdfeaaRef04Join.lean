/- The walk of the reference's Join. -/
import Derived.Test.YthcdjdhnjbdfeaaRef04
import Derived.Test.YthcdjdhnjbdfeaaJoinMath
namespace Go.Proofs.Ythcdjdhnjbdfeaa
open Go.RowKit

set_option maxRecDepth 100000 in
set_option maxHeartbeats 8000000 in
theorem r4_join (A B C D : Option Addr) (c d c' d' : Nat) (zs ts xs ys : List Int) (n P Z1 Z2 I : Nat) (w : World) (h4 : zs.length ≤ 4) (hc : zs.length ≤ c) (hin : Hid (inSides zs = true)) (hz : Hid (zs[n]? = some (Z1 : Int))) (ht : Hid (ts[n]? = some (Z2 : Int))) (hP : Hid (prodL (zs.take n) = (P : Int))) (hI : Hid (prodL (zs.drop (n + 1)) = (I : Int)))
    (hxl : Hid (xs.length = P * (Z1 * I))) (hyl : Hid (ys.length = P * (Z2 * I))) (hx6 : xs.length ≤ 65536) (hy6 : ys.length ≤ 65536) (hP1 : 1 ≤ P) (hI1 : 1 ≤ I) (hZ1 : 1 ≤ Z1) (hZ2 : 1 ≤ Z2) (h1 : Rd w A zs) (h2 : Rd w B ts) (h3 : Rd w C xs) (h5 : Rd w D ys) :
    Calls Try.prog 54 #[.slice A zs.length c, .slice B ts.length d, .slice C xs.length c', .slice D ys.length d', .int .i64 n] w (RetA w 2 (joinCells (Z1 * I) (Z2 * I) xs ys P)) := by
  have hn : n < zs.length := (List.getElem?_eq_some_iff.1 hz.out).1
  have hn' : n < ts.length := (List.getElem?_eq_some_iff.1 ht.out).1
  obtain ⟨R1, hR1⟩ : ∃ R, Z1 * I = R := ⟨_, rfl⟩
  obtain ⟨R2, hR2⟩ : ∃ R, Z2 * I = R := ⟨_, rfl⟩
  have HXL : Hid (xs.length = P * R1) := Lib.hid (by rw [← hR1]; exact hxl.out)
  have HYL : Hid (ys.length = P * R2) := Lib.hid (by rw [← hR2]; exact hyl.out)
  have m1 : (Z1 : Int) * (I : Int) = (R1 : Int) := by rw [← hR1, Int.natCast_mul]
  have m2 : (Z2 : Int) * (I : Int) = (R2 : Int) := by rw [← hR2, Int.natCast_mul]
  have g1 : 1 ≤ R1 := by rw [← hR1]; exact Nat.mul_pos hZ1 hI1
  have g2 : 1 ≤ R2 := by rw [← hR2]; exact Nat.mul_pos hZ2 hI1
  have g3 : R1 ≤ 65536 := by have := HXL.out; have := Nat.le_mul_of_pos_left R1 hP1; omega
  have g4 : R2 ≤ 65536 := by have := HYL.out; have := Nat.le_mul_of_pos_left R2 hP1; omega
  have g5 : P ≤ 65536 := by have := HXL.out; have := Nat.le_mul_of_pos_right P g1; omega
  have g6 : Z1 ≤ 65536 := by have := Nat.le_mul_of_pos_right Z1 hI1; omega
  have g7 : Z2 ≤ 65536 := by have := Nat.le_mul_of_pos_right Z2 hI1; omega
  have g8 : I ≤ 65536 := by have := Nat.le_mul_of_pos_left I hZ1; omega
  rw [hR1, hR2]
  have HR1 := Lib.hid hR1
  have HR2 := Lib.hid hR2
  clear hR1 hR2
  go_enter Try.func54, Try.ntmps54
  go_wp2_with fail
  refine (r4_parts A c zs n P I w h4 hc hin hn hP hI h1).mono ?_
  rintro e w1 ⟨rfl, m, rfl⟩
  have b1 := below_drewN (Below.refl w.heap.size w) m
  generalize w.drewN m = w1 at *
  go_wp2_with fail
  go_loopw [13, 14] (fun v i wr => ∃ (j : Nat) (A' : Option Addr) (c2 : Nat), j ≤ P ∧ i = .int .i64 j ∧ v = .slice A' (joinCells R1 R2 xs ys j).length c2 ∧ OwnA wr w.heap.size 2 A' c2 (joinCells R1 R2 xs ys j) ∧ Below w.heap.size w wr) (fun _ i _ => P - (intOf i).toNat)
  case atStart => exact ⟨0, none, 0, Nat.zero_le _, rfl, rfl, OwnA.nil _ _ _, b1⟩
  case round =>
    obtain ⟨j, A', c2, hj, rfl, rfl, hown, hbel⟩ := hrel
    by_cases hjP : j < P
    · obtain ⟨wo, rfl⟩ : ∃ wo : World, wo = wr := ⟨_, rfl⟩
      obtain ⟨S1, hS1⟩ : ∃ S, j * R1 = S := ⟨_, rfl⟩
      obtain ⟨S2, hS2⟩ : ∃ S, j * R2 = S := ⟨_, rfl⟩
      obtain ⟨J1, hJ1⟩ : ∃ S, j * Z1 = S := ⟨_, rfl⟩
      obtain ⟨J2, hJ2⟩ : ∃ S, j * Z2 = S := ⟨_, rfl⟩
      have q1 : S1 + R1 ≤ xs.length := by rw [HXL.out, ← hS1, ← Nat.succ_mul]; exact Nat.mul_le_mul_right _ hjP
      have q2 : S2 + R2 ≤ ys.length := by rw [HYL.out, ← hS2, ← Nat.succ_mul]; exact Nat.mul_le_mul_right _ hjP
      have m3 : (j : Int) * (Z1 : Int) = (J1 : Int) := by rw [← hJ1, Int.natCast_mul]
      have m4 : (j : Int) * (Z2 : Int) = (J2 : Int) := by rw [← hJ2, Int.natCast_mul]
      have m5 : (J1 : Int) * (I : Int) = (S1 : Int) := by rw [← hS1, ← HR1.out, ← Nat.mul_assoc, hJ1, Int.natCast_mul]
      have m6 : (J2 : Int) * (I : Int) = (S2 : Int) := by rw [← hS2, ← HR2.out, ← Nat.mul_assoc, hJ2, Int.natCast_mul]
      have q3 : J1 ≤ 65536 := by
        have e1 : j * Z1 ≤ j * R1 := Nat.mul_le_mul_left _ (by rw [← HR1.out]; exact Nat.le_mul_of_pos_right _ hI1)
        omega
      have q4 : J2 ≤ 65536 := by
        have e1 : j * Z2 ≤ j * R2 := Nat.mul_le_mul_left _ (by rw [← HR2.out]; exact Nat.le_mul_of_pos_right _ hI1)
        omega
      obtain ⟨zs0, hys⟩ : ∃ l, joinCells R1 R2 xs ys j = l := ⟨_, rfl⟩
      have hyl0 : zs0.length ≤ 131072 := by rw [← hys, joinCells_length (by omega) (by omega), Nat.mul_add, hS1, hS2]; omega
      rw [hys] at hown ⊢
      have HYS := Lib.hid hys
      have HS1 := Lib.hid hS1
      have HS2 := Lib.hid hS2
      obtain ⟨b0, off0, z', rfl, hb0, hc0, hz'⟩ := (h1.below hbel).get hn
      obtain rfl : (Z1 : Int) = z' := by have := hz.out.symm.trans hz'.out; injection this
      obtain ⟨b2, off2, z2', rfl, hb2, hc2, hz2'⟩ := (h2.below hbel).get hn'
      obtain rfl : (Z2 : Int) = z2' := by have := ht.out.symm.trans hz2'.out; injection this
      clear hys hS1 hS2 hJ1 hJ2 hz' hz2' hc0 hc2
      go_wp2_with fail
      go_loopw [13, 15] (fun v i wr => ∃ (k : Nat) (A' : Option Addr) (c2 : Nat), k ≤ R1 ∧ i = .int .i64 k ∧ v = .slice A' (zs0 ++ (xs.drop S1).take k).length c2 ∧ OwnA wr w.heap.size 2 A' c2 (zs0 ++ (xs.drop S1).take k) ∧ Below w.heap.size w wr) (fun _ i _ => R1 - (intOf i).toNat)
      case atStart => exact ⟨0, A', c2, Nat.zero_le _, rfl, by simp, by simpa using hown, hbel⟩
      case round =>
        clear hown hbel
        obtain ⟨k, A', c2, hk, rfl, rfl, hown, hbel⟩ := hrel
        have hcz := (h1.below hbel).all hz.out
        by_cases hkR : k < R1
        · obtain ⟨b3, off3, x, rfl, hbb3, hcx, hxk⟩ := (h3.below hbel).get (k := S1 + k) (by omega)
          have hll : (zs0 ++ (xs.drop S1).take k).length ≤ 1000000 := by simp; omega
          have hlt : S1 + k < xs.length := by omega
          go_wp2_with (at_builtin; refine wpList_pushI rfl _ _ _ rfl 2 Try.underlying52 (by kernel_rfl) w.heap.size A' c2 (zs0 ++ (xs.drop S1).take k) rfl hown x rfl (by omega) hbel.size ?_; intro A3 c3 w3 ho3 hb3 _ _)
          go_roundw
          case rel =>
            have e2 : zs0 ++ (xs.drop S1).take (k + 1) = zs0 ++ (xs.drop S1).take k ++ [x] := by rw [take_snoc hxk.out, List.append_assoc]
            refine ⟨k + 1, A3, c3, by omega, by go_num, ?_, by rw [e2]; exact ho3, hbel.trans hb3⟩
            rw [e2]; simp; omega
          case measure => simp [intOf]; omega
        · obtain rfl : k = R1 := by omega
          obtain ⟨zs1, hz1⟩ : ∃ l, zs0 ++ (xs.drop S1).take k = l := ⟨_, rfl⟩
          have hyl1 : zs1.length ≤ 200000 := by rw [← hz1]; simp; omega
          rw [hz1] at hown ⊢
          have HZ1 := Lib.hid hz1
          obtain ⟨wo2, rfl⟩ : ∃ wo2 : World, wo2 = wr := ⟨_, rfl⟩
          clear hz1
          go_wp2_with fail
          go_loopw [13, 16] (fun v i wr => ∃ (k2 : Nat) (A' : Option Addr) (c2 : Nat), k2 ≤ R2 ∧ i = .int .i64 k2 ∧ v = .slice A' (zs1 ++ (ys.drop S2).take k2).length c2 ∧ OwnA wr w.heap.size 2 A' c2 (zs1 ++ (ys.drop S2).take k2) ∧ Below w.heap.size w wr) (fun _ i _ => R2 - (intOf i).toNat)
          case atStart => exact ⟨0, A', c2, Nat.zero_le _, rfl, by simp, by simpa using hown, hbel⟩
          case round =>
            clear hown hbel hcz
            obtain ⟨k2, A', c2, hk2, rfl, rfl, hown, hbel⟩ := hrel
            have hct := (h2.below hbel).all ht.out
            by_cases hkR2 : k2 < R2
            · obtain ⟨b3, off3, x, rfl, hbb3, hcx, hxk⟩ := (h5.below hbel).get (k := S2 + k2) (by omega)
              have hll : (zs1 ++ (ys.drop S2).take k2).length ≤ 1000000 := by simp; omega
              have hlt : S2 + k2 < ys.length := by omega
              go_wp2_with (at_builtin; refine wpList_pushI rfl _ _ _ rfl 2 Try.underlying52 (by kernel_rfl) w.heap.size A' c2 (zs1 ++ (ys.drop S2).take k2) rfl hown x rfl (by omega) hbel.size ?_; intro A3 c3 w3 ho3 hb3 _ _)
              go_roundw
              case rel =>
                have e2 : zs1 ++ (ys.drop S2).take (k2 + 1) = zs1 ++ (ys.drop S2).take k2 ++ [x] := by rw [take_snoc hxk.out, List.append_assoc]
                refine ⟨k2 + 1, A3, c3, by omega, by go_num, ?_, by rw [e2]; exact ho3, hbel.trans hb3⟩
                rw [e2]; simp; omega
              case measure => simp [intOf]; omega
            · obtain rfl : k2 = R2 := by omega
              go_wp2_with fail
              go_roundw
              case rel =>
                have e : joinCells k k2 xs ys (j + 1) = zs1 ++ (ys.drop S2).take k2 := by rw [joinCells_succ, HYS.out, HS1.out, HS2.out, ← HZ1.out, List.append_assoc]
                exact ⟨j + 1, A', c2, by omega, by go_num, by rw [e], by rw [e]; exact hown, hbel⟩
              case measure => simp [intOf]; omega
    · obtain rfl : j = P := by omega
      go_wp2_with fail
      go_ret
      exact ⟨A', c2, rfl, hown, hbel⟩

end Go.Proofs.Ythcdjdhnjbdfeaa
