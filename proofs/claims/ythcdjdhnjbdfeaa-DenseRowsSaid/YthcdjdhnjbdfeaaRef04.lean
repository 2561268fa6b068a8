/- The walk of the reference's Cut. -/
import Derived.Test.YthcdjdhnjbdfeaaLaw04b
namespace Go.Proofs.Ythcdjdhnjbdfeaa
open Go.RowKit

theorem take_snoc {xs : List Int} {s m : Nat} {x : Int} (h : xs[s + m]? = some x) : (xs.drop s).take (m + 1) = (xs.drop s).take m ++ [x] := by
  have : (xs.drop s)[m]? = some x := by rw [List.getElem?_drop]; exact h
  exact take_at this

set_option maxRecDepth 100000 in
set_option maxHeartbeats 4000000 in
theorem r4_cut (A C : Option Addr) (c c' : Nat) (zs xs : List Int) (n P Z I F T : Nat) (w : World) (h4 : zs.length ≤ 4) (hc : zs.length ≤ c) (hin : Hid (inSides zs = true)) (hz : Hid (zs[n]? = some (Z : Int))) (hP : Hid (prodL (zs.take n) = (P : Int))) (hI : Hid (prodL (zs.drop (n + 1)) = (I : Int)))
    (hxl : Hid (xs.length = P * (Z * I))) (hx6 : xs.length ≤ 65536) (hFT : F < T) (hTZ : T ≤ Z) (h1 : Rd w A zs) (h2 : Rd w C xs) :
    Calls Try.prog 30 #[.slice A zs.length c, .slice C xs.length c', .int .i64 n, .int .i64 F, .int .i64 T] w (RetA w 2 (cutCells (Z * I) (F * I) ((T - F) * I) xs P)) := by
  have hn : n < zs.length := (List.getElem?_eq_some_iff.1 hz.out).1
  obtain ⟨hz1, hz2⟩ := inSides_get hin.out hz.out
  obtain ⟨P', Z', I', eP, eZ, eI, hP1, hZ1, hI1, -⟩ := sides_nat hin.out hz.out
  obtain rfl : P = P' := by have := hP.out.symm.trans eP; omega
  obtain rfl : Z = Z' := by omega
  obtain rfl : I = I' := by have := hI.out.symm.trans eI; omega
  clear eP eZ eI
  have hPx : P ≤ 65536 := by have := hxl.out; have := Nat.le_mul_of_pos_right P (Nat.mul_pos hZ1 hI1); omega
  have hIx : I ≤ 65536 := by
    have e1 := hxl.out
    have e2 := Nat.le_mul_of_pos_left I hZ1
    have e3 := Nat.le_mul_of_pos_left (Z * I) hP1
    omega
  go_enter Try.func30, Try.ntmps30
  go_wp2_with fail
  refine (r4_parts A c zs n P I w h4 hc hin hn hP hI h1).mono ?_
  rintro e w1 ⟨rfl, m, rfl⟩
  have b1 := below_drewN (Below.refl w.heap.size w) m
  generalize w.drewN m = w1 at *
  go_wp2_with fail
  go_loopw [13, 14] (fun v i wr => ∃ (j : Nat) (A' : Option Addr) (c2 : Nat), j ≤ P ∧ i = .int .i64 j ∧ v = .slice A' (cutCells (Z * I) (F * I) ((T - F) * I) xs j).length c2 ∧ OwnA wr w.heap.size 2 A' c2 (cutCells (Z * I) (F * I) ((T - F) * I) xs j) ∧ Below w.heap.size w wr) (fun _ i _ => P - (intOf i).toNat)
  case atStart => exact ⟨0, none, 0, Nat.zero_le _, rfl, rfl, OwnA.nil _ _ _, b1⟩
  case round =>
    obtain ⟨j, A', c2, hj, rfl, rfl, hown, hbel⟩ := hrel
    by_cases hjP : j < P
    · obtain ⟨wo, rfl⟩ : ∃ wo : World, wo = wr := ⟨_, rfl⟩
      obtain ⟨ys, hys⟩ : ∃ ys, cutCells (Z * I) (F * I) ((T - F) * I) xs j = ys := ⟨_, rfl⟩
      obtain ⟨SL, hSL⟩ : ∃ SL, j * (Z * I) + F * I = SL := ⟨_, rfl⟩
      rw [hys] at hown ⊢
      have hrow : j * (Z * I) + Z * I ≤ xs.length := by rw [hxl.out, ← Nat.succ_mul]; exact Nat.mul_le_mul_right _ hjP
      have hyl : ys.length ≤ 65536 := by
        have h0 : F * I + (T - F) * I ≤ Z * I := by rw [← Nat.add_mul]; exact Nat.mul_le_mul_right _ (by omega)
        rw [← hys, cutCells_length (by omega) h0]
        have h1 : j * ((T - F) * I) ≤ j * (Z * I) := Nat.mul_le_mul_left _ (by omega)
        omega
      have HYS := Lib.hid hys
      have HSL := Lib.hid hSL
      have HROW := Lib.hid hrow
      obtain ⟨b0, off0, z', rfl, hb0, hc0, hz'⟩ := (h1.below hbel).get hn
      obtain rfl : (Z : Int) = z' := by have := hz.out.symm.trans hz'.out; injection this
      clear hys hSL hrow hz' hc0
      go_wp2_with fail
      go_loopw [13, 15] (fun v i wr => ∃ (k M : Nat) (A' : Option Addr) (c2 : Nat), F ≤ k ∧ k ≤ T ∧ Hid ((k - F) * I = M) ∧ i = .int .i64 k ∧ v = .slice A' (ys ++ (xs.drop SL).take M).length c2 ∧ OwnA wr w.heap.size 2 A' c2 (ys ++ (xs.drop SL).take M) ∧ Below w.heap.size w wr) (fun _ i _ => T - (intOf i).toNat)
      case atStart => exact ⟨F, 0, A', c2, Nat.le_refl _, by omega, Lib.hid (by simp), rfl, by simp, by simpa using hown, hbel⟩
      case round =>
        clear hown hbel
        obtain ⟨k, M, A', c2, hFk, hkT, hM, rfl, rfl, hown, hbel⟩ := hrel
        by_cases hkT2 : k < T
        · obtain ⟨wo2, rfl⟩ : ∃ wo2 : World, wo2 = wr := ⟨_, rfl⟩
          obtain ⟨JZ, hJZ⟩ : ∃ JZ, j * Z = JZ := ⟨_, rfl⟩
          have mJZ : (j : Int) * (Z : Int) = (JZ : Int) := by rw [← hJZ, Int.natCast_mul]
          have hQ : (JZ + k) * I = SL + M := by
            rw [← hJZ, ← HSL.out, ← hM.out, Nat.add_mul, Nat.mul_assoc, Nat.add_assoc, ← Nat.add_mul, show F + (k - F) = k from by omega]
          have mQ : ((JZ : Int) + (k : Int)) * (I : Int) = ((SL : Int) + (M : Int)) := by
            have := congrArg (Nat.cast (R := Int)) hQ
            simpa [Int.natCast_mul, Int.natCast_add] using this
          have hend : SL + M + I ≤ xs.length := by
            have e1 : (k - F) * I + I ≤ (T - F) * I := by rw [← Nat.succ_mul]; exact Nat.mul_le_mul_right _ (by omega)
            have e2 : F * I + (T - F) * I ≤ Z * I := by rw [← Nat.add_mul]; exact Nat.mul_le_mul_right _ (by omega)
            have e3 := HROW.out
            have e4 := HSL.out
            have e5 := hM.out
            omega
          have hJZ6 : JZ ≤ 65536 := by
            have e1 : j * Z ≤ j * (Z * I) := Nat.mul_le_mul_left _ (Nat.le_mul_of_pos_right _ hI1)
            have e3 := HROW.out
            omega
          clear hQ hJZ
          go_wp2_with fail
          go_loopw [13, 16] (fun v i wr => ∃ (b : Nat) (A' : Option Addr) (c2 : Nat), b ≤ I ∧ i = .int .i64 b ∧ v = .slice A' (ys ++ (xs.drop SL).take (M + b)).length c2 ∧ OwnA wr w.heap.size 2 A' c2 (ys ++ (xs.drop SL).take (M + b)) ∧ Below w.heap.size w wr) (fun _ i _ => I - (intOf i).toNat)
          case atStart => exact ⟨0, A', c2, Nat.zero_le _, rfl, rfl, hown, hbel⟩
          case round =>
            clear hown hbel
            obtain ⟨b, A', c2, hbI, rfl, rfl, hown, hbel⟩ := hrel
            by_cases hb : b < I
            · obtain ⟨b2, off2, x, rfl, hbb2, hcx, hxk⟩ := (h2.below hbel).get (k := SL + M + b) (by omega)
              have hcz := (h1.below hbel).all hz.out
              have hl : (ys ++ (xs.drop SL).take (M + b)).length ≤ 1000000 := by simp; omega
              have hlt : SL + M + b < xs.length := by omega
              go_wp2_with (at_builtin; refine wpList_pushI rfl _ _ _ rfl 2 Try.underlying52 (by kernel_rfl) w.heap.size A' c2 (ys ++ (xs.drop SL).take (M + b)) rfl hown x rfl (by omega) hbel.size ?_; intro A3 c3 w3 ho3 hb3 _ _)
              go_roundw
              case rel =>
                have e := take_snoc (s := SL) (m := M + b) (by rw [← Nat.add_assoc]; exact hxk.out)
                have e2 : ys ++ (xs.drop SL).take (M + (b + 1)) = ys ++ (xs.drop SL).take (M + b) ++ [x] := by rw [← Nat.add_assoc, e, List.append_assoc]
                refine ⟨b + 1, A3, c3, by omega, by go_num, ?_, by rw [e2]; exact ho3, hbel.trans hb3⟩
                rw [e2]; simp; omega
              case measure => simp [intOf]; omega
            · obtain rfl : b = I := by omega
              go_wp2_with fail
              go_roundw
              case rel => exact ⟨k + 1, M + b, A', c2, by omega, by omega, Lib.hid (by rw [show k + 1 - F = (k - F) + 1 from by omega, Nat.succ_mul, hM.out]), by go_num, rfl, hown, hbel⟩
              case measure => simp [intOf]; omega
        · obtain rfl : k = T := by omega
          go_wp2_with fail
          go_roundw
          case rel =>
            have e : cutCells (Z * I) (F * I) ((k - F) * I) xs (j + 1) = ys ++ (xs.drop SL).take M := by rw [cutCells_succ, HYS.out, HSL.out, hM.out]
            exact ⟨j + 1, A', c2, by omega, by go_num, by rw [e], by rw [e]; exact hown, hbel⟩
          case measure => simp [intOf]; omega
    · obtain rfl : j = P := by omega
      go_wp2_with fail
      go_ret
      exact ⟨A', c2, rfl, hown, hbel⟩

end Go.Proofs.Ythcdjdhnjbdfeaa
