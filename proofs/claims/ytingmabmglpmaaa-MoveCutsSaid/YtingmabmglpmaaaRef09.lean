/- The walk of the reference's Spread. -/
import Derived.Test.YtingmabmglpmaaaMoveCut
import Derived.Test.YtingmabmglpmaaaLaw04b
namespace Go.Proofs.Ytingmabmglpmaaa
open Go.RowKit

section
variable {P I F T Z a k b : Nat} {xg : List Int}
/-- How many cells of the part lie ahead of cell m of a row. -/
def cbT (I F T m : Nat) : Nat := min (m - F * I) ((T - F) * I)
theorem mul_sub_le (hF : F ≤ T) : T * I = F * I + (T - F) * I := by rw [← Nat.add_mul]; congr 1; omega
theorem cb_out (hF : F ≤ T) (hT : T ≤ Z) (h : (a + 1) * ((T - F) * I) ≤ xg.length) (hk : k < Z) (hb : b < I) (ho : k < F ∨ T ≤ k) :
    (cbRow I F T Z xg a)[k * I + b]? = some 0 ∧ cbT I F T (k * I + b + 1) = cbT I F T (k * I + b) := by
  rw [Nat.succ_mul] at h
  have h1 := mul_sub_le (I := I) hF
  have h2 := mul_sub_le (I := I) hT
  have h3 : (k + 1) * I ≤ Z * I := Nat.mul_le_mul_right _ hk
  rw [Nat.succ_mul] at h3
  have hl : ((xg.drop (a * ((T - F) * I))).take ((T - F) * I)).length = (T - F) * I := by simp; omega
  rcases ho with ho | ho
  · have h4 : (k + 1) * I ≤ F * I := Nat.mul_le_mul_right _ ho
    rw [Nat.succ_mul] at h4
    refine ⟨?_, by unfold cbT; omega⟩
    rw [cbRow, List.append_assoc, List.getElem?_append_left (by simp; omega), List.getElem?_replicate, if_pos (by omega)]
  · have h4 : T * I ≤ k * I := Nat.mul_le_mul_right _ ho
    refine ⟨?_, by unfold cbT; omega⟩
    rw [cbRow, List.getElem?_append_right (by simp [hl]; omega), List.getElem?_replicate, if_pos (by simp [hl]; omega)]
theorem cb_in (hF : F ≤ T) (_hT : T ≤ Z) (h : (a + 1) * ((T - F) * I) ≤ xg.length) (hb : b < I) (h1 : F ≤ k) (h2 : k < T) :
    (cbRow I F T Z xg a)[k * I + b]? = xg[a * ((T - F) * I) + cbT I F T (k * I + b)]? ∧ cbT I F T (k * I + b + 1) = cbT I F T (k * I + b) + 1 ∧ cbT I F T (k * I + b) < (T - F) * I := by
  rw [Nat.succ_mul] at h
  have g1 := mul_sub_le (I := I) hF
  have h3 : (k + 1) * I ≤ T * I := Nat.mul_le_mul_right _ h2
  have h4 : F * I ≤ k * I := Nat.mul_le_mul_right _ h1
  rw [Nat.succ_mul] at h3
  have e : cbT I F T (k * I + b) = k * I + b - F * I := by unfold cbT; omega
  have e' : cbT I F T (k * I + b + 1) = k * I + b + 1 - F * I := by unfold cbT; omega
  refine ⟨?_, by omega, by omega⟩
  have hl : ((xg.drop (a * ((T - F) * I))).take ((T - F) * I)).length = (T - F) * I := by simp; omega
  rw [cbRow, e, List.append_assoc, List.getElem?_append_right (by simp; omega), List.getElem?_append_left (by simp [hl]; omega), List.length_replicate, List.getElem?_take, if_pos (by omega), List.getElem?_drop]
theorem cbT_end (hF : F ≤ T) (hT : T ≤ Z) : cbT I F T (Z * I) = (T - F) * I := by
  have h1 := mul_sub_le (I := I) hF
  have h2 := mul_sub_le (I := I) hT
  unfold cbT; omega
theorem cbT_zero : cbT I F T 0 = 0 := by simp [cbT]
end

set_option maxRecDepth 100000 in
set_option maxHeartbeats 8000000 in
theorem r9_spread (A C : Option Addr) (c c' : Nat) (zs ys : List Int) (nn P Z I F T : Nat) (w : World) (hc : zs.length ≤ c) (HJW : Hid (JW nn P I Z zs)) (hyl : Hid (ys.length = P * ((T - F) * I))) (hy6 : ys.length ≤ 65536) (hFT : F < T) (hTZ : T ≤ Z) (h1 : Rd w A zs) (h2 : Rd w C ys) :
    Calls Try.prog 27 #[.slice A zs.length c, .slice C ys.length c', .int .i64 nn, .int .i64 F, .int .i64 T] w (RetA w 2 (cbX P I F T Z ys P)) := by
  obtain ⟨r1, r4, rin, -⟩ := (rightB_iff zs).1 HJW.out.right
  have RIN := Lib.hid rin
  have hnn := HJW.out.lt
  have hP1 := HJW.out.p1
  have hI1 := HJW.out.i1
  have hZ1 := HJW.out.z1
  have hsm := HJW.out.small
  have hP6 : P ≤ 65536 := by have h3 : P * 1 ≤ P * (Z * I) := Nat.mul_le_mul_left _ (Nat.mul_pos hZ1 hI1); omega
  have hZI : Z * I ≤ 65536 := by have h3 : 1 * (Z * I) ≤ P * (Z * I) := Nat.mul_le_mul_right _ hP1; omega
  have hI6 : I ≤ 65536 := by have h3 : 1 * I ≤ Z * I := Nat.mul_le_mul_right _ hZ1; omega
  have hZ6 : Z ≤ 65536 := by have h3 : Z * 1 ≤ Z * I := Nat.mul_le_mul_left _ hI1; omega
  have HSM := Lib.hid hsm
  have HFT := Lib.hid (Nat.le_of_lt hFT)
  clear rin hsm
  go_enter Try.func27, Try.ntmps27
  go_wp2_with fail
  refine (r4_parts A c zs nn P I w r4 hc RIN hnn (Lib.hid HJW.out.ahead) (Lib.hid HJW.out.behind) h1).mono ?_
  rintro e w1 ⟨rfl, m, rfl⟩
  have b1 := below_drewN (Below.refl w.heap.size w) m
  generalize w.drewN m = w1 at *
  go_wp2_with fail
  go_loopw [13, 14, 15] (fun v t i wr => ∃ (j S : Nat) (A' : Option Addr) (c2 : Nat) (L : List Int), j ≤ P ∧ Hid (j * ((T - F) * I) = S) ∧ i = .int .i64 j ∧ t = .int .i64 S ∧ v = .slice A' L.length c2 ∧ OwnA wr w.heap.size 2 A' c2 L ∧ Hid (L = (List.range j).flatMap (cbRow I F T Z ys)) ∧ Below w.heap.size w wr) (fun _ _ i _ => P - (intOf i).toNat)
  case atStart => exact ⟨0, 0, none, 0, [], Nat.zero_le _, Lib.hid (by simp), rfl, rfl, rfl, OwnA.nil _ _ _, Lib.hid rfl, b1⟩
  case round =>
    obtain ⟨j, S, A', c2, L0, hj, hS, rfl, rfl, rfl, hown, hL0, hbel⟩ := hrel
    by_cases hjP : j < P
    · obtain ⟨wo, rfl⟩ : ∃ wo : World, wo = wr := ⟨_, rfl⟩
      have HH : Hid ((j + 1) * ((T - F) * I) ≤ ys.length) := Lib.hid (by rw [hyl.out]; exact Nat.mul_le_mul_right _ hjP)
      have HRL := Lib.hid (cbRow_length (I := I) (Z := Z) HFT.out hTZ HH.out)
      have hL0l : L0.length ≤ 65536 := by
        have h0 := HH.out
        rw [Nat.succ_mul] at h0
        have h2 : j * (Z * I) ≤ P * (Z * I) := Nat.mul_le_mul_right _ hj
        have h3 := HSM.out
        rw [hL0.out, cbFlat_length HFT.out hTZ (by omega)]
        omega
      have hS6 : S + (T - F) * I ≤ ys.length := by have h0 := HH.out; rw [Nat.succ_mul, hS.out] at h0; exact h0
      obtain ⟨PT, hPT⟩ : ∃ PT, (T - F) * I = PT := ⟨_, rfl⟩
      rw [hPT] at hS6
      have HPT := Lib.hid hPT
      clear hPT
      obtain ⟨b0, off0, z', rfl, hb0, hc0, hz'⟩ := (h1.below hbel).get hnn
      obtain rfl : (Z : Int) = z' := by have := HJW.out.at_.symm.trans hz'.out; injection this
      clear hz' hc0
      go_wp2_with fail
      go_loopw [13, 14, 16] (fun v t i wr => ∃ (k M TT : Nat) (A' : Option Addr) (c2 : Nat) (L : List Int), k ≤ Z ∧ Hid (k * I = M) ∧ Hid (S + cbT I F T M = TT) ∧ i = .int .i64 k ∧ t = .int .i64 TT ∧ v = .slice A' L.length c2 ∧ OwnA wr w.heap.size 2 A' c2 L ∧ Hid (L = L0 ++ (cbRow I F T Z ys j).take M) ∧ Below w.heap.size w wr) (fun _ _ i _ => Z - (intOf i).toNat)
      case atStart => exact ⟨0, 0, S, A', c2, L0, Nat.zero_le _, Lib.hid (by simp), Lib.hid (by rw [cbT_zero, Nat.add_zero]), rfl, rfl, rfl, hown, Lib.hid (by simp), hbel⟩
      case round =>
        clear hown hbel
        obtain ⟨k, M, TT, A', c2, L1, hk, hM, hTT, rfl, rfl, rfl, hown, hL1, hbel⟩ := hrel
        have hcz := (h1.below hbel).all HJW.out.at_
        by_cases hkZ : k < Z
        · obtain ⟨wo2, rfl⟩ : ∃ wo2 : World, wo2 = wr := ⟨_, rfl⟩
          have hMI : M + I ≤ Z * I := by rw [← hM.out, ← Nat.succ_mul]; exact Nat.mul_le_mul_right _ hkZ
          go_wp2_with fail
          go_loopw [13, 14, 17] (fun v t i wr => ∃ (b UU : Nat) (A' : Option Addr) (c2 : Nat) (L : List Int), b ≤ I ∧ Hid (S + cbT I F T (M + b) = UU) ∧ i = .int .i64 b ∧ t = .int .i64 UU ∧ v = .slice A' L.length c2 ∧ OwnA wr w.heap.size 2 A' c2 L ∧ Hid (L = L0 ++ (cbRow I F T Z ys j).take (M + b)) ∧ Below w.heap.size w wr) (fun _ _ i _ => I - (intOf i).toNat)
          case atStart => exact ⟨0, TT, A', c2, L1, Nat.zero_le _, hTT, rfl, rfl, rfl, hown, hL1, hbel⟩
          case round =>
            clear hown hbel hcz
            obtain ⟨b, UU, A', c2, L, hbI, hUU, rfl, rfl, rfl, hown, hL, hbel⟩ := hrel
            have hLl : L.length ≤ 200000 := by
              rw [hL.out, List.length_append, List.length_take]
              have := HRL.out
              omega
            have hU6 : UU ≤ 65536 := by
              have := hUU.out
              have h2 : cbT I F T (M + b) ≤ PT := by rw [← HPT.out]; unfold cbT; omega
              omega
            by_cases hb : b < I
            · by_cases ho : k < F ∨ T ≤ k
              · obtain ⟨e1, e2⟩ := cb_out (xg := ys) HFT.out hTZ HH.out hkZ hb ho
                rw [hM.out] at e1 e2
                have E1 := Lib.hid (take_at e1)
                have E2 := Lib.hid e2
                clear e1 e2
                rcases ho with ho | ho
                all_goals
                  go_wp2_with (at_builtin; refine wpList_pushI rfl _ _ _ rfl 2 Try.underlying52 (by kernel_rfl) w.heap.size A' c2 L rfl hown 0 rfl (by omega) hbel.size ?_; intro A3 c3 w3 ho3 hb3 _ _)
                  go_roundw
                  case rel => exact ⟨b + 1, UU, A3, c3, L ++ [0], by omega, Lib.hid (by rw [← Nat.add_assoc, E2.out, hUU.out]), by go_num, rfl, by simp, ho3, Lib.hid (by rw [← Nat.add_assoc, E1.out, hL.out, List.append_assoc]), hbel.trans hb3⟩
                  case measure => simp [intOf]; omega
              · have ho1 : F ≤ k := by omega
                have ho2 : k < T := by omega
                obtain ⟨e1, e2, e3⟩ := cb_in (Z := Z) (xg := ys) HFT.out hTZ HH.out hb ho1 ho2
                rw [hM.out] at e1 e2 e3
                rw [hS.out, hUU.out] at e1
                rw [HPT.out] at e3
                have hUl : UU < ys.length := by have := hUU.out; omega
                obtain ⟨b2, off2, x, rfl, hbb2, hcx, hxk⟩ := (h2.below hbel).get hUl
                rw [hxk.out] at e1
                have E1 := Lib.hid (take_at e1)
                have E2 := Lib.hid e2
                clear e1 e2 e3 ho
                go_wp2_with (at_builtin; refine wpList_pushI rfl _ _ _ rfl 2 Try.underlying52 (by kernel_rfl) w.heap.size A' c2 L rfl hown x rfl (by omega) hbel.size ?_; intro A3 c3 w3 ho3 hb3 _ _)
                go_roundw
                case rel => exact ⟨b + 1, UU + 1, A3, c3, L ++ [x], by omega, Lib.hid (by rw [← Nat.add_assoc, E2.out, ← Nat.add_assoc, hUU.out]), by go_num, by go_num, by simp, ho3, Lib.hid (by rw [← Nat.add_assoc, E1.out, hL.out, List.append_assoc]), hbel.trans hb3⟩
                case measure => simp [intOf]; omega
            · obtain rfl : b = I := by omega
              go_wp2_with fail
              go_roundw
              case rel => exact ⟨k + 1, M + b, UU, A', c2, L, by omega, Lib.hid (by rw [Nat.succ_mul, hM.out]), hUU, by go_num, rfl, rfl, hown, hL, hbel⟩
              case measure => simp [intOf]; omega
        · obtain rfl : k = Z := by omega
          go_wp2_with fail
          go_roundw
          case rel => exact ⟨j + 1, TT, A', c2, L1, by omega, Lib.hid (by rw [← hTT.out, ← hM.out, cbT_end HFT.out hTZ, Nat.succ_mul, hS.out]), by go_num, rfl, rfl, hown, Lib.hid (by rw [hL1.out, ← hM.out, ← HRL.out, List.take_length, List.range_succ, List.flatMap_append, ← hL0.out]; simp), hbel⟩
          case measure => simp [intOf]; omega
    · obtain rfl : j = P := by omega
      have HE : Hid (cbX j I F T Z ys j = L0) := Lib.hid (by rw [hL0.out, cbX]; simp)
      go_wp2_with fail
      go_ret
      rw [HE.out]
      exact ⟨A', c2, rfl, hown, hbel⟩

end Go.Proofs.Ytingmabmglpmaaa
