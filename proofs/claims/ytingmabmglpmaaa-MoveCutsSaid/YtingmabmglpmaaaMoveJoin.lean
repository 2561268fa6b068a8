/- move.Join. -/
import Derived.Test.YtingmabmglpmaaaMove
import Derived.Deep.DeepCutAuto
namespace Go.Proofs.Ytingmabmglpmaaa
open Go.RowKit

section
variable {w : World} {A B C D : Option Addr} {n m c d n' m' c' d' : Nat} {zs xs ts ys : List Int} {side : Int} {us : List Tn}
set_option maxRecDepth 100000 in
set_option maxHeartbeats 2000000 in
theorem mv_join_no [a : Ts w A n us] [lc : Le n c] (hn : n ≤ 1000000) (hz : Hid (∀ t ∈ us, t.zs.length ≤ 1000000)) {E : Int} (hE : Hid (jnE side us = E)) (h0 : (E != 0) = true) :
    Calls Try.prog 14 #[.int .i64 side, .slice A n c] w (RetTA w [] [] E) := by
  have CB := @cell_bx
  have FB := @frozen_bx
  have hS : Hid (([] : List Int) = if E = 0 then jnS side us else []) := Lib.hid (by rw [if_neg (by simpa using h0)])
  go_enter Try.func14, Try.ntmps14
  go_wp2_with (first | (go_at_call 41; (try first | (with_reducible refine gen_boxK3 (fun u _ _ _ _ => ?_)) | (with_reducible refine gen_boxK2 (fun u _ _ _ => ?_)) | (with_reducible refine gen_boxK (fun u _ _ => ?_))); (with_reducible refine (mv_joined (by omega) hz hE hS).mono ?_); rintro e u ⟨A', c', rfl, sA, lA, fA, _⟩))
  have kR : Bx u (w.heap.size) 26 #[.slice none 0 0, .slice none 0 0] := inferInstance
  have k3 := kR.blk.set2 (.slice none 0 0) (.slice none 0 0)
  have B3 := bset2 (bel w u) (p := w.heap.size) (by omega) (.slice none 0 0) (.slice none 0 0)
  obtain ⟨r0, r1⟩ := box2 k3
  refine bodyPost_ret (v := .tuple #[.agg #[.slice none 0 0, .slice none 0 0], .int .i64 E]) (by simp [results, Try.results14, go_sem, r0, r1]) rfl ?_
  exact ⟨none, 0, none, 0, rfl, Sl.empty, Sl.empty, ⟨Nat.le_refl _⟩, ⟨Nat.le_refl _⟩, Fre.none, Fre.none, ⟨B3⟩⟩

set_option maxRecDepth 100000 in
set_option maxHeartbeats 8000000 in
theorem mv_join_yes [a : Ts w A n us] [lc : Le n c] (hn : n ≤ 1000000) (hz : Hid (∀ t ∈ us, t.zs.length ≤ 1000000)) {nn P I Z : Nat} {S X : List Int} (hE : Hid (jnE nn us = 0)) (HJW : Hid (JW nn P I Z S)) (hS : Hid (S = jnS nn us)) (hX : Hid (X = mvX P us P))
    (hP : Hid (P * rowS P us ≤ 65536)) (hall : Hid (∀ t ∈ us, P * (t.xs.length / P) = t.xs.length ∧ t.xs.length ≤ 65536)) :
    Calls Try.prog 14 #[.int .i64 nn, .slice A n c] w (RetTA w S X 0) := by
  have CB := @cell_bx
  have CP := @cell_prev
  have FB := @frozen_bx
  obtain ⟨r1, r4, rin, rpr⟩ := (rightB_iff S).1 HJW.out.right
  have RIN := Lib.hid rin
  have hnn := HJW.out.lt
  obtain ⟨N, hN, -, hN6⟩ := rightB_size HJW.out.right
  have HSV : Hid (sizeV S = (N : Int)) := Lib.hid (by rw [sizeV, if_pos HJW.out.right, hN])
  have HSE : Hid (sizeE S = 0) := Lib.hid (by rw [sizeE, if_pos HJW.out.right])
  have hS' : Hid (S = if (0 : Int) = 0 then jnS nn us else []) := Lib.hid (by rw [if_pos rfl]; exact hS.out)
  have hP1 := HJW.out.p1
  have hP6 : P ≤ 65536 := by
    have h1 := HJW.out.small
    have h2 : 1 * 1 ≤ Z * I := Nat.mul_le_mul HJW.out.z1 HJW.out.i1
    have h3 : P * 1 ≤ P * (Z * I) := Nat.mul_le_mul_left _ (by omega)
    omega
  clear rin rpr hN
  go_enter Try.func14, Try.ntmps14
  go_upto_region 8 with (first | (go_at_call 41; (try first | (with_reducible refine gen_boxK3 (fun u _ _ _ _ => ?_)) | (with_reducible refine gen_boxK2 (fun u _ _ _ => ?_)) | (with_reducible refine gen_boxK (fun u _ _ => ?_))); (with_reducible refine (mv_joined (by omega) hz hE hS').mono ?_); rintro e u ⟨A', c', rfl, sA, lA, fA, _⟩) | (go_at_call 42; (try first | (with_reducible refine gen_boxK3 (fun u _ _ _ _ => ?_)) | (with_reducible refine gen_boxK2 (fun u _ _ _ => ?_)) | (with_reducible refine gen_boxK (fun u _ _ => ?_))); (with_reducible refine (aS_size (by omega) HSV HSE).mono ?_); rintro e u ⟨rfl, _⟩))
  obtain ⟨AS, hsl, hrs⟩ := slice_to (P := Try.prog) 23 (by kernel_rfl) (by kernel_rfl) A' S.length c' nn (nn : Int) rfl (by omega) lA.le
  have sP : Sl u AS nn (S.take nn) := ⟨hrs u S rfl (inferInstance : Sl u A' S.length S).rd, by simp; omega⟩
  have RINP : Hid (inSides (S.take nn) = true) := Lib.hid (inSides_take RIN.out _)
  clear hrs
  go_wp2_with fail
  clear hsl
  go_loop [9, 40] (fun p i => ∃ k : Nat, k ≤ nn ∧ i = .int .i64 k ∧ p = .int .i64 (prodL ((S.take nn).take k))) (fun _ i => nn - (intOf i).toNat)
  case atStart => exact ⟨0, Nat.zero_le _, rfl, rfl⟩
  case round =>
    obtain ⟨k, hk, rfl, rfl⟩ := hrel
    obtain ⟨hp1, hp2⟩ := prodL_take_bd (S.take nn) RINP.out (by simp; omega) k
    by_cases hlt : k < nn
    · obtain ⟨b, off, z, rfl, ob, hc, hz'⟩ := sP.get hlt
      obtain ⟨hz1, hz2⟩ := inSides_get RINP.out hz'.out
      obtain ⟨hm1, hm2⟩ := mul_le_1024 hp1 hp2 hz1 hz2
      go_wp2_with fail
      go_round
      case rel => exact ⟨k + 1, by omega, by go_num, by rw [take_at hz'.out, prodL_snoc]⟩
      case measure => simp [intOf]; omega
    · have hpe : prodL ((S.take nn).take k) = (P : Int) := by rw [List.take_of_length_le (by simp; omega), HJW.out.ahead]
      rw [hpe]
      clear hp1 hp2 hpe
      have hmk := fun W => run_make_cap (P := Try.prog) 24 38 Try.underlying24 (by kernel_rfl) N (by omega) W
      go_wp2_with fail
      clear hmk
      go_loopw [12, 51] (fun v i wr => ∃ (j : Nat) (A2 : Option Addr) (c2 : Nat) (L : List Int), j ≤ P ∧ i = .int .i64 j ∧ v = .slice A2 L.length c2 ∧ OwnA wr u.heap.size 38 A2 c2 L ∧ Hid (L = mvX P us j) ∧ Prev wr u) (fun _ i _ => P - (intOf i).toNat)
      case atStart => exact ⟨0, _, _, [], Nat.zero_le _, rfl, rfl, own_made _ _ _ (by omega), Lib.hid rfl, prev_bel _ _⟩
      case round =>
        obtain ⟨j, A2, c2, L, hj, rfl, rfl, ho, HL, hp⟩ := hrel
        by_cases hltj : j < P
        · obtain ⟨wo, rfl⟩ : ∃ wo : World, wo = wr := ⟨_, rfl⟩
          go_wp2_with fail
          go_loopw [12, 56] (fun v i wr => ∃ (m : Nat) (A2 : Option Addr) (c2 : Nat) (L : List Int), m ≤ n ∧ i = .int .i64 m ∧ v = .slice A2 L.length c2 ∧ OwnA wr u.heap.size 38 A2 c2 L ∧ Hid (L = mvX P us j ++ mvPart P j us m) ∧ Prev wr u) (fun _ i _ => n - (intOf i).toNat)
          case atStart => exact ⟨0, A2, c2, L, Nat.zero_le _, rfl, rfl, ho, Lib.hid (by rw [HL.out]; simp [mvPart]), hp⟩
          case round =>
            clear ho HL
            obtain ⟨m, A2, c2, L, hm, rfl, rfl, ho, HL, hp2⟩ := hrel
            by_cases hltm : m < n
            · obtain ⟨b, o, A1, c1, z1, B1, d1, x1, rfl, ob, q0, q1, s1, t1, hd1, i1, ht⟩ := a.get hltm
              obtain ⟨R, hR⟩ : ∃ R, x1.length / P = R := ⟨_, rfl⟩
              have hxl : x1.length = P * R := by have := (hall.out _ (List.mem_of_getElem? ht.out)).1; simp only at this; rw [← hR]; exact this.symm
              obtain ⟨S1, hS1⟩ : ∃ S, j * R = S := ⟨_, rfl⟩
              have g1 : S1 + R ≤ x1.length := by rw [hxl, ← hS1, ← Nat.succ_mul]; exact Nat.mul_le_mul_right _ hltj
              have m1 : (j : Int) * (R : Int) = (S1 : Int) := by rw [← hS1, Int.natCast_mul]
              have m3 : ((j : Int) + 1) * (R : Int) = (S1 : Int) + R := by rw [Int.add_mul, m1, Int.one_mul]
              have m5 : (x1.length : Int) / (P : Int) = (R : Int) := by rw [← hR, Int.natCast_ediv]
              have hLl : L.length ≤ 131072 := by
                have h1 := mvX_len P us j
                have h2 := mvPart_len P j us m
                have h3 : (j + 1) * rowS P us ≤ P * rowS P us := Nat.mul_le_mul_right _ hltj
                have h4 := hP.out
                rw [Nat.succ_mul] at h3
                rw [HL.out, List.length_append]; omega
              have hx6 : x1.length ≤ 65536 := (hall.out _ (List.mem_of_getElem? ht.out)).2
              obtain ⟨A3, hsl3, hrs3⟩ := slice_part (P := Try.prog) 24 (by kernel_rfl) (by kernel_rfl) B1 x1.length d1 S1 (S1 + R) (S1 : Int) ((S1 : Int) + R) (by omega) (by omega) (by omega) (by omega) hd1
              rw [Nat.add_sub_cancel_left] at hsl3 hrs3
              have l3 : ((x1.drop S1).take R).length = R := by simp; omega
              have HROW : Hid (mvRow P j x1 = (x1.drop S1).take R) := Lib.hid (by rw [mvRow, hR, hS1])
              have Q3 := hrs3 _ x1 rfl t1.rd
              have HXL := Lib.hid hxl
              have HS1 := Lib.hid hS1
              have HR := Lib.hid hR
              clear hrs3 hxl hS1 hR
              go_wp2_with (at_builtin; refine wpList_appendA rfl (.tmp 65) (.tmp 75) 24 rfl 38 Try.underlying24 (by kernel_rfl) u.heap.size A2 c2 L rfl (ho.alloc _) A3 R _ ((x1.drop S1).take R) l3 rfl Q3.at (by omega) (later_size (w := u)) ?_; intro A5 c5 w5 ho5 hb5 hfr5 hsz5; obtain ⟨L5, hL5⟩ : ∃ L5, L ++ (x1.drop S1).take R = L5 := ⟨_, rfl⟩; rw [hL5] at ho5 ⊢; have HL5 := Lib.hid hL5; clear hL5 hfr5)
              have p5 : Prev w5 u := ⟨(bel u _).trans hb5⟩
              go_roundw
              case rel => exact ⟨m + 1, A5, c5, L5, by omega, by go_num, rfl, ho5, Lib.hid (by rw [← HL5.out, HL.out, mvPart_succ ht.out, ← HROW.out, List.append_assoc]), p5⟩
              case measure => simp [intOf]; omega
            · have HN : Hid (m = us.length) := Lib.hid (by rw [← a.len]; omega)
              go_wp2_with fail
              go_roundw
              case rel => exact ⟨j + 1, A2, c2, L, by omega, by go_num, rfl, ho, Lib.hid (by rw [HL.out, mvX_succ, HN.out]), hp2⟩
              case measure => simp [intOf]; omega
        · obtain rfl : L = X := by rw [hX.out, HL.out, show j = P from by omega]
          have kR : Bx wr w.heap.size 26 #[.slice none 0 0, .slice none 0 0] := inferInstance
          have sX : Sl wr A2 L.length L := ⟨ho.rd, rfl⟩
          have fX := ho.fre
          have sS : Sl wr A' S.length S := inferInstance
          go_wp2_with fail
          have k3 := kR.blk.set2 (.slice A' S.length c') (.slice A2 L.length c2)
          have B3 := bset2 (bel w wr) (p := w.heap.size) (Nat.le_refl _) (.slice A' S.length c') (.slice A2 L.length c2)
          have sS2 := sS.far2 fA (Bx.blk (g := w.heap.size)).lt (.slice A' S.length c') (.slice A2 L.length c2)
          have sX2 := sX.far2 fX (Bx.blk (g := w.heap.size)).lt (.slice A' S.length c') (.slice A2 L.length c2)
          obtain ⟨r0, r1⟩ := box2 k3
          refine bodyPost_ret (v := .tuple #[.agg #[.slice A' S.length c', .slice A2 L.length c2], .int .i64 0]) (by simp [results, Try.results14, go_sem, r0, r1]) rfl ?_
          exact ⟨A', c', A2, c2, rfl, sS2, sX2, lA, ⟨ho.len_le⟩, fA.less later_size, fX.less later_size, ⟨B3⟩⟩
end

end Go.Proofs.Ytingmabmglpmaaa
