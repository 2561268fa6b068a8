/- The walks of frame.cell and frame.each: all products are handed on in their order. -/
import Derived.Test.YteibgdcieaiaiaaRange2
import Derived.Test.YteibgdcieaiaiaaConvMath
import Derived.Test.YteibgdcieaiaiaaAuto
namespace Go.Proofs.Yteibgdcieaiaiaa
open Go.RowKit

def frZ (f : CF) : List Int := [f.O, f.C, f.K, f.L, f.H, f.W, f.M, f.N, f.S, f.L, (f.K * f.L : Nat), (f.H * f.W : Nat)]
def frV (f : CF) : Value := .agg #[.int .i64 f.O, .int .i64 f.C, .int .i64 f.K, .int .i64 f.L, .int .i64 f.H, .int .i64 f.W, .int .i64 f.M, .int .i64 f.N, .int .i64 f.S, .int .i64 f.L, .int .i64 ((f.K * f.L : Nat) : Int), .int .i64 ((f.H * f.W : Nat) : Int)]
def triEnc (x : Tri) : Array Value := #[.agg #[.int .i64 x.1, .int .i64 x.2.1, .int .i64 x.2.2]]
/-- What the caller of an iterator's part owes. -/
def Hears (P : Program) (l n0 : Nat) (T : List Tri) (J Jx : List Tri → World → Prop) : Prop :=
  (∀ s A B, J s A → Below A.heap.size A B → J s B) ∧ (∀ s A B, Jx s A → Below A.heap.size A B → Jx s B) ∧
    ∀ pre x W1, J pre W1 → (∃ post, T = pre ++ x :: post) → YieldAt Fence.wide 1 P l (triEnc x) W1 fun e W' =>
      (e = .returned (.bool true) ∧ J (pre ++ [x]) W' ∧ HeldN n0 W1 W') ∨ (e = .returned (.bool false) ∧ Jx (pre ++ [x]) W')
def HearPost (n0 : Nat) (T : List Tri) (J Jx : List Tri → World → Prop) (all : List Tri) (w : World) (e : Ending) (W' : World) : Prop :=
  (e = .returned (.bool true) ∧ J all W' ∧ HeldN n0 w W') ∨ (e = .returned (.bool false) ∧ ∃ pre, (∃ post, T = pre ++ post) ∧ Jx pre W')

set_option maxRecDepth 100000 in
set_option maxHeartbeats 8000000 in
theorem cell_tells (f : CF) (hf : Hid (CFok f)) (p i j : Nat) (hp : p < f.O) (hi : i < f.M) (hj : j < f.N) (l n0 : Nat) (T pre0 : List Tri) (hT : Hid (∃ post0, T = pre0 ++ (f.cT p i j ++ post0))) (J Jx : List Tri → World → Prop) (w : World)
    (hh : Hid (Hears Try.prog l n0 T J Jx)) (hn : n0 ≤ w.heap.size) (h0 : J pre0 w) :
    CallsIn Fence.wide 2 Try.prog 87 #[frV f, .int .i64 p, .int .i64 i, .int .i64 j, .func (.yield l) #[] #[]] w (HearPost n0 T J Jx (pre0 ++ f.cT p i j) w) := by
  have k1 := hf.out.k1
  have l1 := hf.out.l1
  have c1 := hf.out.c1
  have n1 := hf.out.n1
  have s2 := hf.out.s2
  have ow := hf.out.ow
  have ox := hf.out.ox
  have oy := hf.out.oy
  have hfh := hf.out.h i hi
  have hfw := hf.out.w j hj
  have CB := @cell_bx
  obtain ⟨KL, hKL⟩ : ∃ KL, f.K * f.L = KL := ⟨_, rfl⟩
  obtain ⟨HW, hHW⟩ : ∃ HW, f.H * f.W = HW := ⟨_, rfl⟩
  obtain ⟨A1, hA1⟩ : ∃ A1, p * f.M = A1 := ⟨_, rfl⟩
  obtain ⟨A2, hA2⟩ : ∃ A2, (A1 + i) * f.N = A2 := ⟨_, rfl⟩
  obtain ⟨B1, hB1⟩ : ∃ B1, i * f.S = B1 := ⟨_, rfl⟩
  obtain ⟨B2, hB2⟩ : ∃ B2, B1 * f.W = B2 := ⟨_, rfl⟩
  obtain ⟨B3, hB3⟩ : ∃ B3, j * f.S = B3 := ⟨_, rfl⟩
  obtain ⟨D1, hD1⟩ : ∃ D1, p * f.C = D1 := ⟨_, rfl⟩
  obtain ⟨PL, hPL⟩ : ∃ PL, A2 + j = PL := ⟨_, rfl⟩
  obtain ⟨CO, hCO⟩ : ∃ CO, B2 + B3 = CO := ⟨_, rfl⟩
  have bPL : PL < f.O * (f.M * f.N) := by
    have := place_lt hp hi hj
    unfold CF.place at this
    rw [hA1, hA2, hPL] at this
    exact this
  have bA1 : A1 + i ≤ A2 := by rw [← hA2]; exact Nat.le_mul_of_pos_right _ n1
  have w1 : 1 ≤ f.W := by omega
  have bW : f.H ≤ HW ∧ f.W ≤ HW := ⟨by rw [← hHW]; exact Nat.le_mul_of_pos_right _ w1, by rw [← hHW]; exact Nat.le_mul_of_pos_left _ (by omega)⟩
  have bHW : HW ≤ 65536 := by
    have : 1 * HW ≤ f.C * HW := Nat.mul_le_mul_right _ c1
    rw [hHW] at ox
    omega
  have bB2 : B2 ≤ HW := by rw [← hB2, ← hHW]; exact Nat.mul_le_mul_right _ (by omega)
  have bKL : KL ≤ 65536 ∧ f.O * f.C ≤ 65536 ∧ 1 ≤ KL ∧ f.C ≤ 65536 := by
    have hkl : 1 ≤ KL := by rw [← hKL]; exact Nat.mul_pos k1 l1
    rw [hKL, ← Nat.mul_assoc] at ow
    have e1 : 1 * KL ≤ f.O * f.C * KL := Nat.mul_le_mul_right _ (Nat.mul_pos (by omega) c1)
    have e2 : f.O * f.C * 1 ≤ f.O * f.C * KL := Nat.mul_le_mul_left _ hkl
    have e3 : 1 * f.C ≤ f.O * f.C := Nat.mul_le_mul_right _ (by omega)
    omega
  have bK : f.K ≤ KL ∧ f.L ≤ KL := ⟨by rw [← hKL]; exact Nat.le_mul_of_pos_right _ l1, by rw [← hKL]; exact Nat.le_mul_of_pos_left _ k1⟩
  have bD1 : D1 ≤ 65536 := by
    have : p * f.C ≤ f.O * f.C := Nat.mul_le_mul_right _ (Nat.le_of_lt hp)
    omega
  have bp : p ≤ 65536 ∧ i ≤ 65536 ∧ j ≤ 65536 := by
    have e1 : 1 * f.C ≤ f.O * f.C := Nat.mul_le_mul_right _ (by omega)
    have e2 : f.O * 1 ≤ f.O * f.C := Nat.mul_le_mul_left _ c1
    omega
  have m1 : (p : Int) * (f.M : Int) = (A1 : Int) := by rw [← hA1, Int.natCast_mul]
  have m2 : ((A1 : Int) + (i : Int)) * (f.N : Int) = (A2 : Int) := by rw [← hA2, Int.natCast_mul, Int.natCast_add]
  have m3 : (A2 : Int) + (j : Int) = (PL : Int) := by rw [← hPL, Int.natCast_add]
  have m4 : (i : Int) * (f.S : Int) = (B1 : Int) := by rw [← hB1, Int.natCast_mul]
  have m5 : (B1 : Int) * (f.W : Int) = (B2 : Int) := by rw [← hB2, Int.natCast_mul]
  have m6 : (j : Int) * (f.S : Int) = (B3 : Int) := by rw [← hB3, Int.natCast_mul]
  have m7 : (B2 : Int) + (B3 : Int) = (CO : Int) := by rw [← hCO, Int.natCast_add]
  have m8 : (p : Int) * (f.C : Int) = (D1 : Int) := by rw [← hD1, Int.natCast_mul]
  have bPL2 : PL ≤ 65536 ∧ A2 ≤ 65536 := by omega
  have bB : B1 ≤ f.H ∧ B3 ≤ f.W ∧ CO ≤ 131072 := by omega
  rw [show frV f = .agg #[.int .i64 f.O, .int .i64 f.C, .int .i64 f.K, .int .i64 f.L, .int .i64 f.H, .int .i64 f.W, .int .i64 f.M, .int .i64 f.N, .int .i64 f.S, .int .i64 f.L, .int .i64 KL, .int .i64 HW] from by rw [frV, hKL, hHW]]
  have HPL : Hid (f.place p i j = PL) := Lib.hid (by rw [CF.place, hA1, hA2, hPL])
  have HWT : Hid (∀ q t u, f.wt p q t u = (D1 + q) * KL + t * f.L + u) := Lib.hid fun q t u => by rw [CF.wt, hD1, hKL]
  have HFR : Hid (∀ q t u, f.frm i j q t u = q * HW + CO + t * f.W + u) := Lib.hid fun q t u => by rw [CF.frm, hB1, hB2, hB3, hHW, hCO]
  have HOW : Hid (f.O * (f.C * KL) ≤ 65536) := Lib.hid (by rw [← hKL]; exact ow)
  have HOX : Hid (f.C * HW ≤ 65536) := Lib.hid (by rw [← hHW]; exact ox)
  have HKL := Lib.hid hKL
  have HHW := Lib.hid hHW
  have HD1 := Lib.hid hD1
  clear hKL hHW hA1 hA2 hB1 hB2 hB3 hD1 hPL hCO ow ox oy hfh hfw bPL
  refine callsIn_of_wp Try.func87 rfl trivial ?_
  simp only [Try.ntmps87, List.size_toArray, List.length_cons, List.length_nil, Nat.reduceAdd, Nat.reduceSub, Array.replicate_succ, Array.replicate_zero, List.push_toArray, List.append_toArray, List.nil_append, List.cons_append]
  gi_wp2
  gi_loopw [46] (fun v wr => ∃ q : Nat, q ≤ f.C ∧ v = .int .i64 q ∧ J (pre0 ++ f.qT p i j q) wr ∧ Bx wr w.heap.size 101 #[.int .i64 f.O, .int .i64 f.C, .int .i64 f.K, .int .i64 f.L, .int .i64 f.H, .int .i64 f.W, .int .i64 f.M, .int .i64 f.N, .int .i64 f.S, .int .i64 f.L, .int .i64 KL, .int .i64 HW] ∧ HeldN n0 w wr) (fun v _ => f.C - (intOf v).toNat)
  case atStart => exact ⟨0, Nat.zero_le _, rfl, by rw [show f.qT p i j 0 = [] from rfl, List.append_nil]; exact hh.out.1 _ _ _ h0 (below_alloc _ _), inferInstance, HeldN.below (below_alloc _ _)⟩
  case round =>
    obtain ⟨q, hq, rfl, hJ, hB, hH⟩ := hrel
    by_cases hlq : q < f.C
    · obtain ⟨D2, hD2⟩ : ∃ D2, (D1 + q) * KL = D2 := ⟨_, rfl⟩
      obtain ⟨E1, hE1⟩ : ∃ E1, q * HW = E1 := ⟨_, rfl⟩
      have bDq : D1 + q < f.O * f.C := by rw [← HD1.out]; exact lex_lt hp hlq
      have bD2 : D2 + KL ≤ 65536 := by
        have e1 : (D1 + q + 1) * KL ≤ f.O * f.C * KL := Nat.mul_le_mul_right _ bDq
        have e2 := HOW.out
        rw [← Nat.mul_assoc] at e2
        rw [Nat.succ_mul, hD2] at e1
        omega
      have bE1 : E1 ≤ 65536 := by
        have e1 : q * HW ≤ f.C * HW := Nat.mul_le_mul_right _ hq
        have e2 := HOX.out
        omega
      have m9 : ((D1 : Int) + (q : Int)) * (KL : Int) = (D2 : Int) := by rw [← hD2, Int.natCast_mul, Int.natCast_add]
      have m10 : (q : Int) * (HW : Int) = (E1 : Int) := by rw [← hE1, Int.natCast_mul]
      have HD2 := Lib.hid hD2
      have HE1 := Lib.hid hE1
      clear hD2 hE1
      gi_wp2
      gi_loopw [61] (fun v wr => ∃ t : Nat, t ≤ f.K ∧ v = .int .i64 t ∧ J (pre0 ++ (f.qT p i j q ++ f.tT p i j q t)) wr ∧ Bx wr w.heap.size 101 #[.int .i64 f.O, .int .i64 f.C, .int .i64 f.K, .int .i64 f.L, .int .i64 f.H, .int .i64 f.W, .int .i64 f.M, .int .i64 f.N, .int .i64 f.S, .int .i64 f.L, .int .i64 KL, .int .i64 HW] ∧ HeldN n0 w wr) (fun v _ => f.K - (intOf v).toNat)
      case atStart => exact ⟨0, Nat.zero_le _, rfl, by rw [show f.tT p i j q 0 = [] from rfl, List.append_nil]; exact hJ, hB, hH⟩
      case round =>
        clear hJ hB hH
        obtain ⟨t, ht, rfl, hJ, hB, hH⟩ := hrel
        by_cases hlt : t < f.K
        · obtain ⟨E2, hE2⟩ : ∃ E2, t * f.W = E2 := ⟨_, rfl⟩
          obtain ⟨F1, hF1⟩ : ∃ F1, t * f.L = F1 := ⟨_, rfl⟩
          obtain ⟨FR, hFR⟩ : ∃ FR, E1 + CO + E2 = FR := ⟨_, rfl⟩
          obtain ⟨G1, hG1⟩ : ∃ G1, D2 + F1 = G1 := ⟨_, rfl⟩
          have bE2 : E2 ≤ 131072 := by
            have hf1 := hf.out.h i hi
            have e1 : t * f.W ≤ f.H * f.W := Nat.mul_le_mul_right _ (by omega)
            rw [HHW.out] at e1
            omega
          have bF1 : F1 + f.L ≤ KL := by
            have e1 : (t + 1) * f.L ≤ f.K * f.L := Nat.mul_le_mul_right _ hlt
            rw [Nat.succ_mul, hF1, HKL.out] at e1
            exact e1
          have m11 : (t : Int) * (f.W : Int) = (E2 : Int) := by rw [← hE2, Int.natCast_mul]
          have m12 : (E1 : Int) + (CO : Int) + (E2 : Int) = (FR : Int) := by rw [← hFR, Int.natCast_add, Int.natCast_add]
          have m13 : (t : Int) * (f.L : Int) = (F1 : Int) := by rw [← hF1, Int.natCast_mul]
          have m14 : (D2 : Int) + (F1 : Int) = (G1 : Int) := by rw [← hG1, Int.natCast_add]
          have bFR : FR ≤ 1000000 := by omega
          have bG1 : G1 + f.L ≤ 65536 := by omega
          have HX : Hid (∀ u, f.tri p i j q t u = (PL, G1 + u, FR + u)) := Lib.hid fun u => by
            rw [CF.tri, HPL.out, HWT.out, HFR.out, HD2.out, HE1.out, hE2, hF1, hFR, hG1]
          clear hE2 hF1 hFR hG1
          gi_wp2
          gi_loopw [78] (fun v wr => ∃ u : Nat, u ≤ f.L ∧ v = .int .i64 u ∧ J (pre0 ++ (f.qT p i j q ++ (f.tT p i j q t ++ f.uT p i j q t u))) wr ∧ Bx wr w.heap.size 101 #[.int .i64 f.O, .int .i64 f.C, .int .i64 f.K, .int .i64 f.L, .int .i64 f.H, .int .i64 f.W, .int .i64 f.M, .int .i64 f.N, .int .i64 f.S, .int .i64 f.L, .int .i64 KL, .int .i64 HW] ∧ HeldN n0 w wr) (fun v _ => f.L - (intOf v).toNat)
          case atStart => exact ⟨0, Nat.zero_le _, rfl, by rw [show f.uT p i j q t 0 = [] from rfl, List.append_nil]; exact hJ, hB, hH⟩
          case round =>
            clear hJ hB hH
            obtain ⟨u, hu, rfl, hJ, hB, hH⟩ := hrel
            by_cases hlu : u < f.L
            · obtain ⟨post0, hT0⟩ := hT.out
              obtain ⟨post, hT1⟩ := cell_split hT0 hlq hlt hlu
              obtain ⟨WT, hWT⟩ : ∃ WT, G1 + u = WT := ⟨_, rfl⟩
              obtain ⟨FM, hFM⟩ : ∃ FM, FR + u = FM := ⟨_, rfl⟩
              have hx := HX.out u
              rw [hWT, hFM] at hx
              rw [hx] at hT1
              have m15 : (G1 : Int) + (u : Int) = (WT : Int) := by rw [← hWT, Int.natCast_add]
              have m16 : (FR : Int) + (u : Int) = (FM : Int) := by rw [← hFM, Int.natCast_add]
              have bWT : WT ≤ 65536 := by omega
              have bFM : FM ≤ 2000000 := by omega
              obtain ⟨fn, tmps, assign, body, hy, hR⟩ := hh.out.2.2 _ (PL, WT, FM) wr hJ ⟨post, hT1⟩
              simp only [triEnc] at hy
              have HX1 := Lib.hid hx
              have HT1 := Lib.hid hT1
              clear hx hT1 hT0 hWT hFM
              gi_wp2
              refine hR.mono ?_
              rintro e W' (⟨rfl, hJ', hk⟩ | ⟨rfl, hJx'⟩)
              · gi_wp2
                go_roundw
                case rel => exact ⟨u + 1, by omega, by go_num, by rw [uT_succ, HX1.out]; simpa using hJ', ⟨hk.blk hB.blk hn⟩, hH.trans hk⟩
                case measure => simp [intOf]; omega
              · gi_wp2
                go_ret
                exact .inr ⟨rfl, _, ⟨post, by rw [HT1.out]; simp⟩, hJx'⟩
            · obtain rfl : u = f.L := by omega
              gi_wp2
              go_roundw
              case rel => exact ⟨t + 1, by omega, by go_num, by rw [tT_succ]; exact hJ, hB, hH⟩
              case measure => simp [intOf]; omega
        · obtain rfl : t = f.K := by omega
          gi_wp2
          go_roundw
          case rel => exact ⟨q + 1, by omega, by go_num, by rw [qT_succ]; exact hJ, hB, hH⟩
          case measure => simp [intOf]; omega
    · obtain rfl : q = f.C := by omega
      gi_wp2
      go_ret
      exact .inl ⟨rfl, hJ, hH⟩

def ConvPx (T pre : List Tri) (x : Tri) : Prop := ∃ post, T = pre ++ x :: post
def ConvSp (T pre : List Tri) : Prop := ∃ post, T = pre ++ post
set_option maxRecDepth 100000 in
set_option maxHeartbeats 8000000 in
theorem each_told (f : CF) (hf : Hid (CFok f)) (w : World) : ToldN Try.prog 71 #[frV f] #[] triEnc (ConvPx f.all) (fun xs => xs = f.all) (ConvSp f.all) w := by
  intro l J Jx W hb hJ hJx hY h0
  have HH : Hid (Hears Try.prog l W.heap.size f.all J Jx) := Lib.hid ⟨hJ, hJx, fun pre x W1 h1 h2 => hY pre x W1 h1 h2⟩
  have ow := hf.out.ow
  have ox := hf.out.ox
  have oy := hf.out.oy
  have o1 := hf.out.o1
  have c1 := hf.out.c1
  have k1 := hf.out.k1
  have l1 := hf.out.l1
  have m1 := hf.out.m1
  have n1 := hf.out.n1
  have CB := @cell_bx
  obtain ⟨KL, hKL⟩ : ∃ KL, f.K * f.L = KL := ⟨_, rfl⟩
  obtain ⟨HW, hHW⟩ : ∃ HW, f.H * f.W = HW := ⟨_, rfl⟩
  have hfr : frV f = .agg #[.int .i64 f.O, .int .i64 f.C, .int .i64 f.K, .int .i64 f.L, .int .i64 f.H, .int .i64 f.W, .int .i64 f.M, .int .i64 f.N, .int .i64 f.S, .int .i64 f.L, .int .i64 KL, .int .i64 HW] := by rw [frV, hKL, hHW]
  have bO : f.O ≤ 65536 ∧ f.M ≤ 65536 ∧ f.N ≤ 65536 := by
    have e1 : f.O * 1 ≤ f.O * (f.M * f.N) := Nat.mul_le_mul_left _ (Nat.mul_pos m1 n1)
    have e2 : 1 * (f.M * f.N) ≤ f.O * (f.M * f.N) := Nat.mul_le_mul_right _ o1
    have e3 : f.M * 1 ≤ f.M * f.N := Nat.mul_le_mul_left _ n1
    have e4 : 1 * f.N ≤ f.M * f.N := Nat.mul_le_mul_right _ m1
    omega
  have CC := Lib.hid fun p i j hp hi hj pre0 hT w1 hn h0 => cell_tells f hf p i j hp hi hj l W.heap.size f.all pre0 hT J Jx w1 HH hn h0
  rw [hfr] at CC
  have HFR := Lib.hid hfr
  clear hKL hHW hfr ow ox oy hY
  refine callsIn_of_wp Try.func71 rfl trivial ?_
  rw [HFR.out]
  simp only [Try.ntmps71, List.size_toArray, List.length_cons, List.length_nil, Nat.reduceAdd, Nat.reduceSub, Array.replicate_succ, Array.replicate_zero, List.push_toArray, List.append_toArray, List.nil_append, List.cons_append]
  gi_wp2
  gi_loopw [9] (fun v wr => ∃ p : Nat, p ≤ f.O ∧ v = .int .i64 p ∧ J (f.pT p) wr ∧ Bx wr W.heap.size 101 #[.int .i64 f.O, .int .i64 f.C, .int .i64 f.K, .int .i64 f.L, .int .i64 f.H, .int .i64 f.W, .int .i64 f.M, .int .i64 f.N, .int .i64 f.S, .int .i64 f.L, .int .i64 KL, .int .i64 HW]) (fun v _ => f.O - (intOf v).toNat)
  case atStart => exact ⟨0, Nat.zero_le _, rfl, hJ _ _ _ h0 (below_alloc _ _), inferInstance⟩
  case round =>
    obtain ⟨p, hp, rfl, hJp, hB⟩ := hrel
    by_cases hlp : p < f.O
    · gi_wp2
      gi_loopw [15] (fun v wr => ∃ i : Nat, i ≤ f.M ∧ v = .int .i64 i ∧ J (f.pT p ++ f.iT p i) wr ∧ Bx wr W.heap.size 101 #[.int .i64 f.O, .int .i64 f.C, .int .i64 f.K, .int .i64 f.L, .int .i64 f.H, .int .i64 f.W, .int .i64 f.M, .int .i64 f.N, .int .i64 f.S, .int .i64 f.L, .int .i64 KL, .int .i64 HW]) (fun v _ => f.M - (intOf v).toNat)
      case atStart => exact ⟨0, Nat.zero_le _, rfl, by rw [show f.iT p 0 = [] from rfl, List.append_nil]; exact hJp, hB⟩
      case round =>
        clear hJp hB
        obtain ⟨i, hi, rfl, hJp, hB⟩ := hrel
        by_cases hli : i < f.M
        · gi_wp2
          gi_loopw [21] (fun v wr => ∃ j : Nat, j ≤ f.N ∧ v = .int .i64 j ∧ J (f.pT p ++ (f.iT p i ++ f.jT p i j)) wr ∧ Bx wr W.heap.size 101 #[.int .i64 f.O, .int .i64 f.C, .int .i64 f.K, .int .i64 f.L, .int .i64 f.H, .int .i64 f.W, .int .i64 f.M, .int .i64 f.N, .int .i64 f.S, .int .i64 f.L, .int .i64 KL, .int .i64 HW]) (fun v _ => f.N - (intOf v).toNat)
          case atStart => exact ⟨0, Nat.zero_le _, rfl, by rw [show f.jT p i 0 = [] from rfl, List.append_nil]; exact hJp, hB⟩
          case round =>
            clear hJp hB
            obtain ⟨j, hj, rfl, hJp, hB⟩ := hrel
            by_cases hlj : j < f.N
            · have hsz : W.heap.size ≤ wr.heap.size := Nat.le_of_lt hB.blk.lt
              have hs := each_split hlp hli hlj
              gi_wp2
              refine ⟨trivial, (callsIn_wide.2 (callsIn_wide.1 (CC.out p i j hlp hli hlj _ (Lib.hid hs) wr hsz hJp))).mono ?_⟩
              rintro e W' (⟨rfl, hJ', hk⟩ | ⟨rfl, pre, hpre, hJx'⟩)
              · gi_wp2
                go_roundw
                case rel => exact ⟨j + 1, by omega, by go_num, by rw [jT_succ]; simpa using hJ', ⟨hk.blk hB.blk (Nat.le_refl _)⟩⟩
                case measure => simp [intOf]; omega
              · gi_wp2
                refine bodyPost_ret (results_none rfl _ _ _) rfl ?_
                exact ⟨⟨_, rfl⟩, .inr ⟨pre, hpre, hJx'⟩⟩
            · obtain rfl : j = f.N := by omega
              gi_wp2
              go_roundw
              case rel => exact ⟨i + 1, by omega, by go_num, by rw [iT_succ]; exact hJp, hB⟩
              case measure => simp [intOf]; omega
        · obtain rfl : i = f.M := by omega
          gi_wp2
          go_roundw
          case rel => exact ⟨p + 1, by omega, by go_num, by rw [pT_succ]; exact hJp, hB⟩
          case measure => simp [intOf]; omega
    · obtain rfl : p = f.O := by omega
      gi_wp2
      go_end0
      exact ⟨⟨_, rfl⟩, .inl ⟨_, rfl, hJp⟩⟩

end Go.Proofs.Yteibgdcieaiaiaa
