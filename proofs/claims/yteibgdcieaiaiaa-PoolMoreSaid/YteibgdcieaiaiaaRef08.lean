/- The walks of the references of windows and of pooling. -/
import Derived.Test.YteibgdcieaiaiaaPool4
import Derived.Test.YteibgdcieaiaiaaRef01Div
import Derived.Test.YteibgdcieaiaiaaPush
namespace Go.Proofs.Yteibgdcieaiaiaa
open Go.RowKit

section
variable {w : World} {A B : Option Addr} {n m c d : Nat} {zs xs : List Int}
theorem aS_at {b off : Nat} [s : Sl w (some ⟨b, off, none⟩) m xs] {k : Nat} {z : Int} (h : xs[k]? = some z) : w.cell? ⟨b, off + k, none⟩ = some (.int .i64 z) := s.rd.all h
set_option maxHeartbeats 2000000 in
theorem r7_window {a b c : Int} : Calls Try.prog 49 #[.int .i64 a, .int .i64 b, .int .i64 c] w (RetV w (.int .i64 (winV a b c))) := by
  by_cases hok : winOk a b c = true
  rotate_left
  · have HV : Hid (winV a b c = 0) := Lib.hid (by simp [winV, hok])
    simp only [winOk, Bool.and_eq_true, decide_eq_true_eq, and_assoc] at hok
    by_cases h1 : a < 1
    · clear hok
      go_enter Try.func49, Try.ntmps49
      go_wp2_with fail
      go_ret
      exact ⟨by rw [HV.out]; rfl, prev_bel _ _⟩
    by_cases h2 : b < 1
    · clear hok
      go_enter Try.func49, Try.ntmps49
      go_wp2_with fail
      go_ret
      exact ⟨by rw [HV.out]; rfl, prev_bel _ _⟩
    by_cases h3 : c < 1
    · clear hok
      go_enter Try.func49, Try.ntmps49
      go_wp2_with fail
      go_ret
      exact ⟨by rw [HV.out]; rfl, prev_bel _ _⟩
    by_cases h4 : 1024 < a
    · clear hok
      go_enter Try.func49, Try.ntmps49
      go_wp2_with fail
      go_ret
      exact ⟨by rw [HV.out]; rfl, prev_bel _ _⟩
    by_cases h5 : 1024 < b
    · clear hok
      go_enter Try.func49, Try.ntmps49
      go_wp2_with fail
      go_ret
      exact ⟨by rw [HV.out]; rfl, prev_bel _ _⟩
    by_cases h6 : 1024 < c
    · clear hok
      go_enter Try.func49, Try.ntmps49
      go_wp2_with fail
      go_ret
      exact ⟨by rw [HV.out]; rfl, prev_bel _ _⟩
    have h7 : a < b := by omega
    clear hok
    go_enter Try.func49, Try.ntmps49
    go_wp2_with fail
    go_ret
    exact ⟨by rw [HV.out]; rfl, prev_bel _ _⟩
  have hok' := hok
  simp only [winOk, Bool.and_eq_true, decide_eq_true_eq, and_assoc] at hok'
  obtain ⟨Z, rfl⟩ := Int.eq_ofNat_of_zero_le (show 0 ≤ a by omega)
  obtain ⟨W, rfl⟩ := Int.eq_ofNat_of_zero_le (show 0 ≤ b by omega)
  obtain ⟨S, rfl⟩ := Int.eq_ofNat_of_zero_le (show 0 ≤ c by omega)
  obtain ⟨N, e, n1, w1, s1, w2, s2, z2, fit, most, nZ⟩ := win_nats hok
  rw [e]
  have hWZ : W ≤ Z := by omega
  have HF := Lib.hid fit
  have HM := Lib.hid most
  clear hok hok' e fit most
  go_enter Try.func49, Try.ntmps49
  go_wp2_with fail
  go_loop [7, 8] (fun k t => ∃ i T : Nat, i ≤ N ∧ k = .int .i64 i ∧ t = .int .i64 T ∧ T ≤ 3000 ∧ Hid (i * S = T)) (fun k _ => N - (intOf k).toNat)
  case atStart => exact ⟨0, 0, Nat.zero_le _, rfl, rfl, by omega, Lib.hid (by simp)⟩
  case round =>
    obtain ⟨i, T, hi, rfl, rfl, hT, HT⟩ := hrel
    by_cases hlt : i < N
    · have hfit : T + W ≤ Z := by have := HF.out i hlt; rw [HT.out] at this; exact this
      go_wp2_with fail
      go_round
      case rel => exact ⟨i + 1, T + S, by omega, by go_num, by go_num, by omega, Lib.hid (by rw [Nat.succ_mul, HT.out])⟩
      case measure => simp [intOf]; omega
    · obtain rfl : i = N := by omega
      have hfit : Z < T + W := by have := HM.out; rw [HT.out] at this; exact this
      go_wp2_with fail
      go_ret
      exact ⟨rfl, prev_bel _ _⟩
theorem fint_small {W : Nat} (h : W ≤ 1024) : fint (W : Int) = (W : Int) * 4294967296 := by
  unfold fint clampI
  rw [if_neg (by omega), if_neg (by omega)]
theorem a1_div {x y : Int} [a : I6 x] [b : I6 y] : Calls Try.prog 82 #[.int .i64 x, .int .i64 y] w (RetV w (.int .i64 (fdiv x y))) := retBel (r1_div x y w a.bd b.bd)
set_option maxHeartbeats 1000000 in
theorem r8_div {x : Int} [a : I6 x] {W : Nat} (hW : W ≤ 1024) : Calls Try.prog 67 #[.int .i64 x, .int .i64 W] w (RetV w (.int .i64 (fdiv x (fint W)))) := by
  have hy : I6 ((W : Int) * 4294967296) := ⟨by unfold I64; omega⟩
  rw [fint_small hW]
  go_enter Try.func67, Try.ntmps67
  go_wp2_with (first | (go_at_call 82; (try first | (with_reducible refine gen_boxK3 (fun u _ _ _ _ => ?_)) | (with_reducible refine gen_boxK2 (fun u _ _ _ => ?_)) | (with_reducible refine gen_boxK (fun u _ _ => ?_))); (with_reducible refine (a1_div).mono ?_); rintro e u ⟨rfl, _⟩))
  go_ret
  exact ⟨rfl, prev_bel _ _⟩
/-- What the windows of one row lead to. -/
def rowV (kind : Int) (W S N : Nat) (row : List Int) : List Int := (List.range N).map fun j => poolV kind W ((row.drop (j * S)).take W)
theorem rowV_succ {kind : Int} {W S N : Nat} {row : List Int} : rowV kind W S (N + 1) row = rowV kind W S N row ++ [poolV kind W ((row.drop (N * S)).take W)] := by simp [rowV, List.range_succ]
theorem rowV_length {kind : Int} {W S N : Nat} {row : List Int} : (rowV kind W S N row).length = N := by simp [rowV]
theorem foldl_max_self {x : Int} {l : List Int} (h : l[0]? = some x) : l.foldl max x = mxL l := by
  cases l with
  | nil => simp at h
  | cons y l =>
    simp only [List.getElem?_cons_zero, Option.some.injEq] at h
    subst h
    simp [mxL]
theorem max_snoc {x v B : Int} {l : List Int} {q : Nat} (hv : l[q]? = some v) (hB : (l.take q).foldl max x = B) : (l.take (q + 1)).foldl max x = if B < v then v else B := by
  rw [take_at hv, List.foldl_append, hB]
  simp only [List.foldl_cons, List.foldl_nil]
  split <;> omega
set_option maxRecDepth 100000 in
set_option maxHeartbeats 4000000 in
theorem r8_row {kind : Int} {row : List Int} {W S N Z : Nat} [a : Sl w A Z row] [i6 : I6s row] (hZ : Z ≤ 1024) (hW : 1 ≤ W) (hW2 : W ≤ 1024) (hS : 1 ≤ S) (hS2 : S ≤ 1024) (hN : N ≤ 1024) (HF : Hid (∀ j, j < N → j * S + W ≤ Z)) (HM : Hid (Z < N * S + W)) :
    Calls Try.prog 39 #[.int .i64 kind, .slice A Z c, .int .i64 W, .int .i64 S] w (RetS w (rowV kind W S N row)) := by
  have CP := @cell_prev
  go_enter Try.func39, Try.ntmps39
  go_wp2_with fail
  go_loopw [9, 10] (fun v t wr => ∃ (j T : Nat) (A' : Option Addr) (c' : Nat) (L : List Int), j ≤ N ∧ t = .int .i64 T ∧ Hid (j * S = T) ∧ T ≤ 2048 ∧ v = .slice A' L.length c' ∧ Hid (L = rowV kind W S j row) ∧ OwnA wr w.heap.size 2 A' c' L ∧ Prev wr w) (fun _ t _ => 4000 - (intOf t).toNat)
  case atStart => exact ⟨0, 0, none, 0, [], Nat.zero_le _, rfl, Lib.hid (by simp), by omega, rfl, Lib.hid rfl, OwnA.nil _ _ _, prev_bel _ _⟩
  case round =>
    obtain ⟨j, T, A', c', L, hj, rfl, HT, hT, rfl, HL, hown, hp⟩ := hrel
    have hLl : L.length ≤ 1024 := by rw [HL.out, rowV_length]; omega
    by_cases hlt : j < N
    · have hfit : T + W ≤ Z := by have := HF.out j hlt; rw [HT.out] at this; exact this
      obtain ⟨b, off, x0, rfl, ob, c0, h0⟩ := a.get (k := T) (by omega)
      obtain ⟨Lw, HLw⟩ : ∃ Lw, Hid ((row.drop T).take W = Lw) := ⟨_, Lib.hid rfl⟩
      have sW : Sl w (some ⟨b, off + T, none⟩) W Lw := by rw [← HLw.out]; exact a.part hfit
      have HW0 : Hid (Lw[0]? = some x0) := Lib.hid (by rw [← HLw.out, List.getElem?_take, if_pos (by omega), List.getElem?_drop, Nat.add_zero, h0.out])
      have HN1 : Hid (rowV kind W S (j + 1) row = L ++ [poolV kind W Lw]) := Lib.hid (by rw [rowV_succ, ← HL.out, HT.out, HLw.out])
      have HWl : Hid (Lw.length = W) := Lib.hid sW.len.symm
      obtain ⟨wo, rfl⟩ : ∃ wo : World, wo = wr := ⟨_, rfl⟩
      have hd : decide ((T : Int) + (W : Int) ≤ (Z : Int)) = true := by simp; omega
      go_wp2_with fail
      go_loopw [11, 12, 13] (fun m s k wq => ∃ (q : Nat) (B Sm : Int), q ≤ W ∧ k = .int .i64 ((T + q : Nat) : Int) ∧ m = .int .i64 B ∧ s = .int .i64 Sm ∧ Hid ((Lw.take q).foldl max x0 = B) ∧ Hid (fsum (Lw.take q) = Sm) ∧ Prev wq wo) (fun _ _ k _ => 4000 - (intOf k).toNat)
      case atStart => exact ⟨0, x0, 0, Nat.zero_le _, rfl, rfl, rfl, Lib.hid rfl, Lib.hid rfl, prev_bel _ _⟩
      case round =>
        obtain ⟨q, B, Sm, hq, rfl, rfl, rfl, HB, HSm, hpq⟩ := hrel
        have iS : I6 Sm := HSm.out ▸ (inferInstance : I6 (fsum (Lw.take q)))
        by_cases hltq : q < W
        · obtain ⟨b2, off2, x, e2, ob2, cx, hx⟩ := sW.get hltq
          injection e2 with e2
          injection e2 with e2 e2'
          subst e2 e2'
          rw [Nat.add_assoc] at cx
          have ix : I6 x := ⟨i6.bd x (by have := List.mem_of_getElem? hx.out; rw [← HLw.out] at this; exact List.mem_of_mem_drop (List.mem_of_mem_take this))⟩
          have HMX := Lib.hid (max_snoc hx.out HB.out)
          have HSX : Hid (fsum (Lw.take (q + 1)) = fadd Sm x) := Lib.hid (by rw [take_at hx.out, fsum_snoc, HSm.out])
          by_cases hbx : B < x
          · have HM2 : Hid ((Lw.take (q + 1)).foldl max x0 = x) := Lib.hid (by rw [HMX.out, if_pos hbx])
            go_wp2_with (first | (go_at_call 54; (try first | (with_reducible refine gen_boxK3 (fun u _ _ _ _ => ?_)) | (with_reducible refine gen_boxK2 (fun u _ _ _ => ?_)) | (with_reducible refine gen_boxK (fun u _ _ => ?_))); (with_reducible refine (a1_add).mono ?_); rintro e u ⟨rfl, _⟩))
            go_roundw
            case rel => exact ⟨q + 1, x, _, by omega, by go_num, rfl, rfl, HM2, HSX, prev_bel _ _⟩
            case measure => simp [intOf]; omega
          · have HM2 : Hid ((Lw.take (q + 1)).foldl max x0 = B) := Lib.hid (by rw [HMX.out, if_neg hbx])
            go_wp2_with (first | (go_at_call 54; (try first | (with_reducible refine gen_boxK3 (fun u _ _ _ _ => ?_)) | (with_reducible refine gen_boxK2 (fun u _ _ _ => ?_)) | (with_reducible refine gen_boxK (fun u _ _ => ?_))); (with_reducible refine (a1_add).mono ?_); rintro e u ⟨rfl, _⟩))
            go_roundw
            case rel => exact ⟨q + 1, B, _, by omega, by go_num, rfl, rfl, HM2, HSX, prev_bel _ _⟩
            case measure => simp [intOf]; omega
        · obtain rfl : q = W := by omega
          have HBm : Hid (mxL Lw = B) := Lib.hid (by
            have := HB.out
            rw [List.take_of_length_le (by rw [HWl.out]; exact Nat.le_refl _), foldl_max_self HW0.out] at this
            exact this)
          have HSs : Hid (fsum Lw = Sm) := Lib.hid (by
            have := HSm.out
            rw [List.take_of_length_le (by rw [HWl.out]; exact Nat.le_refl _)] at this
            exact this)
          by_cases hk : kind = 1
          · have hk1 : (kind == 1) = true := by simpa using hk
            have HV : Hid (poolV kind q Lw = B) := Lib.hid (by rw [poolV, if_pos hk, HBm.out])
            clear hk
            go_wp2_with (at_builtin; refine wpList_pushI rfl _ _ _ rfl 2 Try.underlying42 (by kernel_rfl) w.heap.size A' c' L rfl hown.at B rfl (by omega) later_size ?_; intro A3 c3 w3 ho3 hb3 _ _)
            have : Prev w3 w := ⟨(bel w wr).trans hb3⟩
            go_roundw
            case rel => exact ⟨j + 1, T + S, A3, c3, L ++ [B], by omega, by go_num, Lib.hid (by rw [Nat.succ_mul, HT.out]), by omega, by simp, Lib.hid (by rw [HN1.out, HV.out]), ho3, prev_bel _ _⟩
            case measure => simp [intOf]; omega
          · have hk1 : (kind == 1) = false := by simpa using hk
            have HV : Hid (poolV kind q Lw = fdiv Sm (fint q)) := Lib.hid (by rw [poolV, if_neg hk, HSs.out])
            clear hk
            go_wp2_with (first | (first | (go_at_call 67; (try first | (with_reducible refine gen_boxK3 (fun u _ _ _ _ => ?_)) | (with_reducible refine gen_boxK2 (fun u _ _ _ => ?_)) | (with_reducible refine gen_boxK (fun u _ _ => ?_))); (with_reducible refine (r8_div (by omega)).mono ?_); rintro e u ⟨rfl, _⟩)) | (at_builtin; refine wpList_pushI rfl _ _ _ rfl 2 Try.underlying42 (by kernel_rfl) w.heap.size A' c' L rfl hown.at _ rfl (by omega) later_size ?_; intro A3 c3 w3 ho3 hb3 _ _))
            have : Prev w3 w := ⟨(bel w u).trans hb3⟩
            go_roundw
            case rel => exact ⟨j + 1, T + S, A3, c3, L ++ [fdiv Sm (fint q)], by omega, by go_num, Lib.hid (by rw [Nat.succ_mul, HT.out]), by omega, by simp, Lib.hid (by rw [HN1.out, HV.out]), ho3, prev_bel _ _⟩
            case measure => simp [intOf]; omega
    · obtain rfl : j = N := by omega
      have hfit : Z < T + W := by have := HM.out; rw [HT.out] at this; exact this
      go_wp2_with fail
      go_ret
      rw [← HL.out]
      exact ⟨A', c', rfl, ⟨hown.rd, rfl⟩, prev_bel _ _⟩
end

end Go.Proofs.Yteibgdcieaiaiaa
