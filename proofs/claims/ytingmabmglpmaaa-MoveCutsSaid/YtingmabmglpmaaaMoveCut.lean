/- move.Cut and move.CutBack. -/
import Derived.Test.YtingmabmglpmaaaMove
import Derived.Test.YtingmabmglpmaaaMisc
import Derived.Test.YtingmabmglpmaaaCopyOwn
import Derived.Deep.DeepCutAuto
namespace Go.Proofs.Ytingmabmglpmaaa
open Go.RowKit

def cbRow (I F T Z : Nat) (xg : List Int) (i : Nat) : List Int := List.replicate (F * I) 0 ++ (xg.drop (i * ((T - F) * I))).take ((T - F) * I) ++ List.replicate ((Z - T) * I) 0
def cbX (P I F T Z : Nat) (xg : List Int) (i : Nat) : List Int := (List.range i).flatMap (cbRow I F T Z xg) ++ List.replicate ((P - i) * (Z * I)) 0
section
variable {P I F T Z i : Nat} {xg : List Int}
theorem cb_sum (hF : F ≤ T) (hT : T ≤ Z) : F * I + (T - F) * I + (Z - T) * I = Z * I := by
  rw [← Nat.add_mul, ← Nat.add_mul]
  congr 1
  omega
theorem cbRow_length (hF : F ≤ T) (hT : T ≤ Z) (h : (i + 1) * ((T - F) * I) ≤ xg.length) : (cbRow I F T Z xg i).length = Z * I := by
  rw [Nat.succ_mul] at h
  have := cb_sum (I := I) hF hT
  simp [cbRow]; omega
theorem cbFlat_length (hF : F ≤ T) (hT : T ≤ Z) (h : i * ((T - F) * I) ≤ xg.length) : ((List.range i).flatMap (cbRow I F T Z xg)).length = i * (Z * I) := by
  induction i with
  | zero => simp
  | succ i ih =>
    have h' := h
    rw [Nat.succ_mul] at h'
    rw [List.range_succ, List.flatMap_append, List.length_append, ih (by omega)]
    simp only [List.flatMap_cons, List.flatMap_nil, List.append_nil]
    rw [cbRow_length hF hT h, Nat.succ_mul]
theorem cbX_length (hF : F ≤ T) (hT : T ≤ Z) (hi : i ≤ P) (h : i * ((T - F) * I) ≤ xg.length) : (cbX P I F T Z xg i).length = P * (Z * I) := by
  rw [cbX, List.length_append, cbFlat_length hF hT h, List.length_replicate, ← Nat.add_mul]
  congr 1
  omega
/-- One more row is written. -/
theorem cbX_step (hF : F ≤ T) (hT : T ≤ Z) (hi : i < P) (h : (i + 1) * ((T - F) * I) ≤ xg.length) :
    over (cbX P I F T Z xg i) ((xg.drop (i * ((T - F) * I))).take ((T - F) * I)) (i * (Z * I) + F * I) = cbX P I F T Z xg (i + 1) := by
  have h' := h
  rw [Nat.succ_mul] at h'
  have hs := cb_sum (I := I) hF hT
  have hfl := cbFlat_length (I := I) hF hT (show i * ((T - F) * I) ≤ xg.length by omega)
  have hl : ((xg.drop (i * ((T - F) * I))).take ((T - F) * I)).length = (T - F) * I := by simp; omega
  have hM : (P - i) * (Z * I) = Z * I + (P - (i + 1)) * (Z * I) := by
    rw [show P - i = (P - (i + 1)) + 1 from by omega, Nat.succ_mul, Nat.add_comm]
  have hrow : cbRow I F T Z xg i = List.replicate (F * I) 0 ++ (xg.drop (i * ((T - F) * I))).take ((T - F) * I) ++ List.replicate ((Z - T) * I) 0 := rfl
  rw [over, hl, cbX, cbX, List.range_succ, List.flatMap_append]
  simp only [List.flatMap_cons, List.flatMap_nil, List.append_nil]
  rw [hrow]
  generalize (xg.drop (i * ((T - F) * I))).take ((T - F) * I) = L at *
  generalize (List.range i).flatMap (cbRow I F T Z xg) = K at *
  rw [List.take_append, List.drop_append, hfl, List.take_of_length_le (by omega), List.drop_of_length_le (by omega), List.nil_append, hM,
    show i * (Z * I) + F * I - i * (Z * I) = F * I from by omega, show i * (Z * I) + F * I + (T - F) * I - i * (Z * I) = F * I + (T - F) * I from by omega, List.take_replicate, List.drop_replicate,
    Nat.min_eq_left (by omega), show Z * I + (P - (i + 1)) * (Z * I) - (F * I + (T - F) * I) = (Z - T) * I + (P - (i + 1)) * (Z * I) from by omega, ← List.replicate_append_replicate]
  simp
theorem cbX_zero : cbX P I F T Z xg 0 = List.replicate (P * (Z * I)) 0 := by simp [cbX]
end
/-- The part of a row of the call's own from k on, where something is left. -/
theorem slice_own {P : Program} (t : TypeId) (ht : P.underlying t = some (.slice (P.elem t))) (hs : (P.info? (P.elem t)).map (·.size) = some 1) (g n k : Nat) (i : Int) (hi : i = (k : Int)) (hk : k < n) :
    ∀ w, (Instr.slice t (.slice (some ⟨g, 0, none⟩) n n) (some (.int .i64 i)) none none).run P w = .ok (.slice (some ⟨g, k, none⟩) (n - k) (n - k)) w := by
  subst hi
  intro w
  rw [run_slice_l w t _ n n ht .i64 k (by omega) (by omega), sizeOf_one hs]
  have hne : n ≠ k := by omega
  by_cases h0 : k = 0
  · subst h0; simp [Result.andThen, sliced, Addr.add, hne]
  · simp [Result.andThen, sliced, Addr.add, hne, h0]

section
variable {w : World} {A B C D : Option Addr} {n m c d n' m' c' d' : Nat} {zs xs ts ys : List Int} {side : Int}
set_option maxRecDepth 100000 in
set_option maxHeartbeats 2000000 in
theorem mv_cut [a : Sl w A n zs] [b : Sl w B m xs] [l2 : Le m d] (hn : n ≤ 1000000) {x y : Int} {S X : List Int} {J : Int} (hJ : Hid (tcutE zs xs side x y = J)) (hS : Hid (tcS zs xs side x y = S)) (hX : Hid (tcX zs xs side x y = X)) :
    Calls Try.prog 24 #[.agg #[.slice A n c, .slice B m d], .int .i64 side, .int .i64 x, .int .i64 y] w (RetTA w S X J) := by
  have CB := @cell_bx
  have FB := @frozen_bx
  go_enter Try.func24, Try.ntmps24
  go_wp2_with (first | (go_at_call 25; (try first | (with_reducible refine gen_boxK3 (fun u _ _ _ _ => ?_)) | (with_reducible refine gen_boxK2 (fun u _ _ _ => ?_)) | (with_reducible refine gen_boxK (fun u _ _ => ?_))); (with_reducible refine (aT_cut (by omega) hJ hS hX).mono ?_); rintro e u ⟨A', c', B', d', rfl, sA, sX, lA, lX, fA, fX, _⟩))
  have kR : Bx u (w.heap.size + 1) 26 #[.slice none 0 0, .slice none 0 0] := inferInstance
  have k3 := kR.blk.set2 (.slice A' S.length c') (.slice B' X.length d')
  have B3 := bset2 (bel w u) (p := w.heap.size + 1) (by omega) (.slice A' S.length c') (.slice B' X.length d')
  have sA2 := sA.far2 fA (Bx.blk (g := w.heap.size + 1)).lt (.slice A' S.length c') (.slice B' X.length d')
  have sX2 := sX.far2 fX (Bx.blk (g := w.heap.size + 1)).lt (.slice A' S.length c') (.slice B' X.length d')
  obtain ⟨r0, r1⟩ := box2 k3
  refine bodyPost_ret (v := .tuple #[.agg #[.slice A' S.length c', .slice B' X.length d'], .int .i64 J]) (by simp [results, Try.results24, go_sem, r0, r1]) rfl ?_
  exact ⟨A', c', B', d', rfl, sA2, sX2, lA, lX, fA.less later_size, fX.less later_size, ⟨B3⟩⟩
set_option maxRecDepth 100000 in
set_option maxHeartbeats 2000000 in
theorem mv_cutback_no [a : Sl w A n zs] [b : Sl w B m xs] [Sl w C n' ts] [Sl w D m' ys] (hn : n ≤ 1000000) {x y : Int} {J : Int} (hJ : Hid (tcutE zs xs side x y = J)) (h0 : (J != 0) = true) :
    Calls Try.prog 26 #[.agg #[.slice A n c, .slice B m d], .agg #[.slice C n' c', .slice D m' d'], .int .i64 side, .int .i64 x, .int .i64 y] w (RetTA w [] [] J) := by
  have CB := @cell_bx
  have CP := @cell_prev
  have FB := @frozen_bx
  rcases hr : tRightB zs xs with _ | _
  · obtain rfl : J = 20 := by rw [← hJ.out, tcutE, hr]; rfl
    go_enter Try.func26, Try.ntmps26
    go_wp2_with (first | (go_at_call 43; (try first | (with_reducible refine gen_boxK3 (fun u _ _ _ _ => ?_)) | (with_reducible refine gen_boxK2 (fun u _ _ _ => ?_)) | (with_reducible refine gen_boxK (fun u _ _ => ?_))); (with_reducible refine (aT_right (by omega)).mono ?_); rintro e u ⟨rfl, _⟩))
    have kR : Bx u (w.heap.size + 1 + 1) 26 #[.slice none 0 0, .slice none 0 0] := inferInstance
    have k3 := kR.blk.set2 (.slice none 0 0) (.slice none 0 0)
    have B3 := bset2 (bel w u) (p := w.heap.size + 1 + 1) (by omega) (.slice none 0 0) (.slice none 0 0)
    obtain ⟨r0, r1⟩ := box2 k3
    refine bodyPost_ret (v := .tuple #[.agg #[.slice none 0 0, .slice none 0 0], .int .i64 20]) (by simp [results, Try.results26, go_sem, r0, r1]) rfl ?_
    exact ⟨none, 0, none, 0, rfl, Sl.empty, Sl.empty, ⟨Nat.le_refl _⟩, ⟨Nat.le_refl _⟩, Fre.none, Fre.none, ⟨B3⟩⟩
  · have HJ : Hid (cutE zs side x y = J) := Lib.hid (by rw [← hJ.out, tcutE, if_pos hr])
    obtain ⟨V, hV⟩ : ∃ V, cutV zs side x y = V := ⟨_, rfl⟩
    have HV := Lib.hid hV
    clear hV
    go_enter Try.func26, Try.ntmps26
    go_wp2_with (first | (go_at_call 43; (try first | (with_reducible refine gen_boxK3 (fun u _ _ _ _ => ?_)) | (with_reducible refine gen_boxK2 (fun u _ _ _ => ?_)) | (with_reducible refine gen_boxK (fun u _ _ => ?_))); (with_reducible refine (aT_right (by omega)).mono ?_); rintro e u ⟨rfl, _⟩) | (go_at_call 47; (try first | (with_reducible refine gen_boxK3 (fun u _ _ _ _ => ?_)) | (with_reducible refine gen_boxK2 (fun u _ _ _ => ?_)) | (with_reducible refine gen_boxK (fun u _ _ => ?_))); (with_reducible refine (aS_cut (by omega) HJ HV).mono ?_); rintro e u ⟨A', c', rfl, sJ, lJ, fJ, _⟩))
    have kR : Bx u (w.heap.size + 1 + 1) 26 #[.slice none 0 0, .slice none 0 0] := inferInstance
    have k3 := kR.blk.set2 (.slice none 0 0) (.slice none 0 0)
    have B3 := bset2 (bel w u) (p := w.heap.size + 1 + 1) (by omega) (.slice none 0 0) (.slice none 0 0)
    obtain ⟨r0, r1⟩ := box2 k3
    refine bodyPost_ret (v := .tuple #[.agg #[.slice none 0 0, .slice none 0 0], .int .i64 J]) (by simp [results, Try.results26, go_sem, r0, r1]) rfl ?_
    exact ⟨none, 0, none, 0, rfl, Sl.empty, Sl.empty, ⟨Nat.le_refl _⟩, ⟨Nat.le_refl _⟩, Fre.none, Fre.none, ⟨B3⟩⟩
set_option maxRecDepth 100000 in
set_option maxHeartbeats 2000000 in
theorem mv_cutback_shape [a : Sl w A n zs] [b : Sl w B m xs] [a' : Sl w C n' ts] [b' : Sl w D m' ys] (hn : n ≤ 1000000) (hn' : n' ≤ 1000000) {x y : Int} {V : List Int} (hJ : Hid (tcutE zs xs side x y = 0)) (hV : Hid (cutV zs side x y = V)) (hVl : V.length ≤ 1000000) (h : (tRightB ts ys && decide (ts = V)) = false) :
    Calls Try.prog 26 #[.agg #[.slice A n c, .slice B m d], .agg #[.slice C n' c', .slice D m' d'], .int .i64 side, .int .i64 x, .int .i64 y] w (RetTA w [] [] 20) := by
  have CB := @cell_bx
  have CP := @cell_prev
  have FB := @frozen_bx
  have hr : tRightB zs xs = true := by
    rcases h : tRightB zs xs with _ | _
    · have := hJ.out; rw [tcutE, h] at this; simp at this
    · rfl
  have HJ : Hid (cutE zs side x y = 0) := Lib.hid (by rw [← hJ.out, tcutE, if_pos hr])
  rcases hr2 : tRightB ts ys with _ | _
  · clear h
    go_enter Try.func26, Try.ntmps26
    go_wp2_with (first | (go_at_call 43; (try first | (with_reducible refine gen_boxK3 (fun u _ _ _ _ => ?_)) | (with_reducible refine gen_boxK2 (fun u _ _ _ => ?_)) | (with_reducible refine gen_boxK (fun u _ _ => ?_))); (with_reducible refine (aT_right (by omega)).mono ?_); rintro e u ⟨rfl, _⟩) | (go_at_call 47; (try first | (with_reducible refine gen_boxK3 (fun u _ _ _ _ => ?_)) | (with_reducible refine gen_boxK2 (fun u _ _ _ => ?_)) | (with_reducible refine gen_boxK (fun u _ _ => ?_))); (with_reducible refine (aS_cut (by omega) HJ hV).mono ?_); rintro e u ⟨A', c', rfl, sJ, lJ, fJ, _⟩))
    have kR : Bx u (w.heap.size + 1 + 1) 26 #[.slice none 0 0, .slice none 0 0] := inferInstance
    have k3 := kR.blk.set2 (.slice none 0 0) (.slice none 0 0)
    have B3 := bset2 (bel w u) (p := w.heap.size + 1 + 1) (by omega) (.slice none 0 0) (.slice none 0 0)
    obtain ⟨r0, r1⟩ := box2 k3
    refine bodyPost_ret (v := .tuple #[.agg #[.slice none 0 0, .slice none 0 0], .int .i64 20]) (by simp [results, Try.results26, go_sem, r0, r1]) rfl ?_
    exact ⟨none, 0, none, 0, rfl, Sl.empty, Sl.empty, ⟨Nat.le_refl _⟩, ⟨Nat.le_refl _⟩, Fre.none, Fre.none, ⟨B3⟩⟩
  · have hs : decide (ts = V) = false := by simpa [hr2] using h
    clear h
    go_enter Try.func26, Try.ntmps26
    go_wp2_with (first | (go_at_call 43; (try first | (with_reducible refine gen_boxK3 (fun u _ _ _ _ => ?_)) | (with_reducible refine gen_boxK2 (fun u _ _ _ => ?_)) | (with_reducible refine gen_boxK (fun u _ _ => ?_))); (with_reducible refine (aT_right (by omega)).mono ?_); rintro e u ⟨rfl, _⟩) | (go_at_call 47; (try first | (with_reducible refine gen_boxK3 (fun u _ _ _ _ => ?_)) | (with_reducible refine gen_boxK2 (fun u _ _ _ => ?_)) | (with_reducible refine gen_boxK (fun u _ _ => ?_))); (with_reducible refine (aS_cut (by omega) HJ hV).mono ?_); rintro e u ⟨A', c', rfl, sJ, lJ, fJ, _⟩) | (go_at_call 32; (try first | (with_reducible refine gen_boxK3 (fun u _ _ _ _ => ?_)) | (with_reducible refine gen_boxK2 (fun u _ _ _ => ?_)) | (with_reducible refine gen_boxK (fun u _ _ => ?_))); (with_reducible refine (aS_equal (by omega) (by omega)).mono ?_); rintro e u ⟨rfl, _⟩))
    have kR : Bx u (w.heap.size + 1 + 1) 26 #[.slice none 0 0, .slice none 0 0] := inferInstance
    have k3 := kR.blk.set2 (.slice none 0 0) (.slice none 0 0)
    have B3 := bset2 (bel w u) (p := w.heap.size + 1 + 1) (by omega) (.slice none 0 0) (.slice none 0 0)
    obtain ⟨r0, r1⟩ := box2 k3
    refine bodyPost_ret (v := .tuple #[.agg #[.slice none 0 0, .slice none 0 0], .int .i64 20]) (by simp [results, Try.results26, go_sem, r0, r1]) rfl ?_
    exact ⟨none, 0, none, 0, rfl, Sl.empty, Sl.empty, ⟨Nat.le_refl _⟩, ⟨Nat.le_refl _⟩, Fre.none, Fre.none, ⟨B3⟩⟩
set_option maxRecDepth 100000 in
set_option maxHeartbeats 8000000 in
theorem mv_cutback_yes {V : List Int} [a : Sl w A n zs] [b : Sl w B m xs] [a' : Sl w C n' V] [b' : Sl w D m' ys] [ld' : Le m' d'] (hn : n ≤ 1000000) (hn' : n' ≤ 1000000) {nn P I Z F T : Nat} (hr : tRightB zs xs = true) (HJW : Hid (JW nn P I Z zs)) (hFT : F < T) (hTZ : T ≤ Z) (hV : Hid (V = zs.set nn ((T : Int) - F))) (hr2 : tRightB V ys = true) {X : List Int} (hX : Hid (X = cbX P I F T Z ys P)) :
    Calls Try.prog 26 #[.agg #[.slice A n c, .slice B m d], .agg #[.slice C n' c', .slice D m' d'], .int .i64 nn, .int .i64 F, .int .i64 T] w (RetTA w zs X 0) := by
  have CB := @cell_bx
  have CP := @cell_prev
  have FB := @frozen_bx
  obtain ⟨r1, r4, rin, -⟩ := (rightB_iff zs).1 HJW.out.right
  have hrV := ((tRightB_iff _ _).1 hr2).1
  obtain ⟨v1, v4, vin, -⟩ := (rightB_iff V).1 hrV
  have hnn := HJW.out.lt
  have hVl : V.length = zs.length := by rw [hV.out, List.length_set]
  have hxl := HJW.out.cells hr
  have hZI6 := HJW.out.small
  have hP1 := HJW.out.p1
  have hI1 := HJW.out.i1
  have hdV : V.drop (nn + 1) = zs.drop (nn + 1) := by rw [hV.out, List.drop_set_of_lt (by omega)]
  have hpV : prodL (V.drop (nn + 1)) = (I : Int) := by rw [hdV, HJW.out.behind]
  have hgetV : V[nn]? = some (((T - F : Nat) : Int)) := by rw [hV.out, List.getElem?_set_self hnn]; congr 1; omega
  have htakeV : prodL (V.take nn) = (P : Int) := by rw [hV.out, List.take_set_of_le (Nat.le_refl _), HJW.out.ahead]
  have hyl : ys.length = P * ((T - F) * I) := by
    have h1 := ((tRightB_iff _ _).1 hr2).2
    rw [sides_split hgetV, hpV, htakeV, ← Int.natCast_mul, ← Int.natCast_mul] at h1
    omega
  have HC : Hid (cutE zs nn (F : Int) (T : Int) = 0) := Lib.hid (by
    have hg : zs.getD nn 0 = (Z : Int) := by rw [List.getD_eq_getElem?_getD, HJW.out.at_]; rfl
    rw [cutE, if_pos HJW.out.right, if_pos]
    rw [Int.toNat_natCast, hg]
    simp only [Bool.and_eq_true, decide_eq_true_eq]
    omega)
  have HCV : Hid (cutV zs nn (F : Int) (T : Int) = V) := Lib.hid (by rw [cutV, if_pos HC.out, Int.toNat_natCast, ← hV.out])
  have VIN : Hid (inSides (V.drop (nn + 1)) = true) := Lib.hid (inSides_drop vin _)
  obtain ⟨R, hR⟩ : ∃ R, Z * I = R := ⟨_, rfl⟩
  obtain ⟨R2, hR2⟩ : ∃ R, (T - F) * I = R := ⟨_, rfl⟩
  obtain ⟨R3, hR3⟩ : ∃ R, F * I = R := ⟨_, rfl⟩
  have hsum := cb_sum (I := I) (Nat.le_of_lt hFT) hTZ
  have hR21 : 1 ≤ R2 := by rw [← hR2]; exact Nat.mul_pos (by omega) hI1
  have hle : R3 + R2 ≤ R := by rw [hR2, hR3, hR] at hsum; omega
  have hR6 : R ≤ 65536 := by
    have h3 : 1 * (Z * I) ≤ P * (Z * I) := Nat.mul_le_mul_right _ hP1
    omega
  have hI6 : I ≤ 65536 := by
    have h3 : 1 * I ≤ Z * I := Nat.mul_le_mul_right _ HJW.out.z1
    omega
  have hP6 : P ≤ 65536 := by
    have h3 : P * 1 ≤ P * (Z * I) := Nat.mul_le_mul_left _ (Nat.mul_pos HJW.out.z1 hI1)
    omega
  have hZ6 : Z ≤ 65536 := by
    have h3 : Z * 1 ≤ Z * I := Nat.mul_le_mul_left _ hI1
    omega
  have m1 : (Z : Int) * (I : Int) = (R : Int) := by rw [← hR, Int.natCast_mul]
  have m2 : ((T : Int) - (F : Int)) * (I : Int) = (R2 : Int) := by rw [← hR2, Int.natCast_mul]; congr 1; omega
  have m3 : (F : Int) * (I : Int) = (R3 : Int) := by rw [← hR3, Int.natCast_mul]
  have hxR : xs.length = P * R := by rw [hxl, hR]
  have hyR : ys.length = P * R2 := by rw [hyl, hR2]
  have hxpos : 0 < xs.length := by rw [hxR]; exact Nat.mul_pos hP1 (by omega)
  have m4 : (xs.length : Int) / (R : Int) = (P : Int) := by
    rw [hxR, Int.natCast_mul]
    exact Int.mul_ediv_cancel _ (by omega)
  have HZ := Lib.hid HJW.out.at_
  have HXR := Lib.hid hxR
  have HYR := Lib.hid hyR
  have HR := Lib.hid hR
  have HR2 := Lib.hid hR2
  have HR3 := Lib.hid hR3
  have hx6 : xs.length ≤ 65536 := by omega
  have hy6 : ys.length ≤ 65536 := by
    have := (right_len hr2).1; exact this
  have HPV := Lib.hid hpV
  have HVL := Lib.hid hVl
  have hm : m ≤ 65536 := by rw [b.len]; exact hx6
  obtain ⟨b, rfl⟩ := b
  have b : Sl w B xs.length xs := ⟨b, rfl⟩
  obtain ⟨a, rfl⟩ := a
  have a : Sl w A zs.length zs := ⟨a, rfl⟩
  obtain ⟨b', rfl⟩ := b'
  have b' : Sl w D ys.length ys := ⟨b', rfl⟩
  obtain ⟨bz, oz, z, rfl, obz, cz, hzz⟩ := a.get hnn
  obtain rfl : z = (Z : Int) := by have h1 := hzz.out; rw [HZ.out] at h1; injection h1 with h1; exact h1.symm
  clear rin vin hVl hxl hdV hpV hgetV htakeV hyl hR hR2 hR3 hsum hxR hyR hzz HZ r1 v1 hrV
  go_enter Try.func26, Try.ntmps26
  go_upto_region 8 with (first | (go_at_call 43; (try first | (with_reducible refine gen_boxK3 (fun u _ _ _ _ => ?_)) | (with_reducible refine gen_boxK2 (fun u _ _ _ => ?_)) | (with_reducible refine gen_boxK (fun u _ _ => ?_))); (with_reducible refine (aT_right (by omega)).mono ?_); rintro e u ⟨rfl, _⟩) | (go_at_call 47; (try first | (with_reducible refine gen_boxK3 (fun u _ _ _ _ => ?_)) | (with_reducible refine gen_boxK2 (fun u _ _ _ => ?_)) | (with_reducible refine gen_boxK (fun u _ _ => ?_))); (with_reducible refine (aS_cut (by omega) HC HCV).mono ?_); rintro e u ⟨A', c', rfl, sJ, lJ, fJ, _⟩) | (go_at_call 32; (try first | (with_reducible refine gen_boxK3 (fun u _ _ _ _ => ?_)) | (with_reducible refine gen_boxK2 (fun u _ _ _ => ?_)) | (with_reducible refine gen_boxK (fun u _ _ => ?_))); (with_reducible refine (aS_equalT (by omega) (by omega)).mono ?_); rintro e u ⟨rfl, _⟩))
  obtain ⟨ub, rfl⟩ : ∃ ub : World, ub = u := ⟨_, rfl⟩
  have sJ2 : Sl ub A' V.length V := inferInstance
  obtain ⟨AV, hsl, hrs⟩ := slice_from (P := Try.prog) 23 (by kernel_rfl) (by kernel_rfl) A' V.length c' (nn + 1) ((nn : Int) + 1) (by simp) (by rw [HVL.out]; exact hnn) lJ.le
  have sV : Sl ub AV (V.length - (nn + 1)) (V.drop (nn + 1)) := ⟨hrs ub V rfl sJ2.rd, by simp⟩
  clear hrs hr hr2
  go_wp2_with fail
  refine (aT_copy (by omega) (by omega)).mono ?_
  rintro e w1 ⟨g, g', rfl, hg, hg', oS, oX, pw1⟩
  have hcl := fun ty => run_clear_own (P := Try.prog) 24 38 ty Try.underlying24 (by kernel_rfl) (oX.alloc (.cells #[.slice (some ⟨g, 0, none⟩) zs.length zs.length, .slice (some ⟨g', 0, none⟩) xs.length xs.length] 26)) hxpos xs.length
  have n1 : g ≠ g' := oS.ne_blk (cs := ints xs) oX (by decide)
  have n2 : w1.heap.size ≠ g' := by have := oX.lt; omega
  have offW := setCells_off (bs := [g']) (g := g') (by simp) (List.replicate xs.length (.int .i64 0)) 0 (Off.refl [g'] (w1.alloc (.cells #[.slice (some ⟨g, 0, none⟩) zs.length zs.length, .slice (some ⟨g', 0, none⟩) xs.length xs.length] 26)))
  have oX2 := (oX.alloc (.cells #[.slice (some ⟨g, 0, none⟩) zs.length zs.length, .slice (some ⟨g', 0, none⟩) xs.length xs.length] 26)).clear
  have oS2 := offW.own (oS.alloc (.cells #[.slice (some ⟨g, 0, none⟩) zs.length zs.length, .slice (some ⟨g', 0, none⟩) xs.length xs.length] 26)) (by simpa using n1)
  have kB2 := offW.blk (Blk.new w1 26 #[.slice (some ⟨g, 0, none⟩) zs.length zs.length, .slice (some ⟨g', 0, none⟩) xs.length xs.length]) (by simpa using n2)
  have pW : Prev _ ub := ⟨setCells_below (n := ub.heap.size) (g := g') hg' (List.replicate xs.length (.int .i64 0)) 0 (bel ub (w1.alloc (.cells #[.slice (some ⟨g, 0, none⟩) zs.length zs.length, .slice (some ⟨g', 0, none⟩) xs.length xs.length] 26)))⟩
  obtain ⟨W, hW⟩ : ∃ W, W = (w1.alloc (.cells #[.slice (some ⟨g, 0, none⟩) zs.length zs.length, .slice (some ⟨g', 0, none⟩) xs.length xs.length] 26)).setCells g' 0 (List.replicate xs.length (.int .i64 0)) := ⟨_, rfl⟩
  rw [← hW] at oX2 oS2 kB2 pW
  replace kB2 : Bx W w1.heap.size 26 #[.slice (some ⟨g, 0, none⟩) zs.length zs.length, .slice (some ⟨g', 0, none⟩) xs.length xs.length] := ⟨kB2⟩
  go_wp2_with fail
  rw [← hW]
  clear hcl hsl hW offW
  go_loop [15, 58] (fun p i => ∃ k : Nat, k ≤ V.length - (nn + 1) ∧ i = .int .i64 k ∧ p = .int .i64 (prodL ((V.drop (nn + 1)).take k))) (fun _ i => V.length - (nn + 1) - (intOf i).toNat)
  case atStart => exact ⟨0, Nat.zero_le _, rfl, rfl⟩
  case round =>
    obtain ⟨k, hk, rfl, rfl⟩ := hrel
    obtain ⟨hp1, hp2⟩ := prodL_take_bd (V.drop (nn + 1)) VIN.out (by simp; omega) k
    by_cases hlt : k < V.length - (nn + 1)
    · obtain ⟨b1, off, z, rfl, ob1, hc, hz'⟩ := sV.get hlt
      obtain ⟨hz1, hz2⟩ := inSides_get VIN.out hz'.out
      obtain ⟨hm1, hm2⟩ := mul_le_1024 hp1 hp2 hz1 hz2
      go_wp2_with fail
      go_round
      case rel => exact ⟨k + 1, by omega, by go_num, by rw [take_at hz'.out, prodL_snoc]⟩
      case measure => simp [intOf]; omega
    · have hpe : prodL ((V.drop (nn + 1)).take k) = (I : Int) := by rw [List.take_of_length_le (by simp; omega), HPV.out]
      rw [hpe]
      clear hp1 hp2 hpe
      go_wp2_with fail
      go_loopw [83] (fun i wr => ∃ j : Nat, j ≤ P ∧ i = .int .i64 j ∧ Own wr g' 38 (cbX P I F T Z ys j) ∧ Own wr g 3 zs ∧ Bx wr w1.heap.size 26 #[.slice (some ⟨g, 0, none⟩) zs.length zs.length, .slice (some ⟨g', 0, none⟩) xs.length xs.length] ∧ Prev wr ub) (fun i _ => P - (intOf i).toNat)
      case atStart => exact ⟨0, Nat.zero_le _, rfl, by rw [cbX_zero, HR.out, ← HXR.out]; exact oX2, oS2, kB2, pW⟩
      case round =>
        clear oX2 oS2 kB2 pW m4
        obtain ⟨j, hj, rfl, hO, hS, hB, hp⟩ := hrel
        by_cases hltj : j < P
        · obtain ⟨S1, hS1⟩ : ∃ S, j * R = S := ⟨_, rfl⟩
          obtain ⟨S2, hS2⟩ : ∃ S, j * R2 = S := ⟨_, rfl⟩
          have g1 : S1 + R ≤ xs.length := by rw [HXR.out, ← hS1, ← Nat.succ_mul]; exact Nat.mul_le_mul_right _ hltj
          have g2 : S2 + R2 ≤ ys.length := by rw [HYR.out, ← hS2, ← Nat.succ_mul]; exact Nat.mul_le_mul_right _ hltj
          have m5 : (j : Int) * (R : Int) = (S1 : Int) := by rw [← hS1, Int.natCast_mul]
          have m6 : (j : Int) * (R2 : Int) = (S2 : Int) := by rw [← hS2, Int.natCast_mul]
          have m7 : ((j : Int) + 1) * (R2 : Int) = (S2 : Int) + R2 := by rw [Int.add_mul, m6, Int.one_mul]
          have hsl1 := slice_own (P := Try.prog) 24 (by kernel_rfl) (by kernel_rfl) g' xs.length (S1 + R3) ((S1 : Int) + (R3 : Int)) (by simp) (by omega)
          obtain ⟨A3, hsl3, hrs3⟩ := slice_part (P := Try.prog) 24 (by kernel_rfl) (by kernel_rfl) D ys.length d' S2 (S2 + R2) (S2 : Int) ((S2 : Int) + R2) (by omega) (by omega) (by omega) (by omega) ld'.le
          rw [Nat.add_sub_cancel_left] at hsl3 hrs3
          have l3 : ((ys.drop S2).take R2).length = R2 := by simp; omega
          have Q3 := hrs3 w ys rfl b'.rd
          obtain ⟨b3, o3, _, rfl, ob3, -, -⟩ := Sl.get (⟨Q3, l3.symm⟩ : Sl w A3 R2 _) (k := 0) (by omega)
          have HOV : Hid (over (cbX P I F T Z ys j) ((ys.drop S2).take R2) (S1 + R3) = cbX P I F T Z ys (j + 1)) := Lib.hid (by
            have := cbX_step (P := P) (I := I) (F := F) (T := T) (Z := Z) (xg := ys) (i := j) (Nat.le_of_lt hFT) hTZ hltj (by rw [HR2.out, Nat.succ_mul, hS2]; exact g2)
            rw [HR2.out, HR.out, HR3.out, hS1, hS2] at this
            exact this)
          have HCL : Hid ((cbX P I F T Z ys j).length = xs.length) := Lib.hid (by
            rw [cbX_length (Nat.le_of_lt hFT) hTZ hj (by rw [HR2.out, hS2]; omega), HR.out, HXR.out])
          have HL3 := Lib.hid l3
          have HS1 := Lib.hid hS1
          have HS2 := Lib.hid hS2
          have HMIN : Hid (((ys.drop S2).take R2).length = Nat.min R2 (xs.length - (S1 + R3))) := Lib.hid (by rw [l3]; exact (Nat.min_eq_left (by omega)).symm)
          have HFIT : Hid (S1 + R3 + ((ys.drop S2).take R2).length ≤ (cbX P I F T Z ys j).length) := Lib.hid (by rw [l3, HCL.out]; omega)
          clear l3 hrs3 hS1 hS2
          go_wp2_with fail
          have y1 : IntKind.i64.wrap (S1 : Int) = (S1 : Int) := IntWalk.i64_in _ (by omega)
          have y2 : IntKind.i64.wrap (R3 : Int) = (R3 : Int) := IntWalk.i64_in _ (by omega)
          have y3 : IntKind.i64.wrap ((S1 : Int) + (R3 : Int)) = (S1 : Int) + (R3 : Int) := IntWalk.i64_in _ (by omega)
          have y4 : IntKind.i64.wrap (S2 : Int) = (S2 : Int) := IntWalk.i64_in _ (by omega)
          have y5 : IntKind.i64.wrap ((j : Int) + 1) = (j : Int) + 1 := IntWalk.i64_in _ (by omega)
          have y6 : IntKind.i64.wrap ((S2 : Int) + (R2 : Int)) = (S2 : Int) + (R2 : Int) := IntWalk.i64_in _ (by omega)
          refine wp_region_upR ub (fun w9 => Bx w9 w1.heap.size 26 #[.slice (some ⟨g, 0, none⟩) zs.length zs.length, .slice (some ⟨g', 0, none⟩) xs.length xs.length]) (by kernel_rfl) inferInstance (fun vx _ => ?_)
          refine wpAnyH_on (i := 0) (d := 86) (v := ?_) rfl rfl (by kernel_rfl) (by kernel_rfl) (by kernel_rfl) (fun _ _ _ h => h) (by kernel_rfl) ⟨prev_bel _ _, inferInstance⟩ ?_ ?_
          rotate_left
          · rintro uu ⟨pu, r1⟩
            go_simp
            try (with_reducible rfl)
          try simp only [List.set]
          refine wpAnyH_on (i := 1) (d := 87) (v := ?_) rfl rfl (by kernel_rfl) (by kernel_rfl) (by kernel_rfl) (fun _ _ _ h => h) (by kernel_rfl) ⟨prev_bel _ _, inferInstance⟩ ?_ ?_
          rotate_left
          · rintro uu ⟨pu, r1⟩
            go_simp
            try (with_reducible rfl)
          try simp only [List.set]
          refine wpAnyH_on (i := 2) (d := 88) (v := ?_) rfl rfl (by kernel_rfl) (by kernel_rfl) (by kernel_rfl) (fun _ _ _ h => h) (by kernel_rfl) ⟨prev_bel _ _, inferInstance⟩ ?_ ?_
          rotate_left
          · rintro uu ⟨pu, r1⟩
            go_simp
            try (with_reducible rfl)
          try simp only [List.set]
          refine wpAnyH_on (i := 3) (d := 89) (v := ?_) rfl rfl (by kernel_rfl) (by kernel_rfl) (by kernel_rfl) (fun _ _ _ h => h) (by kernel_rfl) ⟨prev_bel _ _, inferInstance⟩ ?_ ?_
          rotate_left
          · rintro uu ⟨pu, r1⟩
            go_simp
            try (with_reducible rfl)
          try simp only [List.set]
          refine wpAnyH_on (i := 4) (d := 90) (v := ?_) rfl rfl (by kernel_rfl) (by kernel_rfl) (by kernel_rfl) (fun _ _ _ h => h) (by kernel_rfl) ⟨prev_bel _ _, inferInstance⟩ ?_ ?_
          rotate_left
          · rintro uu ⟨pu, r1⟩
            go_simp
            try (with_reducible rfl)
          try simp only [List.set]
          refine wpAnyH_on (i := 5) (d := 91) (v := ?_) rfl rfl (by kernel_rfl) (by kernel_rfl) (by kernel_rfl) (fun _ _ _ h => h) (by kernel_rfl) ⟨prev_bel _ _, inferInstance⟩ ?_ ?_
          rotate_left
          · rintro uu ⟨pu, r1⟩
            go_simp
            try (with_reducible rfl)
          try simp only [List.set]
          refine wpAnyH_on (i := 6) (d := 92) (v := ?_) rfl rfl (by kernel_rfl) (by kernel_rfl) (by kernel_rfl) (fun _ _ _ h => h) (by kernel_rfl) ⟨prev_bel _ _, inferInstance⟩ ?_ ?_
          rotate_left
          · rintro uu ⟨pu, r1⟩
            go_simp
            try (with_reducible rfl)
          try simp only [List.set]
          refine wpAnyH_on (i := 7) (d := 93) (v := ?_) rfl rfl (by kernel_rfl) (by kernel_rfl) (by kernel_rfl) (fun _ _ _ h => h) (by kernel_rfl) ⟨prev_bel _ _, inferInstance⟩ ?_ ?_
          rotate_left
          · rintro uu ⟨pu, r1⟩
            go_simp
            try (with_reducible rfl)
          try simp only [List.set]
          refine wpAnyH_on (i := 8) (d := 94) (v := ?_) rfl rfl (by kernel_rfl) (by kernel_rfl) (by kernel_rfl) (fun _ _ _ h => h) (by kernel_rfl) ⟨prev_bel _ _, inferInstance⟩ ?_ ?_
          rotate_left
          · rintro uu ⟨pu, r1⟩
            go_simp
            try (with_reducible rfl)
          try simp only [List.set]
          refine wpAnyH_on (i := 9) (d := 95) (v := ?_) rfl rfl (by kernel_rfl) (by kernel_rfl) (by kernel_rfl) (fun _ _ _ h => h) (by kernel_rfl) ⟨prev_bel _ _, inferInstance⟩ ?_ ?_
          rotate_left
          · rintro uu ⟨pu, r1⟩
            go_simp
            try (with_reducible rfl)
          try simp only [List.set]
          refine wpAnyH_on (i := 10) (d := 96) (v := ?_) rfl rfl (by kernel_rfl) (by kernel_rfl) (by kernel_rfl) (fun _ _ _ h => h) (by kernel_rfl) ⟨prev_bel _ _, inferInstance⟩ ?_ ?_
          rotate_left
          · rintro uu ⟨pu, r1⟩
            go_simp
            try (with_reducible rfl)
          try simp only [List.set]
          refine wpAnyH_on (i := 11) (d := 97) (v := ?_) rfl rfl (by kernel_rfl) (by kernel_rfl) (by kernel_rfl) (fun _ _ _ h => h) (by kernel_rfl) ⟨prev_bel _ _, inferInstance⟩ ?_ ?_
          rotate_left
          · rintro uu ⟨pu, r1⟩
            go_simp
            try (with_reducible rfl)
          try simp only [List.set]
          refine wpAnyH_on (i := 12) (d := 98) (v := ?_) rfl rfl (by kernel_rfl) (by kernel_rfl) (by kernel_rfl) (fun _ _ _ h => h) (by kernel_rfl) ⟨prev_bel _ _, inferInstance⟩ ?_ ?_
          rotate_left
          · rintro uu ⟨pu, r1⟩
            go_simp
            try (with_reducible rfl)
          try simp only [List.set]
          refine wpAnyH_on (i := 13) (d := 99) (v := ?_) rfl rfl (by kernel_rfl) (by kernel_rfl) (by kernel_rfl) (fun _ _ _ h => h) (by kernel_rfl) ⟨prev_bel _ _, inferInstance⟩ ?_ ?_
          rotate_left
          · rintro uu ⟨pu, r1⟩
            go_simp
            try (with_reducible rfl)
          try simp only [List.set]
          refine wpAnyH_on (i := 14) (d := 100) (v := ?_) rfl rfl (by kernel_rfl) (by kernel_rfl) (by kernel_rfl) (fun _ _ _ h => h) (by kernel_rfl) ⟨prev_bel _ _, inferInstance⟩ ?_ ?_
          rotate_left
          · rintro uu ⟨pu, r1⟩
            go_simp
            try (with_reducible rfl)
          try simp only [List.set]
          refine wpAnyH_on (i := 15) (d := 101) (v := ?_) rfl rfl (by kernel_rfl) (by kernel_rfl) (by kernel_rfl) (fun _ _ _ h => h) (by kernel_rfl) ⟨prev_bel _ _, inferInstance⟩ ?_ ?_
          rotate_left
          · rintro uu ⟨pu, r1⟩
            go_simp
            try (with_reducible rfl)
          try simp only [List.set]
          refine wpAnyH_on (i := 16) (d := 102) (v := ?_) rfl rfl (by kernel_rfl) (by kernel_rfl) (by kernel_rfl) (fun _ _ _ h => h) (by kernel_rfl) ⟨prev_bel _ _, inferInstance⟩ ?_ ?_
          rotate_left
          · rintro uu ⟨pu, r1⟩
            go_simp
            try (with_reducible rfl)
          try simp only [List.set]
          refine wpAnyH_on (i := 17) (d := 103) (v := ?_) rfl rfl (by kernel_rfl) (by kernel_rfl) (by kernel_rfl) (fun _ _ _ h => h) (by kernel_rfl) ⟨prev_bel _ _, inferInstance⟩ ?_ ?_
          rotate_left
          · rintro uu ⟨pu, r1⟩
            go_simp
            try (with_reducible rfl)
          try simp only [List.set]
          refine wpAnyH_on (i := 18) (d := 104) (v := ?_) rfl rfl (by kernel_rfl) (by kernel_rfl) (by kernel_rfl) (fun _ _ _ h => h) (by kernel_rfl) ⟨prev_bel _ _, inferInstance⟩ ?_ ?_
          rotate_left
          · rintro uu ⟨pu, r1⟩
            go_simp
            try (with_reducible rfl)
          try simp only [List.set]
          refine wpAnyH_on (i := 19) (d := 105) (v := ?_) rfl rfl (by kernel_rfl) (by kernel_rfl) (by kernel_rfl) (fun _ _ _ h => h) (by kernel_rfl) ⟨prev_bel _ _, inferInstance⟩ ?_ ?_
          rotate_left
          · rintro uu ⟨pu, r1⟩
            go_simp
            try (with_reducible rfl)
          try simp only [List.set]
          refine wpAnyH_ready (rs := [20]) (by kernel_rfl) (by simp) ?_
          refine AllReadyH.cons rfl (fun K hK => ?_) AllReadyH.nil
          have hcp := fun ty => run_copy_own (P := Try.prog) 24 24 ty 38 Try.underlying24 (by kernel_rfl) (hO.at (w' := vx)) (o := S1 + R3) (dLen := xs.length - (S1 + R3)) (dCap := xs.length - (S1 + R3)) (sLen := R2) (sCap := d' - S2) (Q3.at (w' := vx)) HMIN.out HFIT.out
          go_simp
          refine hK.out _ _ ⟨⟨below_setRow (bel ub vx) hg' _⟩, ⟨(heap_setRow _ _ _ _ n2).trans (Bx.blk (w := vx))⟩⟩ (fun _ => ?_)
          clear hK K hcp
          try dsimp only [Act.put, List.setIfInBounds_toArray, List.set_cons_zero, List.set_cons_succ]
          refine wpAnyH_done (by kernel_rfl) ?_ _
          clear y1 y2 y3 y4 y5 y6
          go_wp2_with fail
          go_roundw
          case rel =>
            have o2 := (hO.at (w' := vx)).setRow (over (cbX P I F T Z ys j) ((ys.drop S2).take R2) (S1 + R3))
            rw [HOV.out] at o2
            refine ⟨j + 1, by omega, by go_num, ?_, (heap_setRow _ _ _ _ n1).trans (hS.at (w' := vx)), ⟨(heap_setRow _ _ _ _ n2).trans (Bx.blk (w := vx))⟩, ⟨below_setRow (bel ub vx) hg' _⟩⟩
            rw [HOV.out]
            exact o2
          case measure => simp [intOf]; omega
        · obtain rfl : j = P := by omega
          have kR : Bx wr (w.heap.size + 1 + 1) 26 #[.slice none 0 0, .slice none 0 0] := inferInstance
          have l1 := hS.ne_blk kR.blk (by decide)
          have l2 := hO.ne_blk kR.blk (by decide)
          have hXl : X.length = xs.length := by
            rw [hX.out, cbX_length (Nat.le_of_lt hFT) hTZ (Nat.le_refl _) (by rw [HR2.out, ← HYR.out]; exact Nat.le_refl _), HR.out, HXR.out]
          have HXL := Lib.hid hXl
          clear hXl
          go_wp2_with fail
          have k3 := kR.blk.set2 (.slice (some ⟨g, 0, none⟩) zs.length zs.length) (.slice (some ⟨g', 0, none⟩) xs.length xs.length)
          have B3 := bset2 (bel w wr) (p := w.heap.size + 1 + 1) (by omega) (.slice (some ⟨g, 0, none⟩) zs.length zs.length) (.slice (some ⟨g', 0, none⟩) xs.length xs.length)
          have o3 := hS.far2 l1 (.slice (some ⟨g, 0, none⟩) zs.length zs.length) (.slice (some ⟨g', 0, none⟩) xs.length xs.length)
          have o4 := hO.far2 l2 (.slice (some ⟨g, 0, none⟩) zs.length zs.length) (.slice (some ⟨g', 0, none⟩) xs.length xs.length)
          obtain ⟨r0, r1⟩ := box2 k3
          refine bodyPost_ret (v := .tuple #[.agg #[.slice (some ⟨g, 0, none⟩) zs.length zs.length, .slice (some ⟨g', 0, none⟩) xs.length xs.length], .int .i64 0]) (by simp [results, Try.results26, go_sem, r0, r1]) rfl ?_
          have hwu := later_size (w := w) (w' := ub)
          exact ⟨_, _, _, _, by rw [HXL.out], ⟨o3.rd, rfl⟩, ⟨by rw [hX.out]; exact o4.rd, rfl⟩, ⟨Nat.le_refl _⟩, ⟨by rw [HXL.out]; exact Nat.le_refl _⟩, ⟨fun ad e => by injection e with e; subst e; exact Nat.le_trans hwu hg⟩, ⟨fun ad e => by injection e with e; subst e; exact Nat.le_trans hwu hg'⟩, ⟨B3⟩⟩
end

end Go.Proofs.Ytingmabmglpmaaa
