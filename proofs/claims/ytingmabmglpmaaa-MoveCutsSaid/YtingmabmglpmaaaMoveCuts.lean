/- The walk of the statement MoveCuts. -/
import Derived.Test.YtingmabmglpmaaaMoveTurns
import Derived.Test.YtingmabmglpmaaaRef09
import Derived.Deep.DeepCutAuto
namespace Go.Proofs.Ytingmabmglpmaaa
open Go.RowKit Go.ChangeShapes Go.WideShapes Go.Deep

section
variable {H : Type} {enc : TypeId × Value → H} {W : World} {base : Nat} {held : Bool}
set_option maxRecDepth 100000 in
theorem arg_part9 {b0 : Nat} {v : Value} {d : DataW H} {p : List MemPlace} (hval : Value.okWide Try.prog W .any b0 48 v) (h : DataW.Trod enc Try.prog W base (fun _ => true) held 48 v d p) (hw : Wt 48 d) :
    ∃ A c zs B d xs A' c' zs' B' d' xs' s f t, v = .agg #[.slice A (List.length zs) c, .slice B (List.length xs) d, .slice A' (List.length zs') c', .slice B' (List.length xs') d', .int .i64 s, .int .i64 f, .int .i64 t] ∧
      IntsIn W A c zs ∧ IntsIn W B d xs ∧ IntsIn W A' c' zs' ∧ IntsIn W B' d' xs' ∧ zs.length ≤ reach8 ∧ xs.length ≤ reach8 ∧ zs'.length ≤ reach8 ∧ xs'.length ≤ reach8 ∧ I64 s ∧ I64 f ∧ I64 t := by
  obtain ⟨cs, rfl, hsz⟩ := okWide_struct Try.underlying48 hval
  obtain ⟨q0, q1, q2, q3, q4, q5, q6, rfl⟩ := arr7 (hsz.trans (by kernel_rfl))
  obtain ⟨fuel, hf⟩ := h
  obtain ⟨_, _, h0, w0⟩ := fldW Try.underlying48 hf hw 0 _ rfl
  obtain ⟨_, _, h1, w1⟩ := fldW Try.underlying48 hf hw 1 _ rfl
  obtain ⟨_, _, h2, w2⟩ := fldW Try.underlying48 hf hw 2 _ rfl
  obtain ⟨_, _, h3, w3⟩ := fldW Try.underlying48 hf hw 3 _ rfl
  obtain ⟨_, _, h4, w4⟩ := fldW Try.underlying48 hf hw 4 _ rfl
  replace h0 : DataW.trod enc Try.prog W base (fun _ => true) held _ 26 [q0, q1] = some _ := h0
  replace h1 : DataW.trod enc Try.prog W base (fun _ => true) held _ 26 [q2, q3] = some _ := h1
  replace h2 : DataW.trod enc Try.prog W base (fun _ => true) held _ 3 [q4] = some _ := h2
  replace h3 : DataW.trod enc Try.prog W base (fun _ => true) held _ 3 [q5] = some _ := h3
  replace h4 : DataW.trod enc Try.prog W base (fun _ => true) held _ 3 [q6] = some _ := h4
  obtain ⟨s, rfl, k2⟩ := trod_int1 Try.underlying3 h2
  obtain ⟨f, rfl, k3⟩ := trod_int1 Try.underlying3 h3
  obtain ⟨t, rfl, k4⟩ := trod_int1 Try.underlying3 h4
  obtain ⟨A, c, zs, B, d, xs, e, i1, i2, l1, l2⟩ := trod_gridW h0 rfl w0
  injection e with e0 e1; injection e1 with e1 _; subst e0 e1
  obtain ⟨A', c', zs', B', d', xs', e, i3, i4, l3, l4⟩ := trod_gridW h1 rfl w1
  injection e with e0 e1; injection e1 with e1 _; subst e0 e1
  exact ⟨A, c, zs, B, d, xs, A', c', zs', B', d', xs', s, f, t, rfl, i1, i2, i3, i4, l1, l2, l3, l4, wf_bounds k2, wf_bounds k3, wf_bounds k4⟩
end

/-- What a cut that is not refused is made of. -/
theorem tcut_nats {zs xs : List Int} {side x y : Int} (h : tcutE zs xs side x y = 0) :
    ∃ nn P I Z F T : Nat, side = (nn : Int) ∧ x = (F : Int) ∧ y = (T : Int) ∧ F < T ∧ T ≤ Z ∧ JW nn P I Z zs ∧ tRightB zs xs = true ∧ cutV zs side x y = zs.set nn ((T : Int) - F) ∧ tcS zs xs side x y = zs.set nn ((T : Int) - F) ∧ (tcX zs xs side x y).length ≤ xs.length := by
  have h0 := h
  unfold tcutE at h
  split at h
  · rename_i hq
    have h1 := h
    unfold cutE at h1
    split at h1
    · rename_i hr
      split at h1
      · rename_i hc
        simp only [Bool.and_eq_true, decide_eq_true_eq] at hc
        obtain ⟨⟨⟨⟨s0, s1⟩, x0⟩, y1⟩, xy⟩ := hc
        obtain ⟨k, rfl⟩ := Int.eq_ofNat_of_zero_le s0
        obtain ⟨F, rfl⟩ := Int.eq_ofNat_of_zero_le x0
        obtain ⟨T, rfl⟩ := Int.eq_ofNat_of_zero_le (show 0 ≤ y by omega)
        have hk : k < zs.length := by omega
        obtain ⟨P, I, Z, hjw⟩ := JW.of hr hk
        have hTZ : T ≤ Z := by rw [Int.toNat_natCast, List.getD_eq_getElem?_getD, hjw.at_] at y1; simp at y1; omega
        have hv : cutV zs (k : Int) (F : Int) (T : Int) = zs.set k ((T : Int) - F) := by rw [cutV, if_pos h, Int.toNat_natCast]
        refine ⟨k, P, I, Z, F, T, rfl, rfl, rfl, by omega, hTZ, hjw, hq, hv, by rw [tcS, if_pos h0, hv], ?_⟩
        rw [tcX, if_pos h0, Int.toNat_natCast, prodL_drop hjw.at_, hjw.behind, hjw.ahead, show ((T : Int) - F) = ((T - F : Nat) : Int) from by omega, ← Int.natCast_mul, ← Int.natCast_mul, ← Int.natCast_mul, Int.toNat_natCast, Int.toNat_natCast, Int.toNat_natCast, Int.toNat_natCast, hjw.cells hq]
        have h2 : F * I + (T - F) * I ≤ Z * I := by rw [← Nat.add_mul]; exact Nat.mul_le_mul_right _ (by omega)
        rw [cutCells_length (by rw [hjw.cells hq]; exact Nat.le_refl _) h2]
        exact Nat.mul_le_mul_left _ (by omega)
      · cases h1
    · cases h1
  · omega

section
variable {w : World} {A C : Option Addr} {n m c c' : Nat} {zs ys : List Int}
theorem a09_spread [a : Sl w A n zs] [b : Sl w C m ys] [lc : Le n c] {nn P Z I F T : Nat} {X : List Int} (HJW : Hid (JW nn P I Z zs)) (hyl : Hid (ys.length = P * ((T - F) * I))) (hy6 : ys.length ≤ 65536) (hFT : F < T) (hTZ : T ≤ Z) (hX : Hid (X = cbX P I F T Z ys P)) :
    Calls Try.prog 27 #[.slice A n c, .slice C m c', .int .i64 nn, .int .i64 F, .int .i64 T] w (RetS w X) := by
  obtain ⟨a, rfl⟩ := a
  obtain ⟨b, rfl⟩ := b
  rw [hX.out]
  exact (r9_spread A C c c' zs ys nn P Z I F T w lc.le HJW hyl hy6 hFT hTZ a b).mono fun _ _ ⟨A, c, he, ho, hb⟩ => ⟨A, c, he, ⟨ho.rd, rfl⟩, ⟨hb⟩⟩
end

set_option maxRecDepth 100000 in
set_option maxHeartbeats 8000000 in
theorem moveCuts_calls (A B C D : Option Addr) (c d c' d' : Nat) (zx xx zg xg : List Int) (side fr to_ : Int) (w : World) (iA : IntsIn w A c zx) (iB : IntsIn w B d xx) (iC : IntsIn w C c' zg) (iD : IntsIn w D d' xg)
    (lA : zx.length ≤ reach8) (lB : xx.length ≤ reach8) (lC : zg.length ≤ reach8) (lD : xg.length ≤ reach8) :
    Calls Try.prog 6 #[.agg #[.slice A zx.length c, .slice B xx.length d, .slice C zg.length c', .slice D xg.length d', .int .i64 side, .int .i64 fr, .int .i64 to_]] w (LawTrue w) := by
  have sA : Sl w A zx.length zx := ⟨iA.rd, rfl⟩
  have sB : Sl w B xx.length xx := ⟨iB.rd, rfl⟩
  have sC : Sl w C zg.length zg := ⟨iC.rd, rfl⟩
  have sD : Sl w D xg.length xg := ⟨iD.rd, rfl⟩
  have i6 : I6s xx := iB.i6
  have i6' : I6s xg := iD.i6
  have l5 : Le zx.length c := ⟨iA.2.1⟩
  have l6 : Le xx.length d := ⟨iB.2.1⟩
  have l6' : Le xg.length d' := ⟨iD.2.1⟩
  unfold reach8 at lA lB lC lD
  have HB : Hid (∀ t ∈ [(⟨A, c, zx, B, d, xx⟩ : Tn), ⟨C, c', zg, D, d', xg⟩], t.zs.length ≤ 17592186043904 ∧ t.xs.length ≤ 17592186043904) := Lib.hid fun t ht => by
    simp at ht
    rcases ht with rfl | rfl
    · exact ⟨lA, lB⟩
    · exact ⟨lC, lD⟩
  clear iA iB iC iD
  have CB := @cell_bx
  have CP := @cell_prev
  rcases hs : decide (sumT [(⟨A, c, zx, B, d, xx⟩ : Tn), ⟨C, c', zg, D, d', xg⟩] ≤ 900) with _ | _
  · go_enter Try.func6, Try.ntmps6
    go_wp2_with (first | (go_at_call 12; (try first | (with_reducible refine gen_boxK3 (fun u _ _ _ _ => ?_)) | (with_reducible refine gen_boxK2 (fun u _ _ _ => ?_)) | (with_reducible refine gen_boxK (fun u _ _ => ?_))); (with_reducible refine (a09_small (by omega) HB).mono ?_); rintro e u ⟨rfl, _⟩) | (go_at_call 13; (try first | (with_reducible refine gen_boxK3 (fun u _ _ _ _ => ?_)) | (with_reducible refine gen_boxK2 (fun u _ _ _ => ?_)) | (with_reducible refine gen_boxK (fun u _ _ => ?_))); (with_reducible refine (a09_awake).mono ?_); rintro e u ⟨rfl, _⟩))
    go_ret
    exact ⟨rfl, bel w _⟩
  have hsum : sumT [(⟨A, c, zx, B, d, xx⟩ : Tn), ⟨C, c', zg, D, d', xg⟩] ≤ 900 := by simpa using hs
  simp [sumT] at hsum
  have k1 : zx.length ≤ 900 := by omega
  have k2 : xx.length ≤ 900 := by omega
  have k3 : zg.length ≤ 900 := by omega
  have k4 : xg.length ≤ 900 := by omega
  clear hsum lA lB lC lD
  obtain ⟨J, hJ⟩ : ∃ J, tcutE zx xx side fr to_ = J := ⟨_, rfl⟩
  have HJ := Lib.hid hJ
  by_cases hj0 : J = 0
  rotate_left
  · have HS : Hid (tcS zx xx side fr to_ = []) := Lib.hid (by rw [tcS, if_neg (by rw [hJ]; exact hj0)])
    have HX : Hid (tcX zx xx side fr to_ = []) := Lib.hid (by rw [tcX, if_neg (by rw [hJ]; exact hj0)])
    have e0 : (J != 0) = true := by simp [hj0]
    clear hJ hj0
    go_enter Try.func6, Try.ntmps6
    go_wp2_with (first | (go_at_call 12; (try first | (with_reducible refine gen_boxK3 (fun u _ _ _ _ => ?_)) | (with_reducible refine gen_boxK2 (fun u _ _ _ => ?_)) | (with_reducible refine gen_boxK (fun u _ _ => ?_))); (with_reducible refine (a09_small (by omega) HB).mono ?_); rintro e u ⟨rfl, _⟩) | (go_at_call 24; (try first | (with_reducible refine gen_boxK3 (fun u _ _ _ _ => ?_)) | (with_reducible refine gen_boxK2 (fun u _ _ _ => ?_)) | (with_reducible refine gen_boxK (fun u _ _ => ?_))); (with_reducible refine (mv_cut (by omega) HJ HS HX).mono ?_); rintro e u ⟨A', c', B', d', rfl, sA, sX, lA, lX, fA, fX, _⟩) | (go_at_call 25; (try first | (with_reducible refine gen_boxK3 (fun u _ _ _ _ => ?_)) | (with_reducible refine gen_boxK2 (fun u _ _ _ => ?_)) | (with_reducible refine gen_boxK (fun u _ _ => ?_))); (with_reducible refine (aT_cut (by omega) HJ HS HX).mono ?_); rintro e u ⟨A', c', B', d', rfl, sA, sX, lA, lX, fA, fX, _⟩) | (go_at_call 26; (try first | (with_reducible refine gen_boxK3 (fun u _ _ _ _ => ?_)) | (with_reducible refine gen_boxK2 (fun u _ _ _ => ?_)) | (with_reducible refine gen_boxK (fun u _ _ => ?_))); (with_reducible refine (mv_cutback_no (by omega) HJ e0).mono ?_); rintro e u ⟨A', c', B', d', rfl, sA, sX, lA, lX, fA, fX, _⟩) | (go_at_call 18; (try first | (with_reducible refine gen_boxK3 (fun u _ _ _ _ => ?_)) | (with_reducible refine gen_boxK2 (fun u _ _ _ => ?_)) | (with_reducible refine gen_boxK (fun u _ _ => ?_))); (with_reducible refine (aT_equalT (by omega) (by omega)).mono ?_); rintro e u ⟨rfl, _⟩) | (go_at_call 13; (try first | (with_reducible refine gen_boxK3 (fun u _ _ _ _ => ?_)) | (with_reducible refine gen_boxK2 (fun u _ _ _ => ?_)) | (with_reducible refine gen_boxK (fun u _ _ => ?_))); (with_reducible refine (a09_awake).mono ?_); rintro e u ⟨rfl, _⟩))
    go_ret
    exact ⟨rfl, bel w _⟩
  subst hj0
  obtain ⟨nn, P, I, Z, F, T, rfl, rfl, rfl, hFT, hTZ, hjw, hx, hv, hts, htl⟩ := tcut_nats hJ
  obtain ⟨V, hV⟩ : ∃ V, V = zx.set nn ((T : Int) - F) := ⟨_, rfl⟩
  obtain ⟨X, hX⟩ : ∃ X, tcX zx xx nn F T = X := ⟨_, rfl⟩
  rw [← hV] at hv hts
  rw [hX] at htl
  have HV := Lib.hid hV
  have HCV := Lib.hid hv
  have HS := Lib.hid hts
  have HX := Lib.hid hX
  have HJW := Lib.hid hjw
  have hVl : V.length ≤ 900 := by rw [hV, List.length_set]; exact k1
  have hnn := hjw.lt
  have hs0 : decide ((nn : Int) < 0) = false := by simp
  have hs1 : decide (zx.length ≤ nn) = false := by simp; exact hnn
  clear hJ hv hts hV hX hjw
  rcases hg : tRightB zg xg with _ | _
  · have hno : (tRightB zg xg && decide (zg = V)) = false := by simp [hg]
    go_enter Try.func6, Try.ntmps6
    go_wp2_with (first | (go_at_call 12; (try first | (with_reducible refine gen_boxK3 (fun u _ _ _ _ => ?_)) | (with_reducible refine gen_boxK2 (fun u _ _ _ => ?_)) | (with_reducible refine gen_boxK (fun u _ _ => ?_))); (with_reducible refine (a09_small (by omega) HB).mono ?_); rintro e u ⟨rfl, _⟩) | (go_at_call 24; (try first | (with_reducible refine gen_boxK3 (fun u _ _ _ _ => ?_)) | (with_reducible refine gen_boxK2 (fun u _ _ _ => ?_)) | (with_reducible refine gen_boxK (fun u _ _ => ?_))); (with_reducible refine (mv_cut (by omega) HJ HS HX).mono ?_); rintro e u ⟨A', c', B', d', rfl, sA, sX, lA, lX, fA, fX, _⟩) | (go_at_call 25; (try first | (with_reducible refine gen_boxK3 (fun u _ _ _ _ => ?_)) | (with_reducible refine gen_boxK2 (fun u _ _ _ => ?_)) | (with_reducible refine gen_boxK (fun u _ _ => ?_))); (with_reducible refine (aT_cut (by omega) HJ HS HX).mono ?_); rintro e u ⟨A', c', B', d', rfl, sA, sX, lA, lX, fA, fX, _⟩) | (go_at_call 26; (try first | (with_reducible refine gen_boxK3 (fun u _ _ _ _ => ?_)) | (with_reducible refine gen_boxK2 (fun u _ _ _ => ?_)) | (with_reducible refine gen_boxK (fun u _ _ => ?_))); (with_reducible refine (mv_cutback_shape (by omega) (by omega) HJ HCV (by omega) hno).mono ?_); rintro e u ⟨A', c', B', d', rfl, sA, sX, lA, lX, fA, fX, _⟩) | (go_at_call 18; (try first | (with_reducible refine gen_boxK3 (fun u _ _ _ _ => ?_)) | (with_reducible refine gen_boxK2 (fun u _ _ _ => ?_)) | (with_reducible refine gen_boxK (fun u _ _ => ?_))); (with_reducible refine (aT_equalT (by omega) (by omega)).mono ?_); rintro e u ⟨rfl, _⟩) | (go_at_call 16; (try first | (with_reducible refine gen_boxK3 (fun u _ _ _ _ => ?_)) | (with_reducible refine gen_boxK2 (fun u _ _ _ => ?_)) | (with_reducible refine gen_boxK (fun u _ _ => ?_))); (with_reducible refine (a09_right (by omega)).mono ?_); rintro e u ⟨rfl, _⟩) | (go_at_call 13; (try first | (with_reducible refine gen_boxK3 (fun u _ _ _ _ => ?_)) | (with_reducible refine gen_boxK2 (fun u _ _ _ => ?_)) | (with_reducible refine gen_boxK (fun u _ _ => ?_))); (with_reducible refine (a09_awake).mono ?_); rintro e u ⟨rfl, _⟩))
    go_ret
    exact ⟨rfl, bel w _⟩
  rcases hsz : decide (zg = V) with _ | _
  · have hno : (tRightB zg xg && decide (zg = V)) = false := by simp [hsz]
    go_enter Try.func6, Try.ntmps6
    go_wp2_with (first | (go_at_call 12; (try first | (with_reducible refine gen_boxK3 (fun u _ _ _ _ => ?_)) | (with_reducible refine gen_boxK2 (fun u _ _ _ => ?_)) | (with_reducible refine gen_boxK (fun u _ _ => ?_))); (with_reducible refine (a09_small (by omega) HB).mono ?_); rintro e u ⟨rfl, _⟩) | (go_at_call 24; (try first | (with_reducible refine gen_boxK3 (fun u _ _ _ _ => ?_)) | (with_reducible refine gen_boxK2 (fun u _ _ _ => ?_)) | (with_reducible refine gen_boxK (fun u _ _ => ?_))); (with_reducible refine (mv_cut (by omega) HJ HS HX).mono ?_); rintro e u ⟨A', c', B', d', rfl, sA, sX, lA, lX, fA, fX, _⟩) | (go_at_call 25; (try first | (with_reducible refine gen_boxK3 (fun u _ _ _ _ => ?_)) | (with_reducible refine gen_boxK2 (fun u _ _ _ => ?_)) | (with_reducible refine gen_boxK (fun u _ _ => ?_))); (with_reducible refine (aT_cut (by omega) HJ HS HX).mono ?_); rintro e u ⟨A', c', B', d', rfl, sA, sX, lA, lX, fA, fX, _⟩) | (go_at_call 26; (try first | (with_reducible refine gen_boxK3 (fun u _ _ _ _ => ?_)) | (with_reducible refine gen_boxK2 (fun u _ _ _ => ?_)) | (with_reducible refine gen_boxK (fun u _ _ => ?_))); (with_reducible refine (mv_cutback_shape (by omega) (by omega) HJ HCV (by omega) hno).mono ?_); rintro e u ⟨A', c', B', d', rfl, sA, sX, lA, lX, fA, fX, _⟩) | (go_at_call 18; (try first | (with_reducible refine gen_boxK3 (fun u _ _ _ _ => ?_)) | (with_reducible refine gen_boxK2 (fun u _ _ _ => ?_)) | (with_reducible refine gen_boxK (fun u _ _ => ?_))); (with_reducible refine (aT_equalT (by omega) (by omega)).mono ?_); rintro e u ⟨rfl, _⟩) | (go_at_call 16; (try first | (with_reducible refine gen_boxK3 (fun u _ _ _ _ => ?_)) | (with_reducible refine gen_boxK2 (fun u _ _ _ => ?_)) | (with_reducible refine gen_boxK (fun u _ _ => ?_))); (with_reducible refine (a09_right (by omega)).mono ?_); rintro e u ⟨rfl, _⟩) | (go_at_call 17; (try first | (with_reducible refine gen_boxK3 (fun u _ _ _ _ => ?_)) | (with_reducible refine gen_boxK2 (fun u _ _ _ => ?_)) | (with_reducible refine gen_boxK (fun u _ _ => ?_))); (with_reducible refine (a03_same (by omega) (by omega)).mono ?_); rintro e u ⟨rfl, _⟩) | (go_at_call 13; (try first | (with_reducible refine gen_boxK3 (fun u _ _ _ _ => ?_)) | (with_reducible refine gen_boxK2 (fun u _ _ _ => ?_)) | (with_reducible refine gen_boxK (fun u _ _ => ?_))); (with_reducible refine (a09_awake).mono ?_); rintro e u ⟨rfl, _⟩))
    go_ret
    exact ⟨rfl, bel w _⟩
  obtain rfl : zg = V := of_decide_eq_true hsz
  clear hsz
  obtain ⟨Y, hY⟩ : ∃ Y, Y = cbX P I F T Z xg P := ⟨_, rfl⟩
  have HY := Lib.hid hY
  have hgl : xg.length = P * ((T - F) * I) := by
    have h1 := ((tRightB_iff _ _).1 hg).2
    have hgetV : zg[nn]? = some (((T - F : Nat) : Int)) := by rw [HV.out, List.getElem?_set_self hnn]; congr 1; omega
    have htakeV : prodL (zg.take nn) = (P : Int) := by rw [HV.out, List.take_set_of_le (Nat.le_refl _), HJW.out.ahead]
    have hdV : prodL (zg.drop (nn + 1)) = (I : Int) := by rw [HV.out, List.drop_set_of_lt (by omega), HJW.out.behind]
    rw [sides_split hgetV, hdV, htakeV, ← Int.natCast_mul, ← Int.natCast_mul] at h1
    omega
  have HGL := Lib.hid hgl
  have hYl : Y.length = xx.length := by rw [hY, cbX_length (Nat.le_of_lt hFT) hTZ (Nat.le_refl _) (by rw [hgl]; exact Nat.le_refl _), HJW.out.cells hx]
  have hYl6 : Y.length ≤ 900 := by omega
  clear hY hgl hYl
  go_enter Try.func6, Try.ntmps6
  go_wp2_with (first | (go_at_call 12; (try first | (with_reducible refine gen_boxK3 (fun u _ _ _ _ => ?_)) | (with_reducible refine gen_boxK2 (fun u _ _ _ => ?_)) | (with_reducible refine gen_boxK (fun u _ _ => ?_))); (with_reducible refine (a09_small (by omega) HB).mono ?_); rintro e u ⟨rfl, _⟩) | (go_at_call 24; (try first | (with_reducible refine gen_boxK3 (fun u _ _ _ _ => ?_)) | (with_reducible refine gen_boxK2 (fun u _ _ _ => ?_)) | (with_reducible refine gen_boxK (fun u _ _ => ?_))); (with_reducible refine (mv_cut (by omega) HJ HS HX).mono ?_); rintro e u ⟨A', c', B', d', rfl, sA, sX, lA, lX, fA, fX, _⟩) | (go_at_call 25; (try first | (with_reducible refine gen_boxK3 (fun u _ _ _ _ => ?_)) | (with_reducible refine gen_boxK2 (fun u _ _ _ => ?_)) | (with_reducible refine gen_boxK (fun u _ _ => ?_))); (with_reducible refine (aT_cut (by omega) HJ HS HX).mono ?_); rintro e u ⟨A', c', B', d', rfl, sA, sX, lA, lX, fA, fX, _⟩) | (go_at_call 26; (try first | (with_reducible refine gen_boxK3 (fun u _ _ _ _ => ?_)) | (with_reducible refine gen_boxK2 (fun u _ _ _ => ?_)) | (with_reducible refine gen_boxK (fun u _ _ => ?_))); (with_reducible refine (mv_cutback_yes (by omega) (by omega) hx HJW hFT hTZ HV hg HY).mono ?_); rintro e u ⟨A', c', B', d', rfl, sA, sX, lA, lX, fA, fX, _⟩) | (go_at_call 18; (try first | (with_reducible refine gen_boxK3 (fun u _ _ _ _ => ?_)) | (with_reducible refine gen_boxK2 (fun u _ _ _ => ?_)) | (with_reducible refine gen_boxK (fun u _ _ => ?_))); (with_reducible refine (aT_equalT (by omega) (by omega)).mono ?_); rintro e u ⟨rfl, _⟩) | (go_at_call 16; (try first | (with_reducible refine gen_boxK3 (fun u _ _ _ _ => ?_)) | (with_reducible refine gen_boxK2 (fun u _ _ _ => ?_)) | (with_reducible refine gen_boxK (fun u _ _ => ?_))); (with_reducible refine (a09_right (by omega)).mono ?_); rintro e u ⟨rfl, _⟩) | (go_at_call 17; (try first | (with_reducible refine gen_boxK3 (fun u _ _ _ _ => ?_)) | (with_reducible refine gen_boxK2 (fun u _ _ _ => ?_)) | (with_reducible refine gen_boxK (fun u _ _ => ?_))); (with_reducible refine (a03_sameT (by omega) (by omega)).mono ?_); rintro e u ⟨rfl, _⟩))
  have sY := sX
  have sZ := sA
  obtain ⟨v, rfl⟩ : ∃ v : World, v = u := ⟨_, rfl⟩
  go_loopw [9, 133] (fun s i wr => ∃ (k : Nat) (A2 : Option Addr) (c2 : Nat) (L : List Int), k ≤ xg.length ∧ i = .int .i64 k ∧ s = .slice A2 L.length c2 ∧ OwnA wr v.heap.size 2 A2 c2 L ∧ Hid (L = xg.take k) ∧ Prev wr v) (fun _ i _ => xg.length - (intOf i).toNat)
  case atStart => exact ⟨0, none, 0, [], Nat.zero_le _, rfl, rfl, OwnA.nil _ _ _, Lib.hid (by simp), prev_bel _ _⟩
  case round =>
    obtain ⟨k, A2, c2, L, hk, rfl, rfl, ho, HL, hp⟩ := hrel
    by_cases hlt : k < xg.length
    · obtain ⟨b1, o1, x, rfl, ob1, cx, hx1⟩ := sD.get hlt
      have hLl : L.length ≤ 900 := by rw [HL.out, List.length_take]; omega
      go_wp2_with (at_builtin; refine wpList_pushI rfl _ _ _ rfl 2 Try.underlying52 (by kernel_rfl) v.heap.size A2 c2 L rfl ho x rfl (by omega) (later_size (w := v)) ?_; intro A3 c3 w3 ho3 hb3 _ _)
      have p3 : Prev w3 v := ⟨(bel v _).trans hb3⟩
      go_roundw
      case rel => exact ⟨k + 1, A3, c3, L ++ [x], by omega, by go_num, by simp, ho3, Lib.hid (by rw [take_at hx1.out, HL.out]), p3⟩
      case measure => simp [intOf]; omega
    · obtain rfl : xg = L := by rw [HL.out, List.take_of_length_le (by omega)]
      have sL : Sl wr A2 xg.length xg := ⟨ho.rd, rfl⟩
      go_wp2_with (first | (go_at_call 27; (try first | (with_reducible refine gen_boxK3 (fun u _ _ _ _ => ?_)) | (with_reducible refine gen_boxK2 (fun u _ _ _ => ?_)) | (with_reducible refine gen_boxK (fun u _ _ => ?_))); (with_reducible refine (a09_spread HJW HGL (by omega) hFT hTZ HY).mono ?_); rintro e u ⟨A', c', rfl, sW, _⟩) | (go_at_call 17; (try first | (with_reducible refine gen_boxK3 (fun u _ _ _ _ => ?_)) | (with_reducible refine gen_boxK2 (fun u _ _ _ => ?_)) | (with_reducible refine gen_boxK (fun u _ _ => ?_))); (with_reducible refine (a03_sameT (by omega) (by omega)).mono ?_); rintro e u ⟨rfl, _⟩))
      go_loopw [174] (fun i wr => ∃ k : Nat, k ≤ Y.length ∧ i = .int .i64 k ∧ Prev wr u) (fun i _ => Y.length - (intOf i).toNat)
      case atStart => exact ⟨0, Nat.zero_le _, rfl, prev_bel _ _⟩
      case round =>
        obtain ⟨k2, hk2, rfl, hp2⟩ := hrel
        by_cases hlt2 : k2 < Y.length
        · obtain ⟨b1, o1, x, rfl, ob1, cx, hx1⟩ := sY.get hlt2
          obtain ⟨b2, o2, y, rfl, ob2, cy, hy1⟩ := sW.get hlt2
          obtain rfl : x = y := by have h1 := hx1.out; rw [hy1.out] at h1; injection h1 with h1; exact h1.symm
          clear hx1 hy1
          go_wp2_with fail
          refine wp_region_up0 (by kernel_rfl) (fun vz _ => ?_)
          refine wpAnyH_on (i := 0) (d := 177) (v := ?_) rfl rfl (by kernel_rfl) (by kernel_rfl) (by kernel_rfl) (fun _ _ _ h => h) (by kernel_rfl) (prev_bel _ _) ?_ ?_
          rotate_left
          · intro uu (pu : Prev uu _)
            go_simp
            try (with_reducible rfl)
          try simp only [List.set]
          refine wpAnyH_on (i := 1) (d := 178) (v := ?_) rfl rfl (by kernel_rfl) (by kernel_rfl) (by kernel_rfl) (fun _ _ _ h => h) (by kernel_rfl) (prev_bel _ _) ?_ ?_
          rotate_left
          · intro uu (pu : Prev uu _)
            go_simp
            try (with_reducible rfl)
          try simp only [List.set]
          refine wpAnyH_on (i := 2) (d := 179) (v := ?_) rfl rfl (by kernel_rfl) (by kernel_rfl) (by kernel_rfl) (fun _ _ _ h => h) (by kernel_rfl) (prev_bel _ _) ?_ ?_
          rotate_left
          · intro uu (pu : Prev uu _)
            go_simp
            try (with_reducible rfl)
          try simp only [List.set]
          refine wpAnyH_on (i := 3) (d := 180) (v := ?_) rfl rfl (by kernel_rfl) (by kernel_rfl) (by kernel_rfl) (fun _ _ _ h => h) (by kernel_rfl) (prev_bel _ _) ?_ ?_
          rotate_left
          · intro uu (pu : Prev uu _)
            go_simp
            try (with_reducible rfl)
          try simp only [List.set]
          refine wpAnyH_on (i := 4) (d := 181) (v := ?_) rfl rfl (by kernel_rfl) (by kernel_rfl) (by kernel_rfl) (fun _ _ _ h => h) (by kernel_rfl) (prev_bel _ _) ?_ ?_
          rotate_left
          · intro uu (pu : Prev uu _)
            go_simp
            try (with_reducible rfl)
          try simp only [List.set]
          refine wpAnyH_on (i := 5) (d := 182) (v := ?_) rfl rfl (by kernel_rfl) (by kernel_rfl) (by kernel_rfl) (fun _ _ _ h => h) (by kernel_rfl) (prev_bel _ _) ?_ ?_
          rotate_left
          · intro uu (pu : Prev uu _)
            go_simp
            try (with_reducible rfl)
          try simp only [List.set]
          refine wpAnyH_on (i := 6) (d := 183) (v := ?_) rfl rfl (by kernel_rfl) (by kernel_rfl) (by kernel_rfl) (fun _ _ _ h => h) (by kernel_rfl) (prev_bel _ _) ?_ ?_
          rotate_left
          · intro uu (pu : Prev uu _)
            go_simp
            try (with_reducible rfl)
          try simp only [List.set]
          refine wpAnyH_on (i := 7) (d := 184) (v := ?_) rfl rfl (by kernel_rfl) (by kernel_rfl) (by kernel_rfl) (fun _ _ _ h => h) (by kernel_rfl) (prev_bel _ _) ?_ ?_
          rotate_left
          · intro uu (pu : Prev uu _)
            go_simp
            try (with_reducible rfl)
          try simp only [List.set]
          refine wpAnyH_on (i := 8) (d := 185) (v := ?_) rfl rfl (by kernel_rfl) (by kernel_rfl) (by kernel_rfl) (fun _ _ _ h => h) (by kernel_rfl) (prev_bel _ _) ?_ ?_
          rotate_left
          · intro uu (pu : Prev uu _)
            go_simp
            try (with_reducible rfl)
          try simp only [List.set]
          refine wpAnyH_on (i := 9) (d := 186) (v := ?_) rfl rfl (by kernel_rfl) (by kernel_rfl) (by kernel_rfl) (fun _ _ _ h => h) (by kernel_rfl) (prev_bel _ _) ?_ ?_
          rotate_left
          · intro uu (pu : Prev uu _)
            go_simp
            try (with_reducible rfl)
          try simp only [List.set]
          refine wpAnyH_done (by kernel_rfl) ?_ _
          go_wp2_with fail
          go_roundw
          case rel => exact ⟨k2 + 1, by omega, by go_num, prev_bel _ _⟩
          case measure => simp [intOf]; omega
        · go_wp2_with (first | (go_at_call 13; (try first | (with_reducible refine gen_boxK3 (fun u _ _ _ _ => ?_)) | (with_reducible refine gen_boxK2 (fun u _ _ _ => ?_)) | (with_reducible refine gen_boxK (fun u _ _ => ?_))); (with_reducible refine (a09_awake).mono ?_); rintro e u ⟨rfl, _⟩))
          go_ret
          exact ⟨rfl, bel w _⟩

end Go.Proofs.Ytingmabmglpmaaa
