/- The walk of conv.Touch, and the sides of shapes that belong together. -/
import Derived.Test.YteibgdcieaiaiaaConvShape2
import Derived.Test.YteibgdcieaiaiaaWinMath
namespace Go.Proofs.Yteibgdcieaiaiaa
open Go.RowKit

/-- f holds the sides of shapes that belong together. -/
def CFis (f : CF) (ws xs V : List Int) : Prop :=
  (xs = [(f.C : Int), (f.W : Int)] ∧ ws = [(f.O : Int), (f.C : Int), (f.L : Int)] ∧ V = [(f.O : Int), (f.N : Int)] ∧ f.K = 1 ∧ f.H = 1 ∧ f.M = 1) ∨
    (xs = [(f.C : Int), (f.H : Int), (f.W : Int)] ∧ ws = [(f.O : Int), (f.C : Int), (f.K : Int), (f.L : Int)] ∧ V = [(f.O : Int), (f.M : Int), (f.N : Int)])
structure CFof (f : CF) (ws xs V : List Int) (S : Int) : Prop where
  ok : CFok f
  is : CFis f ws xs V
  s : S = (f.S : Int)
  w : prodL ws = ((f.O * (f.C * (f.K * f.L)) : Nat) : Int)
  x : prodL xs = ((f.C * (f.H * f.W) : Nat) : Int)
  v : prodL V = ((f.O * (f.M * f.N) : Nat) : Int)
  vr : rightB V = true
  sides : f.K ≤ 1024 ∧ f.L ≤ 1024 ∧ f.H ≤ 1024 ∧ f.W ≤ 1024
  winH : winV (f.H : Int) (f.K : Int) (if ws.length = 3 then 1 else f.S : Int) = (f.M : Int)
  winW : winV (f.W : Int) (f.L : Int) (f.S : Int) = (f.N : Int)
theorem nat_1024 {z : Int} (h : 1 ≤ z ∧ z ≤ 1024) : ∃ n : Nat, z = (n : Int) ∧ 1 ≤ n ∧ n ≤ 1024 := ⟨z.toNat, by omega, by omega, by omega⟩
theorem cv_nats {ws xs : List Int} {S : Int} (h : cvE ws xs S = 0) : ∃ f, CFof f ws xs (cvV ws xs S) S := by
  have hV : cvV ws xs S = cvV0 ws xs S := by rw [cvV, if_pos h]
  unfold cvE at h
  split at h
  · rename_i hp
    split at h
    · rename_i ha
      split at h
      · rename_i hr
        simp only [cvPre, Bool.and_eq_true, decide_eq_true_eq] at hp
        obtain ⟨⟨⟨⟨⟨h1, h2⟩, h3⟩, h4⟩, h5⟩, h6⟩ := hp
        obtain ⟨-, -, win, wpr⟩ := (rightB_iff ws).1 h1
        obtain ⟨-, -, xin, xpr⟩ := (rightB_iff xs).1 h2
        obtain ⟨-, -, vin, vpr⟩ := (rightB_iff _).1 hr
        rw [cvAll, List.all_eq_true] at ha
        by_cases hx : xs.length = 2
        · obtain ⟨x0, x1, rfl⟩ : ∃ x0 x1, xs = [x0, x1] := by
            match xs, hx with
            | [x0, x1], _ => exact ⟨x0, x1, rfl⟩
          obtain ⟨w0, w1, w2, rfl⟩ : ∃ w0 w1 w2, ws = [w0, w1, w2] := by
            match ws, h5 with
            | [w0, w1, w2], _ => exact ⟨w0, w1, w2, rfl⟩
          simp at h6
          subst h6
          obtain ⟨O, rfl, o1, o2⟩ := nat_1024 (inSides_mem win (z := w0) (by simp))
          obtain ⟨C, rfl, c1, c2⟩ := nat_1024 (inSides_mem win (z := w1) (by simp))
          obtain ⟨L, rfl, l1, l2⟩ := nat_1024 (inSides_mem win (z := w2) (by simp))
          obtain ⟨W, rfl, v1, v2⟩ := nat_1024 (inSides_mem xin (z := x1) (by simp))
          have hw : winOk (W : Int) (L : Int) S = true := by have := ha 0 (by simp); simpa [cvWin] using this
          have hw' := hw
          simp only [winOk, Bool.and_eq_true, decide_eq_true_eq, and_assoc] at hw'
          obtain ⟨S', rfl⟩ := Int.eq_ofNat_of_zero_le (show 0 ≤ S by omega)
          obtain ⟨N, e, n1, -, s1, -, s2, -, fit, -, -⟩ := win_nats hw
          have hv0 : cvV0 [(O : Int), C, L] [(C : Int), W] S' = [(O : Int), N] := by simp [cvV0, cvWins, e]
          rw [hV, hv0]
          rw [hv0] at hr vpr
          have pw : prodL [(O : Int), (C : Int), (L : Int)] = ((O * (C * (1 * L)) : Nat) : Int) := by simp [prodL, Int.mul_assoc]
          have px : prodL [(C : Int), (W : Int)] = ((C * (1 * W) : Nat) : Int) := by simp [prodL]
          have pv : prodL [(O : Int), (N : Int)] = ((O * (1 * N) : Nat) : Int) := by simp [prodL]
          refine ⟨⟨O, C, 1, L, 1, W, 1, N, S'⟩, ⟨⟨fun i hi => by simp only at hi ⊢; obtain rfl : i = 0 := by omega
                                                                 simp, fit, ?_, ?_, ?_, o1, c1, Nat.le_refl _, l1, Nat.le_refl _, n1, s2⟩, .inl ⟨rfl, rfl, rfl, rfl, rfl, rfl⟩, rfl, ?_, ?_, ?_, hr, ⟨show 1 ≤ 1024 by omega, l2, show 1 ≤ 1024 by omega, v2⟩, by simp [winV, winOk], e⟩⟩
          · simp only; omega
          · simp only; omega
          · simp only; omega
          · exact pw
          · exact px
          · exact pv
        · have hx3 : xs.length = 3 := by omega
          obtain ⟨x0, x1, x2, rfl⟩ : ∃ x0 x1 x2, xs = [x0, x1, x2] := by
            match xs, hx3 with
            | [x0, x1, x2], _ => exact ⟨x0, x1, x2, rfl⟩
          obtain ⟨w0, w1, w2, w3, rfl⟩ : ∃ w0 w1 w2 w3, ws = [w0, w1, w2, w3] := by
            match ws, h5 with
            | [w0, w1, w2, w3], _ => exact ⟨w0, w1, w2, w3, rfl⟩
          simp at h6
          subst h6
          obtain ⟨O, rfl, o1, o2⟩ := nat_1024 (inSides_mem win (z := w0) (by simp))
          obtain ⟨C, rfl, c1, c2⟩ := nat_1024 (inSides_mem win (z := w1) (by simp))
          obtain ⟨K, rfl, k1, k2⟩ := nat_1024 (inSides_mem win (z := w2) (by simp))
          obtain ⟨L, rfl, l1, l2⟩ := nat_1024 (inSides_mem win (z := w3) (by simp))
          obtain ⟨H, rfl, h1', h2'⟩ := nat_1024 (inSides_mem xin (z := x1) (by simp))
          obtain ⟨W, rfl, v1, v2⟩ := nat_1024 (inSides_mem xin (z := x2) (by simp))
          have hh : winOk (H : Int) (K : Int) S = true := by have := ha 0 (by simp); simpa [cvWin] using this
          have hw : winOk (W : Int) (L : Int) S = true := by have := ha 1 (by simp); simpa [cvWin] using this
          have hw' := hw
          simp only [winOk, Bool.and_eq_true, decide_eq_true_eq, and_assoc] at hw'
          obtain ⟨S', rfl⟩ := Int.eq_ofNat_of_zero_le (show 0 ≤ S by omega)
          obtain ⟨M, e1, m1, -, -, -, -, -, fit1, -, -⟩ := win_nats hh
          obtain ⟨N, e2, n1, -, s1, -, s2, -, fit2, -, -⟩ := win_nats hw
          have hv0 : cvV0 [(O : Int), C, K, L] [(C : Int), H, W] S' = [(O : Int), M, N] := by simp [cvV0, cvWins, e1, e2, List.range_succ]
          rw [hV, hv0]
          rw [hv0] at hr vpr
          have pw : prodL [(O : Int), (C : Int), (K : Int), (L : Int)] = ((O * (C * (K * L)) : Nat) : Int) := by simp [prodL, Int.mul_assoc]
          have px : prodL [(C : Int), (H : Int), (W : Int)] = ((C * (H * W) : Nat) : Int) := by simp [prodL, Int.mul_assoc]
          have pv : prodL [(O : Int), (M : Int), (N : Int)] = ((O * (M * N) : Nat) : Int) := by simp [prodL, Int.mul_assoc]
          refine ⟨⟨O, C, K, L, H, W, M, N, S'⟩, ⟨⟨fit1, fit2, ?_, ?_, ?_, o1, c1, k1, l1, m1, n1, s2⟩, .inr ⟨rfl, rfl, rfl⟩, rfl, ?_, ?_, ?_, hr, ⟨k2, l2, h2', v2⟩, by simpa using e1, e2⟩⟩
          · simp only; omega
          · simp only; omega
          · simp only; omega
          · exact pw
          · exact px
          · exact pv
      · omega
    · omega
  · omega
section
variable {w : World} {A B D : Option Addr} {n m k c d e : Nat} {ws xs V : List Int}
theorem cv_frame {f : CF} {S : Int} [a : Sl w A n ws] [b : Sl w B m xs] [g : Sl w D k V] [lc : Le n c] [ld : Le m d] [le : Le k e] (hf : Hid (CFof f ws xs V S)) : Calls Try.prog 70 #[.slice A n c, .slice B m d, .slice D k e, .int .i64 S] w (RetV w (frV f)) := by
  obtain ⟨O, C, K, L, H, W, M, N, S'⟩ := f
  obtain ⟨h1, h2, h3, h4⟩ := hf.out.sides
  have hs := hf.out.s
  have hc := lc.le
  have hd := ld.le
  have he := le.le
  have e1 := a.len
  have e2 := b.len
  have e3 := g.len
  rcases hf.out.is with ⟨rfl, rfl, rfl, hk, hh, hm⟩ | ⟨rfl, rfl, rfl⟩
  · simp only at hk hh hm hs h1 h2 h3 h4
    subst hk hh hm hs
    simp at e1 e2 e3
    subst e1 e2 e3
    exact frame_line hc hd he h2 h4
  · simp only at hs h1 h2 h3 h4
    subst hs
    simp at e1 e2 e3
    subst e1 e2 e3
    exact frame_plane hc hd he h1 h2 h3 h4
set_option maxRecDepth 100000 in
set_option maxHeartbeats 2000000 in
theorem cv_touch_no [a : Sl w A n ws] [b : Sl w B m xs] [ld : Le m d] (hn : n ≤ 1000000) (hm : m ≤ 1000000) {S E : Int} (hE : Hid (cvE ws xs S = E)) (h0 : (E != 0) = true) :
    Calls Try.prog 51 #[.slice A n c, .slice B m d, .int .i64 S] w (RetV w (.func (.func 69) #[] #[])) := by
  have hV : Hid (cvV ws xs S = []) := Lib.hid (by rw [cvV, hE.out, if_neg (by simpa using h0)])
  go_enter Try.func51, Try.ntmps51
  go_wp2_with (first | (go_at_call 16; (try first | (with_reducible refine gen_boxK3 (fun u _ _ _ _ => ?_)) | (with_reducible refine gen_boxK2 (fun u _ _ _ => ?_)) | (with_reducible refine gen_boxK (fun u _ _ => ?_))); (with_reducible refine (cv_shape (by omega) (by omega) hE hV).mono ?_); rintro e u ⟨A', c', rfl, sJ, lJ, fJ, _⟩))
  go_ret
  exact ⟨rfl, prev_bel _ _⟩
set_option maxRecDepth 100000 in
set_option maxHeartbeats 2000000 in
theorem cv_touch_yes [a : Sl w A n ws] [b : Sl w B m xs] [lc : Le n c] [ld : Le m d] (hn : n ≤ 1000000) (hm : m ≤ 1000000) {f : CF} {S : Int} (hE : Hid (cvE ws xs S = 0)) (hV : Hid (cvV ws xs S = V)) (hf : Hid (CFof f ws xs V S)) :
    Calls Try.prog 51 #[.slice A n c, .slice B m d, .int .i64 S] w (RetV w (.func (.func 71) #[frV f] #[])) := by
  go_enter Try.func51, Try.ntmps51
  go_wp2_with (first | (go_at_call 16; (try first | (with_reducible refine gen_boxK3 (fun u _ _ _ _ => ?_)) | (with_reducible refine gen_boxK2 (fun u _ _ _ => ?_)) | (with_reducible refine gen_boxK (fun u _ _ => ?_))); (with_reducible refine (cv_shape (by omega) (by omega) hE hV).mono ?_); rintro e u ⟨A', c', rfl, sJ, lJ, fJ, _⟩) | (go_at_call 70; (try first | (with_reducible refine gen_boxK3 (fun u _ _ _ _ => ?_)) | (with_reducible refine gen_boxK2 (fun u _ _ _ => ?_)) | (with_reducible refine gen_boxK (fun u _ _ => ?_))); (with_reducible refine (cv_frame hf).mono ?_); rintro e u ⟨rfl, _⟩))
  go_ret
  exact ⟨rfl, prev_bel _ _⟩
end

end Go.Proofs.Yteibgdcieaiaiaa
