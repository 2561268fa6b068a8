/- athanorref20.Least. -/
import Derived.Test.YtphcffcecncngaaLaw20b
import Derived.Deep.DeepCutAuto
namespace Go.Proofs.Ytphcffcecncngaa
open Go.RowKit

namespace Ch
/-- A cost as the reference says it: -1 where there is no way. -/
def fin (x : Int) : Int := if x < 1152921504606846976 then x else -1
variable {c : Ch}
theorem Ok.fin_V (h : c.Ok) {l r : Nat} {m : Int} (hl : l < r) (hr : r ≤ c.n) : (fin (c.V l r m) = -1 ∧ c.V l r m = 1152921504606846976) ∨ (fin (c.V l r m) = c.V l r m ∧ 0 ≤ c.V l r m ∧ c.V l r m ≤ 8936830510563328) := by
  have hm := h.mod (m := m) hl hr
  have n2 := h.n2
  have hs : r - l ≤ 64 := by omega
  have h0 := hm.lo
  have h1 := hm.hi hs
  unfold fin
  by_cases hx : c.V l r m < 1152921504606846976
  · have := hm.fin hs hx
    rw [if_pos hx]
    exact .inr ⟨rfl, h0, by omega⟩
  · rw [if_neg hx]
    exact .inl ⟨rfl, by omega⟩
theorem Ok.fin_pv (h : c.Ok) {l r j : Nat} {m : Int} (hr : r ≤ c.n) (hj : l + j + 1 < r) : (fin (c.pv c.V l r m j) = -1 ∧ c.pv c.V l r m j = 1152921504606846976) ∨ (fin (c.pv c.V l r m j) = c.pv c.V l r m j ∧ 0 ≤ c.pv c.V l r m j ∧ c.pv c.V l r m j ≤ 8936830510563328) := by
  have hm := h.pv_mod (m := m) hr (V := c.V) (l := l) (fun l' r' x h1 _ h3 => h.mod h1 (by omega)) j (by omega)
  have n2 := h.n2
  have hs : r - l ≤ 64 := by omega
  have h0 := hm.lo
  have h1 := hm.hi hs
  unfold fin
  by_cases hx : c.pv c.V l r m j < 1152921504606846976
  · have := hm.fin hs hx
    rw [if_pos hx]
    exact .inr ⟨rfl, h0, by omega⟩
  · rw [if_neg hx]
    exact .inl ⟨rfl, by omega⟩
theorem pv_stop {l r j : Nat} {m : Int} (h : m < c.nd l r (j + 1)) : ∀ i, c.pv c.V l r m (j + i) = c.pv c.V l r m j
  | 0 => rfl
  | i + 1 => by
    have := nd_mono (c := c) (l := l) (r := r) (i := j + 1) (j := j + i + 1) (by omega)
    show c.pv c.V l r m (j + i + 1) = _
    rw [pv, if_neg (by omega), pv_stop h i]
/-- The loop ends: no wider part is within the words. -/
theorem fin_stop {l r j : Nat} {m : Int} (hj : l + j + 1 < r) (h : m < c.nd l r (j + 1)) : fin (c.V l r m) = fin (c.pv c.V l r m j) := by
  rw [V_more (by omega), show r - l - 1 = j + (r - l - 1 - j) from by omega, pv_stop h]
/-- One round. -/
theorem Ok.least_step (h : c.Ok) {l r j : Nat} {m P A B C : Int} (hr : r ≤ c.n) (hj : l + j + 1 < r) (hn : c.nd l r (j + 1) ≤ m) (hP : fin (c.pv c.V l r m j) = P) (hA : fin (c.V (l + j + 1) r (m - c.w (l + j + 1))) = A) (hB : fin (c.V l (l + j + 1) m) = B) (hC : c.cs l (j + 1) = C) :
    (A < 0 → fin (c.pv c.V l r m (j + 1)) = P) ∧ (B < 0 → fin (c.pv c.V l r m (j + 1)) = P) ∧ (¬ A < 0 → ¬ B < 0 → (P < 0 → fin (c.pv c.V l r m (j + 1)) = C + A + B) ∧ (C + A + B < P → fin (c.pv c.V l r m (j + 1)) = C + A + B) ∧ (¬ P < 0 → ¬ C + A + B < P → fin (c.pv c.V l r m (j + 1)) = P)) := by
  have n2 := h.n2
  have p := h.fin_pv (m := m) hr hj
  have a := h.fin_V (l := l + j + 1) (r := r) (m := m - c.w (l + j + 1)) (by omega) hr
  have b := h.fin_V (l := l) (r := l + j + 1) (m := m) (by omega) (by omega)
  have c0 := h.cs_0 l (j + 1)
  have c2 := h.cs_2 l (j + 1)
  rw [hP] at p
  rw [hA] at a
  rw [hB] at b
  rw [hC] at c0 c2
  have e : c.pv c.V l r m (j + 1) = min (c.pv c.V l r m j) (C + c.V (l + j + 1) r (m - c.w (l + j + 1)) + c.V l (l + j + 1) m) := by rw [pv, if_pos hn, hC]
  rw [e]
  generalize c.pv c.V l r m j = p' at *
  generalize c.V (l + j + 1) r (m - c.w (l + j + 1)) = a' at *
  generalize c.V l (l + j + 1) m = b' at *
  clear e hn
  unfold fin at *
  have hj64 : ((j + 1 : Nat) : Int) ≤ 64 := by omega
  refine ⟨fun h1 => ?_, fun h1 => ?_, fun h1 h2 => ⟨fun h3 => ?_, fun h3 => ?_, fun h3 h4 => ?_⟩⟩
  all_goals
    split
    · rcases p with ⟨p1, p2⟩ | ⟨p1, p2, p3⟩ <;> rcases a with ⟨a1, a2⟩ | ⟨a1, a2, a3⟩ <;> rcases b with ⟨b1, b2⟩ | ⟨b1, b2, b3⟩ <;> omega
    · rcases p with ⟨p1, p2⟩ | ⟨p1, p2, p3⟩ <;> rcases a with ⟨a1, a2⟩ | ⟨a1, a2, a3⟩ <;> rcases b with ⟨b1, b2⟩ | ⟨b1, b2, b3⟩ <;> omega
theorem Ok.least_bounds (h : c.Ok) {l r j : Nat} {m P A B C : Int} (hr : r ≤ c.n) (hj : l + j + 1 < r) (hP : fin (c.pv c.V l r m j) = P) (hA : fin (c.V (l + j + 1) r (m - c.w (l + j + 1))) = A) (hB : fin (c.V l (l + j + 1) m) = B) (hC : c.cs l j = C) :
    -1 ≤ P ∧ P ≤ 8936830510563328 ∧ -1 ≤ A ∧ A ≤ 8936830510563328 ∧ -1 ≤ B ∧ B ≤ 8936830510563328 ∧ 0 ≤ C ∧ C ≤ 70368744177664 := by
  have n2 := h.n2
  have p := h.fin_pv (m := m) hr hj
  have a := h.fin_V (l := l + j + 1) (r := r) (m := m - c.w (l + j + 1)) (by omega) hr
  have b := h.fin_V (l := l) (r := l + j + 1) (m := m) (by omega) (by omega)
  have c0 := h.cs_0 l j
  have c2 := h.cs_2 l j
  rw [hP] at p
  rw [hA] at a
  rw [hB] at b
  rw [hC] at c0 c2
  omega
end Ch
section
variable {w : World} {A B : Option Addr} {n m p q : Nat} {c : Ch}
/-- What the reference answers for a part. -/
def LeastOk (A : Option Addr) (n p : Nat) (B : Option Addr) (m q : Nat) (c : Ch) (l r : Nat) : Prop :=
  ∀ (x : Int) (w : World) [Sl w A n c.W] [Sl w B m c.K], 0 ≤ x → x ≤ 4096 → Calls Try.prog 25 #[.slice A n p, .slice B m q, .int .i64 l, .int .i64 r, .int .i64 x] w (RetV w (.int .i64 (Ch.fin (c.V l r x))))
theorem LeastOk.at {l r : Nat} {x v : Int} (h : LeastOk A n p B m q c l r) (h0 : 0 ≤ x) (h1 : x ≤ 4096) [Sl w A n c.W] [Sl w B m c.K] (hv : Hid (Ch.fin (c.V l r x) = v)) :
    Calls Try.prog 25 #[.slice A n p, .slice B m q, .int .i64 l, .int .i64 r, .int .i64 x] w (RetV w (.int .i64 v)) := by
  rw [← hv.out]
  exact h x w h0 h1
set_option maxRecDepth 100000 in
set_option maxHeartbeats 8000000 in
theorem least_new {l r : Nat} {x : Int} (hok : Hid c.Ok) (ih : Hid (∀ l' r', l' < r' → r' - l' < r - l → r' ≤ c.n → LeastOk A n p B m q c l' r')) (hl : l < r) (hr : r ≤ c.n) (x0 : 0 ≤ x) (x4 : x ≤ 4096) [a : Sl w A n c.W] [b : Sl w B m c.K] :
    Calls Try.prog 25 #[.slice A n p, .slice B m q, .int .i64 l, .int .i64 r, .int .i64 x] w (RetV w (.int .i64 (Ch.fin (c.V l r x)))) := by
  have CB := @cell_bx
  have CP := @cell_prev
  have h64 := hok.out.n2
  have hmn : m = c.n := b.len
  have hnn : n = c.n + 1 := a.len.trans hok.out.len
  have hln : l < n := by omega
  have hrn : r < n := by omega
  have hrm : r ≤ m := by omega
  have hmn1 : m < n := by omega
  have hr1 : r - 1 < m := by omega
  have hm64 : m ≤ 64 := by omega
  have HMN := Lib.hid hmn
  have HNN := Lib.hid hnn
  obtain ⟨V, hV⟩ : ∃ V, Ch.fin (c.V l r x) = V := ⟨_, rfl⟩
  rw [hV]
  have HV := Lib.hid hV
  obtain ⟨b8, o8, hA, ob8, w8⟩ := Sl.at_w (c := c) (w := w) (A := A) (n := n) (l := l) hln
  obtain ⟨b8', o8', hA', ob8', w8'⟩ := Sl.at_w (c := c) (w := w) (A := A) (n := n) (l := r) hrn
  obtain ⟨b9, o9, hB, ob9, w9⟩ := Sl.at_k (c := c) (w := w) (A := B) (n := m) (l := r - 1) (by omega)
  obtain rfl := hA
  injection hA' with hA'
  injection hA' with h1 h2
  subst h1 h2
  obtain rfl := hB
  clear ob8'
  obtain ⟨G, hG⟩ : ∃ G : Int, (if r = c.n then 0 else c.w r) = G := ⟨_, rfl⟩
  have HG := Lib.hid hG
  obtain ⟨O, hO⟩ : ∃ O : Int, c.kept l = O := ⟨_, rfl⟩
  have HO := Lib.hid hO
  have G0 : 0 ≤ G := by rw [← hG]; split; omega; exact hok.out.w_0 r
  have G2 : G ≤ 65536 := by rw [← hG]; split; omega; exact hok.out.w_2 r
  have O0 : 0 ≤ O := by rw [← hO]; exact hok.out.kept_0 l
  have O2 : O ≤ 65536 := by rw [← hO]; exact hok.out.kept_2 l
  clear hmn hnn hV hG hO h64
  go_enter Try.func25, Try.ntmps25
  go_upto_if 24 with fail
  go_cut [12] (fun v wx => v = .int .i64 G ∧ w = wx)
  case first =>
    by_cases h : r < m
    · have e : c.w r = G := by rw [← HG.out, if_neg (by have := HMN.out; omega)]
      go_wp2_with fail
      go_meet
      exact ⟨rfl, rfl⟩
    · have e : G = 0 := by rw [← HG.out, if_pos (by have := HMN.out; omega)]
      go_wp2_with fail
      go_meet
      exact ⟨by rw [e], rfl⟩
  obtain ⟨rfl, rfl⟩ := hcut
  go_upto_if 30 with fail
  go_cut [13] (fun v wx => v = .int .i64 O ∧ w = wx)
  case first =>
    by_cases h : 0 < l
    · have e : c.w l = O := by rw [← HO.out, Ch.kept, if_neg (by omega)]
      go_wp2_with fail
      go_meet
      exact ⟨rfl, rfl⟩
    · have e : O = 0 := by rw [← HO.out, Ch.kept, if_pos (by omega)]
      go_wp2_with fail
      go_meet
      exact ⟨by rw [e], rfl⟩
  obtain ⟨rfl, rfl⟩ := hcut
  by_cases e : r = l + 1
  · have t1 : ((r : Int) == (l : Int) + 1) = true := by simp; omega
    have hV1 : Ch.fin (if c.w r + O ≤ x then c.own r else 1152921504606846976) = V := by
      rw [← HV.out]
      subst e
      rw [Ch.V_one, Ch.single, HO.out]
    have w0 := hok.out.w_0 r
    have w2 := hok.out.w_2 r
    by_cases hrn2 : r = m
    · have t2 : ((r : Int) == (m : Int)) = true := by simp; omega
      have k0 := hok.out.k_0 (r - 1)
      have k2 := hok.out.k_2 (r - 1)
      have hsub : IntKind.i64.wrap ((m : Int) - 1) = ((r - 1 : Nat) : Int) := by rw [IntKind.wrap_i64]; omega
      have hs : IntKind.i64.wrap (c.w r + O) = c.w r + O := by rw [IntKind.wrap_i64]; omega
      have wm : w.cell? ⟨b8, o8 + m, none⟩ = some (.int .i64 (c.w r)) := by rw [← hrn2]; exact w8'
      by_cases hx : x < c.w r + O
      · have HT : Hid (V = -1) := Lib.hid (by rw [← hV1, if_neg (by omega)]; rfl)
        clear hV1 e hrn2
        go_wp2_with fail
        go_ret
        exact ⟨by rw [HT.out]; rfl, prev_bel _ _⟩
      · have HT : Hid (V = c.k (r - 1)) := Lib.hid (by rw [← hV1, if_pos (by omega), Ch.own, if_pos (by have := HMN.out; omega), Ch.fin, if_pos (by omega)])
        clear hV1 e hrn2
        go_wp2_with fail
        go_ret
        exact ⟨by rw [HT.out]; rfl, prev_bel _ _⟩
    · have t2 : ((r : Int) == (m : Int)) = false := by simp; omega
      have hg : G = c.w r := by rw [← HG.out, if_neg (by have := HMN.out; omega)]
      have hs : IntKind.i64.wrap (G + O) = G + O := by rw [IntKind.wrap_i64]; omega
      rw [← hg] at hV1
      by_cases hx : x < G + O
      · have HT : Hid (V = -1) := Lib.hid (by rw [← hV1, if_neg (by omega)]; rfl)
        clear hV1 e hrn2 hg
        go_wp2_with fail
        go_ret
        exact ⟨by rw [HT.out]; rfl, prev_bel _ _⟩
      · have HT : Hid (V = 0) := Lib.hid (by rw [← hV1, if_pos (by omega), Ch.own, if_neg (by have := HMN.out; omega)]; rfl)
        clear hV1 e hrn2 hg
        go_wp2_with fail
        go_ret
        exact ⟨by rw [HT.out]; rfl, prev_bel _ _⟩
  have t1 : ((r : Int) == (l : Int) + 1) = false := by simp; omega
  have hlr : l + 1 < r := by omega
  clear e w8 w8' w9
  go_wp2_with fail
  go_loopw [14, 15, 16] (fun y z i wr => ∃ (j k : Nat) (P C : Int), k ≤ r ∧ y = .int .i64 P ∧ z = .int .i64 C ∧ i = .int .i64 k ∧ Hid (k = l + j + 1) ∧ Hid (Ch.fin (c.pv c.V l r x j) = P) ∧ Hid (c.cs l j = C) ∧ Hid (c.nd l r j ≤ x) ∧ Prev wr w) (fun _ _ i _ => r - (intOf i).toNat)
  case atStart => exact ⟨0, l + 1, -1, 0, by omega, rfl, rfl, by go_num, Lib.hid rfl, Lib.hid rfl, Lib.hid rfl, Lib.hid x0, prev_bel _ _⟩
  case round =>
    obtain ⟨j, k, P, C, hk, rfl, rfl, rfl, HKJ, HP, HC, HND, pr⟩ := hrel
    by_cases hlt : k < r
    rotate_left
    · have HT : Hid (V = P) := Lib.hid (by rw [← HV.out, ← HP.out, Ch.V_more hlr, show r - l - 1 = j from by have := HKJ.out; omega])
      go_wp2_with fail
      go_ret
      exact ⟨by rw [HT.out]; rfl, prev_bel _ _⟩
    have hlk : l < k := by have := HKJ.out; omega
    have hkn : k < n := by omega
    obtain ⟨jl, hjl⟩ : ∃ jl, l + j = jl := ⟨_, rfl⟩
    have HJL := Lib.hid hjl
    have hjm : jl < m := by have := HKJ.out; omega
    have hjn : jl < n := by omega
    have hljl : l ≤ jl := by omega
    have hkj : k = jl + 1 := by have := HKJ.out; omega
    have hsub : IntKind.i64.wrap ((k : Int) - 1) = (jl : Int) := by rw [IntKind.wrap_i64]; omega
    obtain ⟨b1, o1, hA1, ob1, v1⟩ := Sl.at_w (c := c) (w := w) (A := some ⟨b8, o8, none⟩) (n := n) (l := k) hkn
    obtain ⟨b2, o2, hA2, ob2, v2⟩ := Sl.at_w (c := c) (w := w) (A := some ⟨b8, o8, none⟩) (n := n) (l := jl) (by omega)
    obtain ⟨b3, o3, hA3, ob3, v3⟩ := Sl.at_k (c := c) (w := w) (A := some ⟨b9, o9, none⟩) (n := m) (l := jl) hjm
    injection hA1 with hA1
    injection hA1 with h1 h2
    subst h1 h2
    injection hA2 with hA2
    injection hA2 with h1 h2
    subst h1 h2
    injection hA3 with hA3
    injection hA3 with h1 h2
    subst h1 h2
    obtain ⟨N, hN⟩ : ∃ N : Int, c.step l r k = N := ⟨_, rfl⟩
    have wk0 := hok.out.w_0 k
    have wk2 := hok.out.w_2 k
    have wj0 := hok.out.w_0 jl
    have wj2 := hok.out.w_2 jl
    have hstep : c.w k + (if k - 1 = l then 0 else c.w (k - 1)) + G = N := by rw [← hN, ← HG.out]; rfl
    have e1 : k - 1 = jl := by omega
    rw [e1] at hstep
    have hwN : c.w k ≤ N := by split at hstep <;> omega
    have hs1 : IntKind.i64.wrap (c.w k + G) = c.w k + G := by rw [IntKind.wrap_i64]; omega
    have HN := Lib.hid hN
    clear hN e1 hjl hkj ob1 ob2 ob3
    go_upto_if 76 with fail
    go_cut [17] (fun v wx => v = .int .i64 N ∧ wr = wx)
    case first =>
      by_cases h : l < jl
      · have e : IntKind.i64.wrap (c.w k + G + c.w jl) = N := by rw [if_neg (by omega)] at hstep; rw [IntKind.wrap_i64]; omega
        clear hstep
        go_wp2_with fail
        go_meet
        exact ⟨rfl, rfl⟩
      · have e : c.w k + G = N := by rw [if_pos (by omega)] at hstep; omega
        clear hstep
        go_wp2_with fail
        go_meet
        exact ⟨rfl, rfl⟩
    obtain ⟨rfl, rfl⟩ := hcut
    have hnd : c.nd l r (j + 1) = max (c.nd l r j) N := by rw [Ch.nd, ← HKJ.out, HN.out]
    by_cases hx : x < N
    · have HT : Hid (V = P) := Lib.hid (by rw [← HV.out, ← HP.out]; exact Ch.fin_stop (by have := HKJ.out; omega) (by omega))
      clear hnd hstep
      go_wp2_with fail
      go_ret
      exact ⟨by rw [HT.out]; rfl, prev_bel _ _⟩
    have HND2 : Hid (c.nd l r (j + 1) ≤ x) := Lib.hid (by have := HND.out; omega)
    clear hnd hstep
    obtain ⟨X, hX⟩ : ∃ X, x - c.w k = X := ⟨_, rfl⟩
    have hw1 : IntKind.i64.wrap (x - c.w k) = X := by rw [← hX, IntKind.wrap_i64]; omega
    obtain ⟨E, hE⟩ : ∃ E, Ch.fin (c.V k r X) = E := ⟨_, rfl⟩
    obtain ⟨F, hF⟩ : ∃ F, Ch.fin (c.V l k x) = F := ⟨_, rfl⟩
    have HE := Lib.hid hE
    have HF := Lib.hid hF
    have H1 := (ih.out k r hlt (by omega) hr).at (A := some ⟨b8, o8, none⟩) (B := some ⟨b9, o9, none⟩) (x := X) (w := wr) (by omega) (by omega) HE
    have H2 : ∀ v : World, Prev v wr → Calls Try.prog 25 #[.slice (some ⟨b8, o8, none⟩) n p, .slice (some ⟨b9, o9, none⟩) m q, .int .i64 l, .int .i64 k, .int .i64 x] v (RetV v (.int .i64 F)) := fun v _ => (ih.out l k hlk (by omega) (by omega)).at (A := some ⟨b8, o8, none⟩) (B := some ⟨b9, o9, none⟩) (x := x) (w := v) x0 x4 HF
    have hj1 : l + j + 1 < r := by have := HKJ.out; omega
    have hkj1 : k = l + j + 1 := HKJ.out
    obtain ⟨C2, hC2⟩ : ∃ C2, C + c.k jl = C2 := ⟨_, rfl⟩
    have HC2 : Hid (c.cs l (j + 1) = C2) := Lib.hid (by rw [Ch.cs, HC.out, HJL.out, hC2])
    have hst := hok.out.least_step hr hj1 HND2.out HP.out (A := E) (B := F) (C := C2) (by rw [← hkj1, hX]; exact hE) (by rw [← hkj1]; exact hF) HC2.out
    obtain ⟨bP, bP2, bE, bE2, bF, bF2, bC, bC2⟩ := hok.out.least_bounds hr hj1 HP.out (A := E) (B := F) (C := C) (by rw [← hkj1, hX]; exact hE) (by rw [← hkj1]; exact hF) HC.out
    have k0 := hok.out.k_0 jl
    have k2 := hok.out.k_2 jl
    have hw2 : IntKind.i64.wrap (C + c.k jl) = C2 := by rw [hC2, IntKind.wrap_i64]; omega
    have hw3 : IntKind.i64.wrap (C2 + E) = C2 + E := by rw [IntKind.wrap_i64]; omega
    have hw4 : IntKind.i64.wrap (C2 + E + F) = C2 + E + F := by rw [IntKind.wrap_i64]; omega
    have HST := Lib.hid hst
    have HK1 : Hid (k + 1 = l + (j + 1) + 1) := Lib.hid (by omega)
    clear hst hX hE hF hC2 hj1 hkj1
    by_cases hE0 : E < 0
    · have HP2 := Lib.hid (HST.out.1 hE0)
      go_wp2_with (first | (go_at_call 25; (with_reducible refine H1.mono ?_); rintro e u ⟨rfl, _⟩) | (go_at_call 25; (with_reducible refine (H2 _ (prev_bel _ _)).mono ?_); rintro e u ⟨rfl, _⟩))
      go_roundw
      case rel => exact ⟨j + 1, k + 1, P, C2, by omega, rfl, rfl, by go_num, HK1, HP2, HC2, HND2, prev_bel _ _⟩
      case measure => simp [intOf]; omega
    by_cases hF0 : F < 0
    · have HP2 := Lib.hid (HST.out.2.1 hF0)
      go_wp2_with (first | (go_at_call 25; (with_reducible refine H1.mono ?_); rintro e u ⟨rfl, _⟩) | (go_at_call 25; (with_reducible refine (H2 _ (prev_bel _ _)).mono ?_); rintro e u ⟨rfl, _⟩))
      go_roundw
      case rel => exact ⟨j + 1, k + 1, P, C2, by omega, rfl, rfl, by go_num, HK1, HP2, HC2, HND2, prev_bel _ _⟩
      case measure => simp [intOf]; omega
    by_cases hP0 : P < 0
    · have HP2 := Lib.hid ((HST.out.2.2 hE0 hF0).1 hP0)
      go_wp2_with (first | (go_at_call 25; (with_reducible refine H1.mono ?_); rintro e u ⟨rfl, _⟩) | (go_at_call 25; (with_reducible refine (H2 _ (prev_bel _ _)).mono ?_); rintro e u ⟨rfl, _⟩))
      go_roundw
      case rel => exact ⟨j + 1, k + 1, C2 + E + F, C2, by omega, rfl, rfl, by go_num, HK1, HP2, HC2, HND2, prev_bel _ _⟩
      case measure => simp [intOf]; omega
    by_cases hS : C2 + E + F < P
    · have HP2 := Lib.hid ((HST.out.2.2 hE0 hF0).2.1 hS)
      go_wp2_with (first | (go_at_call 25; (with_reducible refine H1.mono ?_); rintro e u ⟨rfl, _⟩) | (go_at_call 25; (with_reducible refine (H2 _ (prev_bel _ _)).mono ?_); rintro e u ⟨rfl, _⟩))
      go_roundw
      case rel => exact ⟨j + 1, k + 1, C2 + E + F, C2, by omega, rfl, rfl, by go_num, HK1, HP2, HC2, HND2, prev_bel _ _⟩
      case measure => simp [intOf]; omega
    · have HP2 := Lib.hid ((HST.out.2.2 hE0 hF0).2.2 hP0 hS)
      go_wp2_with (first | (go_at_call 25; (with_reducible refine H1.mono ?_); rintro e u ⟨rfl, _⟩) | (go_at_call 25; (with_reducible refine (H2 _ (prev_bel _ _)).mono ?_); rintro e u ⟨rfl, _⟩))
      go_roundw
      case rel => exact ⟨j + 1, k + 1, P, C2, by omega, rfl, rfl, by go_num, HK1, HP2, HC2, HND2, prev_bel _ _⟩
      case measure => simp [intOf]; omega
/-- The reference's least cost is that of the recurrence. -/
theorem r20_leastOk (hok : Hid c.Ok) : ∀ (s l r : Nat), r - l ≤ s → l < r → r ≤ c.n → LeastOk A n p B m q c l r
  | 0, l, r, hs, hl, _ => by omega
  | s + 1, l, r, hs, hl, hr => fun x w _ _ x0 x4 => least_new hok (Lib.hid fun l' r' h1 h2 h3 => r20_leastOk hok s l' r' (by omega) h1 h3) hl hr x0 x4
theorem r20_least {x v : Int} (hok : Hid c.Ok) (x0 : 0 ≤ x) (x4 : x ≤ 4096) [a : Sl w A n c.W] [b : Sl w B m c.K] (hv : Hid (Ch.fin (c.V 0 c.n x) = v)) : Calls Try.prog 25 #[.slice A n p, .slice B m q, .int .i64 0, .int .i64 m, .int .i64 x] w (RetV w (.int .i64 v)) := by
  have h := (r20_leastOk hok c.n 0 c.n (by omega) hok.out.n1 (Nat.le_refl _) (A := A) (n := n) (p := p) (B := B) (m := m) (q := q)).at x0 x4 hv (w := w)
  have e : m = c.n := b.len
  subst e
  exact h
end
end Go.Proofs.Ytphcffcecncngaa
