/- Lowest. -/
import Derived.Test.YtphcffcecncngaaChainBest
namespace Go.Proofs.Ytphcffcecncngaa
open Go.RowKit

/-- Row l of the words that are needed, as filled ahead of R. -/
def Ch.lowR (c : Ch) (l R N : Nat) : List Int := (List.range N).map fun r => if l < r ∧ r < R then c.N l r else 0
section
variable {c : Ch} {l r R N : Nat}
theorem Ch.lowR_get (h : r < N) : (c.lowR l R N)[r]? = some (if l < r ∧ r < R then c.N l r else 0) := by simp [Ch.lowR, h]
theorem Ch.lowR_zero : c.lowR l (l + 1) N = List.replicate N 0 := by
  apply List.ext_getElem?
  intro i
  by_cases h : i < N
  · rw [Ch.lowR_get h, if_neg (by omega), List.getElem?_replicate, if_pos h]
  · rw [List.getElem?_eq_none (by simp [Ch.lowR]; omega), List.getElem?_eq_none (by simp; omega)]
theorem Ch.lowR_set (h1 : l < R) (h2 : R < N) : (c.lowR l R N).set R (c.N l R) = c.lowR l (R + 1) N := by
  apply List.ext_getElem?
  intro i
  rw [List.getElem?_set]
  by_cases h : i < N
  · rw [Ch.lowR_get h, Ch.lowR_get h]
    split
    · rename_i e; subst e; rw [if_pos (by simp [Ch.lowR]; omega), if_pos ⟨h1, Nat.lt_succ_self _⟩]
    · congr 1
      by_cases e : l < i ∧ i < R
      · rw [if_pos e, if_pos (by omega)]
      · rw [if_neg e, if_neg (by omega)]
  · rw [if_neg (by omega), List.getElem?_eq_none (by simp [Ch.lowR]; omega), List.getElem?_eq_none (by simp [Ch.lowR]; omega)]
end
/-- The cells of the rows: those from L on are there. -/
def lowC (G : Nat → Nat) (L N : Nat) : Array Value := ((List.range N).map fun i => if L ≤ i ∧ i + 1 < N then Value.slice (some ⟨G i, 0, none⟩) N N else .slice none 0 0).toArray
def updG (G : Nat → Nat) (L g : Nat) : Nat → Nat := fun i => if i = L then g else G i
section
variable {G : Nat → Nat} {L N i g : Nat}
theorem lowC_get (h : i < N) : (lowC G L N)[i]? = some (if L ≤ i ∧ i + 1 < N then Value.slice (some ⟨G i, 0, none⟩) N N else .slice none 0 0) := by simp [lowC, h]
theorem lowC_at (h1 : L ≤ i) (h2 : i + 1 < N) : (lowC G L N)[i]? = some (Value.slice (some ⟨G i, 0, none⟩) N N) := by rw [lowC_get (by omega), if_pos ⟨h1, h2⟩]
theorem lowC_set (h : L + 1 < N) : (lowC G (L + 1) N).setIfInBounds L (.slice (some ⟨g, 0, none⟩) N N) = lowC (updG G L g) L N := by
  apply Array.ext_getElem?
  intro i
  rw [Array.getElem?_setIfInBounds]
  by_cases hi : i < N
  · rw [lowC_get hi, lowC_get hi]
    by_cases e : L = i
    · subst e
      rw [if_pos rfl, if_pos (by simp [lowC]; omega), if_pos ⟨Nat.le_refl _, h⟩, updG, if_pos rfl]
    · rw [if_neg e]
      congr 1
      by_cases e2 : L + 1 ≤ i ∧ i + 1 < N
      · rw [if_pos e2, if_pos (by omega), updG, if_neg (by omega)]
      · rw [if_neg e2, if_neg (by omega)]
  · rw [if_neg (by omega), Array.getElem?_eq_none (by simp [lowC]; omega), Array.getElem?_eq_none (by simp [lowC]; omega)]
theorem made_low (N : Nat) : madeCells #[Value.slice none 0 0] N = lowC G (N - 1) N := by
  apply Array.ext'
  simp only [madeCells, Array.toList_map, Array.toList_range, lowC]
  apply List.ext_getElem
  · simp
  · intro i h1 h2
    simp
    rw [if_neg (by simp at h1; omega), Nat.mod_one]; rfl
theorem make_low (n : Nat) (hn : n ≤ 1000000) (W : World) : (Instr.makeSlice 117 (.int .i64 (n : Int)) (.int .i64 (n : Int))).run Try.prog W = .ok (.slice (some ⟨W.heap.size, 0, none⟩) n n) (W.alloc (.cells (lowC id (n - 1) n) 22)) := by
  rw [← made_low]
  exact run_make_row' (P := Try.prog) 117 22 (.slice none 0 0) 24 Try.underlying117 (by kernel_rfl) rfl .i64 .i64 n (by omega) (by omega) W
end
theorem Blk.ne_ty {w : World} {g k : Nat} {T T' : TypeId} {cs cs' : Array Value} (h : Blk w g T cs) (h' : Blk w k T' cs') (hT : T ≠ T') : g ≠ k := fun e => by
  subst e
  unfold Blk at h h'
  rw [h] at h'
  injection h' with h'; injection h' with _ h2
  exact hT h2
/-- The rows in memory: row L is filled ahead of R, those behind it wholly. -/
structure LW (w0 w : World) (gn : Nat) (G : Nat → Nat) (c : Ch) (L R N : Nat) : Prop where
  pr : Prev w w0
  nb : Bx w gn 22 (lowC G L N)
  rows : ∀ i, L ≤ i → i + 1 < N → Bx w (G i) 3 (ints (c.lowR i (if i = L then R else N) N))
  inj : ∀ i j, L ≤ i → i + 1 < N → L ≤ j → j + 1 < N → G i = G j → i = j
  ge : ∀ i, L ≤ i → i + 1 < N → w0.heap.size ≤ G i
  hgn : w0.heap.size ≤ gn
section
variable {w w' w0 : World} {A B : Option Addr} {n m p q gn : Nat} {G : Nat → Nat} {c : Ch} {L R N : Nat}
theorem LW.at [l : Later w w'] (h : LW w0 w gn G c L R N) : LW w0 w' gn G c L R N := by
  have hp := h.pr
  have : Later w0 w := inferInstance
  exact ⟨⟨(Later.trans this l).st⟩, ⟨h.nb.blk.at⟩, fun i h1 h2 => ⟨(h.rows i h1 h2).blk.at⟩, h.inj, h.ge, h.hgn⟩
theorem Ch.lowR_cell {l r : Nat} (h1 : l < r) (h2 : r < R) (h3 : r < N) : (ints (c.lowR l R N))[r]? = some (.int .i64 (c.N l r)) := by
  rw [ints_get, Ch.lowR_get h3, if_pos ⟨h1, h2⟩]; rfl
theorem LW.top (h : LW w0 w gn G c L R N) (hL : L + 1 < N) : Bx w (G L) 3 (ints (c.lowR L R N)) := by
  have := h.rows L (Nat.le_refl _) hL
  rwa [if_pos rfl] at this
theorem LW.low (h : LW w0 w gn G c L R N) {i : Nat} (h1 : L < i) (h2 : i + 1 < N) : Bx w (G i) 3 (ints (c.lowR i N N)) := by
  have := h.rows i (Nat.le_of_lt h1) h2
  rwa [if_neg (by omega)] at this
/-- The next cell of row L. -/
theorem LW.set (h : LW w0 w gn G c L R N) (h1 : L < R) (h2 : R < N) (hL : L + 1 < N) : LW w0 (w.setCell ⟨G L, R, none⟩ (.int .i64 (c.N L R))) gn G c L (R + 1) N := by
  have hpr := h.pr
  have kL := h.rows L (Nat.le_refl _) hL
  rw [if_pos rfl] at kL
  have S : ∀ b, b ≠ G L → (w.setCell ⟨G L, R, none⟩ (.int .i64 (c.N L R))).heap[b]? = w.heap[b]? := fun b hb => Below.heap_setCell _ ⟨G L, R, none⟩ _ _ hb
  refine ⟨⟨(bel w0 w).setCell (p := ⟨G L, R, none⟩) (h.ge L (Nat.le_refl _) hL) _⟩, ⟨(S _ (h.nb.blk.ne_ty kL.blk (by decide))).trans h.nb.blk⟩, fun i h3 h4 => ?_, h.inj, h.ge, h.hgn⟩
  by_cases e : i = L
  · subst e
    rw [if_pos rfl, ← Ch.lowR_set h1 h2]
    exact ⟨by
      have := kL.blk.set_ R (.int .i64 (c.N i R))
      rwa [ints_set] at this⟩
  · have k := h.rows i h3 h4
    rw [if_neg e] at k ⊢
    exact ⟨(S _ fun x => e (h.inj i L h3 h4 (Nat.le_refl _) hL x)).trans k.blk⟩
/-- A new row. -/
theorem LW.row [l : Prev w' w] (h : LW w0 w gn G c (L + 1) N N) (k : Bx w' w.heap.size 3 (ints (List.replicate N 0))) (hL : L + 1 < N) : LW w0 (w'.setCell ⟨gn, L, none⟩ (.slice (some ⟨w.heap.size, 0, none⟩) N N)) gn (updG G L w.heap.size) c L (L + 1) N := by
  have hpr := h.pr
  have h' := h.at (w' := w')
  have hp' := h'.pr
  have S : ∀ b, b ≠ gn → (w'.setCell ⟨gn, L, none⟩ (.slice (some ⟨w.heap.size, 0, none⟩) N N)).heap[b]? = w'.heap[b]? := fun b hb => Below.heap_setCell _ ⟨gn, L, none⟩ _ _ hb
  have un : ∀ i, i ≠ L → updG G L w.heap.size i = G i := fun i e => by rw [updG, if_neg e]
  have uy : updG G L w.heap.size L = w.heap.size := by rw [updG, if_pos rfl]
  refine ⟨⟨(bel w0 w').setCell (p := ⟨gn, L, none⟩) h.hgn _⟩, ⟨by rw [← lowC_set hL]; exact h'.nb.blk.set_ L _⟩, fun i h3 h4 => ?_, fun i j h1 h2 h3 h4 e => ?_, fun i h1 h2 => ?_, h.hgn⟩
  · by_cases e : i = L
    · subst e
      rw [if_pos rfl, Ch.lowR_zero, uy]
      exact ⟨(S _ (k.blk.ne_ty h'.nb.blk (by decide))).trans k.blk⟩
    · have k2 := h'.rows i (by omega) h4
      rw [ite_self] at k2
      rw [if_neg e, un i e]
      exact ⟨(S _ (k2.blk.ne_ty h'.nb.blk (by decide))).trans k2.blk⟩
  · have lt : ∀ x, L + 1 ≤ x → x + 1 < N → G x < w.heap.size := fun x h1 h2 => (h.rows x h1 h2).blk.lt
    by_cases e1 : i = L
    · by_cases e2 : j = L
      · omega
      · rw [e1, uy, un j e2] at e
        have := lt j (by omega) h4
        omega
    · by_cases e2 : j = L
      · rw [e2, uy, un i e1] at e
        have := lt i (by omega) h2
        omega
      · rw [un i e1, un j e2] at e
        exact h.inj i j (by omega) h2 (by omega) h4 e
  · by_cases e : i = L
    · rw [e, uy]; exact h.pr.st.size
    · rw [un i e]; exact h.ge i (by omega) h2
/-- What Lowest returns. -/
def Ch.lowV (c : Ch) : Int := if c.okB = true then (if 4096 < c.N 0 c.n then 0 else c.N 0 c.n) else 0
def Ch.lowE (c : Ch) : Int := if c.okB = true then (if 4096 < c.N 0 c.n then 26 else 0) else 10
set_option maxRecDepth 100000 in
set_option maxHeartbeats 8000000 in
theorem ch_lowest [a : Sl w A n c.W] [b : Sl w B m c.K] : Calls Try.prog 21 #[.agg #[.slice A n p, .slice B m q]] w (RetV w (.tuple #[.int .i64 c.lowV, .int .i64 c.lowE])) := by
  have CB := @cell_bx
  have CP := @cell_prev
  have FB := @frozen_bx
  rcases h0 : c.okB with _ | _
  · have HT : Hid (c.lowV = 0 ∧ c.lowE = 10) := Lib.hid ⟨by rw [Ch.lowV, h0]; rfl, by rw [Ch.lowE, h0]; rfl⟩
    go_enter Try.func21, Try.ntmps21
    go_wp2_with (first | (go_at_call 22; (try first | (with_reducible refine gen_boxK3 (fun u _ _ _ _ => ?_)) | (with_reducible refine gen_boxK2 (fun u _ _ _ => ?_)) | (with_reducible refine gen_boxK (fun u _ _ => ?_))); (with_reducible refine (ch_right).mono ?_); rintro e u ⟨rfl, _⟩))
    go_ret2
    exact ⟨by rw [HT.out.1, HT.out.2]; rfl, prev_bel _ _⟩
  have hok := Lib.hid (Ch.ok_of h0)
  have hmn : m = c.n := b.len
  have hnm : n = m + 1 := by rw [hmn]; exact a.len.trans hok.out.len
  have m64 : m ≤ 64 := by rw [hmn]; exact hok.out.n2
  have m1 : 1 ≤ m := by rw [hmn]; exact hok.out.n1
  have hn1 : (n : Int) = (m : Int) + 1 := by omega
  have HMR := make_intN n (by omega)
  have HML := make_low n (by omega)
  rw [hn1] at HMR HML
  rw [show n - 1 = m from by omega] at HML
  have hsub : IntKind.i64.wrap ((m : Int) - 1) = (m : Int) - 1 := by rw [IntKind.wrap_i64]; omega
  have HM := Lib.hid hmn
  have HV : Hid (c.lowV = (if 4096 < c.N 0 m then 0 else c.N 0 m) ∧ c.lowE = (if 4096 < c.N 0 m then 26 else 0)) := Lib.hid ⟨by rw [Ch.lowV, if_pos h0, hmn], by rw [Ch.lowE, if_pos h0, hmn]⟩
  have HNM := Lib.hid hnm
  have hmn1 : m < n := by omega
  clear hn1 hmn hnm
  go_enter Try.func21, Try.ntmps21
  go_upto_region 5 with (first | (go_at_call 22; (try first | (with_reducible refine gen_boxK3 (fun u _ _ _ _ => ?_)) | (with_reducible refine gen_boxK2 (fun u _ _ _ => ?_)) | (with_reducible refine gen_boxK (fun u _ _ => ?_))); (with_reducible refine (ch_right).mono ?_); rintro e u ⟨rfl, _⟩))
  refine gen_box1C (fun u2 _ _ => ?_)
  have HLW : Hid (LW w u2 (World.heap u).size id c m n n) := Lib.hid ⟨prev_bel _ _, inferInstance, fun i h1 h2 => by have := HNM.out; omega, fun i j h1 h2 _ _ _ => by have := HNM.out; omega, fun i h1 h2 => by have := HNM.out; omega, later_size⟩
  obtain ⟨gn, hgn⟩ : ∃ g : Nat, g = (World.heap u).size := ⟨_, rfl⟩
  rw [← hgn] at HLW ⊢
  clear hgn
  go_wp2_with fail
  go_loopw [6] (fun x wr => ∃ (L : Nat) (z : Int) (G : Nat → Nat), L ≤ m ∧ x = .int .i64 z ∧ Hid (z = (L : Int) - 1) ∧ Hid (LW w wr gn G c L n n) ∧ Bx wr w.heap.size 24 #[.slice A n p, .slice B m q] ∧ Prev wr w) (fun x _ => (intOf x + 1).toNat)
  case atStart => exact ⟨m, _, id, Nat.le_refl _, rfl, Lib.hid rfl, HLW, inferInstance, prev_bel _ _⟩
  case round =>
    obtain ⟨L, z, G, hL, rfl, HZ, HW, kC, pr⟩ := hrel
    rcases L with _ | l
    · obtain ⟨z', rfl, hz⟩ : ∃ z', z' = z ∧ z = -1 := ⟨z, rfl, HZ.out⟩
      obtain rfl : z' = -1 := hz
      have nb := HW.out.nb
      have k0 := HW.out.top (by have := HNM.out; omega)
      have e1 := lowC_at (G := G) (L := 0) (N := n) (i := 0) (Nat.le_refl _) (by have := HNM.out; omega)
      have e2 := Ch.lowR_cell (c := c) (l := 0) (r := m) (R := n) (N := n) (by omega) (by omega) (by omega)
      obtain ⟨x, hx⟩ : ∃ x, c.N 0 m = x := ⟨_, rfl⟩
      rw [hx] at e2 HV
      clear hx
      by_cases hx : 4096 < x
      · have HV2 : Hid (c.lowV = 0 ∧ c.lowE = 26) := Lib.hid ⟨by rw [HV.out.1, if_pos hx], by rw [HV.out.2, if_pos hx]⟩
        go_wp2_with fail
        go_ret2
        exact ⟨by rw [HV2.out.1, HV2.out.2]; rfl, prev_bel _ _⟩
      · have HV2 : Hid (c.lowV = x ∧ c.lowE = 0) := Lib.hid ⟨by rw [HV.out.1, if_neg hx], by rw [HV.out.2, if_neg hx]⟩
        go_wp2_with fail
        go_ret2
        exact ⟨by rw [HV2.out.1, HV2.out.2]; rfl, prev_bel _ _⟩
    · obtain rfl : z = (l : Int) := by have := HZ.out; omega
      have nb := HW.out.nb
      have kCn : w.heap.size ≠ gn := kC.blk.ne_ty nb.blk (by decide)
      have hln : l < n := by omega
      have hlm : l < m := by omega
      have hl1 : l + 1 < n := by have := HNM.out; omega
      have e0 : (lowC G (l + 1) n)[l]? = some (.slice none 0 0) := by rw [lowC_get hln, if_neg (by omega)]
      go_upto_region 9 with fail
      have HW2 : Hid (LW w ((wr.alloc (.cells (ints (List.replicate n 0)) 3)).setCell ⟨gn, l, none⟩ (.slice (some ⟨wr.heap.size, 0, none⟩) n n)) gn (updG G l wr.heap.size) c l (l + 1) n) := Lib.hid (HW.out.row (l := prev_bel _ _) inferInstance hl1)
      have kC2 : Bx ((wr.alloc (.cells (ints (List.replicate n 0)) 3)).setCell ⟨gn, l, none⟩ (.slice (some ⟨wr.heap.size, 0, none⟩) n n)) w.heap.size 24 #[.slice A n p, .slice B m q] := ⟨(Bx.blk (w := wr.alloc (.cells (ints (List.replicate n 0)) 3))).far kCn _⟩
      obtain ⟨v, hv⟩ : ∃ v : World, v = (wr.alloc (.cells (ints (List.replicate n 0)) 3)).setCell ⟨gn, l, none⟩ (.slice (some ⟨wr.heap.size, 0, none⟩) n n) := ⟨_, rfl⟩
      obtain ⟨G2, hG2⟩ : ∃ G2, G2 = updG G l wr.heap.size := ⟨_, rfl⟩
      rw [← hv, ← hG2] at HW2
      rw [← hv] at kC2 ⊢
      clear hv hG2 nb e0 HW kC pr
      have pv := HW2.out.pr
      go_wp2_with fail
      go_loopw [7] (fun x wr => ∃ R : Nat, l < R ∧ R ≤ n ∧ x = .int .i64 R ∧ Hid (LW w wr gn G2 c l R n) ∧ Bx wr w.heap.size 24 #[.slice A n p, .slice B m q] ∧ Prev wr w) (fun x _ => n - (intOf x).toNat)
      case atStart => exact ⟨l + 1, by omega, by omega, by go_num, HW2, kC2, pv⟩
      case round =>
        obtain ⟨R, hR, hRn, rfl, HW, kC, pr⟩ := hrel
        by_cases hlt : R < n
        rotate_left
        · have hRm : ¬ (R : Int) ≤ (m : Int) := by have := HNM.out; omega
          have hRn' : R = n := by omega
          rw [hRn'] at HW
          clear hRn'
          go_wp2_with fail
          go_roundw
          case rel => exact ⟨l, _, G2, by omega, rfl, Lib.hid rfl, HW, kC, pr⟩
          case measure => simp [intOf]
        have hRm : (R : Int) ≤ (m : Int) := by have := HNM.out; omega
        by_cases e : R = l + 1
        · have t1 : ((R : Int) == (l : Int) + 1) = true := by simp; omega
          have hRN : Hid (c.single l R = c.N l R) := Lib.hid (by rw [e, Ch.N_one])
          clear e
          go_upto_region 14 with fail
          refine gen_box1C (fun u2 _ _ => ?_)
          have HW3 := Lib.hid (HW.out.at (w' := u2))
          have nb := HW3.out.nb
          have kL := HW3.out.top hl1
          have eL := lowC_at (G := G2) (L := l) (N := n) (i := l) (Nat.le_refl _) hl1
          have oG : Own u2 (G2 l) 3 (c.lowR l R n) := kL.blk
          have hat : (c.lowR l R n)[R]? = some 0 := by rw [Ch.lowR_get hlt, if_neg (by omega)]
          have hgl := HW3.out.ge l (Nat.le_refl _) hl1
          have kCg : w.heap.size ≠ G2 l := (Bx.blk (w := u2) (T := 24) (cs := #[.slice A n p, .slice B m q])).ne_ty kL.blk (by decide)
          have eR : (ints (c.lowR l R n))[R]? = some (.int .i64 0) := by rw [ints_get, hat]; rfl
          have HAT := Lib.hid hat
          clear hat
          have kNg : gn ≠ G2 l := nb.blk.ne_ty kL.blk (by decide)
          have kPg : wr.heap.size ≠ G2 l := (Bx.blk (w := u2) (T := 100) (cs := #[.int .i64 l, .int .i64 R])).ne_ty kL.blk (by decide)
          refine wp_region_upR w (fun w9 => Bx w9 gn 22 (lowC G2 l n) ∧ Bx w9 w.heap.size 24 #[.slice A n p, .slice B m q] ∧ Bx w9 wr.heap.size 100 #[.int .i64 l, .int .i64 R]) (by kernel_rfl) ⟨inferInstance, inferInstance, inferInstance⟩ (fun ux _ => ?_)
          refine wpAnyH_on (i := 0) (d := 47) (v := ?_) rfl rfl (by kernel_rfl) (by kernel_rfl) (by kernel_rfl) (fun _ _ _ h => h) (by kernel_rfl) ⟨prev_bel _ _, ⟨inferInstance, inferInstance, inferInstance⟩⟩ ?_ ?_
          rotate_left
          · rintro uu ⟨pu, r1, r2, r3⟩
            go_simp
            try (with_reducible rfl)
          try simp only [List.set]
          refine wpAnyH_on (i := 1) (d := 48) (v := ?_) rfl rfl (by kernel_rfl) (by kernel_rfl) (by kernel_rfl) (fun _ _ _ h => h) (by kernel_rfl) ⟨prev_bel _ _, ⟨inferInstance, inferInstance, inferInstance⟩⟩ ?_ ?_
          rotate_left
          · rintro uu ⟨pu, r1, r2, r3⟩
            go_simp
            try (with_reducible rfl)
          try simp only [List.set]
          refine wpAnyH_on (i := 2) (d := 49) (v := ?_) rfl rfl (by kernel_rfl) (by kernel_rfl) (by kernel_rfl) (fun _ _ _ h => h) (by kernel_rfl) ⟨prev_bel _ _, ⟨inferInstance, inferInstance, inferInstance⟩⟩ ?_ ?_
          rotate_left
          · rintro uu ⟨pu, r1, r2, r3⟩
            go_simp
            try (with_reducible rfl)
          try simp only [List.set]
          refine wpAnyH_on (i := 3) (d := 50) (v := ?_) rfl rfl (by kernel_rfl) (by kernel_rfl) (by kernel_rfl) (fun _ _ _ h => h) (by kernel_rfl) ⟨prev_bel _ _, ⟨inferInstance, inferInstance, inferInstance⟩⟩ ?_ ?_
          rotate_left
          · rintro uu ⟨pu, r1, r2, r3⟩
            go_simp
            try (with_reducible rfl)
          try simp only [List.set]
          refine wpAnyH_on (i := 4) (d := 51) (v := ?_) rfl rfl (by kernel_rfl) (by kernel_rfl) (by kernel_rfl) (fun _ _ _ h => h) (by kernel_rfl) ⟨prev_bel _ _, ⟨inferInstance, inferInstance, inferInstance⟩⟩ ?_ ?_
          rotate_left
          · rintro uu ⟨pu, r1, r2, r3⟩
            go_simp
            try (with_reducible rfl)
          try simp only [List.set]
          refine wpAnyH_on (i := 5) (d := 52) (v := ?_) rfl rfl (by kernel_rfl) (by kernel_rfl) (by kernel_rfl) (fun _ _ _ h => h) (by kernel_rfl) ⟨prev_bel _ _, ⟨inferInstance, inferInstance, inferInstance⟩⟩ ?_ ?_
          rotate_left
          · rintro uu ⟨pu, r1, r2, r3⟩
            go_simp
            try (with_reducible rfl)
          try simp only [List.set]
          refine wpAnyH_on (i := 6) (d := 53) (v := ?_) rfl rfl (by kernel_rfl) (by kernel_rfl) (by kernel_rfl) (fun _ _ _ h => h) (by kernel_rfl) ⟨prev_bel _ _, ⟨inferInstance, inferInstance, inferInstance⟩⟩ ?_ ?_
          rotate_left
          · rintro uu ⟨pu, r1, r2, r3⟩
            go_simp
            try (with_reducible rfl)
          try simp only [List.set]
          refine wpAnyH_ready (rs := [7]) (by kernel_rfl) (by simp) ?_
          refine AllReadyH.cons rfl (fun K hK => ?_) AllReadyH.nil
          go_simp
          (with_reducible refine (ch_single hok hln hlt).mono ?_)
          rintro e ux ⟨rfl, _⟩
          dsimp only
          refine hK.out _ _ ⟨prev_bel w _, ⟨inferInstance, inferInstance, inferInstance⟩⟩ (fun hHeld => ?_)
          clear hHeld hK K
          try dsimp only [Act.put, List.setIfInBounds_toArray, List.set_cons_zero, List.set_cons_succ]
          refine wpAnyH_on (i := 8) (d := 55) (v := ?_) rfl rfl (by kernel_rfl) (by kernel_rfl) (by kernel_rfl) (fun _ _ _ h => h) (by kernel_rfl) ⟨prev_bel _ _, ⟨inferInstance, inferInstance, inferInstance⟩⟩ ?_ ?_
          rotate_left
          · rintro uu ⟨pu, r1, r2, r3⟩
            go_simp
            try (with_reducible rfl)
          try simp only [List.set]
          refine wpAnyH_ready (rs := [9]) (by kernel_rfl) (by simp) ?_
          refine AllReadyH.cons rfl (fun K hK => ?_) AllReadyH.nil
          have hcg := ((oG).at (w' := ux)).cell HAT.out
          have hfg := ((oG).at (w' := ux)).frozen R
          go_simp
          refine hK.out _ _ ⟨⟨(bel w ux).setCell (p := ⟨G2 l, R, none⟩) hgl _⟩, ⟨⟨(Bx.blk (w := ux)).far kNg _⟩, ⟨(Bx.blk (w := ux)).far kCg _⟩, ⟨(Bx.blk (w := ux)).far kPg _⟩⟩⟩ (fun hHeld => ?_)
          clear hHeld hK K hcg hfg
          try dsimp only [Act.put, List.setIfInBounds_toArray, List.set_cons_zero, List.set_cons_succ]
          refine wpAnyH_done (by kernel_rfl) ?_ _
          go_wp2_with fail
          go_roundw
          case rel =>
            refine ⟨R + 1, by omega, by omega, by go_num, Lib.hid ?_, ⟨(Bx.blk (w := ux)).far kCg _⟩, ⟨(bel w ux).setCell (p := ⟨G2 l, R, none⟩) hgl _⟩⟩
            rw [hRN.out]
            exact (HW3.out.at (w' := ux)).set hR hlt hl1
          case measure => simp [intOf]; omega
        · have t1 : ((R : Int) == (l : Int) + 1) = false := by simp; omega
          have hR2 : l + 1 < R := by omega
          have hRm' : R ≤ m := by omega
          clear e
          go_upto_region 15 with fail
          refine gen_box1C (fun u2 _ _ => ?_)
          have HW3 := Lib.hid (HW.out.at (w' := u2))
          have nb := HW3.out.nb
          have kL := HW3.out.top hl1
          have eL := lowC_at (G := G2) (L := l) (N := n) (i := l) (Nat.le_refl _) hl1
          have hgl := HW3.out.ge l (Nat.le_refl _) hl1
          have kCg : w.heap.size ≠ G2 l := (Bx.blk (w := u2) (T := 24) (cs := #[.slice A n p, .slice B m q])).ne_ty kL.blk (by decide)
          go_wp2_with fail
          go_loopw [9, 10, 11] (fun x y z wk => ∃ j k : Nat, k ≤ R ∧ Hid (k = l + j + 1) ∧ x = .int .i64 (c.nv c.N l R j) ∧ y = .int .i64 (c.nd l R j) ∧ z = .int .i64 k ∧ Prev wk u2) (fun _ _ z _ => R - (intOf z).toNat)
          case atStart => exact ⟨0, l + 1, by omega, Lib.hid rfl, rfl, rfl, by go_num, prev_bel _ _⟩
          case round =>
            obtain ⟨j, k, hkR', HK, rfl, rfl, rfl, pk⟩ := hrel
            by_cases hkR : k < R
            · have hkn : k < n := by omega
              have hlk : l < k := by have := HK.out; omega
              have hk1 : k + 1 < n := by omega
              obtain ⟨b1, o1, rfl, ob1, v1⟩ := Sl.at_w (c := c) (w := w) (A := A) (n := n) (l := k) hkn
              have kk := HW3.out.low hlk hk1
              have ek := lowC_at (G := G2) (L := l) (N := n) (i := k) (Nat.le_of_lt hlk) hk1
              have c1 := Ch.lowR_cell (c := c) (l := k) (r := R) (R := n) (N := n) hkR hlt hlt
              have c2 := Ch.lowR_cell (c := c) (l := l) (r := k) (R := R) (N := n) hlk hkR hkn
              have n0 := hok.out.N_0 hkR
              have n2 := hok.out.N_le hkR
              have w0 := hok.out.w_0 k
              have w2 := hok.out.w_2 k
              have HD : Hid (c.nd l R (j + 1) = max (c.nd l R j) (c.step l R k)) := Lib.hid (by rw [HK.out]; rfl)
              have HNV : Hid (c.nv c.N l R (j + 1) = min (c.nv c.N l R j) (max (max (c.nd l R (j + 1)) (c.w k + c.N k R)) (c.N l k))) := Lib.hid (by rw [HK.out]; rfl)
              obtain ⟨x1, hx1⟩ : ∃ x, c.N k R = x := ⟨_, rfl⟩
              obtain ⟨x2, hx2⟩ : ∃ x, c.N l k = x := ⟨_, rfl⟩
              rw [hx1] at c1 n0 n2 HNV
              rw [hx2] at c2 HNV
              have s1 : IntKind.i64.wrap (c.w k + x1) = c.w k + x1 := by rw [IntKind.wrap_i64]; omega
              clear hx1 hx2 n0 n2 w0 w2
              go_upto_region 20 with (first | (go_at_call 59; (try first | (with_reducible refine gen_boxK3 (fun u _ _ _ _ => ?_)) | (with_reducible refine gen_boxK2 (fun u _ _ _ => ?_)) | (with_reducible refine gen_boxK (fun u _ _ => ?_))); (with_reducible refine (ch_step hok hlk hkR hRm').mono ?_); rintro e u ⟨rfl, _⟩))
              rw [← HD.out]
              refine wp_region_up0 (by kernel_rfl) (fun uy _ => ?_)
              refine wpAnyH_on (i := 0) (d := 69) (v := ?_) rfl rfl (by kernel_rfl) (by kernel_rfl) (by kernel_rfl) (fun _ _ _ h => h) (by kernel_rfl) (prev_bel _ _) ?_ ?_
              rotate_left
              · intro uu (pu : Prev uu _)
                go_simp
                try (with_reducible rfl)
              try simp only [List.set]
              refine wpAnyH_on (i := 1) (d := 70) (v := ?_) rfl rfl (by kernel_rfl) (by kernel_rfl) (by kernel_rfl) (fun _ _ _ h => h) (by kernel_rfl) (prev_bel _ _) ?_ ?_
              rotate_left
              · intro uu (pu : Prev uu _)
                go_simp
                try (with_reducible rfl)
              try simp only [List.set]
              refine wpAnyH_on (i := 2) (d := 71) (v := ?_) rfl rfl (by kernel_rfl) (by kernel_rfl) (by kernel_rfl) (fun _ _ _ h => h) (by kernel_rfl) (prev_bel _ _) ?_ ?_
              rotate_left
              · intro uu (pu : Prev uu _)
                go_simp
                try (with_reducible rfl)
              try simp only [List.set]
              refine wpAnyH_on (i := 3) (d := 72) (v := ?_) rfl rfl (by kernel_rfl) (by kernel_rfl) (by kernel_rfl) (fun _ _ _ h => h) (by kernel_rfl) (prev_bel _ _) ?_ ?_
              rotate_left
              · intro uu (pu : Prev uu _)
                go_simp
                try (with_reducible rfl)
              try simp only [List.set]
              refine wpAnyH_on (i := 4) (d := 73) (v := ?_) rfl rfl (by kernel_rfl) (by kernel_rfl) (by kernel_rfl) (fun _ _ _ h => h) (by kernel_rfl) (prev_bel _ _) ?_ ?_
              rotate_left
              · intro uu (pu : Prev uu _)
                go_simp
                try (with_reducible rfl)
              try simp only [List.set]
              refine wpAnyH_on (i := 5) (d := 74) (v := ?_) rfl rfl (by kernel_rfl) (by kernel_rfl) (by kernel_rfl) (fun _ _ _ h => h) (by kernel_rfl) (prev_bel _ _) ?_ ?_
              rotate_left
              · intro uu (pu : Prev uu _)
                go_simp
                try (with_reducible rfl)
              try simp only [List.set]
              refine wpAnyH_on (i := 6) (d := 75) (v := ?_) rfl rfl (by kernel_rfl) (by kernel_rfl) (by kernel_rfl) (fun _ _ _ h => h) (by kernel_rfl) (prev_bel _ _) ?_ ?_
              rotate_left
              · intro uu (pu : Prev uu _)
                go_simp
                try (with_reducible rfl)
              try simp only [List.set]
              refine wpAnyH_on (i := 7) (d := 76) (v := ?_) rfl rfl (by kernel_rfl) (by kernel_rfl) (by kernel_rfl) (fun _ _ _ h => h) (by kernel_rfl) (prev_bel _ _) ?_ ?_
              rotate_left
              · intro uu (pu : Prev uu _)
                go_simp
                try (with_reducible rfl)
              try simp only [List.set]
              refine wpAnyH_on (i := 8) (d := 77) (v := ?_) rfl rfl (by kernel_rfl) (by kernel_rfl) (by kernel_rfl) (fun _ _ _ h => h) (by kernel_rfl) (prev_bel _ _) ?_ ?_
              rotate_left
              · intro uu (pu : Prev uu _)
                go_simp
                try (with_reducible rfl)
              try simp only [List.set]
              refine wpAnyH_on (i := 9) (d := 78) (v := ?_) rfl rfl (by kernel_rfl) (by kernel_rfl) (by kernel_rfl) (fun _ _ _ h => h) (by kernel_rfl) (prev_bel _ _) ?_ ?_
              rotate_left
              · intro uu (pu : Prev uu _)
                go_simp
                try (with_reducible rfl)
              try simp only [List.set]
              refine wpAnyH_on (i := 10) (d := 79) (v := ?_) rfl rfl (by kernel_rfl) (by kernel_rfl) (by kernel_rfl) (fun _ _ _ h => h) (by kernel_rfl) (prev_bel _ _) ?_ ?_
              rotate_left
              · intro uu (pu : Prev uu _)
                go_simp
                try (with_reducible rfl)
              try simp only [List.set]
              refine wpAnyH_on (i := 11) (d := 80) (v := ?_) rfl rfl (by kernel_rfl) (by kernel_rfl) (by kernel_rfl) (fun _ _ _ h => h) (by kernel_rfl) (prev_bel _ _) ?_ ?_
              rotate_left
              · intro uu (pu : Prev uu _)
                go_simp
                try (with_reducible rfl)
              try simp only [List.set]
              refine wpAnyH_on (i := 12) (d := 81) (v := ?_) rfl rfl (by kernel_rfl) (by kernel_rfl) (by kernel_rfl) (fun _ _ _ h => h) (by kernel_rfl) (prev_bel _ _) ?_ ?_
              rotate_left
              · intro uu (pu : Prev uu _)
                go_simp
                try (with_reducible rfl)
              try simp only [List.set]
              refine wpAnyH_on (i := 13) (d := 82) (v := ?_) rfl rfl (by kernel_rfl) (by kernel_rfl) (by kernel_rfl) (fun _ _ _ h => h) (by kernel_rfl) (prev_bel _ _) ?_ ?_
              rotate_left
              · intro uu (pu : Prev uu _)
                go_simp
                try (with_reducible rfl)
              try simp only [List.set]
              refine wpAnyH_on (i := 14) (d := 83) (v := ?_) rfl rfl (by kernel_rfl) (by kernel_rfl) (by kernel_rfl) (fun _ _ _ h => h) (by kernel_rfl) (prev_bel _ _) ?_ ?_
              rotate_left
              · intro uu (pu : Prev uu _)
                go_simp
                try (with_reducible rfl)
              try simp only [List.set]
              refine wpAnyH_on (i := 15) (d := 84) (v := ?_) rfl rfl (by kernel_rfl) (by kernel_rfl) (by kernel_rfl) (fun _ _ _ h => h) (by kernel_rfl) (prev_bel _ _) ?_ ?_
              rotate_left
              · intro uu (pu : Prev uu _)
                go_simp
                try (with_reducible rfl)
              try simp only [List.set]
              refine wpAnyH_on (i := 16) (d := 85) (v := ?_) rfl rfl (by kernel_rfl) (by kernel_rfl) (by kernel_rfl) (fun _ _ _ h => h) (by kernel_rfl) (prev_bel _ _) ?_ ?_
              rotate_left
              · intro uu (pu : Prev uu _)
                go_simp
                try (with_reducible rfl)
              try simp only [List.set]
              refine wpAnyH_on (i := 17) (d := 86) (v := ?_) rfl rfl (by kernel_rfl) (by kernel_rfl) (by kernel_rfl) (fun _ _ _ h => h) (by kernel_rfl) (prev_bel _ _) ?_ ?_
              rotate_left
              · intro uu (pu : Prev uu _)
                go_simp
                try (with_reducible rfl)
              try simp only [List.set]
              refine wpAnyH_on (i := 18) (d := 87) (v := ?_) rfl rfl (by kernel_rfl) (by kernel_rfl) (by kernel_rfl) (fun _ _ _ h => h) (by kernel_rfl) (prev_bel _ _) ?_ ?_
              rotate_left
              · intro uu (pu : Prev uu _)
                go_simp
                try (with_reducible rfl)
              try simp only [List.set]
              refine wpAnyH_on (i := 19) (d := 88) (v := ?_) rfl rfl (by kernel_rfl) (by kernel_rfl) (by kernel_rfl) (fun _ _ _ h => h) (by kernel_rfl) (prev_bel _ _) ?_ ?_
              rotate_left
              · intro uu (pu : Prev uu _)
                go_simp
                try (with_reducible rfl)
              try simp only [List.set]
              refine wpAnyH_on (i := 20) (d := 89) (v := ?_) rfl rfl (by kernel_rfl) (by kernel_rfl) (by kernel_rfl) (fun _ _ _ h => h) (by kernel_rfl) (prev_bel _ _) ?_ ?_
              rotate_left
              · intro uu (pu : Prev uu _)
                go_simp
                try (with_reducible rfl)
              try simp only [List.set]
              refine wpAnyH_on (i := 21) (d := 90) (v := ?_) rfl rfl (by kernel_rfl) (by kernel_rfl) (by kernel_rfl) (fun _ _ _ h => h) (by kernel_rfl) (prev_bel _ _) ?_ ?_
              rotate_left
              · intro uu (pu : Prev uu _)
                go_simp
                try (with_reducible rfl)
              try simp only [List.set]
              refine wpAnyH_on (i := 22) (d := 91) (v := ?_) rfl rfl (by kernel_rfl) (by kernel_rfl) (by kernel_rfl) (fun _ _ _ h => h) (by kernel_rfl) (prev_bel _ _) ?_ ?_
              rotate_left
              · intro uu (pu : Prev uu _)
                go_simp
                try (with_reducible rfl)
              try simp only [List.set]
              refine wpAnyH_on (i := 23) (d := 92) (v := ?_) rfl rfl (by kernel_rfl) (by kernel_rfl) (by kernel_rfl) (fun _ _ _ h => h) (by kernel_rfl) (prev_bel _ _) ?_ ?_
              rotate_left
              · intro uu (pu : Prev uu _)
                go_simp
                try (with_reducible rfl)
              try simp only [List.set]
              refine wpAnyH_on (i := 24) (d := 9) (v := ?_) rfl rfl (by kernel_rfl) (by kernel_rfl) (by kernel_rfl) (fun _ _ _ h => h) (by kernel_rfl) (prev_bel _ _) ?_ ?_
              rotate_left
              · intro uu (pu : Prev uu _)
                go_simp
                try (with_reducible rfl)
              try simp only [List.set]
              refine wpAnyH_done (by kernel_rfl) ?_ _
              go_wp2_with fail
              go_roundw
              case rel => exact ⟨j + 1, k + 1, by omega, Lib.hid (by have := HK.out; omega), congrArg (Value.int .i64) (by rw [HNV.out]; (repeat' split) <;> omega), rfl, by go_num, prev_bel _ _⟩
              case measure => simp [intOf]; omega
            · have HNV : Hid (c.nv c.N l R j = c.N l R) := Lib.hid (by rw [Ch.N_more hR2, show R - l - 1 = j from by have := HK.out; omega])
              have e0 : (ints (c.lowR l R n))[R]? = some (.int .i64 0) := by rw [ints_get, Ch.lowR_get hlt, if_neg (by omega)]; rfl
              go_wp2_with fail
              go_roundw
              case rel =>
                refine ⟨R + 1, by omega, by omega, by go_num, Lib.hid ?_, ⟨(Bx.blk (w := wr)).far kCg _⟩, ⟨(bel w wr).setCell (p := ⟨G2 l, R, none⟩) hgl _⟩⟩
                rw [HNV.out]
                exact (HW3.out.at (w' := wr)).set hR hlt hl1
              case measure => simp [intOf]; omega
end
end Go.Proofs.Ytphcffcecncngaa
