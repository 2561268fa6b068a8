/- ConvTouches: for every input the statement returns true, and each argument reads afterwards as it read before. No condition. -/
import Derived.Test.YteibgdcieaiaiaaConvMath
import Derived.Test.YteibgdcieaiaiaaLaw07
import Derived.Test.YteibgdcieaiaiaaConvShapes
import Derived.Lib.MinMax
import Derived.Test.YteibgdcieaiaiaaRows
import Derived.Test.YteibgdcieaiaiaaOpen

namespace Go.Proofs.Yteibgdcieaiaiaa

/-- Does b come behind a: in a later cell, or in the same one with greater places? -/
def Behind (a b : Tri) : Prop := a.1 < b.1 ∨ (a.1 = b.1 ∧ a.2.1 < b.2.1 ∧ a.2.2 < b.2.2)
theorem lex2 {a b a' b' B : Nat} (ha : a < a') (hb : b < B) : a * B + b < a' * B + b' := by
  have : (a + 1) * B ≤ a' * B := Nat.mul_le_mul_right _ ha
  rw [Nat.succ_mul] at this
  omega
theorem fm_pair {α : Type} {R : α → α → Prop} {g : Nat → List α} : ∀ (n : Nat), (∀ k, k < n → (g k).Pairwise R) → (∀ k k', k < k' → k' < n → ∀ x ∈ g k, ∀ y ∈ g k', R x y) → ((List.range n).flatMap g).Pairwise R
  | 0, _, _ => List.Pairwise.nil
  | n + 1, h1, h2 => by
    rw [fm_succ, List.pairwise_append]
    refine ⟨fm_pair n (fun k hk => h1 k (by omega)) (fun k k' h h' => h2 k k' h (by omega)), h1 n (by omega), fun x hx y hy => ?_⟩
    obtain ⟨k, hk, hx⟩ := mem_fm hx
    exact h2 k n hk (by omega) x hx y hy
section
variable {f : CF} {p i j q t : Nat}
theorem mem_uT {x : Tri} (h : x ∈ f.uT p i j q t f.L) : ∃ u, u < f.L ∧ x = f.tri p i j q t u := by
  obtain ⟨u, hu, h⟩ := mem_fm h
  exact ⟨u, hu, by simpa using h⟩
theorem mem_tT {x : Tri} (h : x ∈ f.tT p i j q f.K) : ∃ t u, t < f.K ∧ u < f.L ∧ x = f.tri p i j q t u := by
  obtain ⟨t, ht, h⟩ := mem_fm h
  obtain ⟨u, hu, h⟩ := mem_uT h
  exact ⟨t, u, ht, hu, h⟩
theorem mem_cT {x : Tri} (h : x ∈ f.cT p i j) : ∃ q t u, q < f.C ∧ t < f.K ∧ u < f.L ∧ x = f.tri p i j q t u := by
  obtain ⟨q, hq, h⟩ := mem_fm h
  obtain ⟨t, u, ht, hu, h⟩ := mem_tT h
  exact ⟨q, t, u, hq, ht, hu, h⟩
theorem mem_jT {x : Tri} (h : x ∈ f.jT p i f.N) : ∃ j q t u, j < f.N ∧ x = f.tri p i j q t u := by
  obtain ⟨j, hj, h⟩ := mem_fm h
  obtain ⟨q, t, u, -, -, -, h⟩ := mem_cT h
  exact ⟨j, q, t, u, hj, h⟩
theorem mem_iT {x : Tri} (h : x ∈ f.iT p f.M) : ∃ i j q t u, i < f.M ∧ j < f.N ∧ x = f.tri p i j q t u := by
  obtain ⟨i, hi, h⟩ := mem_fm h
  obtain ⟨j, q, t, u, hj, h⟩ := mem_jT h
  exact ⟨i, j, q, t, u, hi, hj, h⟩
theorem cT_sorted (hf : CFok f) (hi : i < f.M) (hj : j < f.N) : (f.cT p i j).Pairwise Behind := by
  have h1 := hf.h i hi
  have h2 := hf.w j hj
  refine fm_pair _ (fun q hq => fm_pair _ (fun t ht => fm_pair _ (fun u hu => List.pairwise_singleton _ _) fun u u' hu hu' x hx y hy => ?_) fun t t' htt ht' x hx y hy => ?_) fun q q' hqq hq' x hx y hy => ?_
  · obtain rfl : x = f.tri p i j q t u := by simpa using hx
    obtain rfl : y = f.tri p i j q t u' := by simpa using hy
    refine .inr ⟨rfl, ?_, ?_⟩
    · show f.wt p q t u < f.wt p q t u'
      unfold CF.wt; omega
    · show f.frm i j q t u < f.frm i j q t u'
      unfold CF.frm; omega
  · obtain ⟨u, hu, rfl⟩ := mem_uT hx
    obtain ⟨u', hu', rfl⟩ := mem_uT hy
    refine .inr ⟨rfl, ?_, ?_⟩
    · show f.wt p q t u < f.wt p q t' u'
      have := lex2 (b' := u') htt hu
      unfold CF.wt; omega
    · show f.frm i j q t u < f.frm i j q t' u'
      have := lex2 (b := u) (b' := u') (B := f.W) htt (by omega)
      unfold CF.frm; omega
  · obtain ⟨t, u, ht, hu, rfl⟩ := mem_tT hx
    obtain ⟨t', u', ht', hu', rfl⟩ := mem_tT hy
    refine .inr ⟨rfl, ?_, ?_⟩
    · show f.wt p q t u < f.wt p q' t' u'
      have h3 := lex_lt ht hu
      have := lex2 (a := p * f.C + q) (a' := p * f.C + q') (b' := t' * f.L + u') (by omega) h3
      unfold CF.wt; omega
    · show f.frm i j q t u < f.frm i j q' t' u'
      have h3 : (i * f.S + t) * f.W + (j * f.S + u) < f.H * f.W := lex_lt (by omega) (by omega)
      have := lex2 (b' := i * f.S * f.W + j * f.S + t' * f.W + u') hqq h3
      rw [Nat.add_mul] at this
      unfold CF.frm; omega
theorem all_sorted (hf : CFok f) : f.all.Pairwise Behind := by
  refine fm_pair _ (fun p hp => fm_pair _ (fun i hi => fm_pair _ (fun j hj => cT_sorted hf hi hj) fun j j' hjj hj' x hx y hy => ?_) fun i i' hii hi' x hx y hy => ?_) fun p p' hpp hp' x hx y hy => ?_
  · obtain ⟨q, t, u, -, -, -, rfl⟩ := mem_cT hx
    obtain ⟨q', t', u', -, -, -, rfl⟩ := mem_cT hy
    refine .inl ?_
    show f.place p i j < f.place p i j'
    unfold CF.place; omega
  · obtain ⟨j, q, t, u, hj, rfl⟩ := mem_jT hx
    obtain ⟨j', q', t', u', hj', rfl⟩ := mem_jT hy
    refine .inl ?_
    show f.place p i j < f.place p i' j'
    have := lex2 (a := p * f.M + i) (a' := p * f.M + i') (b' := j') (by omega) hj
    exact this
  · obtain ⟨i, j, q, t, u, hi, hj, rfl⟩ := mem_iT hx
    obtain ⟨i', j', q', t', u', hi', hj', rfl⟩ := mem_iT hy
    refine .inl ?_
    show f.place p i j < f.place p' i' j'
    exact lex2 (lex2 hpp hi) hj
end
/-- The last product, as numbers; those ahead of all, if there is none. -/
def lastZ (pre : List Tri) : List Int := match pre.getLast? with
  | none => [-1, -1, -1]
  | some x => [(x.1 : Int), (x.2.1 : Int), (x.2.2 : Int)]
theorem lastZ_snoc (pre : List Tri) (x : Tri) : lastZ (pre ++ [x]) = [(x.1 : Int), (x.2.1 : Int), (x.2.2 : Int)] := by simp [lastZ]
/-- A product is not refused behind the one ahead of it. -/
theorem last_ok {f : CF} (hf : CFok f) {pre post : List Tri} {x : Tri} (h : f.all = pre ++ x :: post) : ∃ a b c : Int, lastZ pre = [a, b, c] ∧ a ≤ (x.1 : Int) ∧ ((x.1 : Int) = a → b < (x.2.1 : Int) ∧ c < (x.2.2 : Int)) := by
  rcases List.eq_nil_or_concat pre with rfl | ⟨r, y, rfl⟩
  · exact ⟨-1, -1, -1, rfl, by omega, fun e => by omega⟩
  · have hs := all_sorted hf
    rw [h, List.concat_eq_append, List.append_assoc, List.pairwise_append] at hs
    have h1 := hs.2.1
    rw [List.singleton_append, List.pairwise_cons] at h1
    have h2 := h1.1 x (by simp)
    refine ⟨_, _, _, by rw [List.concat_eq_append, lastZ_snoc], ?_, ?_⟩
    · rcases h2 with h2 | ⟨h2, -, -⟩ <;> omega
    · intro e
      rcases h2 with h2 | ⟨-, h3, h4⟩ <;> omega

end Go.Proofs.Yteibgdcieaiaiaa

namespace Go.Proofs.Yteibgdcieaiaiaa
open Go.RowKit Go.Shelf
attribute [local go_sem] Oper.semAt_some

/-- What the loop keeps. -/
def CountI (w : World) (stop : Int) (pre : List Tri) (W : World) : Prop :=
  ((pre.length : Int) < stop ∧ (pre.length : Int) < 1000000000000) ∧ Blk W w.heap.size 3 #[.int .i64 stop] ∧ Blk W (w.heap.size + 1) 3 #[.int .i64 0] ∧ Blk W (w.heap.size + 2) 3 #[.int .i64 pre.length] ∧ Own W (w.heap.size + 3) 83 (lastZ pre) ∧ Below w.heap.size w W
/-- How it is left: by a break, when as many as asked for have come. -/
def CountX (w : World) (stop : Int) (cc : Code) (pre : List Tri) (W : World) : Prop :=
  (cc = .exit 0 ∧ (pre.length : Int) = stop) ∧ Blk W (w.heap.size + 1) 3 #[.int .i64 0] ∧ Blk W (w.heap.size + 2) 3 #[.int .i64 pre.length] ∧ Below w.heap.size w W
theorem touch1_told (w : World) : ToldN Try.prog 69 #[] #[] triEnc (fun _ _ => False) (fun xs => xs = []) (fun _ => False) w := by
  intro l J Jx W hb hJ hJx hY h0
  refine callsIn_of_wp Try.func69 rfl trivial ?_
  simp only [Try.ntmps69, List.size_toArray, List.length_cons, List.length_nil, Nat.reduceAdd, Nat.reduceSub, Array.replicate_succ, Array.replicate_zero, List.push_toArray, List.append_toArray, List.nil_append, List.cons_append]
  gi_wp2
  go_end0
  exact ⟨⟨_, rfl⟩, h0⟩
section
variable {w : World} {A B : Option Addr} {n m c d : Nat} {ws xs V : List Int}
set_option maxRecDepth 100000 in
set_option maxHeartbeats 8000000 in
theorem a07_count_no [a : Sl w A n ws] [b : Sl w B m xs] [ld : Le m d] (hn : n ≤ 1000000) (hm : m ≤ 1000000) {S E stop : Int} (hE : Hid (cvE ws xs S = E)) (h0 : (E != 0) = true) :
    Calls Try.prog 28 #[.slice A n c, .slice B m d, .int .i64 S, .int .i64 stop] w (RetV w (.int .i64 0)) := by
  refine (callsIn_wide (n := 3)).1 ?_
  refine callsIn_of_wp_marks Try.func28 rfl trivial ?_
  simp only [Try.ntmps28, List.size_toArray, List.length_cons, List.length_nil, Nat.reduceAdd, Nat.reduceSub, Array.replicate_succ, Array.replicate_zero, List.push_toArray, List.append_toArray, List.nil_append, List.cons_append]
  gi_wp2
  obtain ⟨W0, hW0⟩ : ∃ W0 : World, W0 = (((w.alloc (.cells #[.int .i64 stop] 3)).alloc (.cells #[.int .i64 0] 3)).alloc (.cells #[.int .i64 0] 3)).alloc (.cells #[.int .i64 (-1), .int .i64 (-1), .int .i64 (-1)] 83) := ⟨_, rfl⟩
  have q1 : Bx W0 w.heap.size 3 #[.int .i64 stop] := ⟨by rw [hW0]; exact (((Blk.new _ _ _).alloc _).alloc _).alloc _⟩
  have q2 : Bx W0 (w.heap.size + 1) 3 #[.int .i64 0] := ⟨by rw [hW0]; exact ((Blk.new' _ _ _ (by simp)).alloc _).alloc _⟩
  have q3 : Bx W0 (w.heap.size + 2) 3 #[.int .i64 0] := ⟨by rw [hW0]; exact (Blk.new' _ _ _ (by simp)).alloc _⟩
  have q4 : Own W0 (w.heap.size + 3) 83 (lastZ []) := by rw [hW0]; exact Blk.new' _ _ _ (by simp)
  have qu : Prev W0 w := ⟨by rw [hW0]; exact bel w _⟩
  rw [← hW0]
  clear hW0
  refine ⟨trivial, ?_⟩
  gi_at_call 51
  (with_reducible refine (callsIn_wide.2 (cv_touch_no hn hm hE h0)).mono ?_)
  rintro e w1 ⟨rfl, _⟩
  have BB := bel w w1
  have hz1 : w.heap.size + 4 ≤ w1.heap.size := Nat.le_trans q4.lt later_size
  gi_wp2
  have I0 : Blk w1 (w.heap.size + 1) 3 #[.int .i64 0] ∧ Blk w1 (w.heap.size + 2) 3 #[.int .i64 0] ∧ Below w.heap.size w w1 := ⟨q2.blk.at, q3.blk.at, BB⟩
  refine wp_toldN (gf := 69) (fb := #[]) (lb := #[]) (α := Tri) rfl (enters_of Try.func69 (by kernel_rfl) rfl) (touch1_told w1) (Below.refl _ _) (fun _ => rfl) (fun _ W => Blk W (w.heap.size + 1) 3 #[.int .i64 0] ∧ Blk W (w.heap.size + 2) 3 #[.int .i64 0] ∧ Below w.heap.size w W) (fun _ _ _ => False)
    ?firm (fun _ => Firm.none_) I0 ?acts (fun x W => W.alloc (.cells #[.int .i64 x.1, .int .i64 x.2.1, .int .i64 x.2.2] 83)) (fun x n W => Blk W n 83 #[.int .i64 x.1, .int .i64 x.2.1, .int .i64 x.2.2]) (fun _ _ => below_alloc _ _) (fun _ _ => Blk.new _ _ _)
    (fun x n W l o o' h ho hc => (Firm.blk (B := 0) (fun (_ : Unit) => n) 83 (fun _ => _)).turn () W l o o' h (Nat.zero_le _) ho hc) ?assign (fun _ _ _ _ _ _ h => h.elim) ?done (fun _ _ _ _ _ h => h.elim)
  case firm => exact (Firm.blk (fun _ => w.heap.size + 1) _ (fun _ => _)).and ((Firm.blk (fun _ => w.heap.size + 2) _ (fun _ => _)).and (Firm.below (Nat.le_refl _) BB.size))
  case assign =>
    intro l x W K hK
    simp only [triEnc]
    gi_wp2
    exact hK
  case done =>
    rintro D xs W hD rfl ⟨kR, kN, bW⟩ hK
    have c0 := kR.cell 0
    have c1 := kR.frozen 0
    have c2 := kN.cell 0
    gi_wp2
    have hK2 : (W.setCell ⟨w.heap.size + 1, 0, none⟩ (.int .i64 (0 : Int))).heap[D]? = some (.deferred (some [])) := (KeepsOthers.setCell _ _ _).same D _ hK rfl
    have k2 := kR.set_ 0 (.int .i64 (0 : Int))
    have b2 := bW.setCell (p := ⟨w.heap.size + 1, 0, none⟩) (by simp) (.int .i64 (0 : Int))
    refine ⟨by simp, .inl ⟨_, _, rfl, run_takeDeferred hK2, ?_⟩⟩
    have k3 := (Firm.blk (B := 0) (fun (_ : Unit) => w.heap.size + 1) 3 (fun _ => _)).turn () _ D _ (.deferred none) k2 (Nat.zero_le _) hK2 rfl
    have b3 := (Firm.below (β := Unit) (w := w) (Nat.le_refl _) BB.size).turn () _ D _ (.deferred none) b2 hD hK2 rfl
    have c3 := k3.cell 0
    generalize (W.setCell ⟨w.heap.size + 1, 0, none⟩ (.int .i64 (0 : Int))).putObj D (.deferred none) = W3 at *
    exact ⟨.int .i64 (0 : Int), by simp [results, Try.results28, go_sem, c3], rfl, ⟨b3⟩⟩
set_option maxRecDepth 100000 in
set_option maxHeartbeats 8000000 in
theorem a07_count_yes [a : Sl w A n ws] [b : Sl w B m xs] [lc : Le n c] [ld : Le m d] (hn : n ≤ 1000000) (hm : m ≤ 1000000) {S stop Z : Int} {f : CF} (hE : Hid (cvE ws xs S = 0)) (hV : Hid (cvV ws xs S = V)) (hf : Hid (CFof f ws xs V S)) (hs : 1 ≤ stop) (hs2 : stop ≤ 1000000000) (hZ : Hid (min stop (f.all.length : Int) = Z)) :
    Calls Try.prog 28 #[.slice A n c, .slice B m d, .int .i64 S, .int .i64 stop] w (RetV w (.int .i64 Z)) := by
  have HOK : Hid (CFok f) := Lib.hid hf.out.ok
  refine (callsIn_wide (n := 3)).1 ?_
  refine callsIn_of_wp_marks Try.func28 rfl trivial ?_
  simp only [Try.ntmps28, List.size_toArray, List.length_cons, List.length_nil, Nat.reduceAdd, Nat.reduceSub, Array.replicate_succ, Array.replicate_zero, List.push_toArray, List.append_toArray, List.nil_append, List.cons_append]
  gi_wp2
  obtain ⟨W0, hW0⟩ : ∃ W0 : World, W0 = (((w.alloc (.cells #[.int .i64 stop] 3)).alloc (.cells #[.int .i64 0] 3)).alloc (.cells #[.int .i64 0] 3)).alloc (.cells #[.int .i64 (-1), .int .i64 (-1), .int .i64 (-1)] 83) := ⟨_, rfl⟩
  have q1 : Bx W0 w.heap.size 3 #[.int .i64 stop] := ⟨by rw [hW0]; exact (((Blk.new _ _ _).alloc _).alloc _).alloc _⟩
  have q2 : Bx W0 (w.heap.size + 1) 3 #[.int .i64 0] := ⟨by rw [hW0]; exact ((Blk.new' _ _ _ (by simp)).alloc _).alloc _⟩
  have q3 : Bx W0 (w.heap.size + 2) 3 #[.int .i64 0] := ⟨by rw [hW0]; exact (Blk.new' _ _ _ (by simp)).alloc _⟩
  have q4 : Own W0 (w.heap.size + 3) 83 (lastZ []) := by rw [hW0]; exact Blk.new' _ _ _ (by simp)
  have qu : Prev W0 w := ⟨by rw [hW0]; exact bel w _⟩
  rw [← hW0]
  clear hW0
  refine ⟨trivial, ?_⟩
  gi_at_call 51
  (with_reducible refine (callsIn_wide.2 (cv_touch_yes hn hm hE hV hf)).mono ?_)
  rintro e w1 ⟨rfl, _⟩
  have BB := bel w w1
  have hz1 : w.heap.size + 4 ≤ w1.heap.size := Nat.le_trans q4.lt later_size
  gi_wp2
  have I0 : CountI w stop [] w1 := ⟨⟨by simp; omega, by simp⟩, q1.blk.at, q2.blk.at, q3.blk.at, q4.at, BB⟩
  refine wp_toldN (gf := 71) (fb := #[frV f]) (lb := #[]) (α := Tri) rfl (enters_of Try.func71 (by kernel_rfl) rfl) (each_told f HOK w1) (Below.refl _ _) (fun _ => rfl) (CountI w stop) (CountX w stop)
    ?firm ?firm2 I0 ?acts (fun x W => W.alloc (.cells #[.int .i64 x.1, .int .i64 x.2.1, .int .i64 x.2.2] 83)) (fun x n W => Blk W n 83 #[.int .i64 x.1, .int .i64 x.2.1, .int .i64 x.2.2]) (fun _ _ => below_alloc _ _) (fun _ _ => Blk.new _ _ _)
    (fun x n W l o o' h ho hc => (Firm.blk (B := 0) (fun (_ : Unit) => n) 83 (fun _ => _)).turn () W l o o' h (Nat.zero_le _) ho hc) ?assign ?body ?done ?stop
  case firm => exact (Firm.pure _).and ((Firm.blk (fun _ => w.heap.size) _ (fun _ => _)).and ((Firm.blk (fun _ => w.heap.size + 1) _ (fun _ => _)).and ((Firm.blk (fun _ => w.heap.size + 2) _ (fun _ => _)).and ((Firm.own (fun _ => w.heap.size + 3) _ lastZ).and (Firm.below (Nat.le_refl _) BB.size)))))
  case firm2 => exact fun _ => (Firm.pure _).and ((Firm.blk (fun _ => w.heap.size + 1) _ (fun _ => _)).and ((Firm.blk (fun _ => w.heap.size + 2) _ (fun _ => _)).and (Firm.below (Nat.le_refl _) BB.size)))
  case assign =>
    intro l x W K hK
    simp only [triEnc]
    gi_wp2
    exact hK
  case body =>
    rintro l pre ⟨x1, x2, x3⟩ W0 W ⟨⟨i1, i2⟩, kS, kR, kN, oL, bW⟩ ⟨post, hT⟩ hs1 hs2' hA
    dsimp only at hA ⊢
    obtain ⟨a0, a1, a2, hl, h1, h2⟩ := last_ok HOK.out hT
    simp only at h1 h2
    rw [hl] at oL
    clear hT hl
    have d0 := oL.cell (i := 0) (z := a0) rfl
    have d1 := oL.cell (i := 1) (z := a1) rfl
    have d2 := oL.cell (i := 2) (z := a2) rfl
    have f0 := oL.frozen 0
    have f1 := oL.frozen 1
    have f2 := oL.frozen 2
    have e0 := hA.cell 0
    have e1 := hA.cell 1
    have e2 := hA.cell 2
    have n0 := kN.cell 0
    have n1 := kN.frozen 0
    have s0 := kS.cell 0
    have g0 : decide ((x1 : Int) < a0) = false := by simpa using h1
    by_cases hx : (x1 : Int) = a0
    · obtain ⟨h3, h4⟩ := h2 hx
      have g1 : ((x1 : Int) == a0) = true := by simpa using hx
      have g2 : decide ((x2 : Int) ≤ a1) = false := by simpa using h3
      have g3 : decide ((x3 : Int) ≤ a2) = false := by simpa using h4
      clear hx h1 h2 h3 h4
      have KF := keepsFrom_set (keepsFrom_set (keepsFrom_set (keepsFrom_set (keepsFrom_below (B := w1.heap.size) (Below.refl _ W)) ⟨w.heap.size + 3, 0, none⟩ (.int .i64 (x1 : Int))) ⟨w.heap.size + 3, 1, none⟩ (.int .i64 (x2 : Int))) ⟨w.heap.size + 3, 2, none⟩ (.int .i64 (x3 : Int))) ⟨w.heap.size + 2, 0, none⟩ (.int .i64 ((pre.length : Int) + 1))
      have HN := (((HeldN.set_ (n := w1.heap.size + 2) (A := W) (p := ⟨w.heap.size + 3, 0, none⟩) (.int .i64 (x1 : Int)) (by show w.heap.size + 3 < w1.heap.size + 2; omega)).trans (HeldN.set_ (p := ⟨w.heap.size + 3, 1, none⟩) (.int .i64 (x2 : Int)) (by show w.heap.size + 3 < w1.heap.size + 2; omega))).trans (HeldN.set_ (p := ⟨w.heap.size + 3, 2, none⟩) (.int .i64 (x3 : Int)) (by show w.heap.size + 3 < w1.heap.size + 2; omega))).trans (HeldN.set_ (p := ⟨w.heap.size + 2, 0, none⟩) (.int .i64 ((pre.length : Int) + 1)) (by show w.heap.size + 2 < w1.heap.size + 2; omega))
      have u1 := (((kS.far (p := ⟨w.heap.size + 3, 0, none⟩) (by simp) (.int .i64 (x1 : Int))).far (p := ⟨w.heap.size + 3, 1, none⟩) (by simp) (.int .i64 (x2 : Int))).far (p := ⟨w.heap.size + 3, 2, none⟩) (by simp) (.int .i64 (x3 : Int))).far (p := ⟨w.heap.size + 2, 0, none⟩) (by simp) (.int .i64 ((pre.length : Int) + 1))
      have u2 := (((kR.far (p := ⟨w.heap.size + 3, 0, none⟩) (by simp) (.int .i64 (x1 : Int))).far (p := ⟨w.heap.size + 3, 1, none⟩) (by simp) (.int .i64 (x2 : Int))).far (p := ⟨w.heap.size + 3, 2, none⟩) (by simp) (.int .i64 (x3 : Int))).far (p := ⟨w.heap.size + 2, 0, none⟩) (by simp) (.int .i64 ((pre.length : Int) + 1))
      have u3 := (((kN.far (p := ⟨w.heap.size + 3, 0, none⟩) (by simp) (.int .i64 (x1 : Int))).far (p := ⟨w.heap.size + 3, 1, none⟩) (by simp) (.int .i64 (x2 : Int))).far (p := ⟨w.heap.size + 3, 2, none⟩) (by simp) (.int .i64 (x3 : Int))).set_ 0 (.int .i64 ((pre.length : Int) + 1))
      have u4 := (((oL.set_ 0 (x1 : Int)).set_ 1 (x2 : Int)).set_ 2 (x3 : Int)).far (p := ⟨w.heap.size + 2, 0, none⟩) (by simp) (.int .i64 ((pre.length : Int) + 1))
      have u5 := (((bW.setCell (p := ⟨w.heap.size + 3, 0, none⟩) (by simp) (.int .i64 (x1 : Int))).setCell (p := ⟨w.heap.size + 3, 1, none⟩) (by simp) (.int .i64 (x2 : Int))).setCell (p := ⟨w.heap.size + 3, 2, none⟩) (by simp) (.int .i64 (x3 : Int))).setCell (p := ⟨w.heap.size + 2, 0, none⟩) (by simp) (.int .i64 ((pre.length : Int) + 1))
      have hlen : ((pre ++ [((x1, x2, x3) : Tri)]).length : Int) = (pre.length : Int) + 1 := by simp
      have hlast : lastZ (pre ++ [((x1, x2, x3) : Tri)]) = [(x1 : Int), (x2 : Int), (x3 : Int)] := lastZ_snoc _ _
      have HLEN := Lib.hid hlen
      have HLAST := Lib.hid hlast
      clear hlen hlast
      by_cases hst : (pre.length : Int) + 1 = stop
      · have t1 : ((pre.length : Int) + 1 == stop) = true := by simpa using hst
        have HST := Lib.hid hst
        clear hst
        gi_wp2
        exact ⟨KF, ⟨rfl, by rw [HLEN.out]; exact HST.out⟩, u2, by rw [HLEN.out]; exact u3, u5⟩
      · have t1 : ((pre.length : Int) + 1 == stop) = false := by simpa using hst
        have hst2 : (pre.length : Int) + 1 < stop := by omega
        clear hst
        gi_wp2
        exact ⟨KF, HN, ⟨by rw [HLEN.out]; exact hst2, by rw [HLEN.out]; omega⟩, u1, u2, by rw [HLEN.out]; exact u3, by rw [HLAST.out]; exact u4, u5⟩
    · have g1 : ((x1 : Int) == a0) = false := by simpa using hx
      clear hx h1 h2
      have KF := keepsFrom_set (keepsFrom_set (keepsFrom_set (keepsFrom_set (keepsFrom_below (B := w1.heap.size) (Below.refl _ W)) ⟨w.heap.size + 3, 0, none⟩ (.int .i64 (x1 : Int))) ⟨w.heap.size + 3, 1, none⟩ (.int .i64 (x2 : Int))) ⟨w.heap.size + 3, 2, none⟩ (.int .i64 (x3 : Int))) ⟨w.heap.size + 2, 0, none⟩ (.int .i64 ((pre.length : Int) + 1))
      have HN := (((HeldN.set_ (n := w1.heap.size + 2) (A := W) (p := ⟨w.heap.size + 3, 0, none⟩) (.int .i64 (x1 : Int)) (by show w.heap.size + 3 < w1.heap.size + 2; omega)).trans (HeldN.set_ (p := ⟨w.heap.size + 3, 1, none⟩) (.int .i64 (x2 : Int)) (by show w.heap.size + 3 < w1.heap.size + 2; omega))).trans (HeldN.set_ (p := ⟨w.heap.size + 3, 2, none⟩) (.int .i64 (x3 : Int)) (by show w.heap.size + 3 < w1.heap.size + 2; omega))).trans (HeldN.set_ (p := ⟨w.heap.size + 2, 0, none⟩) (.int .i64 ((pre.length : Int) + 1)) (by show w.heap.size + 2 < w1.heap.size + 2; omega))
      have u1 := (((kS.far (p := ⟨w.heap.size + 3, 0, none⟩) (by simp) (.int .i64 (x1 : Int))).far (p := ⟨w.heap.size + 3, 1, none⟩) (by simp) (.int .i64 (x2 : Int))).far (p := ⟨w.heap.size + 3, 2, none⟩) (by simp) (.int .i64 (x3 : Int))).far (p := ⟨w.heap.size + 2, 0, none⟩) (by simp) (.int .i64 ((pre.length : Int) + 1))
      have u2 := (((kR.far (p := ⟨w.heap.size + 3, 0, none⟩) (by simp) (.int .i64 (x1 : Int))).far (p := ⟨w.heap.size + 3, 1, none⟩) (by simp) (.int .i64 (x2 : Int))).far (p := ⟨w.heap.size + 3, 2, none⟩) (by simp) (.int .i64 (x3 : Int))).far (p := ⟨w.heap.size + 2, 0, none⟩) (by simp) (.int .i64 ((pre.length : Int) + 1))
      have u3 := (((kN.far (p := ⟨w.heap.size + 3, 0, none⟩) (by simp) (.int .i64 (x1 : Int))).far (p := ⟨w.heap.size + 3, 1, none⟩) (by simp) (.int .i64 (x2 : Int))).far (p := ⟨w.heap.size + 3, 2, none⟩) (by simp) (.int .i64 (x3 : Int))).set_ 0 (.int .i64 ((pre.length : Int) + 1))
      have u4 := (((oL.set_ 0 (x1 : Int)).set_ 1 (x2 : Int)).set_ 2 (x3 : Int)).far (p := ⟨w.heap.size + 2, 0, none⟩) (by simp) (.int .i64 ((pre.length : Int) + 1))
      have u5 := (((bW.setCell (p := ⟨w.heap.size + 3, 0, none⟩) (by simp) (.int .i64 (x1 : Int))).setCell (p := ⟨w.heap.size + 3, 1, none⟩) (by simp) (.int .i64 (x2 : Int))).setCell (p := ⟨w.heap.size + 3, 2, none⟩) (by simp) (.int .i64 (x3 : Int))).setCell (p := ⟨w.heap.size + 2, 0, none⟩) (by simp) (.int .i64 ((pre.length : Int) + 1))
      have hlen : ((pre ++ [((x1, x2, x3) : Tri)]).length : Int) = (pre.length : Int) + 1 := by simp
      have hlast : lastZ (pre ++ [((x1, x2, x3) : Tri)]) = [(x1 : Int), (x2 : Int), (x3 : Int)] := lastZ_snoc _ _
      have HLEN := Lib.hid hlen
      have HLAST := Lib.hid hlast
      clear hlen hlast
      by_cases hst : (pre.length : Int) + 1 = stop
      · have t1 : ((pre.length : Int) + 1 == stop) = true := by simpa using hst
        have HST := Lib.hid hst
        clear hst
        gi_wp2
        exact ⟨KF, ⟨rfl, by rw [HLEN.out]; exact HST.out⟩, u2, by rw [HLEN.out]; exact u3, u5⟩
      · have t1 : ((pre.length : Int) + 1 == stop) = false := by simpa using hst
        have hst2 : (pre.length : Int) + 1 < stop := by omega
        clear hst
        gi_wp2
        exact ⟨KF, HN, ⟨by rw [HLEN.out]; exact hst2, by rw [HLEN.out]; omega⟩, u1, u2, by rw [HLEN.out]; exact u3, by rw [HLAST.out]; exact u4, u5⟩
  case done =>
    rintro D xs W hD rfl ⟨⟨i1, i2⟩, kS, kR, kN, oL, bW⟩ hK
    obtain rfl : (f.all.length : Int) = Z := by rw [← hZ.out]; omega
    have c0 := kR.cell 0
    have c1 := kR.frozen 0
    have c2 := kN.cell 0
    gi_wp2
    have hK2 : (W.setCell ⟨w.heap.size + 1, 0, none⟩ (.int .i64 (f.all.length : Int))).heap[D]? = some (.deferred (some [])) := (KeepsOthers.setCell _ _ _).same D _ hK rfl
    have k2 := kR.set_ 0 (.int .i64 (f.all.length : Int))
    have b2 := bW.setCell (p := ⟨w.heap.size + 1, 0, none⟩) (by simp) (.int .i64 (f.all.length : Int))
    refine ⟨by simp, .inl ⟨_, _, rfl, run_takeDeferred hK2, ?_⟩⟩
    have k3 := (Firm.blk (B := 0) (fun (_ : Unit) => w.heap.size + 1) 3 (fun _ => _)).turn () _ D _ (.deferred none) k2 (Nat.zero_le _) hK2 rfl
    have b3 := (Firm.below (β := Unit) (w := w) (Nat.le_refl _) BB.size).turn () _ D _ (.deferred none) b2 hD hK2 rfl
    have c3 := k3.cell 0
    generalize (W.setCell ⟨w.heap.size + 1, 0, none⟩ (.int .i64 (f.all.length : Int))).putObj D (.deferred none) = W3 at *
    exact ⟨.int .i64 (f.all.length : Int), by simp [results, Try.results28, go_sem, c3], rfl, ⟨b3⟩⟩
  case stop =>
    rintro D cc pre W hD ⟨post, hT⟩ ⟨⟨rfl, i1⟩, kR, kN, bW⟩ hK
    have hlen : pre.length ≤ f.all.length := by rw [hT, List.length_append]; omega
    obtain rfl : (pre.length : Int) = Z := by rw [← hZ.out]; omega
    clear hlen hT i1
    have c0 := kR.cell 0
    have c1 := kR.frozen 0
    have c2 := kN.cell 0
    gi_wp2
    have hK2 : (W.setCell ⟨w.heap.size + 1, 0, none⟩ (.int .i64 (pre.length : Int))).heap[D]? = some (.deferred (some [])) := (KeepsOthers.setCell _ _ _).same D _ hK rfl
    have k2 := kR.set_ 0 (.int .i64 (pre.length : Int))
    have b2 := bW.setCell (p := ⟨w.heap.size + 1, 0, none⟩) (by simp) (.int .i64 (pre.length : Int))
    refine ⟨by simp, .inl ⟨_, _, rfl, run_takeDeferred hK2, ?_⟩⟩
    have k3 := (Firm.blk (B := 0) (fun (_ : Unit) => w.heap.size + 1) 3 (fun _ => _)).turn () _ D _ (.deferred none) k2 (Nat.zero_le _) hK2 rfl
    have b3 := (Firm.below (β := Unit) (w := w) (Nat.le_refl _) BB.size).turn () _ D _ (.deferred none) b2 hD hK2 rfl
    have c3 := k3.cell 0
    generalize (W.setCell ⟨w.heap.size + 1, 0, none⟩ (.int .i64 (pre.length : Int))).putObj D (.deferred none) = W3 at *
    exact ⟨.int .i64 (pre.length : Int), by simp [results, Try.results28, go_sem, c3], rfl, ⟨b3⟩⟩
end

end Go.Proofs.Yteibgdcieaiaiaa

namespace Go.Proofs.Yteibgdcieaiaiaa
open Go.RowKit

theorem CFof.first {f : CF} {ws xs V : List Int} {S : Int} (h : CFof f ws xs V S) : ws[0]? = some (f.O : Int) := by
  rcases h.is with ⟨-, e, -⟩ | ⟨-, e, -⟩ <;> rw [e] <;> rfl
theorem all_quo {f : CF} (h : CFok f) : ((((f.O * (f.M * f.N)) * (f.O * (f.C * (f.K * f.L))) : Nat) : Int)).tdiv (f.O : Int) = (f.all.length : Int) := by
  rw [all_len, Int.tdiv_eq_ediv_of_nonneg (by omega), ← Int.natCast_ediv]
  congr 1
  have e : f.O * (f.M * f.N) * (f.O * (f.C * (f.K * f.L))) = f.O * (f.O * (f.M * (f.N * (f.C * (f.K * f.L))))) := by
    rw [Nat.mul_left_comm, Nat.mul_assoc f.O (f.M * f.N), Nat.mul_assoc f.M f.N]
  rw [e, Nat.mul_div_cancel_left _ h.o1]
set_option maxRecDepth 100000 in
set_option maxHeartbeats 8000000 in
theorem convTouches_calls (A B : Option Addr) (c d : Nat) (ws xs : List Int) (S : Int) (w : World) (iA : IntsIn w A c ws) (iB : IntsIn w B d xs) :
    Calls Try.prog 6 #[.slice A ws.length c, .slice B xs.length d, .int .i64 S] w (LawTrue w) := by
  have a : Sl w A ws.length ws := ⟨iA.rd, rfl⟩
  have b : Sl w B xs.length xs := ⟨iB.rd, rfl⟩
  have lc : Le ws.length c := ⟨iA.2.1⟩
  have ld : Le xs.length d := ⟨iB.2.1⟩
  clear iA iB
  have CP := @cell_prev
  rcases hs : (decide (ws.length ≤ 9) && decide (xs.length ≤ 9)) with _ | _
  · go_enter Try.func6, Try.ntmps6
    go_wp2_with (first | (go_at_call 14; (try first | (with_reducible refine gen_boxK3 (fun u _ _ _ _ => ?_)) | (with_reducible refine gen_boxK2 (fun u _ _ _ => ?_)) | (with_reducible refine gen_boxK (fun u _ _ => ?_))); (with_reducible refine (a07_fewH hs).mono ?_); rintro e u ⟨rfl, _⟩) | (go_at_call 15; (try first | (with_reducible refine gen_boxK3 (fun u _ _ _ _ => ?_)) | (with_reducible refine gen_boxK2 (fun u _ _ _ => ?_)) | (with_reducible refine gen_boxK (fun u _ _ => ?_))); (with_reducible refine (a07_awake).mono ?_); rintro e u ⟨rfl, _⟩))
    go_ret
    exact ⟨rfl, bel w _⟩
  have hs' := hs
  simp only [Bool.and_eq_true, decide_eq_true_eq] at hs'
  obtain ⟨hl1, hl2⟩ := hs'
  obtain ⟨V, hV⟩ : ∃ V, cvV ws xs S = V := ⟨_, rfl⟩
  obtain ⟨E, hE⟩ : ∃ E, cvE ws xs S = E := ⟨_, rfl⟩
  have hVl : V.length ≤ 10 := by have := cvV_len ws xs S; rw [hV] at this; omega
  have HV := Lib.hid hV
  have HE := Lib.hid hE
  by_cases h0 : E = 0
  rotate_left
  · have e0 : (E != 0) = true := by simpa using h0
    clear hV hE h0
    go_enter Try.func6, Try.ntmps6
    go_wp2_with (first | (go_at_call 14; (try first | (with_reducible refine gen_boxK3 (fun u _ _ _ _ => ?_)) | (with_reducible refine gen_boxK2 (fun u _ _ _ => ?_)) | (with_reducible refine gen_boxK (fun u _ _ => ?_))); (with_reducible refine (a07_fewH hs).mono ?_); rintro e u ⟨rfl, _⟩) | (go_at_call 17; (try first | (with_reducible refine gen_boxK3 (fun u _ _ _ _ => ?_)) | (with_reducible refine gen_boxK2 (fun u _ _ _ => ?_)) | (with_reducible refine gen_boxK (fun u _ _ => ?_))); (with_reducible refine (a07_told (by omega) (by omega) HE HV).mono ?_); rintro e u ⟨A', c', rfl, sJ, lJ, fJ, _⟩) | (go_at_call 28; (try first | (with_reducible refine gen_boxK3 (fun u _ _ _ _ => ?_)) | (with_reducible refine gen_boxK2 (fun u _ _ _ => ?_)) | (with_reducible refine gen_boxK (fun u _ _ => ?_))); (with_reducible refine (a07_count_no (by omega) (by omega) HE e0).mono ?_); rintro e u ⟨rfl, _⟩) | (go_at_call 15; (try first | (with_reducible refine gen_boxK3 (fun u _ _ _ _ => ?_)) | (with_reducible refine gen_boxK2 (fun u _ _ _ => ?_)) | (with_reducible refine gen_boxK (fun u _ _ => ?_))); (with_reducible refine (a07_awake).mono ?_); rintro e u ⟨rfl, _⟩))
    go_ret
    exact ⟨rfl, bel w _⟩
  subst h0
  obtain ⟨f, hf⟩ := cv_nats hE
  rw [hV] at hf
  have HF := Lib.hid hf
  have hq := all_quo hf.ok
  have hvr := hf.vr
  have hwr : rightB ws = true := by
    rcases h : cvPre ws xs with _ | _
    · have := (cvE_pre (S := S) h).1; omega
    · simp only [cvPre, Bool.and_eq_true] at h; exact h.1.1.1.1.1
  obtain ⟨PV, hPV⟩ : ∃ PV, f.O * (f.M * f.N) = PV := ⟨_, rfl⟩
  obtain ⟨PW, hPW⟩ : ∃ PW, f.O * (f.C * (f.K * f.L)) = PW := ⟨_, rfl⟩
  have eV : prodL V = (PV : Int) := by rw [hf.v, hPV]
  have eW : prodL ws = (PW : Int) := by rw [hf.w, hPW]
  have bV : PV ≤ 65536 := by rw [← hPV]; exact hf.ok.oy
  have bW : PW ≤ 65536 := by rw [← hPW]; exact hf.ok.ow
  rw [hPV, hPW] at hq
  obtain ⟨PP, hPP⟩ : ∃ PP, PV * PW = PP := ⟨_, rfl⟩
  rw [hPP] at hq
  have bP : PP ≤ 65536 * 65536 := by rw [← hPP]; exact Nat.mul_le_mul bV bW
  have m1 : (PV : Int) * (PW : Int) = (PP : Int) := by rw [← hPP, Int.natCast_mul]
  have hO1 := hf.ok.o1
  obtain ⟨O, hO⟩ : ∃ O, f.O = O := ⟨_, rfl⟩
  have hfirst := hf.first
  rw [hO] at hq hO1 hfirst
  obtain ⟨LL, hLL⟩ : ∃ LL, f.all.length = LL := ⟨_, rfl⟩
  rw [hLL] at hq
  have HLL := Lib.hid hLL
  have HPP := Lib.hid hPP
  have hLP : LL ≤ PP := by
    have : (LL : Int) = ((PP / O : Nat) : Int) := by rw [← hq, Int.tdiv_eq_ediv_of_nonneg (by omega), ← Int.natCast_ediv]
    have := Nat.div_le_self PP O
    omega
  have hw0 : 0 < ws.length := by
    rcases Nat.eq_zero_or_pos ws.length with h | h
    · rw [List.eq_nil_of_length_eq_zero h] at hfirst; cases hfirst
    · exact h
  obtain ⟨bz, oz, z, rfl, obz, cz, hz⟩ := a.get hw0
  obtain rfl : z = (O : Int) := by have h1 := hz.out; rw [hfirst] at h1; injection h1 with h1; exact h1.symm
  simp only [Nat.add_zero] at cz
  have g0 : ¬ O = 0 := by omega
  have wP : IntKind.i64.wrap (PP : Int) = (PP : Int) := IntWalk.i64_in _ (by omega)
  have wL : IntKind.i64.wrap (LL : Int) = (LL : Int) := IntWalk.i64_in _ (by omega)
  have g1 : 0 < (ws.length : Int) := by omega
  obtain ⟨Z3, hZ3⟩ : ∃ Z : Nat, min 3 LL = Z := ⟨_, rfl⟩
  have HZ3 : Hid (min (3 : Int) (f.all.length : Int) = (Z3 : Int)) := Lib.hid (by rw [hLL, ← hZ3]; omega)
  have eZ3 : min (3 : Int) (LL : Int) = (Z3 : Int) := by omega
  clear hf hV hE hz hfirst hO hPV hPW hPP hLL hZ3
  by_cases h1 : 200 < PV
  · have d1 : decide (200 < (PV : Int)) = true := by simp; omega
    clear h1
    go_enter Try.func6, Try.ntmps6
    go_upto_region 7 with (first | (go_at_call 14; (try first | (with_reducible refine gen_boxK3 (fun u _ _ _ _ => ?_)) | (with_reducible refine gen_boxK2 (fun u _ _ _ => ?_)) | (with_reducible refine gen_boxK (fun u _ _ => ?_))); (with_reducible refine (a07_fewH hs).mono ?_); rintro e u ⟨rfl, _⟩) | (go_at_call 17; (try first | (with_reducible refine gen_boxK3 (fun u _ _ _ _ => ?_)) | (with_reducible refine gen_boxK2 (fun u _ _ _ => ?_)) | (with_reducible refine gen_boxK (fun u _ _ => ?_))); (with_reducible refine (a07_told (by omega) (by omega) HE HV).mono ?_); rintro e u ⟨A', c', rfl, sJ, lJ, fJ, _⟩) | (go_at_call 29; (try first | (with_reducible refine gen_boxK3 (fun u _ _ _ _ => ?_)) | (with_reducible refine gen_boxK2 (fun u _ _ _ => ?_)) | (with_reducible refine gen_boxK (fun u _ _ => ?_))); (with_reducible refine (a03_size hvr).mono ?_); rintro e u ⟨rfl, _⟩) | (go_at_call 29; (try first | (with_reducible refine gen_boxK3 (fun u _ _ _ _ => ?_)) | (with_reducible refine gen_boxK2 (fun u _ _ _ => ?_)) | (with_reducible refine gen_boxK (fun u _ _ => ?_))); (with_reducible refine (a03_size hwr).mono ?_); rintro e u ⟨rfl, _⟩) | (go_at_call 15; (try first | (with_reducible refine gen_boxK3 (fun u _ _ _ _ => ?_)) | (with_reducible refine gen_boxK2 (fun u _ _ _ => ?_)) | (with_reducible refine gen_boxK (fun u _ _ => ?_))); (with_reducible refine (a07_awake).mono ?_); rintro e u ⟨rfl, _⟩))
    obtain ⟨v, rfl⟩ : ∃ v : World, v = u := ⟨_, rfl⟩
    refine wp_region_up v (by kernel_rfl) (fun ux _ => ?_)
    refine wpAnyH_on (i := 0) (d := 43) (v := ?_) rfl rfl (by kernel_rfl) (by kernel_rfl) (by kernel_rfl) (fun _ _ _ h => h) (by kernel_rfl) (prev_bel _ _) ?_ ?_
    rotate_left
    · intro uu (pu : Prev uu _)
      go_simp
      try (with_reducible rfl)
    try simp only [List.set]
    refine wpAnyH_on (i := 1) (d := 44) (v := ?_) rfl rfl (by kernel_rfl) (by kernel_rfl) (by kernel_rfl) (fun _ _ _ h => h) (by kernel_rfl) (prev_bel _ _) ?_ ?_
    rotate_left
    · intro uu (pu : Prev uu _)
      go_simp
      try (with_reducible rfl)
    try simp only [List.set]
    refine wpAnyH_on (i := 2) (d := 45) (v := ?_) rfl rfl (by kernel_rfl) (by kernel_rfl) (by kernel_rfl) (fun _ _ _ h => h) (by kernel_rfl) (prev_bel _ _) ?_ ?_
    rotate_left
    · intro uu (pu : Prev uu _)
      go_simp
      try (with_reducible rfl)
    try simp only [List.set]
    refine wpAnyH_on (i := 4) (d := 47) (v := ?_) rfl rfl (by kernel_rfl) (by kernel_rfl) (by kernel_rfl) (fun _ _ _ h => h) (by kernel_rfl) (prev_bel _ _) ?_ ?_
    rotate_left
    · intro uu (pu : Prev uu _)
      go_simp
      try (with_reducible rfl)
    try simp only [List.set]
    refine wpAnyH_on (i := 6) (d := 49) (v := ?_) rfl rfl (by kernel_rfl) (by kernel_rfl) (by kernel_rfl) (fun _ _ _ h => h) (by kernel_rfl) (prev_bel _ _) ?_ ?_
    rotate_left
    · intro uu (pu : Prev uu _)
      go_simp
      try (with_reducible rfl)
    try simp only [List.set]
    refine wpAnyH_on (i := 9) (d := 52) (v := ?_) rfl rfl (by kernel_rfl) (by kernel_rfl) (by kernel_rfl) (fun _ _ _ h => h) (by kernel_rfl) (prev_bel _ _) ?_ ?_
    rotate_left
    · intro uu (pu : Prev uu _)
      go_simp
      try (with_reducible rfl)
    try simp only [List.set]
    refine wpAnyH_on (i := 10) (d := 53) (v := ?_) rfl rfl (by kernel_rfl) (by kernel_rfl) (by kernel_rfl) (fun _ _ _ h => h) (by kernel_rfl) (prev_bel _ _) ?_ ?_
    rotate_left
    · intro uu (pu : Prev uu _)
      go_simp
      try (with_reducible rfl)
    try simp only [List.set]
    refine wpAnyH_on (i := 11) (d := 54) (v := ?_) rfl rfl (by kernel_rfl) (by kernel_rfl) (by kernel_rfl) (fun _ _ _ h => h) (by kernel_rfl) (prev_bel _ _) ?_ ?_
    rotate_left
    · intro uu (pu : Prev uu _)
      go_simp
      try (with_reducible rfl)
    try simp only [List.set]
    refine wpAnyH_ready (rs := [3]) (by kernel_rfl) (by simp) ?_
    refine AllReadyH.cons rfl (fun K hK => ?_) AllReadyH.nil
    go_simp
    (with_reducible refine (a07_count_yes (by omega) (by omega) HE HV HF (by omega) (by omega) HZ3).mono ?_)
    rintro e ux ⟨rfl, _⟩
    dsimp only
    refine hK.out _ _ (prev_bel v _) (fun hHeld => ?_)
    clear hHeld hK K
    try dsimp only [Act.put, List.setIfInBounds_toArray, List.set_cons_zero, List.set_cons_succ]
    refine wpAnyH_ready (rs := [5]) (by kernel_rfl) (by simp) ?_
    refine AllReadyH.cons rfl (fun K hK => ?_) AllReadyH.nil
    go_simp
    (with_reducible refine (a03_size hvr).mono ?_)
    rintro e ux ⟨rfl, _⟩
    dsimp only
    refine hK.out _ _ (prev_bel v _) (fun hHeld => ?_)
    clear hHeld hK K
    try dsimp only [Act.put, List.setIfInBounds_toArray, List.set_cons_zero, List.set_cons_succ]
    refine wpAnyH_ready (rs := [7]) (by kernel_rfl) (by simp) ?_
    refine AllReadyH.cons rfl (fun K hK => ?_) AllReadyH.nil
    go_simp
    (with_reducible refine (a03_size hwr).mono ?_)
    rintro e ux ⟨rfl, _⟩
    dsimp only
    refine hK.out _ _ (prev_bel v _) (fun hHeld => ?_)
    clear hHeld hK K
    try dsimp only [Act.put, List.setIfInBounds_toArray, List.set_cons_zero, List.set_cons_succ]
    refine wpAnyH_on (i := 8) (d := 51) (v := ?_) rfl rfl (by kernel_rfl) (by kernel_rfl) (by kernel_rfl) (fun _ _ _ h => h) (by kernel_rfl) (prev_bel _ _) ?_ ?_
    rotate_left
    · intro uu (pu : Prev uu _)
      go_simp
      try (with_reducible rfl)
    try simp only [List.set]
    refine wpAnyH_on (i := 12) (d := 55) (v := ?_) rfl rfl (by kernel_rfl) (by kernel_rfl) (by kernel_rfl) (fun _ _ _ h => h) (by kernel_rfl) (prev_bel _ _) ?_ ?_
    rotate_left
    · intro uu (pu : Prev uu _)
      go_simp
      try (with_reducible rfl)
    try simp only [List.set]
    refine wpAnyH_on (i := 13) (d := 56) (v := ?_) rfl rfl (by kernel_rfl) (by kernel_rfl) (by kernel_rfl) (fun _ _ _ h => h) (by kernel_rfl) (prev_bel _ _) ?_ ?_
    rotate_left
    · intro uu (pu : Prev uu _)
      go_simp
      try (with_reducible rfl)
    try simp only [List.set]
    refine wpAnyH_on (i := 14) (d := 57) (v := ?_) rfl rfl (by kernel_rfl) (by kernel_rfl) (by kernel_rfl) (fun _ _ _ h => h) (by kernel_rfl) (prev_bel _ _) ?_ ?_
    rotate_left
    · intro uu (pu : Prev uu _)
      go_simp
      try (with_reducible rfl)
    try simp only [List.set]
    refine wpAnyH_on (i := 15) (d := 58) (v := ?_) rfl rfl (by kernel_rfl) (by kernel_rfl) (by kernel_rfl) (fun _ _ _ h => h) (by kernel_rfl) (prev_bel _ _) ?_ ?_
    rotate_left
    · intro uu (pu : Prev uu _)
      go_simp
      try (with_reducible rfl)
    try simp only [List.set]
    refine wpAnyH_ready (rs := [16]) (by kernel_rfl) (by simp) ?_
    refine AllReadyH.cons rfl (fun K hK => ?_) AllReadyH.nil
    go_simp
    (with_reducible refine (a07_awake).mono ?_)
    rintro e ux ⟨rfl, _⟩
    dsimp only
    refine hK.out _ _ (prev_bel v _) (fun hHeld => ?_)
    clear hHeld hK K
    try dsimp only [Act.put, List.setIfInBounds_toArray, List.set_cons_zero, List.set_cons_succ]
    refine wpAnyH_on (i := 17) (d := 60) (v := ?_) rfl rfl (by kernel_rfl) (by kernel_rfl) (by kernel_rfl) (fun _ _ _ h => h) (by kernel_rfl) (prev_bel _ _) ?_ ?_
    rotate_left
    · intro uu (pu : Prev uu _)
      go_simp
      try (with_reducible rfl)
    try simp only [List.set]
    refine wpAnyH_on (i := 18) (d := 6) (v := ?_) rfl rfl (by kernel_rfl) (by kernel_rfl) (by kernel_rfl) (fun _ _ _ h => h) (by kernel_rfl) (prev_bel _ _) ?_ ?_
    rotate_left
    · intro uu (pu : Prev uu _)
      go_simp
      try (with_reducible rfl)
    try simp only [List.set]
    refine wpAnyH_done (by kernel_rfl) ?_ _
    go_wp2_with fail
    go_ret
    exact ⟨rfl, bel w _⟩
  have d1 : decide (200 < (PV : Int)) = false := by simp; omega
  by_cases h2 : 200 < PW
  · have d2 : decide (200 < (PW : Int)) = true := by simp; omega
    clear h1 h2
    go_enter Try.func6, Try.ntmps6
    go_upto_region 7 with (first | (go_at_call 14; (try first | (with_reducible refine gen_boxK3 (fun u _ _ _ _ => ?_)) | (with_reducible refine gen_boxK2 (fun u _ _ _ => ?_)) | (with_reducible refine gen_boxK (fun u _ _ => ?_))); (with_reducible refine (a07_fewH hs).mono ?_); rintro e u ⟨rfl, _⟩) | (go_at_call 17; (try first | (with_reducible refine gen_boxK3 (fun u _ _ _ _ => ?_)) | (with_reducible refine gen_boxK2 (fun u _ _ _ => ?_)) | (with_reducible refine gen_boxK (fun u _ _ => ?_))); (with_reducible refine (a07_told (by omega) (by omega) HE HV).mono ?_); rintro e u ⟨A', c', rfl, sJ, lJ, fJ, _⟩) | (go_at_call 29; (try first | (with_reducible refine gen_boxK3 (fun u _ _ _ _ => ?_)) | (with_reducible refine gen_boxK2 (fun u _ _ _ => ?_)) | (with_reducible refine gen_boxK (fun u _ _ => ?_))); (with_reducible refine (a03_size hvr).mono ?_); rintro e u ⟨rfl, _⟩) | (go_at_call 29; (try first | (with_reducible refine gen_boxK3 (fun u _ _ _ _ => ?_)) | (with_reducible refine gen_boxK2 (fun u _ _ _ => ?_)) | (with_reducible refine gen_boxK (fun u _ _ => ?_))); (with_reducible refine (a03_size hwr).mono ?_); rintro e u ⟨rfl, _⟩) | (go_at_call 15; (try first | (with_reducible refine gen_boxK3 (fun u _ _ _ _ => ?_)) | (with_reducible refine gen_boxK2 (fun u _ _ _ => ?_)) | (with_reducible refine gen_boxK (fun u _ _ => ?_))); (with_reducible refine (a07_awake).mono ?_); rintro e u ⟨rfl, _⟩))
    obtain ⟨v, rfl⟩ : ∃ v : World, v = u := ⟨_, rfl⟩
    refine wp_region_up v (by kernel_rfl) (fun ux _ => ?_)
    refine wpAnyH_on (i := 0) (d := 43) (v := ?_) rfl rfl (by kernel_rfl) (by kernel_rfl) (by kernel_rfl) (fun _ _ _ h => h) (by kernel_rfl) (prev_bel _ _) ?_ ?_
    rotate_left
    · intro uu (pu : Prev uu _)
      go_simp
      try (with_reducible rfl)
    try simp only [List.set]
    refine wpAnyH_on (i := 1) (d := 44) (v := ?_) rfl rfl (by kernel_rfl) (by kernel_rfl) (by kernel_rfl) (fun _ _ _ h => h) (by kernel_rfl) (prev_bel _ _) ?_ ?_
    rotate_left
    · intro uu (pu : Prev uu _)
      go_simp
      try (with_reducible rfl)
    try simp only [List.set]
    refine wpAnyH_on (i := 2) (d := 45) (v := ?_) rfl rfl (by kernel_rfl) (by kernel_rfl) (by kernel_rfl) (fun _ _ _ h => h) (by kernel_rfl) (prev_bel _ _) ?_ ?_
    rotate_left
    · intro uu (pu : Prev uu _)
      go_simp
      try (with_reducible rfl)
    try simp only [List.set]
    refine wpAnyH_on (i := 4) (d := 47) (v := ?_) rfl rfl (by kernel_rfl) (by kernel_rfl) (by kernel_rfl) (fun _ _ _ h => h) (by kernel_rfl) (prev_bel _ _) ?_ ?_
    rotate_left
    · intro uu (pu : Prev uu _)
      go_simp
      try (with_reducible rfl)
    try simp only [List.set]
    refine wpAnyH_on (i := 6) (d := 49) (v := ?_) rfl rfl (by kernel_rfl) (by kernel_rfl) (by kernel_rfl) (fun _ _ _ h => h) (by kernel_rfl) (prev_bel _ _) ?_ ?_
    rotate_left
    · intro uu (pu : Prev uu _)
      go_simp
      try (with_reducible rfl)
    try simp only [List.set]
    refine wpAnyH_on (i := 9) (d := 52) (v := ?_) rfl rfl (by kernel_rfl) (by kernel_rfl) (by kernel_rfl) (fun _ _ _ h => h) (by kernel_rfl) (prev_bel _ _) ?_ ?_
    rotate_left
    · intro uu (pu : Prev uu _)
      go_simp
      try (with_reducible rfl)
    try simp only [List.set]
    refine wpAnyH_on (i := 10) (d := 53) (v := ?_) rfl rfl (by kernel_rfl) (by kernel_rfl) (by kernel_rfl) (fun _ _ _ h => h) (by kernel_rfl) (prev_bel _ _) ?_ ?_
    rotate_left
    · intro uu (pu : Prev uu _)
      go_simp
      try (with_reducible rfl)
    try simp only [List.set]
    refine wpAnyH_on (i := 11) (d := 54) (v := ?_) rfl rfl (by kernel_rfl) (by kernel_rfl) (by kernel_rfl) (fun _ _ _ h => h) (by kernel_rfl) (prev_bel _ _) ?_ ?_
    rotate_left
    · intro uu (pu : Prev uu _)
      go_simp
      try (with_reducible rfl)
    try simp only [List.set]
    refine wpAnyH_ready (rs := [3]) (by kernel_rfl) (by simp) ?_
    refine AllReadyH.cons rfl (fun K hK => ?_) AllReadyH.nil
    go_simp
    (with_reducible refine (a07_count_yes (by omega) (by omega) HE HV HF (by omega) (by omega) HZ3).mono ?_)
    rintro e ux ⟨rfl, _⟩
    dsimp only
    refine hK.out _ _ (prev_bel v _) (fun hHeld => ?_)
    clear hHeld hK K
    try dsimp only [Act.put, List.setIfInBounds_toArray, List.set_cons_zero, List.set_cons_succ]
    refine wpAnyH_ready (rs := [5]) (by kernel_rfl) (by simp) ?_
    refine AllReadyH.cons rfl (fun K hK => ?_) AllReadyH.nil
    go_simp
    (with_reducible refine (a03_size hvr).mono ?_)
    rintro e ux ⟨rfl, _⟩
    dsimp only
    refine hK.out _ _ (prev_bel v _) (fun hHeld => ?_)
    clear hHeld hK K
    try dsimp only [Act.put, List.setIfInBounds_toArray, List.set_cons_zero, List.set_cons_succ]
    refine wpAnyH_ready (rs := [7]) (by kernel_rfl) (by simp) ?_
    refine AllReadyH.cons rfl (fun K hK => ?_) AllReadyH.nil
    go_simp
    (with_reducible refine (a03_size hwr).mono ?_)
    rintro e ux ⟨rfl, _⟩
    dsimp only
    refine hK.out _ _ (prev_bel v _) (fun hHeld => ?_)
    clear hHeld hK K
    try dsimp only [Act.put, List.setIfInBounds_toArray, List.set_cons_zero, List.set_cons_succ]
    refine wpAnyH_on (i := 8) (d := 51) (v := ?_) rfl rfl (by kernel_rfl) (by kernel_rfl) (by kernel_rfl) (fun _ _ _ h => h) (by kernel_rfl) (prev_bel _ _) ?_ ?_
    rotate_left
    · intro uu (pu : Prev uu _)
      go_simp
      try (with_reducible rfl)
    try simp only [List.set]
    refine wpAnyH_on (i := 12) (d := 55) (v := ?_) rfl rfl (by kernel_rfl) (by kernel_rfl) (by kernel_rfl) (fun _ _ _ h => h) (by kernel_rfl) (prev_bel _ _) ?_ ?_
    rotate_left
    · intro uu (pu : Prev uu _)
      go_simp
      try (with_reducible rfl)
    try simp only [List.set]
    refine wpAnyH_on (i := 13) (d := 56) (v := ?_) rfl rfl (by kernel_rfl) (by kernel_rfl) (by kernel_rfl) (fun _ _ _ h => h) (by kernel_rfl) (prev_bel _ _) ?_ ?_
    rotate_left
    · intro uu (pu : Prev uu _)
      go_simp
      try (with_reducible rfl)
    try simp only [List.set]
    refine wpAnyH_on (i := 14) (d := 57) (v := ?_) rfl rfl (by kernel_rfl) (by kernel_rfl) (by kernel_rfl) (fun _ _ _ h => h) (by kernel_rfl) (prev_bel _ _) ?_ ?_
    rotate_left
    · intro uu (pu : Prev uu _)
      go_simp
      try (with_reducible rfl)
    try simp only [List.set]
    refine wpAnyH_on (i := 15) (d := 58) (v := ?_) rfl rfl (by kernel_rfl) (by kernel_rfl) (by kernel_rfl) (fun _ _ _ h => h) (by kernel_rfl) (prev_bel _ _) ?_ ?_
    rotate_left
    · intro uu (pu : Prev uu _)
      go_simp
      try (with_reducible rfl)
    try simp only [List.set]
    refine wpAnyH_ready (rs := [16]) (by kernel_rfl) (by simp) ?_
    refine AllReadyH.cons rfl (fun K hK => ?_) AllReadyH.nil
    go_simp
    (with_reducible refine (a07_awake).mono ?_)
    rintro e ux ⟨rfl, _⟩
    dsimp only
    refine hK.out _ _ (prev_bel v _) (fun hHeld => ?_)
    clear hHeld hK K
    try dsimp only [Act.put, List.setIfInBounds_toArray, List.set_cons_zero, List.set_cons_succ]
    refine wpAnyH_on (i := 17) (d := 60) (v := ?_) rfl rfl (by kernel_rfl) (by kernel_rfl) (by kernel_rfl) (fun _ _ _ h => h) (by kernel_rfl) (prev_bel _ _) ?_ ?_
    rotate_left
    · intro uu (pu : Prev uu _)
      go_simp
      try (with_reducible rfl)
    try simp only [List.set]
    refine wpAnyH_on (i := 18) (d := 6) (v := ?_) rfl rfl (by kernel_rfl) (by kernel_rfl) (by kernel_rfl) (fun _ _ _ h => h) (by kernel_rfl) (prev_bel _ _) ?_ ?_
    rotate_left
    · intro uu (pu : Prev uu _)
      go_simp
      try (with_reducible rfl)
    try simp only [List.set]
    refine wpAnyH_done (by kernel_rfl) ?_ _
    go_wp2_with fail
    go_ret
    exact ⟨rfl, bel w _⟩
  have d2 : decide (200 < (PW : Int)) = false := by simp; omega
  have hq8 : min (1048576 : Int) (f.all.length : Int) = (LL : Int) := by
    have b1 : PV * PW ≤ 200 * 200 := Nat.mul_le_mul (by omega) (by omega)
    have := HPP.out
    have := HLL.out
    omega
  have HZ8 := Lib.hid hq8
  clear h1 h2 hq8
  go_enter Try.func6, Try.ntmps6
  go_upto_region 8 with (first | (go_at_call 14; (try first | (with_reducible refine gen_boxK3 (fun u _ _ _ _ => ?_)) | (with_reducible refine gen_boxK2 (fun u _ _ _ => ?_)) | (with_reducible refine gen_boxK (fun u _ _ => ?_))); (with_reducible refine (a07_fewH hs).mono ?_); rintro e u ⟨rfl, _⟩) | (go_at_call 17; (try first | (with_reducible refine gen_boxK3 (fun u _ _ _ _ => ?_)) | (with_reducible refine gen_boxK2 (fun u _ _ _ => ?_)) | (with_reducible refine gen_boxK (fun u _ _ => ?_))); (with_reducible refine (a07_told (by omega) (by omega) HE HV).mono ?_); rintro e u ⟨A', c', rfl, sJ, lJ, fJ, _⟩) | (go_at_call 29; (try first | (with_reducible refine gen_boxK3 (fun u _ _ _ _ => ?_)) | (with_reducible refine gen_boxK2 (fun u _ _ _ => ?_)) | (with_reducible refine gen_boxK (fun u _ _ => ?_))); (with_reducible refine (a03_size hvr).mono ?_); rintro e u ⟨rfl, _⟩) | (go_at_call 29; (try first | (with_reducible refine gen_boxK3 (fun u _ _ _ _ => ?_)) | (with_reducible refine gen_boxK2 (fun u _ _ _ => ?_)) | (with_reducible refine gen_boxK (fun u _ _ => ?_))); (with_reducible refine (a03_size hwr).mono ?_); rintro e u ⟨rfl, _⟩) | (go_at_call 15; (try first | (with_reducible refine gen_boxK3 (fun u _ _ _ _ => ?_)) | (with_reducible refine gen_boxK2 (fun u _ _ _ => ?_)) | (with_reducible refine gen_boxK (fun u _ _ => ?_))); (with_reducible refine (a07_awake).mono ?_); rintro e u ⟨rfl, _⟩))
  obtain ⟨v, rfl⟩ : ∃ v : World, v = u := ⟨_, rfl⟩
  refine wp_region_up v (by kernel_rfl) (fun ux _ => ?_)
  refine wpAnyH_on (i := 0) (d := 61) (v := ?_) rfl rfl (by kernel_rfl) (by kernel_rfl) (by kernel_rfl) (fun _ _ _ h => h) (by kernel_rfl) (prev_bel _ _) ?_ ?_
  rotate_left
  · intro uu (pu : Prev uu _)
    go_simp
    try (with_reducible rfl)
  try simp only [List.set]
  refine wpAnyH_on (i := 1) (d := 62) (v := ?_) rfl rfl (by kernel_rfl) (by kernel_rfl) (by kernel_rfl) (fun _ _ _ h => h) (by kernel_rfl) (prev_bel _ _) ?_ ?_
  rotate_left
  · intro uu (pu : Prev uu _)
    go_simp
    try (with_reducible rfl)
  try simp only [List.set]
  refine wpAnyH_on (i := 2) (d := 63) (v := ?_) rfl rfl (by kernel_rfl) (by kernel_rfl) (by kernel_rfl) (fun _ _ _ h => h) (by kernel_rfl) (prev_bel _ _) ?_ ?_
  rotate_left
  · intro uu (pu : Prev uu _)
    go_simp
    try (with_reducible rfl)
  try simp only [List.set]
  refine wpAnyH_on (i := 4) (d := 65) (v := ?_) rfl rfl (by kernel_rfl) (by kernel_rfl) (by kernel_rfl) (fun _ _ _ h => h) (by kernel_rfl) (prev_bel _ _) ?_ ?_
  rotate_left
  · intro uu (pu : Prev uu _)
    go_simp
    try (with_reducible rfl)
  try simp only [List.set]
  refine wpAnyH_on (i := 6) (d := 67) (v := ?_) rfl rfl (by kernel_rfl) (by kernel_rfl) (by kernel_rfl) (fun _ _ _ h => h) (by kernel_rfl) (prev_bel _ _) ?_ ?_
  rotate_left
  · intro uu (pu : Prev uu _)
    go_simp
    try (with_reducible rfl)
  try simp only [List.set]
  refine wpAnyH_on (i := 9) (d := 70) (v := ?_) rfl rfl (by kernel_rfl) (by kernel_rfl) (by kernel_rfl) (fun _ _ _ h => h) (by kernel_rfl) (prev_bel _ _) ?_ ?_
  rotate_left
  · intro uu (pu : Prev uu _)
    go_simp
    try (with_reducible rfl)
  try simp only [List.set]
  refine wpAnyH_on (i := 10) (d := 71) (v := ?_) rfl rfl (by kernel_rfl) (by kernel_rfl) (by kernel_rfl) (fun _ _ _ h => h) (by kernel_rfl) (prev_bel _ _) ?_ ?_
  rotate_left
  · intro uu (pu : Prev uu _)
    go_simp
    try (with_reducible rfl)
  try simp only [List.set]
  refine wpAnyH_on (i := 11) (d := 72) (v := ?_) rfl rfl (by kernel_rfl) (by kernel_rfl) (by kernel_rfl) (fun _ _ _ h => h) (by kernel_rfl) (prev_bel _ _) ?_ ?_
  rotate_left
  · intro uu (pu : Prev uu _)
    go_simp
    try (with_reducible rfl)
  try simp only [List.set]
  refine wpAnyH_ready (rs := [3]) (by kernel_rfl) (by simp) ?_
  refine AllReadyH.cons rfl (fun K hK => ?_) AllReadyH.nil
  go_simp
  (with_reducible refine (a07_count_yes (by omega) (by omega) HE HV HF (by omega) (by omega) HZ8).mono ?_)
  rintro e ux ⟨rfl, _⟩
  dsimp only
  refine hK.out _ _ (prev_bel v _) (fun hHeld => ?_)
  clear hHeld hK K
  try dsimp only [Act.put, List.setIfInBounds_toArray, List.set_cons_zero, List.set_cons_succ]
  refine wpAnyH_ready (rs := [5]) (by kernel_rfl) (by simp) ?_
  refine AllReadyH.cons rfl (fun K hK => ?_) AllReadyH.nil
  go_simp
  (with_reducible refine (a03_size hvr).mono ?_)
  rintro e ux ⟨rfl, _⟩
  dsimp only
  refine hK.out _ _ (prev_bel v _) (fun hHeld => ?_)
  clear hHeld hK K
  try dsimp only [Act.put, List.setIfInBounds_toArray, List.set_cons_zero, List.set_cons_succ]
  refine wpAnyH_ready (rs := [7]) (by kernel_rfl) (by simp) ?_
  refine AllReadyH.cons rfl (fun K hK => ?_) AllReadyH.nil
  go_simp
  (with_reducible refine (a03_size hwr).mono ?_)
  rintro e ux ⟨rfl, _⟩
  dsimp only
  refine hK.out _ _ (prev_bel v _) (fun hHeld => ?_)
  clear hHeld hK K
  try dsimp only [Act.put, List.setIfInBounds_toArray, List.set_cons_zero, List.set_cons_succ]
  refine wpAnyH_on (i := 8) (d := 69) (v := ?_) rfl rfl (by kernel_rfl) (by kernel_rfl) (by kernel_rfl) (fun _ _ _ h => h) (by kernel_rfl) (prev_bel _ _) ?_ ?_
  rotate_left
  · intro uu (pu : Prev uu _)
    go_simp
    try (with_reducible rfl)
  try simp only [List.set]
  refine wpAnyH_on (i := 12) (d := 73) (v := ?_) rfl rfl (by kernel_rfl) (by kernel_rfl) (by kernel_rfl) (fun _ _ _ h => h) (by kernel_rfl) (prev_bel _ _) ?_ ?_
  rotate_left
  · intro uu (pu : Prev uu _)
    go_simp
    try (with_reducible rfl)
  try simp only [List.set]
  refine wpAnyH_on (i := 13) (d := 74) (v := ?_) rfl rfl (by kernel_rfl) (by kernel_rfl) (by kernel_rfl) (fun _ _ _ h => h) (by kernel_rfl) (prev_bel _ _) ?_ ?_
  rotate_left
  · intro uu (pu : Prev uu _)
    go_simp
    try (with_reducible rfl)
  try simp only [List.set]
  refine wpAnyH_on (i := 14) (d := 75) (v := ?_) rfl rfl (by kernel_rfl) (by kernel_rfl) (by kernel_rfl) (fun _ _ _ h => h) (by kernel_rfl) (prev_bel _ _) ?_ ?_
  rotate_left
  · intro uu (pu : Prev uu _)
    go_simp
    try (with_reducible rfl)
  try simp only [List.set]
  refine wpAnyH_ready (rs := [15]) (by kernel_rfl) (by simp) ?_
  refine AllReadyH.cons rfl (fun K hK => ?_) AllReadyH.nil
  go_simp
  (with_reducible refine (a07_awake).mono ?_)
  rintro e ux ⟨rfl, _⟩
  dsimp only
  refine hK.out _ _ (prev_bel v _) (fun hHeld => ?_)
  clear hHeld hK K
  try dsimp only [Act.put, List.setIfInBounds_toArray, List.set_cons_zero, List.set_cons_succ]
  refine wpAnyH_on (i := 16) (d := 77) (v := ?_) rfl rfl (by kernel_rfl) (by kernel_rfl) (by kernel_rfl) (fun _ _ _ h => h) (by kernel_rfl) (prev_bel _ _) ?_ ?_
  rotate_left
  · intro uu (pu : Prev uu _)
    go_simp
    try (with_reducible rfl)
  try simp only [List.set]
  refine wpAnyH_on (i := 17) (d := 6) (v := ?_) rfl rfl (by kernel_rfl) (by kernel_rfl) (by kernel_rfl) (fun _ _ _ h => h) (by kernel_rfl) (prev_bel _ _) ?_ ?_
  rotate_left
  · intro uu (pu : Prev uu _)
    go_simp
    try (with_reducible rfl)
  try simp only [List.set]
  refine wpAnyH_done (by kernel_rfl) ?_ _
  go_wp2_with fail
  go_ret
  exact ⟨rfl, bel w _⟩

end Go.Proofs.Yteibgdcieaiaiaa

namespace Go.Proofs.Yteibgdcieaiaiaa
open Go.ChangeShapes Go.WideShapes Go.ChangeAt Go.RowKit

set_option maxRecDepth 100000 in
theorem convTouches_lifted (os : Os) (started : os.Started) (H : Type) (enc : TypeId × Value → H) :
    ReturnsInHanded {} Try.checked os 6 .any (Rows.convTouchesSpec.pre6 enc Try.prog Try.f6 Rows.convTouchesRow.domain false) (Rows.convTouchesSpec.post enc Try.prog Try.f6 false true false false) := by
  refine returnsInHanded_of_change (C := Try.checked) ownKnob_none started (by kernel_rfl) Try.func6
    (ChangeSpec.witness6 (enc := enc) (C := Try.checked) false ⟨#[], #[.slice none 0 0, .slice none 0 0, .int .i64 0], []⟩ 8 (by kernel_rfl) (by kernel_rfl) (by kernel_rfl) (by kernel_rfl)) ?_
  intro W base args ds gs before hval0 hW _ _
  have hval : ∀ (j : Nat) t v, Try.f6.params[j]? = some t → args[j]? = some v → Value.okWide Try.prog W .any base t v := hval0
  have hW' := hW
  obtain ⟨p, q, hA0, hV, rfl, _, _⟩ := hW
  have hA : DataW.TrodAll enc Try.prog W 0 (fun _ => true) true Try.f6.params.toList args.toList ds p := hA0
  rw [Try.params6] at hA hval
  have hAll := hA
  obtain ⟨v0, vs0, d0, ds0, p0, q0, hargs, rfl, rfl, h0, r0⟩ := trodAll_cons hA
  obtain ⟨v1, vs1, d1, ds1, p1, q1, rfl, rfl, rfl, h1, r1⟩ := trodAll_cons r0
  obtain ⟨v2, vs2, d2, ds2, p2, q2, rfl, rfl, rfl, h2, r2⟩ := trodAll_cons r1
  obtain ⟨rfl, rfl, rfl⟩ := trodAll_nil r2
  obtain rfl : args = #[v0, v1, v2] := by cases args; simp_all
  obtain ⟨rfl, rfl⟩ := trodVars_none hV
  obtain ⟨A0, c0, z0, rfl, w0⟩ := arg_ints Try.underlying23 Try.underlying3 (by kernel_rfl) (hval 0 23 v0 rfl rfl) h0
  obtain ⟨A1, c1, z1, rfl, w1⟩ := arg_ints Try.underlying23 Try.underlying3 (by kernel_rfl) (hval 1 23 v1 rfl rfl) h1
  obtain ⟨a2, rfl, w2⟩ := arg_int Try.underlying3 (hval 2 3 v2 rfl rfl) h2
  clear hA0 hval0
  refine (convTouches_calls A0 A1 c0 c1 z0 z1 a2 W w0 w1).mono fun e W' ⟨he, bel⟩ => ?_
  subst he
  exact ⟨_, rfl, _, _, _, [], _, [], hW', trodAll_mk1 (shut_bool Try.underlying4 _), trodAll_below laidOut_all (by decide +kernel) hAll bel, rfl, bel.frame _, fun h => by cases h⟩

theorem convTouches_holds : Rows.ConvTouchesSaid :=
  OpenClaim.holds_of_wide 6 Try.f6 rfl rfl rfl rfl rfl rfl rfl ⟨rfl, rfl, rfl, rfl, rfl⟩ rfl rfl rfl rfl rfl (by kernel_rfl) Try.func6 (by kernel_rfl)
    (of_decide_eq_true (by kernel_rfl)) (by unfold Func.isWrapper; first | (rw [if_pos (by decide +kernel)]; kernel_rfl) | (rw [if_neg (by decide +kernel)]; exact ⟨rfl, rfl⟩))
    (fun os started H enc _ => convTouches_lifted os started H enc)

end Go.Proofs.Yteibgdcieaiaiaa
