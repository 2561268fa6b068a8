/- The walk of dense.Back. -/
import Derived.Test.YthcdjdhnjbdfeaaDense3
import Derived.Test.YthcdjdhnjbdfeaaOff
import Derived.Deep.DeepCutAuto
import Derived.StillTailTactics
namespace Go.Proofs.Ythcdjdhnjbdfeaa
open Go.RowKit

theorem box6 {w : World} {g : Nat} {T : TypeId} {v0 v1 v2 v3 v4 v5 : Value} (h : Blk w g T #[v0, v1, v2, v3, v4, v5]) :
    w.cell? ⟨g, 0, none⟩ = some v0 ∧ w.cell? ⟨g, 1, none⟩ = some v1 ∧ w.cell? ⟨g, 2, none⟩ = some v2 ∧ w.cell? ⟨g, 3, none⟩ = some v3 ∧ w.cell? ⟨g, 4, none⟩ = some v4 ∧ w.cell? ⟨g, 5, none⟩ = some v5 :=
  ⟨h.cell 0, h.cell 1, h.cell 2, h.cell 3, h.cell 4, h.cell 5⟩
def World.set6 (w : World) (g : Nat) (v0 v1 v2 v3 v4 v5 : Value) : World := (((((w.setCell ⟨g, 0, none⟩ v0).setCell ⟨g, 1, none⟩ v1).setCell ⟨g, 2, none⟩ v2).setCell ⟨g, 3, none⟩ v3).setCell ⟨g, 4, none⟩ v4).setCell ⟨g, 5, none⟩ v5
theorem Blk.set6 {w : World} {g : Nat} {T : TypeId} {a b c d e f : Value} (h : Blk w g T #[a, b, c, d, e, f]) (v0 v1 v2 v3 v4 v5 : Value) :
    Blk ((((((w.setCell ⟨g, 0, none⟩ v0).setCell ⟨g, 1, none⟩ v1).setCell ⟨g, 2, none⟩ v2).setCell ⟨g, 3, none⟩ v3).setCell ⟨g, 4, none⟩ v4).setCell ⟨g, 5, none⟩ v5) g T #[v0, v1, v2, v3, v4, v5] :=
  (((((h.set_ 0 v0).set_ 1 v1).set_ 2 v2).set_ 3 v3).set_ 4 v4).set_ 5 v5
theorem bset6 {w w' : World} {n p : Nat} (h : Below n w w') (hp : n ≤ p) (v0 v1 v2 v3 v4 v5 : Value) :
    Below n w ((((((w'.setCell ⟨p, 0, none⟩ v0).setCell ⟨p, 1, none⟩ v1).setCell ⟨p, 2, none⟩ v2).setCell ⟨p, 3, none⟩ v3).setCell ⟨p, 4, none⟩ v4).setCell ⟨p, 5, none⟩ v5) :=
  (((((h.setCell (p := ⟨p, 0, none⟩) hp v0).setCell (p := ⟨p, 1, none⟩) hp v1).setCell (p := ⟨p, 2, none⟩) hp v2).setCell (p := ⟨p, 3, none⟩) hp v3).setCell (p := ⟨p, 4, none⟩) hp v4).setCell (p := ⟨p, 5, none⟩) hp v5
theorem off6 {w : World} {p : Nat} (v0 v1 v2 v3 v4 v5 : Value) :
    Off [p] w ((((((w.setCell ⟨p, 0, none⟩ v0).setCell ⟨p, 1, none⟩ v1).setCell ⟨p, 2, none⟩ v2).setCell ⟨p, 3, none⟩ v3).setCell ⟨p, 4, none⟩ v4).setCell ⟨p, 5, none⟩ v5) :=
  have m : p ∈ [p] := by simp
  ((((((Off.refl [p] w).set_ m 0 v0).set_ m 1 v1).set_ m 2 v2).set_ m 3 v3).set_ m 4 v4).set_ m 5 v5
theorem Off.own1 {p k : Nat} {W wr : World} {T : TypeId} {zs : List Int} (h : Off [p] W wr) (hb : Own W k T zs) (hne : k ≠ p) : Own wr k T zs := h.own hb (by simpa using hne)

/-- Do all four belong together? -/
def backB (zs xs ts ys us vs ps gs : List Int) : Bool := agreeB zs xs ts ys us vs && tRightB ps gs && decide (ps = ts)
/-- Three tensors in new memory (or zero ones), and an error's number. -/
def RetGr (w : World) (zs xs ts ys us vs : List Int) (E : Int) (e : Ending) (w' : World) : Prop :=
  ∃ A c B d A' c' B' d' A'' c'' B'' d'', e = .returned (.tuple #[.agg #[.slice A zs.length c, .slice B xs.length d, .slice A' ts.length c', .slice B' ys.length d', .slice A'' us.length c'', .slice B'' vs.length d''], .int .i64 E]) ∧
    OwnA w' w.heap.size 3 A c zs ∧ OwnA w' w.heap.size 27 B d xs ∧ OwnA w' w.heap.size 3 A' c' ts ∧ OwnA w' w.heap.size 27 B' d' ys ∧ OwnA w' w.heap.size 3 A'' c'' us ∧ OwnA w' w.heap.size 27 B'' d'' vs ∧ Below w.heap.size w w'

set_option maxRecDepth 100000 in
set_option maxHeartbeats 4000000 in
theorem d_back_no (A B C D E F G H : Option Addr) (c d c' d' e' f' g' h' : Nat) (zs xs ts ys us vs ps gs : List Int) (w : World) (hzl : zs.length ≤ 1000000) (htl : ts.length ≤ 1000000) (hul : us.length ≤ 1000000) (hpl : ps.length ≤ 1000000) (h1 : Rd w A zs) (h3 : Rd w C ts) (h5 : Rd w E us) (h7 : Rd w G ps) (hr : Hid (backB zs xs ts ys us vs ps gs = false)) :
    Calls Try.prog 39 #[.agg #[.slice A zs.length c, .slice B xs.length d], .agg #[.slice C ts.length c', .slice D ys.length d'], .agg #[.slice E us.length e', .slice F vs.length f'], .agg #[.slice G ps.length g', .slice H gs.length h']] w (RetGr w [] [] [] [] [] [] 20) := by
  have kB := Blk.new' (w.alloc (.cells #[.slice A zs.length c, .slice B xs.length d] 26)) 26 #[.slice C ts.length c', .slice D ys.length d'] (n := w.heap.size + 1) (by simp)
  have kG := Blk.new' (((w.alloc (.cells #[.slice A zs.length c, .slice B xs.length d] 26)).alloc (.cells #[.slice C ts.length c', .slice D ys.length d'] 26)).alloc (.cells #[.slice E us.length e', .slice F vs.length f'] 26)) 26 #[.slice G ps.length g', .slice H gs.length h'] (n := w.heap.size + 1 + 1 + 1) (by simp)
  have kR := Blk.new' ((((w.alloc (.cells #[.slice A zs.length c, .slice B xs.length d] 26)).alloc (.cells #[.slice C ts.length c', .slice D ys.length d'] 26)).alloc (.cells #[.slice E us.length e', .slice F vs.length f'] 26)).alloc (.cells #[.slice G ps.length g', .slice H gs.length h'] 26)) 63 #[.slice none 0 0, .slice none 0 0, .slice none 0 0, .slice none 0 0, .slice none 0 0, .slice none 0 0] (n := w.heap.size + 1 + 1 + 1 + 1) (by simp)
  have FIN : ∀ w' : World, Below w.heap.size w w' → Blk w' (w.heap.size + 1 + 1 + 1 + 1) 63 #[.slice none 0 0, .slice none 0 0, .slice none 0 0, .slice none 0 0, .slice none 0 0, .slice none 0 0] → RetGr w [] [] [] [] [] [] 20 (.returned (.tuple #[.agg #[.slice none 0 0, .slice none 0 0, .slice none 0 0, .slice none 0 0, .slice none 0 0, .slice none 0 0], .int .i64 20])) w' := fun w' hb _ =>
    ⟨none, 0, none, 0, none, 0, none, 0, none, 0, none, 0, rfl, OwnA.nil _ _ _, OwnA.nil _ _ _, OwnA.nil _ _ _, OwnA.nil _ _ _, OwnA.nil _ _ _, OwnA.nil _ _ _, hb⟩
  have FN := Lib.hid FIN
  clear FIN
  rcases q1 : agreeB zs xs ts ys us vs with _ | _
  · have Q1 := Lib.hid q1
    clear q1
    go_enter Try.func39, Try.ntmps39
    go_wp2_with fail
    refine (d_agree A B C D E F c d c' d' e' f' zs xs ts ys us vs _ hzl htl hul h1.at h3.at h5.at).mono ?_
    rintro e w1 ⟨rfl, hb⟩
    have pw1 := Prev.mk hb
    clear hb
    rw [Q1.out]
    have k1 := kR.at (w' := w1)
    obtain ⟨q0, q1, q2, q3, q4, q5⟩ := box6 k1
    have f0 := k1.frozen 0
    have f1 := k1.frozen 1
    have f2 := k1.frozen 2
    have f3 := k1.frozen 3
    have f4 := k1.frozen 4
    have f5 := k1.frozen 5
    go_wp2_with fail
    have k3 := k1.set6 (.slice none 0 0) (.slice none 0 0) (.slice none 0 0) (.slice none 0 0) (.slice none 0 0) (.slice none 0 0)
    have B3 := bset6 (bel w w1) (p := w.heap.size + 1 + 1 + 1 + 1) (by omega) (.slice none 0 0) (.slice none 0 0) (.slice none 0 0) (.slice none 0 0) (.slice none 0 0) (.slice none 0 0)
    clear q0 q1 q2 q3 q4 q5
    obtain ⟨q0, q1, q2, q3, q4, q5⟩ := box6 k3
    refine bodyPost_ret (v := .tuple #[.agg #[.slice none 0 0, .slice none 0 0, .slice none 0 0, .slice none 0 0, .slice none 0 0, .slice none 0 0], .int .i64 20]) (by simp [results, Try.results39, go_sem, q0, q1, q2, q3, q4, q5]) rfl ?_
    exact FN.out _ B3 k3
  rcases q2 : tRightB ps gs with _ | _
  · have Q1 := Lib.hid q1
    have Q2 := Lib.hid q2
    clear q1 q2
    go_enter Try.func39, Try.ntmps39
    go_wp2_with fail
    refine (d_agree A B C D E F c d c' d' e' f' zs xs ts ys us vs _ hzl htl hul h1.at h3.at h5.at).mono ?_
    rintro e w1 ⟨rfl, hb⟩
    have pw1 := Prev.mk hb
    clear hb
    rw [Q1.out]
    obtain ⟨p0, p1⟩ := box2 (kG.at (w' := w1))
    go_wp2_with fail
    refine (t_right G H g' h' ps gs _ hpl h7.at).mono ?_
    rintro e w2 ⟨rfl, hb⟩
    have pw2 := Prev.mk hb
    clear hb
    rw [Q2.out]
    clear p0 p1
    have k1 := kR.at (w' := w2)
    obtain ⟨q0, q1, q2, q3, q4, q5⟩ := box6 k1
    have f0 := k1.frozen 0
    have f1 := k1.frozen 1
    have f2 := k1.frozen 2
    have f3 := k1.frozen 3
    have f4 := k1.frozen 4
    have f5 := k1.frozen 5
    go_wp2_with fail
    have k3 := k1.set6 (.slice none 0 0) (.slice none 0 0) (.slice none 0 0) (.slice none 0 0) (.slice none 0 0) (.slice none 0 0)
    have B3 := bset6 (bel w w2) (p := w.heap.size + 1 + 1 + 1 + 1) (by omega) (.slice none 0 0) (.slice none 0 0) (.slice none 0 0) (.slice none 0 0) (.slice none 0 0) (.slice none 0 0)
    clear q0 q1 q2 q3 q4 q5
    obtain ⟨q0, q1, q2, q3, q4, q5⟩ := box6 k3
    refine bodyPost_ret (v := .tuple #[.agg #[.slice none 0 0, .slice none 0 0, .slice none 0 0, .slice none 0 0, .slice none 0 0, .slice none 0 0], .int .i64 20]) (by simp [results, Try.results39, go_sem, q0, q1, q2, q3, q4, q5]) rfl ?_
    exact FN.out _ B3 k3
  · have Q1 := Lib.hid q1
    have Q2 := Lib.hid q2
    have Q3 : Hid (decide (ps = ts) = false) := Lib.hid (by have := hr.out; simpa [backB, q1, q2] using this)
    clear q1 q2
    go_enter Try.func39, Try.ntmps39
    go_wp2_with fail
    refine (d_agree A B C D E F c d c' d' e' f' zs xs ts ys us vs _ hzl htl hul h1.at h3.at h5.at).mono ?_
    rintro e w1 ⟨rfl, hb⟩
    have pw1 := Prev.mk hb
    clear hb
    rw [Q1.out]
    obtain ⟨p0, p1⟩ := box2 (kG.at (w' := w1))
    go_wp2_with fail
    refine (t_right G H g' h' ps gs _ hpl h7.at).mono ?_
    rintro e w2 ⟨rfl, hb⟩
    have pw2 := Prev.mk hb
    clear hb
    rw [Q2.out]
    clear p0 p1
    obtain ⟨p0, p1⟩ := box2 (kG.at (w' := w2))
    obtain ⟨q0, q1⟩ := box2 (kB.at (w' := w2))
    go_wp2_with fail
    refine (sh_equal_b G C g' c' ps ts _ hpl htl h7.at h3.at).mono ?_
    rintro e w3 ⟨rfl, hb⟩
    have pw3 := Prev.mk hb
    clear hb
    rw [Q3.out]
    clear p0 p1 q0 q1
    have k1 := kR.at (w' := w3)
    obtain ⟨q0, q1, q2, q3, q4, q5⟩ := box6 k1
    have f0 := k1.frozen 0
    have f1 := k1.frozen 1
    have f2 := k1.frozen 2
    have f3 := k1.frozen 3
    have f4 := k1.frozen 4
    have f5 := k1.frozen 5
    go_wp2_with fail
    have k3 := k1.set6 (.slice none 0 0) (.slice none 0 0) (.slice none 0 0) (.slice none 0 0) (.slice none 0 0) (.slice none 0 0)
    have B3 := bset6 (bel w w3) (p := w.heap.size + 1 + 1 + 1 + 1) (by omega) (.slice none 0 0) (.slice none 0 0) (.slice none 0 0) (.slice none 0 0) (.slice none 0 0) (.slice none 0 0)
    clear q0 q1 q2 q3 q4 q5
    obtain ⟨q0, q1, q2, q3, q4, q5⟩ := box6 k3
    refine bodyPost_ret (v := .tuple #[.agg #[.slice none 0 0, .slice none 0 0, .slice none 0 0, .slice none 0 0, .slice none 0 0, .slice none 0 0], .int .i64 20]) (by simp [results, Try.results39, go_sem, q0, q1, q2, q3, q4, q5]) rfl ?_
    exact FN.out _ B3 k3

set_option maxRecDepth 100000 in
set_option maxHeartbeats 8000000 in
theorem d_back_yes (A B C D E F G H : Option Addr) (c d c' d' e' f' g' h' : Nat) (zs xs ts ys us vs ps gs : List Int) (w : World) (hd : xs.length ≤ d) (hul : us.length ≤ 1000000) (h1 : Rd w A zs) (h2 : Rd w B xs) (h3 : Rd w C ts) (h5 : Rd w E us) (h6 : Rd w F vs) (h7 : Rd w G ps) (h8 : Rd w H gs) (hx : Hid (∀ z ∈ xs, I64 z)) (hv : Hid (∀ z ∈ vs, I64 z)) (hg : Hid (∀ z ∈ gs, I64 z)) (hr : Hid (backB zs xs ts ys us vs ps gs = true)) :
    Calls Try.prog 39 #[.agg #[.slice A zs.length c, .slice B xs.length d], .agg #[.slice C ts.length c', .slice D ys.length d'], .agg #[.slice E us.length e', .slice F vs.length f'], .agg #[.slice G ps.length g', .slice H gs.length h']] w (RetGr w zs (backW gs vs) ts gs us (backX vs.length xs gs) 0) := by
  obtain ⟨Q1, Q2, Q3⟩ : Hid (agreeB zs xs ts ys us vs = true) ∧ Hid (tRightB ps gs = true) ∧ Hid (ps = ts) := by
    have := hr.out
    simp only [backB, Bool.and_eq_true, decide_eq_true_eq] at this
    exact ⟨this.1.1, this.1.2, this.2⟩
  obtain ⟨M, N, rfl, rfl, hxl, hyl, hvl, hM1, hN1, hM, hN, hx6, -, -, -⟩ := agree_nats Q1.out
  have hgl : gs.length = M := by
    have := ((tRightB_iff _ _).1 Q2.out).2
    rw [Q3.out] at this
    simp [prodL] at this
    omega
  have q3 := Q3.out
  subst q3
  have HXL := Lib.hid hxl
  have HVL := Lib.hid hvl
  have HGL := Lib.hid hgl
  have hgM : gs.length ≤ 1024 := by omega
  have hvN : vs.length ≤ 1024 := by omega
  have hv1 : 0 < vs.length := by omega
  have hx1 : 0 < xs.length := by rw [hxl]; exact Nat.mul_pos hM1 hN1
  obtain ⟨bx, ox, x0, rfl, -, -, -⟩ := h2.get (k := 0) hx1
  have HBL : Hid ((backW gs vs).length = xs.length) := Lib.hid (by rw [backW_length, hgl, hvl, hxl])
  clear hxl hyl hvl hgl Q3
  have kW := Blk.new w 26 #[.slice A 2 c, .slice (some ⟨bx, ox, none⟩) xs.length d]
  have kB := Blk.new' (w.alloc (.cells #[.slice A 2 c, .slice (some ⟨bx, ox, none⟩) xs.length d] 26)) 26 #[.slice C 1 c', .slice D ys.length d'] (n := w.heap.size + 1) (by simp)
  have kX := Blk.new' ((w.alloc (.cells #[.slice A 2 c, .slice (some ⟨bx, ox, none⟩) xs.length d] 26)).alloc (.cells #[.slice C 1 c', .slice D ys.length d'] 26)) 26 #[.slice E us.length e', .slice F vs.length f'] (n := w.heap.size + 1 + 1) (by simp)
  have kG := Blk.new' (((w.alloc (.cells #[.slice A 2 c, .slice (some ⟨bx, ox, none⟩) xs.length d] 26)).alloc (.cells #[.slice C 1 c', .slice D ys.length d'] 26)).alloc (.cells #[.slice E us.length e', .slice F vs.length f'] 26)) 26 #[.slice G 1 g', .slice H gs.length h'] (n := w.heap.size + 1 + 1 + 1) (by simp)
  have kR := Blk.new' ((((w.alloc (.cells #[.slice A 2 c, .slice (some ⟨bx, ox, none⟩) xs.length d] 26)).alloc (.cells #[.slice C 1 c', .slice D ys.length d'] 26)).alloc (.cells #[.slice E us.length e', .slice F vs.length f'] 26)).alloc (.cells #[.slice G 1 g', .slice H gs.length h'] 26)) 63 #[.slice none 0 0, .slice none 0 0, .slice none 0 0, .slice none 0 0, .slice none 0 0, .slice none 0 0] (n := w.heap.size + 1 + 1 + 1 + 1) (by simp)
  go_enter Try.func39, Try.ntmps39
  go_wp2_with fail
  refine (d_agree A (some ⟨bx, ox, none⟩) C D E F c d c' d' e' f' [(M : Int), (N : Int)] xs [(M : Int)] ys us vs _ (by simp) (by simp) hul h1.at h3.at h5.at).mono ?_
  rintro e w1 ⟨rfl, hb⟩
  have pw1 := Prev.mk hb
  clear hb
  rw [Q1.out]
  obtain ⟨p0, p1⟩ := box2 (kG.at (w' := w1))
  go_wp2_with fail
  refine (t_right G H g' h' [(M : Int)] gs _ (by simp) h7.at).mono ?_
  rintro e w2 ⟨rfl, hb⟩
  have pw2 := Prev.mk hb
  clear hb
  rw [Q2.out]
  clear p0 p1
  obtain ⟨p0, p1⟩ := box2 (kG.at (w' := w2))
  obtain ⟨q0, q1⟩ := box2 (kB.at (w' := w2))
  go_wp2_with fail
  refine (sh_equal_b G C g' c' [(M : Int)] [(M : Int)] _ (by simp) (by simp) h7.at h3.at).mono ?_
  rintro e w3 ⟨rfl, hb⟩
  have pw3 := Prev.mk hb
  clear hb
  rw [show decide (([(M : Int)] : List Int) = [(M : Int)]) = true from decide_eq_true rfl]
  clear p0 p1 q0 q1
  have hs3 := (kR.at (w' := w3)).lt
  go_upto_region 3 with fail
  go_cut [10] (fun s10 wx => ∃ b0 a b c d e f : Nat, s10 = .pointer (some ⟨b0, 0, none⟩) ∧ Blk wx b0 63 #[.slice (some ⟨a, 0, none⟩) 2 2, .slice (some ⟨b, 0, none⟩) xs.length xs.length, .slice (some ⟨c, 0, none⟩) 1 1, .slice (some ⟨d, 0, none⟩) gs.length gs.length, .slice (some ⟨e, 0, none⟩) us.length us.length, .slice (some ⟨f, 0, none⟩) vs.length vs.length] ∧
    Own wx a 3 [(M : Int), (N : Int)] ∧ Own wx b 27 xs ∧ Own wx c 3 [(M : Int)] ∧ Own wx d 27 gs ∧ Own wx e 3 us ∧ Own wx f 27 vs ∧ w3.heap.size ≤ a ∧ w3.heap.size ≤ b ∧ w3.heap.size ≤ c ∧ w3.heap.size ≤ d ∧ w3.heap.size ≤ e ∧ w3.heap.size ≤ f ∧ w3.heap.size ≤ b0 ∧ b < d ∧ d < f ∧ Below w3.heap.size w3 wx)
  case first =>
    have C1 := Lib.hid fun (w' : World) (ha : Rd w' A [(M : Int), (N : Int)]) (hb : Rd w' (some ⟨bx, ox, none⟩) xs) => t_copy A (some ⟨bx, ox, none⟩) c d [(M : Int), (N : Int)] xs w' (by simp) (by omega) ha hb
    have C2 := Lib.hid fun (w' : World) (ha : Rd w' G [(M : Int)]) (hb : Rd w' H gs) => t_copy G H g' h' [(M : Int)] gs w' (by simp) (by omega) ha hb
    have C3 := Lib.hid fun (w' : World) (ha : Rd w' E us) (hb : Rd w' F vs) => t_copy E F e' f' us vs w' (by omega) (by omega) ha hb
    have HK0 : Hid (∀ w' : World, Below (w3).heap.size (w3) w' → w'.cell? ⟨w.heap.size, 0, none⟩ = some (.slice A 2 c) ∧ w'.cell? ⟨w.heap.size, 1, none⟩ = some (.slice (some ⟨bx, ox, none⟩) xs.length d) ∧ w'.cell? ⟨w.heap.size + 1 + 1, 0, none⟩ = some (.slice E us.length e') ∧ w'.cell? ⟨w.heap.size + 1 + 1, 1, none⟩ = some (.slice F vs.length f') ∧ w'.cell? ⟨w.heap.size + 1 + 1 + 1, 0, none⟩ = some (.slice G 1 g') ∧ w'.cell? ⟨w.heap.size + 1 + 1 + 1, 1, none⟩ = some (.slice H gs.length h')) := Lib.hid (fun w' hbk => ⟨(kW.at.keep hbk).cell 0, (kW.at.keep hbk).cell 1, (kX.at.keep hbk).cell 0, (kX.at.keep hbk).cell 1, (kG.at.keep hbk).cell 0, (kG.at.keep hbk).cell 1⟩)
    refine wp_region_held_drew (S := fun w' => w'.cell? ⟨w.heap.size, 0, none⟩ = some (.slice A 2 c) ∧ w'.cell? ⟨w.heap.size, 1, none⟩ = some (.slice (some ⟨bx, ox, none⟩) xs.length d) ∧ w'.cell? ⟨w.heap.size + 1 + 1, 0, none⟩ = some (.slice E us.length e') ∧ w'.cell? ⟨w.heap.size + 1 + 1, 1, none⟩ = some (.slice F vs.length f') ∧ w'.cell? ⟨w.heap.size + 1 + 1 + 1, 0, none⟩ = some (.slice G 1 g') ∧ w'.cell? ⟨w.heap.size + 1 + 1 + 1, 1, none⟩ = some (.slice H gs.length h')) (by kernel_rfl) (HK0.out _ (bel _ _)) (fun _ => ?_)
    refine gen_drewH (fun wD pwD => ?_)
    have hHeld := HK0.out wD (bel _ _)
    refine wpAnyH_on (i := 0) (d := 36) (v := ?_) rfl rfl (by kernel_rfl) (by kernel_rfl) (by kernel_rfl) (fun _ _ _ h => h) (by kernel_rfl) (by assumption) ?_ ?_
    rotate_left
    · intro w hSw
      (try dsimp only at hSw)
      go_simp
      try (with_reducible rfl)
    simp only [List.set]
    refine wpAnyH_on (i := 2) (d := 38) (v := ?_) rfl rfl (by kernel_rfl) (by kernel_rfl) (by kernel_rfl) (fun _ _ _ h => h) (by kernel_rfl) (by assumption) ?_ ?_
    rotate_left
    · intro w hSw
      (try dsimp only at hSw)
      go_simp
      try (with_reducible rfl)
    simp only [List.set]
    refine wpAnyH_on (i := 4) (d := 40) (v := ?_) rfl rfl (by kernel_rfl) (by kernel_rfl) (by kernel_rfl) (fun _ _ _ h => h) (by kernel_rfl) (by assumption) ?_ ?_
    rotate_left
    · intro w hSw
      (try dsimp only at hSw)
      go_simp
      try (with_reducible rfl)
    simp only [List.set]
    refine wpAnyH_ready (rs := [1, 7]) (by kernel_rfl) (by simp) ?_
    refine AllReadyH.cons rfl (fun K hK => ?_) (AllReadyH.cons rfl (fun K hK => ?_) AllReadyH.nil)
    · go_simp
      refine (C1.out _ h1.at h2.at).mono ?_
      rintro e wA ⟨a, b, rfl, la, lb, oa, ob, hb⟩
      dsimp only
      have pwA := Prev.mk hb
      clear hb
      refine hK.out _ _ (HK0.out _ (bel _ _)) (fun hHeld => ?_)
      clear hK K
      try dsimp only [Act.put, List.setIfInBounds_toArray, List.set_cons_zero, List.set_cons_succ]
      refine wpAnyH_ready (rs := [3, 7]) (by kernel_rfl) (by simp) ?_
      refine AllReadyH.cons rfl (fun K hK => ?_) (AllReadyH.cons rfl (fun K hK => ?_) AllReadyH.nil)
      · go_simp
        refine (C2.out _ h7.at h8.at).mono ?_
        rintro e wB ⟨c2, d2, rfl, lc, ld, oc, od, hb⟩
        dsimp only
        have pwB := Prev.mk hb
        clear hb
        refine hK.out _ _ (HK0.out _ (bel _ _)) (fun hHeld => ?_)
        clear hK K
        try dsimp only [Act.put, List.setIfInBounds_toArray, List.set_cons_zero, List.set_cons_succ]
        refine wpAnyH_ready (rs := [5, 7]) (by kernel_rfl) (by simp) ?_
        refine AllReadyH.cons rfl (fun K hK => ?_) (AllReadyH.cons rfl (fun K hK => ?_) AllReadyH.nil)
        · go_simp
          refine (C3.out _ h5.at h6.at).mono ?_
          rintro e wC ⟨e2, f2, rfl, le, lf, oe, of, hb⟩
          dsimp only
          have pwC := Prev.mk hb
          clear hb
          refine hK.out _ _ (HK0.out _ (bel _ _)) (fun hHeld => ?_)
          clear hK K
          try dsimp only [Act.put, List.setIfInBounds_toArray, List.set_cons_zero, List.set_cons_succ]
          refine wpAnyH_on (i := 6) (d := 42) (v := ?_) rfl rfl (by kernel_rfl) (by kernel_rfl) (by kernel_rfl) (fun _ _ _ h => h) (by kernel_rfl) (by assumption) ?_ ?_
          rotate_left
          · intro w hSw
            (try dsimp only at hSw)
            go_simp
            try (with_reducible rfl)
          simp only [List.set]
          refine wpAnyH_ready (rs := [7]) (by kernel_rfl) (by simp) ?_
          refine AllReadyH.cons rfl (fun K hK => ?_) AllReadyH.nil
          go_simp
          refine hK.out _ _ (HK0.out _ (bel _ _)) (fun _ => ?_)
          clear hK K
          try dsimp only [Act.put, List.setIfInBounds_toArray, List.set_cons_zero, List.set_cons_succ]
          refine gen_allocH (fun u1 pu1 ku1 zu1 => ?_)
          have hHeld := HK0.out u1 (bel _ _)
          refine wpAnyH_ready (rs := [8]) (by kernel_rfl) (by simp) ?_
          refine AllReadyH.cons rfl (fun K hK => ?_) AllReadyH.nil
          rename World => wN
          obtain ⟨q0, q1, q2, q3, q4, q5⟩ := box6 (ku1.at (w' := wN))
          have y0 := (ku1.at (w' := wN)).frozen 0
          have y1 := (ku1.at (w' := wN)).frozen 1
          have y2 := (ku1.at (w' := wN)).frozen 2
          have y3 := (ku1.at (w' := wN)).frozen 3
          have y4 := (ku1.at (w' := wN)).frozen 4
          have y5 := (ku1.at (w' := wN)).frozen 5
          skip
          go_simp
          refine hK.out _ _ (HK0.out _ (bset6 (bel w3 wN) later_size _ _ _ _ _ _)) (fun hHeld => ?_)
          clear hK K
          try dsimp only [Act.put, List.setIfInBounds_toArray, List.set_cons_zero, List.set_cons_succ]
          have n1 := Nat.lt_of_lt_of_le ob.lt (Nat.le_trans (later_size (w := wA)) ld)
          have n2 := Nat.lt_of_lt_of_le od.lt (Nat.le_trans (later_size (w := wB)) lf)
          refine wpAnyH_done (by kernel_rfl) ?_ _
          go_wp2_with fail
          go_meet
          exact ⟨_, a, b, c2, d2, e2, f2, rfl, (ku1.at (w' := wN)).set6 _ _ _ _ _ _, (off6 _ _ _ _ _ _).own1 (oa.at (w' := wN)) ((oa.at (w' := wN)).ne_blk (ku1.at (w' := wN)) (by decide)), (off6 _ _ _ _ _ _).own1 (ob.at (w' := wN)) ((ob.at (w' := wN)).ne_blk (ku1.at (w' := wN)) (by decide)), (off6 _ _ _ _ _ _).own1 (oc.at (w' := wN)) ((oc.at (w' := wN)).ne_blk (ku1.at (w' := wN)) (by decide)), (off6 _ _ _ _ _ _).own1 (od.at (w' := wN)) ((od.at (w' := wN)).ne_blk (ku1.at (w' := wN)) (by decide)), (off6 _ _ _ _ _ _).own1 (oe.at (w' := wN)) ((oe.at (w' := wN)).ne_blk (ku1.at (w' := wN)) (by decide)), (off6 _ _ _ _ _ _).own1 (of.at (w' := wN)) ((of.at (w' := wN)).ne_blk (ku1.at (w' := wN)) (by decide)), Nat.le_trans later_size la, Nat.le_trans later_size lb, Nat.le_trans later_size lc, Nat.le_trans later_size ld, Nat.le_trans later_size le, Nat.le_trans later_size lf, later_size, n1, n2, bset6 (bel w3 wN) later_size _ _ _ _ _ _⟩
        · go_simp
          refine hK.out _ _ (HK0.out _ (bel _ _)) (fun _ => ?_)
          clear hK K
          try dsimp only [Act.put, List.setIfInBounds_toArray, List.set_cons_zero, List.set_cons_succ]
          refine gen_allocH (fun u1 pu1 ku1 zu1 => ?_)
          have hHeld := HK0.out u1 (bel _ _)
          refine wpAnyH_ready (rs := [5]) (by kernel_rfl) (by simp) ?_
          refine AllReadyH.cons rfl (fun K hK => ?_) AllReadyH.nil
          go_simp
          refine (C3.out _ h5.at h6.at).mono ?_
          rintro e wC ⟨e2, f2, rfl, le, lf, oe, of, hb⟩
          dsimp only
          have pwC := Prev.mk hb
          clear hb
          refine hK.out _ _ (HK0.out _ (bel _ _)) (fun hHeld => ?_)
          clear hK K
          try dsimp only [Act.put, List.setIfInBounds_toArray, List.set_cons_zero, List.set_cons_succ]
          refine wpAnyH_on (i := 6) (d := 42) (v := ?_) rfl rfl (by kernel_rfl) (by kernel_rfl) (by kernel_rfl) (fun _ _ _ h => h) (by kernel_rfl) (by assumption) ?_ ?_
          rotate_left
          · intro w hSw
            (try dsimp only at hSw)
            go_simp
            try (with_reducible rfl)
          simp only [List.set]
          refine wpAnyH_ready (rs := [8]) (by kernel_rfl) (by simp) ?_
          refine AllReadyH.cons rfl (fun K hK => ?_) AllReadyH.nil
          rename World => wN
          obtain ⟨q0, q1, q2, q3, q4, q5⟩ := box6 (ku1.at (w' := wN))
          have y0 := (ku1.at (w' := wN)).frozen 0
          have y1 := (ku1.at (w' := wN)).frozen 1
          have y2 := (ku1.at (w' := wN)).frozen 2
          have y3 := (ku1.at (w' := wN)).frozen 3
          have y4 := (ku1.at (w' := wN)).frozen 4
          have y5 := (ku1.at (w' := wN)).frozen 5
          skip
          go_simp
          refine hK.out _ _ (HK0.out _ (bset6 (bel w3 wN) later_size _ _ _ _ _ _)) (fun hHeld => ?_)
          clear hK K
          try dsimp only [Act.put, List.setIfInBounds_toArray, List.set_cons_zero, List.set_cons_succ]
          have n1 := Nat.lt_of_lt_of_le ob.lt (Nat.le_trans (later_size (w := wA)) ld)
          have n2 := Nat.lt_of_lt_of_le od.lt (Nat.le_trans (later_size (w := wB)) lf)
          refine wpAnyH_done (by kernel_rfl) ?_ _
          go_wp2_with fail
          go_meet
          exact ⟨_, a, b, c2, d2, e2, f2, rfl, (ku1.at (w' := wN)).set6 _ _ _ _ _ _, (off6 _ _ _ _ _ _).own1 (oa.at (w' := wN)) ((oa.at (w' := wN)).ne_blk (ku1.at (w' := wN)) (by decide)), (off6 _ _ _ _ _ _).own1 (ob.at (w' := wN)) ((ob.at (w' := wN)).ne_blk (ku1.at (w' := wN)) (by decide)), (off6 _ _ _ _ _ _).own1 (oc.at (w' := wN)) ((oc.at (w' := wN)).ne_blk (ku1.at (w' := wN)) (by decide)), (off6 _ _ _ _ _ _).own1 (od.at (w' := wN)) ((od.at (w' := wN)).ne_blk (ku1.at (w' := wN)) (by decide)), (off6 _ _ _ _ _ _).own1 (oe.at (w' := wN)) ((oe.at (w' := wN)).ne_blk (ku1.at (w' := wN)) (by decide)), (off6 _ _ _ _ _ _).own1 (of.at (w' := wN)) ((of.at (w' := wN)).ne_blk (ku1.at (w' := wN)) (by decide)), Nat.le_trans later_size la, Nat.le_trans later_size lb, Nat.le_trans later_size lc, Nat.le_trans later_size ld, Nat.le_trans later_size le, Nat.le_trans later_size lf, later_size, n1, n2, bset6 (bel w3 wN) later_size _ _ _ _ _ _⟩
      · go_simp
        refine hK.out _ _ (HK0.out _ (bel _ _)) (fun _ => ?_)
        clear hK K
        try dsimp only [Act.put, List.setIfInBounds_toArray, List.set_cons_zero, List.set_cons_succ]
        refine gen_allocH (fun u1 pu1 ku1 zu1 => ?_)
        have hHeld := HK0.out u1 (bel _ _)
        refine wpAnyH_ready (rs := [3]) (by kernel_rfl) (by simp) ?_
        refine AllReadyH.cons rfl (fun K hK => ?_) AllReadyH.nil
        go_simp
        refine (C2.out _ h7.at h8.at).mono ?_
        rintro e wB ⟨c2, d2, rfl, lc, ld, oc, od, hb⟩
        dsimp only
        have pwB := Prev.mk hb
        clear hb
        refine hK.out _ _ (HK0.out _ (bel _ _)) (fun hHeld => ?_)
        clear hK K
        try dsimp only [Act.put, List.setIfInBounds_toArray, List.set_cons_zero, List.set_cons_succ]
        refine wpAnyH_ready (rs := [5]) (by kernel_rfl) (by simp) ?_
        refine AllReadyH.cons rfl (fun K hK => ?_) AllReadyH.nil
        go_simp
        refine (C3.out _ h5.at h6.at).mono ?_
        rintro e wC ⟨e2, f2, rfl, le, lf, oe, of, hb⟩
        dsimp only
        have pwC := Prev.mk hb
        clear hb
        refine hK.out _ _ (HK0.out _ (bel _ _)) (fun hHeld => ?_)
        clear hK K
        try dsimp only [Act.put, List.setIfInBounds_toArray, List.set_cons_zero, List.set_cons_succ]
        refine wpAnyH_on (i := 6) (d := 42) (v := ?_) rfl rfl (by kernel_rfl) (by kernel_rfl) (by kernel_rfl) (fun _ _ _ h => h) (by kernel_rfl) (by assumption) ?_ ?_
        rotate_left
        · intro w hSw
          (try dsimp only at hSw)
          go_simp
          try (with_reducible rfl)
        simp only [List.set]
        refine wpAnyH_ready (rs := [8]) (by kernel_rfl) (by simp) ?_
        refine AllReadyH.cons rfl (fun K hK => ?_) AllReadyH.nil
        rename World => wN
        obtain ⟨q0, q1, q2, q3, q4, q5⟩ := box6 (ku1.at (w' := wN))
        have y0 := (ku1.at (w' := wN)).frozen 0
        have y1 := (ku1.at (w' := wN)).frozen 1
        have y2 := (ku1.at (w' := wN)).frozen 2
        have y3 := (ku1.at (w' := wN)).frozen 3
        have y4 := (ku1.at (w' := wN)).frozen 4
        have y5 := (ku1.at (w' := wN)).frozen 5
        skip
        go_simp
        refine hK.out _ _ (HK0.out _ (bset6 (bel w3 wN) later_size _ _ _ _ _ _)) (fun hHeld => ?_)
        clear hK K
        try dsimp only [Act.put, List.setIfInBounds_toArray, List.set_cons_zero, List.set_cons_succ]
        have n1 := Nat.lt_of_lt_of_le ob.lt (Nat.le_trans (later_size (w := wA)) ld)
        have n2 := Nat.lt_of_lt_of_le od.lt (Nat.le_trans (later_size (w := wB)) lf)
        refine wpAnyH_done (by kernel_rfl) ?_ _
        go_wp2_with fail
        go_meet
        exact ⟨_, a, b, c2, d2, e2, f2, rfl, (ku1.at (w' := wN)).set6 _ _ _ _ _ _, (off6 _ _ _ _ _ _).own1 (oa.at (w' := wN)) ((oa.at (w' := wN)).ne_blk (ku1.at (w' := wN)) (by decide)), (off6 _ _ _ _ _ _).own1 (ob.at (w' := wN)) ((ob.at (w' := wN)).ne_blk (ku1.at (w' := wN)) (by decide)), (off6 _ _ _ _ _ _).own1 (oc.at (w' := wN)) ((oc.at (w' := wN)).ne_blk (ku1.at (w' := wN)) (by decide)), (off6 _ _ _ _ _ _).own1 (od.at (w' := wN)) ((od.at (w' := wN)).ne_blk (ku1.at (w' := wN)) (by decide)), (off6 _ _ _ _ _ _).own1 (oe.at (w' := wN)) ((oe.at (w' := wN)).ne_blk (ku1.at (w' := wN)) (by decide)), (off6 _ _ _ _ _ _).own1 (of.at (w' := wN)) ((of.at (w' := wN)).ne_blk (ku1.at (w' := wN)) (by decide)), Nat.le_trans later_size la, Nat.le_trans later_size lb, Nat.le_trans later_size lc, Nat.le_trans later_size ld, Nat.le_trans later_size le, Nat.le_trans later_size lf, later_size, n1, n2, bset6 (bel w3 wN) later_size _ _ _ _ _ _⟩
    · go_simp
      refine hK.out _ _ (HK0.out _ (bel _ _)) (fun _ => ?_)
      clear hK K
      try dsimp only [Act.put, List.setIfInBounds_toArray, List.set_cons_zero, List.set_cons_succ]
      refine gen_allocH (fun u1 pu1 ku1 zu1 => ?_)
      have hHeld := HK0.out u1 (bel _ _)
      refine wpAnyH_ready (rs := [1]) (by kernel_rfl) (by simp) ?_
      refine AllReadyH.cons rfl (fun K hK => ?_) AllReadyH.nil
      go_simp
      refine (C1.out _ h1.at h2.at).mono ?_
      rintro e wA ⟨a, b, rfl, la, lb, oa, ob, hb⟩
      dsimp only
      have pwA := Prev.mk hb
      clear hb
      refine hK.out _ _ (HK0.out _ (bel _ _)) (fun hHeld => ?_)
      clear hK K
      try dsimp only [Act.put, List.setIfInBounds_toArray, List.set_cons_zero, List.set_cons_succ]
      refine wpAnyH_ready (rs := [3]) (by kernel_rfl) (by simp) ?_
      refine AllReadyH.cons rfl (fun K hK => ?_) AllReadyH.nil
      go_simp
      refine (C2.out _ h7.at h8.at).mono ?_
      rintro e wB ⟨c2, d2, rfl, lc, ld, oc, od, hb⟩
      dsimp only
      have pwB := Prev.mk hb
      clear hb
      refine hK.out _ _ (HK0.out _ (bel _ _)) (fun hHeld => ?_)
      clear hK K
      try dsimp only [Act.put, List.setIfInBounds_toArray, List.set_cons_zero, List.set_cons_succ]
      refine wpAnyH_ready (rs := [5]) (by kernel_rfl) (by simp) ?_
      refine AllReadyH.cons rfl (fun K hK => ?_) AllReadyH.nil
      go_simp
      refine (C3.out _ h5.at h6.at).mono ?_
      rintro e wC ⟨e2, f2, rfl, le, lf, oe, of, hb⟩
      dsimp only
      have pwC := Prev.mk hb
      clear hb
      refine hK.out _ _ (HK0.out _ (bel _ _)) (fun hHeld => ?_)
      clear hK K
      try dsimp only [Act.put, List.setIfInBounds_toArray, List.set_cons_zero, List.set_cons_succ]
      refine wpAnyH_on (i := 6) (d := 42) (v := ?_) rfl rfl (by kernel_rfl) (by kernel_rfl) (by kernel_rfl) (fun _ _ _ h => h) (by kernel_rfl) (by assumption) ?_ ?_
      rotate_left
      · intro w hSw
        (try dsimp only at hSw)
        go_simp
        try (with_reducible rfl)
      simp only [List.set]
      refine wpAnyH_ready (rs := [8]) (by kernel_rfl) (by simp) ?_
      refine AllReadyH.cons rfl (fun K hK => ?_) AllReadyH.nil
      rename World => wN
      obtain ⟨q0, q1, q2, q3, q4, q5⟩ := box6 (ku1.at (w' := wN))
      have y0 := (ku1.at (w' := wN)).frozen 0
      have y1 := (ku1.at (w' := wN)).frozen 1
      have y2 := (ku1.at (w' := wN)).frozen 2
      have y3 := (ku1.at (w' := wN)).frozen 3
      have y4 := (ku1.at (w' := wN)).frozen 4
      have y5 := (ku1.at (w' := wN)).frozen 5
      skip
      go_simp
      refine hK.out _ _ (HK0.out _ (bset6 (bel w3 wN) later_size _ _ _ _ _ _)) (fun hHeld => ?_)
      clear hK K
      try dsimp only [Act.put, List.setIfInBounds_toArray, List.set_cons_zero, List.set_cons_succ]
      have n1 := Nat.lt_of_lt_of_le ob.lt (Nat.le_trans (later_size (w := wA)) ld)
      have n2 := Nat.lt_of_lt_of_le od.lt (Nat.le_trans (later_size (w := wB)) lf)
      refine wpAnyH_done (by kernel_rfl) ?_ _
      go_wp2_with fail
      go_meet
      exact ⟨_, a, b, c2, d2, e2, f2, rfl, (ku1.at (w' := wN)).set6 _ _ _ _ _ _, (off6 _ _ _ _ _ _).own1 (oa.at (w' := wN)) ((oa.at (w' := wN)).ne_blk (ku1.at (w' := wN)) (by decide)), (off6 _ _ _ _ _ _).own1 (ob.at (w' := wN)) ((ob.at (w' := wN)).ne_blk (ku1.at (w' := wN)) (by decide)), (off6 _ _ _ _ _ _).own1 (oc.at (w' := wN)) ((oc.at (w' := wN)).ne_blk (ku1.at (w' := wN)) (by decide)), (off6 _ _ _ _ _ _).own1 (od.at (w' := wN)) ((od.at (w' := wN)).ne_blk (ku1.at (w' := wN)) (by decide)), (off6 _ _ _ _ _ _).own1 (oe.at (w' := wN)) ((oe.at (w' := wN)).ne_blk (ku1.at (w' := wN)) (by decide)), (off6 _ _ _ _ _ _).own1 (of.at (w' := wN)) ((of.at (w' := wN)).ne_blk (ku1.at (w' := wN)) (by decide)), Nat.le_trans later_size la, Nat.le_trans later_size lb, Nat.le_trans later_size lc, Nat.le_trans later_size ld, Nat.le_trans later_size le, Nat.le_trans later_size lf, later_size, n1, n2, bset6 (bel w3 wN) later_size _ _ _ _ _ _⟩
  case rest =>
    obtain ⟨b0, a, b, c2, d2, e2, f, rfl, kS, oa, ob, oc, od, oe, of, la, lb, lc, ld, le, lf, l0, n1, n2, hb⟩ := hcut
    have pwc := Prev.mk hb
    clear hb
    have hcl := fun ty => run_clear_own (P := Try.prog) 24 27 ty Try.underlying24 (by kernel_rfl) of hv1 vs.length
    have nbf : b ≠ f := by omega
    have n0 : f ≠ b0 := of.ne_blk kS (by decide)
    obtain ⟨q0, q1, q2, q3, q4, q5⟩ := box6 kS
    have kG2 := (setCells_off (bs := [f]) (g := f) (by simp) (List.replicate vs.length (.int .i64 0)) 0 (Off.refl [f] wc)).blk (kG.at (w' := wc)) (by simp; omega)
    obtain ⟨t0, t1⟩ := box2 kG2
    go_wp2_with fail
    clear t0 t1 q0 q1 q2 q3 q4 q5 hcl
    have offW := setCells_off (bs := [f]) (g := f) (by simp) (List.replicate vs.length (.int .i64 0)) 0 (Off.refl [f] wc)
    have ofW := of.clear
    have belW := setCells_below (n := w.heap.size) (g := f) (by omega) (List.replicate vs.length (.int .i64 0)) 0 (bel w wc)
    generalize wc.setCells f 0 (List.replicate vs.length (.int .i64 0)) = W at *
    have hs4 := (bel w3 wc).size
    have hbF : ∀ g ∈ [b, f], w.heap.size ≤ g := by intro g hg; simp at hg; omega
    have hfF : ∀ g ∈ [f], w.heap.size ≤ g := by intro g hg; simp at hg; omega
    have nf1 : f ≠ a := fun e => by subst e; exact (oa.ne_blk (cs := ints vs) of (by decide)) rfl
    have nf2 : f ≠ c2 := fun e => by subst e; exact (oc.ne_blk (cs := ints vs) of (by decide)) rfl
    have nf3 : f ≠ e2 := fun e => by subst e; exact (oe.ne_blk (cs := ints vs) of (by decide)) rfl
    have nb1 : b ≠ a := fun e => by subst e; exact (oa.ne_blk (cs := ints xs) ob (by decide)) rfl
    have nb2 : b ≠ c2 := fun e => by subst e; exact (oc.ne_blk (cs := ints xs) ob (by decide)) rfl
    have nb3 : b ≠ e2 := fun e => by subst e; exact (oe.ne_blk (cs := ints xs) ob (by decide)) rfl
    have nb0 : b ≠ b0 := ob.ne_blk kS (by decide)
    have oaW := offW.own oa (by simpa using nf1.symm)
    have obW := offW.own ob (by simpa using nbf)
    have ocW := offW.own oc (by simpa using nf2.symm)
    have odW := offW.own od (by simp; omega)
    have oeW := offW.own oe (by simpa using nf3.symm)
    have kSW := offW.blk kS (by simpa using n0.symm)
    have kWW := offW.blk (kW.at (w' := wc)) (by simp; omega)
    have kXW := offW.blk (kX.at (w' := wc)) (by simp; omega)
    have kGW := offW.blk (kG.at (w' := wc)) (by simp; omega)
    have kRW := offW.blk (kR.at (w' := wc)) (by simp; omega)
    have h1W := offW.rd_old h1 (h1.at (w' := wc)) hfF
    have h2W := offW.rd_old h2 (h2.at (w' := wc)) hfF
    have h6W := offW.rd_old h6 (h6.at (w' := wc)) hfF
    have h8W := offW.rd_old h8 (h8.at (w' := wc)) hfF
    rw [← backXTo_zero vs.length xs gs] at ofW
    go_loopw [49] (fun i wr => ∃ k : Nat, k ≤ gs.length ∧ i = .int .i64 k ∧ Off [b, f] W wr ∧ Own wr b 27 (upTo (fun p => (backW gs vs).take p) xs (k * N)) ∧ Own wr f 27 (backXTo vs.length xs gs k 0) ∧ Below w.heap.size w wr) (fun i _ => gs.length - (intOf i).toNat)
    case atStart => exact ⟨0, Nat.zero_le _, rfl, Off.refl _ _, by simpa [upTo] using obW, ofW, belW⟩
    case round =>
      obtain ⟨k, hk, rfl, hO, o1, o2, hbel⟩ := hrel
      have kSr := hO.blk kSW (by simp; omega)
      have kRr := hO.blk kRW (by simp; omega)
      by_cases hlt : k < gs.length
      · obtain ⟨S, hS⟩ : ∃ S, Hid (k * N = S) := ⟨_, Lib.hid rfl⟩
        rw [hS.out] at o1
        have hkM : k < M := by rw [← HGL.out]; exact hlt
        have hend : S + N ≤ xs.length := by rw [HXL.out, ← hS.out, ← Nat.succ_mul]; exact Nat.mul_le_mul_right _ hkM
        have kWr := hO.blk kWW (by simp; omega)
        have kXr := hO.blk kXW (by simp; omega)
        have r1 := hO.rd_old h1 h1W hbF
        have oar := hO.own oaW (by simp; omega)
        obtain ⟨b8, o8, g, rfl, hb8, hc8, hgk⟩ := (hO.rd_old h8 h8W hbF).get hlt
        have hgi := hg.out g (List.mem_of_getElem? hgk.out)
        have CL1 := Lib.hid fun (w' : World) (h : Rd w' A [(M : Int), (N : Int)]) => d_line_b A bx ox c d M N k S xs w' hd hM hN hN1 HXL hx6 hkM hS h
        have CL2 := Lib.hid fun (w' : World) (h : Rd w' (some ⟨a, 0, none⟩) [(M : Int), (N : Int)]) => d_line_b (some ⟨a, 0, none⟩) b 0 2 xs.length M N k S xs w' (Nat.le_refl _) hM hN hN1 HXL hx6 hkM hS h
        rw [Nat.zero_add] at CL2
        go_wp2_with fail
        have HK0 : Hid (∀ w' : World, Below (wr).heap.size (wr) w' → w'.cell? ⟨w.heap.size, 0, none⟩ = some (.slice A 2 c) ∧ w'.cell? ⟨w.heap.size, 1, none⟩ = some (.slice (some ⟨bx, ox, none⟩) xs.length d) ∧ w'.cell? ⟨b0, 0, none⟩ = some (.slice (some ⟨a, 0, none⟩) 2 2) ∧ w'.cell? ⟨b0, 1, none⟩ = some (.slice (some ⟨b, 0, none⟩) xs.length xs.length)) := Lib.hid (fun w' hbk => ⟨(kWr.keep hbk).cell 0, (kWr.keep hbk).cell 1, (kSr.keep hbk).cell 0, (kSr.keep hbk).cell 1⟩)
        refine wp_region_held_drew (S := fun w' => w'.cell? ⟨w.heap.size, 0, none⟩ = some (.slice A 2 c) ∧ w'.cell? ⟨w.heap.size, 1, none⟩ = some (.slice (some ⟨bx, ox, none⟩) xs.length d) ∧ w'.cell? ⟨b0, 0, none⟩ = some (.slice (some ⟨a, 0, none⟩) 2 2) ∧ w'.cell? ⟨b0, 1, none⟩ = some (.slice (some ⟨b, 0, none⟩) xs.length xs.length)) (by kernel_rfl) (HK0.out _ (bel _ _)) (fun _ => ?_)
        refine gen_drewH (fun wD pwD => ?_)
        have hHeld := HK0.out wD (bel _ _)
        refine wpAnyH_on (i := 0) (d := 54) (v := ?_) rfl rfl (by kernel_rfl) (by kernel_rfl) (by kernel_rfl) (fun _ _ _ h => h) (by kernel_rfl) (by assumption) ?_ ?_
        rotate_left
        · intro w hSw
          (try dsimp only at hSw)
          go_simp
          try (with_reducible rfl)
        simp only [List.set]
        refine wpAnyH_on (i := 1) (d := 55) (v := ?_) rfl rfl (by kernel_rfl) (by kernel_rfl) (by kernel_rfl) (fun _ _ _ h => h) (by kernel_rfl) (by assumption) ?_ ?_
        rotate_left
        · intro w hSw
          (try dsimp only at hSw)
          go_simp
          try (with_reducible rfl)
        simp only [List.set]
        refine wpAnyH_on (i := 3) (d := 57) (v := ?_) rfl rfl (by kernel_rfl) (by kernel_rfl) (by kernel_rfl) (fun _ _ _ h => h) (by kernel_rfl) (by assumption) ?_ ?_
        rotate_left
        · intro w hSw
          (try dsimp only at hSw)
          go_simp
          try (with_reducible rfl)
        simp only [List.set]
        refine wpAnyH_on (i := 4) (d := 58) (v := ?_) rfl rfl (by kernel_rfl) (by kernel_rfl) (by kernel_rfl) (fun _ _ _ h => h) (by kernel_rfl) (by assumption) ?_ ?_
        rotate_left
        · intro w hSw
          (try dsimp only at hSw)
          go_simp
          try (with_reducible rfl)
        simp only [List.set]
        refine wpAnyH_on (i := 5) (d := 59) (v := ?_) rfl rfl (by kernel_rfl) (by kernel_rfl) (by kernel_rfl) (fun _ _ _ h => h) (by kernel_rfl) (by assumption) ?_ ?_
        rotate_left
        · intro w hSw
          (try dsimp only at hSw)
          go_simp
          try (with_reducible rfl)
        simp only [List.set]
        refine wpAnyH_ready (rs := [2]) (by kernel_rfl) (by simp) ?_
        refine AllReadyH.cons rfl (fun K hK => ?_) AllReadyH.nil
        go_simp
        refine (CL1.out _ r1.at).mono ?_
        rintro e wA ⟨rfl, hb⟩
        dsimp only
        have pwA := Prev.mk hb
        clear hb
        refine hK.out _ _ (HK0.out _ (bel _ _)) (fun hHeld => ?_)
        clear hK K
        try dsimp only [Act.put, List.setIfInBounds_toArray, List.set_cons_zero, List.set_cons_succ]
        refine wpAnyH_ready (rs := [6]) (by kernel_rfl) (by simp) ?_
        refine AllReadyH.cons rfl (fun K hK => ?_) AllReadyH.nil
        go_simp
        refine (CL2.out _ oar.rd.at).mono ?_
        rintro e wB ⟨rfl, hb⟩
        dsimp only
        have pwB := Prev.mk hb
        clear hb
        refine hK.out _ _ (HK0.out _ (bel _ _)) (fun hHeld => ?_)
        clear hK K
        try dsimp only [Act.put, List.setIfInBounds_toArray, List.set_cons_zero, List.set_cons_succ]
        refine wpAnyH_on (i := 7) (d := 13) (v := ?_) rfl rfl (by kernel_rfl) (by kernel_rfl) (by kernel_rfl) (fun _ _ _ h => h) (by kernel_rfl) (by assumption) ?_ ?_
        rotate_left
        · intro w hSw
          (try dsimp only at hSw)
          go_simp
          try (with_reducible rfl)
        simp only [List.set]
        refine wpAnyH_on (i := 8) (d := 14) (v := ?_) rfl rfl (by kernel_rfl) (by kernel_rfl) (by kernel_rfl) (fun _ _ _ h => h) (by kernel_rfl) (by assumption) ?_ ?_
        rotate_left
        · intro w hSw
          (try dsimp only at hSw)
          go_simp
          try (with_reducible rfl)
        simp only [List.set]
        refine wpAnyH_done (by kernel_rfl) ?_ _
        clear hHeld HK0
        have o1B := o1.at (w' := wB)
        have o2B := o2.at (w' := wB)
        have hOB := hO.below (bel wr wB)
        have belB := btr hbel (bel wr wB)
        obtain ⟨p0, p1⟩ := box2 (kXr.at (w' := wB))
        go_wp2_with fail
        clear p0 p1
        go_loopw [64] (fun i wq => ∃ j : Nat, j ≤ vs.length ∧ i = .int .i64 j ∧ Off [b, f] W wq ∧ Own wq b 27 (upTo (fun p => (backW gs vs).take p) xs (S + j)) ∧ Own wq f 27 (backXTo vs.length xs gs k j) ∧ Below w.heap.size w wq) (fun i _ => vs.length - (intOf i).toNat)
        case atStart => exact ⟨0, Nat.zero_le _, rfl, hOB, o1B, o2B, belB⟩
        case round =>
          obtain ⟨j, hj, rfl, hOj, m1, m2, hbj⟩ := hrel
          by_cases hlj : j < vs.length
          · obtain ⟨b6, o6, v, rfl, hb6, hc6, hvj⟩ := (hOj.rd_old h6 h6W hbF).get hlj
            have hvi := hv.out v (List.mem_of_getElem? hvj.out)
            have hjN : j < N := by rw [← HVL.out]; exact hlj
            obtain ⟨x, hxk⟩ : ∃ x, Hid (xs[S + j]? = some x) := ⟨_, Lib.hid (List.getElem?_eq_getElem (by omega))⟩
            have hxi := hx.out x (List.mem_of_getElem? hxk.out)
            have HXK : Hid (xs[k * vs.length + j]? = some x) := Lib.hid (by rw [HVL.out, hS.out]; exact hxk.out)
            have HTL : Hid (((backW gs vs).take (S + j)).length = S + j) := Lib.hid (by rw [List.length_take, HBL.out]; omega)
            have HBA : Hid ((backW gs vs).take (S + j + 1) = (backW gs vs).take (S + j) ++ [fmul g v]) := Lib.hid (take_snoc_at (by rw [← hS.out, ← HVL.out]; exact backW_at hgk.out hvj.out))
            have u1 := m1.cell (upTo_at (f := fun p => (backW gs vs).take p) HTL.out hxk.out)
            have u2 := m1.frozen (S + j)
            have hO2 := hOj.set_ (g := b) (by simp) (S + j) (.int .i64 (fmul g v))
            have M1 := Lib.hid (m1.set_ (S + j) (fmul g v))
            rw [upTo_set (f := fun p => (backW gs vs).take p) HTL.out HBA.out hxk.out] at M1
            have M2 := m2.far (p := ⟨b, S + j, none⟩) (by exact nbf.symm) (.int .i64 (fmul g v))
            have B2 := hbj.setCell (p := ⟨b, S + j, none⟩) (by show w.heap.size ≤ b; omega) (.int .i64 (fmul g v))
            have t5 := (hO2.blk kSW (by simp; omega)).cell 5
            have u3 := M2.cell (backXTo_at (k := k) hlj)
            have u4 := M2.frozen j
            have u5 : (wr.setCell ⟨b, S + j, none⟩ (.int .i64 (fmul g v))).cell? ⟨bx, ox + S + j, none⟩ = some (.int .i64 x) := by rw [Nat.add_assoc]; exact (hO2.rd_old h2 h2W hbF).all hxk.out
            have CM := Lib.hid (calls_same (fix_mul x g (wr.setCell ⟨b, S + j, none⟩ (.int .i64 (fmul g v))).drew hxi hgi))
            have CA := Lib.hid (calls_same (fix_add (accX vs.length xs gs j k) (fmul x g) (wr.setCell ⟨b, S + j, none⟩ (.int .i64 (fmul g v))).drew (accX_bd _ _ _ _ _) (fmul_bd hxi hgi)))
            have HXS := Lib.hid (backXTo_set hlj HXK.out hgk.out)
            have M3 := M1.out.far (p := ⟨f, j, none⟩) (by exact nbf) (.int .i64 (fadd (accX vs.length xs gs j k) (fmul x g)))
            have M4 := M2.set_ j (fadd (accX vs.length xs gs j k) (fmul x g))
            rw [HXS.out] at M4
            have hO4 := hO2.set_ (g := f) (by simp) j (.int .i64 (fadd (accX vs.length xs gs j k) (fmul x g)))
            have B4 := B2.setCell (p := ⟨f, j, none⟩) (by show w.heap.size ≤ f; omega) (.int .i64 (fadd (accX vs.length xs gs j k) (fmul x g)))
            go_wp2_with fail
            refine (fix_mul g v wr hgi hvi).mono ?_
            rintro e w' ⟨rfl, rfl⟩
            go_upto_region 13 with fail
            clear u1 u2
            generalize wr.setCell ⟨b, S + j, none⟩ (.int .i64 (fmul g v)) = wz at *
            refine wp_region_still_tail 17 (by kernel_rfl) (by kernel_rfl) ?_
            change wpStill _ _ (wz).drew _ _ _
            simp only [List.take_succ_cons, List.take_zero, List.drop_succ_cons, List.drop_zero]
            iterate 15 still_step
            still_call CM.out
            still_call CA.out
            repeat still_step
            refine wpStill_nil ?_
            go_wp2_with fail
            go_roundw
            case rel => exact ⟨j + 1, by omega, by go_num, hO4.drew, M3.drew, M4.drew, B4.drew⟩
            case measure => simp [intOf]; omega
          · have e : j = vs.length := by omega
            subst e
            rw [backXTo_row] at m2
            have eS : S + vs.length = (k + 1) * N := by rw [HVL.out, Nat.succ_mul, hS.out]
            rw [eS] at m1
            clear eS
            go_wp2_with fail
            go_roundw
            case rel => exact ⟨k + 1, by omega, by go_num, hOj, m1, m2, hbj⟩
            case measure => simp [intOf]; omega
      · have e : k = gs.length := by omega
        subst e
        rw [backXTo_end] at o2
        have eW : upTo (fun p => (backW gs vs).take p) xs (gs.length * N) = backW gs vs := by
          rw [HGL.out, ← HXL.out, upTo, List.drop_length, List.append_nil, ← HBL.out, List.take_length]
        rw [eW] at o1
        have HLX : Hid ((backX vs.length xs gs).length = vs.length) := Lib.hid (by simp [backX])
        have oar := hO.own oaW (by simp; omega)
        have ocr := hO.own ocW (by simp; omega)
        have odr := hO.own odW (by simp; omega)
        have oer := hO.own oeW (by simp; omega)
        clear eW
        obtain ⟨q0, q1, q2, q3, q4, q5⟩ := box6 kSr
        obtain ⟨t0, t1, t2, t3, t4, t5⟩ := box6 kRr
        have y0 := kRr.frozen 0
        have y1 := kRr.frozen 1
        have y2 := kRr.frozen 2
        have y3 := kRr.frozen 3
        have y4 := kRr.frozen 4
        have y5 := kRr.frozen 5
        go_wp2_with fail
        have k3 := kRr.set6 (.slice (some ⟨a, 0, none⟩) 2 2) (.slice (some ⟨b, 0, none⟩) xs.length xs.length) (.slice (some ⟨c2, 0, none⟩) 1 1) (.slice (some ⟨d2, 0, none⟩) gs.length gs.length) (.slice (some ⟨e2, 0, none⟩) us.length us.length) (.slice (some ⟨f, 0, none⟩) vs.length vs.length)
        have B3 := bset6 hbel (p := w.heap.size + 1 + 1 + 1 + 1) (by omega) (.slice (some ⟨a, 0, none⟩) 2 2) (.slice (some ⟨b, 0, none⟩) xs.length xs.length) (.slice (some ⟨c2, 0, none⟩) 1 1) (.slice (some ⟨d2, 0, none⟩) gs.length gs.length) (.slice (some ⟨e2, 0, none⟩) us.length us.length) (.slice (some ⟨f, 0, none⟩) vs.length vs.length)
        have X3 := off6 (w := wr) (p := w.heap.size + 1 + 1 + 1 + 1) (.slice (some ⟨a, 0, none⟩) 2 2) (.slice (some ⟨b, 0, none⟩) xs.length xs.length) (.slice (some ⟨c2, 0, none⟩) 1 1) (.slice (some ⟨d2, 0, none⟩) gs.length gs.length) (.slice (some ⟨e2, 0, none⟩) us.length us.length) (.slice (some ⟨f, 0, none⟩) vs.length vs.length)
        clear q0 q1 q2 q3 q4 q5 t0 t1 t2 t3 t4 t5
        obtain ⟨q0, q1, q2, q3, q4, q5⟩ := box6 k3
        refine bodyPost_ret (v := .tuple #[.agg #[.slice (some ⟨a, 0, none⟩) 2 2, .slice (some ⟨b, 0, none⟩) xs.length xs.length, .slice (some ⟨c2, 0, none⟩) 1 1, .slice (some ⟨d2, 0, none⟩) gs.length gs.length, .slice (some ⟨e2, 0, none⟩) us.length us.length, .slice (some ⟨f, 0, none⟩) vs.length vs.length], .int .i64 0]) (by simp [results, Try.results39, go_sem, q0, q1, q2, q3, q4, q5]) rfl ?_
        refine ⟨some ⟨a, 0, none⟩, 2, some ⟨b, 0, none⟩, xs.length, some ⟨c2, 0, none⟩, 1, some ⟨d2, 0, none⟩, gs.length, some ⟨e2, 0, none⟩, us.length, some ⟨f, 0, none⟩, vs.length, by rw [HBL.out, HLX.out]; rfl, OwnA.of_own (X3.own1 oar (by omega)) (by omega) (by simp), ?_, OwnA.of_own (X3.own1 ocr (by omega)) (by omega) (by simp), OwnA.of_own (X3.own1 odr (by omega)) (by omega) (by omega), OwnA.of_own (X3.own1 oer (by omega)) (by omega) (by omega), ?_, B3⟩
        · have := OwnA.of_own (B := w.heap.size) (X3.own1 o1 (by omega)) (by omega) (by rw [HBL.out]; omega)
          rw [HBL.out] at this; exact this
        · have := OwnA.of_own (B := w.heap.size) (X3.own1 o2 (by omega)) (by omega) (by rw [HLX.out]; omega)
          rw [HLX.out] at this; exact this

end Go.Proofs.Ythcdjdhnjbdfeaa
