/- The walk of the statement ShapeAll. -/
import Derived.Test.YtlnpkoggnikkbaaAll
import Derived.Test.YtlnpkoggnikkbaaOpen
import Derived.Test.YtlnpkoggnikkbaaLaw03Awake
import Derived.Shelf.Abstract
import Derived.Shelf.RegionOpen
import Derived.StillTailTactics
import Derived.Lib.MinMax
namespace Go.Proofs.Ytlnpkoggnikkbaa
open Go.RowKit Go.Shelf
attribute [local go_sem] Oper.semAt_some

theorem all1_told (w : World) (Kk : Nat → Prop) (encs : Nat → Array Value) : Told Try.prog 65 #[] encs (fun _ _ _ => False) Kk (fun xs => xs = []) (fun _ => False) w := by
  intro l J Jx W hb hJ hJx hY h0
  refine callsIn_of_wp Try.func65 rfl trivial ?_
  simp only [Try.ntmps65, List.size_toArray, List.length_cons, List.length_nil, Nat.reduceAdd, Nat.reduceSub, Array.replicate_succ, Array.replicate_zero, List.push_toArray, List.append_toArray, List.nil_append, List.cons_append]
  gi_wp2
  go_end0
  exact ⟨⟨_, rfl⟩, h0⟩

theorem l03_none (A : Option Addr) (c : Nat) (zs : List Int) (w : World) (hs : zs.length ≤ 1000000) (hr : Hid (rightB zs = false)) (h : Rd w A zs) :
    Calls Try.prog 29 #[.slice A zs.length c] w (LawTrue w) := by
  refine (callsIn_wide (n := 3)).1 ?_
  refine callsIn_of_wp_marks Try.func29 rfl trivial ?_
  simp only [Try.ntmps29, List.size_toArray, List.length_cons, List.length_nil, Nat.reduceAdd, Nat.reduceSub, Array.replicate_succ, Array.replicate_zero, List.push_toArray, List.append_toArray, List.nil_append, List.cons_append]
  have B0 := (Below.refl w.heap.size w).alloc (Nat.le_refl _) (.cells #[.bool false] 4)
  have k0 := Blk.new w 4 #[.bool false]
  gi_wp2
  refine ⟨trivial, (callsIn_wide.2 (sh_all_no A c zs _ hs hr (h.below B0))).mono ?_⟩
  rintro e w1 ⟨rfl, hb⟩
  have k1 := k0.keep hb
  have b1 := btr B0 hb
  clear k0 B0
  gi_wp2
  refine wp_told (gf := 65) (lb := #[]) (α := Nat) rfl (enters_of Try.func65 (by kernel_rfl) rfl) (all1_told _ (fun _ => False) (fun _ => #[.int .i64 0, .int .i64 0])) (fun _ h => h.elim) (Below.refl _ _) (fun _ => rfl) (fun pre W => Blk W w.heap.size 4 #[.bool false] ∧ Below w.heap.size w W) (fun _ _ _ => False)
    ((Firm.blk _ _ _).and (Firm.below (Nat.le_refl _) b1.size)) (fun _ => Firm.none_) (fun _ _ _ _ _ _ h _ _ _ => h) ⟨k1, b1⟩
    (fun _ => { tmps := #[.slice A zs.length c, undef, .pointer (some ⟨w.heap.size, 0, none⟩), .slice A zs.length c, .func (.func 65) #[] #[], .int .i64 0, .int .i64 0], defers := [] }) ?assign (fun _ _ _ _ _ h => h.elim) ?done (fun _ _ _ _ _ h => h.elim)
  case assign =>
    intro l x W K hK
    gi_wp2
    simpa using hK
  case done =>
    rintro D xs W hD rfl ⟨hk, hb1⟩ hK
    have c1 := hk.cell 0
    have f1 := hk.frozen 0
    gi_wp2
    have hK2 : (W.setCell ⟨w.heap.size, 0, none⟩ (.bool true)).heap[D]? = some (.deferred (some [])) := (KeepsOthers.setCell _ _ _).same D _ hK rfl
    have k2 := hk.set_ 0 (.bool true)
    have b2 := hb1.setCell (p := ⟨w.heap.size, 0, none⟩) (Nat.le_refl _) (.bool true)
    refine ⟨by simp, .inl ⟨_, _, rfl, run_takeDeferred hK2, ?_⟩⟩
    have k3 := (Firm.blk (B := 0) (fun (_ : Unit) => w.heap.size) 4 (fun _ => _)).turn () _ D _ (.deferred none) k2 (Nat.zero_le _) hK2 rfl
    have b3 := (Firm.below (β := Unit) (w := w) (Nat.le_refl _) b1.size).turn () _ D _ (.deferred none) b2 hD hK2 rfl
    have c3 := k3.cell 0
    generalize (W.setCell ⟨w.heap.size, 0, none⟩ (.bool true)).putObj D (.deferred none) = W3 at *
    exact ⟨.bool true, by simp [results, Try.results29, go_sem, c3], rfl, b3⟩

/-- What the loop of walk keeps. -/
def WalkI (n1 : Nat) (w : World) (A : Option Addr) (c : Nat) (zs : List Int) (stop : Int) (pre : List (Nat × Nat)) (W : World) : Prop :=
  ((pre.length : Int) < stop ∧ (pre.length : Int) ≤ prodL zs) ∧ Blk W w.heap.size 23 #[.slice A zs.length c] ∧ Blk W (w.heap.size + 1) 3 #[.int .i64 stop] ∧ Blk W (w.heap.size + 2) 4 #[.bool false] ∧
    Blk W (w.heap.size + 5) 3 #[.int .i64 pre.length] ∧ (∃ g, Blk W (w.heap.size + 4) 22 #[.slice (some ⟨g, 0, none⟩) zs.length zs.length] ∧ Own W g 3 (idx zs pre.length)) ∧ n1 ≤ W.heap.size ∧ Below w.heap.size w W
/-- How it is left: by a break, when as many as asked for have come. -/
def WalkX (w : World) (A : Option Addr) (c : Nat) (zs : List Int) (stop : Int) (cc : Code) (pre : List (Nat × Nat)) (W : World) : Prop :=
  (cc = .exit 0 ∧ (pre.length : Int) = stop ∧ (pre.length : Int) ≤ prodL zs) ∧ Blk W w.heap.size 23 #[.slice A zs.length c] ∧ Blk W (w.heap.size + 1) 3 #[.int .i64 stop] ∧ Blk W (w.heap.size + 2) 4 #[.bool false] ∧
    Blk W (w.heap.size + 5) 3 #[.int .i64 pre.length] ∧ Below w.heap.size w W

set_option maxHeartbeats 2000000 in
theorem l03_walk (A : Option Addr) (c : Nat) (zs : List Int) (stop : Int) (w : World) (hs : zs.length ≤ 1000000) (hr : Hid (rightB zs = true)) (hs1 : 1 ≤ stop) (hs2 : stop ≤ 500) (h : Rd w A zs) :
    Calls Try.prog 30 #[.slice A zs.length c, .int .i64 stop] w (LawTrue w) := by
  obtain ⟨r1, r4, rin, rpr⟩ := (rightB_iff zs).1 hr.out
  have RIN := Lib.hid rin
  have HPOS : Hid (∀ z ∈ zs, 1 ≤ z) := Lib.hid fun z hz => (inSides_mem rin hz).1
  have hp1 := prodL_pos HPOS.out
  have HZ : Hid (idx zs 0 = List.replicate zs.length 0) := Lib.hid (idx_zeros zs HPOS.out 0 (by simp))
  clear rin
  have hmk := fun W => run_make_row' (P := Try.prog) 22 3 (.int .i64 0) 8 Try.underlying22 (by kernel_rfl) rfl .i64 .i64 zs.length (by omega) (by omega) W
  rw [ints_made, ← HZ.out] at hmk
  refine (callsIn_wide (n := 3)).1 ?_
  refine callsIn_of_wp_marks Try.func30 rfl trivial ?_
  simp only [Try.ntmps30, List.size_toArray, List.length_cons, List.length_nil, Nat.reduceAdd, Nat.reduceSub, Array.replicate_succ, Array.replicate_zero, List.push_toArray, List.append_toArray, List.nil_append, List.cons_append]
  gi_wp2
  obtain ⟨W0, hW0⟩ : ∃ W0, W0 = (((((w.alloc (.cells #[.slice A zs.length c] 23)).alloc (.cells #[.int .i64 stop] 3)).alloc (.cells #[.bool false] 4)).alloc (.cells (ints (idx zs 0)) 3)).alloc (.cells #[.slice (some ⟨w.heap.size + 1 + 1 + 1, 0, none⟩) zs.length zs.length] 22)).alloc (.cells #[.int .i64 0] 3) := ⟨_, rfl⟩
  rw [← hW0]
  have HB : Below w.heap.size w W0 := by
    rw [hW0]
    exact ((((((Below.refl _ _).alloc (Nat.le_refl _) _).alloc (by simp) _).alloc (by simp; omega) _).alloc (by simp; omega) _).alloc (by simp; omega) _).alloc (by simp; omega) _
  have m0 : Blk W0 w.heap.size 23 #[.slice A zs.length c] := by rw [hW0]; exact (((((Blk.new _ _ _).alloc _).alloc _).alloc _).alloc _).alloc _
  have m1 : Blk W0 (w.heap.size + 1) 3 #[.int .i64 stop] := by rw [hW0]; exact ((((Blk.new' _ _ _ (by simp)).alloc _).alloc _).alloc _).alloc _
  have m2 : Blk W0 (w.heap.size + 2) 4 #[.bool false] := by rw [hW0]; exact (((Blk.new' _ _ _ (by simp)).alloc _).alloc _).alloc _
  have m3 : Own W0 (w.heap.size + 3) 3 (idx zs 0) := by rw [hW0]; exact ((Own.new' _ _ _ (by simp)).alloc _).alloc _
  have m4 : Blk W0 (w.heap.size + 4) 22 #[.slice (some ⟨w.heap.size + 3, 0, none⟩) zs.length zs.length] := by rw [hW0]; exact (Blk.new' _ _ _ (by simp)).alloc _
  have m5 : Blk W0 (w.heap.size + 5) 3 #[.int .i64 0] := by rw [hW0]; exact Blk.new' _ _ _ (by simp)
  clear hW0
  refine ⟨trivial, (callsIn_wide.2 (sh_all_yes A c zs _ hs hr (h.below HB))).mono ?_⟩
  rintro e w1 ⟨b1, b2, g, rfl, hb1, hb2, hg, q1, q2, qo, hb⟩
  have n0 := m0.keep hb
  have n1 := m1.keep hb
  have n2 := m2.keep hb
  have n3 := m3.keep hb
  have n4 := m4.keep hb
  have n5 := m5.keep hb
  have l5 := m5.lt
  have BB := btr HB hb
  clear m0 m1 m2 m3 m4 m5 HB
  gi_wp2
  refine wp_told (gf := 66) rfl (enters_of Try.func66 (by kernel_rfl) rfl) (all2_told zs w1 b1 b2 g hs RIN (by omega) rpr q1 q2 qo) ?keys (Below.refl _ _) (fun _ => rfl) (WalkI w1.heap.size w A c zs stop) (WalkX w A c zs stop)
    ?firm1 ?firm2 ?firm3 ⟨⟨by simp; omega, by simp; omega⟩, n0, n1, n2, n5, ⟨_, n4, n3⟩, Nat.le_refl _, BB⟩ ?acts ?assign ?body ?done ?stop
  case keys =>
    rintro k (rfl | rfl | rfl)
    · exact q1.lt
    · exact q2.lt
    · exact qo.lt
  case firm1 => exact (Firm.pure _).and ((Firm.blk _ _ _).and ((Firm.blk _ _ _).and ((Firm.blk _ _ _).and ((Firm.blk _ _ _).and ((Firm.ex fun g => (Firm.blk _ _ _).and (Firm.own _ _ _)).and ((Firm.size _).and (Firm.below (Nat.le_refl _) BB.size)))))))
  case firm2 => exact fun _ => (Firm.pure _).and ((Firm.blk _ _ _).and ((Firm.blk _ _ _).and ((Firm.blk _ _ _).and ((Firm.blk _ _ _).and (Firm.below (Nat.le_refl _) BB.size)))))
  case firm3 =>
    rintro pre x W l o o' ⟨e1, e2, e3⟩ hl ho hc
    exact ⟨e1, e2, (Firm.own (B := 0) (fun (_ : Unit) => x.2) 3 (fun _ => _)).turn () W l o o' e3 (Nat.zero_le _) ho hc⟩
  case acts =>
    exact fun x => { tmps := #[.slice A zs.length c, .int .i64 stop, .pointer (some ⟨w.heap.size, 0, none⟩), .pointer (some ⟨w.heap.size + 1, 0, none⟩), .pointer (some ⟨w.heap.size + 2, 0, none⟩), .pointer (some ⟨w.heap.size + 4, 0, none⟩), .pointer (some ⟨w.heap.size + 5, 0, none⟩), .int .i64 x.1, .slice (some ⟨x.2, 0, none⟩) zs.length zs.length,
      .slice A zs.length c, .int .i64 zs.length, .slice (some ⟨w.heap.size + 3, 0, none⟩) zs.length zs.length, .slice A zs.length c, .func (.func 66) #[] #[.pointer (some ⟨b1, 0, none⟩), .pointer (some ⟨b2, 0, none⟩)], .int .i64 x.1, .slice (some ⟨x.2, 0, none⟩) zs.length zs.length,
      undef, undef, undef, undef, undef, undef, undef, undef, undef, undef, undef, undef, undef, undef, undef, undef, undef, undef, undef, undef, undef, undef, undef], defers := [] }
  case assign =>
    intro l x W K hK
    simp only [allEnc]
    gi_wp2
    simpa using hK
  case body =>
    rintro l pre ⟨xp, xg⟩ W ⟨⟨i1, i2⟩, i3, i4, i5, i6, ⟨g', i7, i8⟩, i10, i9⟩ ⟨x1, x2, x3⟩
    dsimp only at x1 x2 x3 ⊢
    subst x1
    have d3 := i3.cell 0
    have d6 := i6.cell 0
    have d7 := i7.cell 0
    have CS := Lib.hid (ref_same (some ⟨xg, 0, none⟩) (some ⟨g', 0, none⟩) zs.length zs.length (idx zs pre.length) (idx zs pre.length) W (by rw [idx_length]; exact hs) (by rw [idx_length]; exact hs) x3.rd i8.rd)
    rw [idx_length, decide_eq_true (rfl : idx zs pre.length = idx zs pre.length)] at CS
    have e0 : ((pre.length : Int) != (pre.length : Int)) = false := by simp
    gi_wp2
    refine ⟨trivial, (CallsIn.inRound l (callsIn_wide.2 CS.out)).mono ?_⟩
    rintro e w2 ⟨rfl, n2', rfl⟩
    have d3' := (i3.drewN n2').cell 0
    have d7' := (i7.drewN n2').cell 0
    gi_wp2
    refine ⟨trivial, (CallsIn.inRound l (callsIn_wide.2 (ref_next A (some ⟨g', 0, none⟩) c zs.length zs pre.length (W.drewN n2') hs RIN ((h.below i9).drewN n2') (i8.drewN n2').rd))).mono ?_⟩
    rintro e w3 ⟨g3, rfl, hg3, ho3, hb3⟩
    rw [idx_length]
    have hbW : Below W.heap.size W w3 := undrewN hb3
    have j3 := i3.keep hbW
    have j4 := i4.keep hbW
    have j5 := i5.keep hbW
    have j6 := i6.keep hbW
    have j7 := i7.keep hbW
    have j9 := btr i9 hbW
    have p3 := j3.cell 0
    have p4 := j4.cell 0
    have p6 := j6.cell 0
    have p7 := j7.cell 0
    have f6 := j6.frozen 0
    have f7 := j7.frozen 0
    clear d3 d6 d7 d3' d7'
    by_cases hst : (pre.length : Int) + 1 = stop
    · have e1 : ((pre.length : Int) + 1 == stop) = true := by simpa using hst
      have HST := Lib.hid hst
      clear hst
      gi_wp2
      have KF := keepsFrom_set (keepsFrom_set (keepsFrom_below (B := w1.heap.size) hbW) ⟨w.heap.size + 4, 0, none⟩ (.slice (some ⟨g3, 0, none⟩) zs.length zs.length)) ⟨w.heap.size + 5, 0, none⟩ (.int .i64 ((pre.length : Int) + 1))
      have u3 := (j3.far (p := ⟨w.heap.size + 4, 0, none⟩) (by simp) (.slice (some ⟨g3, 0, none⟩) zs.length zs.length)).far (p := ⟨w.heap.size + 5, 0, none⟩) (by simp) (.int .i64 ((pre.length : Int) + 1))
      have u4 := (j4.far (p := ⟨w.heap.size + 4, 0, none⟩) (by simp) (.slice (some ⟨g3, 0, none⟩) zs.length zs.length)).far (p := ⟨w.heap.size + 5, 0, none⟩) (by simp) (.int .i64 ((pre.length : Int) + 1))
      have u5 := (j5.far (p := ⟨w.heap.size + 4, 0, none⟩) (by simp) (.slice (some ⟨g3, 0, none⟩) zs.length zs.length)).far (p := ⟨w.heap.size + 5, 0, none⟩) (by simp) (.int .i64 ((pre.length : Int) + 1))
      have u6 := (j6.far (p := ⟨w.heap.size + 4, 0, none⟩) (by simp) (.slice (some ⟨g3, 0, none⟩) zs.length zs.length)).set_ 0 (.int .i64 ((pre.length : Int) + 1))
      have u9 := (j9.setCell (p := ⟨w.heap.size + 4, 0, none⟩) (by simp) (.slice (some ⟨g3, 0, none⟩) zs.length zs.length)).setCell (p := ⟨w.heap.size + 5, 0, none⟩) (by simp) (.int .i64 ((pre.length : Int) + 1))
      have hl : ((pre ++ [(pre.length, xg)]).length : Int) = (pre.length : Int) + 1 := by simp
      refine ⟨KF, ⟨rfl, by rw [hl]; exact HST.out, by rw [hl]; omega⟩, u3, u4, u5, ?_, u9⟩
      rw [hl]; exact u6
    · have e1 : ((pre.length : Int) + 1 == stop) = false := by simpa using hst
      have hst2 : (pre.length : Int) + 1 < stop := by omega
      clear hst
      gi_wp2
      have KF := keepsFrom_set (keepsFrom_set (keepsFrom_below (B := w1.heap.size) hbW) ⟨w.heap.size + 4, 0, none⟩ (.slice (some ⟨g3, 0, none⟩) zs.length zs.length)) ⟨w.heap.size + 5, 0, none⟩ (.int .i64 ((pre.length : Int) + 1))
      have u3 := (j3.far (p := ⟨w.heap.size + 4, 0, none⟩) (by simp) (.slice (some ⟨g3, 0, none⟩) zs.length zs.length)).far (p := ⟨w.heap.size + 5, 0, none⟩) (by simp) (.int .i64 ((pre.length : Int) + 1))
      have u4 := (j4.far (p := ⟨w.heap.size + 4, 0, none⟩) (by simp) (.slice (some ⟨g3, 0, none⟩) zs.length zs.length)).far (p := ⟨w.heap.size + 5, 0, none⟩) (by simp) (.int .i64 ((pre.length : Int) + 1))
      have u5 := (j5.far (p := ⟨w.heap.size + 4, 0, none⟩) (by simp) (.slice (some ⟨g3, 0, none⟩) zs.length zs.length)).far (p := ⟨w.heap.size + 5, 0, none⟩) (by simp) (.int .i64 ((pre.length : Int) + 1))
      have u6 := (j6.far (p := ⟨w.heap.size + 4, 0, none⟩) (by simp) (.slice (some ⟨g3, 0, none⟩) zs.length zs.length)).set_ 0 (.int .i64 ((pre.length : Int) + 1))
      have u9 := (j9.setCell (p := ⟨w.heap.size + 4, 0, none⟩) (by simp) (.slice (some ⟨g3, 0, none⟩) zs.length zs.length)).setCell (p := ⟨w.heap.size + 5, 0, none⟩) (by simp) (.int .i64 ((pre.length : Int) + 1))
      have hl : ((pre ++ [(pre.length, xg)]).length : Int) = (pre.length : Int) + 1 := by simp
      have hgl : g3 ≠ w.heap.size + 4 ∧ g3 ≠ w.heap.size + 5 := by
        have := i7.lt
        have := i6.lt
        simp at hg3
        omega
      have u7 := (j7.set_ 0 (.slice (some ⟨g3, 0, none⟩) zs.length zs.length)).far (p := ⟨w.heap.size + 5, 0, none⟩) (by simp) (.int .i64 ((pre.length : Int) + 1))
      have u8 := (ho3.far (p := ⟨w.heap.size + 4, 0, none⟩) hgl.1 (.slice (some ⟨g3, 0, none⟩) zs.length zs.length)).far (p := ⟨w.heap.size + 5, 0, none⟩) hgl.2 (.int .i64 ((pre.length : Int) + 1))
      refine ⟨KF, ?_, ⟨by rw [hl]; exact hst2, by rw [hl]; omega⟩, u3, u4, u5, ?_, ⟨g3, u7, ?_⟩, by have := hbW.size; simp; omega, u9⟩
      · have hnear : ∀ k, (k = b1 ∨ k = b2 ∨ k = g) → k ≠ w.heap.size + 4 ∧ k ≠ w.heap.size + 5 := by omega
        refine Held.trans (Held.trans (held_below hbW ?_) (held_set _ fun k hk => (hnear k hk).1)) (held_set _ fun k hk => (hnear k hk).2)
        rintro k (rfl | rfl | rfl)
        · exact Nat.lt_of_lt_of_le q1.lt i10
        · exact Nat.lt_of_lt_of_le q2.lt i10
        · exact Nat.lt_of_lt_of_le qo.lt i10
      · rw [hl]; exact u6
      · rw [hl]; exact u8
  case done =>
    rintro D xs W hD hS ⟨⟨i1, i2⟩, i3, i4, i5, i6, _, _, i9⟩ hK
    have hmin : min stop (prodL zs) = (xs.length : Int) := by omega
    have CZ := Lib.hid ((ref_size A c zs W.drew r4 RIN (h.below i9).drew).mono (R' := fun e w'' => e = .returned (.int .i64 (prodL zs)) ∧ w'' = W.drew) fun e w'' ⟨he, hw⟩ => ⟨he, hw.symm⟩)
    have p3 := i3.cell 0
    have p4 := i4.cell 0
    have p5 := i5.cell 0
    have f5 := i5.frozen 0
    have p6 := i6.cell 0
    have HMIN := Lib.hid hmin
    have e1 : ((xs.length : Int) == (xs.length : Int)) = true := by simp
    clear hmin
    gi_wp2
    refine wpIn_wide.2 ?_
    refine wp_region_still_tail 6 (by kernel_rfl) (by kernel_rfl) ?_
    change wpStill _ _ (W).drew _ _ _
    simp only [List.take_succ_cons, List.take_zero, List.drop_succ_cons, List.drop_zero]
    still_step
    still_step
    still_step
    still_call CZ.out
    still_step
    rw [HMIN.out]
    still_step
    refine wpStill_nil ?_
    go_wp2_with fail
    gi_wp2
    have k2 := (i5.set_ 0 (.bool true)).drew
    have b2 := (i9.setCell (p := ⟨w.heap.size + 2, 0, none⟩) (by simp) (.bool true)).drew
    have hK2 : (W.setCell ⟨w.heap.size + 2, 0, none⟩ (.bool true)).drew.heap[D]? = some (.deferred (some [])) := ((KeepsOthers.setCell _ _ _).trans (KeepsOthers.drew _)).same D _ hK rfl
    refine ⟨by simp, .inl ⟨_, _, rfl, run_takeDeferred hK2, ?_⟩⟩
    have k3 := (Firm.blk (B := 0) (fun (_ : Unit) => w.heap.size + 2) 4 (fun _ => _)).turn () _ D _ (.deferred none) k2 (Nat.zero_le _) hK2 rfl
    have b3 := (Firm.below (β := Unit) (w := w) (Nat.le_refl _) BB.size).turn () _ D _ (.deferred none) b2 hD hK2 rfl
    have c3 := k3.cell 0
    generalize (W.setCell ⟨w.heap.size + 2, 0, none⟩ (.bool true)).drew.putObj D (.deferred none) = W3 at *
    exact ⟨.bool true, by simp [results, Try.results30, go_sem, c3], rfl, b3⟩
  case stop =>
    rintro D cc pre W hD hS ⟨⟨rfl, i1, i2⟩, i3, i4, i5, i6, i9⟩ hK
    have hmin : min stop (prodL zs) = (pre.length : Int) := by omega
    have CZ := Lib.hid ((ref_size A c zs W.drew r4 RIN (h.below i9).drew).mono (R' := fun e w'' => e = .returned (.int .i64 (prodL zs)) ∧ w'' = W.drew) fun e w'' ⟨he, hw⟩ => ⟨he, hw.symm⟩)
    have p3 := i3.cell 0
    have p4 := i4.cell 0
    have p5 := i5.cell 0
    have f5 := i5.frozen 0
    have p6 := i6.cell 0
    have HMIN := Lib.hid hmin
    have e1 : ((pre.length : Int) == (pre.length : Int)) = true := by simp
    clear hmin
    gi_wp2
    refine wpIn_wide.2 ?_
    refine wp_region_still_tail 6 (by kernel_rfl) (by kernel_rfl) ?_
    change wpStill _ _ (W).drew _ _ _
    simp only [List.take_succ_cons, List.take_zero, List.drop_succ_cons, List.drop_zero]
    still_step
    still_step
    still_step
    still_call CZ.out
    still_step
    rw [HMIN.out]
    still_step
    refine wpStill_nil ?_
    go_wp2_with fail
    gi_wp2
    have k2 := (i5.set_ 0 (.bool true)).drew
    have b2 := (i9.setCell (p := ⟨w.heap.size + 2, 0, none⟩) (by simp) (.bool true)).drew
    have hK2 : (W.setCell ⟨w.heap.size + 2, 0, none⟩ (.bool true)).drew.heap[D]? = some (.deferred (some [])) := ((KeepsOthers.setCell _ _ _).trans (KeepsOthers.drew _)).same D _ hK rfl
    refine ⟨by simp, .inl ⟨_, _, rfl, run_takeDeferred hK2, ?_⟩⟩
    have k3 := (Firm.blk (B := 0) (fun (_ : Unit) => w.heap.size + 2) 4 (fun _ => _)).turn () _ D _ (.deferred none) k2 (Nat.zero_le _) hK2 rfl
    have b3 := (Firm.below (β := Unit) (w := w) (Nat.le_refl _) BB.size).turn () _ D _ (.deferred none) b2 hD hK2 rfl
    have c3 := k3.cell 0
    generalize (W.setCell ⟨w.heap.size + 2, 0, none⟩ (.bool true)).drew.putObj D (.deferred none) = W3 at *
    exact ⟨.bool true, by simp [results, Try.results30, go_sem, c3], rfl, b3⟩

set_option maxHeartbeats 1000000 in
theorem shapeAll_calls (A : Option Addr) (c : Nat) (zs : List Int) (stop : Int) (w : World) (h : IntsIn w A c zs) :
    Calls Try.prog 8 #[.slice A zs.length c, .int .i64 stop] w (LawTrue w) := by
  obtain ⟨h, hc, hm, _⟩ := h
  unfold maxLen at hm
  by_cases hout : 50 < zs.length ∨ stop < 1 ∨ 500 < stop
  · have hq : (50 < zs.length) ∨ (zs.length ≤ 50 ∧ stop < 1) ∨ (zs.length ≤ 50 ∧ 1 ≤ stop ∧ 500 < stop) := by omega
    clear hout
    rcases hq with hq | ⟨hq, hq2⟩ | ⟨hq, hq2, hq3⟩
    all_goals
      go_enter Try.func8, Try.ntmps8
      go_wp2_with fail
      refine (l03_awake _).mono ?_
      rintro e w1 ⟨rfl, hb⟩
      go_wp2_with fail
      go_ret
      exact ⟨rfl, hb⟩
  have hs : zs.length ≤ 50 := by omega
  have s1 : 1 ≤ stop := by omega
  have s2 : stop ≤ 500 := by omega
  clear hout
  rcases hr : rightB zs with _ | _
  · have HR := Lib.hid hr
    clear hr
    go_enter Try.func8, Try.ntmps8
    go_wp2_with fail
    refine (l03_awake _).mono ?_
    rintro e w1 ⟨rfl, hb1⟩
    go_wp2_with fail
    refine (ref_right A c zs w1 (by omega) (h.below hb1)).mono ?_
    rintro e w2 ⟨rfl, rfl⟩
    rw [HR.out]
    go_wp2_with fail
    refine (l03_none A c zs w1 (by omega) HR (h.below hb1)).mono ?_
    rintro e w2 ⟨rfl, hb2⟩
    go_wp2_with fail
    refine (l03_awake _).mono ?_
    rintro e w3 ⟨rfl, hb3⟩
    go_wp2_with fail
    go_ret
    exact ⟨rfl, btr (btr hb1 hb2) hb3⟩
  · have HR := Lib.hid hr
    clear hr
    go_enter Try.func8, Try.ntmps8
    go_wp2_with fail
    refine (l03_awake _).mono ?_
    rintro e w1 ⟨rfl, hb1⟩
    go_wp2_with fail
    refine (ref_right A c zs w1 (by omega) (h.below hb1)).mono ?_
    rintro e w2 ⟨rfl, rfl⟩
    rw [HR.out]
    go_wp2_with fail
    refine (l03_walk A c zs stop w1 (by omega) HR s1 s2 (h.below hb1)).mono ?_
    rintro e w2 ⟨rfl, hb2⟩
    go_wp2_with fail
    refine (l03_awake _).mono ?_
    rintro e w3 ⟨rfl, hb3⟩
    go_wp2_with fail
    go_ret
    exact ⟨rfl, btr (btr hb1 hb2) hb3⟩

end Go.Proofs.Ytlnpkoggnikkbaa
