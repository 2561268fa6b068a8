/- The walk of conv.Back, the right case. -/
import Derived.Test.YteibgdcieaiaiaaConvBack
namespace Go.Proofs.Yteibgdcieaiaiaa
open Go.RowKit Go.Shelf
attribute [local go_sem] Oper.semAt_some

/-- A statement that only goes on: how the function is left does not matter. -/
theorem wp_onward {P : Program} {s : Code} {K : Act → World → Prop} {Q : Exit → Act → World → Prop} {a : Act} {w : World} (h : s.wp P (Exit.then K (fun _ _ _ => False)) a w) : s.wp P (Exit.then K Q) a w := by
  refine wp_mono h ?_
  intro e a' w' hq
  cases e with
  | normal => exact hq
  | exit id => exact hq.elim
  | goto l => exact hq.elim
  | ret => exact hq.elim
  | panic ch => exact hq.elim
  | outgrown => exact hq.elim
theorem keep4 {W : World} {D p : Nat} {ob : Obj} (v0 v1 v2 v3 : Value) (h : W.heap[D]? = some ob) (hc : ob.isCells = false) : ((((W.setCell ⟨p, 0, none⟩ v0).setCell ⟨p, 1, none⟩ v1).setCell ⟨p, 2, none⟩ v2).setCell ⟨p, 3, none⟩ v3).heap[D]? = some ob :=
  (KeepsOthers.setCell _ _ _).same D _ ((KeepsOthers.setCell _ _ _).same D _ ((KeepsOthers.setCell _ _ _).same D _ ((KeepsOthers.setCell _ _ _).same D _ h hc) hc) hc) hc
/-- What the loop keeps. -/
def BackI (w : World) (gs gc hs hc t k1 k2 : Nat) (zw xw zx xx V xg : List Int) (A B C D F G : Option Addr) (c d c' d' e e' : Nat) (pre : List Tri) (W : World) : Prop :=
  Own W gc 56 (bwFold xg xx xw.length pre) ∧ Own W hc 56 (bxFold xg xw xx.length pre) ∧ Own W gs 3 zw ∧ Own W hs 3 zx ∧ Blk W t 49 #[.slice (some ⟨gs, 0, none⟩) zw.length zw.length, .slice (some ⟨gc, 0, none⟩) xw.length xw.length, .slice (some ⟨hs, 0, none⟩) zx.length zx.length, .slice (some ⟨hc, 0, none⟩) xx.length xx.length] ∧
    Blk W k1 32 #[.slice (some ⟨gc, 0, none⟩) xw.length xw.length] ∧ Blk W k2 32 #[.slice (some ⟨hc, 0, none⟩) xx.length xx.length] ∧
    Blk W w.heap.size 34 #[.slice A zw.length c, .slice B xw.length d] ∧ Blk W (w.heap.size + 1) 34 #[.slice C zx.length c', .slice D xx.length d'] ∧ Blk W (w.heap.size + 1 + 1) 34 #[.slice F V.length e, .slice G xg.length e'] ∧
    Blk W (w.heap.size + 1 + 1 + 1) 49 #[.slice none 0 0, .slice none 0 0, .slice none 0 0, .slice none 0 0] ∧ Below w.heap.size w W
section
variable {w : World} {A B C D F G : Option Addr} {n m n' m' p q c d c' d' e e' : Nat} {zw xw zx xx xg : List Int}
set_option maxRecDepth 100000 in
set_option maxHeartbeats 8000000 in
theorem cv_back_yes {cx : Nat} {V : List Int} [a : Sl w A n zw] [b : Sl w B m xw] [a' : Sl w C n' zx] [b' : Sl w D m' xx] [ag : Sl w F p V] [bg : Sl w G q xg] [i6 : I6s xw] [i6' : I6s xx] [i6g : I6s xg] [lc : Le n c] [lx : Le n' cx] (hn : n ≤ 1000000) (hn' : n' ≤ 1000000) (hp : p ≤ 1000000) {S : Int} {X Y : List Int} {f : CF}
    (h1 : tRightB zw xw = true) (h2 : tRightB zx xx = true) (hE : Hid (cvE zw zx S = 0)) (hV : Hid (cvV zw zx S = V)) (h3 : tRightB V xg = true) (hf : Hid (CFof f zw zx V S)) (hX : Hid (X = bwFold xg xx xw.length f.all)) (hY : Hid (Y = bxFold xg xw xx.length f.all)) :
    Calls Try.prog 26 #[.agg #[.slice A n c, .slice B m d], .agg #[.slice C n' cx, .slice D m' d'], .agg #[.slice F p e, .slice G q e'], .int .i64 S] w (RetGr w zw X zx Y 0) := by
  have CB := @cell_bx
  have CP := @cell_prev
  have FB := @frozen_bx
  have hVr := hf.out.vr
  have hV4 : V.length ≤ 1000000 := by have := ((rightB_iff V).1 hVr).2.1; omega
  have HOK : Hid (CFok f) := Lib.hid hf.out.ok
  have hgl : xg.length = f.O * (f.M * f.N) := by have h := ((tRightB_iff _ _).1 h3).2; rw [hf.out.v] at h; omega
  have hwl : xw.length = f.O * (f.C * (f.K * f.L)) := by have h := ((tRightB_iff _ _).1 h1).2; rw [hf.out.w] at h; omega
  have hxl : xx.length = f.C * (f.H * f.W) := by have h := ((tRightB_iff _ _).1 h2).2; rw [hf.out.x] at h; omega
  have HB : Hid (∀ x ∈ f.all, x.1 < xg.length ∧ x.2.1 < xw.length ∧ x.2.2 < xx.length) := Lib.hid fun x hx => by rw [hgl, hwl, hxl]; exact all_lt hf.out.ok hx
  have hg6 : xg.length ≤ 65536 := by rw [hgl]; exact hf.out.ok.oy
  have hw6 : xw.length ≤ 65536 := by rw [hwl]; exact hf.out.ok.ow
  have hx6 : xx.length ≤ 65536 := by rw [hxl]; exact hf.out.ok.ox
  have hs : decide (V = V) = true := decide_eq_true rfl
  obtain ⟨a, rfl⟩ := a
  have a : Sl w A zw.length zw := ⟨a, rfl⟩
  obtain ⟨b, rfl⟩ := b
  have b : Sl w B xw.length xw := ⟨b, rfl⟩
  obtain ⟨a', rfl⟩ := a'
  have a' : Sl w C zx.length zx := ⟨a', rfl⟩
  obtain ⟨b', rfl⟩ := b'
  have b' : Sl w D xx.length xx := ⟨b', rfl⟩
  obtain ⟨ag, rfl⟩ := ag
  have ag : Sl w F V.length V := ⟨ag, rfl⟩
  obtain ⟨bg, rfl⟩ := bg
  have bg : Sl w G xg.length xg := ⟨bg, rfl⟩
  have hw0 : 0 < xw.length := by have := (right_len h1).2.1; omega
  have hx0 : 0 < xx.length := by have := (right_len h2).2.1; omega
  have hg0 : 0 < xg.length := by have := (right_len h3).2.1; omega
  obtain ⟨bb, ob, _, rfl, obb, -, -⟩ := b.get (k := 0) hw0
  obtain ⟨bd, od, _, rfl, obd, -, -⟩ := b'.get (k := 0) hx0
  obtain ⟨be, oe, _, rfl, obe, -, -⟩ := bg.get (k := 0) hg0
  clear hgl hwl hxl
  refine (callsIn_wide (n := 3)).1 ?_
  refine callsIn_of_wp_marks Try.func26 rfl trivial ?_
  simp only [Try.ntmps26, List.size_toArray, List.length_cons, List.length_nil, Nat.reduceAdd, Nat.reduceSub, Array.replicate_succ, Array.replicate_zero, List.push_toArray, List.append_toArray, List.nil_append, List.cons_append]
  refine wpIn_wide.2 ?_
  go_upto_region 1 with fail
  obtain ⟨u0, hu0⟩ : ∃ u0 : World, u0 = (((w.alloc (.cells #[.slice A zw.length c, .slice (some ⟨bb, ob, none⟩) xw.length d] 34)).alloc (.cells #[.slice C zx.length cx, .slice (some ⟨bd, od, none⟩) xx.length d'] 34)).alloc (.cells #[.slice F V.length e, .slice (some ⟨be, oe, none⟩) xg.length e'] 34)).alloc (.cells #[.slice none 0 0, .slice none 0 0, .slice none 0 0, .slice none 0 0] 49) := ⟨_, rfl⟩
  have q1 : Bx u0 w.heap.size 34 #[.slice A zw.length c, .slice (some ⟨bb, ob, none⟩) xw.length d] := ⟨by rw [hu0]; exact (((Blk.new _ _ _).alloc _).alloc _).alloc _⟩
  have q2 : Bx u0 (w.heap.size + 1) 34 #[.slice C zx.length cx, .slice (some ⟨bd, od, none⟩) xx.length d'] := ⟨by rw [hu0]; exact ((Blk.new' _ _ _ (by simp)).alloc _).alloc _⟩
  have q3 : Bx u0 (w.heap.size + 1 + 1) 34 #[.slice F V.length e, .slice (some ⟨be, oe, none⟩) xg.length e'] := ⟨by rw [hu0]; exact (Blk.new' _ _ _ (by simp)).alloc _⟩
  have q4 : Bx u0 (w.heap.size + 1 + 1 + 1) 49 #[.slice none 0 0, .slice none 0 0, .slice none 0 0, .slice none 0 0] := ⟨by rw [hu0]; exact Blk.new' _ _ _ (by simp)⟩
  have qu : Prev u0 w := ⟨by rw [hu0]; exact bel w _⟩
  rw [← hu0]
  clear hu0
  go_upto_region 8 with (first | (go_at_call 50; (try first | (with_reducible refine gen_boxK3 (fun u _ _ _ _ => ?_)) | (with_reducible refine gen_boxK2 (fun u _ _ _ => ?_)) | (with_reducible refine gen_boxK (fun u _ _ => ?_))); (with_reducible refine (aT_right (by omega)).mono ?_); rintro e u ⟨rfl, _⟩) | (go_at_call 16; (try first | (with_reducible refine gen_boxK3 (fun u _ _ _ _ => ?_)) | (with_reducible refine gen_boxK2 (fun u _ _ _ => ?_)) | (with_reducible refine gen_boxK (fun u _ _ => ?_))); (with_reducible refine (cv_shape (by omega) (by omega) hE hV).mono ?_); rintro e u ⟨A', c', rfl, sJ, lJ, fJ, _⟩) | (go_at_call 56; (try first | (with_reducible refine gen_boxK3 (fun u _ _ _ _ => ?_)) | (with_reducible refine gen_boxK2 (fun u _ _ _ => ?_)) | (with_reducible refine gen_boxK (fun u _ _ => ?_))); (with_reducible refine (aS_equal (by omega) (by omega)).mono ?_); rintro e u ⟨rfl, _⟩))
  have q2u : Blk u (w.heap.size + 1) 34 #[.slice C zx.length cx, .slice (some ⟨bd, od, none⟩) xx.length d'] := q2.blk.at
  obtain ⟨v, rfl⟩ : ∃ v : World, v = u := ⟨_, rfl⟩
  go_cut [12] from 17 (fun s wx => ∃ t gs gc hs hc : Nat, s = .pointer (some ⟨t, 0, none⟩) ∧ Blk wx t 49 #[.slice (some ⟨gs, 0, none⟩) zw.length zw.length, .slice (some ⟨gc, 0, none⟩) xw.length xw.length, .slice (some ⟨hs, 0, none⟩) zx.length zx.length, .slice (some ⟨hc, 0, none⟩) xx.length xx.length] ∧ Own wx gs 3 zw ∧ Own wx gc 56 xw ∧ Own wx hs 3 zx ∧ Own wx hc 56 xx ∧ v.heap.size ≤ gs ∧ v.heap.size ≤ gc ∧ v.heap.size ≤ hs ∧ v.heap.size ≤ hc ∧ v.heap.size ≤ t ∧ gc ≠ hc ∧ Below v.heap.size v wx)
  case first =>
    refine wp_onward ?_
    refine wp_region_up v (by kernel_rfl) (fun u8 _ => ?_)
    refine wpAnyH_on (i := 0) (d := 50) (v := ?_) rfl rfl (by kernel_rfl) (by kernel_rfl) (by kernel_rfl) (fun _ _ _ h => h) (by kernel_rfl) (prev_bel _ _) ?_ ?_
    rotate_left
    · intro uu (pu : Prev uu _)
      go_simp
      try (with_reducible rfl)
    try simp only [List.set]
    refine wpAnyH_on (i := 2) (d := 52) (v := ?_) rfl rfl (by kernel_rfl) (by kernel_rfl) (by kernel_rfl) (fun _ _ _ h => h) (by kernel_rfl) (prev_bel _ _) ?_ ?_
    rotate_left
    · intro uu (pu : Prev uu _)
      go_simp
      try (with_reducible rfl)
    try simp only [List.set]
    refine wpAnyH_ready (rs := [1, 5]) (by kernel_rfl) (by simp) ?_
    refine AllReadyH.cons rfl (fun K hK => ?_) (AllReadyH.cons rfl (fun K hK => ?_) AllReadyH.nil)
    · go_simp
      (with_reducible refine (aT_copy (by omega) (by omega)).mono ?_)
      rintro e u8 ⟨gs, gc, rfl, hgs, hgc, oS, oC, _⟩
      dsimp only
      refine hK.out _ _ (prev_bel v _) (fun hHeld => ?_)
      clear hHeld hK K
      try dsimp only [Act.put, List.setIfInBounds_toArray, List.set_cons_zero, List.set_cons_succ]
      refine wpAnyH_ready (rs := [3, 5]) (by kernel_rfl) (by simp) ?_
      refine AllReadyH.cons rfl (fun K hK => ?_) (AllReadyH.cons rfl (fun K hK => ?_) AllReadyH.nil)
      · go_simp
        (with_reducible refine (aT_copy (by omega) (by omega)).mono ?_)
        rintro e u8 ⟨hs', hc, rfl, hhs, hhc, pS, pC, _⟩
        dsimp only
        refine hK.out _ _ (prev_bel v _) (fun hHeld => ?_)
        clear hHeld hK K
        try dsimp only [Act.put, List.setIfInBounds_toArray, List.set_cons_zero, List.set_cons_succ]
        refine wpAnyH_on (i := 4) (d := 54) (v := ?_) rfl rfl (by kernel_rfl) (by kernel_rfl) (by kernel_rfl) (fun _ _ _ h => h) (by kernel_rfl) (prev_bel _ _) ?_ ?_
        rotate_left
        · intro uu (pu : Prev uu _)
          go_simp
          try (with_reducible rfl)
        try simp only [List.set]
        refine wpAnyH_ready (rs := [5]) (by kernel_rfl) (by simp) ?_
        refine AllReadyH.cons rfl (fun K hK => ?_) AllReadyH.nil
        go_simp
        refine hK.out _ _ (prev_bel v _) (fun hHeld => ?_)
        clear hHeld hK K
        try dsimp only [Act.put, List.setIfInBounds_toArray, List.set_cons_zero, List.set_cons_succ]
        refine gen_boxH (fun u8 _ kP => ?_)
        refine wpAnyH_ready (rs := [6]) (by kernel_rfl) (by simp) ?_
        refine AllReadyH.cons rfl (fun K hK => ?_) AllReadyH.nil
        rename World => wN
        have kN := kP.blk.at (w' := wN)
        have r0 := kN.cell 0
        have r1 := kN.cell 1
        have r2 := kN.cell 2
        have r3 := kN.cell 3
        have f0 := kN.frozen 0
        have f1 := kN.frozen 1
        have f2 := kN.frozen 2
        have f3 := kN.frozen 3
        go_simp
        refine hK.out _ _ ⟨bset4 (bel v wN) later_size _ _ _ _⟩ (fun hHeld => ?_)
        clear hHeld hK K r0 r1 r2 r3 f0 f1 f2 f3
        try dsimp only [Act.put, List.setIfInBounds_toArray, List.set_cons_zero, List.set_cons_succ]
        refine wpAnyH_done (by kernel_rfl) ?_ _
        have hne : gc ≠ hc := by first | exact Nat.ne_of_lt (Nat.lt_of_lt_of_le oC.lt (Nat.le_trans later_size hhc)) | exact (Nat.ne_of_lt (Nat.lt_of_lt_of_le pC.lt (Nat.le_trans later_size hgc))).symm
        go_wp2_with fail
        go_meet
        exact ⟨_, gs, gc, hs', hc, rfl, kN.set4 _ _ _ _, (oS.at (w' := wN)).far4 ((oS.at (w' := wN)).ne_blk kN (by decide)) _ _ _ _, (oC.at (w' := wN)).far4 ((oC.at (w' := wN)).ne_blk kN (by decide)) _ _ _ _, (pS.at (w' := wN)).far4 ((pS.at (w' := wN)).ne_blk kN (by decide)) _ _ _ _, (pC.at (w' := wN)).far4 ((pC.at (w' := wN)).ne_blk kN (by decide)) _ _ _ _, Nat.le_trans later_size hgs, Nat.le_trans later_size hgc, Nat.le_trans later_size hhs, Nat.le_trans later_size hhc, later_size, hne, bset4 (bel v wN) later_size _ _ _ _⟩
      · go_simp
        refine hK.out _ _ (prev_bel v _) (fun hHeld => ?_)
        clear hHeld hK K
        try dsimp only [Act.put, List.setIfInBounds_toArray, List.set_cons_zero, List.set_cons_succ]
        refine gen_boxH (fun u8 _ kP => ?_)
        refine wpAnyH_ready (rs := [3]) (by kernel_rfl) (by simp) ?_
        refine AllReadyH.cons rfl (fun K hK => ?_) AllReadyH.nil
        go_simp
        (with_reducible refine (aT_copy (by omega) (by omega)).mono ?_)
        rintro e u8 ⟨hs', hc, rfl, hhs, hhc, pS, pC, _⟩
        dsimp only
        refine hK.out _ _ (prev_bel v _) (fun hHeld => ?_)
        clear hHeld hK K
        try dsimp only [Act.put, List.setIfInBounds_toArray, List.set_cons_zero, List.set_cons_succ]
        refine wpAnyH_on (i := 4) (d := 54) (v := ?_) rfl rfl (by kernel_rfl) (by kernel_rfl) (by kernel_rfl) (fun _ _ _ h => h) (by kernel_rfl) (prev_bel _ _) ?_ ?_
        rotate_left
        · intro uu (pu : Prev uu _)
          go_simp
          try (with_reducible rfl)
        try simp only [List.set]
        refine wpAnyH_ready (rs := [6]) (by kernel_rfl) (by simp) ?_
        refine AllReadyH.cons rfl (fun K hK => ?_) AllReadyH.nil
        rename World => wN
        have kN := kP.blk.at (w' := wN)
        have r0 := kN.cell 0
        have r1 := kN.cell 1
        have r2 := kN.cell 2
        have r3 := kN.cell 3
        have f0 := kN.frozen 0
        have f1 := kN.frozen 1
        have f2 := kN.frozen 2
        have f3 := kN.frozen 3
        go_simp
        refine hK.out _ _ ⟨bset4 (bel v wN) later_size _ _ _ _⟩ (fun hHeld => ?_)
        clear hHeld hK K r0 r1 r2 r3 f0 f1 f2 f3
        try dsimp only [Act.put, List.setIfInBounds_toArray, List.set_cons_zero, List.set_cons_succ]
        refine wpAnyH_done (by kernel_rfl) ?_ _
        have hne : gc ≠ hc := by first | exact Nat.ne_of_lt (Nat.lt_of_lt_of_le oC.lt (Nat.le_trans later_size hhc)) | exact (Nat.ne_of_lt (Nat.lt_of_lt_of_le pC.lt (Nat.le_trans later_size hgc))).symm
        go_wp2_with fail
        go_meet
        exact ⟨_, gs, gc, hs', hc, rfl, kN.set4 _ _ _ _, (oS.at (w' := wN)).far4 ((oS.at (w' := wN)).ne_blk kN (by decide)) _ _ _ _, (oC.at (w' := wN)).far4 ((oC.at (w' := wN)).ne_blk kN (by decide)) _ _ _ _, (pS.at (w' := wN)).far4 ((pS.at (w' := wN)).ne_blk kN (by decide)) _ _ _ _, (pC.at (w' := wN)).far4 ((pC.at (w' := wN)).ne_blk kN (by decide)) _ _ _ _, Nat.le_trans later_size hgs, Nat.le_trans later_size hgc, Nat.le_trans later_size hhs, Nat.le_trans later_size hhc, later_size, hne, bset4 (bel v wN) later_size _ _ _ _⟩
    · go_simp
      refine hK.out _ _ (prev_bel v _) (fun hHeld => ?_)
      clear hHeld hK K
      try dsimp only [Act.put, List.setIfInBounds_toArray, List.set_cons_zero, List.set_cons_succ]
      refine gen_boxH (fun u8 _ kP => ?_)
      refine wpAnyH_ready (rs := [1]) (by kernel_rfl) (by simp) ?_
      refine AllReadyH.cons rfl (fun K hK => ?_) AllReadyH.nil
      go_simp
      (with_reducible refine (aT_copy (by omega) (by omega)).mono ?_)
      rintro e u8 ⟨gs, gc, rfl, hgs, hgc, oS, oC, _⟩
      dsimp only
      refine hK.out _ _ (prev_bel v _) (fun hHeld => ?_)
      clear hHeld hK K
      try dsimp only [Act.put, List.setIfInBounds_toArray, List.set_cons_zero, List.set_cons_succ]
      refine wpAnyH_ready (rs := [3]) (by kernel_rfl) (by simp) ?_
      refine AllReadyH.cons rfl (fun K hK => ?_) AllReadyH.nil
      go_simp
      (with_reducible refine (aT_copy (by omega) (by omega)).mono ?_)
      rintro e u8 ⟨hs', hc, rfl, hhs, hhc, pS, pC, _⟩
      dsimp only
      refine hK.out _ _ (prev_bel v _) (fun hHeld => ?_)
      clear hHeld hK K
      try dsimp only [Act.put, List.setIfInBounds_toArray, List.set_cons_zero, List.set_cons_succ]
      refine wpAnyH_on (i := 4) (d := 54) (v := ?_) rfl rfl (by kernel_rfl) (by kernel_rfl) (by kernel_rfl) (fun _ _ _ h => h) (by kernel_rfl) (prev_bel _ _) ?_ ?_
      rotate_left
      · intro uu (pu : Prev uu _)
        go_simp
        try (with_reducible rfl)
      try simp only [List.set]
      refine wpAnyH_ready (rs := [6]) (by kernel_rfl) (by simp) ?_
      refine AllReadyH.cons rfl (fun K hK => ?_) AllReadyH.nil
      rename World => wN
      have kN := kP.blk.at (w' := wN)
      have r0 := kN.cell 0
      have r1 := kN.cell 1
      have r2 := kN.cell 2
      have r3 := kN.cell 3
      have f0 := kN.frozen 0
      have f1 := kN.frozen 1
      have f2 := kN.frozen 2
      have f3 := kN.frozen 3
      go_simp
      refine hK.out _ _ ⟨bset4 (bel v wN) later_size _ _ _ _⟩ (fun hHeld => ?_)
      clear hHeld hK K r0 r1 r2 r3 f0 f1 f2 f3
      try dsimp only [Act.put, List.setIfInBounds_toArray, List.set_cons_zero, List.set_cons_succ]
      refine wpAnyH_done (by kernel_rfl) ?_ _
      have hne : gc ≠ hc := by first | exact Nat.ne_of_lt (Nat.lt_of_lt_of_le oC.lt (Nat.le_trans later_size hhc)) | exact (Nat.ne_of_lt (Nat.lt_of_lt_of_le pC.lt (Nat.le_trans later_size hgc))).symm
      go_wp2_with fail
      go_meet
      exact ⟨_, gs, gc, hs', hc, rfl, kN.set4 _ _ _ _, (oS.at (w' := wN)).far4 ((oS.at (w' := wN)).ne_blk kN (by decide)) _ _ _ _, (oC.at (w' := wN)).far4 ((oC.at (w' := wN)).ne_blk kN (by decide)) _ _ _ _, (pS.at (w' := wN)).far4 ((pS.at (w' := wN)).ne_blk kN (by decide)) _ _ _ _, (pC.at (w' := wN)).far4 ((pC.at (w' := wN)).ne_blk kN (by decide)) _ _ _ _, Nat.le_trans later_size hgs, Nat.le_trans later_size hgc, Nat.le_trans later_size hhs, Nat.le_trans later_size hhc, later_size, hne, bset4 (bel v wN) later_size _ _ _ _⟩
  case rest =>
    obtain ⟨t, gs, gc, hs', hc, rfl, kT, oS, oC, pS, pC, hgs, hgc, hhs, hhc, ht, hne, hbW⟩ := hcut
    have pwc : Prev wc v := ⟨hbW⟩
    have n1 : gc ≠ t := oC.ne_blk kT (by decide)
    have n2 : hc ≠ t := pC.ne_blk kT (by decide)
    have m1 : gs ≠ gc := oS.ne_blk (cs := ints xw) oC (by decide)
    have m2 : hs' ≠ gc := pS.ne_blk (cs := ints xw) oC (by decide)
    have m3 : gs ≠ hc := oS.ne_blk (cs := ints xx) pC (by decide)
    have m4 : hs' ≠ hc := pS.ne_blk (cs := ints xx) pC (by decide)
    have hcl1 := fun ty => run_clear_own (P := Try.prog) 32 56 ty Try.underlying32 (by kernel_rfl) oC hw0 xw.length
    have off1 := setCells_off (bs := [gc]) (g := gc) (by simp) (List.replicate xw.length (.int .i64 0)) 0 (Off.refl [gc] wc)
    have oC1 := oC.clear
    have oS1 := off1.own oS (by simpa using m1)
    have pS1 := off1.own pS (by simpa using m2)
    have pC1 := off1.own pC (by simpa using hne.symm)
    have kT1 := off1.blk kT (by simpa using n1.symm)
    have pw1 : Prev (wc.setCells gc 0 (List.replicate xw.length (.int .i64 0))) v := ⟨setCells_below (n := v.heap.size) (g := gc) hgc (List.replicate xw.length (.int .i64 0)) 0 hbW⟩
    obtain ⟨W1, hW1⟩ : ∃ W1, W1 = wc.setCells gc 0 (List.replicate xw.length (.int .i64 0)) := ⟨_, rfl⟩
    have qT : Bx wc t 49 #[.slice (some ⟨gs, 0, none⟩) zw.length zw.length, .slice (some ⟨gc, 0, none⟩) xw.length xw.length, .slice (some ⟨hs', 0, none⟩) zx.length zx.length, .slice (some ⟨hc, 0, none⟩) xx.length xx.length] := ⟨kT⟩
    rw [← hW1] at oC1 oS1 pS1 pC1 kT1 pw1
    have qT1 : Bx W1 t 49 #[.slice (some ⟨gs, 0, none⟩) zw.length zw.length, .slice (some ⟨gc, 0, none⟩) xw.length xw.length, .slice (some ⟨hs', 0, none⟩) zx.length zx.length, .slice (some ⟨hc, 0, none⟩) xx.length xx.length] := ⟨kT1⟩
    go_upto_region 10 with fail
    rw [← hW1]
    clear hcl1 hW1 off1 oS oC pS pC kT qT pwc hbW
    have hcl2 := fun ty => run_clear_own (P := Try.prog) 32 56 ty Try.underlying32 (by kernel_rfl) pC1 hx0 xx.length
    have off2 := setCells_off (bs := [hc]) (g := hc) (by simp) (List.replicate xx.length (.int .i64 0)) 0 (Off.refl [hc] W1)
    have pC2 := pC1.clear
    have oS2 := off2.own oS1 (by simpa using m3)
    have pS2 := off2.own pS1 (by simpa using m4)
    have oC2 := off2.own oC1 (by simpa using hne)
    have kT2 := off2.blk kT1 (by simpa using n2.symm)
    have pw2 : Prev (W1.setCells hc 0 (List.replicate xx.length (.int .i64 0))) v := ⟨setCells_below (n := v.heap.size) (g := hc) hhc (List.replicate xx.length (.int .i64 0)) 0 (bel v W1)⟩
    obtain ⟨W2, hW2⟩ : ∃ W2, W2 = W1.setCells hc 0 (List.replicate xx.length (.int .i64 0)) := ⟨_, rfl⟩
    rw [← hW2] at oC2 oS2 pS2 pC2 kT2 pw2
    have qT2 : Bx W2 t 49 #[.slice (some ⟨gs, 0, none⟩) zw.length zw.length, .slice (some ⟨gc, 0, none⟩) xw.length xw.length, .slice (some ⟨hs', 0, none⟩) zx.length zx.length, .slice (some ⟨hc, 0, none⟩) xx.length xx.length] := ⟨kT2⟩
    go_upto_region 11 with fail
    rw [← hW2]
    clear hcl2 hW2 off2 oS1 oC1 pS1 pC1 kT1 qT1 pw1
    go_cut [13, 14] from 17 (fun s13 s14 wx => ∃ k1 k2 : Nat, s13 = .pointer (some ⟨k1, 0, none⟩) ∧ s14 = .pointer (some ⟨k2, 0, none⟩) ∧ Blk wx k1 32 #[.slice (some ⟨gc, 0, none⟩) xw.length xw.length] ∧ Blk wx k2 32 #[.slice (some ⟨hc, 0, none⟩) xx.length xx.length] ∧ W2.heap.size ≤ k1 ∧ W2.heap.size ≤ k2 ∧ Below W2.heap.size W2 wx)
    case first =>
      refine wp_onward ?_
      refine wp_region_up W2 (by kernel_rfl) (fun u9 _ => ?_)
      refine wpAnyH_on (i := 0) (d := 61) (v := ?_) rfl rfl (by kernel_rfl) (by kernel_rfl) (by kernel_rfl) (fun _ _ _ h => h) (by kernel_rfl) (prev_bel _ _) ?_ ?_
      rotate_left
      · intro uu (pu : Prev uu _)
        go_simp
        try (with_reducible rfl)
      try simp only [List.set]
      refine wpAnyH_on (i := 1) (d := 62) (v := ?_) rfl rfl (by kernel_rfl) (by kernel_rfl) (by kernel_rfl) (fun _ _ _ h => h) (by kernel_rfl) (prev_bel _ _) ?_ ?_
      rotate_left
      · intro uu (pu : Prev uu _)
        go_simp
        try (with_reducible rfl)
      try simp only [List.set]
      refine wpAnyH_on (i := 2) (d := 63) (v := ?_) rfl rfl (by kernel_rfl) (by kernel_rfl) (by kernel_rfl) (fun _ _ _ h => h) (by kernel_rfl) (prev_bel _ _) ?_ ?_
      rotate_left
      · intro uu (pu : Prev uu _)
        go_simp
        try (with_reducible rfl)
      try simp only [List.set]
      refine wpAnyH_on (i := 3) (d := 64) (v := ?_) rfl rfl (by kernel_rfl) (by kernel_rfl) (by kernel_rfl) (fun _ _ _ h => h) (by kernel_rfl) (prev_bel _ _) ?_ ?_
      rotate_left
      · intro uu (pu : Prev uu _)
        go_simp
        try (with_reducible rfl)
      try simp only [List.set]
      refine wpAnyH_on (i := 4) (d := 65) (v := ?_) rfl rfl (by kernel_rfl) (by kernel_rfl) (by kernel_rfl) (fun _ _ _ h => h) (by kernel_rfl) (prev_bel _ _) ?_ ?_
      rotate_left
      · intro uu (pu : Prev uu _)
        go_simp
        try (with_reducible rfl)
      try simp only [List.set]
      refine wpAnyH_on (i := 5) (d := 66) (v := ?_) rfl rfl (by kernel_rfl) (by kernel_rfl) (by kernel_rfl) (fun _ _ _ h => h) (by kernel_rfl) (prev_bel _ _) ?_ ?_
      rotate_left
      · intro uu (pu : Prev uu _)
        go_simp
        try (with_reducible rfl)
      try simp only [List.set]
      refine wpAnyH_ready (rs := [6, 7]) (by kernel_rfl) (by simp) ?_
      refine AllReadyH.cons rfl (fun K hK => ?_) (AllReadyH.cons rfl (fun K hK => ?_) AllReadyH.nil)
      · rename World => wN
        try have ltk1 := (kP.blk.at (w' := wN)).lt
        try have ltk2 := (kQ.blk.at (w' := wN)).lt
        go_simp
        refine hK.out _ _ (prev_bel W2 _) (fun hHeld => ?_)
        clear hHeld hK K
        try dsimp only [Act.put, List.setIfInBounds_toArray, List.set_cons_zero, List.set_cons_succ]
        refine gen_boxH (fun uP _ kP => ?_)
        have g1 : (World.heap W2).size ≤ wN.heap.size := later_size
        obtain ⟨k1, hkk1⟩ : ∃ k : Nat, wN.heap.size = k := ⟨_, rfl⟩
        rw [hkk1] at kP g1 ⊢
        try rw [hkk1] at ltk1
        try rw [hkk1] at ltk2
        have ltk1 := (kP).blk.lt
        clear hkk1
        refine wpAnyH_ready (rs := [7]) (by kernel_rfl) (by simp) ?_
        refine AllReadyH.cons rfl (fun K hK => ?_) AllReadyH.nil
        rename World => wN
        try have ltk1 := (kP.blk.at (w' := wN)).lt
        try have ltk2 := (kQ.blk.at (w' := wN)).lt
        go_simp
        refine hK.out _ _ (prev_bel W2 _) (fun hHeld => ?_)
        clear hHeld hK K
        try dsimp only [Act.put, List.setIfInBounds_toArray, List.set_cons_zero, List.set_cons_succ]
        refine gen_boxH (fun uP _ kQ => ?_)
        have g2 : (World.heap W2).size ≤ wN.heap.size := later_size
        obtain ⟨k2, hkk2⟩ : ∃ k : Nat, wN.heap.size = k := ⟨_, rfl⟩
        rw [hkk2] at kQ g2 ⊢
        try rw [hkk2] at ltk1
        try rw [hkk2] at ltk2
        have ltk2 := (kQ).blk.lt
        clear hkk2
        refine wpAnyH_ready (rs := [8]) (by kernel_rfl) (by simp) ?_
        refine AllReadyH.cons rfl (fun K hK => ?_) AllReadyH.nil
        rename World => wN
        have e1 := (kP).blk.at (w' := wN)
        have e2 := (kQ).blk.at (w' := wN)
        have r0 := e1.cell 0
        have f0 := e1.frozen 0
        go_simp
        refine hK.out _ _ ⟨(bel W2 wN).setCell (p := ⟨k1, 0, none⟩) g1 _⟩ (fun hHeld => ?_)
        clear hHeld hK K r0 f0
        try dsimp only [Act.put, List.setIfInBounds_toArray, List.set_cons_zero, List.set_cons_succ]
        have e3 := e2.far (p := ⟨k1, 0, none⟩) (show k2 ≠ k1 by omega) (.slice (some ⟨gc, 0, none⟩) (List.length xw) (List.length xw))
        have e4 := e1.set_ 0 (.slice (some ⟨gc, 0, none⟩) (List.length xw) (List.length xw))
        have e5 := (bel W2 wN).setCell (p := ⟨k1, 0, none⟩) g1 (.slice (some ⟨gc, 0, none⟩) (List.length xw) (List.length xw))
        obtain ⟨wS, hwS⟩ : ∃ wS, wS = wN.setCell ⟨k1, 0, none⟩ (.slice (some ⟨gc, 0, none⟩) (List.length xw) (List.length xw)) := ⟨_, rfl⟩
        rw [← hwS] at e3 e4 e5 ⊢
        clear kP kQ
        have kP := Bx.mk e4
        have kQ := Bx.mk e3
        have pS : Prev wS W2 := ⟨e5⟩
        clear e1 e2 e3 e4 e5 hwS
        refine wpAnyH_ready (rs := [9]) (by kernel_rfl) (by simp) ?_
        refine AllReadyH.cons rfl (fun K hK => ?_) AllReadyH.nil
        rename World => wN
        have e1 := (kQ).blk.at (w' := wN)
        have e2 := (kP).blk.at (w' := wN)
        have r0 := e1.cell 0
        have f0 := e1.frozen 0
        go_simp
        refine hK.out _ _ ⟨(bel W2 wN).setCell (p := ⟨k2, 0, none⟩) g2 _⟩ (fun hHeld => ?_)
        clear hHeld hK K r0 f0
        try dsimp only [Act.put, List.setIfInBounds_toArray, List.set_cons_zero, List.set_cons_succ]
        have e3 := e2.far (p := ⟨k2, 0, none⟩) (show k1 ≠ k2 by omega) (.slice (some ⟨hc, 0, none⟩) (List.length xx) (List.length xx))
        have e4 := e1.set_ 0 (.slice (some ⟨hc, 0, none⟩) (List.length xx) (List.length xx))
        have e5 := (bel W2 wN).setCell (p := ⟨k2, 0, none⟩) g2 (.slice (some ⟨hc, 0, none⟩) (List.length xx) (List.length xx))
        obtain ⟨wS, hwS⟩ : ∃ wS, wS = wN.setCell ⟨k2, 0, none⟩ (.slice (some ⟨hc, 0, none⟩) (List.length xx) (List.length xx)) := ⟨_, rfl⟩
        rw [← hwS] at e3 e4 e5 ⊢
        clear kQ kP
        have kQ := Bx.mk e4
        have kP := Bx.mk e3
        have pS : Prev wS W2 := ⟨e5⟩
        clear e1 e2 e3 e4 e5 hwS
        refine wpAnyH_done (by kernel_rfl) ?_ _
        go_wp2_with fail
        go_meet
        rename World => wN
        exact ⟨k1, k2, rfl, rfl, kP.blk, kQ.blk, g1, g2, bel W2 wN⟩
      · rename World => wN
        try have ltk1 := (kP.blk.at (w' := wN)).lt
        try have ltk2 := (kQ.blk.at (w' := wN)).lt
        go_simp
        refine hK.out _ _ (prev_bel W2 _) (fun hHeld => ?_)
        clear hHeld hK K
        try dsimp only [Act.put, List.setIfInBounds_toArray, List.set_cons_zero, List.set_cons_succ]
        refine gen_boxH (fun uP _ kQ => ?_)
        have g2 : (World.heap W2).size ≤ wN.heap.size := later_size
        obtain ⟨k2, hkk2⟩ : ∃ k : Nat, wN.heap.size = k := ⟨_, rfl⟩
        rw [hkk2] at kQ g2 ⊢
        try rw [hkk2] at ltk1
        try rw [hkk2] at ltk2
        have ltk2 := (kQ).blk.lt
        clear hkk2
        refine wpAnyH_ready (rs := [6]) (by kernel_rfl) (by simp) ?_
        refine AllReadyH.cons rfl (fun K hK => ?_) AllReadyH.nil
        rename World => wN
        try have ltk1 := (kP.blk.at (w' := wN)).lt
        try have ltk2 := (kQ.blk.at (w' := wN)).lt
        go_simp
        refine hK.out _ _ (prev_bel W2 _) (fun hHeld => ?_)
        clear hHeld hK K
        try dsimp only [Act.put, List.setIfInBounds_toArray, List.set_cons_zero, List.set_cons_succ]
        refine gen_boxH (fun uP _ kP => ?_)
        have g1 : (World.heap W2).size ≤ wN.heap.size := later_size
        obtain ⟨k1, hkk1⟩ : ∃ k : Nat, wN.heap.size = k := ⟨_, rfl⟩
        rw [hkk1] at kP g1 ⊢
        try rw [hkk1] at ltk1
        try rw [hkk1] at ltk2
        have ltk1 := (kP).blk.lt
        clear hkk1
        refine wpAnyH_ready (rs := [8]) (by kernel_rfl) (by simp) ?_
        refine AllReadyH.cons rfl (fun K hK => ?_) AllReadyH.nil
        rename World => wN
        have e1 := (kP).blk.at (w' := wN)
        have e2 := (kQ).blk.at (w' := wN)
        have r0 := e1.cell 0
        have f0 := e1.frozen 0
        go_simp
        refine hK.out _ _ ⟨(bel W2 wN).setCell (p := ⟨k1, 0, none⟩) g1 _⟩ (fun hHeld => ?_)
        clear hHeld hK K r0 f0
        try dsimp only [Act.put, List.setIfInBounds_toArray, List.set_cons_zero, List.set_cons_succ]
        have e3 := e2.far (p := ⟨k1, 0, none⟩) (show k2 ≠ k1 by omega) (.slice (some ⟨gc, 0, none⟩) (List.length xw) (List.length xw))
        have e4 := e1.set_ 0 (.slice (some ⟨gc, 0, none⟩) (List.length xw) (List.length xw))
        have e5 := (bel W2 wN).setCell (p := ⟨k1, 0, none⟩) g1 (.slice (some ⟨gc, 0, none⟩) (List.length xw) (List.length xw))
        obtain ⟨wS, hwS⟩ : ∃ wS, wS = wN.setCell ⟨k1, 0, none⟩ (.slice (some ⟨gc, 0, none⟩) (List.length xw) (List.length xw)) := ⟨_, rfl⟩
        rw [← hwS] at e3 e4 e5 ⊢
        clear kP kQ
        have kP := Bx.mk e4
        have kQ := Bx.mk e3
        have pS : Prev wS W2 := ⟨e5⟩
        clear e1 e2 e3 e4 e5 hwS
        refine wpAnyH_ready (rs := [9]) (by kernel_rfl) (by simp) ?_
        refine AllReadyH.cons rfl (fun K hK => ?_) AllReadyH.nil
        rename World => wN
        have e1 := (kQ).blk.at (w' := wN)
        have e2 := (kP).blk.at (w' := wN)
        have r0 := e1.cell 0
        have f0 := e1.frozen 0
        go_simp
        refine hK.out _ _ ⟨(bel W2 wN).setCell (p := ⟨k2, 0, none⟩) g2 _⟩ (fun hHeld => ?_)
        clear hHeld hK K r0 f0
        try dsimp only [Act.put, List.setIfInBounds_toArray, List.set_cons_zero, List.set_cons_succ]
        have e3 := e2.far (p := ⟨k2, 0, none⟩) (show k1 ≠ k2 by omega) (.slice (some ⟨hc, 0, none⟩) (List.length xx) (List.length xx))
        have e4 := e1.set_ 0 (.slice (some ⟨hc, 0, none⟩) (List.length xx) (List.length xx))
        have e5 := (bel W2 wN).setCell (p := ⟨k2, 0, none⟩) g2 (.slice (some ⟨hc, 0, none⟩) (List.length xx) (List.length xx))
        obtain ⟨wS, hwS⟩ : ∃ wS, wS = wN.setCell ⟨k2, 0, none⟩ (.slice (some ⟨hc, 0, none⟩) (List.length xx) (List.length xx)) := ⟨_, rfl⟩
        rw [← hwS] at e3 e4 e5 ⊢
        clear kQ kP
        have kQ := Bx.mk e4
        have kP := Bx.mk e3
        have pS : Prev wS W2 := ⟨e5⟩
        clear e1 e2 e3 e4 e5 hwS
        refine wpAnyH_done (by kernel_rfl) ?_ _
        go_wp2_with fail
        go_meet
        rename World => wN
        exact ⟨k1, k2, rfl, rfl, kP.blk, kQ.blk, g1, g2, bel W2 wN⟩
    case rest =>
      obtain ⟨k1, k2, rfl, rfl, kP, kQ, g1, g2, hbX⟩ := hcut
      have pX : Prev wc W2 := ⟨hbX⟩
      go_wp2_with (first | (go_at_call 51; (try first | (with_reducible refine gen_boxK3 (fun u _ _ _ _ => ?_)) | (with_reducible refine gen_boxK2 (fun u _ _ _ => ?_)) | (with_reducible refine gen_boxK (fun u _ _ => ?_))); (with_reducible refine (cv_touch_yes (by omega) (by omega) hE hV hf).mono ?_); rintro e u ⟨rfl, _⟩))
      obtain ⟨w2, rfl⟩ : ∃ w2 : World, w2 = u := ⟨_, rfl⟩
      have hwv : w.heap.size + 4 ≤ v.heap.size := by have := (q4.blk.at (w' := v)).lt; omega
      have hgw : w.heap.size ≤ gc := by omega
      have hgw' : w.heap.size ≤ hc := by omega
      have b2 := bel w w2
      have kW : Bx w2 w.heap.size 34 #[.slice A zw.length c, .slice (some ⟨bb, ob, none⟩) xw.length d] := inferInstance
      have kX : Bx w2 (w.heap.size + 1) 34 #[.slice C zx.length cx, .slice (some ⟨bd, od, none⟩) xx.length d'] := inferInstance
      have kG : Bx w2 (w.heap.size + 1 + 1) 34 #[.slice F V.length e, .slice (some ⟨be, oe, none⟩) xg.length e'] := inferInstance
      have kR : Bx w2 (w.heap.size + 1 + 1 + 1) 49 #[.slice none 0 0, .slice none 0 0, .slice none 0 0, .slice none 0 0] := inferInstance
      have I0 : BackI w gs gc hs' hc t k1 k2 zw xw zx xx V xg A (some ⟨bb, ob, none⟩) C (some ⟨bd, od, none⟩) F (some ⟨be, oe, none⟩) c d cx d' e e' [] w2 := ⟨oC2.at, pC2.at, oS2.at, pS2.at, kT2.at, kP.at, kQ.at, kW.blk, kX.blk, kG.blk, kR.blk, b2⟩
      have hl1 := oC2.lt
      have hl2 := pC2.lt
      have hl3 := (kT2).lt
      have hl4 : W2.heap.size ≤ w2.heap.size := later_size
      clear kP kQ kW kX kG kR oC2 pC2 oS2 pS2 kT2 qT2 n1 n2 m1 m2 m3 m4 hbX
      refine (wpIn_wide (n := 3)).1 ?_
      refine wp_toldN (gf := 71) (fb := #[frV f]) (lb := #[]) (α := Tri) rfl (enters_of Try.func71 (by kernel_rfl) rfl) (each_told f HOK w2) (Below.refl _ _) (fun _ => rfl) (BackI w gs gc hs' hc t k1 k2 zw xw zx xx V xg A (some ⟨bb, ob, none⟩) C (some ⟨bd, od, none⟩) F (some ⟨be, oe, none⟩) c d cx d' e e') (fun _ _ _ => False)
        ?firm (fun _ => Firm.none_) I0 ?acts (fun x W => W.alloc (.cells #[.int .i64 x.1, .int .i64 x.2.1, .int .i64 x.2.2] 83)) (fun x n W => Blk W n 83 #[.int .i64 x.1, .int .i64 x.2.1, .int .i64 x.2.2]) (fun _ _ => below_alloc _ _) (fun _ _ => Blk.new _ _ _)
        (fun x n W l o o' h ho hc => (Firm.blk (B := 0) (fun (_ : Unit) => n) 83 (fun _ => _)).turn () W l o o' h (Nat.zero_le _) ho hc) ?assign ?body ?done (fun _ _ _ _ _ _ h => h.elim)
      case firm => exact (Firm.own (fun _ => gc) _ (bwFold xg xx xw.length)).and ((Firm.own (fun _ => hc) _ (bxFold xg xw xx.length)).and ((Firm.own (fun _ => gs) _ (fun _ => zw)).and ((Firm.own (fun _ => hs') _ (fun _ => zx)).and ((Firm.blk (fun _ => t) _ (fun _ => _)).and ((Firm.blk (fun _ => k1) _ (fun _ => _)).and ((Firm.blk (fun _ => k2) _ (fun _ => _)).and ((Firm.blk (fun _ => w.heap.size) _ (fun _ => _)).and ((Firm.blk (fun _ => w.heap.size + 1) _ (fun _ => _)).and ((Firm.blk (fun _ => w.heap.size + 1 + 1) _ (fun _ => _)).and ((Firm.blk (fun _ => w.heap.size + 1 + 1 + 1) _ (fun _ => _)).and (Firm.below (Nat.le_refl _) b2.size)))))))))))
      case assign =>
        intro l x W K hK
        simp only [triEnc]
        gi_wp2
        exact hK
      case body =>
        rintro l pre ⟨x1, x2, x3⟩ W0 W ⟨iC, iD, iS, iT, kT', kP', kQ', kW', kX', kG', kR', bW⟩ ⟨post, hT⟩ hs1 hs2 hA
        dsimp only at hA ⊢
        repeat (rename Prev _ _ => hz; clear hz)
        repeat (rename Bx _ _ _ _ => hz; clear hz)
        obtain ⟨hx1, hx2, hx3⟩ := HB.out (x1, x2, x3) (by rw [hT]; simp)
        simp only at hx1 hx2 hx3
        have pW : Prev W w := ⟨bW⟩
        have rP : Bx W k1 32 #[.slice (some ⟨gc, 0, none⟩) xw.length xw.length] := ⟨kP'⟩
        have rQ : Bx W k2 32 #[.slice (some ⟨hc, 0, none⟩) xx.length xx.length] := ⟨kQ'⟩
        have rW : Bx W w.heap.size 34 #[.slice A zw.length c, .slice (some ⟨bb, ob, none⟩) xw.length d] := ⟨kW'⟩
        have rX : Bx W (w.heap.size + 1) 34 #[.slice C zx.length cx, .slice (some ⟨bd, od, none⟩) xx.length d'] := ⟨kX'⟩
        have rG : Bx W (w.heap.size + 1 + 1) 34 #[.slice F V.length e, .slice (some ⟨be, oe, none⟩) xg.length e'] := ⟨kG'⟩
        have rA : Bx W W0.heap.size 83 #[.int .i64 (x1 : Int), .int .i64 (x2 : Int), .int .i64 (x3 : Int)] := ⟨hA⟩
        obtain ⟨y, hy⟩ : ∃ y, xg[x1]? = some y := ⟨_, List.getElem?_eq_getElem hx1⟩
        obtain ⟨z, hz⟩ : ∃ z, xx[x3]? = some z := ⟨_, List.getElem?_eq_getElem hx3⟩
        obtain ⟨r, hr⟩ : ∃ r, xw[x2]? = some r := ⟨_, List.getElem?_eq_getElem hx2⟩
        obtain ⟨o, ho⟩ : ∃ o, (bwFold xg xx xw.length pre)[x2]? = some o := ⟨_, List.getElem?_eq_getElem (by rw [bwFold_len]; exact hx2)⟩
        obtain ⟨q, hq⟩ : ∃ q, (bxFold xg xw xx.length pre)[x3]? = some q := ⟨_, List.getElem?_eq_getElem (by rw [bxFold_len]; exact hx3)⟩
        have cy := bg.rd.all hy
        have cz := b'.rd.all hz
        have cr := b.rd.all hr
        have iy : I6 y := I6s.at hy
        have iz : I6 z := I6s.at hz
        have ir : I6 r := I6s.at hr
        have io : I6 o := ⟨bwFold_bd o (List.mem_of_getElem? ho)⟩
        have iq : I6 q := ⟨bxFold_bd q (List.mem_of_getElem? hq)⟩
        have hco := iC.cell ho
        have og : Old gc W := ⟨iC.lt⟩
        have HST : Hid ((bwFold xg xx xw.length pre).set x2 (fadd o (fmul y z)) = bwFold xg xx xw.length (pre ++ [(x1, x2, x3)])) := Lib.hid (by
          rw [bwFold_snoc, bwStep]
          simp only
          rw [List.getD_eq_getElem?_getD, ho, List.getD_eq_getElem?_getD, hy, List.getD_eq_getElem?_getD, hz]
          rfl)
        have HST2 : Hid ((bxFold xg xw xx.length pre).set x3 (fadd q (fmul y r)) = bxFold xg xw xx.length (pre ++ [(x1, x2, x3)])) := Lib.hid (by
          rw [bxFold_snoc, bxStep]
          simp only
          rw [List.getD_eq_getElem?_getD, hq, List.getD_eq_getElem?_getD, hy, List.getD_eq_getElem?_getD, hr]
          rfl)
        have n0 : W0.heap.size ≠ gc := by omega
        have n0' : W0.heap.size ≠ hc := by omega
        have n1 : k1 ≠ gc := by omega
        have n1' : k1 ≠ hc := by omega
        have n2 : k2 ≠ gc := by omega
        have n2' : k2 ≠ hc := by omega
        have n3 := iC.ne_blk kT' (by decide)
        have n3' := iD.ne_blk kT' (by decide)
        have n4 : gs ≠ gc := iS.ne_blk (cs := ints (bwFold xg xx xw.length pre)) iC (by decide)
        have n4' : gs ≠ hc := iS.ne_blk (cs := ints (bxFold xg xw xx.length pre)) iD (by decide)
        have n5 : hs' ≠ gc := iT.ne_blk (cs := ints (bwFold xg xx xw.length pre)) iC (by decide)
        have n5' : hs' ≠ hc := iT.ne_blk (cs := ints (bxFold xg xw xx.length pre)) iD (by decide)
        have c0 : w.heap.size ≠ gc := by omega
        have c0' : w.heap.size ≠ hc := by omega
        have c1 : w.heap.size + 1 ≠ gc := by omega
        have c1' : w.heap.size + 1 ≠ hc := by omega
        have c2 : w.heap.size + 1 + 1 ≠ gc := by omega
        have c2' : w.heap.size + 1 + 1 ≠ hc := by omega
        have c3 : w.heap.size + 1 + 1 + 1 ≠ gc := by omega
        have c3' : w.heap.size + 1 + 1 + 1 ≠ hc := by omega
        have hgl : gc < w2.heap.size + 2 := by omega
        have hgl' : hc < w2.heap.size + 2 := by omega
        have HO := Lib.hid ho
        have HQ := Lib.hid hq
        clear hy hz hr ho hq
        gi_wp2
        refine wpIn_region_upR w (fun w9 => Bx w9 k1 32 #[.slice (some ⟨gc, 0, none⟩) xw.length xw.length] ∧ Bx w9 W0.heap.size 83 #[.int .i64 (x1 : Int), .int .i64 (x2 : Int), .int .i64 (x3 : Int)] ∧ Bx w9 (w.heap.size + 1) 34 #[.slice C zx.length cx, .slice (some ⟨bd, od, none⟩) xx.length d']) (by kernel_rfl) (by kernel_rfl) (by rintro ⟨_, _, h⟩; exact h) (fun v2 _ => ?_)
        refine wpAnyH_on (i := 0) (d := 80) (v := ?_) rfl rfl (by kernel_rfl) (by kernel_rfl) (by kernel_rfl) (fun _ _ _ h => h) (by kernel_rfl) ⟨prev_bel _ _, ⟨inferInstance, inferInstance, inferInstance⟩⟩ ?_ ?_
        rotate_left
        · rintro uu ⟨pu, r1, r2, r3⟩
          go_simp
          try (with_reducible rfl)
        try simp only [List.set]
        refine wpAnyH_on (i := 1) (d := 81) (v := ?_) rfl rfl (by kernel_rfl) (by kernel_rfl) (by kernel_rfl) (fun _ _ _ h => h) (by kernel_rfl) ⟨prev_bel _ _, ⟨inferInstance, inferInstance, inferInstance⟩⟩ ?_ ?_
        rotate_left
        · rintro uu ⟨pu, r1, r2, r3⟩
          go_simp
          try (with_reducible rfl)
        try simp only [List.set]
        refine wpAnyH_on (i := 2) (d := 82) (v := ?_) rfl rfl (by kernel_rfl) (by kernel_rfl) (by kernel_rfl) (fun _ _ _ h => h) (by kernel_rfl) ⟨prev_bel _ _, ⟨inferInstance, inferInstance, inferInstance⟩⟩ ?_ ?_
        rotate_left
        · rintro uu ⟨pu, r1, r2, r3⟩
          go_simp
          try (with_reducible rfl)
        try simp only [List.set]
        refine wpAnyH_on (i := 3) (d := 83) (v := ?_) rfl rfl (by kernel_rfl) (by kernel_rfl) (by kernel_rfl) (fun _ _ _ h => h) (by kernel_rfl) ⟨prev_bel _ _, ⟨inferInstance, inferInstance, inferInstance⟩⟩ ?_ ?_
        rotate_left
        · rintro uu ⟨pu, r1, r2, r3⟩
          go_simp
          try (with_reducible rfl)
        try simp only [List.set]
        refine wpAnyH_on (i := 4) (d := 84) (v := ?_) rfl rfl (by kernel_rfl) (by kernel_rfl) (by kernel_rfl) (fun _ _ _ h => h) (by kernel_rfl) ⟨prev_bel _ _, ⟨inferInstance, inferInstance, inferInstance⟩⟩ ?_ ?_
        rotate_left
        · rintro uu ⟨pu, r1, r2, r3⟩
          go_simp
          try (with_reducible rfl)
        try simp only [List.set]
        refine wpAnyH_on (i := 5) (d := 85) (v := ?_) rfl rfl (by kernel_rfl) (by kernel_rfl) (by kernel_rfl) (fun _ _ _ h => h) (by kernel_rfl) ⟨prev_bel _ _, ⟨inferInstance, inferInstance, inferInstance⟩⟩ ?_ ?_
        rotate_left
        · rintro uu ⟨pu, r1, r2, r3⟩
          go_simp
          try (with_reducible rfl)
        try simp only [List.set]
        refine wpAnyH_on (i := 6) (d := 86) (v := ?_) rfl rfl (by kernel_rfl) (by kernel_rfl) (by kernel_rfl) (fun _ _ _ h => h) (by kernel_rfl) ⟨prev_bel _ _, ⟨inferInstance, inferInstance, inferInstance⟩⟩ ?_ ?_
        rotate_left
        · rintro uu ⟨pu, r1, r2, r3⟩
          go_simp
          try (with_reducible rfl)
        try simp only [List.set]
        refine wpAnyH_on (i := 8) (d := 88) (v := ?_) rfl rfl (by kernel_rfl) (by kernel_rfl) (by kernel_rfl) (fun _ _ _ h => h) (by kernel_rfl) ⟨prev_bel _ _, ⟨inferInstance, inferInstance, inferInstance⟩⟩ ?_ ?_
        rotate_left
        · rintro uu ⟨pu, r1, r2, r3⟩
          go_simp
          try (with_reducible rfl)
        try simp only [List.set]
        refine wpAnyH_on (i := 9) (d := 89) (v := ?_) rfl rfl (by kernel_rfl) (by kernel_rfl) (by kernel_rfl) (fun _ _ _ h => h) (by kernel_rfl) ⟨prev_bel _ _, ⟨inferInstance, inferInstance, inferInstance⟩⟩ ?_ ?_
        rotate_left
        · rintro uu ⟨pu, r1, r2, r3⟩
          go_simp
          try (with_reducible rfl)
        try simp only [List.set]
        refine wpAnyH_on (i := 10) (d := 90) (v := ?_) rfl rfl (by kernel_rfl) (by kernel_rfl) (by kernel_rfl) (fun _ _ _ h => h) (by kernel_rfl) ⟨prev_bel _ _, ⟨inferInstance, inferInstance, inferInstance⟩⟩ ?_ ?_
        rotate_left
        · rintro uu ⟨pu, r1, r2, r3⟩
          go_simp
          try (with_reducible rfl)
        try simp only [List.set]
        refine wpAnyH_on (i := 11) (d := 91) (v := ?_) rfl rfl (by kernel_rfl) (by kernel_rfl) (by kernel_rfl) (fun _ _ _ h => h) (by kernel_rfl) ⟨prev_bel _ _, ⟨inferInstance, inferInstance, inferInstance⟩⟩ ?_ ?_
        rotate_left
        · rintro uu ⟨pu, r1, r2, r3⟩
          go_simp
          try (with_reducible rfl)
        try simp only [List.set]
        refine wpAnyH_on (i := 12) (d := 92) (v := ?_) rfl rfl (by kernel_rfl) (by kernel_rfl) (by kernel_rfl) (fun _ _ _ h => h) (by kernel_rfl) ⟨prev_bel _ _, ⟨inferInstance, inferInstance, inferInstance⟩⟩ ?_ ?_
        rotate_left
        · rintro uu ⟨pu, r1, r2, r3⟩
          go_simp
          try (with_reducible rfl)
        try simp only [List.set]
        refine wpAnyH_on (i := 13) (d := 93) (v := ?_) rfl rfl (by kernel_rfl) (by kernel_rfl) (by kernel_rfl) (fun _ _ _ h => h) (by kernel_rfl) ⟨prev_bel _ _, ⟨inferInstance, inferInstance, inferInstance⟩⟩ ?_ ?_
        rotate_left
        · rintro uu ⟨pu, r1, r2, r3⟩
          go_simp
          try (with_reducible rfl)
        try simp only [List.set]
        refine wpAnyH_on (i := 14) (d := 94) (v := ?_) rfl rfl (by kernel_rfl) (by kernel_rfl) (by kernel_rfl) (fun _ _ _ h => h) (by kernel_rfl) ⟨prev_bel _ _, ⟨inferInstance, inferInstance, inferInstance⟩⟩ ?_ ?_
        rotate_left
        · rintro uu ⟨pu, r1, r2, r3⟩
          go_simp
          try (with_reducible rfl)
        try simp only [List.set]
        refine wpAnyH_ready (rs := [7, 15]) (by kernel_rfl) (by simp) ?_
        refine AllReadyH.cons rfl (fun K hK => ?_) (AllReadyH.cons rfl (fun K hK => ?_) AllReadyH.nil)
        · go_simp
          refine hK.out _ _ ⟨prev_bel w _, ⟨inferInstance, inferInstance, inferInstance⟩⟩ (fun hHeld => ?_)
          clear hHeld hK K
          try dsimp only [Act.put, List.setIfInBounds_toArray, List.set_cons_zero, List.set_cons_succ]
          refine wpAnyH_ready (rs := [15]) (by kernel_rfl) (by simp) ?_
          refine AllReadyH.cons rfl (fun K hK => ?_) AllReadyH.nil
          go_simp
          (with_reducible refine (aF_mul).mono ?_)
          rintro e v2 ⟨rfl, _⟩
          dsimp only
          refine hK.out _ _ ⟨prev_bel w _, ⟨inferInstance, inferInstance, inferInstance⟩⟩ (fun hHeld => ?_)
          clear hHeld hK K
          try dsimp only [Act.put, List.setIfInBounds_toArray, List.set_cons_zero, List.set_cons_succ]
          refine wpAnyH_ready (rs := [16]) (by kernel_rfl) (by simp) ?_
          refine AllReadyH.cons rfl (fun K hK => ?_) AllReadyH.nil
          go_simp
          (with_reducible refine (aF_add).mono ?_)
          rintro e v2 ⟨rfl, _⟩
          dsimp only
          refine hK.out _ _ ⟨prev_bel w _, ⟨inferInstance, inferInstance, inferInstance⟩⟩ (fun hHeld => ?_)
          clear hHeld hK K
          try dsimp only [Act.put, List.setIfInBounds_toArray, List.set_cons_zero, List.set_cons_succ]
          refine wpAnyH_on (i := 17) (d := 97) (v := ?_) rfl rfl (by kernel_rfl) (by kernel_rfl) (by kernel_rfl) (fun _ _ _ h => h) (by kernel_rfl) ⟨prev_bel _ _, ⟨inferInstance, inferInstance, inferInstance⟩⟩ ?_ ?_
          rotate_left
          · rintro uu ⟨pu, r1, r2, r3⟩
            go_simp
            try (with_reducible rfl)
          try simp only [List.set]
          refine wpAnyH_ready (rs := [18]) (by kernel_rfl) (by simp) ?_
          refine AllReadyH.cons rfl (fun K hK => ?_) AllReadyH.nil
          have hcg := ((iC).at (w' := v2)).cell HO.out
          have hfg := ((iC).at (w' := v2)).frozen x2
          go_simp
          refine hK.out _ _ ⟨⟨(bel w v2).setCell (p := ⟨gc, x2, none⟩) hgw _⟩, ⟨⟨(Bx.blk (w := v2)).far n1 _⟩, ⟨(Bx.blk (w := v2)).far n0 _⟩, ⟨(Bx.blk (w := v2)).far c1 _⟩⟩⟩ (fun hHeld => ?_)
          clear hHeld hK K hcg hfg
          try dsimp only [Act.put, List.setIfInBounds_toArray, List.set_cons_zero, List.set_cons_succ]
          refine wpAnyH_done (by kernel_rfl) ?_ _
          gi_wp2
          obtain ⟨V3, hV3⟩ : ∃ V3 : World, V3 = v2.setCell ⟨gc, x2, none⟩ (.int .i64 (fadd o (fmul y z))) := ⟨_, rfl⟩
          have jC : Own V3 gc 56 (bwFold xg xx xw.length (pre ++ [(x1, x2, x3)])) := by rw [hV3, ← HST.out]; exact (iC.at (w' := v2)).set_ x2 _
          have jD : Own V3 hc 56 (bxFold xg xw xx.length pre) := by rw [hV3]; exact (iD.at (w' := v2)).far (p := ⟨gc, x2, none⟩) hne.symm _
          have jS : Own V3 gs 3 zw := by rw [hV3]; exact (iS.at (w' := v2)).far (p := ⟨gc, x2, none⟩) n4 _
          have jT : Own V3 hs' 3 zx := by rw [hV3]; exact (iT.at (w' := v2)).far (p := ⟨gc, x2, none⟩) n5 _
          have lT := (kT'.at (w' := v2)).far (p := ⟨gc, x2, none⟩) (Ne.symm n3) (.int .i64 (fadd o (fmul y z)))
          have lP := (kP'.at (w' := v2)).far (p := ⟨gc, x2, none⟩) n1 (.int .i64 (fadd o (fmul y z)))
          have lQ := (kQ'.at (w' := v2)).far (p := ⟨gc, x2, none⟩) n2 (.int .i64 (fadd o (fmul y z)))
          have lW := (kW'.at (w' := v2)).far (p := ⟨gc, x2, none⟩) c0 (.int .i64 (fadd o (fmul y z)))
          have lX := (kX'.at (w' := v2)).far (p := ⟨gc, x2, none⟩) c1 (.int .i64 (fadd o (fmul y z)))
          have lG := (kG'.at (w' := v2)).far (p := ⟨gc, x2, none⟩) c2 (.int .i64 (fadd o (fmul y z)))
          have lR := (kR'.at (w' := v2)).far (p := ⟨gc, x2, none⟩) c3 (.int .i64 (fadd o (fmul y z)))
          have lA := (hA.at (w' := v2)).far (p := ⟨gc, x2, none⟩) n0 (.int .i64 (fadd o (fmul y z)))
          have p3 : Prev V3 w := ⟨by rw [hV3]; exact (bel w v2).setCell (p := ⟨gc, x2, none⟩) hgw _⟩
          have kf : KeepsFrom w2.heap.size W V3 := by rw [hV3]; exact keepsFrom_set (keepsFrom_below (bel W v2)) _ _
          have hn3 : HeldN (w2.heap.size + 2) W V3 := by rw [hV3]; exact (HeldN.below (bel W v2)).trans (HeldN.set_ (p := ⟨gc, x2, none⟩) _ hgl)
          rw [← hV3] at lT lP lQ lW lX lG lR lA ⊢
          clear hV3 rP rQ rW rX rG rA hco og
          have rQ : Bx V3 k2 32 #[.slice (some ⟨hc, 0, none⟩) xx.length xx.length] := ⟨lQ⟩
          have rW : Bx V3 w.heap.size 34 #[.slice A zw.length c, .slice (some ⟨bb, ob, none⟩) xw.length d] := ⟨lW⟩
          have rA : Bx V3 W0.heap.size 83 #[.int .i64 (x1 : Int), .int .i64 (x2 : Int), .int .i64 (x3 : Int)] := ⟨lA⟩
          have hcq := jD.cell HQ.out
          have og : Old hc V3 := ⟨jD.lt⟩
          refine wpIn_region_upR w (fun w9 => Bx w9 k2 32 #[.slice (some ⟨hc, 0, none⟩) xx.length xx.length] ∧ Bx w9 W0.heap.size 83 #[.int .i64 (x1 : Int), .int .i64 (x2 : Int), .int .i64 (x3 : Int)] ∧ Bx w9 w.heap.size 34 #[.slice A zw.length c, .slice (some ⟨bb, ob, none⟩) xw.length d]) (by kernel_rfl) (by kernel_rfl) (by rintro ⟨_, _, h⟩; exact h) (fun v4 _ => ?_)
          refine wpAnyH_on (i := 0) (d := 98) (v := ?_) rfl rfl (by kernel_rfl) (by kernel_rfl) (by kernel_rfl) (fun _ _ _ h => h) (by kernel_rfl) ⟨prev_bel _ _, ⟨inferInstance, inferInstance, inferInstance⟩⟩ ?_ ?_
          rotate_left
          · rintro uu ⟨pu, r1, r2, r3⟩
            go_simp
            try (with_reducible rfl)
          try simp only [List.set]
          refine wpAnyH_on (i := 1) (d := 99) (v := ?_) rfl rfl (by kernel_rfl) (by kernel_rfl) (by kernel_rfl) (fun _ _ _ h => h) (by kernel_rfl) ⟨prev_bel _ _, ⟨inferInstance, inferInstance, inferInstance⟩⟩ ?_ ?_
          rotate_left
          · rintro uu ⟨pu, r1, r2, r3⟩
            go_simp
            try (with_reducible rfl)
          try simp only [List.set]
          refine wpAnyH_on (i := 2) (d := 100) (v := ?_) rfl rfl (by kernel_rfl) (by kernel_rfl) (by kernel_rfl) (fun _ _ _ h => h) (by kernel_rfl) ⟨prev_bel _ _, ⟨inferInstance, inferInstance, inferInstance⟩⟩ ?_ ?_
          rotate_left
          · rintro uu ⟨pu, r1, r2, r3⟩
            go_simp
            try (with_reducible rfl)
          try simp only [List.set]
          refine wpAnyH_on (i := 3) (d := 101) (v := ?_) rfl rfl (by kernel_rfl) (by kernel_rfl) (by kernel_rfl) (fun _ _ _ h => h) (by kernel_rfl) ⟨prev_bel _ _, ⟨inferInstance, inferInstance, inferInstance⟩⟩ ?_ ?_
          rotate_left
          · rintro uu ⟨pu, r1, r2, r3⟩
            go_simp
            try (with_reducible rfl)
          try simp only [List.set]
          refine wpAnyH_on (i := 4) (d := 102) (v := ?_) rfl rfl (by kernel_rfl) (by kernel_rfl) (by kernel_rfl) (fun _ _ _ h => h) (by kernel_rfl) ⟨prev_bel _ _, ⟨inferInstance, inferInstance, inferInstance⟩⟩ ?_ ?_
          rotate_left
          · rintro uu ⟨pu, r1, r2, r3⟩
            go_simp
            try (with_reducible rfl)
          try simp only [List.set]
          refine wpAnyH_on (i := 5) (d := 103) (v := ?_) rfl rfl (by kernel_rfl) (by kernel_rfl) (by kernel_rfl) (fun _ _ _ h => h) (by kernel_rfl) ⟨prev_bel _ _, ⟨inferInstance, inferInstance, inferInstance⟩⟩ ?_ ?_
          rotate_left
          · rintro uu ⟨pu, r1, r2, r3⟩
            go_simp
            try (with_reducible rfl)
          try simp only [List.set]
          refine wpAnyH_on (i := 6) (d := 104) (v := ?_) rfl rfl (by kernel_rfl) (by kernel_rfl) (by kernel_rfl) (fun _ _ _ h => h) (by kernel_rfl) ⟨prev_bel _ _, ⟨inferInstance, inferInstance, inferInstance⟩⟩ ?_ ?_
          rotate_left
          · rintro uu ⟨pu, r1, r2, r3⟩
            go_simp
            try (with_reducible rfl)
          try simp only [List.set]
          refine wpAnyH_on (i := 8) (d := 106) (v := ?_) rfl rfl (by kernel_rfl) (by kernel_rfl) (by kernel_rfl) (fun _ _ _ h => h) (by kernel_rfl) ⟨prev_bel _ _, ⟨inferInstance, inferInstance, inferInstance⟩⟩ ?_ ?_
          rotate_left
          · rintro uu ⟨pu, r1, r2, r3⟩
            go_simp
            try (with_reducible rfl)
          try simp only [List.set]
          refine wpAnyH_on (i := 9) (d := 107) (v := ?_) rfl rfl (by kernel_rfl) (by kernel_rfl) (by kernel_rfl) (fun _ _ _ h => h) (by kernel_rfl) ⟨prev_bel _ _, ⟨inferInstance, inferInstance, inferInstance⟩⟩ ?_ ?_
          rotate_left
          · rintro uu ⟨pu, r1, r2, r3⟩
            go_simp
            try (with_reducible rfl)
          try simp only [List.set]
          refine wpAnyH_on (i := 10) (d := 108) (v := ?_) rfl rfl (by kernel_rfl) (by kernel_rfl) (by kernel_rfl) (fun _ _ _ h => h) (by kernel_rfl) ⟨prev_bel _ _, ⟨inferInstance, inferInstance, inferInstance⟩⟩ ?_ ?_
          rotate_left
          · rintro uu ⟨pu, r1, r2, r3⟩
            go_simp
            try (with_reducible rfl)
          try simp only [List.set]
          refine wpAnyH_on (i := 11) (d := 109) (v := ?_) rfl rfl (by kernel_rfl) (by kernel_rfl) (by kernel_rfl) (fun _ _ _ h => h) (by kernel_rfl) ⟨prev_bel _ _, ⟨inferInstance, inferInstance, inferInstance⟩⟩ ?_ ?_
          rotate_left
          · rintro uu ⟨pu, r1, r2, r3⟩
            go_simp
            try (with_reducible rfl)
          try simp only [List.set]
          refine wpAnyH_on (i := 12) (d := 110) (v := ?_) rfl rfl (by kernel_rfl) (by kernel_rfl) (by kernel_rfl) (fun _ _ _ h => h) (by kernel_rfl) ⟨prev_bel _ _, ⟨inferInstance, inferInstance, inferInstance⟩⟩ ?_ ?_
          rotate_left
          · rintro uu ⟨pu, r1, r2, r3⟩
            go_simp
            try (with_reducible rfl)
          try simp only [List.set]
          refine wpAnyH_on (i := 13) (d := 111) (v := ?_) rfl rfl (by kernel_rfl) (by kernel_rfl) (by kernel_rfl) (fun _ _ _ h => h) (by kernel_rfl) ⟨prev_bel _ _, ⟨inferInstance, inferInstance, inferInstance⟩⟩ ?_ ?_
          rotate_left
          · rintro uu ⟨pu, r1, r2, r3⟩
            go_simp
            try (with_reducible rfl)
          try simp only [List.set]
          refine wpAnyH_on (i := 14) (d := 112) (v := ?_) rfl rfl (by kernel_rfl) (by kernel_rfl) (by kernel_rfl) (fun _ _ _ h => h) (by kernel_rfl) ⟨prev_bel _ _, ⟨inferInstance, inferInstance, inferInstance⟩⟩ ?_ ?_
          rotate_left
          · rintro uu ⟨pu, r1, r2, r3⟩
            go_simp
            try (with_reducible rfl)
          try simp only [List.set]
          refine wpAnyH_ready (rs := [7, 15]) (by kernel_rfl) (by simp) ?_
          refine AllReadyH.cons rfl (fun K hK => ?_) (AllReadyH.cons rfl (fun K hK => ?_) AllReadyH.nil)
          · go_simp
            refine hK.out _ _ ⟨prev_bel w _, ⟨inferInstance, inferInstance, inferInstance⟩⟩ (fun hHeld => ?_)
            clear hHeld hK K
            try dsimp only [Act.put, List.setIfInBounds_toArray, List.set_cons_zero, List.set_cons_succ]
            refine wpAnyH_ready (rs := [15]) (by kernel_rfl) (by simp) ?_
            refine AllReadyH.cons rfl (fun K hK => ?_) AllReadyH.nil
            go_simp
            (with_reducible refine (aF_mul).mono ?_)
            rintro e v4 ⟨rfl, _⟩
            dsimp only
            refine hK.out _ _ ⟨prev_bel w _, ⟨inferInstance, inferInstance, inferInstance⟩⟩ (fun hHeld => ?_)
            clear hHeld hK K
            try dsimp only [Act.put, List.setIfInBounds_toArray, List.set_cons_zero, List.set_cons_succ]
            refine wpAnyH_ready (rs := [16]) (by kernel_rfl) (by simp) ?_
            refine AllReadyH.cons rfl (fun K hK => ?_) AllReadyH.nil
            go_simp
            (with_reducible refine (aF_add).mono ?_)
            rintro e v4 ⟨rfl, _⟩
            dsimp only
            refine hK.out _ _ ⟨prev_bel w _, ⟨inferInstance, inferInstance, inferInstance⟩⟩ (fun hHeld => ?_)
            clear hHeld hK K
            try dsimp only [Act.put, List.setIfInBounds_toArray, List.set_cons_zero, List.set_cons_succ]
            refine wpAnyH_on (i := 17) (d := 115) (v := ?_) rfl rfl (by kernel_rfl) (by kernel_rfl) (by kernel_rfl) (fun _ _ _ h => h) (by kernel_rfl) ⟨prev_bel _ _, ⟨inferInstance, inferInstance, inferInstance⟩⟩ ?_ ?_
            rotate_left
            · rintro uu ⟨pu, r1, r2, r3⟩
              go_simp
              try (with_reducible rfl)
            try simp only [List.set]
            refine wpAnyH_ready (rs := [18]) (by kernel_rfl) (by simp) ?_
            refine AllReadyH.cons rfl (fun K hK => ?_) AllReadyH.nil
            have hcg := ((jD).at (w' := v4)).cell HQ.out
            have hfg := ((jD).at (w' := v4)).frozen x3
            go_simp
            refine hK.out _ _ ⟨⟨(bel w v4).setCell (p := ⟨hc, x3, none⟩) hgw' _⟩, ⟨⟨(Bx.blk (w := v4)).far n2' _⟩, ⟨(Bx.blk (w := v4)).far n0' _⟩, ⟨(Bx.blk (w := v4)).far c0' _⟩⟩⟩ (fun hHeld => ?_)
            clear hHeld hK K hcg hfg
            try dsimp only [Act.put, List.setIfInBounds_toArray, List.set_cons_zero, List.set_cons_succ]
            refine wpAnyH_done (by kernel_rfl) ?_ _
            gi_wp2
            have o2 := (jD.at (w' := v4)).set_ x3 (fadd q (fmul y r))
            rw [HST2.out] at o2
            exact ⟨kf.trans (keepsFrom_set (keepsFrom_below (bel V3 v4)) _ _), hn3.trans ((HeldN.below (bel V3 v4)).trans (HeldN.set_ (p := ⟨hc, x3, none⟩) _ hgl')),
              (jC.at (w' := v4)).far (p := ⟨hc, x3, none⟩) hne _, o2, (jS.at (w' := v4)).far (p := ⟨hc, x3, none⟩) n4' _, (jT.at (w' := v4)).far (p := ⟨hc, x3, none⟩) n5' _, (lT.at (w' := v4)).far (p := ⟨hc, x3, none⟩) (Ne.symm n3') _,
              (lP.at (w' := v4)).far (p := ⟨hc, x3, none⟩) n1' _, (lQ.at (w' := v4)).far (p := ⟨hc, x3, none⟩) n2' _, (lW.at (w' := v4)).far (p := ⟨hc, x3, none⟩) c0' _, (lX.at (w' := v4)).far (p := ⟨hc, x3, none⟩) c1' _, (lG.at (w' := v4)).far (p := ⟨hc, x3, none⟩) c2' _, (lR.at (w' := v4)).far (p := ⟨hc, x3, none⟩) c3' _,
              (bel w v4).setCell (p := ⟨hc, x3, none⟩) hgw' _⟩
          · go_simp
            (with_reducible refine (aF_mul).mono ?_)
            rintro e v4 ⟨rfl, _⟩
            dsimp only
            refine hK.out _ _ ⟨prev_bel w _, ⟨inferInstance, inferInstance, inferInstance⟩⟩ (fun hHeld => ?_)
            clear hHeld hK K
            try dsimp only [Act.put, List.setIfInBounds_toArray, List.set_cons_zero, List.set_cons_succ]
            refine wpAnyH_ready (rs := [7]) (by kernel_rfl) (by simp) ?_
            refine AllReadyH.cons rfl (fun K hK => ?_) AllReadyH.nil
            go_simp
            refine hK.out _ _ ⟨prev_bel w _, ⟨inferInstance, inferInstance, inferInstance⟩⟩ (fun hHeld => ?_)
            clear hHeld hK K
            try dsimp only [Act.put, List.setIfInBounds_toArray, List.set_cons_zero, List.set_cons_succ]
            refine wpAnyH_ready (rs := [16]) (by kernel_rfl) (by simp) ?_
            refine AllReadyH.cons rfl (fun K hK => ?_) AllReadyH.nil
            go_simp
            (with_reducible refine (aF_add).mono ?_)
            rintro e v4 ⟨rfl, _⟩
            dsimp only
            refine hK.out _ _ ⟨prev_bel w _, ⟨inferInstance, inferInstance, inferInstance⟩⟩ (fun hHeld => ?_)
            clear hHeld hK K
            try dsimp only [Act.put, List.setIfInBounds_toArray, List.set_cons_zero, List.set_cons_succ]
            refine wpAnyH_on (i := 17) (d := 115) (v := ?_) rfl rfl (by kernel_rfl) (by kernel_rfl) (by kernel_rfl) (fun _ _ _ h => h) (by kernel_rfl) ⟨prev_bel _ _, ⟨inferInstance, inferInstance, inferInstance⟩⟩ ?_ ?_
            rotate_left
            · rintro uu ⟨pu, r1, r2, r3⟩
              go_simp
              try (with_reducible rfl)
            try simp only [List.set]
            refine wpAnyH_ready (rs := [18]) (by kernel_rfl) (by simp) ?_
            refine AllReadyH.cons rfl (fun K hK => ?_) AllReadyH.nil
            have hcg := ((jD).at (w' := v4)).cell HQ.out
            have hfg := ((jD).at (w' := v4)).frozen x3
            go_simp
            refine hK.out _ _ ⟨⟨(bel w v4).setCell (p := ⟨hc, x3, none⟩) hgw' _⟩, ⟨⟨(Bx.blk (w := v4)).far n2' _⟩, ⟨(Bx.blk (w := v4)).far n0' _⟩, ⟨(Bx.blk (w := v4)).far c0' _⟩⟩⟩ (fun hHeld => ?_)
            clear hHeld hK K hcg hfg
            try dsimp only [Act.put, List.setIfInBounds_toArray, List.set_cons_zero, List.set_cons_succ]
            refine wpAnyH_done (by kernel_rfl) ?_ _
            gi_wp2
            have o2 := (jD.at (w' := v4)).set_ x3 (fadd q (fmul y r))
            rw [HST2.out] at o2
            exact ⟨kf.trans (keepsFrom_set (keepsFrom_below (bel V3 v4)) _ _), hn3.trans ((HeldN.below (bel V3 v4)).trans (HeldN.set_ (p := ⟨hc, x3, none⟩) _ hgl')),
              (jC.at (w' := v4)).far (p := ⟨hc, x3, none⟩) hne _, o2, (jS.at (w' := v4)).far (p := ⟨hc, x3, none⟩) n4' _, (jT.at (w' := v4)).far (p := ⟨hc, x3, none⟩) n5' _, (lT.at (w' := v4)).far (p := ⟨hc, x3, none⟩) (Ne.symm n3') _,
              (lP.at (w' := v4)).far (p := ⟨hc, x3, none⟩) n1' _, (lQ.at (w' := v4)).far (p := ⟨hc, x3, none⟩) n2' _, (lW.at (w' := v4)).far (p := ⟨hc, x3, none⟩) c0' _, (lX.at (w' := v4)).far (p := ⟨hc, x3, none⟩) c1' _, (lG.at (w' := v4)).far (p := ⟨hc, x3, none⟩) c2' _, (lR.at (w' := v4)).far (p := ⟨hc, x3, none⟩) c3' _,
              (bel w v4).setCell (p := ⟨hc, x3, none⟩) hgw' _⟩
        · go_simp
          (with_reducible refine (aF_mul).mono ?_)
          rintro e v2 ⟨rfl, _⟩
          dsimp only
          refine hK.out _ _ ⟨prev_bel w _, ⟨inferInstance, inferInstance, inferInstance⟩⟩ (fun hHeld => ?_)
          clear hHeld hK K
          try dsimp only [Act.put, List.setIfInBounds_toArray, List.set_cons_zero, List.set_cons_succ]
          refine wpAnyH_ready (rs := [7]) (by kernel_rfl) (by simp) ?_
          refine AllReadyH.cons rfl (fun K hK => ?_) AllReadyH.nil
          go_simp
          refine hK.out _ _ ⟨prev_bel w _, ⟨inferInstance, inferInstance, inferInstance⟩⟩ (fun hHeld => ?_)
          clear hHeld hK K
          try dsimp only [Act.put, List.setIfInBounds_toArray, List.set_cons_zero, List.set_cons_succ]
          refine wpAnyH_ready (rs := [16]) (by kernel_rfl) (by simp) ?_
          refine AllReadyH.cons rfl (fun K hK => ?_) AllReadyH.nil
          go_simp
          (with_reducible refine (aF_add).mono ?_)
          rintro e v2 ⟨rfl, _⟩
          dsimp only
          refine hK.out _ _ ⟨prev_bel w _, ⟨inferInstance, inferInstance, inferInstance⟩⟩ (fun hHeld => ?_)
          clear hHeld hK K
          try dsimp only [Act.put, List.setIfInBounds_toArray, List.set_cons_zero, List.set_cons_succ]
          refine wpAnyH_on (i := 17) (d := 97) (v := ?_) rfl rfl (by kernel_rfl) (by kernel_rfl) (by kernel_rfl) (fun _ _ _ h => h) (by kernel_rfl) ⟨prev_bel _ _, ⟨inferInstance, inferInstance, inferInstance⟩⟩ ?_ ?_
          rotate_left
          · rintro uu ⟨pu, r1, r2, r3⟩
            go_simp
            try (with_reducible rfl)
          try simp only [List.set]
          refine wpAnyH_ready (rs := [18]) (by kernel_rfl) (by simp) ?_
          refine AllReadyH.cons rfl (fun K hK => ?_) AllReadyH.nil
          have hcg := ((iC).at (w' := v2)).cell HO.out
          have hfg := ((iC).at (w' := v2)).frozen x2
          go_simp
          refine hK.out _ _ ⟨⟨(bel w v2).setCell (p := ⟨gc, x2, none⟩) hgw _⟩, ⟨⟨(Bx.blk (w := v2)).far n1 _⟩, ⟨(Bx.blk (w := v2)).far n0 _⟩, ⟨(Bx.blk (w := v2)).far c1 _⟩⟩⟩ (fun hHeld => ?_)
          clear hHeld hK K hcg hfg
          try dsimp only [Act.put, List.setIfInBounds_toArray, List.set_cons_zero, List.set_cons_succ]
          refine wpAnyH_done (by kernel_rfl) ?_ _
          gi_wp2
          obtain ⟨V3, hV3⟩ : ∃ V3 : World, V3 = v2.setCell ⟨gc, x2, none⟩ (.int .i64 (fadd o (fmul y z))) := ⟨_, rfl⟩
          have jC : Own V3 gc 56 (bwFold xg xx xw.length (pre ++ [(x1, x2, x3)])) := by rw [hV3, ← HST.out]; exact (iC.at (w' := v2)).set_ x2 _
          have jD : Own V3 hc 56 (bxFold xg xw xx.length pre) := by rw [hV3]; exact (iD.at (w' := v2)).far (p := ⟨gc, x2, none⟩) hne.symm _
          have jS : Own V3 gs 3 zw := by rw [hV3]; exact (iS.at (w' := v2)).far (p := ⟨gc, x2, none⟩) n4 _
          have jT : Own V3 hs' 3 zx := by rw [hV3]; exact (iT.at (w' := v2)).far (p := ⟨gc, x2, none⟩) n5 _
          have lT := (kT'.at (w' := v2)).far (p := ⟨gc, x2, none⟩) (Ne.symm n3) (.int .i64 (fadd o (fmul y z)))
          have lP := (kP'.at (w' := v2)).far (p := ⟨gc, x2, none⟩) n1 (.int .i64 (fadd o (fmul y z)))
          have lQ := (kQ'.at (w' := v2)).far (p := ⟨gc, x2, none⟩) n2 (.int .i64 (fadd o (fmul y z)))
          have lW := (kW'.at (w' := v2)).far (p := ⟨gc, x2, none⟩) c0 (.int .i64 (fadd o (fmul y z)))
          have lX := (kX'.at (w' := v2)).far (p := ⟨gc, x2, none⟩) c1 (.int .i64 (fadd o (fmul y z)))
          have lG := (kG'.at (w' := v2)).far (p := ⟨gc, x2, none⟩) c2 (.int .i64 (fadd o (fmul y z)))
          have lR := (kR'.at (w' := v2)).far (p := ⟨gc, x2, none⟩) c3 (.int .i64 (fadd o (fmul y z)))
          have lA := (hA.at (w' := v2)).far (p := ⟨gc, x2, none⟩) n0 (.int .i64 (fadd o (fmul y z)))
          have p3 : Prev V3 w := ⟨by rw [hV3]; exact (bel w v2).setCell (p := ⟨gc, x2, none⟩) hgw _⟩
          have kf : KeepsFrom w2.heap.size W V3 := by rw [hV3]; exact keepsFrom_set (keepsFrom_below (bel W v2)) _ _
          have hn3 : HeldN (w2.heap.size + 2) W V3 := by rw [hV3]; exact (HeldN.below (bel W v2)).trans (HeldN.set_ (p := ⟨gc, x2, none⟩) _ hgl)
          rw [← hV3] at lT lP lQ lW lX lG lR lA ⊢
          clear hV3 rP rQ rW rX rG rA hco og
          have rQ : Bx V3 k2 32 #[.slice (some ⟨hc, 0, none⟩) xx.length xx.length] := ⟨lQ⟩
          have rW : Bx V3 w.heap.size 34 #[.slice A zw.length c, .slice (some ⟨bb, ob, none⟩) xw.length d] := ⟨lW⟩
          have rA : Bx V3 W0.heap.size 83 #[.int .i64 (x1 : Int), .int .i64 (x2 : Int), .int .i64 (x3 : Int)] := ⟨lA⟩
          have hcq := jD.cell HQ.out
          have og : Old hc V3 := ⟨jD.lt⟩
          refine wpIn_region_upR w (fun w9 => Bx w9 k2 32 #[.slice (some ⟨hc, 0, none⟩) xx.length xx.length] ∧ Bx w9 W0.heap.size 83 #[.int .i64 (x1 : Int), .int .i64 (x2 : Int), .int .i64 (x3 : Int)] ∧ Bx w9 w.heap.size 34 #[.slice A zw.length c, .slice (some ⟨bb, ob, none⟩) xw.length d]) (by kernel_rfl) (by kernel_rfl) (by rintro ⟨_, _, h⟩; exact h) (fun v4 _ => ?_)
          refine wpAnyH_on (i := 0) (d := 98) (v := ?_) rfl rfl (by kernel_rfl) (by kernel_rfl) (by kernel_rfl) (fun _ _ _ h => h) (by kernel_rfl) ⟨prev_bel _ _, ⟨inferInstance, inferInstance, inferInstance⟩⟩ ?_ ?_
          rotate_left
          · rintro uu ⟨pu, r1, r2, r3⟩
            go_simp
            try (with_reducible rfl)
          try simp only [List.set]
          refine wpAnyH_on (i := 1) (d := 99) (v := ?_) rfl rfl (by kernel_rfl) (by kernel_rfl) (by kernel_rfl) (fun _ _ _ h => h) (by kernel_rfl) ⟨prev_bel _ _, ⟨inferInstance, inferInstance, inferInstance⟩⟩ ?_ ?_
          rotate_left
          · rintro uu ⟨pu, r1, r2, r3⟩
            go_simp
            try (with_reducible rfl)
          try simp only [List.set]
          refine wpAnyH_on (i := 2) (d := 100) (v := ?_) rfl rfl (by kernel_rfl) (by kernel_rfl) (by kernel_rfl) (fun _ _ _ h => h) (by kernel_rfl) ⟨prev_bel _ _, ⟨inferInstance, inferInstance, inferInstance⟩⟩ ?_ ?_
          rotate_left
          · rintro uu ⟨pu, r1, r2, r3⟩
            go_simp
            try (with_reducible rfl)
          try simp only [List.set]
          refine wpAnyH_on (i := 3) (d := 101) (v := ?_) rfl rfl (by kernel_rfl) (by kernel_rfl) (by kernel_rfl) (fun _ _ _ h => h) (by kernel_rfl) ⟨prev_bel _ _, ⟨inferInstance, inferInstance, inferInstance⟩⟩ ?_ ?_
          rotate_left
          · rintro uu ⟨pu, r1, r2, r3⟩
            go_simp
            try (with_reducible rfl)
          try simp only [List.set]
          refine wpAnyH_on (i := 4) (d := 102) (v := ?_) rfl rfl (by kernel_rfl) (by kernel_rfl) (by kernel_rfl) (fun _ _ _ h => h) (by kernel_rfl) ⟨prev_bel _ _, ⟨inferInstance, inferInstance, inferInstance⟩⟩ ?_ ?_
          rotate_left
          · rintro uu ⟨pu, r1, r2, r3⟩
            go_simp
            try (with_reducible rfl)
          try simp only [List.set]
          refine wpAnyH_on (i := 5) (d := 103) (v := ?_) rfl rfl (by kernel_rfl) (by kernel_rfl) (by kernel_rfl) (fun _ _ _ h => h) (by kernel_rfl) ⟨prev_bel _ _, ⟨inferInstance, inferInstance, inferInstance⟩⟩ ?_ ?_
          rotate_left
          · rintro uu ⟨pu, r1, r2, r3⟩
            go_simp
            try (with_reducible rfl)
          try simp only [List.set]
          refine wpAnyH_on (i := 6) (d := 104) (v := ?_) rfl rfl (by kernel_rfl) (by kernel_rfl) (by kernel_rfl) (fun _ _ _ h => h) (by kernel_rfl) ⟨prev_bel _ _, ⟨inferInstance, inferInstance, inferInstance⟩⟩ ?_ ?_
          rotate_left
          · rintro uu ⟨pu, r1, r2, r3⟩
            go_simp
            try (with_reducible rfl)
          try simp only [List.set]
          refine wpAnyH_on (i := 8) (d := 106) (v := ?_) rfl rfl (by kernel_rfl) (by kernel_rfl) (by kernel_rfl) (fun _ _ _ h => h) (by kernel_rfl) ⟨prev_bel _ _, ⟨inferInstance, inferInstance, inferInstance⟩⟩ ?_ ?_
          rotate_left
          · rintro uu ⟨pu, r1, r2, r3⟩
            go_simp
            try (with_reducible rfl)
          try simp only [List.set]
          refine wpAnyH_on (i := 9) (d := 107) (v := ?_) rfl rfl (by kernel_rfl) (by kernel_rfl) (by kernel_rfl) (fun _ _ _ h => h) (by kernel_rfl) ⟨prev_bel _ _, ⟨inferInstance, inferInstance, inferInstance⟩⟩ ?_ ?_
          rotate_left
          · rintro uu ⟨pu, r1, r2, r3⟩
            go_simp
            try (with_reducible rfl)
          try simp only [List.set]
          refine wpAnyH_on (i := 10) (d := 108) (v := ?_) rfl rfl (by kernel_rfl) (by kernel_rfl) (by kernel_rfl) (fun _ _ _ h => h) (by kernel_rfl) ⟨prev_bel _ _, ⟨inferInstance, inferInstance, inferInstance⟩⟩ ?_ ?_
          rotate_left
          · rintro uu ⟨pu, r1, r2, r3⟩
            go_simp
            try (with_reducible rfl)
          try simp only [List.set]
          refine wpAnyH_on (i := 11) (d := 109) (v := ?_) rfl rfl (by kernel_rfl) (by kernel_rfl) (by kernel_rfl) (fun _ _ _ h => h) (by kernel_rfl) ⟨prev_bel _ _, ⟨inferInstance, inferInstance, inferInstance⟩⟩ ?_ ?_
          rotate_left
          · rintro uu ⟨pu, r1, r2, r3⟩
            go_simp
            try (with_reducible rfl)
          try simp only [List.set]
          refine wpAnyH_on (i := 12) (d := 110) (v := ?_) rfl rfl (by kernel_rfl) (by kernel_rfl) (by kernel_rfl) (fun _ _ _ h => h) (by kernel_rfl) ⟨prev_bel _ _, ⟨inferInstance, inferInstance, inferInstance⟩⟩ ?_ ?_
          rotate_left
          · rintro uu ⟨pu, r1, r2, r3⟩
            go_simp
            try (with_reducible rfl)
          try simp only [List.set]
          refine wpAnyH_on (i := 13) (d := 111) (v := ?_) rfl rfl (by kernel_rfl) (by kernel_rfl) (by kernel_rfl) (fun _ _ _ h => h) (by kernel_rfl) ⟨prev_bel _ _, ⟨inferInstance, inferInstance, inferInstance⟩⟩ ?_ ?_
          rotate_left
          · rintro uu ⟨pu, r1, r2, r3⟩
            go_simp
            try (with_reducible rfl)
          try simp only [List.set]
          refine wpAnyH_on (i := 14) (d := 112) (v := ?_) rfl rfl (by kernel_rfl) (by kernel_rfl) (by kernel_rfl) (fun _ _ _ h => h) (by kernel_rfl) ⟨prev_bel _ _, ⟨inferInstance, inferInstance, inferInstance⟩⟩ ?_ ?_
          rotate_left
          · rintro uu ⟨pu, r1, r2, r3⟩
            go_simp
            try (with_reducible rfl)
          try simp only [List.set]
          refine wpAnyH_ready (rs := [7, 15]) (by kernel_rfl) (by simp) ?_
          refine AllReadyH.cons rfl (fun K hK => ?_) (AllReadyH.cons rfl (fun K hK => ?_) AllReadyH.nil)
          · go_simp
            refine hK.out _ _ ⟨prev_bel w _, ⟨inferInstance, inferInstance, inferInstance⟩⟩ (fun hHeld => ?_)
            clear hHeld hK K
            try dsimp only [Act.put, List.setIfInBounds_toArray, List.set_cons_zero, List.set_cons_succ]
            refine wpAnyH_ready (rs := [15]) (by kernel_rfl) (by simp) ?_
            refine AllReadyH.cons rfl (fun K hK => ?_) AllReadyH.nil
            go_simp
            (with_reducible refine (aF_mul).mono ?_)
            rintro e v4 ⟨rfl, _⟩
            dsimp only
            refine hK.out _ _ ⟨prev_bel w _, ⟨inferInstance, inferInstance, inferInstance⟩⟩ (fun hHeld => ?_)
            clear hHeld hK K
            try dsimp only [Act.put, List.setIfInBounds_toArray, List.set_cons_zero, List.set_cons_succ]
            refine wpAnyH_ready (rs := [16]) (by kernel_rfl) (by simp) ?_
            refine AllReadyH.cons rfl (fun K hK => ?_) AllReadyH.nil
            go_simp
            (with_reducible refine (aF_add).mono ?_)
            rintro e v4 ⟨rfl, _⟩
            dsimp only
            refine hK.out _ _ ⟨prev_bel w _, ⟨inferInstance, inferInstance, inferInstance⟩⟩ (fun hHeld => ?_)
            clear hHeld hK K
            try dsimp only [Act.put, List.setIfInBounds_toArray, List.set_cons_zero, List.set_cons_succ]
            refine wpAnyH_on (i := 17) (d := 115) (v := ?_) rfl rfl (by kernel_rfl) (by kernel_rfl) (by kernel_rfl) (fun _ _ _ h => h) (by kernel_rfl) ⟨prev_bel _ _, ⟨inferInstance, inferInstance, inferInstance⟩⟩ ?_ ?_
            rotate_left
            · rintro uu ⟨pu, r1, r2, r3⟩
              go_simp
              try (with_reducible rfl)
            try simp only [List.set]
            refine wpAnyH_ready (rs := [18]) (by kernel_rfl) (by simp) ?_
            refine AllReadyH.cons rfl (fun K hK => ?_) AllReadyH.nil
            have hcg := ((jD).at (w' := v4)).cell HQ.out
            have hfg := ((jD).at (w' := v4)).frozen x3
            go_simp
            refine hK.out _ _ ⟨⟨(bel w v4).setCell (p := ⟨hc, x3, none⟩) hgw' _⟩, ⟨⟨(Bx.blk (w := v4)).far n2' _⟩, ⟨(Bx.blk (w := v4)).far n0' _⟩, ⟨(Bx.blk (w := v4)).far c0' _⟩⟩⟩ (fun hHeld => ?_)
            clear hHeld hK K hcg hfg
            try dsimp only [Act.put, List.setIfInBounds_toArray, List.set_cons_zero, List.set_cons_succ]
            refine wpAnyH_done (by kernel_rfl) ?_ _
            gi_wp2
            have o2 := (jD.at (w' := v4)).set_ x3 (fadd q (fmul y r))
            rw [HST2.out] at o2
            exact ⟨kf.trans (keepsFrom_set (keepsFrom_below (bel V3 v4)) _ _), hn3.trans ((HeldN.below (bel V3 v4)).trans (HeldN.set_ (p := ⟨hc, x3, none⟩) _ hgl')),
              (jC.at (w' := v4)).far (p := ⟨hc, x3, none⟩) hne _, o2, (jS.at (w' := v4)).far (p := ⟨hc, x3, none⟩) n4' _, (jT.at (w' := v4)).far (p := ⟨hc, x3, none⟩) n5' _, (lT.at (w' := v4)).far (p := ⟨hc, x3, none⟩) (Ne.symm n3') _,
              (lP.at (w' := v4)).far (p := ⟨hc, x3, none⟩) n1' _, (lQ.at (w' := v4)).far (p := ⟨hc, x3, none⟩) n2' _, (lW.at (w' := v4)).far (p := ⟨hc, x3, none⟩) c0' _, (lX.at (w' := v4)).far (p := ⟨hc, x3, none⟩) c1' _, (lG.at (w' := v4)).far (p := ⟨hc, x3, none⟩) c2' _, (lR.at (w' := v4)).far (p := ⟨hc, x3, none⟩) c3' _,
              (bel w v4).setCell (p := ⟨hc, x3, none⟩) hgw' _⟩
          · go_simp
            (with_reducible refine (aF_mul).mono ?_)
            rintro e v4 ⟨rfl, _⟩
            dsimp only
            refine hK.out _ _ ⟨prev_bel w _, ⟨inferInstance, inferInstance, inferInstance⟩⟩ (fun hHeld => ?_)
            clear hHeld hK K
            try dsimp only [Act.put, List.setIfInBounds_toArray, List.set_cons_zero, List.set_cons_succ]
            refine wpAnyH_ready (rs := [7]) (by kernel_rfl) (by simp) ?_
            refine AllReadyH.cons rfl (fun K hK => ?_) AllReadyH.nil
            go_simp
            refine hK.out _ _ ⟨prev_bel w _, ⟨inferInstance, inferInstance, inferInstance⟩⟩ (fun hHeld => ?_)
            clear hHeld hK K
            try dsimp only [Act.put, List.setIfInBounds_toArray, List.set_cons_zero, List.set_cons_succ]
            refine wpAnyH_ready (rs := [16]) (by kernel_rfl) (by simp) ?_
            refine AllReadyH.cons rfl (fun K hK => ?_) AllReadyH.nil
            go_simp
            (with_reducible refine (aF_add).mono ?_)
            rintro e v4 ⟨rfl, _⟩
            dsimp only
            refine hK.out _ _ ⟨prev_bel w _, ⟨inferInstance, inferInstance, inferInstance⟩⟩ (fun hHeld => ?_)
            clear hHeld hK K
            try dsimp only [Act.put, List.setIfInBounds_toArray, List.set_cons_zero, List.set_cons_succ]
            refine wpAnyH_on (i := 17) (d := 115) (v := ?_) rfl rfl (by kernel_rfl) (by kernel_rfl) (by kernel_rfl) (fun _ _ _ h => h) (by kernel_rfl) ⟨prev_bel _ _, ⟨inferInstance, inferInstance, inferInstance⟩⟩ ?_ ?_
            rotate_left
            · rintro uu ⟨pu, r1, r2, r3⟩
              go_simp
              try (with_reducible rfl)
            try simp only [List.set]
            refine wpAnyH_ready (rs := [18]) (by kernel_rfl) (by simp) ?_
            refine AllReadyH.cons rfl (fun K hK => ?_) AllReadyH.nil
            have hcg := ((jD).at (w' := v4)).cell HQ.out
            have hfg := ((jD).at (w' := v4)).frozen x3
            go_simp
            refine hK.out _ _ ⟨⟨(bel w v4).setCell (p := ⟨hc, x3, none⟩) hgw' _⟩, ⟨⟨(Bx.blk (w := v4)).far n2' _⟩, ⟨(Bx.blk (w := v4)).far n0' _⟩, ⟨(Bx.blk (w := v4)).far c0' _⟩⟩⟩ (fun hHeld => ?_)
            clear hHeld hK K hcg hfg
            try dsimp only [Act.put, List.setIfInBounds_toArray, List.set_cons_zero, List.set_cons_succ]
            refine wpAnyH_done (by kernel_rfl) ?_ _
            gi_wp2
            have o2 := (jD.at (w' := v4)).set_ x3 (fadd q (fmul y r))
            rw [HST2.out] at o2
            exact ⟨kf.trans (keepsFrom_set (keepsFrom_below (bel V3 v4)) _ _), hn3.trans ((HeldN.below (bel V3 v4)).trans (HeldN.set_ (p := ⟨hc, x3, none⟩) _ hgl')),
              (jC.at (w' := v4)).far (p := ⟨hc, x3, none⟩) hne _, o2, (jS.at (w' := v4)).far (p := ⟨hc, x3, none⟩) n4' _, (jT.at (w' := v4)).far (p := ⟨hc, x3, none⟩) n5' _, (lT.at (w' := v4)).far (p := ⟨hc, x3, none⟩) (Ne.symm n3') _,
              (lP.at (w' := v4)).far (p := ⟨hc, x3, none⟩) n1' _, (lQ.at (w' := v4)).far (p := ⟨hc, x3, none⟩) n2' _, (lW.at (w' := v4)).far (p := ⟨hc, x3, none⟩) c0' _, (lX.at (w' := v4)).far (p := ⟨hc, x3, none⟩) c1' _, (lG.at (w' := v4)).far (p := ⟨hc, x3, none⟩) c2' _, (lR.at (w' := v4)).far (p := ⟨hc, x3, none⟩) c3' _,
              (bel w v4).setCell (p := ⟨hc, x3, none⟩) hgw' _⟩
      case done =>
        rintro D xs W hD rfl ⟨iC, iD, iS, iT, kT', kP', kQ', kW', kX', kG', kR', bW⟩ hK
        have qT : Bx W t 49 #[.slice (some ⟨gs, 0, none⟩) zw.length zw.length, .slice (some ⟨gc, 0, none⟩) xw.length xw.length, .slice (some ⟨hs', 0, none⟩) zx.length zx.length, .slice (some ⟨hc, 0, none⟩) xx.length xx.length] := ⟨kT'⟩
        have qR : Bx W (w.heap.size + 1 + 1 + 1) 49 #[.slice none 0 0, .slice none 0 0, .slice none 0 0, .slice none 0 0] := ⟨kR'⟩
        have pW : Prev W w := ⟨bW⟩
        have l1 := iS.ne_blk kR' (by decide)
        have l2 := iC.ne_blk kR' (by decide)
        have l3 := iT.ne_blk kR' (by decide)
        have l4 := iD.ne_blk kR' (by decide)
        have k2' := Blk.set4 kR' (.slice (some ⟨gs, 0, none⟩) zw.length zw.length) (.slice (some ⟨gc, 0, none⟩) xw.length xw.length) (.slice (some ⟨hs', 0, none⟩) zx.length zx.length) (.slice (some ⟨hc, 0, none⟩) xx.length xx.length)
        have o1 := iS.far4 l1 (.slice (some ⟨gs, 0, none⟩) zw.length zw.length) (.slice (some ⟨gc, 0, none⟩) xw.length xw.length) (.slice (some ⟨hs', 0, none⟩) zx.length zx.length) (.slice (some ⟨hc, 0, none⟩) xx.length xx.length)
        have o2 := iC.far4 l2 (.slice (some ⟨gs, 0, none⟩) zw.length zw.length) (.slice (some ⟨gc, 0, none⟩) xw.length xw.length) (.slice (some ⟨hs', 0, none⟩) zx.length zx.length) (.slice (some ⟨hc, 0, none⟩) xx.length xx.length)
        have o3 := iT.far4 l3 (.slice (some ⟨gs, 0, none⟩) zw.length zw.length) (.slice (some ⟨gc, 0, none⟩) xw.length xw.length) (.slice (some ⟨hs', 0, none⟩) zx.length zx.length) (.slice (some ⟨hc, 0, none⟩) xx.length xx.length)
        have o4 := iD.far4 l4 (.slice (some ⟨gs, 0, none⟩) zw.length zw.length) (.slice (some ⟨gc, 0, none⟩) xw.length xw.length) (.slice (some ⟨hs', 0, none⟩) zx.length zx.length) (.slice (some ⟨hc, 0, none⟩) xx.length xx.length)
        have b3 := bset4 bW (p := w.heap.size + 1 + 1 + 1) (by omega) (.slice (some ⟨gs, 0, none⟩) zw.length zw.length) (.slice (some ⟨gc, 0, none⟩) xw.length xw.length) (.slice (some ⟨hs', 0, none⟩) zx.length zx.length) (.slice (some ⟨hc, 0, none⟩) xx.length xx.length)
        have hK2 := keep4 (p := w.heap.size + 1 + 1 + 1) (.slice (some ⟨gs, 0, none⟩) zw.length zw.length) (.slice (some ⟨gc, 0, none⟩) xw.length xw.length) (.slice (some ⟨hs', 0, none⟩) zx.length zx.length) (.slice (some ⟨hc, 0, none⟩) xx.length xx.length) hK rfl
        clear iC iD iS iT
        go_wp2_with fail
        refine ⟨by simp, .inl ⟨_, _, rfl, run_takeDeferred hK2, ?_⟩⟩
        have k4 := (Firm.blk (B := 0) (fun (_ : Unit) => w.heap.size + 1 + 1 + 1) 49 (fun _ => _)).turn () _ D _ (.deferred none) k2' (Nat.zero_le _) hK2 rfl
        have u1 := (Firm.own (B := 0) (fun (_ : Unit) => gs) 3 (fun _ => zw)).turn () _ D _ (.deferred none) o1 (Nat.zero_le _) hK2 rfl
        have u2 := (Firm.own (B := 0) (fun (_ : Unit) => gc) 56 (fun _ => bwFold xg xx xw.length f.all)).turn () _ D _ (.deferred none) o2 (Nat.zero_le _) hK2 rfl
        have u3 := (Firm.own (B := 0) (fun (_ : Unit) => hs') 3 (fun _ => zx)).turn () _ D _ (.deferred none) o3 (Nat.zero_le _) hK2 rfl
        have u4 := (Firm.own (B := 0) (fun (_ : Unit) => hc) 56 (fun _ => bxFold xg xw xx.length f.all)).turn () _ D _ (.deferred none) o4 (Nat.zero_le _) hK2 rfl
        have b4 := (Firm.below (β := Unit) (w := w) (Nat.le_refl _) b2.size).turn () _ D _ (.deferred none) b3 hD hK2 rfl
        have e0 := k4.cell 0
        have e1 := k4.cell 1
        have e2 := k4.cell 2
        have e3 := k4.cell 3
        generalize World.putObj _ D (.deferred none) = W3 at *
        refine ⟨.tuple #[.agg #[.slice (some ⟨gs, 0, none⟩) zw.length zw.length, .slice (some ⟨gc, 0, none⟩) xw.length xw.length, .slice (some ⟨hs', 0, none⟩) zx.length zx.length, .slice (some ⟨hc, 0, none⟩) xx.length xx.length], .int .i64 0], by simp [results, Try.results26, go_sem, e0, e1, e2, e3], ?_⟩
        exact ⟨_, _, _, _, _, _, _, _, by rw [hX.out, hY.out, bwFold_len, bxFold_len], ⟨u1.rd, rfl⟩, ⟨by rw [hX.out]; exact u2.rd, rfl⟩, ⟨u3.rd, rfl⟩, ⟨by rw [hY.out]; exact u4.rd, rfl⟩, ⟨b4⟩⟩
end

end Go.Proofs.Yteibgdcieaiaiaa
