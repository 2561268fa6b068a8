/- The walk of conv.Go. -/
import Derived.Test.YteibgdcieaiaiaaConvTouch
import Derived.Test.YteibgdcieaiaiaaTMake
import Derived.Test.YteibgdcieaiaiaaRound
import Derived.Test.YteibgdcieaiaiaaConvFold
import Derived.Shelf.Abstract
import Derived.StillTailTactics
import Derived.Deep.DeepCutAuto
namespace Go.Proofs.Yteibgdcieaiaiaa
open Go.RowKit Go.Shelf
attribute [local go_sem] Oper.semAt_some

/-- The error of tensors. -/
def goE7 (zw xw zx xx : List Int) (S : Int) : Int := if tRightB zw xw && tRightB zx xx then cvE zw zx S else 20
section
variable {w : World} {A B C D : Option Addr} {n m n' m' c d c' d' : Nat} {zw xw zx xx : List Int}
set_option maxRecDepth 100000 in
set_option maxHeartbeats 2000000 in
theorem cv_go_no [a : Sl w A n zw] [b : Sl w B m xw] [a' : Sl w C n' zx] [b' : Sl w D m' xx] [lx : Le n' c'] (hn : n ≤ 1000000) (hn' : n' ≤ 1000000) {S E : Int} (hE : Hid (goE7 zw xw zx xx S = E)) (h0 : (E != 0) = true) :
    Calls Try.prog 20 #[.agg #[.slice A n c, .slice B m d], .agg #[.slice C n' c', .slice D m' d'], .int .i64 S] w (RetTA w [] [] E) := by
  have CB := @cell_bx
  have CP := @cell_prev
  have FB := @frozen_bx
  rcases h1 : tRightB zw xw with _ | _
  · obtain rfl : E = 20 := by rw [← hE.out, goE7, h1]; rfl
    go_enter Try.func20, Try.ntmps20
    go_wp2_with (first | (go_at_call 50; (try first | (with_reducible refine gen_boxK3 (fun u _ _ _ _ => ?_)) | (with_reducible refine gen_boxK2 (fun u _ _ _ => ?_)) | (with_reducible refine gen_boxK (fun u _ _ => ?_))); (with_reducible refine (aT_right (by omega)).mono ?_); rintro e u ⟨rfl, _⟩))
    have kR : Bx u (w.heap.size + 1 + 1) 34 #[.slice none 0 0, .slice none 0 0] := inferInstance
    have k3 := kR.blk.set2 (.slice none 0 0) (.slice none 0 0)
    have B3 := bset2 (bel w u) (p := w.heap.size + 1 + 1) (by omega) (.slice none 0 0) (.slice none 0 0)
    obtain ⟨r0, r1⟩ := box2 k3
    refine bodyPost_ret (v := .tuple #[.agg #[.slice none 0 0, .slice none 0 0], .int .i64 20]) (by simp [results, Try.results20, go_sem, r0, r1]) rfl ?_
    exact ⟨none, 0, none, 0, rfl, Sl.empty, Sl.empty, ⟨Nat.le_refl _⟩, ⟨Nat.le_refl _⟩, Fre.none, Fre.none, ⟨B3⟩⟩
  rcases h2 : tRightB zx xx with _ | _
  · obtain rfl : E = 20 := by rw [← hE.out, goE7, h1, h2]; rfl
    go_enter Try.func20, Try.ntmps20
    go_wp2_with (first | (go_at_call 50; (try first | (with_reducible refine gen_boxK3 (fun u _ _ _ _ => ?_)) | (with_reducible refine gen_boxK2 (fun u _ _ _ => ?_)) | (with_reducible refine gen_boxK (fun u _ _ => ?_))); (with_reducible refine (aT_right (by omega)).mono ?_); rintro e u ⟨rfl, _⟩))
    have kR : Bx u (w.heap.size + 1 + 1) 34 #[.slice none 0 0, .slice none 0 0] := inferInstance
    have k3 := kR.blk.set2 (.slice none 0 0) (.slice none 0 0)
    have B3 := bset2 (bel w u) (p := w.heap.size + 1 + 1) (by omega) (.slice none 0 0) (.slice none 0 0)
    obtain ⟨r0, r1⟩ := box2 k3
    refine bodyPost_ret (v := .tuple #[.agg #[.slice none 0 0, .slice none 0 0], .int .i64 20]) (by simp [results, Try.results20, go_sem, r0, r1]) rfl ?_
    exact ⟨none, 0, none, 0, rfl, Sl.empty, Sl.empty, ⟨Nat.le_refl _⟩, ⟨Nat.le_refl _⟩, Fre.none, Fre.none, ⟨B3⟩⟩
  have HE : Hid (cvE zw zx S = E) := Lib.hid (by rw [← hE.out, goE7, h1, h2]; rfl)
  have hV : Hid (cvV zw zx S = []) := Lib.hid (by rw [cvV, HE.out, if_neg (by simpa using h0)])
  go_enter Try.func20, Try.ntmps20
  go_wp2_with (first | (go_at_call 50; (try first | (with_reducible refine gen_boxK3 (fun u _ _ _ _ => ?_)) | (with_reducible refine gen_boxK2 (fun u _ _ _ => ?_)) | (with_reducible refine gen_boxK (fun u _ _ => ?_))); (with_reducible refine (aT_right (by omega)).mono ?_); rintro e u ⟨rfl, _⟩) | (go_at_call 16; (try first | (with_reducible refine gen_boxK3 (fun u _ _ _ _ => ?_)) | (with_reducible refine gen_boxK2 (fun u _ _ _ => ?_)) | (with_reducible refine gen_boxK (fun u _ _ => ?_))); (with_reducible refine (cv_shape (by omega) (by omega) HE hV).mono ?_); rintro e u ⟨A', c', rfl, sJ, lJ, fJ, _⟩))
  have kR : Bx u (w.heap.size + 1 + 1) 34 #[.slice none 0 0, .slice none 0 0] := inferInstance
  have k3 := kR.blk.set2 (.slice none 0 0) (.slice none 0 0)
  have B3 := bset2 (bel w u) (p := w.heap.size + 1 + 1) (by omega) (.slice none 0 0) (.slice none 0 0)
  obtain ⟨r0, r1⟩ := box2 k3
  refine bodyPost_ret (v := .tuple #[.agg #[.slice none 0 0, .slice none 0 0], .int .i64 E]) (by simp [results, Try.results20, go_sem, r0, r1]) rfl ?_
  exact ⟨none, 0, none, 0, rfl, Sl.empty, Sl.empty, ⟨Nat.le_refl _⟩, ⟨Nat.le_refl _⟩, Fre.none, Fre.none, ⟨B3⟩⟩
/-- What the loop keeps. -/
def GoI (w : World) (g g' bo : Nat) (zw xw zx xx V : List Int) (A B C D : Option Addr) (c d c' d' N : Nat) (pre : List Tri) (W : World) : Prop :=
  Own W g' 56 (goFold xw xx N pre) ∧ Own W g 3 V ∧ Blk W bo 34 #[.slice (some ⟨g, 0, none⟩) V.length V.length, .slice (some ⟨g', 0, none⟩) N N] ∧
    Blk W w.heap.size 34 #[.slice A zw.length c, .slice B xw.length d] ∧ Blk W (w.heap.size + 1) 34 #[.slice C zx.length c', .slice D xx.length d'] ∧ Blk W (w.heap.size + 1 + 1) 34 #[.slice none 0 0, .slice none 0 0] ∧ Below w.heap.size w W
set_option maxRecDepth 100000 in
set_option maxHeartbeats 8000000 in
theorem cv_go_yes {cx : Nat} [a : Sl w A n zw] [b : Sl w B m xw] [a' : Sl w C n' zx] [b' : Sl w D m' xx] [i6 : I6s xw] [i6' : I6s xx] [lc : Le n c] [lx : Le n' cx] (hn : n ≤ 1000000) (hn' : n' ≤ 1000000) {S : Int} {V X : List Int} {f : CF}
    (h1 : tRightB zw xw = true) (h2 : tRightB zx xx = true) (hE : Hid (cvE zw zx S = 0)) (hV : Hid (cvV zw zx S = V)) (hf : Hid (CFof f zw zx V S)) (hX : Hid (X = goFold xw xx (f.O * (f.M * f.N)) f.all)) :
    Calls Try.prog 20 #[.agg #[.slice A n c, .slice B m d], .agg #[.slice C n' cx, .slice D m' d'], .int .i64 S] w (RetTA w V X 0) := by
  have CB := @cell_bx
  have CP := @cell_prev
  have FB := @frozen_bx
  have hVr := hf.out.vr
  obtain ⟨N, hN⟩ : ∃ N, f.O * (f.M * f.N) = N := ⟨_, rfl⟩
  have hVS : Hid (prodL V = (N : Int)) := Lib.hid (by rw [hf.out.v, hN])
  have hN6 : N ≤ 65536 := by rw [← hN]; exact hf.out.ok.oy
  have hV4 : V.length ≤ 1000000 := by have := ((rightB_iff V).1 hVr).2.1; omega
  have HOK : Hid (CFok f) := Lib.hid hf.out.ok
  have hwl : xw.length = f.O * (f.C * (f.K * f.L)) := by have h := ((tRightB_iff _ _).1 h1).2; rw [hf.out.w] at h; omega
  have hxl : xx.length = f.C * (f.H * f.W) := by have h := ((tRightB_iff _ _).1 h2).2; rw [hf.out.x] at h; omega
  have HB : Hid (∀ x ∈ f.all, x.1 < N ∧ x.2.1 < xw.length ∧ x.2.2 < xx.length) := Lib.hid fun x hx => by rw [← hN, hwl, hxl]; exact all_lt hf.out.ok hx
  have hw6 : xw.length ≤ 65536 := by rw [hwl]; exact hf.out.ok.ow
  have hx6 : xx.length ≤ 65536 := by rw [hxl]; exact hf.out.ok.ox
  rw [hN] at hX
  obtain ⟨a, rfl⟩ := a
  have a : Sl w A zw.length zw := ⟨a, rfl⟩
  obtain ⟨b, rfl⟩ := b
  have b : Sl w B xw.length xw := ⟨b, rfl⟩
  obtain ⟨a', rfl⟩ := a'
  have a' : Sl w C zx.length zx := ⟨a', rfl⟩
  obtain ⟨b', rfl⟩ := b'
  have b' : Sl w D xx.length xx := ⟨b', rfl⟩
  have hw0 : 0 < xw.length := by have := (right_len h1).2.1; omega
  have hx0 : 0 < xx.length := by have := (right_len h2).2.1; omega
  obtain ⟨bb, ob, _, rfl, obb, -, -⟩ := b.get (k := 0) hw0
  obtain ⟨bd, od, _, rfl, obd, -, -⟩ := b'.get (k := 0) hx0
  clear hN hwl hxl
  refine (callsIn_wide (n := 3)).1 ?_
  refine callsIn_of_wp_marks Try.func20 rfl trivial ?_
  simp only [Try.ntmps20, List.size_toArray, List.length_cons, List.length_nil, Nat.reduceAdd, Nat.reduceSub, Array.replicate_succ, Array.replicate_zero, List.push_toArray, List.append_toArray, List.nil_append, List.cons_append]
  gi_wp2_with (first | (refine ⟨trivial, ?_⟩; gi_at_call 50; (with_reducible refine (callsIn_wide.2 (aT_right (by omega))).mono ?_); rintro e u ⟨rfl, _⟩) | (refine ⟨trivial, ?_⟩; gi_at_call 16; (with_reducible refine (callsIn_wide.2 (cv_shape (by omega) (by omega) hE hV)).mono ?_); rintro e u ⟨A', c', rfl, sJ, lJ, fJ, _⟩))
  obtain ⟨ua, rfl⟩ : ∃ ua : World, ua = u := ⟨_, rfl⟩
  gi_wp2_with (first | (refine ⟨trivial, ?_⟩; gi_at_call 30; (with_reducible refine (callsIn_wide.2 (aT_makeO (by omega) hVr hVS)).mono ?_); rintro e u ⟨g, g', rfl, hg, hg', oS, oX, pw1⟩))
  obtain ⟨w1, rfl⟩ : ∃ w1 : World, w1 = u := ⟨_, rfl⟩
  gi_wp2_with (first | (refine ⟨trivial, ?_⟩; gi_at_call 51; (with_reducible refine (callsIn_wide.2 (cv_touch_yes (by omega) (by omega) hE hV hf)).mono ?_); rintro e u ⟨rfl, _⟩))
  obtain ⟨w2, rfl⟩ : ∃ w2 : World, w2 = u := ⟨_, rfl⟩
  have hgw : w.heap.size ≤ g := Nat.le_trans (later_size (w := w) (w' := ua)) hg
  have hgw' : w.heap.size ≤ g' := Nat.le_trans (later_size (w := w) (w' := ua)) hg'
  have kO : Bx w2 w1.heap.size 34 #[.slice (some ⟨g, 0, none⟩) V.length V.length, .slice (some ⟨g', 0, none⟩) N N] := inferInstance
  have kW : Bx w2 w.heap.size 34 #[.slice A zw.length c, .slice (some ⟨bb, ob, none⟩) xw.length d] := inferInstance
  have kX : Bx w2 (w.heap.size + 1) 34 #[.slice C zx.length cx, .slice (some ⟨bd, od, none⟩) xx.length d'] := inferInstance
  have kR : Bx w2 (w.heap.size + 1 + 1) 34 #[.slice none 0 0, .slice none 0 0] := inferInstance
  have b2 := bel w w2
  have I0 : GoI w g g' w1.heap.size zw xw zx xx V A (some ⟨bb, ob, none⟩) C (some ⟨bd, od, none⟩) c d cx d' N [] w2 := ⟨oX.at, oS.at, kO.blk, kW.blk, kX.blk, kR.blk, b2⟩
  refine wp_toldN (gf := 71) (fb := #[frV f]) (lb := #[]) (α := Tri) rfl (enters_of Try.func71 (by kernel_rfl) rfl) (each_told f HOK w2) (Below.refl _ _) (fun _ => rfl) (GoI w g g' w1.heap.size zw xw zx xx V A (some ⟨bb, ob, none⟩) C (some ⟨bd, od, none⟩) c d cx d' N) (fun _ _ _ => False)
    ?firm (fun _ => Firm.none_) I0 ?acts (fun x W => W.alloc (.cells #[.int .i64 x.1, .int .i64 x.2.1, .int .i64 x.2.2] 83)) (fun x n W => Blk W n 83 #[.int .i64 x.1, .int .i64 x.2.1, .int .i64 x.2.2]) (fun _ _ => below_alloc _ _) (fun _ _ => Blk.new _ _ _)
    (fun x n W l o o' h ho hc => (Firm.blk (B := 0) (fun (_ : Unit) => n) 83 (fun _ => _)).turn () W l o o' h (Nat.zero_le _) ho hc) ?assign ?body ?done (fun _ _ _ _ _ _ h => h.elim)
  case firm => exact (Firm.own (fun _ => g') _ (goFold xw xx N)).and ((Firm.own (fun _ => g) _ (fun _ => V)).and ((Firm.blk (fun _ => w1.heap.size) _ (fun _ => _)).and ((Firm.blk (fun _ => w.heap.size) _ (fun _ => _)).and ((Firm.blk (fun _ => w.heap.size + 1) _ (fun _ => _)).and ((Firm.blk (fun _ => w.heap.size + 1 + 1) _ (fun _ => _)).and (Firm.below (Nat.le_refl _) b2.size))))))
  case assign =>
    intro l x W K hK
    simp only [triEnc]
    gi_wp2
    exact hK
  case body =>
    rintro l pre ⟨x1, x2, x3⟩ W0 W ⟨iO, iS, kO', kW', kX', kR', bW⟩ ⟨post, hT⟩ hs1 hs2 hA
    dsimp only at hA ⊢
    obtain ⟨hx1, hx2, hx3⟩ := HB.out (x1, x2, x3) (by rw [hT]; simp)
    simp only at hx1 hx2 hx3
    have pW : Prev W w := ⟨bW⟩
    have qO : Bx W w1.heap.size 34 #[.slice (some ⟨g, 0, none⟩) V.length V.length, .slice (some ⟨g', 0, none⟩) N N] := ⟨kO'⟩
    have qW : Bx W w.heap.size 34 #[.slice A zw.length c, .slice (some ⟨bb, ob, none⟩) xw.length d] := ⟨kW'⟩
    have qX : Bx W (w.heap.size + 1) 34 #[.slice C zx.length cx, .slice (some ⟨bd, od, none⟩) xx.length d'] := ⟨kX'⟩
    have qA : Bx W W0.heap.size 83 #[.int .i64 (x1 : Int), .int .i64 (x2 : Int), .int .i64 (x3 : Int)] := ⟨hA⟩
    obtain ⟨y, hy⟩ : ∃ y, xw[x2]? = some y := ⟨_, List.getElem?_eq_getElem hx2⟩
    obtain ⟨z, hz⟩ : ∃ z, xx[x3]? = some z := ⟨_, List.getElem?_eq_getElem hx3⟩
    obtain ⟨o, ho⟩ : ∃ o, (goFold xw xx N pre)[x1]? = some o := ⟨_, List.getElem?_eq_getElem (by rw [goFold_len]; exact hx1)⟩
    have cy := b.rd.all hy
    have cz := b'.rd.all hz
    have iy : I6 y := I6s.at hy
    have iz : I6 z := I6s.at hz
    have io : I6 o := ⟨goFold_bd o (List.mem_of_getElem? ho)⟩
    have hco := iO.cell ho
    have og : Old g' W := ⟨iO.lt⟩
    have HST : Hid ((goFold xw xx N pre).set x1 (fadd o (fmul y z)) = goFold xw xx N (pre ++ [(x1, x2, x3)])) := Lib.hid (by
      rw [goFold_snoc, goStep]
      simp only
      rw [List.getD_eq_getElem?_getD, ho, List.getD_eq_getElem?_getD, hy, List.getD_eq_getElem?_getD, hz]
      rfl)
    have hgl : g' < w2.heap.size + 2 := by have := oX.lt; have := later_size (w := w1) (w' := w2); omega
    have n0 : W0.heap.size ≠ g' := by omega
    have n1 : w1.heap.size ≠ g' := by have := oX.lt; omega
    have HO := Lib.hid ho
    clear hy hz
    gi_wp2
    refine wpIn_region_up0 (by kernel_rfl) (by kernel_rfl) (by rintro ⟨_, _, h⟩; exact h) (fun v1 _ => ?_)
    refine wpAnyH_on (i := 0) (d := 51) (v := ?_) rfl rfl (by kernel_rfl) (by kernel_rfl) (by kernel_rfl) (fun _ _ _ h => h) (by kernel_rfl) (prev_bel _ _) ?_ ?_
    rotate_left
    · intro uu (pu : Prev uu _)
      go_simp
      try (with_reducible rfl)
    try simp only [List.set]
    refine wpAnyH_on (i := 1) (d := 52) (v := ?_) rfl rfl (by kernel_rfl) (by kernel_rfl) (by kernel_rfl) (fun _ _ _ h => h) (by kernel_rfl) (prev_bel _ _) ?_ ?_
    rotate_left
    · intro uu (pu : Prev uu _)
      go_simp
      try (with_reducible rfl)
    try simp only [List.set]
    refine wpAnyH_on (i := 2) (d := 53) (v := ?_) rfl rfl (by kernel_rfl) (by kernel_rfl) (by kernel_rfl) (fun _ _ _ h => h) (by kernel_rfl) (prev_bel _ _) ?_ ?_
    rotate_left
    · intro uu (pu : Prev uu _)
      go_simp
      try (with_reducible rfl)
    try simp only [List.set]
    refine wpAnyH_on (i := 3) (d := 54) (v := ?_) rfl rfl (by kernel_rfl) (by kernel_rfl) (by kernel_rfl) (fun _ _ _ h => h) (by kernel_rfl) (prev_bel _ _) ?_ ?_
    rotate_left
    · intro uu (pu : Prev uu _)
      go_simp
      try (with_reducible rfl)
    try simp only [List.set]
    refine wpAnyH_on (i := 4) (d := 55) (v := ?_) rfl rfl (by kernel_rfl) (by kernel_rfl) (by kernel_rfl) (fun _ _ _ h => h) (by kernel_rfl) (prev_bel _ _) ?_ ?_
    rotate_left
    · intro uu (pu : Prev uu _)
      go_simp
      try (with_reducible rfl)
    try simp only [List.set]
    refine wpAnyH_on (i := 5) (d := 56) (v := ?_) rfl rfl (by kernel_rfl) (by kernel_rfl) (by kernel_rfl) (fun _ _ _ h => h) (by kernel_rfl) (prev_bel _ _) ?_ ?_
    rotate_left
    · intro uu (pu : Prev uu _)
      go_simp
      try (with_reducible rfl)
    try simp only [List.set]
    refine wpAnyH_on (i := 6) (d := 57) (v := ?_) rfl rfl (by kernel_rfl) (by kernel_rfl) (by kernel_rfl) (fun _ _ _ h => h) (by kernel_rfl) (prev_bel _ _) ?_ ?_
    rotate_left
    · intro uu (pu : Prev uu _)
      go_simp
      try (with_reducible rfl)
    try simp only [List.set]
    refine wpAnyH_on (i := 7) (d := 58) (v := ?_) rfl rfl (by kernel_rfl) (by kernel_rfl) (by kernel_rfl) (fun _ _ _ h => h) (by kernel_rfl) (prev_bel _ _) ?_ ?_
    rotate_left
    · intro uu (pu : Prev uu _)
      go_simp
      try (with_reducible rfl)
    try simp only [List.set]
    refine wpAnyH_on (i := 8) (d := 59) (v := ?_) rfl rfl (by kernel_rfl) (by kernel_rfl) (by kernel_rfl) (fun _ _ _ h => h) (by kernel_rfl) (prev_bel _ _) ?_ ?_
    rotate_left
    · intro uu (pu : Prev uu _)
      go_simp
      try (with_reducible rfl)
    try simp only [List.set]
    refine wpAnyH_on (i := 9) (d := 60) (v := ?_) rfl rfl (by kernel_rfl) (by kernel_rfl) (by kernel_rfl) (fun _ _ _ h => h) (by kernel_rfl) (prev_bel _ _) ?_ ?_
    rotate_left
    · intro uu (pu : Prev uu _)
      go_simp
      try (with_reducible rfl)
    try simp only [List.set]
    refine wpAnyH_on (i := 10) (d := 61) (v := ?_) rfl rfl (by kernel_rfl) (by kernel_rfl) (by kernel_rfl) (fun _ _ _ h => h) (by kernel_rfl) (prev_bel _ _) ?_ ?_
    rotate_left
    · intro uu (pu : Prev uu _)
      go_simp
      try (with_reducible rfl)
    try simp only [List.set]
    refine wpAnyH_on (i := 11) (d := 62) (v := ?_) rfl rfl (by kernel_rfl) (by kernel_rfl) (by kernel_rfl) (fun _ _ _ h => h) (by kernel_rfl) (prev_bel _ _) ?_ ?_
    rotate_left
    · intro uu (pu : Prev uu _)
      go_simp
      try (with_reducible rfl)
    try simp only [List.set]
    refine wpAnyH_ready (rs := [12]) (by kernel_rfl) (by simp) ?_
    refine AllReadyH.cons rfl (fun K hK => ?_) AllReadyH.nil
    go_simp
    (with_reducible refine (aF_mul).mono ?_)
    rintro e v1 ⟨rfl, _⟩
    dsimp only
    refine hK.out _ _ (prev_bel _ _) (fun hHeld => ?_)
    clear hHeld hK K
    try dsimp only [Act.put, List.setIfInBounds_toArray, List.set_cons_zero, List.set_cons_succ]
    refine wpAnyH_on (i := 13) (d := 12) (v := ?_) rfl rfl (by kernel_rfl) (by kernel_rfl) (by kernel_rfl) (fun _ _ _ h => h) (by kernel_rfl) (prev_bel _ _) ?_ ?_
    rotate_left
    · intro uu (pu : Prev uu _)
      go_simp
      try (with_reducible rfl)
    try simp only [List.set]
    refine wpAnyH_done (by kernel_rfl) ?_ _
    gi_wp2
    refine wpIn_region_upR w (fun w9 => Bx w9 w1.heap.size 34 #[.slice (some ⟨g, 0, none⟩) V.length V.length, .slice (some ⟨g', 0, none⟩) N N] ∧ Bx w9 W0.heap.size 83 #[.int .i64 (x1 : Int), .int .i64 (x2 : Int), .int .i64 (x3 : Int)]) (by kernel_rfl) (by kernel_rfl) (by rintro ⟨_, _, h⟩; exact h) (fun v2 _ => ?_)
    refine wpAnyH_on (i := 0) (d := 64) (v := ?_) rfl rfl (by kernel_rfl) (by kernel_rfl) (by kernel_rfl) (fun _ _ _ h => h) (by kernel_rfl) ⟨prev_bel _ _, ⟨inferInstance, inferInstance⟩⟩ ?_ ?_
    rotate_left
    · rintro uu ⟨pu, r1, r2⟩
      go_simp
      try (with_reducible rfl)
    try simp only [List.set]
    refine wpAnyH_on (i := 1) (d := 65) (v := ?_) rfl rfl (by kernel_rfl) (by kernel_rfl) (by kernel_rfl) (fun _ _ _ h => h) (by kernel_rfl) ⟨prev_bel _ _, ⟨inferInstance, inferInstance⟩⟩ ?_ ?_
    rotate_left
    · rintro uu ⟨pu, r1, r2⟩
      go_simp
      try (with_reducible rfl)
    try simp only [List.set]
    refine wpAnyH_on (i := 2) (d := 66) (v := ?_) rfl rfl (by kernel_rfl) (by kernel_rfl) (by kernel_rfl) (fun _ _ _ h => h) (by kernel_rfl) ⟨prev_bel _ _, ⟨inferInstance, inferInstance⟩⟩ ?_ ?_
    rotate_left
    · rintro uu ⟨pu, r1, r2⟩
      go_simp
      try (with_reducible rfl)
    try simp only [List.set]
    refine wpAnyH_on (i := 3) (d := 67) (v := ?_) rfl rfl (by kernel_rfl) (by kernel_rfl) (by kernel_rfl) (fun _ _ _ h => h) (by kernel_rfl) ⟨prev_bel _ _, ⟨inferInstance, inferInstance⟩⟩ ?_ ?_
    rotate_left
    · rintro uu ⟨pu, r1, r2⟩
      go_simp
      try (with_reducible rfl)
    try simp only [List.set]
    refine wpAnyH_on (i := 4) (d := 68) (v := ?_) rfl rfl (by kernel_rfl) (by kernel_rfl) (by kernel_rfl) (fun _ _ _ h => h) (by kernel_rfl) ⟨prev_bel _ _, ⟨inferInstance, inferInstance⟩⟩ ?_ ?_
    rotate_left
    · rintro uu ⟨pu, r1, r2⟩
      go_simp
      try (with_reducible rfl)
    try simp only [List.set]
    refine wpAnyH_on (i := 5) (d := 69) (v := ?_) rfl rfl (by kernel_rfl) (by kernel_rfl) (by kernel_rfl) (fun _ _ _ h => h) (by kernel_rfl) ⟨prev_bel _ _, ⟨inferInstance, inferInstance⟩⟩ ?_ ?_
    rotate_left
    · rintro uu ⟨pu, r1, r2⟩
      go_simp
      try (with_reducible rfl)
    try simp only [List.set]
    refine wpAnyH_on (i := 6) (d := 70) (v := ?_) rfl rfl (by kernel_rfl) (by kernel_rfl) (by kernel_rfl) (fun _ _ _ h => h) (by kernel_rfl) ⟨prev_bel _ _, ⟨inferInstance, inferInstance⟩⟩ ?_ ?_
    rotate_left
    · rintro uu ⟨pu, r1, r2⟩
      go_simp
      try (with_reducible rfl)
    try simp only [List.set]
    refine wpAnyH_on (i := 7) (d := 71) (v := ?_) rfl rfl (by kernel_rfl) (by kernel_rfl) (by kernel_rfl) (fun _ _ _ h => h) (by kernel_rfl) ⟨prev_bel _ _, ⟨inferInstance, inferInstance⟩⟩ ?_ ?_
    rotate_left
    · rintro uu ⟨pu, r1, r2⟩
      go_simp
      try (with_reducible rfl)
    try simp only [List.set]
    refine wpAnyH_on (i := 8) (d := 72) (v := ?_) rfl rfl (by kernel_rfl) (by kernel_rfl) (by kernel_rfl) (fun _ _ _ h => h) (by kernel_rfl) ⟨prev_bel _ _, ⟨inferInstance, inferInstance⟩⟩ ?_ ?_
    rotate_left
    · rintro uu ⟨pu, r1, r2⟩
      go_simp
      try (with_reducible rfl)
    try simp only [List.set]
    refine wpAnyH_on (i := 10) (d := 74) (v := ?_) rfl rfl (by kernel_rfl) (by kernel_rfl) (by kernel_rfl) (fun _ _ _ h => h) (by kernel_rfl) ⟨prev_bel _ _, ⟨inferInstance, inferInstance⟩⟩ ?_ ?_
    rotate_left
    · rintro uu ⟨pu, r1, r2⟩
      go_simp
      try (with_reducible rfl)
    try simp only [List.set]
    refine wpAnyH_ready (rs := [9]) (by kernel_rfl) (by simp) ?_
    refine AllReadyH.cons rfl (fun K hK => ?_) AllReadyH.nil
    go_simp
    refine hK.out _ _ ⟨prev_bel w _, ⟨inferInstance, inferInstance⟩⟩ (fun hHeld => ?_)
    clear hHeld hK K
    try dsimp only [Act.put, List.setIfInBounds_toArray, List.set_cons_zero, List.set_cons_succ]
    refine wpAnyH_ready (rs := [11]) (by kernel_rfl) (by simp) ?_
    refine AllReadyH.cons rfl (fun K hK => ?_) AllReadyH.nil
    go_simp
    (with_reducible refine (aF_add).mono ?_)
    rintro e v2 ⟨rfl, _⟩
    dsimp only
    refine hK.out _ _ ⟨prev_bel w _, ⟨inferInstance, inferInstance⟩⟩ (fun hHeld => ?_)
    clear hHeld hK K
    try dsimp only [Act.put, List.setIfInBounds_toArray, List.set_cons_zero, List.set_cons_succ]
    refine wpAnyH_on (i := 12) (d := 76) (v := ?_) rfl rfl (by kernel_rfl) (by kernel_rfl) (by kernel_rfl) (fun _ _ _ h => h) (by kernel_rfl) ⟨prev_bel _ _, ⟨inferInstance, inferInstance⟩⟩ ?_ ?_
    rotate_left
    · rintro uu ⟨pu, r1, r2⟩
      go_simp
      try (with_reducible rfl)
    try simp only [List.set]
    refine wpAnyH_ready (rs := [13]) (by kernel_rfl) (by simp) ?_
    refine AllReadyH.cons rfl (fun K hK => ?_) AllReadyH.nil
    have hcg := ((iO).at (w' := v2)).cell HO.out
    have hfg := ((iO).at (w' := v2)).frozen x1
    go_simp
    refine hK.out _ _ ⟨⟨(bel w v2).setCell (p := ⟨g', x1, none⟩) hgw' _⟩, ⟨⟨(Bx.blk (w := v2)).far n1 _⟩, ⟨(Bx.blk (w := v2)).far n0 _⟩⟩⟩ (fun hHeld => ?_)
    clear hHeld hK K hcg hfg
    try dsimp only [Act.put, List.setIfInBounds_toArray, List.set_cons_zero, List.set_cons_succ]
    refine wpAnyH_done (by kernel_rfl) ?_ _
    gi_wp2
    have o2 := (iO.at (w' := v2)).set_ x1 (fadd o (fmul y z))
    rw [HST.out] at o2
    have ne1 : g ≠ g' := iS.ne_blk (cs := ints (goFold xw xx N pre)) iO (by decide)
    have n2 := iO.ne_blk kW' (by decide)
    have n3 := iO.ne_blk kX' (by decide)
    have n4 := iO.ne_blk kR' (by decide)
    exact ⟨keepsFrom_set (keepsFrom_below (bel W v2)) _ _, (HeldN.below (bel W v2)).trans (HeldN.set_ (p := ⟨g', x1, none⟩) _ hgl),
      o2, (iS.at (w' := v2)).far (p := ⟨g', x1, none⟩) ne1 _, (kO'.at (w' := v2)).far (p := ⟨g', x1, none⟩) n1 _, (kW'.at (w' := v2)).far (p := ⟨g', x1, none⟩) (Ne.symm n2) _, (kX'.at (w' := v2)).far (p := ⟨g', x1, none⟩) (Ne.symm n3) _,
      (kR'.at (w' := v2)).far (p := ⟨g', x1, none⟩) (Ne.symm n4) _, (bel w v2).setCell (p := ⟨g', x1, none⟩) hgw' _⟩
  case done =>
    rintro D xs W hD rfl ⟨iO, iS, kO', kW', kX', kR', bW⟩ hK
    have qO : Bx W w1.heap.size 34 #[.slice (some ⟨g, 0, none⟩) V.length V.length, .slice (some ⟨g', 0, none⟩) N N] := ⟨kO'⟩
    have qR : Bx W (w.heap.size + 1 + 1) 34 #[.slice none 0 0, .slice none 0 0] := ⟨kR'⟩
    have pW : Prev W w := ⟨bW⟩
    have HO := Lib.hid iO
    clear iO
    gi_wp2
    have hK2 := (KeepsOthers.setCell (W.setCell ⟨w.heap.size + 1 + 1, 0, none⟩ (.slice (some ⟨g, 0, none⟩) V.length V.length)) ⟨w.heap.size + 1 + 1, 1, none⟩ (.slice (some ⟨g', 0, none⟩) N N)).same D _ ((KeepsOthers.setCell W ⟨w.heap.size + 1 + 1, 0, none⟩ (.slice (some ⟨g, 0, none⟩) V.length V.length)).same D _ hK rfl) rfl
    refine ⟨by simp, .inl ⟨_, _, rfl, run_takeDeferred hK2, ?_⟩⟩
    have l1 := iS.ne_blk kR' (by decide)
    have l2 := HO.out.ne_blk kR' (by decide)
    have k2 := Blk.set2 kR' (.slice (some ⟨g, 0, none⟩) V.length V.length) (.slice (some ⟨g', 0, none⟩) N N)
    have o2 := iS.far2 l1 (.slice (some ⟨g, 0, none⟩) V.length V.length) (.slice (some ⟨g', 0, none⟩) N N)
    have o3 := HO.out.far2 l2 (.slice (some ⟨g, 0, none⟩) V.length V.length) (.slice (some ⟨g', 0, none⟩) N N)
    have b3 := bset2 bW (p := w.heap.size + 1 + 1) (by omega) (.slice (some ⟨g, 0, none⟩) V.length V.length) (.slice (some ⟨g', 0, none⟩) N N)
    have k4 := (Firm.blk (B := 0) (fun (_ : Unit) => w.heap.size + 1 + 1) 34 (fun _ => _)).turn () _ D _ (.deferred none) k2 (Nat.zero_le _) hK2 rfl
    have o4 := (Firm.own (B := 0) (fun (_ : Unit) => g) 3 (fun _ => V)).turn () _ D _ (.deferred none) o2 (Nat.zero_le _) hK2 rfl
    have o5 := (Firm.own (B := 0) (fun (_ : Unit) => g') 56 (fun _ => goFold xw xx N f.all)).turn () _ D _ (.deferred none) o3 (Nat.zero_le _) hK2 rfl
    have b4 := (Firm.below (β := Unit) (w := w) (Nat.le_refl _) b2.size).turn () _ D _ (.deferred none) b3 hD hK2 rfl
    have c0 := k4.cell 0
    have c1 := k4.cell 1
    generalize ((W.setCell ⟨w.heap.size + 1 + 1, 0, none⟩ (.slice (some ⟨g, 0, none⟩) V.length V.length)).setCell ⟨w.heap.size + 1 + 1, 1, none⟩ (.slice (some ⟨g', 0, none⟩) N N)).putObj D (.deferred none) = W3 at *
    refine ⟨.tuple #[.agg #[.slice (some ⟨g, 0, none⟩) V.length V.length, .slice (some ⟨g', 0, none⟩) N N], .int .i64 0], by simp [results, Try.results20, go_sem, c0, c1], ?_⟩
    exact ⟨_, _, _, _, by rw [hX.out, goFold_len], ⟨o4.rd, rfl⟩, ⟨by rw [hX.out]; exact o5.rd, rfl⟩, ⟨Nat.le_refl _⟩, ⟨by rw [hX.out, goFold_len]; exact Nat.le_refl _⟩, ⟨fun ad e => by injection e with e; subst e; exact hgw⟩, ⟨fun ad e => by injection e with e; subst e; exact hgw'⟩, ⟨b4⟩⟩
end

end Go.Proofs.Yteibgdcieaiaiaa
