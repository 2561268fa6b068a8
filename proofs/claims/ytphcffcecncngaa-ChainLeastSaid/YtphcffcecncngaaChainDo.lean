/- The walk of a plan: do. -/
import Derived.Test.YtphcffcecncngaaChainWalk
namespace Go.Proofs.Ytphcffcecncngaa
open Go.RowKit

/-- One cell of a block. -/
class Ck (w : World) (g i : Nat) (v : outParam Value) : Prop where
  eq : w.cell? ⟨g, i, none⟩ = some v
section
variable {w w' w0 : World} {A B : Option Addr} {n m p q wk gp gv gg id d g i : Nat} {c : Ch} {cap kind : Int} {s : Wk} {v : Value}
theorem cell_ck [h : Ck w g i v] : w.cell? ⟨g, i, none⟩ = some v := h.eq
instance (priority := low) Ck.step [p : Prev w' w] [h : Ck w g i v] : Ck w' g i v := ⟨(p.st.cell (p := ⟨g, i, none⟩) (cell_old h.eq)).trans h.eq⟩
theorem WkM.hd (h : WkM w0 w wk gp gv gg A n p B m q cap s) : Hid (WkM w0 w wk gp gv gg A n p B m q cap s) := Lib.hid h
/-- What do leaves. -/
def RetDo (w0 : World) (wk gp gv gg : Nat) (A : Option Addr) (n p : Nat) (B : Option Addr) (m q : Nat) (cap : Int) (c : Ch) (s : Wk) (kind : Int) (id : Nat) (e : Ending) (w' : World) : Prop :=
  e = .returned (.int .i64 (s.err c cap kind id)) ∧ Prev w' w0 ∧ Hid (s.err c cap kind id = 0 → WkM w0 w' wk gp gv gg A n p B m q cap (s.step c kind id))
set_option maxRecDepth 100000 in
set_option maxHeartbeats 4000000 in
theorem ch_do_illegal {kind : Int} (hW : Hid (WkM w0 w wk gp gv gg A n p B m q cap s)) (hm : Hid (m = c.n)) (hn : Hid (n = c.n + 1)) (h4 : n ≤ 65) (hi : Hid (insB c.n kind id = true)) (HL : Hid (s.legal c.n kind id = false)) :
    Calls Try.prog 56 #[.pointer (some ⟨wk, 0, none⟩), .agg #[.int .i64 kind, .int .i64 id]] w (RetDo w0 wk gp gv gg A n p B m q cap c s kind id) := by
  have CB := @cell_bx
  have CP := @cell_prev
  have HE : Hid (s.err c cap kind id = 24) := Lib.hid (by unfold Wk.err; rw [HL.out]; rfl)
  have hpr := hW.out.pr
  go_enter Try.func56, Try.ntmps56
  go_wp2_with (go_at_call 95; (with_reducible refine gen_boxK (fun u _ _ => ?_)); (with_reducible refine (ch_legal (hW.out.at (w' := u)).hd hm hn h4 hi).mono ?_); rintro e u ⟨rfl, _⟩; rw [HL.out])
  go_ret
  exact ⟨by rw [HE.out]; rfl, prev_bel _ _, Lib.hid fun h => by rw [HE.out] at h; cases h⟩
set_option maxRecDepth 100000 in
set_option maxHeartbeats 4000000 in
theorem ch_do_cap {kind : Int} {x : Int} [a : Sl w0 A n c.W] (hW : Hid (WkM w0 w wk gp gv gg A n p B m q cap s)) (hm : Hid (m = c.n)) (hn : Hid (n = c.n + 1)) (h4 : n ≤ 65) (hi : Hid (insB c.n kind id = true)) (HL : Hid (s.legal c.n kind id = true))
    (HX : Hid (Wk.more c kind id = x)) (hadd : IntKind.i64.wrap (s.wo + x) = s.wo + x) (hc : cap < s.wo + x) :
    Calls Try.prog 56 #[.pointer (some ⟨wk, 0, none⟩), .agg #[.int .i64 kind, .int .i64 id]] w (RetDo w0 wk gp gv gg A n p B m q cap c s kind id) := by
  have CB := @cell_bx
  have CP := @cell_prev
  have HE : Hid (s.err c cap kind id = 25) := Lib.hid (by unfold Wk.err; rw [if_pos HL.out, HX.out, if_pos hc])
  have hpr := hW.out.pr
  have kW := hW.out.box
  go_enter Try.func56, Try.ntmps56
  go_upto_region 4 with (first | (go_at_call 95; (with_reducible refine gen_boxK (fun u _ _ => ?_)); (with_reducible refine (ch_legal (hW.out.at (w' := u)).hd hm hn h4 hi).mono ?_); rintro e u ⟨rfl, _⟩; rw [HL.out]) | (go_at_call 96; (with_reducible refine (ch_more (c := c) (hW.out.at (w' := u)).hd hm hn h4 hi).mono ?_); rintro e u ⟨rfl, _⟩; rw [HX.out]))
  refine wp_region_up0 (by kernel_rfl) (fun u1 _ => ?_)
  refine wpAnyH_on (i := 0) (d := 14) (v := ?_) rfl rfl (by kernel_rfl) (by kernel_rfl) (by kernel_rfl) (fun _ _ _ h => h) (by kernel_rfl) (prev_bel _ _) ?_ ?_
  rotate_left
  · intro uu (pu : Prev uu _)
    go_simp
    try (with_reducible rfl)
  try simp only [List.set]
  refine wpAnyH_on (i := 1) (d := 15) (v := ?_) rfl rfl (by kernel_rfl) (by kernel_rfl) (by kernel_rfl) (fun _ _ _ h => h) (by kernel_rfl) (prev_bel _ _) ?_ ?_
  rotate_left
  · intro uu (pu : Prev uu _)
    go_simp
    try (with_reducible rfl)
  try simp only [List.set]
  refine wpAnyH_on (i := 2) (d := 16) (v := ?_) rfl rfl (by kernel_rfl) (by kernel_rfl) (by kernel_rfl) (fun _ _ _ h => h) (by kernel_rfl) (prev_bel _ _) ?_ ?_
  rotate_left
  · intro uu (pu : Prev uu _)
    go_simp
    try (with_reducible rfl)
  try simp only [List.set]
  refine wpAnyH_on (i := 3) (d := 17) (v := ?_) rfl rfl (by kernel_rfl) (by kernel_rfl) (by kernel_rfl) (fun _ _ _ h => h) (by kernel_rfl) (prev_bel _ _) ?_ ?_
  rotate_left
  · intro uu (pu : Prev uu _)
    go_simp
    try (with_reducible rfl)
  try simp only [List.set]
  refine wpAnyH_on (i := 4) (d := 18) (v := ?_) rfl rfl (by kernel_rfl) (by kernel_rfl) (by kernel_rfl) (fun _ _ _ h => h) (by kernel_rfl) (prev_bel _ _) ?_ ?_
  rotate_left
  · intro uu (pu : Prev uu _)
    go_simp
    try (with_reducible rfl)
  try simp only [List.set]
  refine wpAnyH_on (i := 5) (d := 19) (v := ?_) rfl rfl (by kernel_rfl) (by kernel_rfl) (by kernel_rfl) (fun _ _ _ h => h) (by kernel_rfl) (prev_bel _ _) ?_ ?_
  rotate_left
  · intro uu (pu : Prev uu _)
    go_simp
    try (with_reducible rfl)
  try simp only [List.set]
  refine wpAnyH_on (i := 6) (d := 20) (v := ?_) rfl rfl (by kernel_rfl) (by kernel_rfl) (by kernel_rfl) (fun _ _ _ h => h) (by kernel_rfl) (prev_bel _ _) ?_ ?_
  rotate_left
  · intro uu (pu : Prev uu _)
    go_simp
    try (with_reducible rfl)
  try simp only [List.set]
  refine wpAnyH_on (i := 7) (d := 21) (v := ?_) rfl rfl (by kernel_rfl) (by kernel_rfl) (by kernel_rfl) (fun _ _ _ h => h) (by kernel_rfl) (prev_bel _ _) ?_ ?_
  rotate_left
  · intro uu (pu : Prev uu _)
    go_simp
    try (with_reducible rfl)
  try simp only [List.set]
  refine wpAnyH_on (i := 8) (d := 22) (v := ?_) rfl rfl (by kernel_rfl) (by kernel_rfl) (by kernel_rfl) (fun _ _ _ h => h) (by kernel_rfl) (prev_bel _ _) ?_ ?_
  rotate_left
  · intro uu (pu : Prev uu _)
    go_simp
    try (with_reducible rfl)
  try simp only [List.set]
  refine wpAnyH_on (i := 9) (d := 23) (v := ?_) rfl rfl (by kernel_rfl) (by kernel_rfl) (by kernel_rfl) (fun _ _ _ h => h) (by kernel_rfl) (prev_bel _ _) ?_ ?_
  rotate_left
  · intro uu (pu : Prev uu _)
    go_simp
    try (with_reducible rfl)
  try simp only [List.set]
  refine wpAnyH_on (i := 10) (d := 24) (v := ?_) rfl rfl (by kernel_rfl) (by kernel_rfl) (by kernel_rfl) (fun _ _ _ h => h) (by kernel_rfl) (prev_bel _ _) ?_ ?_
  rotate_left
  · intro uu (pu : Prev uu _)
    go_simp
    try (with_reducible rfl)
  try simp only [List.set]
  refine wpAnyH_done (by kernel_rfl) ?_ _
  go_wp2_with fail
  go_ret
  exact ⟨by rw [HE.out]; rfl, prev_bel _ _, Lib.hid fun h => by rw [HE.out] at h; cases h⟩
set_option maxRecDepth 100000 in
set_option maxHeartbeats 8000000 in
theorem ch_do_compute {kind x : Int} [a : Sl w0 A n c.W] [b : Sl w0 B m c.K] (hk : kind = 1 ∨ kind = 2) (hW : Hid (WkM w0 w wk gp gv gg A n p B m q cap s)) (hm : Hid (m = c.n)) (hn : Hid (n = c.n + 1)) (h4 : n ≤ 65) (hi : Hid (insB c.n kind id = true)) (HL : Hid (s.legal c.n kind id = true))
    (HX : Hid (Wk.more c kind id = x)) (hadd : IntKind.i64.wrap (s.wo + x) = s.wo + x) (hc : ¬ cap < s.wo + x) (h1 : 1 ≤ id) (h2 : id < n) (hD : Hid (id - 1 = d)) (hco : IntKind.i64.wrap (s.co + c.k d) = s.co + c.k d) :
    Calls Try.prog 56 #[.pointer (some ⟨wk, 0, none⟩), .agg #[.int .i64 kind, .int .i64 id]] w (RetDo w0 wk gp gv gg A n p B m q cap c s kind id) := by
  have CB := @cell_bx
  have CP := @cell_prev
  have FB := @frozen_bx
  have CC := @cell_ck
  have HE : Hid (s.err c cap kind id = 0) := Lib.hid (by unfold Wk.err; rw [if_pos HL.out, HX.out, if_neg hc])
  have hpr := hW.out.pr
  have kW := hW.out.box
  have hdm : d < m := by have := hD.out; have := hm.out; have := hn.out; omega
  have hsub : IntKind.i64.wrap ((id : Int) - 1) = (d : Int) := by rw [IntKind.wrap_i64]; have := hD.out; omega
  have e1 := boolC_at (bs := s.sv) (i := id) (by rw [hW.out.lv]; exact h2)
  have e2 := boolC_at (bs := s.pr) (i := id) (by rw [hW.out.lp]; exact h2)
  obtain ⟨b1, o1, rfl, ob1, w1⟩ := Sl.at_k (c := c) (w := w0) (A := B) (n := m) (l := d) hdm
  rcases hk with rfl | rfl
  · have HST : Hid (s.step c 1 id = { s.add x with pr := s.pr.set id true, sv := s.sv.set id true, co := s.co + c.k d }) := Lib.hid (by unfold Wk.step; rw [HX.out, ← hD.out]; rfl)
    go_enter Try.func56, Try.ntmps56
    go_upto_region 4 with (first | (go_at_call 95; (with_reducible refine gen_boxK (fun u _ _ => ?_)); (with_reducible refine (ch_legal (hW.out.at (w' := u)).hd hm hn h4 hi).mono ?_); rintro e u ⟨rfl, _⟩; rw [HL.out]) | (go_at_call 96; (with_reducible refine (ch_more (c := c) (hW.out.at (w' := u)).hd hm hn h4 hi).mono ?_); rintro e u ⟨rfl, _⟩; rw [HX.out]))
    refine wp_region_up0 (by kernel_rfl) (fun u1 _ => ?_)
    refine wpAnyH_on (i := 0) (d := 14) (v := ?_) rfl rfl (by kernel_rfl) (by kernel_rfl) (by kernel_rfl) (fun _ _ _ h => h) (by kernel_rfl) (prev_bel _ _) ?_ ?_
    rotate_left
    · intro uu (pu : Prev uu _)
      go_simp
      try (with_reducible rfl)
    try simp only [List.set]
    refine wpAnyH_on (i := 1) (d := 15) (v := ?_) rfl rfl (by kernel_rfl) (by kernel_rfl) (by kernel_rfl) (fun _ _ _ h => h) (by kernel_rfl) (prev_bel _ _) ?_ ?_
    rotate_left
    · intro uu (pu : Prev uu _)
      go_simp
      try (with_reducible rfl)
    try simp only [List.set]
    refine wpAnyH_on (i := 2) (d := 16) (v := ?_) rfl rfl (by kernel_rfl) (by kernel_rfl) (by kernel_rfl) (fun _ _ _ h => h) (by kernel_rfl) (prev_bel _ _) ?_ ?_
    rotate_left
    · intro uu (pu : Prev uu _)
      go_simp
      try (with_reducible rfl)
    try simp only [List.set]
    refine wpAnyH_on (i := 3) (d := 17) (v := ?_) rfl rfl (by kernel_rfl) (by kernel_rfl) (by kernel_rfl) (fun _ _ _ h => h) (by kernel_rfl) (prev_bel _ _) ?_ ?_
    rotate_left
    · intro uu (pu : Prev uu _)
      go_simp
      try (with_reducible rfl)
    try simp only [List.set]
    refine wpAnyH_on (i := 4) (d := 18) (v := ?_) rfl rfl (by kernel_rfl) (by kernel_rfl) (by kernel_rfl) (fun _ _ _ h => h) (by kernel_rfl) (prev_bel _ _) ?_ ?_
    rotate_left
    · intro uu (pu : Prev uu _)
      go_simp
      try (with_reducible rfl)
    try simp only [List.set]
    refine wpAnyH_on (i := 5) (d := 19) (v := ?_) rfl rfl (by kernel_rfl) (by kernel_rfl) (by kernel_rfl) (fun _ _ _ h => h) (by kernel_rfl) (prev_bel _ _) ?_ ?_
    rotate_left
    · intro uu (pu : Prev uu _)
      go_simp
      try (with_reducible rfl)
    try simp only [List.set]
    refine wpAnyH_on (i := 6) (d := 20) (v := ?_) rfl rfl (by kernel_rfl) (by kernel_rfl) (by kernel_rfl) (fun _ _ _ h => h) (by kernel_rfl) (prev_bel _ _) ?_ ?_
    rotate_left
    · intro uu (pu : Prev uu _)
      go_simp
      try (with_reducible rfl)
    try simp only [List.set]
    refine wpAnyH_on (i := 7) (d := 21) (v := ?_) rfl rfl (by kernel_rfl) (by kernel_rfl) (by kernel_rfl) (fun _ _ _ h => h) (by kernel_rfl) (prev_bel _ _) ?_ ?_
    rotate_left
    · intro uu (pu : Prev uu _)
      go_simp
      try (with_reducible rfl)
    try simp only [List.set]
    refine wpAnyH_on (i := 8) (d := 22) (v := ?_) rfl rfl (by kernel_rfl) (by kernel_rfl) (by kernel_rfl) (fun _ _ _ h => h) (by kernel_rfl) (prev_bel _ _) ?_ ?_
    rotate_left
    · intro uu (pu : Prev uu _)
      go_simp
      try (with_reducible rfl)
    try simp only [List.set]
    refine wpAnyH_on (i := 9) (d := 23) (v := ?_) rfl rfl (by kernel_rfl) (by kernel_rfl) (by kernel_rfl) (fun _ _ _ h => h) (by kernel_rfl) (prev_bel _ _) ?_ ?_
    rotate_left
    · intro uu (pu : Prev uu _)
      go_simp
      try (with_reducible rfl)
    try simp only [List.set]
    refine wpAnyH_on (i := 10) (d := 24) (v := ?_) rfl rfl (by kernel_rfl) (by kernel_rfl) (by kernel_rfl) (fun _ _ _ h => h) (by kernel_rfl) (prev_bel _ _) ?_ ?_
    rotate_left
    · intro uu (pu : Prev uu _)
      go_simp
      try (with_reducible rfl)
    try simp only [List.set]
    refine wpAnyH_done (by kernel_rfl) ?_ _
    go_upto_region 7 with fail
    have HW : Hid (WkM w0 (u1.setCell ⟨wk, 10, none⟩ (.int .i64 (s.wo + x))) wk gp gv gg _ n p _ m q cap { s with wo := s.wo + x }) := Lib.hid ((hW.out.at (w' := u1)).setBox (i := 10) (v := .int .i64 (s.wo + x)) (s' := { s with wo := s.wo + x }) rfl rfl rfl rfl)
    have kI : Bx (u1.setCell ⟨wk, 10, none⟩ (.int .i64 (s.wo + x))) w.heap.size 108 #[.int .i64 1, .int .i64 id] := ⟨(Below.heap_setCell _ ⟨wk, 10, none⟩ _ _ ((Bx.blk (w := u1) (g := w.heap.size)).ne_typ (kW.blk.at (w' := u1)) (by decide))).trans (Bx.blk (w := u1))⟩
    obtain ⟨v1, hv1⟩ : ∃ W : World, W = u1.setCell ⟨wk, 10, none⟩ (.int .i64 (s.wo + x)) := ⟨_, rfl⟩
    rw [← hv1] at HW kI ⊢
    clear hv1
    have pv1 := HW.out.pr
    have kW := HW.out.box
    have c10 : Ck v1 wk 10 (.int .i64 (s.wo + x)) := ⟨kW.blk.cell 10⟩
    refine wp_region_upR w0 (fun w9 => Ck w9 wk 10 (.int .i64 (s.wo + x))) (by kernel_rfl) inferInstance (fun ux _ => ?_)
    refine wpAnyH_on (i := 0) (d := 33) (v := ?_) rfl rfl (by kernel_rfl) (by kernel_rfl) (by kernel_rfl) (fun _ _ _ h => h) (by kernel_rfl) ⟨prev_bel _ _, inferInstance⟩ ?_ ?_
    rotate_left
    · rintro uu ⟨pu, r1⟩
      go_simp
      try (with_reducible rfl)
    try simp only [List.set]
    refine wpAnyH_on (i := 1) (d := 34) (v := ?_) rfl rfl (by kernel_rfl) (by kernel_rfl) (by kernel_rfl) (fun _ _ _ h => h) (by kernel_rfl) ⟨prev_bel _ _, inferInstance⟩ ?_ ?_
    rotate_left
    · rintro uu ⟨pu, r1⟩
      go_simp
      try (with_reducible rfl)
    try simp only [List.set]
    refine wpAnyH_on (i := 2) (d := 35) (v := ?_) rfl rfl (by kernel_rfl) (by kernel_rfl) (by kernel_rfl) (fun _ _ _ h => h) (by kernel_rfl) ⟨prev_bel _ _, inferInstance⟩ ?_ ?_
    rotate_left
    · rintro uu ⟨pu, r1⟩
      go_simp
      try (with_reducible rfl)
    try simp only [List.set]
    refine wpAnyH_on (i := 3) (d := 36) (v := ?_) rfl rfl (by kernel_rfl) (by kernel_rfl) (by kernel_rfl) (fun _ _ _ h => h) (by kernel_rfl) ⟨prev_bel _ _, inferInstance⟩ ?_ ?_
    rotate_left
    · rintro uu ⟨pu, r1⟩
      go_simp
      try (with_reducible rfl)
    try simp only [List.set]
    refine wpAnyH_on (i := 5) (d := 38) (v := ?_) rfl rfl (by kernel_rfl) (by kernel_rfl) (by kernel_rfl) (fun _ _ _ h => h) (by kernel_rfl) ⟨prev_bel _ _, inferInstance⟩ ?_ ?_
    rotate_left
    · rintro uu ⟨pu, r1⟩
      go_simp
      try (with_reducible rfl)
    try simp only [List.set]
    refine wpAnyH_on (i := 6) (d := 39) (v := ?_) rfl rfl (by kernel_rfl) (by kernel_rfl) (by kernel_rfl) (fun _ _ _ h => h) (by kernel_rfl) ⟨prev_bel _ _, inferInstance⟩ ?_ ?_
    rotate_left
    · rintro uu ⟨pu, r1⟩
      go_simp
      try (with_reducible rfl)
    try simp only [List.set]
    refine wpAnyH_on (i := 7) (d := 40) (v := ?_) rfl rfl (by kernel_rfl) (by kernel_rfl) (by kernel_rfl) (fun _ _ _ h => h) (by kernel_rfl) ⟨prev_bel _ _, inferInstance⟩ ?_ ?_
    rotate_left
    · rintro uu ⟨pu, r1⟩
      go_simp
      try (with_reducible rfl)
    try simp only [List.set]
    refine wpAnyH_on (i := 8) (d := 41) (v := ?_) rfl rfl (by kernel_rfl) (by kernel_rfl) (by kernel_rfl) (fun _ _ _ h => h) (by kernel_rfl) ⟨prev_bel _ _, inferInstance⟩ ?_ ?_
    rotate_left
    · rintro uu ⟨pu, r1⟩
      go_simp
      try (with_reducible rfl)
    try simp only [List.set]
    refine wpAnyH_ready (rs := [4]) (by kernel_rfl) (by simp) ?_
    refine AllReadyH.cons rfl (fun K hK => ?_) AllReadyH.nil
    go_simp
    refine hK.out _ _ ⟨prev_bel w0 _, inferInstance⟩ (fun hHeld => ?_)
    clear hHeld hK K
    try dsimp only [Act.put, List.setIfInBounds_toArray, List.set_cons_zero, List.set_cons_succ]
    refine wpAnyH_on (i := 9) (d := 42) (v := ?_) rfl rfl (by kernel_rfl) (by kernel_rfl) (by kernel_rfl) (fun _ _ _ h => h) (by kernel_rfl) ⟨prev_bel _ _, inferInstance⟩ ?_ ?_
    rotate_left
    · rintro uu ⟨pu, r1⟩
      go_simp
      try (with_reducible rfl)
    try simp only [List.set]
    refine wpAnyH_on (i := 10) (d := 43) (v := ?_) rfl rfl (by kernel_rfl) (by kernel_rfl) (by kernel_rfl) (fun _ _ _ h => h) (by kernel_rfl) ⟨prev_bel _ _, inferInstance⟩ ?_ ?_
    rotate_left
    · rintro uu ⟨pu, r1⟩
      go_simp
      try (with_reducible rfl)
    try simp only [List.set]
    refine wpAnyH_on (i := 11) (d := 44) (v := ?_) rfl rfl (by kernel_rfl) (by kernel_rfl) (by kernel_rfl) (fun _ _ _ h => h) (by kernel_rfl) ⟨prev_bel _ _, inferInstance⟩ ?_ ?_
    rotate_left
    · rintro uu ⟨pu, r1⟩
      go_simp
      try (with_reducible rfl)
    try simp only [List.set]
    refine wpAnyH_ready (rs := [12]) (by kernel_rfl) (by simp) ?_
    refine AllReadyH.cons rfl (fun K hK => ?_) AllReadyH.nil
    go_simp
    have HJ := Lib.hid (((HW.out.at (w' := ux)).setBox (i := 11) (v := .int .i64 (max s.pk (s.wo + x))) (s' := ⟨s.pr, s.sv, s.gr, s.em, s.sd, s.la, s.wo + x, max s.pk (s.wo + x), s.co⟩) rfl rfl rfl rfl))
    have SS : ∀ b, b ≠ wk → (ux.setCell ⟨wk, 11, none⟩ (.int .i64 (max s.pk (s.wo + x)))).heap[b]? = ux.heap[b]? := fun b hb => Below.heap_setCell _ ⟨wk, 11, none⟩ _ _ hb
    obtain ⟨v2, hv2⟩ : ∃ W : World, W = ux.setCell ⟨wk, 11, none⟩ (.int .i64 (max s.pk (s.wo + x))) := ⟨_, rfl⟩
    rw [← hv2] at HJ SS ⊢
    clear hv2
    obtain ⟨HW, -⟩ : _ ∧ True := ⟨HJ, trivial⟩
    clear HJ
    have pv2 := HW.out.pr
    have kW := HW.out.box
    have kp := HW.out.p
    have kv := HW.out.v
    have kg := HW.out.g
    refine hK.out _ _ ⟨pv2, ⟨kW.blk.cell 10⟩⟩ (fun hHeld => ?_)
    clear hHeld hK K
    try dsimp only [Act.put, List.setIfInBounds_toArray, List.set_cons_zero, List.set_cons_succ]
    obtain ⟨ux, rfl⟩ : ∃ v : World, v = v2 := ⟨_, rfl⟩
    refine wpAnyH_done (by kernel_rfl) ?_ _
    skip
    have kI : Bx ux w.heap.size 108 #[.int .i64 1, .int .i64 id] := ⟨(SS _ (kI.blk.ne_typ (Bx.blk (w := v1) (g := wk)) (by decide))).trans kI.blk.at⟩
    go_upto_region 12 with fail
    have c4 : Ck ux wk 4 (.slice (some ⟨gp, 0, none⟩) n n) := ⟨kW.blk.cell 4⟩
    have c5 : Ck ux wk 5 (.slice (some ⟨gv, 0, none⟩) n n) := ⟨kW.blk.cell 5⟩
    refine wp_region_upR w0 (fun w9 => Ck w9 wk 4 (.slice (some ⟨gp, 0, none⟩) n n) ∧ Ck w9 wk 5 (.slice (some ⟨gv, 0, none⟩) n n)) (by kernel_rfl) ⟨inferInstance, inferInstance⟩ (fun uy _ => ?_)
    refine wpAnyH_on (i := 0) (d := 52) (v := ?_) rfl rfl (by kernel_rfl) (by kernel_rfl) (by kernel_rfl) (fun _ _ _ h => h) (by kernel_rfl) ⟨prev_bel _ _, ⟨inferInstance, inferInstance⟩⟩ ?_ ?_
    rotate_left
    · rintro uu ⟨pu, r1, r2⟩
      go_simp
      try (with_reducible rfl)
    try simp only [List.set]
    refine wpAnyH_on (i := 1) (d := 53) (v := ?_) rfl rfl (by kernel_rfl) (by kernel_rfl) (by kernel_rfl) (fun _ _ _ h => h) (by kernel_rfl) ⟨prev_bel _ _, ⟨inferInstance, inferInstance⟩⟩ ?_ ?_
    rotate_left
    · rintro uu ⟨pu, r1, r2⟩
      go_simp
      try (with_reducible rfl)
    try simp only [List.set]
    refine wpAnyH_on (i := 2) (d := 54) (v := ?_) rfl rfl (by kernel_rfl) (by kernel_rfl) (by kernel_rfl) (fun _ _ _ h => h) (by kernel_rfl) ⟨prev_bel _ _, ⟨inferInstance, inferInstance⟩⟩ ?_ ?_
    rotate_left
    · rintro uu ⟨pu, r1, r2⟩
      go_simp
      try (with_reducible rfl)
    try simp only [List.set]
    refine wpAnyH_on (i := 3) (d := 55) (v := ?_) rfl rfl (by kernel_rfl) (by kernel_rfl) (by kernel_rfl) (fun _ _ _ h => h) (by kernel_rfl) ⟨prev_bel _ _, ⟨inferInstance, inferInstance⟩⟩ ?_ ?_
    rotate_left
    · rintro uu ⟨pu, r1, r2⟩
      go_simp
      try (with_reducible rfl)
    try simp only [List.set]
    refine wpAnyH_on (i := 4) (d := 56) (v := ?_) rfl rfl (by kernel_rfl) (by kernel_rfl) (by kernel_rfl) (fun _ _ _ h => h) (by kernel_rfl) ⟨prev_bel _ _, ⟨inferInstance, inferInstance⟩⟩ ?_ ?_
    rotate_left
    · rintro uu ⟨pu, r1, r2⟩
      go_simp
      try (with_reducible rfl)
    try simp only [List.set]
    refine wpAnyH_on (i := 5) (d := 57) (v := ?_) rfl rfl (by kernel_rfl) (by kernel_rfl) (by kernel_rfl) (fun _ _ _ h => h) (by kernel_rfl) ⟨prev_bel _ _, ⟨inferInstance, inferInstance⟩⟩ ?_ ?_
    rotate_left
    · rintro uu ⟨pu, r1, r2⟩
      go_simp
      try (with_reducible rfl)
    try simp only [List.set]
    refine wpAnyH_on (i := 6) (d := 58) (v := ?_) rfl rfl (by kernel_rfl) (by kernel_rfl) (by kernel_rfl) (fun _ _ _ h => h) (by kernel_rfl) ⟨prev_bel _ _, ⟨inferInstance, inferInstance⟩⟩ ?_ ?_
    rotate_left
    · rintro uu ⟨pu, r1, r2⟩
      go_simp
      try (with_reducible rfl)
    try simp only [List.set]
    refine wpAnyH_on (i := 7) (d := 59) (v := ?_) rfl rfl (by kernel_rfl) (by kernel_rfl) (by kernel_rfl) (fun _ _ _ h => h) (by kernel_rfl) ⟨prev_bel _ _, ⟨inferInstance, inferInstance⟩⟩ ?_ ?_
    rotate_left
    · rintro uu ⟨pu, r1, r2⟩
      go_simp
      try (with_reducible rfl)
    try simp only [List.set]
    refine wpAnyH_on (i := 8) (d := 60) (v := ?_) rfl rfl (by kernel_rfl) (by kernel_rfl) (by kernel_rfl) (fun _ _ _ h => h) (by kernel_rfl) ⟨prev_bel _ _, ⟨inferInstance, inferInstance⟩⟩ ?_ ?_
    rotate_left
    · rintro uu ⟨pu, r1, r2⟩
      go_simp
      try (with_reducible rfl)
    try simp only [List.set]
    refine wpAnyH_on (i := 9) (d := 61) (v := ?_) rfl rfl (by kernel_rfl) (by kernel_rfl) (by kernel_rfl) (fun _ _ _ h => h) (by kernel_rfl) ⟨prev_bel _ _, ⟨inferInstance, inferInstance⟩⟩ ?_ ?_
    rotate_left
    · rintro uu ⟨pu, r1, r2⟩
      go_simp
      try (with_reducible rfl)
    try simp only [List.set]
    refine wpAnyH_on (i := 10) (d := 62) (v := ?_) rfl rfl (by kernel_rfl) (by kernel_rfl) (by kernel_rfl) (fun _ _ _ h => h) (by kernel_rfl) ⟨prev_bel _ _, ⟨inferInstance, inferInstance⟩⟩ ?_ ?_
    rotate_left
    · rintro uu ⟨pu, r1, r2⟩
      go_simp
      try (with_reducible rfl)
    try simp only [List.set]
    refine wpAnyH_ready (rs := [11]) (by kernel_rfl) (by simp) ?_
    refine AllReadyH.cons rfl (fun K hK => ?_) AllReadyH.nil
    have kp : Bx uy gp 4 (boolC s.pr) := (HW.out.at (w' := uy)).p
    go_simp
    have HJ := Lib.hid ((HW.out.at (w' := uy)).setP id true)
    have SS : ∀ b, b ≠ gp → (uy.setCell ⟨gp, id, none⟩ (.bool true)).heap[b]? = uy.heap[b]? := fun b hb => Below.heap_setCell _ ⟨gp, id, none⟩ _ _ hb
    obtain ⟨v3, hv3⟩ : ∃ W : World, W = uy.setCell ⟨gp, id, none⟩ (.bool true) := ⟨_, rfl⟩
    rw [← hv3] at HJ SS ⊢
    clear hv3
    obtain ⟨HW, -⟩ : _ ∧ True := ⟨HJ, trivial⟩
    clear HJ
    have pv3 := HW.out.pr
    have kW := HW.out.box
    have kp := HW.out.p
    have kv := HW.out.v
    have kg := HW.out.g
    refine hK.out _ _ ⟨pv3, ⟨⟨kW.blk.cell 4⟩, ⟨kW.blk.cell 5⟩⟩⟩ (fun hHeld => ?_)
    clear hHeld hK K
    try dsimp only [Act.put, List.setIfInBounds_toArray, List.set_cons_zero, List.set_cons_succ]
    obtain ⟨uy, rfl⟩ : ∃ v : World, v = v3 := ⟨_, rfl⟩
    have c4 : Ck uy wk 4 (.slice (some ⟨gp, 0, none⟩) n n) := ⟨kW.blk.cell 4⟩
    have c5 : Ck uy wk 5 (.slice (some ⟨gv, 0, none⟩) n n) := ⟨kW.blk.cell 5⟩
    refine wpAnyH_on (i := 12) (d := 63) (v := ?_) rfl rfl (by kernel_rfl) (by kernel_rfl) (by kernel_rfl) (fun _ _ _ h => h) (by kernel_rfl) ⟨prev_bel _ _, ⟨inferInstance, inferInstance⟩⟩ ?_ ?_
    rotate_left
    · rintro uu ⟨pu, r1, r2⟩
      go_simp
      try (with_reducible rfl)
    try simp only [List.set]
    refine wpAnyH_ready (rs := [13]) (by kernel_rfl) (by simp) ?_
    refine AllReadyH.cons rfl (fun K hK => ?_) AllReadyH.nil
    have kv : Bx uy gv 4 (boolC s.sv) := (HW.out.at (w' := uy)).v
    go_simp
    have HJ := Lib.hid ((HW.out.at (w' := uy)).setV id true)
    have SS : ∀ b, b ≠ gv → (uy.setCell ⟨gv, id, none⟩ (.bool true)).heap[b]? = uy.heap[b]? := fun b hb => Below.heap_setCell _ ⟨gv, id, none⟩ _ _ hb
    obtain ⟨v4, hv4⟩ : ∃ W : World, W = uy.setCell ⟨gv, id, none⟩ (.bool true) := ⟨_, rfl⟩
    rw [← hv4] at HJ SS ⊢
    clear hv4
    obtain ⟨HW, -⟩ : _ ∧ True := ⟨HJ, trivial⟩
    clear HJ
    have pv4 := HW.out.pr
    have kW := HW.out.box
    have kp := HW.out.p
    have kv := HW.out.v
    have kg := HW.out.g
    refine hK.out _ _ ⟨pv4, ⟨⟨kW.blk.cell 4⟩, ⟨kW.blk.cell 5⟩⟩⟩ (fun hHeld => ?_)
    clear hHeld hK K
    try dsimp only [Act.put, List.setIfInBounds_toArray, List.set_cons_zero, List.set_cons_succ]
    obtain ⟨uy, rfl⟩ : ∃ v : World, v = v4 := ⟨_, rfl⟩
    have c4 : Ck uy wk 4 (.slice (some ⟨gp, 0, none⟩) n n) := ⟨kW.blk.cell 4⟩
    have c5 : Ck uy wk 5 (.slice (some ⟨gv, 0, none⟩) n n) := ⟨kW.blk.cell 5⟩
    refine wpAnyH_done (by kernel_rfl) ?_ _
    have c1 : Ck uy wk 1 (.slice (some ⟨b1, o1, none⟩) m q) := ⟨kW.blk.cell 1⟩
    go_upto_region 13 with fail
    refine wp_region_upR w0 (fun w9 => Ck w9 wk 1 (.slice (some ⟨b1, o1, none⟩) m q)) (by kernel_rfl) inferInstance (fun uz _ => ?_)
    refine wpAnyH_on (i := 0) (d := 64) (v := ?_) rfl rfl (by kernel_rfl) (by kernel_rfl) (by kernel_rfl) (fun _ _ _ h => h) (by kernel_rfl) ⟨prev_bel _ _, inferInstance⟩ ?_ ?_
    rotate_left
    · rintro uu ⟨pu, r1⟩
      go_simp
      try (with_reducible rfl)
    try simp only [List.set]
    refine wpAnyH_on (i := 1) (d := 65) (v := ?_) rfl rfl (by kernel_rfl) (by kernel_rfl) (by kernel_rfl) (fun _ _ _ h => h) (by kernel_rfl) ⟨prev_bel _ _, inferInstance⟩ ?_ ?_
    rotate_left
    · rintro uu ⟨pu, r1⟩
      go_simp
      try (with_reducible rfl)
    try simp only [List.set]
    refine wpAnyH_on (i := 2) (d := 66) (v := ?_) rfl rfl (by kernel_rfl) (by kernel_rfl) (by kernel_rfl) (fun _ _ _ h => h) (by kernel_rfl) ⟨prev_bel _ _, inferInstance⟩ ?_ ?_
    rotate_left
    · rintro uu ⟨pu, r1⟩
      go_simp
      try (with_reducible rfl)
    try simp only [List.set]
    refine wpAnyH_on (i := 4) (d := 68) (v := ?_) rfl rfl (by kernel_rfl) (by kernel_rfl) (by kernel_rfl) (fun _ _ _ h => h) (by kernel_rfl) ⟨prev_bel _ _, inferInstance⟩ ?_ ?_
    rotate_left
    · rintro uu ⟨pu, r1⟩
      go_simp
      try (with_reducible rfl)
    try simp only [List.set]
    refine wpAnyH_on (i := 5) (d := 69) (v := ?_) rfl rfl (by kernel_rfl) (by kernel_rfl) (by kernel_rfl) (fun _ _ _ h => h) (by kernel_rfl) ⟨prev_bel _ _, inferInstance⟩ ?_ ?_
    rotate_left
    · rintro uu ⟨pu, r1⟩
      go_simp
      try (with_reducible rfl)
    try simp only [List.set]
    refine wpAnyH_on (i := 6) (d := 70) (v := ?_) rfl rfl (by kernel_rfl) (by kernel_rfl) (by kernel_rfl) (fun _ _ _ h => h) (by kernel_rfl) ⟨prev_bel _ _, inferInstance⟩ ?_ ?_
    rotate_left
    · rintro uu ⟨pu, r1⟩
      go_simp
      try (with_reducible rfl)
    try simp only [List.set]
    refine wpAnyH_on (i := 7) (d := 71) (v := ?_) rfl rfl (by kernel_rfl) (by kernel_rfl) (by kernel_rfl) (fun _ _ _ h => h) (by kernel_rfl) ⟨prev_bel _ _, inferInstance⟩ ?_ ?_
    rotate_left
    · rintro uu ⟨pu, r1⟩
      go_simp
      try (with_reducible rfl)
    try simp only [List.set]
    refine wpAnyH_on (i := 8) (d := 72) (v := ?_) rfl rfl (by kernel_rfl) (by kernel_rfl) (by kernel_rfl) (fun _ _ _ h => h) (by kernel_rfl) ⟨prev_bel _ _, inferInstance⟩ ?_ ?_
    rotate_left
    · rintro uu ⟨pu, r1⟩
      go_simp
      try (with_reducible rfl)
    try simp only [List.set]
    refine wpAnyH_on (i := 9) (d := 73) (v := ?_) rfl rfl (by kernel_rfl) (by kernel_rfl) (by kernel_rfl) (fun _ _ _ h => h) (by kernel_rfl) ⟨prev_bel _ _, inferInstance⟩ ?_ ?_
    rotate_left
    · rintro uu ⟨pu, r1⟩
      go_simp
      try (with_reducible rfl)
    try simp only [List.set]
    refine wpAnyH_on (i := 10) (d := 74) (v := ?_) rfl rfl (by kernel_rfl) (by kernel_rfl) (by kernel_rfl) (fun _ _ _ h => h) (by kernel_rfl) ⟨prev_bel _ _, inferInstance⟩ ?_ ?_
    rotate_left
    · rintro uu ⟨pu, r1⟩
      go_simp
      try (with_reducible rfl)
    try simp only [List.set]
    refine wpAnyH_on (i := 11) (d := 75) (v := ?_) rfl rfl (by kernel_rfl) (by kernel_rfl) (by kernel_rfl) (fun _ _ _ h => h) (by kernel_rfl) ⟨prev_bel _ _, inferInstance⟩ ?_ ?_
    rotate_left
    · rintro uu ⟨pu, r1⟩
      go_simp
      try (with_reducible rfl)
    try simp only [List.set]
    refine wpAnyH_on (i := 12) (d := 76) (v := ?_) rfl rfl (by kernel_rfl) (by kernel_rfl) (by kernel_rfl) (fun _ _ _ h => h) (by kernel_rfl) ⟨prev_bel _ _, inferInstance⟩ ?_ ?_
    rotate_left
    · rintro uu ⟨pu, r1⟩
      go_simp
      try (with_reducible rfl)
    try simp only [List.set]
    refine wpAnyH_ready (rs := [3]) (by kernel_rfl) (by simp) ?_
    refine AllReadyH.cons rfl (fun K hK => ?_) AllReadyH.nil
    go_simp
    refine hK.out _ _ ⟨prev_bel w0 _, inferInstance⟩ (fun hHeld => ?_)
    clear hHeld hK K
    try dsimp only [Act.put, List.setIfInBounds_toArray, List.set_cons_zero, List.set_cons_succ]
    refine wpAnyH_on (i := 13) (d := 77) (v := ?_) rfl rfl (by kernel_rfl) (by kernel_rfl) (by kernel_rfl) (fun _ _ _ h => h) (by kernel_rfl) ⟨prev_bel _ _, inferInstance⟩ ?_ ?_
    rotate_left
    · rintro uu ⟨pu, r1⟩
      go_simp
      try (with_reducible rfl)
    try simp only [List.set]
    refine wpAnyH_on (i := 14) (d := 78) (v := ?_) rfl rfl (by kernel_rfl) (by kernel_rfl) (by kernel_rfl) (fun _ _ _ h => h) (by kernel_rfl) ⟨prev_bel _ _, inferInstance⟩ ?_ ?_
    rotate_left
    · rintro uu ⟨pu, r1⟩
      go_simp
      try (with_reducible rfl)
    try simp only [List.set]
    refine wpAnyH_on (i := 15) (d := 79) (v := ?_) rfl rfl (by kernel_rfl) (by kernel_rfl) (by kernel_rfl) (fun _ _ _ h => h) (by kernel_rfl) ⟨prev_bel _ _, inferInstance⟩ ?_ ?_
    rotate_left
    · rintro uu ⟨pu, r1⟩
      go_simp
      try (with_reducible rfl)
    try simp only [List.set]
    refine wpAnyH_ready (rs := [16]) (by kernel_rfl) (by simp) ?_
    refine AllReadyH.cons rfl (fun K hK => ?_) AllReadyH.nil
    go_simp
    have HJ := Lib.hid ((HW.out.at (w' := uz)).setBox (i := 12) (v := .int .i64 (s.co + c.k d)) (s' := ⟨s.pr.set id true, s.sv.set id true, s.gr, s.em, s.sd, s.la, s.wo + x, max s.pk (s.wo + x), s.co + c.k d⟩) rfl rfl rfl rfl)
    have SS : ∀ b, b ≠ wk → (uz.setCell ⟨wk, 12, none⟩ (.int .i64 (s.co + c.k d))).heap[b]? = uz.heap[b]? := fun b hb => Below.heap_setCell _ ⟨wk, 12, none⟩ _ _ hb
    obtain ⟨v5, hv5⟩ : ∃ W : World, W = uz.setCell ⟨wk, 12, none⟩ (.int .i64 (s.co + c.k d)) := ⟨_, rfl⟩
    rw [← hv5] at HJ SS ⊢
    clear hv5
    obtain ⟨HW, -⟩ : _ ∧ True := ⟨HJ, trivial⟩
    clear HJ
    have pv5 := HW.out.pr
    have kW := HW.out.box
    have kp := HW.out.p
    have kv := HW.out.v
    have kg := HW.out.g
    refine hK.out _ _ ⟨pv5, ⟨kW.blk.cell 1⟩⟩ (fun hHeld => ?_)
    clear hHeld hK K
    try dsimp only [Act.put, List.setIfInBounds_toArray, List.set_cons_zero, List.set_cons_succ]
    obtain ⟨uz, rfl⟩ : ∃ v : World, v = v5 := ⟨_, rfl⟩
    refine wpAnyH_done (by kernel_rfl) ?_ _
    go_wp2_with fail
    go_ret
    exact ⟨by rw [HE.out]; rfl, HW.out.pr, Lib.hid fun _ => by rw [HST.out]; exact HW.out⟩
  · have HST : Hid (s.step c 2 id = { s.add x with pr := s.pr.set id true, sv := s.sv.set id true, co := s.co + c.k d }) := Lib.hid (by unfold Wk.step; rw [HX.out, ← hD.out]; rfl)
    go_enter Try.func56, Try.ntmps56
    go_upto_region 4 with (first | (go_at_call 95; (with_reducible refine gen_boxK (fun u _ _ => ?_)); (with_reducible refine (ch_legal (hW.out.at (w' := u)).hd hm hn h4 hi).mono ?_); rintro e u ⟨rfl, _⟩; rw [HL.out]) | (go_at_call 96; (with_reducible refine (ch_more (c := c) (hW.out.at (w' := u)).hd hm hn h4 hi).mono ?_); rintro e u ⟨rfl, _⟩; rw [HX.out]))
    refine wp_region_up0 (by kernel_rfl) (fun u1 _ => ?_)
    refine wpAnyH_on (i := 0) (d := 14) (v := ?_) rfl rfl (by kernel_rfl) (by kernel_rfl) (by kernel_rfl) (fun _ _ _ h => h) (by kernel_rfl) (prev_bel _ _) ?_ ?_
    rotate_left
    · intro uu (pu : Prev uu _)
      go_simp
      try (with_reducible rfl)
    try simp only [List.set]
    refine wpAnyH_on (i := 1) (d := 15) (v := ?_) rfl rfl (by kernel_rfl) (by kernel_rfl) (by kernel_rfl) (fun _ _ _ h => h) (by kernel_rfl) (prev_bel _ _) ?_ ?_
    rotate_left
    · intro uu (pu : Prev uu _)
      go_simp
      try (with_reducible rfl)
    try simp only [List.set]
    refine wpAnyH_on (i := 2) (d := 16) (v := ?_) rfl rfl (by kernel_rfl) (by kernel_rfl) (by kernel_rfl) (fun _ _ _ h => h) (by kernel_rfl) (prev_bel _ _) ?_ ?_
    rotate_left
    · intro uu (pu : Prev uu _)
      go_simp
      try (with_reducible rfl)
    try simp only [List.set]
    refine wpAnyH_on (i := 3) (d := 17) (v := ?_) rfl rfl (by kernel_rfl) (by kernel_rfl) (by kernel_rfl) (fun _ _ _ h => h) (by kernel_rfl) (prev_bel _ _) ?_ ?_
    rotate_left
    · intro uu (pu : Prev uu _)
      go_simp
      try (with_reducible rfl)
    try simp only [List.set]
    refine wpAnyH_on (i := 4) (d := 18) (v := ?_) rfl rfl (by kernel_rfl) (by kernel_rfl) (by kernel_rfl) (fun _ _ _ h => h) (by kernel_rfl) (prev_bel _ _) ?_ ?_
    rotate_left
    · intro uu (pu : Prev uu _)
      go_simp
      try (with_reducible rfl)
    try simp only [List.set]
    refine wpAnyH_on (i := 5) (d := 19) (v := ?_) rfl rfl (by kernel_rfl) (by kernel_rfl) (by kernel_rfl) (fun _ _ _ h => h) (by kernel_rfl) (prev_bel _ _) ?_ ?_
    rotate_left
    · intro uu (pu : Prev uu _)
      go_simp
      try (with_reducible rfl)
    try simp only [List.set]
    refine wpAnyH_on (i := 6) (d := 20) (v := ?_) rfl rfl (by kernel_rfl) (by kernel_rfl) (by kernel_rfl) (fun _ _ _ h => h) (by kernel_rfl) (prev_bel _ _) ?_ ?_
    rotate_left
    · intro uu (pu : Prev uu _)
      go_simp
      try (with_reducible rfl)
    try simp only [List.set]
    refine wpAnyH_on (i := 7) (d := 21) (v := ?_) rfl rfl (by kernel_rfl) (by kernel_rfl) (by kernel_rfl) (fun _ _ _ h => h) (by kernel_rfl) (prev_bel _ _) ?_ ?_
    rotate_left
    · intro uu (pu : Prev uu _)
      go_simp
      try (with_reducible rfl)
    try simp only [List.set]
    refine wpAnyH_on (i := 8) (d := 22) (v := ?_) rfl rfl (by kernel_rfl) (by kernel_rfl) (by kernel_rfl) (fun _ _ _ h => h) (by kernel_rfl) (prev_bel _ _) ?_ ?_
    rotate_left
    · intro uu (pu : Prev uu _)
      go_simp
      try (with_reducible rfl)
    try simp only [List.set]
    refine wpAnyH_on (i := 9) (d := 23) (v := ?_) rfl rfl (by kernel_rfl) (by kernel_rfl) (by kernel_rfl) (fun _ _ _ h => h) (by kernel_rfl) (prev_bel _ _) ?_ ?_
    rotate_left
    · intro uu (pu : Prev uu _)
      go_simp
      try (with_reducible rfl)
    try simp only [List.set]
    refine wpAnyH_on (i := 10) (d := 24) (v := ?_) rfl rfl (by kernel_rfl) (by kernel_rfl) (by kernel_rfl) (fun _ _ _ h => h) (by kernel_rfl) (prev_bel _ _) ?_ ?_
    rotate_left
    · intro uu (pu : Prev uu _)
      go_simp
      try (with_reducible rfl)
    try simp only [List.set]
    refine wpAnyH_done (by kernel_rfl) ?_ _
    go_upto_region 7 with fail
    have HW : Hid (WkM w0 (u1.setCell ⟨wk, 10, none⟩ (.int .i64 (s.wo + x))) wk gp gv gg _ n p _ m q cap { s with wo := s.wo + x }) := Lib.hid ((hW.out.at (w' := u1)).setBox (i := 10) (v := .int .i64 (s.wo + x)) (s' := { s with wo := s.wo + x }) rfl rfl rfl rfl)
    have kI : Bx (u1.setCell ⟨wk, 10, none⟩ (.int .i64 (s.wo + x))) w.heap.size 108 #[.int .i64 2, .int .i64 id] := ⟨(Below.heap_setCell _ ⟨wk, 10, none⟩ _ _ ((Bx.blk (w := u1) (g := w.heap.size)).ne_typ (kW.blk.at (w' := u1)) (by decide))).trans (Bx.blk (w := u1))⟩
    obtain ⟨v1, hv1⟩ : ∃ W : World, W = u1.setCell ⟨wk, 10, none⟩ (.int .i64 (s.wo + x)) := ⟨_, rfl⟩
    rw [← hv1] at HW kI ⊢
    clear hv1
    have pv1 := HW.out.pr
    have kW := HW.out.box
    have c10 : Ck v1 wk 10 (.int .i64 (s.wo + x)) := ⟨kW.blk.cell 10⟩
    refine wp_region_upR w0 (fun w9 => Ck w9 wk 10 (.int .i64 (s.wo + x))) (by kernel_rfl) inferInstance (fun ux _ => ?_)
    refine wpAnyH_on (i := 0) (d := 33) (v := ?_) rfl rfl (by kernel_rfl) (by kernel_rfl) (by kernel_rfl) (fun _ _ _ h => h) (by kernel_rfl) ⟨prev_bel _ _, inferInstance⟩ ?_ ?_
    rotate_left
    · rintro uu ⟨pu, r1⟩
      go_simp
      try (with_reducible rfl)
    try simp only [List.set]
    refine wpAnyH_on (i := 1) (d := 34) (v := ?_) rfl rfl (by kernel_rfl) (by kernel_rfl) (by kernel_rfl) (fun _ _ _ h => h) (by kernel_rfl) ⟨prev_bel _ _, inferInstance⟩ ?_ ?_
    rotate_left
    · rintro uu ⟨pu, r1⟩
      go_simp
      try (with_reducible rfl)
    try simp only [List.set]
    refine wpAnyH_on (i := 2) (d := 35) (v := ?_) rfl rfl (by kernel_rfl) (by kernel_rfl) (by kernel_rfl) (fun _ _ _ h => h) (by kernel_rfl) ⟨prev_bel _ _, inferInstance⟩ ?_ ?_
    rotate_left
    · rintro uu ⟨pu, r1⟩
      go_simp
      try (with_reducible rfl)
    try simp only [List.set]
    refine wpAnyH_on (i := 3) (d := 36) (v := ?_) rfl rfl (by kernel_rfl) (by kernel_rfl) (by kernel_rfl) (fun _ _ _ h => h) (by kernel_rfl) ⟨prev_bel _ _, inferInstance⟩ ?_ ?_
    rotate_left
    · rintro uu ⟨pu, r1⟩
      go_simp
      try (with_reducible rfl)
    try simp only [List.set]
    refine wpAnyH_on (i := 5) (d := 38) (v := ?_) rfl rfl (by kernel_rfl) (by kernel_rfl) (by kernel_rfl) (fun _ _ _ h => h) (by kernel_rfl) ⟨prev_bel _ _, inferInstance⟩ ?_ ?_
    rotate_left
    · rintro uu ⟨pu, r1⟩
      go_simp
      try (with_reducible rfl)
    try simp only [List.set]
    refine wpAnyH_on (i := 6) (d := 39) (v := ?_) rfl rfl (by kernel_rfl) (by kernel_rfl) (by kernel_rfl) (fun _ _ _ h => h) (by kernel_rfl) ⟨prev_bel _ _, inferInstance⟩ ?_ ?_
    rotate_left
    · rintro uu ⟨pu, r1⟩
      go_simp
      try (with_reducible rfl)
    try simp only [List.set]
    refine wpAnyH_on (i := 7) (d := 40) (v := ?_) rfl rfl (by kernel_rfl) (by kernel_rfl) (by kernel_rfl) (fun _ _ _ h => h) (by kernel_rfl) ⟨prev_bel _ _, inferInstance⟩ ?_ ?_
    rotate_left
    · rintro uu ⟨pu, r1⟩
      go_simp
      try (with_reducible rfl)
    try simp only [List.set]
    refine wpAnyH_on (i := 8) (d := 41) (v := ?_) rfl rfl (by kernel_rfl) (by kernel_rfl) (by kernel_rfl) (fun _ _ _ h => h) (by kernel_rfl) ⟨prev_bel _ _, inferInstance⟩ ?_ ?_
    rotate_left
    · rintro uu ⟨pu, r1⟩
      go_simp
      try (with_reducible rfl)
    try simp only [List.set]
    refine wpAnyH_ready (rs := [4]) (by kernel_rfl) (by simp) ?_
    refine AllReadyH.cons rfl (fun K hK => ?_) AllReadyH.nil
    go_simp
    refine hK.out _ _ ⟨prev_bel w0 _, inferInstance⟩ (fun hHeld => ?_)
    clear hHeld hK K
    try dsimp only [Act.put, List.setIfInBounds_toArray, List.set_cons_zero, List.set_cons_succ]
    refine wpAnyH_on (i := 9) (d := 42) (v := ?_) rfl rfl (by kernel_rfl) (by kernel_rfl) (by kernel_rfl) (fun _ _ _ h => h) (by kernel_rfl) ⟨prev_bel _ _, inferInstance⟩ ?_ ?_
    rotate_left
    · rintro uu ⟨pu, r1⟩
      go_simp
      try (with_reducible rfl)
    try simp only [List.set]
    refine wpAnyH_on (i := 10) (d := 43) (v := ?_) rfl rfl (by kernel_rfl) (by kernel_rfl) (by kernel_rfl) (fun _ _ _ h => h) (by kernel_rfl) ⟨prev_bel _ _, inferInstance⟩ ?_ ?_
    rotate_left
    · rintro uu ⟨pu, r1⟩
      go_simp
      try (with_reducible rfl)
    try simp only [List.set]
    refine wpAnyH_on (i := 11) (d := 44) (v := ?_) rfl rfl (by kernel_rfl) (by kernel_rfl) (by kernel_rfl) (fun _ _ _ h => h) (by kernel_rfl) ⟨prev_bel _ _, inferInstance⟩ ?_ ?_
    rotate_left
    · rintro uu ⟨pu, r1⟩
      go_simp
      try (with_reducible rfl)
    try simp only [List.set]
    refine wpAnyH_ready (rs := [12]) (by kernel_rfl) (by simp) ?_
    refine AllReadyH.cons rfl (fun K hK => ?_) AllReadyH.nil
    go_simp
    have HJ := Lib.hid (((HW.out.at (w' := ux)).setBox (i := 11) (v := .int .i64 (max s.pk (s.wo + x))) (s' := ⟨s.pr, s.sv, s.gr, s.em, s.sd, s.la, s.wo + x, max s.pk (s.wo + x), s.co⟩) rfl rfl rfl rfl))
    have SS : ∀ b, b ≠ wk → (ux.setCell ⟨wk, 11, none⟩ (.int .i64 (max s.pk (s.wo + x)))).heap[b]? = ux.heap[b]? := fun b hb => Below.heap_setCell _ ⟨wk, 11, none⟩ _ _ hb
    obtain ⟨v2, hv2⟩ : ∃ W : World, W = ux.setCell ⟨wk, 11, none⟩ (.int .i64 (max s.pk (s.wo + x))) := ⟨_, rfl⟩
    rw [← hv2] at HJ SS ⊢
    clear hv2
    obtain ⟨HW, -⟩ : _ ∧ True := ⟨HJ, trivial⟩
    clear HJ
    have pv2 := HW.out.pr
    have kW := HW.out.box
    have kp := HW.out.p
    have kv := HW.out.v
    have kg := HW.out.g
    refine hK.out _ _ ⟨pv2, ⟨kW.blk.cell 10⟩⟩ (fun hHeld => ?_)
    clear hHeld hK K
    try dsimp only [Act.put, List.setIfInBounds_toArray, List.set_cons_zero, List.set_cons_succ]
    obtain ⟨ux, rfl⟩ : ∃ v : World, v = v2 := ⟨_, rfl⟩
    refine wpAnyH_done (by kernel_rfl) ?_ _
    skip
    have kI : Bx ux w.heap.size 108 #[.int .i64 2, .int .i64 id] := ⟨(SS _ (kI.blk.ne_typ (Bx.blk (w := v1) (g := wk)) (by decide))).trans kI.blk.at⟩
    go_upto_region 12 with fail
    have c4 : Ck ux wk 4 (.slice (some ⟨gp, 0, none⟩) n n) := ⟨kW.blk.cell 4⟩
    have c5 : Ck ux wk 5 (.slice (some ⟨gv, 0, none⟩) n n) := ⟨kW.blk.cell 5⟩
    refine wp_region_upR w0 (fun w9 => Ck w9 wk 4 (.slice (some ⟨gp, 0, none⟩) n n) ∧ Ck w9 wk 5 (.slice (some ⟨gv, 0, none⟩) n n)) (by kernel_rfl) ⟨inferInstance, inferInstance⟩ (fun uy _ => ?_)
    refine wpAnyH_on (i := 0) (d := 52) (v := ?_) rfl rfl (by kernel_rfl) (by kernel_rfl) (by kernel_rfl) (fun _ _ _ h => h) (by kernel_rfl) ⟨prev_bel _ _, ⟨inferInstance, inferInstance⟩⟩ ?_ ?_
    rotate_left
    · rintro uu ⟨pu, r1, r2⟩
      go_simp
      try (with_reducible rfl)
    try simp only [List.set]
    refine wpAnyH_on (i := 1) (d := 53) (v := ?_) rfl rfl (by kernel_rfl) (by kernel_rfl) (by kernel_rfl) (fun _ _ _ h => h) (by kernel_rfl) ⟨prev_bel _ _, ⟨inferInstance, inferInstance⟩⟩ ?_ ?_
    rotate_left
    · rintro uu ⟨pu, r1, r2⟩
      go_simp
      try (with_reducible rfl)
    try simp only [List.set]
    refine wpAnyH_on (i := 2) (d := 54) (v := ?_) rfl rfl (by kernel_rfl) (by kernel_rfl) (by kernel_rfl) (fun _ _ _ h => h) (by kernel_rfl) ⟨prev_bel _ _, ⟨inferInstance, inferInstance⟩⟩ ?_ ?_
    rotate_left
    · rintro uu ⟨pu, r1, r2⟩
      go_simp
      try (with_reducible rfl)
    try simp only [List.set]
    refine wpAnyH_on (i := 3) (d := 55) (v := ?_) rfl rfl (by kernel_rfl) (by kernel_rfl) (by kernel_rfl) (fun _ _ _ h => h) (by kernel_rfl) ⟨prev_bel _ _, ⟨inferInstance, inferInstance⟩⟩ ?_ ?_
    rotate_left
    · rintro uu ⟨pu, r1, r2⟩
      go_simp
      try (with_reducible rfl)
    try simp only [List.set]
    refine wpAnyH_on (i := 4) (d := 56) (v := ?_) rfl rfl (by kernel_rfl) (by kernel_rfl) (by kernel_rfl) (fun _ _ _ h => h) (by kernel_rfl) ⟨prev_bel _ _, ⟨inferInstance, inferInstance⟩⟩ ?_ ?_
    rotate_left
    · rintro uu ⟨pu, r1, r2⟩
      go_simp
      try (with_reducible rfl)
    try simp only [List.set]
    refine wpAnyH_on (i := 5) (d := 57) (v := ?_) rfl rfl (by kernel_rfl) (by kernel_rfl) (by kernel_rfl) (fun _ _ _ h => h) (by kernel_rfl) ⟨prev_bel _ _, ⟨inferInstance, inferInstance⟩⟩ ?_ ?_
    rotate_left
    · rintro uu ⟨pu, r1, r2⟩
      go_simp
      try (with_reducible rfl)
    try simp only [List.set]
    refine wpAnyH_on (i := 6) (d := 58) (v := ?_) rfl rfl (by kernel_rfl) (by kernel_rfl) (by kernel_rfl) (fun _ _ _ h => h) (by kernel_rfl) ⟨prev_bel _ _, ⟨inferInstance, inferInstance⟩⟩ ?_ ?_
    rotate_left
    · rintro uu ⟨pu, r1, r2⟩
      go_simp
      try (with_reducible rfl)
    try simp only [List.set]
    refine wpAnyH_on (i := 7) (d := 59) (v := ?_) rfl rfl (by kernel_rfl) (by kernel_rfl) (by kernel_rfl) (fun _ _ _ h => h) (by kernel_rfl) ⟨prev_bel _ _, ⟨inferInstance, inferInstance⟩⟩ ?_ ?_
    rotate_left
    · rintro uu ⟨pu, r1, r2⟩
      go_simp
      try (with_reducible rfl)
    try simp only [List.set]
    refine wpAnyH_on (i := 8) (d := 60) (v := ?_) rfl rfl (by kernel_rfl) (by kernel_rfl) (by kernel_rfl) (fun _ _ _ h => h) (by kernel_rfl) ⟨prev_bel _ _, ⟨inferInstance, inferInstance⟩⟩ ?_ ?_
    rotate_left
    · rintro uu ⟨pu, r1, r2⟩
      go_simp
      try (with_reducible rfl)
    try simp only [List.set]
    refine wpAnyH_on (i := 9) (d := 61) (v := ?_) rfl rfl (by kernel_rfl) (by kernel_rfl) (by kernel_rfl) (fun _ _ _ h => h) (by kernel_rfl) ⟨prev_bel _ _, ⟨inferInstance, inferInstance⟩⟩ ?_ ?_
    rotate_left
    · rintro uu ⟨pu, r1, r2⟩
      go_simp
      try (with_reducible rfl)
    try simp only [List.set]
    refine wpAnyH_on (i := 10) (d := 62) (v := ?_) rfl rfl (by kernel_rfl) (by kernel_rfl) (by kernel_rfl) (fun _ _ _ h => h) (by kernel_rfl) ⟨prev_bel _ _, ⟨inferInstance, inferInstance⟩⟩ ?_ ?_
    rotate_left
    · rintro uu ⟨pu, r1, r2⟩
      go_simp
      try (with_reducible rfl)
    try simp only [List.set]
    refine wpAnyH_ready (rs := [11]) (by kernel_rfl) (by simp) ?_
    refine AllReadyH.cons rfl (fun K hK => ?_) AllReadyH.nil
    have kp : Bx uy gp 4 (boolC s.pr) := (HW.out.at (w' := uy)).p
    go_simp
    have HJ := Lib.hid ((HW.out.at (w' := uy)).setP id true)
    have SS : ∀ b, b ≠ gp → (uy.setCell ⟨gp, id, none⟩ (.bool true)).heap[b]? = uy.heap[b]? := fun b hb => Below.heap_setCell _ ⟨gp, id, none⟩ _ _ hb
    obtain ⟨v3, hv3⟩ : ∃ W : World, W = uy.setCell ⟨gp, id, none⟩ (.bool true) := ⟨_, rfl⟩
    rw [← hv3] at HJ SS ⊢
    clear hv3
    obtain ⟨HW, -⟩ : _ ∧ True := ⟨HJ, trivial⟩
    clear HJ
    have pv3 := HW.out.pr
    have kW := HW.out.box
    have kp := HW.out.p
    have kv := HW.out.v
    have kg := HW.out.g
    refine hK.out _ _ ⟨pv3, ⟨⟨kW.blk.cell 4⟩, ⟨kW.blk.cell 5⟩⟩⟩ (fun hHeld => ?_)
    clear hHeld hK K
    try dsimp only [Act.put, List.setIfInBounds_toArray, List.set_cons_zero, List.set_cons_succ]
    obtain ⟨uy, rfl⟩ : ∃ v : World, v = v3 := ⟨_, rfl⟩
    have c4 : Ck uy wk 4 (.slice (some ⟨gp, 0, none⟩) n n) := ⟨kW.blk.cell 4⟩
    have c5 : Ck uy wk 5 (.slice (some ⟨gv, 0, none⟩) n n) := ⟨kW.blk.cell 5⟩
    refine wpAnyH_on (i := 12) (d := 63) (v := ?_) rfl rfl (by kernel_rfl) (by kernel_rfl) (by kernel_rfl) (fun _ _ _ h => h) (by kernel_rfl) ⟨prev_bel _ _, ⟨inferInstance, inferInstance⟩⟩ ?_ ?_
    rotate_left
    · rintro uu ⟨pu, r1, r2⟩
      go_simp
      try (with_reducible rfl)
    try simp only [List.set]
    refine wpAnyH_ready (rs := [13]) (by kernel_rfl) (by simp) ?_
    refine AllReadyH.cons rfl (fun K hK => ?_) AllReadyH.nil
    have kv : Bx uy gv 4 (boolC s.sv) := (HW.out.at (w' := uy)).v
    go_simp
    have HJ := Lib.hid ((HW.out.at (w' := uy)).setV id true)
    have SS : ∀ b, b ≠ gv → (uy.setCell ⟨gv, id, none⟩ (.bool true)).heap[b]? = uy.heap[b]? := fun b hb => Below.heap_setCell _ ⟨gv, id, none⟩ _ _ hb
    obtain ⟨v4, hv4⟩ : ∃ W : World, W = uy.setCell ⟨gv, id, none⟩ (.bool true) := ⟨_, rfl⟩
    rw [← hv4] at HJ SS ⊢
    clear hv4
    obtain ⟨HW, -⟩ : _ ∧ True := ⟨HJ, trivial⟩
    clear HJ
    have pv4 := HW.out.pr
    have kW := HW.out.box
    have kp := HW.out.p
    have kv := HW.out.v
    have kg := HW.out.g
    refine hK.out _ _ ⟨pv4, ⟨⟨kW.blk.cell 4⟩, ⟨kW.blk.cell 5⟩⟩⟩ (fun hHeld => ?_)
    clear hHeld hK K
    try dsimp only [Act.put, List.setIfInBounds_toArray, List.set_cons_zero, List.set_cons_succ]
    obtain ⟨uy, rfl⟩ : ∃ v : World, v = v4 := ⟨_, rfl⟩
    have c4 : Ck uy wk 4 (.slice (some ⟨gp, 0, none⟩) n n) := ⟨kW.blk.cell 4⟩
    have c5 : Ck uy wk 5 (.slice (some ⟨gv, 0, none⟩) n n) := ⟨kW.blk.cell 5⟩
    refine wpAnyH_done (by kernel_rfl) ?_ _
    have c1 : Ck uy wk 1 (.slice (some ⟨b1, o1, none⟩) m q) := ⟨kW.blk.cell 1⟩
    go_upto_region 13 with fail
    refine wp_region_upR w0 (fun w9 => Ck w9 wk 1 (.slice (some ⟨b1, o1, none⟩) m q)) (by kernel_rfl) inferInstance (fun uz _ => ?_)
    refine wpAnyH_on (i := 0) (d := 64) (v := ?_) rfl rfl (by kernel_rfl) (by kernel_rfl) (by kernel_rfl) (fun _ _ _ h => h) (by kernel_rfl) ⟨prev_bel _ _, inferInstance⟩ ?_ ?_
    rotate_left
    · rintro uu ⟨pu, r1⟩
      go_simp
      try (with_reducible rfl)
    try simp only [List.set]
    refine wpAnyH_on (i := 1) (d := 65) (v := ?_) rfl rfl (by kernel_rfl) (by kernel_rfl) (by kernel_rfl) (fun _ _ _ h => h) (by kernel_rfl) ⟨prev_bel _ _, inferInstance⟩ ?_ ?_
    rotate_left
    · rintro uu ⟨pu, r1⟩
      go_simp
      try (with_reducible rfl)
    try simp only [List.set]
    refine wpAnyH_on (i := 2) (d := 66) (v := ?_) rfl rfl (by kernel_rfl) (by kernel_rfl) (by kernel_rfl) (fun _ _ _ h => h) (by kernel_rfl) ⟨prev_bel _ _, inferInstance⟩ ?_ ?_
    rotate_left
    · rintro uu ⟨pu, r1⟩
      go_simp
      try (with_reducible rfl)
    try simp only [List.set]
    refine wpAnyH_on (i := 4) (d := 68) (v := ?_) rfl rfl (by kernel_rfl) (by kernel_rfl) (by kernel_rfl) (fun _ _ _ h => h) (by kernel_rfl) ⟨prev_bel _ _, inferInstance⟩ ?_ ?_
    rotate_left
    · rintro uu ⟨pu, r1⟩
      go_simp
      try (with_reducible rfl)
    try simp only [List.set]
    refine wpAnyH_on (i := 5) (d := 69) (v := ?_) rfl rfl (by kernel_rfl) (by kernel_rfl) (by kernel_rfl) (fun _ _ _ h => h) (by kernel_rfl) ⟨prev_bel _ _, inferInstance⟩ ?_ ?_
    rotate_left
    · rintro uu ⟨pu, r1⟩
      go_simp
      try (with_reducible rfl)
    try simp only [List.set]
    refine wpAnyH_on (i := 6) (d := 70) (v := ?_) rfl rfl (by kernel_rfl) (by kernel_rfl) (by kernel_rfl) (fun _ _ _ h => h) (by kernel_rfl) ⟨prev_bel _ _, inferInstance⟩ ?_ ?_
    rotate_left
    · rintro uu ⟨pu, r1⟩
      go_simp
      try (with_reducible rfl)
    try simp only [List.set]
    refine wpAnyH_on (i := 7) (d := 71) (v := ?_) rfl rfl (by kernel_rfl) (by kernel_rfl) (by kernel_rfl) (fun _ _ _ h => h) (by kernel_rfl) ⟨prev_bel _ _, inferInstance⟩ ?_ ?_
    rotate_left
    · rintro uu ⟨pu, r1⟩
      go_simp
      try (with_reducible rfl)
    try simp only [List.set]
    refine wpAnyH_on (i := 8) (d := 72) (v := ?_) rfl rfl (by kernel_rfl) (by kernel_rfl) (by kernel_rfl) (fun _ _ _ h => h) (by kernel_rfl) ⟨prev_bel _ _, inferInstance⟩ ?_ ?_
    rotate_left
    · rintro uu ⟨pu, r1⟩
      go_simp
      try (with_reducible rfl)
    try simp only [List.set]
    refine wpAnyH_on (i := 9) (d := 73) (v := ?_) rfl rfl (by kernel_rfl) (by kernel_rfl) (by kernel_rfl) (fun _ _ _ h => h) (by kernel_rfl) ⟨prev_bel _ _, inferInstance⟩ ?_ ?_
    rotate_left
    · rintro uu ⟨pu, r1⟩
      go_simp
      try (with_reducible rfl)
    try simp only [List.set]
    refine wpAnyH_on (i := 10) (d := 74) (v := ?_) rfl rfl (by kernel_rfl) (by kernel_rfl) (by kernel_rfl) (fun _ _ _ h => h) (by kernel_rfl) ⟨prev_bel _ _, inferInstance⟩ ?_ ?_
    rotate_left
    · rintro uu ⟨pu, r1⟩
      go_simp
      try (with_reducible rfl)
    try simp only [List.set]
    refine wpAnyH_on (i := 11) (d := 75) (v := ?_) rfl rfl (by kernel_rfl) (by kernel_rfl) (by kernel_rfl) (fun _ _ _ h => h) (by kernel_rfl) ⟨prev_bel _ _, inferInstance⟩ ?_ ?_
    rotate_left
    · rintro uu ⟨pu, r1⟩
      go_simp
      try (with_reducible rfl)
    try simp only [List.set]
    refine wpAnyH_on (i := 12) (d := 76) (v := ?_) rfl rfl (by kernel_rfl) (by kernel_rfl) (by kernel_rfl) (fun _ _ _ h => h) (by kernel_rfl) ⟨prev_bel _ _, inferInstance⟩ ?_ ?_
    rotate_left
    · rintro uu ⟨pu, r1⟩
      go_simp
      try (with_reducible rfl)
    try simp only [List.set]
    refine wpAnyH_ready (rs := [3]) (by kernel_rfl) (by simp) ?_
    refine AllReadyH.cons rfl (fun K hK => ?_) AllReadyH.nil
    go_simp
    refine hK.out _ _ ⟨prev_bel w0 _, inferInstance⟩ (fun hHeld => ?_)
    clear hHeld hK K
    try dsimp only [Act.put, List.setIfInBounds_toArray, List.set_cons_zero, List.set_cons_succ]
    refine wpAnyH_on (i := 13) (d := 77) (v := ?_) rfl rfl (by kernel_rfl) (by kernel_rfl) (by kernel_rfl) (fun _ _ _ h => h) (by kernel_rfl) ⟨prev_bel _ _, inferInstance⟩ ?_ ?_
    rotate_left
    · rintro uu ⟨pu, r1⟩
      go_simp
      try (with_reducible rfl)
    try simp only [List.set]
    refine wpAnyH_on (i := 14) (d := 78) (v := ?_) rfl rfl (by kernel_rfl) (by kernel_rfl) (by kernel_rfl) (fun _ _ _ h => h) (by kernel_rfl) ⟨prev_bel _ _, inferInstance⟩ ?_ ?_
    rotate_left
    · rintro uu ⟨pu, r1⟩
      go_simp
      try (with_reducible rfl)
    try simp only [List.set]
    refine wpAnyH_on (i := 15) (d := 79) (v := ?_) rfl rfl (by kernel_rfl) (by kernel_rfl) (by kernel_rfl) (fun _ _ _ h => h) (by kernel_rfl) ⟨prev_bel _ _, inferInstance⟩ ?_ ?_
    rotate_left
    · rintro uu ⟨pu, r1⟩
      go_simp
      try (with_reducible rfl)
    try simp only [List.set]
    refine wpAnyH_ready (rs := [16]) (by kernel_rfl) (by simp) ?_
    refine AllReadyH.cons rfl (fun K hK => ?_) AllReadyH.nil
    go_simp
    have HJ := Lib.hid ((HW.out.at (w' := uz)).setBox (i := 12) (v := .int .i64 (s.co + c.k d)) (s' := ⟨s.pr.set id true, s.sv.set id true, s.gr, s.em, s.sd, s.la, s.wo + x, max s.pk (s.wo + x), s.co + c.k d⟩) rfl rfl rfl rfl)
    have SS : ∀ b, b ≠ wk → (uz.setCell ⟨wk, 12, none⟩ (.int .i64 (s.co + c.k d))).heap[b]? = uz.heap[b]? := fun b hb => Below.heap_setCell _ ⟨wk, 12, none⟩ _ _ hb
    obtain ⟨v5, hv5⟩ : ∃ W : World, W = uz.setCell ⟨wk, 12, none⟩ (.int .i64 (s.co + c.k d)) := ⟨_, rfl⟩
    rw [← hv5] at HJ SS ⊢
    clear hv5
    obtain ⟨HW, -⟩ : _ ∧ True := ⟨HJ, trivial⟩
    clear HJ
    have pv5 := HW.out.pr
    have kW := HW.out.box
    have kp := HW.out.p
    have kv := HW.out.v
    have kg := HW.out.g
    refine hK.out _ _ ⟨pv5, ⟨kW.blk.cell 1⟩⟩ (fun hHeld => ?_)
    clear hHeld hK K
    try dsimp only [Act.put, List.setIfInBounds_toArray, List.set_cons_zero, List.set_cons_succ]
    obtain ⟨uz, rfl⟩ : ∃ v : World, v = v5 := ⟨_, rfl⟩
    refine wpAnyH_done (by kernel_rfl) ?_ _
    go_wp2_with fail
    go_ret
    exact ⟨by rw [HE.out]; rfl, HW.out.pr, Lib.hid fun _ => by rw [HST.out]; exact HW.out⟩
set_option maxRecDepth 100000 in
set_option maxHeartbeats 8000000 in
theorem ch_do_free {x : Int} [a : Sl w0 A n c.W] (hW : Hid (WkM w0 w wk gp gv gg A n p B m q cap s)) (hm : Hid (m = c.n)) (hn : Hid (n = c.n + 1)) (h4 : n ≤ 65) (hi : Hid (insB c.n 3 id = true)) (HL : Hid (s.legal c.n 3 id = true))
    (HX : Hid (Wk.more c 3 id = x)) (hadd : IntKind.i64.wrap (s.wo + x) = s.wo + x) (hc : ¬ cap < s.wo + x) (h2 : id < n) (hwo : IntKind.i64.wrap (s.wo + x - c.w id) = s.wo + x - c.w id) :
    Calls Try.prog 56 #[.pointer (some ⟨wk, 0, none⟩), .agg #[.int .i64 3, .int .i64 id]] w (RetDo w0 wk gp gv gg A n p B m q cap c s 3 id) := by
  have CB := @cell_bx
  have CP := @cell_prev
  have FB := @frozen_bx
  have CC := @cell_ck
  have HE : Hid (s.err c cap 3 id = 0) := Lib.hid (by unfold Wk.err; rw [if_pos HL.out, HX.out, if_neg hc])
  have hpr := hW.out.pr
  have kW := hW.out.box
  have e2 := boolC_at (bs := s.pr) (i := id) (by rw [hW.out.lp]; exact h2)
  obtain ⟨b1, o1, rfl, ob1, w1⟩ := Sl.at_w (c := c) (w := w0) (A := A) (n := n) (l := id) h2
  have HST : Hid (s.step c 3 id = { s.add x with pr := s.pr.set id false, wo := s.wo + x - c.w id }) := Lib.hid (by unfold Wk.step; rw [HX.out]; rfl)
  go_enter Try.func56, Try.ntmps56
  go_upto_region 4 with (first | (go_at_call 95; (with_reducible refine gen_boxK (fun u _ _ => ?_)); (with_reducible refine (ch_legal (hW.out.at (w' := u)).hd hm hn h4 hi).mono ?_); rintro e u ⟨rfl, _⟩; rw [HL.out]) | (go_at_call 96; (with_reducible refine (ch_more (c := c) (hW.out.at (w' := u)).hd hm hn h4 hi).mono ?_); rintro e u ⟨rfl, _⟩; rw [HX.out]))
  refine wp_region_up0 (by kernel_rfl) (fun u1 _ => ?_)
  refine wpAnyH_on (i := 0) (d := 14) (v := ?_) rfl rfl (by kernel_rfl) (by kernel_rfl) (by kernel_rfl) (fun _ _ _ h => h) (by kernel_rfl) (prev_bel _ _) ?_ ?_
  rotate_left
  · intro uu (pu : Prev uu _)
    go_simp
    try (with_reducible rfl)
  try simp only [List.set]
  refine wpAnyH_on (i := 1) (d := 15) (v := ?_) rfl rfl (by kernel_rfl) (by kernel_rfl) (by kernel_rfl) (fun _ _ _ h => h) (by kernel_rfl) (prev_bel _ _) ?_ ?_
  rotate_left
  · intro uu (pu : Prev uu _)
    go_simp
    try (with_reducible rfl)
  try simp only [List.set]
  refine wpAnyH_on (i := 2) (d := 16) (v := ?_) rfl rfl (by kernel_rfl) (by kernel_rfl) (by kernel_rfl) (fun _ _ _ h => h) (by kernel_rfl) (prev_bel _ _) ?_ ?_
  rotate_left
  · intro uu (pu : Prev uu _)
    go_simp
    try (with_reducible rfl)
  try simp only [List.set]
  refine wpAnyH_on (i := 3) (d := 17) (v := ?_) rfl rfl (by kernel_rfl) (by kernel_rfl) (by kernel_rfl) (fun _ _ _ h => h) (by kernel_rfl) (prev_bel _ _) ?_ ?_
  rotate_left
  · intro uu (pu : Prev uu _)
    go_simp
    try (with_reducible rfl)
  try simp only [List.set]
  refine wpAnyH_on (i := 4) (d := 18) (v := ?_) rfl rfl (by kernel_rfl) (by kernel_rfl) (by kernel_rfl) (fun _ _ _ h => h) (by kernel_rfl) (prev_bel _ _) ?_ ?_
  rotate_left
  · intro uu (pu : Prev uu _)
    go_simp
    try (with_reducible rfl)
  try simp only [List.set]
  refine wpAnyH_on (i := 5) (d := 19) (v := ?_) rfl rfl (by kernel_rfl) (by kernel_rfl) (by kernel_rfl) (fun _ _ _ h => h) (by kernel_rfl) (prev_bel _ _) ?_ ?_
  rotate_left
  · intro uu (pu : Prev uu _)
    go_simp
    try (with_reducible rfl)
  try simp only [List.set]
  refine wpAnyH_on (i := 6) (d := 20) (v := ?_) rfl rfl (by kernel_rfl) (by kernel_rfl) (by kernel_rfl) (fun _ _ _ h => h) (by kernel_rfl) (prev_bel _ _) ?_ ?_
  rotate_left
  · intro uu (pu : Prev uu _)
    go_simp
    try (with_reducible rfl)
  try simp only [List.set]
  refine wpAnyH_on (i := 7) (d := 21) (v := ?_) rfl rfl (by kernel_rfl) (by kernel_rfl) (by kernel_rfl) (fun _ _ _ h => h) (by kernel_rfl) (prev_bel _ _) ?_ ?_
  rotate_left
  · intro uu (pu : Prev uu _)
    go_simp
    try (with_reducible rfl)
  try simp only [List.set]
  refine wpAnyH_on (i := 8) (d := 22) (v := ?_) rfl rfl (by kernel_rfl) (by kernel_rfl) (by kernel_rfl) (fun _ _ _ h => h) (by kernel_rfl) (prev_bel _ _) ?_ ?_
  rotate_left
  · intro uu (pu : Prev uu _)
    go_simp
    try (with_reducible rfl)
  try simp only [List.set]
  refine wpAnyH_on (i := 9) (d := 23) (v := ?_) rfl rfl (by kernel_rfl) (by kernel_rfl) (by kernel_rfl) (fun _ _ _ h => h) (by kernel_rfl) (prev_bel _ _) ?_ ?_
  rotate_left
  · intro uu (pu : Prev uu _)
    go_simp
    try (with_reducible rfl)
  try simp only [List.set]
  refine wpAnyH_on (i := 10) (d := 24) (v := ?_) rfl rfl (by kernel_rfl) (by kernel_rfl) (by kernel_rfl) (fun _ _ _ h => h) (by kernel_rfl) (prev_bel _ _) ?_ ?_
  rotate_left
  · intro uu (pu : Prev uu _)
    go_simp
    try (with_reducible rfl)
  try simp only [List.set]
  refine wpAnyH_done (by kernel_rfl) ?_ _
  go_upto_region 7 with fail
  have HW : Hid (WkM w0 (u1.setCell ⟨wk, 10, none⟩ (.int .i64 (s.wo + x))) wk gp gv gg _ n p _ m q cap { s with wo := s.wo + x }) := Lib.hid ((hW.out.at (w' := u1)).setBox (i := 10) (v := .int .i64 (s.wo + x)) (s' := { s with wo := s.wo + x }) rfl rfl rfl rfl)
  have kI : Bx (u1.setCell ⟨wk, 10, none⟩ (.int .i64 (s.wo + x))) w.heap.size 108 #[.int .i64 3, .int .i64 id] := ⟨(Below.heap_setCell _ ⟨wk, 10, none⟩ _ _ ((Bx.blk (w := u1) (g := w.heap.size)).ne_typ (kW.blk.at (w' := u1)) (by decide))).trans (Bx.blk (w := u1))⟩
  obtain ⟨v1, hv1⟩ : ∃ W : World, W = u1.setCell ⟨wk, 10, none⟩ (.int .i64 (s.wo + x)) := ⟨_, rfl⟩
  rw [← hv1] at HW kI ⊢
  clear hv1
  have pv1 := HW.out.pr
  have kW := HW.out.box
  have c10 : Ck v1 wk 10 (.int .i64 (s.wo + x)) := ⟨kW.blk.cell 10⟩
  refine wp_region_upR w0 (fun w9 => Ck w9 wk 10 (.int .i64 (s.wo + x))) (by kernel_rfl) inferInstance (fun ux _ => ?_)
  refine wpAnyH_on (i := 0) (d := 33) (v := ?_) rfl rfl (by kernel_rfl) (by kernel_rfl) (by kernel_rfl) (fun _ _ _ h => h) (by kernel_rfl) ⟨prev_bel _ _, inferInstance⟩ ?_ ?_
  rotate_left
  · rintro uu ⟨pu, r1⟩
    go_simp
    try (with_reducible rfl)
  try simp only [List.set]
  refine wpAnyH_on (i := 1) (d := 34) (v := ?_) rfl rfl (by kernel_rfl) (by kernel_rfl) (by kernel_rfl) (fun _ _ _ h => h) (by kernel_rfl) ⟨prev_bel _ _, inferInstance⟩ ?_ ?_
  rotate_left
  · rintro uu ⟨pu, r1⟩
    go_simp
    try (with_reducible rfl)
  try simp only [List.set]
  refine wpAnyH_on (i := 2) (d := 35) (v := ?_) rfl rfl (by kernel_rfl) (by kernel_rfl) (by kernel_rfl) (fun _ _ _ h => h) (by kernel_rfl) ⟨prev_bel _ _, inferInstance⟩ ?_ ?_
  rotate_left
  · rintro uu ⟨pu, r1⟩
    go_simp
    try (with_reducible rfl)
  try simp only [List.set]
  refine wpAnyH_on (i := 3) (d := 36) (v := ?_) rfl rfl (by kernel_rfl) (by kernel_rfl) (by kernel_rfl) (fun _ _ _ h => h) (by kernel_rfl) ⟨prev_bel _ _, inferInstance⟩ ?_ ?_
  rotate_left
  · rintro uu ⟨pu, r1⟩
    go_simp
    try (with_reducible rfl)
  try simp only [List.set]
  refine wpAnyH_on (i := 5) (d := 38) (v := ?_) rfl rfl (by kernel_rfl) (by kernel_rfl) (by kernel_rfl) (fun _ _ _ h => h) (by kernel_rfl) ⟨prev_bel _ _, inferInstance⟩ ?_ ?_
  rotate_left
  · rintro uu ⟨pu, r1⟩
    go_simp
    try (with_reducible rfl)
  try simp only [List.set]
  refine wpAnyH_on (i := 6) (d := 39) (v := ?_) rfl rfl (by kernel_rfl) (by kernel_rfl) (by kernel_rfl) (fun _ _ _ h => h) (by kernel_rfl) ⟨prev_bel _ _, inferInstance⟩ ?_ ?_
  rotate_left
  · rintro uu ⟨pu, r1⟩
    go_simp
    try (with_reducible rfl)
  try simp only [List.set]
  refine wpAnyH_on (i := 7) (d := 40) (v := ?_) rfl rfl (by kernel_rfl) (by kernel_rfl) (by kernel_rfl) (fun _ _ _ h => h) (by kernel_rfl) ⟨prev_bel _ _, inferInstance⟩ ?_ ?_
  rotate_left
  · rintro uu ⟨pu, r1⟩
    go_simp
    try (with_reducible rfl)
  try simp only [List.set]
  refine wpAnyH_on (i := 8) (d := 41) (v := ?_) rfl rfl (by kernel_rfl) (by kernel_rfl) (by kernel_rfl) (fun _ _ _ h => h) (by kernel_rfl) ⟨prev_bel _ _, inferInstance⟩ ?_ ?_
  rotate_left
  · rintro uu ⟨pu, r1⟩
    go_simp
    try (with_reducible rfl)
  try simp only [List.set]
  refine wpAnyH_ready (rs := [4]) (by kernel_rfl) (by simp) ?_
  refine AllReadyH.cons rfl (fun K hK => ?_) AllReadyH.nil
  go_simp
  refine hK.out _ _ ⟨prev_bel w0 _, inferInstance⟩ (fun hHeld => ?_)
  clear hHeld hK K
  try dsimp only [Act.put, List.setIfInBounds_toArray, List.set_cons_zero, List.set_cons_succ]
  refine wpAnyH_on (i := 9) (d := 42) (v := ?_) rfl rfl (by kernel_rfl) (by kernel_rfl) (by kernel_rfl) (fun _ _ _ h => h) (by kernel_rfl) ⟨prev_bel _ _, inferInstance⟩ ?_ ?_
  rotate_left
  · rintro uu ⟨pu, r1⟩
    go_simp
    try (with_reducible rfl)
  try simp only [List.set]
  refine wpAnyH_on (i := 10) (d := 43) (v := ?_) rfl rfl (by kernel_rfl) (by kernel_rfl) (by kernel_rfl) (fun _ _ _ h => h) (by kernel_rfl) ⟨prev_bel _ _, inferInstance⟩ ?_ ?_
  rotate_left
  · rintro uu ⟨pu, r1⟩
    go_simp
    try (with_reducible rfl)
  try simp only [List.set]
  refine wpAnyH_on (i := 11) (d := 44) (v := ?_) rfl rfl (by kernel_rfl) (by kernel_rfl) (by kernel_rfl) (fun _ _ _ h => h) (by kernel_rfl) ⟨prev_bel _ _, inferInstance⟩ ?_ ?_
  rotate_left
  · rintro uu ⟨pu, r1⟩
    go_simp
    try (with_reducible rfl)
  try simp only [List.set]
  refine wpAnyH_ready (rs := [12]) (by kernel_rfl) (by simp) ?_
  refine AllReadyH.cons rfl (fun K hK => ?_) AllReadyH.nil
  go_simp
  have HJ := Lib.hid (((HW.out.at (w' := ux)).setBox (i := 11) (v := .int .i64 (max s.pk (s.wo + x))) (s' := ⟨s.pr, s.sv, s.gr, s.em, s.sd, s.la, s.wo + x, max s.pk (s.wo + x), s.co⟩) rfl rfl rfl rfl))
  have SS : ∀ b, b ≠ wk → (ux.setCell ⟨wk, 11, none⟩ (.int .i64 (max s.pk (s.wo + x)))).heap[b]? = ux.heap[b]? := fun b hb => Below.heap_setCell _ ⟨wk, 11, none⟩ _ _ hb
  obtain ⟨v2, hv2⟩ : ∃ W : World, W = ux.setCell ⟨wk, 11, none⟩ (.int .i64 (max s.pk (s.wo + x))) := ⟨_, rfl⟩
  rw [← hv2] at HJ SS ⊢
  clear hv2
  obtain ⟨HW, -⟩ : _ ∧ True := ⟨HJ, trivial⟩
  clear HJ
  have pv2 := HW.out.pr
  have kW := HW.out.box
  have kp := HW.out.p
  have kv := HW.out.v
  have kg := HW.out.g
  refine hK.out _ _ ⟨pv2, ⟨kW.blk.cell 10⟩⟩ (fun hHeld => ?_)
  clear hHeld hK K
  try dsimp only [Act.put, List.setIfInBounds_toArray, List.set_cons_zero, List.set_cons_succ]
  obtain ⟨ux, rfl⟩ : ∃ v : World, v = v2 := ⟨_, rfl⟩
  refine wpAnyH_done (by kernel_rfl) ?_ _
  skip
  have kI : Bx ux w.heap.size 108 #[.int .i64 3, .int .i64 id] := ⟨(SS _ (kI.blk.ne_typ (Bx.blk (w := v1) (g := wk)) (by decide))).trans kI.blk.at⟩
  go_upto_region 16 with fail
  have HJ := Lib.hid ((HW.out.at (w' := ux)).setP id false)
  obtain ⟨v3, hv3⟩ : ∃ W : World, W = (ux).setCell ⟨gp, id, none⟩ (.bool false) := ⟨_, rfl⟩
  rw [← hv3] at HJ ⊢
  clear hv3 HW
  obtain ⟨HW, -⟩ : _ ∧ True := ⟨HJ, trivial⟩
  clear HJ
  have pv3 := HW.out.pr
  have kW := HW.out.box
  have kp := HW.out.p
  have kv := HW.out.v
  have kg := HW.out.g
  have c1 : Ck v3 wk 0 (.slice (some ⟨b1, o1, none⟩) n p) := ⟨kW.blk.cell 0⟩
  refine wp_region_upR w0 (fun w9 => Ck w9 wk 0 (.slice (some ⟨b1, o1, none⟩) n p)) (by kernel_rfl) inferInstance (fun uz _ => ?_)
  refine wpAnyH_on (i := 0) (d := 88) (v := ?_) rfl rfl (by kernel_rfl) (by kernel_rfl) (by kernel_rfl) (fun _ _ _ h => h) (by kernel_rfl) ⟨prev_bel _ _, inferInstance⟩ ?_ ?_
  rotate_left
  · rintro uu ⟨pu, r1⟩
    go_simp
    try (with_reducible rfl)
  try simp only [List.set]
  refine wpAnyH_on (i := 1) (d := 89) (v := ?_) rfl rfl (by kernel_rfl) (by kernel_rfl) (by kernel_rfl) (fun _ _ _ h => h) (by kernel_rfl) ⟨prev_bel _ _, inferInstance⟩ ?_ ?_
  rotate_left
  · rintro uu ⟨pu, r1⟩
    go_simp
    try (with_reducible rfl)
  try simp only [List.set]
  refine wpAnyH_on (i := 2) (d := 90) (v := ?_) rfl rfl (by kernel_rfl) (by kernel_rfl) (by kernel_rfl) (fun _ _ _ h => h) (by kernel_rfl) ⟨prev_bel _ _, inferInstance⟩ ?_ ?_
  rotate_left
  · rintro uu ⟨pu, r1⟩
    go_simp
    try (with_reducible rfl)
  try simp only [List.set]
  refine wpAnyH_on (i := 4) (d := 92) (v := ?_) rfl rfl (by kernel_rfl) (by kernel_rfl) (by kernel_rfl) (fun _ _ _ h => h) (by kernel_rfl) ⟨prev_bel _ _, inferInstance⟩ ?_ ?_
  rotate_left
  · rintro uu ⟨pu, r1⟩
    go_simp
    try (with_reducible rfl)
  try simp only [List.set]
  refine wpAnyH_on (i := 5) (d := 93) (v := ?_) rfl rfl (by kernel_rfl) (by kernel_rfl) (by kernel_rfl) (fun _ _ _ h => h) (by kernel_rfl) ⟨prev_bel _ _, inferInstance⟩ ?_ ?_
  rotate_left
  · rintro uu ⟨pu, r1⟩
    go_simp
    try (with_reducible rfl)
  try simp only [List.set]
  refine wpAnyH_on (i := 6) (d := 94) (v := ?_) rfl rfl (by kernel_rfl) (by kernel_rfl) (by kernel_rfl) (fun _ _ _ h => h) (by kernel_rfl) ⟨prev_bel _ _, inferInstance⟩ ?_ ?_
  rotate_left
  · rintro uu ⟨pu, r1⟩
    go_simp
    try (with_reducible rfl)
  try simp only [List.set]
  refine wpAnyH_on (i := 7) (d := 95) (v := ?_) rfl rfl (by kernel_rfl) (by kernel_rfl) (by kernel_rfl) (fun _ _ _ h => h) (by kernel_rfl) ⟨prev_bel _ _, inferInstance⟩ ?_ ?_
  rotate_left
  · rintro uu ⟨pu, r1⟩
    go_simp
    try (with_reducible rfl)
  try simp only [List.set]
  refine wpAnyH_on (i := 8) (d := 96) (v := ?_) rfl rfl (by kernel_rfl) (by kernel_rfl) (by kernel_rfl) (fun _ _ _ h => h) (by kernel_rfl) ⟨prev_bel _ _, inferInstance⟩ ?_ ?_
  rotate_left
  · rintro uu ⟨pu, r1⟩
    go_simp
    try (with_reducible rfl)
  try simp only [List.set]
  refine wpAnyH_on (i := 9) (d := 97) (v := ?_) rfl rfl (by kernel_rfl) (by kernel_rfl) (by kernel_rfl) (fun _ _ _ h => h) (by kernel_rfl) ⟨prev_bel _ _, inferInstance⟩ ?_ ?_
  rotate_left
  · rintro uu ⟨pu, r1⟩
    go_simp
    try (with_reducible rfl)
  try simp only [List.set]
  refine wpAnyH_on (i := 10) (d := 98) (v := ?_) rfl rfl (by kernel_rfl) (by kernel_rfl) (by kernel_rfl) (fun _ _ _ h => h) (by kernel_rfl) ⟨prev_bel _ _, inferInstance⟩ ?_ ?_
  rotate_left
  · rintro uu ⟨pu, r1⟩
    go_simp
    try (with_reducible rfl)
  try simp only [List.set]
  refine wpAnyH_on (i := 11) (d := 99) (v := ?_) rfl rfl (by kernel_rfl) (by kernel_rfl) (by kernel_rfl) (fun _ _ _ h => h) (by kernel_rfl) ⟨prev_bel _ _, inferInstance⟩ ?_ ?_
  rotate_left
  · rintro uu ⟨pu, r1⟩
    go_simp
    try (with_reducible rfl)
  try simp only [List.set]
  refine wpAnyH_ready (rs := [3]) (by kernel_rfl) (by simp) ?_
  refine AllReadyH.cons rfl (fun K hK => ?_) AllReadyH.nil
  go_simp
  refine hK.out _ _ ⟨prev_bel w0 _, inferInstance⟩ (fun hHeld => ?_)
  clear hHeld hK K
  try dsimp only [Act.put, List.setIfInBounds_toArray, List.set_cons_zero, List.set_cons_succ]
  refine wpAnyH_on (i := 12) (d := 100) (v := ?_) rfl rfl (by kernel_rfl) (by kernel_rfl) (by kernel_rfl) (fun _ _ _ h => h) (by kernel_rfl) ⟨prev_bel _ _, inferInstance⟩ ?_ ?_
  rotate_left
  · rintro uu ⟨pu, r1⟩
    go_simp
    try (with_reducible rfl)
  try simp only [List.set]
  refine wpAnyH_on (i := 13) (d := 101) (v := ?_) rfl rfl (by kernel_rfl) (by kernel_rfl) (by kernel_rfl) (fun _ _ _ h => h) (by kernel_rfl) ⟨prev_bel _ _, inferInstance⟩ ?_ ?_
  rotate_left
  · rintro uu ⟨pu, r1⟩
    go_simp
    try (with_reducible rfl)
  try simp only [List.set]
  refine wpAnyH_on (i := 14) (d := 102) (v := ?_) rfl rfl (by kernel_rfl) (by kernel_rfl) (by kernel_rfl) (fun _ _ _ h => h) (by kernel_rfl) ⟨prev_bel _ _, inferInstance⟩ ?_ ?_
  rotate_left
  · rintro uu ⟨pu, r1⟩
    go_simp
    try (with_reducible rfl)
  try simp only [List.set]
  refine wpAnyH_ready (rs := [15]) (by kernel_rfl) (by simp) ?_
  refine AllReadyH.cons rfl (fun K hK => ?_) AllReadyH.nil
  go_simp
  have HJ := Lib.hid ((HW.out.at (w' := uz)).setBox (i := 10) (v := .int .i64 (s.wo + x - c.w id)) (s' := ⟨s.pr.set id false, s.sv, s.gr, s.em, s.sd, s.la, s.wo + x - c.w id, max s.pk (s.wo + x), s.co⟩) rfl rfl rfl rfl)
  have SS : ∀ b, b ≠ wk → (uz.setCell ⟨wk, 10, none⟩ (.int .i64 (s.wo + x - c.w id))).heap[b]? = uz.heap[b]? := fun b hb => Below.heap_setCell _ ⟨wk, 10, none⟩ _ _ hb
  obtain ⟨v5, hv5⟩ : ∃ W : World, W = uz.setCell ⟨wk, 10, none⟩ (.int .i64 (s.wo + x - c.w id)) := ⟨_, rfl⟩
  rw [← hv5] at HJ SS ⊢
  clear hv5
  obtain ⟨HW, -⟩ : _ ∧ True := ⟨HJ, trivial⟩
  clear HJ
  have pv5 := HW.out.pr
  have kW := HW.out.box
  have kp := HW.out.p
  have kv := HW.out.v
  have kg := HW.out.g
  refine hK.out _ _ ⟨pv5, ⟨kW.blk.cell 0⟩⟩ (fun hHeld => ?_)
  clear hHeld hK K
  try dsimp only [Act.put, List.setIfInBounds_toArray, List.set_cons_zero, List.set_cons_succ]
  obtain ⟨uz, rfl⟩ : ∃ v : World, v = v5 := ⟨_, rfl⟩
  refine wpAnyH_done (by kernel_rfl) ?_ _
  go_wp2_with fail
  go_ret
  exact ⟨by rw [HE.out]; rfl, HW.out.pr, Lib.hid fun _ => by rw [HST.out]; exact HW.out⟩
set_option maxRecDepth 100000 in
set_option maxHeartbeats 8000000 in
theorem ch_do_emit {x : Int} [a : Sl w0 A n c.W] (hW : Hid (WkM w0 w wk gp gv gg A n p B m q cap s)) (hm : Hid (m = c.n)) (hn : Hid (n = c.n + 1)) (h4 : n ≤ 65) (hi : Hid (insB c.n 4 id = true)) (HL : Hid (s.legal c.n 4 id = true))
    (HX : Hid (Wk.more c 4 id = x)) (hadd : IntKind.i64.wrap (s.wo + x) = s.wo + x) (hc : ¬ cap < s.wo + x) :
    Calls Try.prog 56 #[.pointer (some ⟨wk, 0, none⟩), .agg #[.int .i64 4, .int .i64 id]] w (RetDo w0 wk gp gv gg A n p B m q cap c s 4 id) := by
  have CB := @cell_bx
  have CP := @cell_prev
  have FB := @frozen_bx
  have CC := @cell_ck
  have HE : Hid (s.err c cap 4 id = 0) := Lib.hid (by unfold Wk.err; rw [if_pos HL.out, HX.out, if_neg hc])
  have hpr := hW.out.pr
  have kW := hW.out.box
  have HST : Hid (s.step c 4 id = { s.add x with em := true }) := Lib.hid (by unfold Wk.step; rw [HX.out]; rfl)
  go_enter Try.func56, Try.ntmps56
  go_upto_region 4 with (first | (go_at_call 95; (with_reducible refine gen_boxK (fun u _ _ => ?_)); (with_reducible refine (ch_legal (hW.out.at (w' := u)).hd hm hn h4 hi).mono ?_); rintro e u ⟨rfl, _⟩; rw [HL.out]) | (go_at_call 96; (with_reducible refine (ch_more (c := c) (hW.out.at (w' := u)).hd hm hn h4 hi).mono ?_); rintro e u ⟨rfl, _⟩; rw [HX.out]))
  refine wp_region_up0 (by kernel_rfl) (fun u1 _ => ?_)
  refine wpAnyH_on (i := 0) (d := 14) (v := ?_) rfl rfl (by kernel_rfl) (by kernel_rfl) (by kernel_rfl) (fun _ _ _ h => h) (by kernel_rfl) (prev_bel _ _) ?_ ?_
  rotate_left
  · intro uu (pu : Prev uu _)
    go_simp
    try (with_reducible rfl)
  try simp only [List.set]
  refine wpAnyH_on (i := 1) (d := 15) (v := ?_) rfl rfl (by kernel_rfl) (by kernel_rfl) (by kernel_rfl) (fun _ _ _ h => h) (by kernel_rfl) (prev_bel _ _) ?_ ?_
  rotate_left
  · intro uu (pu : Prev uu _)
    go_simp
    try (with_reducible rfl)
  try simp only [List.set]
  refine wpAnyH_on (i := 2) (d := 16) (v := ?_) rfl rfl (by kernel_rfl) (by kernel_rfl) (by kernel_rfl) (fun _ _ _ h => h) (by kernel_rfl) (prev_bel _ _) ?_ ?_
  rotate_left
  · intro uu (pu : Prev uu _)
    go_simp
    try (with_reducible rfl)
  try simp only [List.set]
  refine wpAnyH_on (i := 3) (d := 17) (v := ?_) rfl rfl (by kernel_rfl) (by kernel_rfl) (by kernel_rfl) (fun _ _ _ h => h) (by kernel_rfl) (prev_bel _ _) ?_ ?_
  rotate_left
  · intro uu (pu : Prev uu _)
    go_simp
    try (with_reducible rfl)
  try simp only [List.set]
  refine wpAnyH_on (i := 4) (d := 18) (v := ?_) rfl rfl (by kernel_rfl) (by kernel_rfl) (by kernel_rfl) (fun _ _ _ h => h) (by kernel_rfl) (prev_bel _ _) ?_ ?_
  rotate_left
  · intro uu (pu : Prev uu _)
    go_simp
    try (with_reducible rfl)
  try simp only [List.set]
  refine wpAnyH_on (i := 5) (d := 19) (v := ?_) rfl rfl (by kernel_rfl) (by kernel_rfl) (by kernel_rfl) (fun _ _ _ h => h) (by kernel_rfl) (prev_bel _ _) ?_ ?_
  rotate_left
  · intro uu (pu : Prev uu _)
    go_simp
    try (with_reducible rfl)
  try simp only [List.set]
  refine wpAnyH_on (i := 6) (d := 20) (v := ?_) rfl rfl (by kernel_rfl) (by kernel_rfl) (by kernel_rfl) (fun _ _ _ h => h) (by kernel_rfl) (prev_bel _ _) ?_ ?_
  rotate_left
  · intro uu (pu : Prev uu _)
    go_simp
    try (with_reducible rfl)
  try simp only [List.set]
  refine wpAnyH_on (i := 7) (d := 21) (v := ?_) rfl rfl (by kernel_rfl) (by kernel_rfl) (by kernel_rfl) (fun _ _ _ h => h) (by kernel_rfl) (prev_bel _ _) ?_ ?_
  rotate_left
  · intro uu (pu : Prev uu _)
    go_simp
    try (with_reducible rfl)
  try simp only [List.set]
  refine wpAnyH_on (i := 8) (d := 22) (v := ?_) rfl rfl (by kernel_rfl) (by kernel_rfl) (by kernel_rfl) (fun _ _ _ h => h) (by kernel_rfl) (prev_bel _ _) ?_ ?_
  rotate_left
  · intro uu (pu : Prev uu _)
    go_simp
    try (with_reducible rfl)
  try simp only [List.set]
  refine wpAnyH_on (i := 9) (d := 23) (v := ?_) rfl rfl (by kernel_rfl) (by kernel_rfl) (by kernel_rfl) (fun _ _ _ h => h) (by kernel_rfl) (prev_bel _ _) ?_ ?_
  rotate_left
  · intro uu (pu : Prev uu _)
    go_simp
    try (with_reducible rfl)
  try simp only [List.set]
  refine wpAnyH_on (i := 10) (d := 24) (v := ?_) rfl rfl (by kernel_rfl) (by kernel_rfl) (by kernel_rfl) (fun _ _ _ h => h) (by kernel_rfl) (prev_bel _ _) ?_ ?_
  rotate_left
  · intro uu (pu : Prev uu _)
    go_simp
    try (with_reducible rfl)
  try simp only [List.set]
  refine wpAnyH_done (by kernel_rfl) ?_ _
  go_upto_region 7 with fail
  have HW : Hid (WkM w0 (u1.setCell ⟨wk, 10, none⟩ (.int .i64 (s.wo + x))) wk gp gv gg _ n p _ m q cap { s with wo := s.wo + x }) := Lib.hid ((hW.out.at (w' := u1)).setBox (i := 10) (v := .int .i64 (s.wo + x)) (s' := { s with wo := s.wo + x }) rfl rfl rfl rfl)
  have kI : Bx (u1.setCell ⟨wk, 10, none⟩ (.int .i64 (s.wo + x))) w.heap.size 108 #[.int .i64 4, .int .i64 id] := ⟨(Below.heap_setCell _ ⟨wk, 10, none⟩ _ _ ((Bx.blk (w := u1) (g := w.heap.size)).ne_typ (kW.blk.at (w' := u1)) (by decide))).trans (Bx.blk (w := u1))⟩
  obtain ⟨v1, hv1⟩ : ∃ W : World, W = u1.setCell ⟨wk, 10, none⟩ (.int .i64 (s.wo + x)) := ⟨_, rfl⟩
  rw [← hv1] at HW kI ⊢
  clear hv1
  have pv1 := HW.out.pr
  have kW := HW.out.box
  have c10 : Ck v1 wk 10 (.int .i64 (s.wo + x)) := ⟨kW.blk.cell 10⟩
  refine wp_region_upR w0 (fun w9 => Ck w9 wk 10 (.int .i64 (s.wo + x))) (by kernel_rfl) inferInstance (fun ux _ => ?_)
  refine wpAnyH_on (i := 0) (d := 33) (v := ?_) rfl rfl (by kernel_rfl) (by kernel_rfl) (by kernel_rfl) (fun _ _ _ h => h) (by kernel_rfl) ⟨prev_bel _ _, inferInstance⟩ ?_ ?_
  rotate_left
  · rintro uu ⟨pu, r1⟩
    go_simp
    try (with_reducible rfl)
  try simp only [List.set]
  refine wpAnyH_on (i := 1) (d := 34) (v := ?_) rfl rfl (by kernel_rfl) (by kernel_rfl) (by kernel_rfl) (fun _ _ _ h => h) (by kernel_rfl) ⟨prev_bel _ _, inferInstance⟩ ?_ ?_
  rotate_left
  · rintro uu ⟨pu, r1⟩
    go_simp
    try (with_reducible rfl)
  try simp only [List.set]
  refine wpAnyH_on (i := 2) (d := 35) (v := ?_) rfl rfl (by kernel_rfl) (by kernel_rfl) (by kernel_rfl) (fun _ _ _ h => h) (by kernel_rfl) ⟨prev_bel _ _, inferInstance⟩ ?_ ?_
  rotate_left
  · rintro uu ⟨pu, r1⟩
    go_simp
    try (with_reducible rfl)
  try simp only [List.set]
  refine wpAnyH_on (i := 3) (d := 36) (v := ?_) rfl rfl (by kernel_rfl) (by kernel_rfl) (by kernel_rfl) (fun _ _ _ h => h) (by kernel_rfl) ⟨prev_bel _ _, inferInstance⟩ ?_ ?_
  rotate_left
  · rintro uu ⟨pu, r1⟩
    go_simp
    try (with_reducible rfl)
  try simp only [List.set]
  refine wpAnyH_on (i := 5) (d := 38) (v := ?_) rfl rfl (by kernel_rfl) (by kernel_rfl) (by kernel_rfl) (fun _ _ _ h => h) (by kernel_rfl) ⟨prev_bel _ _, inferInstance⟩ ?_ ?_
  rotate_left
  · rintro uu ⟨pu, r1⟩
    go_simp
    try (with_reducible rfl)
  try simp only [List.set]
  refine wpAnyH_on (i := 6) (d := 39) (v := ?_) rfl rfl (by kernel_rfl) (by kernel_rfl) (by kernel_rfl) (fun _ _ _ h => h) (by kernel_rfl) ⟨prev_bel _ _, inferInstance⟩ ?_ ?_
  rotate_left
  · rintro uu ⟨pu, r1⟩
    go_simp
    try (with_reducible rfl)
  try simp only [List.set]
  refine wpAnyH_on (i := 7) (d := 40) (v := ?_) rfl rfl (by kernel_rfl) (by kernel_rfl) (by kernel_rfl) (fun _ _ _ h => h) (by kernel_rfl) ⟨prev_bel _ _, inferInstance⟩ ?_ ?_
  rotate_left
  · rintro uu ⟨pu, r1⟩
    go_simp
    try (with_reducible rfl)
  try simp only [List.set]
  refine wpAnyH_on (i := 8) (d := 41) (v := ?_) rfl rfl (by kernel_rfl) (by kernel_rfl) (by kernel_rfl) (fun _ _ _ h => h) (by kernel_rfl) ⟨prev_bel _ _, inferInstance⟩ ?_ ?_
  rotate_left
  · rintro uu ⟨pu, r1⟩
    go_simp
    try (with_reducible rfl)
  try simp only [List.set]
  refine wpAnyH_ready (rs := [4]) (by kernel_rfl) (by simp) ?_
  refine AllReadyH.cons rfl (fun K hK => ?_) AllReadyH.nil
  go_simp
  refine hK.out _ _ ⟨prev_bel w0 _, inferInstance⟩ (fun hHeld => ?_)
  clear hHeld hK K
  try dsimp only [Act.put, List.setIfInBounds_toArray, List.set_cons_zero, List.set_cons_succ]
  refine wpAnyH_on (i := 9) (d := 42) (v := ?_) rfl rfl (by kernel_rfl) (by kernel_rfl) (by kernel_rfl) (fun _ _ _ h => h) (by kernel_rfl) ⟨prev_bel _ _, inferInstance⟩ ?_ ?_
  rotate_left
  · rintro uu ⟨pu, r1⟩
    go_simp
    try (with_reducible rfl)
  try simp only [List.set]
  refine wpAnyH_on (i := 10) (d := 43) (v := ?_) rfl rfl (by kernel_rfl) (by kernel_rfl) (by kernel_rfl) (fun _ _ _ h => h) (by kernel_rfl) ⟨prev_bel _ _, inferInstance⟩ ?_ ?_
  rotate_left
  · rintro uu ⟨pu, r1⟩
    go_simp
    try (with_reducible rfl)
  try simp only [List.set]
  refine wpAnyH_on (i := 11) (d := 44) (v := ?_) rfl rfl (by kernel_rfl) (by kernel_rfl) (by kernel_rfl) (fun _ _ _ h => h) (by kernel_rfl) ⟨prev_bel _ _, inferInstance⟩ ?_ ?_
  rotate_left
  · rintro uu ⟨pu, r1⟩
    go_simp
    try (with_reducible rfl)
  try simp only [List.set]
  refine wpAnyH_ready (rs := [12]) (by kernel_rfl) (by simp) ?_
  refine AllReadyH.cons rfl (fun K hK => ?_) AllReadyH.nil
  go_simp
  have HJ := Lib.hid (((HW.out.at (w' := ux)).setBox (i := 11) (v := .int .i64 (max s.pk (s.wo + x))) (s' := ⟨s.pr, s.sv, s.gr, s.em, s.sd, s.la, s.wo + x, max s.pk (s.wo + x), s.co⟩) rfl rfl rfl rfl))
  have SS : ∀ b, b ≠ wk → (ux.setCell ⟨wk, 11, none⟩ (.int .i64 (max s.pk (s.wo + x)))).heap[b]? = ux.heap[b]? := fun b hb => Below.heap_setCell _ ⟨wk, 11, none⟩ _ _ hb
  obtain ⟨v2, hv2⟩ : ∃ W : World, W = ux.setCell ⟨wk, 11, none⟩ (.int .i64 (max s.pk (s.wo + x))) := ⟨_, rfl⟩
  rw [← hv2] at HJ SS ⊢
  clear hv2
  obtain ⟨HW, -⟩ : _ ∧ True := ⟨HJ, trivial⟩
  clear HJ
  have pv2 := HW.out.pr
  have kW := HW.out.box
  have kp := HW.out.p
  have kv := HW.out.v
  have kg := HW.out.g
  refine hK.out _ _ ⟨pv2, ⟨kW.blk.cell 10⟩⟩ (fun hHeld => ?_)
  clear hHeld hK K
  try dsimp only [Act.put, List.setIfInBounds_toArray, List.set_cons_zero, List.set_cons_succ]
  obtain ⟨ux, rfl⟩ : ∃ v : World, v = v2 := ⟨_, rfl⟩
  refine wpAnyH_done (by kernel_rfl) ?_ _
  skip
  have kI : Bx ux w.heap.size 108 #[.int .i64 4, .int .i64 id] := ⟨(SS _ (kI.blk.ne_typ (Bx.blk (w := v1) (g := wk)) (by decide))).trans kI.blk.at⟩
  go_upto_region 25 with fail
  have HJ := Lib.hid ((HW.out.at (w' := ux)).setBox (i := 7) (v := .bool true) (s' := ⟨s.pr, s.sv, s.gr, true, s.sd, s.la, s.wo + x, max s.pk (s.wo + x), s.co⟩) rfl rfl rfl rfl)
  obtain ⟨v3, hv3⟩ : ∃ W : World, W = (ux).setCell ⟨wk, 7, none⟩ (.bool true) := ⟨_, rfl⟩
  rw [← hv3] at HJ ⊢
  clear hv3 HW
  obtain ⟨HW, -⟩ : _ ∧ True := ⟨HJ, trivial⟩
  clear HJ
  have pv3 := HW.out.pr
  have kW := HW.out.box
  have kp := HW.out.p
  have kv := HW.out.v
  have kg := HW.out.g
  go_wp2_with fail
  go_ret
  exact ⟨by rw [HE.out]; rfl, HW.out.pr, Lib.hid fun _ => by rw [HST.out]; exact HW.out⟩
set_option maxRecDepth 100000 in
set_option maxHeartbeats 8000000 in
theorem ch_do_seed {x : Int} [a : Sl w0 A n c.W] (hW : Hid (WkM w0 w wk gp gv gg A n p B m q cap s)) (hm : Hid (m = c.n)) (hn : Hid (n = c.n + 1)) (h4 : n ≤ 65) (hi : Hid (insB c.n 5 id = true)) (HL : Hid (s.legal c.n 5 id = true))
    (HX : Hid (Wk.more c 5 id = x)) (hadd : IntKind.i64.wrap (s.wo + x) = s.wo + x) (hc : ¬ cap < s.wo + x) :
    Calls Try.prog 56 #[.pointer (some ⟨wk, 0, none⟩), .agg #[.int .i64 5, .int .i64 id]] w (RetDo w0 wk gp gv gg A n p B m q cap c s 5 id) := by
  have CB := @cell_bx
  have CP := @cell_prev
  have FB := @frozen_bx
  have CC := @cell_ck
  have HE : Hid (s.err c cap 5 id = 0) := Lib.hid (by unfold Wk.err; rw [if_pos HL.out, HX.out, if_neg hc])
  have hpr := hW.out.pr
  have kW := hW.out.box
  have hmn : m < n := by have := hm.out; have := hn.out; omega
  have e2 := boolC_at (bs := s.gr) (i := m) (by rw [hW.out.lg]; exact hmn)
  have HST : Hid (s.step c 5 id = { s.add x with sd := true, gr := s.gr.set m true }) := Lib.hid (by unfold Wk.step; rw [HX.out, hm.out]; rfl)
  go_enter Try.func56, Try.ntmps56
  go_upto_region 4 with (first | (go_at_call 95; (with_reducible refine gen_boxK (fun u _ _ => ?_)); (with_reducible refine (ch_legal (hW.out.at (w' := u)).hd hm hn h4 hi).mono ?_); rintro e u ⟨rfl, _⟩; rw [HL.out]) | (go_at_call 96; (with_reducible refine (ch_more (c := c) (hW.out.at (w' := u)).hd hm hn h4 hi).mono ?_); rintro e u ⟨rfl, _⟩; rw [HX.out]))
  refine wp_region_up0 (by kernel_rfl) (fun u1 _ => ?_)
  refine wpAnyH_on (i := 0) (d := 14) (v := ?_) rfl rfl (by kernel_rfl) (by kernel_rfl) (by kernel_rfl) (fun _ _ _ h => h) (by kernel_rfl) (prev_bel _ _) ?_ ?_
  rotate_left
  · intro uu (pu : Prev uu _)
    go_simp
    try (with_reducible rfl)
  try simp only [List.set]
  refine wpAnyH_on (i := 1) (d := 15) (v := ?_) rfl rfl (by kernel_rfl) (by kernel_rfl) (by kernel_rfl) (fun _ _ _ h => h) (by kernel_rfl) (prev_bel _ _) ?_ ?_
  rotate_left
  · intro uu (pu : Prev uu _)
    go_simp
    try (with_reducible rfl)
  try simp only [List.set]
  refine wpAnyH_on (i := 2) (d := 16) (v := ?_) rfl rfl (by kernel_rfl) (by kernel_rfl) (by kernel_rfl) (fun _ _ _ h => h) (by kernel_rfl) (prev_bel _ _) ?_ ?_
  rotate_left
  · intro uu (pu : Prev uu _)
    go_simp
    try (with_reducible rfl)
  try simp only [List.set]
  refine wpAnyH_on (i := 3) (d := 17) (v := ?_) rfl rfl (by kernel_rfl) (by kernel_rfl) (by kernel_rfl) (fun _ _ _ h => h) (by kernel_rfl) (prev_bel _ _) ?_ ?_
  rotate_left
  · intro uu (pu : Prev uu _)
    go_simp
    try (with_reducible rfl)
  try simp only [List.set]
  refine wpAnyH_on (i := 4) (d := 18) (v := ?_) rfl rfl (by kernel_rfl) (by kernel_rfl) (by kernel_rfl) (fun _ _ _ h => h) (by kernel_rfl) (prev_bel _ _) ?_ ?_
  rotate_left
  · intro uu (pu : Prev uu _)
    go_simp
    try (with_reducible rfl)
  try simp only [List.set]
  refine wpAnyH_on (i := 5) (d := 19) (v := ?_) rfl rfl (by kernel_rfl) (by kernel_rfl) (by kernel_rfl) (fun _ _ _ h => h) (by kernel_rfl) (prev_bel _ _) ?_ ?_
  rotate_left
  · intro uu (pu : Prev uu _)
    go_simp
    try (with_reducible rfl)
  try simp only [List.set]
  refine wpAnyH_on (i := 6) (d := 20) (v := ?_) rfl rfl (by kernel_rfl) (by kernel_rfl) (by kernel_rfl) (fun _ _ _ h => h) (by kernel_rfl) (prev_bel _ _) ?_ ?_
  rotate_left
  · intro uu (pu : Prev uu _)
    go_simp
    try (with_reducible rfl)
  try simp only [List.set]
  refine wpAnyH_on (i := 7) (d := 21) (v := ?_) rfl rfl (by kernel_rfl) (by kernel_rfl) (by kernel_rfl) (fun _ _ _ h => h) (by kernel_rfl) (prev_bel _ _) ?_ ?_
  rotate_left
  · intro uu (pu : Prev uu _)
    go_simp
    try (with_reducible rfl)
  try simp only [List.set]
  refine wpAnyH_on (i := 8) (d := 22) (v := ?_) rfl rfl (by kernel_rfl) (by kernel_rfl) (by kernel_rfl) (fun _ _ _ h => h) (by kernel_rfl) (prev_bel _ _) ?_ ?_
  rotate_left
  · intro uu (pu : Prev uu _)
    go_simp
    try (with_reducible rfl)
  try simp only [List.set]
  refine wpAnyH_on (i := 9) (d := 23) (v := ?_) rfl rfl (by kernel_rfl) (by kernel_rfl) (by kernel_rfl) (fun _ _ _ h => h) (by kernel_rfl) (prev_bel _ _) ?_ ?_
  rotate_left
  · intro uu (pu : Prev uu _)
    go_simp
    try (with_reducible rfl)
  try simp only [List.set]
  refine wpAnyH_on (i := 10) (d := 24) (v := ?_) rfl rfl (by kernel_rfl) (by kernel_rfl) (by kernel_rfl) (fun _ _ _ h => h) (by kernel_rfl) (prev_bel _ _) ?_ ?_
  rotate_left
  · intro uu (pu : Prev uu _)
    go_simp
    try (with_reducible rfl)
  try simp only [List.set]
  refine wpAnyH_done (by kernel_rfl) ?_ _
  go_upto_region 7 with fail
  have HW : Hid (WkM w0 (u1.setCell ⟨wk, 10, none⟩ (.int .i64 (s.wo + x))) wk gp gv gg _ n p _ m q cap { s with wo := s.wo + x }) := Lib.hid ((hW.out.at (w' := u1)).setBox (i := 10) (v := .int .i64 (s.wo + x)) (s' := { s with wo := s.wo + x }) rfl rfl rfl rfl)
  have kI : Bx (u1.setCell ⟨wk, 10, none⟩ (.int .i64 (s.wo + x))) w.heap.size 108 #[.int .i64 5, .int .i64 id] := ⟨(Below.heap_setCell _ ⟨wk, 10, none⟩ _ _ ((Bx.blk (w := u1) (g := w.heap.size)).ne_typ (kW.blk.at (w' := u1)) (by decide))).trans (Bx.blk (w := u1))⟩
  obtain ⟨v1, hv1⟩ : ∃ W : World, W = u1.setCell ⟨wk, 10, none⟩ (.int .i64 (s.wo + x)) := ⟨_, rfl⟩
  rw [← hv1] at HW kI ⊢
  clear hv1
  have pv1 := HW.out.pr
  have kW := HW.out.box
  have c10 : Ck v1 wk 10 (.int .i64 (s.wo + x)) := ⟨kW.blk.cell 10⟩
  refine wp_region_upR w0 (fun w9 => Ck w9 wk 10 (.int .i64 (s.wo + x))) (by kernel_rfl) inferInstance (fun ux _ => ?_)
  refine wpAnyH_on (i := 0) (d := 33) (v := ?_) rfl rfl (by kernel_rfl) (by kernel_rfl) (by kernel_rfl) (fun _ _ _ h => h) (by kernel_rfl) ⟨prev_bel _ _, inferInstance⟩ ?_ ?_
  rotate_left
  · rintro uu ⟨pu, r1⟩
    go_simp
    try (with_reducible rfl)
  try simp only [List.set]
  refine wpAnyH_on (i := 1) (d := 34) (v := ?_) rfl rfl (by kernel_rfl) (by kernel_rfl) (by kernel_rfl) (fun _ _ _ h => h) (by kernel_rfl) ⟨prev_bel _ _, inferInstance⟩ ?_ ?_
  rotate_left
  · rintro uu ⟨pu, r1⟩
    go_simp
    try (with_reducible rfl)
  try simp only [List.set]
  refine wpAnyH_on (i := 2) (d := 35) (v := ?_) rfl rfl (by kernel_rfl) (by kernel_rfl) (by kernel_rfl) (fun _ _ _ h => h) (by kernel_rfl) ⟨prev_bel _ _, inferInstance⟩ ?_ ?_
  rotate_left
  · rintro uu ⟨pu, r1⟩
    go_simp
    try (with_reducible rfl)
  try simp only [List.set]
  refine wpAnyH_on (i := 3) (d := 36) (v := ?_) rfl rfl (by kernel_rfl) (by kernel_rfl) (by kernel_rfl) (fun _ _ _ h => h) (by kernel_rfl) ⟨prev_bel _ _, inferInstance⟩ ?_ ?_
  rotate_left
  · rintro uu ⟨pu, r1⟩
    go_simp
    try (with_reducible rfl)
  try simp only [List.set]
  refine wpAnyH_on (i := 5) (d := 38) (v := ?_) rfl rfl (by kernel_rfl) (by kernel_rfl) (by kernel_rfl) (fun _ _ _ h => h) (by kernel_rfl) ⟨prev_bel _ _, inferInstance⟩ ?_ ?_
  rotate_left
  · rintro uu ⟨pu, r1⟩
    go_simp
    try (with_reducible rfl)
  try simp only [List.set]
  refine wpAnyH_on (i := 6) (d := 39) (v := ?_) rfl rfl (by kernel_rfl) (by kernel_rfl) (by kernel_rfl) (fun _ _ _ h => h) (by kernel_rfl) ⟨prev_bel _ _, inferInstance⟩ ?_ ?_
  rotate_left
  · rintro uu ⟨pu, r1⟩
    go_simp
    try (with_reducible rfl)
  try simp only [List.set]
  refine wpAnyH_on (i := 7) (d := 40) (v := ?_) rfl rfl (by kernel_rfl) (by kernel_rfl) (by kernel_rfl) (fun _ _ _ h => h) (by kernel_rfl) ⟨prev_bel _ _, inferInstance⟩ ?_ ?_
  rotate_left
  · rintro uu ⟨pu, r1⟩
    go_simp
    try (with_reducible rfl)
  try simp only [List.set]
  refine wpAnyH_on (i := 8) (d := 41) (v := ?_) rfl rfl (by kernel_rfl) (by kernel_rfl) (by kernel_rfl) (fun _ _ _ h => h) (by kernel_rfl) ⟨prev_bel _ _, inferInstance⟩ ?_ ?_
  rotate_left
  · rintro uu ⟨pu, r1⟩
    go_simp
    try (with_reducible rfl)
  try simp only [List.set]
  refine wpAnyH_ready (rs := [4]) (by kernel_rfl) (by simp) ?_
  refine AllReadyH.cons rfl (fun K hK => ?_) AllReadyH.nil
  go_simp
  refine hK.out _ _ ⟨prev_bel w0 _, inferInstance⟩ (fun hHeld => ?_)
  clear hHeld hK K
  try dsimp only [Act.put, List.setIfInBounds_toArray, List.set_cons_zero, List.set_cons_succ]
  refine wpAnyH_on (i := 9) (d := 42) (v := ?_) rfl rfl (by kernel_rfl) (by kernel_rfl) (by kernel_rfl) (fun _ _ _ h => h) (by kernel_rfl) ⟨prev_bel _ _, inferInstance⟩ ?_ ?_
  rotate_left
  · rintro uu ⟨pu, r1⟩
    go_simp
    try (with_reducible rfl)
  try simp only [List.set]
  refine wpAnyH_on (i := 10) (d := 43) (v := ?_) rfl rfl (by kernel_rfl) (by kernel_rfl) (by kernel_rfl) (fun _ _ _ h => h) (by kernel_rfl) ⟨prev_bel _ _, inferInstance⟩ ?_ ?_
  rotate_left
  · rintro uu ⟨pu, r1⟩
    go_simp
    try (with_reducible rfl)
  try simp only [List.set]
  refine wpAnyH_on (i := 11) (d := 44) (v := ?_) rfl rfl (by kernel_rfl) (by kernel_rfl) (by kernel_rfl) (fun _ _ _ h => h) (by kernel_rfl) ⟨prev_bel _ _, inferInstance⟩ ?_ ?_
  rotate_left
  · rintro uu ⟨pu, r1⟩
    go_simp
    try (with_reducible rfl)
  try simp only [List.set]
  refine wpAnyH_ready (rs := [12]) (by kernel_rfl) (by simp) ?_
  refine AllReadyH.cons rfl (fun K hK => ?_) AllReadyH.nil
  go_simp
  have HJ := Lib.hid (((HW.out.at (w' := ux)).setBox (i := 11) (v := .int .i64 (max s.pk (s.wo + x))) (s' := ⟨s.pr, s.sv, s.gr, s.em, s.sd, s.la, s.wo + x, max s.pk (s.wo + x), s.co⟩) rfl rfl rfl rfl))
  have SS : ∀ b, b ≠ wk → (ux.setCell ⟨wk, 11, none⟩ (.int .i64 (max s.pk (s.wo + x)))).heap[b]? = ux.heap[b]? := fun b hb => Below.heap_setCell _ ⟨wk, 11, none⟩ _ _ hb
  obtain ⟨v2, hv2⟩ : ∃ W : World, W = ux.setCell ⟨wk, 11, none⟩ (.int .i64 (max s.pk (s.wo + x))) := ⟨_, rfl⟩
  rw [← hv2] at HJ SS ⊢
  clear hv2
  obtain ⟨HW, -⟩ : _ ∧ True := ⟨HJ, trivial⟩
  clear HJ
  have pv2 := HW.out.pr
  have kW := HW.out.box
  have kp := HW.out.p
  have kv := HW.out.v
  have kg := HW.out.g
  refine hK.out _ _ ⟨pv2, ⟨kW.blk.cell 10⟩⟩ (fun hHeld => ?_)
  clear hHeld hK K
  try dsimp only [Act.put, List.setIfInBounds_toArray, List.set_cons_zero, List.set_cons_succ]
  obtain ⟨ux, rfl⟩ : ∃ v : World, v = v2 := ⟨_, rfl⟩
  refine wpAnyH_done (by kernel_rfl) ?_ _
  skip
  have kI : Bx ux w.heap.size 108 #[.int .i64 5, .int .i64 id] := ⟨(SS _ (kI.blk.ne_typ (Bx.blk (w := v1) (g := wk)) (by decide))).trans kI.blk.at⟩
  have c6 : Ck ux wk 6 (.slice (some ⟨gg, 0, none⟩) n n) := ⟨kW.blk.cell 6⟩
  have c2 : Ck ux wk 2 (.int .i64 m) := ⟨kW.blk.cell 2⟩
  go_upto_region 20 with fail
  refine wp_region_upR w0 (fun w9 => Ck w9 wk 6 (.slice (some ⟨gg, 0, none⟩) n n) ∧ Ck w9 wk 2 (.int .i64 m)) (by kernel_rfl) ⟨inferInstance, inferInstance⟩ (fun uy _ => ?_)
  refine wpAnyH_on (i := 0) (d := 110) (v := ?_) rfl rfl (by kernel_rfl) (by kernel_rfl) (by kernel_rfl) (fun _ _ _ h => h) (by kernel_rfl) ⟨prev_bel _ _, ⟨inferInstance, inferInstance⟩⟩ ?_ ?_
  rotate_left
  · rintro uu ⟨pu, r1, r2⟩
    go_simp
    try (with_reducible rfl)
  try simp only [List.set]
  refine wpAnyH_on (i := 1) (d := 111) (v := ?_) rfl rfl (by kernel_rfl) (by kernel_rfl) (by kernel_rfl) (fun _ _ _ h => h) (by kernel_rfl) ⟨prev_bel _ _, ⟨inferInstance, inferInstance⟩⟩ ?_ ?_
  rotate_left
  · rintro uu ⟨pu, r1, r2⟩
    go_simp
    try (with_reducible rfl)
  try simp only [List.set]
  refine wpAnyH_on (i := 2) (d := 112) (v := ?_) rfl rfl (by kernel_rfl) (by kernel_rfl) (by kernel_rfl) (fun _ _ _ h => h) (by kernel_rfl) ⟨prev_bel _ _, ⟨inferInstance, inferInstance⟩⟩ ?_ ?_
  rotate_left
  · rintro uu ⟨pu, r1, r2⟩
    go_simp
    try (with_reducible rfl)
  try simp only [List.set]
  refine wpAnyH_on (i := 3) (d := 113) (v := ?_) rfl rfl (by kernel_rfl) (by kernel_rfl) (by kernel_rfl) (fun _ _ _ h => h) (by kernel_rfl) ⟨prev_bel _ _, ⟨inferInstance, inferInstance⟩⟩ ?_ ?_
  rotate_left
  · rintro uu ⟨pu, r1, r2⟩
    go_simp
    try (with_reducible rfl)
  try simp only [List.set]
  refine wpAnyH_on (i := 4) (d := 114) (v := ?_) rfl rfl (by kernel_rfl) (by kernel_rfl) (by kernel_rfl) (fun _ _ _ h => h) (by kernel_rfl) ⟨prev_bel _ _, ⟨inferInstance, inferInstance⟩⟩ ?_ ?_
  rotate_left
  · rintro uu ⟨pu, r1, r2⟩
    go_simp
    try (with_reducible rfl)
  try simp only [List.set]
  refine wpAnyH_on (i := 5) (d := 115) (v := ?_) rfl rfl (by kernel_rfl) (by kernel_rfl) (by kernel_rfl) (fun _ _ _ h => h) (by kernel_rfl) ⟨prev_bel _ _, ⟨inferInstance, inferInstance⟩⟩ ?_ ?_
  rotate_left
  · rintro uu ⟨pu, r1, r2⟩
    go_simp
    try (with_reducible rfl)
  try simp only [List.set]
  refine wpAnyH_on (i := 6) (d := 116) (v := ?_) rfl rfl (by kernel_rfl) (by kernel_rfl) (by kernel_rfl) (fun _ _ _ h => h) (by kernel_rfl) ⟨prev_bel _ _, ⟨inferInstance, inferInstance⟩⟩ ?_ ?_
  rotate_left
  · rintro uu ⟨pu, r1, r2⟩
    go_simp
    try (with_reducible rfl)
  try simp only [List.set]
  refine wpAnyH_on (i := 7) (d := 117) (v := ?_) rfl rfl (by kernel_rfl) (by kernel_rfl) (by kernel_rfl) (fun _ _ _ h => h) (by kernel_rfl) ⟨prev_bel _ _, ⟨inferInstance, inferInstance⟩⟩ ?_ ?_
  rotate_left
  · rintro uu ⟨pu, r1, r2⟩
    go_simp
    try (with_reducible rfl)
  try simp only [List.set]
  refine wpAnyH_on (i := 8) (d := 118) (v := ?_) rfl rfl (by kernel_rfl) (by kernel_rfl) (by kernel_rfl) (fun _ _ _ h => h) (by kernel_rfl) ⟨prev_bel _ _, ⟨inferInstance, inferInstance⟩⟩ ?_ ?_
  rotate_left
  · rintro uu ⟨pu, r1, r2⟩
    go_simp
    try (with_reducible rfl)
  try simp only [List.set]
  refine wpAnyH_on (i := 9) (d := 119) (v := ?_) rfl rfl (by kernel_rfl) (by kernel_rfl) (by kernel_rfl) (fun _ _ _ h => h) (by kernel_rfl) ⟨prev_bel _ _, ⟨inferInstance, inferInstance⟩⟩ ?_ ?_
  rotate_left
  · rintro uu ⟨pu, r1, r2⟩
    go_simp
    try (with_reducible rfl)
  try simp only [List.set]
  refine wpAnyH_on (i := 10) (d := 120) (v := ?_) rfl rfl (by kernel_rfl) (by kernel_rfl) (by kernel_rfl) (fun _ _ _ h => h) (by kernel_rfl) ⟨prev_bel _ _, ⟨inferInstance, inferInstance⟩⟩ ?_ ?_
  rotate_left
  · rintro uu ⟨pu, r1, r2⟩
    go_simp
    try (with_reducible rfl)
  try simp only [List.set]
  refine wpAnyH_ready (rs := [11]) (by kernel_rfl) (by simp) ?_
  refine AllReadyH.cons rfl (fun K hK => ?_) AllReadyH.nil
  go_simp
  have HJ := Lib.hid ((HW.out.at (w' := uy)).setBox (i := 8) (v := .bool true) (s' := ⟨_, _, _, _, true, _, _, _, _⟩) rfl rfl rfl rfl)
  have SS : ∀ b, b ≠ wk → (uy.setCell ⟨wk, 8, none⟩ (.bool true)).heap[b]? = uy.heap[b]? := fun b hb => Below.heap_setCell _ ⟨wk, 8, none⟩ _ _ hb
  obtain ⟨v3, hv3⟩ : ∃ W : World, W = uy.setCell ⟨wk, 8, none⟩ (.bool true) := ⟨_, rfl⟩
  rw [← hv3] at HJ SS ⊢
  clear hv3
  obtain ⟨HW, -⟩ : _ ∧ True := ⟨HJ, trivial⟩
  clear HJ
  have pv3 := HW.out.pr
  have kW := HW.out.box
  have kp := HW.out.p
  have kv := HW.out.v
  have kg := HW.out.g
  refine hK.out _ _ ⟨pv3, ⟨⟨kW.blk.cell 6⟩, ⟨kW.blk.cell 2⟩⟩⟩ (fun hHeld => ?_)
  clear hHeld hK K
  try dsimp only [Act.put, List.setIfInBounds_toArray, List.set_cons_zero, List.set_cons_succ]
  obtain ⟨uy, rfl⟩ : ∃ v : World, v = v3 := ⟨_, rfl⟩
  have c6 : Ck uy wk 6 (.slice (some ⟨gg, 0, none⟩) n n) := ⟨kW.blk.cell 6⟩
  have c2 : Ck uy wk 2 (.int .i64 m) := ⟨kW.blk.cell 2⟩
  refine wpAnyH_on (i := 12) (d := 121) (v := ?_) rfl rfl (by kernel_rfl) (by kernel_rfl) (by kernel_rfl) (fun _ _ _ h => h) (by kernel_rfl) ⟨prev_bel _ _, ⟨inferInstance, inferInstance⟩⟩ ?_ ?_
  rotate_left
  · rintro uu ⟨pu, r1, r2⟩
    go_simp
    try (with_reducible rfl)
  try simp only [List.set]
  refine wpAnyH_ready (rs := [13]) (by kernel_rfl) (by simp) ?_
  refine AllReadyH.cons rfl (fun K hK => ?_) AllReadyH.nil
  go_simp
  have HJ := Lib.hid ((HW.out.at (w' := uy)).setG m true)
  have SS : ∀ b, b ≠ gg → (uy.setCell ⟨gg, m, none⟩ (.bool true)).heap[b]? = uy.heap[b]? := fun b hb => Below.heap_setCell _ ⟨gg, m, none⟩ _ _ hb
  obtain ⟨v4, hv4⟩ : ∃ W : World, W = uy.setCell ⟨gg, m, none⟩ (.bool true) := ⟨_, rfl⟩
  rw [← hv4] at HJ SS ⊢
  clear hv4
  obtain ⟨HW, -⟩ : _ ∧ True := ⟨HJ, trivial⟩
  clear HJ
  have pv4 := HW.out.pr
  have kW := HW.out.box
  have kp := HW.out.p
  have kv := HW.out.v
  have kg := HW.out.g
  refine hK.out _ _ ⟨pv4, ⟨⟨kW.blk.cell 6⟩, ⟨kW.blk.cell 2⟩⟩⟩ (fun hHeld => ?_)
  clear hHeld hK K
  try dsimp only [Act.put, List.setIfInBounds_toArray, List.set_cons_zero, List.set_cons_succ]
  obtain ⟨uy, rfl⟩ : ∃ v : World, v = v4 := ⟨_, rfl⟩
  have c6 : Ck uy wk 6 (.slice (some ⟨gg, 0, none⟩) n n) := ⟨kW.blk.cell 6⟩
  have c2 : Ck uy wk 2 (.int .i64 m) := ⟨kW.blk.cell 2⟩
  refine wpAnyH_done (by kernel_rfl) ?_ _
  go_wp2_with fail
  go_ret
  exact ⟨by rw [HE.out]; rfl, HW.out.pr, Lib.hid fun _ => by rw [HST.out]; exact HW.out⟩
set_option maxRecDepth 100000 in
set_option maxHeartbeats 8000000 in
theorem ch_do_back {x : Int} [a : Sl w0 A n c.W] (hW : Hid (WkM w0 w wk gp gv gg A n p B m q cap s)) (hm : Hid (m = c.n)) (hn : Hid (n = c.n + 1)) (h4 : n ≤ 65) (hi : Hid (insB c.n 6 id = true)) (HL : Hid (s.legal c.n 6 id = true))
    (HX : Hid (Wk.more c 6 id = x)) (hadd : IntKind.i64.wrap (s.wo + x) = s.wo + x) (hc : ¬ cap < s.wo + x) (h1 : 1 ≤ id) (h2 : id < n) (hD : Hid (id - 1 = d)) (hwo : IntKind.i64.wrap (s.wo + x - c.w id) = s.wo + x - c.w id) (hla : IntKind.i64.wrap (s.la - 1) = s.la - 1) :
    Calls Try.prog 56 #[.pointer (some ⟨wk, 0, none⟩), .agg #[.int .i64 6, .int .i64 id]] w (RetDo w0 wk gp gv gg A n p B m q cap c s 6 id) := by
  have CB := @cell_bx
  have CP := @cell_prev
  have FB := @frozen_bx
  have CC := @cell_ck
  have HE : Hid (s.err c cap 6 id = 0) := Lib.hid (by unfold Wk.err; rw [if_pos HL.out, HX.out, if_neg hc])
  have hpr := hW.out.pr
  have kW := hW.out.box
  have hdn : d < n := by have := hD.out; omega
  have hsub : IntKind.i64.wrap ((id : Int) - 1) = (d : Int) := by rw [IntKind.wrap_i64]; have := hD.out; omega
  have e2 := boolC_at (bs := s.gr) (i := id) (by rw [hW.out.lg]; exact h2)
  have e3 := boolC_at (bs := s.gr) (i := d) (by rw [hW.out.lg]; exact hdn)
  obtain ⟨b1, o1, rfl, ob1, w1⟩ := Sl.at_w (c := c) (w := w0) (A := A) (n := n) (l := id) h2
  obtain ⟨v, hv⟩ : ∃ v, decide ((1 : Int) < (id : Int)) = v := ⟨_, rfl⟩
  have HV : Hid (decide (1 < id) = v) := Lib.hid (by rw [← hv]; exact decide_eq_decide.2 (by omega))
  have HST : Hid (s.step c 6 id = { s.add x with gr := (s.gr.set d v).set id false, wo := s.wo + x - c.w id, la := s.la - 1 }) := Lib.hid (by unfold Wk.step; rw [HX.out, ← hD.out, ← HV.out]; rfl)
  have e4 : (boolC (s.gr.set d v))[id]? = some (.bool (Wk.at_ (s.gr.set d v) id)) := boolC_at (by rw [List.length_set, hW.out.lg]; exact h2)
  go_enter Try.func56, Try.ntmps56
  go_upto_region 4 with (first | (go_at_call 95; (with_reducible refine gen_boxK (fun u _ _ => ?_)); (with_reducible refine (ch_legal (hW.out.at (w' := u)).hd hm hn h4 hi).mono ?_); rintro e u ⟨rfl, _⟩; rw [HL.out]) | (go_at_call 96; (with_reducible refine (ch_more (c := c) (hW.out.at (w' := u)).hd hm hn h4 hi).mono ?_); rintro e u ⟨rfl, _⟩; rw [HX.out]))
  refine wp_region_up0 (by kernel_rfl) (fun u1 _ => ?_)
  refine wpAnyH_on (i := 0) (d := 14) (v := ?_) rfl rfl (by kernel_rfl) (by kernel_rfl) (by kernel_rfl) (fun _ _ _ h => h) (by kernel_rfl) (prev_bel _ _) ?_ ?_
  rotate_left
  · intro uu (pu : Prev uu _)
    go_simp
    try (with_reducible rfl)
  try simp only [List.set]
  refine wpAnyH_on (i := 1) (d := 15) (v := ?_) rfl rfl (by kernel_rfl) (by kernel_rfl) (by kernel_rfl) (fun _ _ _ h => h) (by kernel_rfl) (prev_bel _ _) ?_ ?_
  rotate_left
  · intro uu (pu : Prev uu _)
    go_simp
    try (with_reducible rfl)
  try simp only [List.set]
  refine wpAnyH_on (i := 2) (d := 16) (v := ?_) rfl rfl (by kernel_rfl) (by kernel_rfl) (by kernel_rfl) (fun _ _ _ h => h) (by kernel_rfl) (prev_bel _ _) ?_ ?_
  rotate_left
  · intro uu (pu : Prev uu _)
    go_simp
    try (with_reducible rfl)
  try simp only [List.set]
  refine wpAnyH_on (i := 3) (d := 17) (v := ?_) rfl rfl (by kernel_rfl) (by kernel_rfl) (by kernel_rfl) (fun _ _ _ h => h) (by kernel_rfl) (prev_bel _ _) ?_ ?_
  rotate_left
  · intro uu (pu : Prev uu _)
    go_simp
    try (with_reducible rfl)
  try simp only [List.set]
  refine wpAnyH_on (i := 4) (d := 18) (v := ?_) rfl rfl (by kernel_rfl) (by kernel_rfl) (by kernel_rfl) (fun _ _ _ h => h) (by kernel_rfl) (prev_bel _ _) ?_ ?_
  rotate_left
  · intro uu (pu : Prev uu _)
    go_simp
    try (with_reducible rfl)
  try simp only [List.set]
  refine wpAnyH_on (i := 5) (d := 19) (v := ?_) rfl rfl (by kernel_rfl) (by kernel_rfl) (by kernel_rfl) (fun _ _ _ h => h) (by kernel_rfl) (prev_bel _ _) ?_ ?_
  rotate_left
  · intro uu (pu : Prev uu _)
    go_simp
    try (with_reducible rfl)
  try simp only [List.set]
  refine wpAnyH_on (i := 6) (d := 20) (v := ?_) rfl rfl (by kernel_rfl) (by kernel_rfl) (by kernel_rfl) (fun _ _ _ h => h) (by kernel_rfl) (prev_bel _ _) ?_ ?_
  rotate_left
  · intro uu (pu : Prev uu _)
    go_simp
    try (with_reducible rfl)
  try simp only [List.set]
  refine wpAnyH_on (i := 7) (d := 21) (v := ?_) rfl rfl (by kernel_rfl) (by kernel_rfl) (by kernel_rfl) (fun _ _ _ h => h) (by kernel_rfl) (prev_bel _ _) ?_ ?_
  rotate_left
  · intro uu (pu : Prev uu _)
    go_simp
    try (with_reducible rfl)
  try simp only [List.set]
  refine wpAnyH_on (i := 8) (d := 22) (v := ?_) rfl rfl (by kernel_rfl) (by kernel_rfl) (by kernel_rfl) (fun _ _ _ h => h) (by kernel_rfl) (prev_bel _ _) ?_ ?_
  rotate_left
  · intro uu (pu : Prev uu _)
    go_simp
    try (with_reducible rfl)
  try simp only [List.set]
  refine wpAnyH_on (i := 9) (d := 23) (v := ?_) rfl rfl (by kernel_rfl) (by kernel_rfl) (by kernel_rfl) (fun _ _ _ h => h) (by kernel_rfl) (prev_bel _ _) ?_ ?_
  rotate_left
  · intro uu (pu : Prev uu _)
    go_simp
    try (with_reducible rfl)
  try simp only [List.set]
  refine wpAnyH_on (i := 10) (d := 24) (v := ?_) rfl rfl (by kernel_rfl) (by kernel_rfl) (by kernel_rfl) (fun _ _ _ h => h) (by kernel_rfl) (prev_bel _ _) ?_ ?_
  rotate_left
  · intro uu (pu : Prev uu _)
    go_simp
    try (with_reducible rfl)
  try simp only [List.set]
  refine wpAnyH_done (by kernel_rfl) ?_ _
  go_upto_region 7 with fail
  have HW : Hid (WkM w0 (u1.setCell ⟨wk, 10, none⟩ (.int .i64 (s.wo + x))) wk gp gv gg _ n p _ m q cap { s with wo := s.wo + x }) := Lib.hid ((hW.out.at (w' := u1)).setBox (i := 10) (v := .int .i64 (s.wo + x)) (s' := { s with wo := s.wo + x }) rfl rfl rfl rfl)
  have kI : Bx (u1.setCell ⟨wk, 10, none⟩ (.int .i64 (s.wo + x))) w.heap.size 108 #[.int .i64 6, .int .i64 id] := ⟨(Below.heap_setCell _ ⟨wk, 10, none⟩ _ _ ((Bx.blk (w := u1) (g := w.heap.size)).ne_typ (kW.blk.at (w' := u1)) (by decide))).trans (Bx.blk (w := u1))⟩
  obtain ⟨v1, hv1⟩ : ∃ W : World, W = u1.setCell ⟨wk, 10, none⟩ (.int .i64 (s.wo + x)) := ⟨_, rfl⟩
  rw [← hv1] at HW kI ⊢
  clear hv1
  have pv1 := HW.out.pr
  have kW := HW.out.box
  have c10 : Ck v1 wk 10 (.int .i64 (s.wo + x)) := ⟨kW.blk.cell 10⟩
  refine wp_region_upR w0 (fun w9 => Ck w9 wk 10 (.int .i64 (s.wo + x))) (by kernel_rfl) inferInstance (fun ux _ => ?_)
  refine wpAnyH_on (i := 0) (d := 33) (v := ?_) rfl rfl (by kernel_rfl) (by kernel_rfl) (by kernel_rfl) (fun _ _ _ h => h) (by kernel_rfl) ⟨prev_bel _ _, inferInstance⟩ ?_ ?_
  rotate_left
  · rintro uu ⟨pu, r1⟩
    go_simp
    try (with_reducible rfl)
  try simp only [List.set]
  refine wpAnyH_on (i := 1) (d := 34) (v := ?_) rfl rfl (by kernel_rfl) (by kernel_rfl) (by kernel_rfl) (fun _ _ _ h => h) (by kernel_rfl) ⟨prev_bel _ _, inferInstance⟩ ?_ ?_
  rotate_left
  · rintro uu ⟨pu, r1⟩
    go_simp
    try (with_reducible rfl)
  try simp only [List.set]
  refine wpAnyH_on (i := 2) (d := 35) (v := ?_) rfl rfl (by kernel_rfl) (by kernel_rfl) (by kernel_rfl) (fun _ _ _ h => h) (by kernel_rfl) ⟨prev_bel _ _, inferInstance⟩ ?_ ?_
  rotate_left
  · rintro uu ⟨pu, r1⟩
    go_simp
    try (with_reducible rfl)
  try simp only [List.set]
  refine wpAnyH_on (i := 3) (d := 36) (v := ?_) rfl rfl (by kernel_rfl) (by kernel_rfl) (by kernel_rfl) (fun _ _ _ h => h) (by kernel_rfl) ⟨prev_bel _ _, inferInstance⟩ ?_ ?_
  rotate_left
  · rintro uu ⟨pu, r1⟩
    go_simp
    try (with_reducible rfl)
  try simp only [List.set]
  refine wpAnyH_on (i := 5) (d := 38) (v := ?_) rfl rfl (by kernel_rfl) (by kernel_rfl) (by kernel_rfl) (fun _ _ _ h => h) (by kernel_rfl) ⟨prev_bel _ _, inferInstance⟩ ?_ ?_
  rotate_left
  · rintro uu ⟨pu, r1⟩
    go_simp
    try (with_reducible rfl)
  try simp only [List.set]
  refine wpAnyH_on (i := 6) (d := 39) (v := ?_) rfl rfl (by kernel_rfl) (by kernel_rfl) (by kernel_rfl) (fun _ _ _ h => h) (by kernel_rfl) ⟨prev_bel _ _, inferInstance⟩ ?_ ?_
  rotate_left
  · rintro uu ⟨pu, r1⟩
    go_simp
    try (with_reducible rfl)
  try simp only [List.set]
  refine wpAnyH_on (i := 7) (d := 40) (v := ?_) rfl rfl (by kernel_rfl) (by kernel_rfl) (by kernel_rfl) (fun _ _ _ h => h) (by kernel_rfl) ⟨prev_bel _ _, inferInstance⟩ ?_ ?_
  rotate_left
  · rintro uu ⟨pu, r1⟩
    go_simp
    try (with_reducible rfl)
  try simp only [List.set]
  refine wpAnyH_on (i := 8) (d := 41) (v := ?_) rfl rfl (by kernel_rfl) (by kernel_rfl) (by kernel_rfl) (fun _ _ _ h => h) (by kernel_rfl) ⟨prev_bel _ _, inferInstance⟩ ?_ ?_
  rotate_left
  · rintro uu ⟨pu, r1⟩
    go_simp
    try (with_reducible rfl)
  try simp only [List.set]
  refine wpAnyH_ready (rs := [4]) (by kernel_rfl) (by simp) ?_
  refine AllReadyH.cons rfl (fun K hK => ?_) AllReadyH.nil
  go_simp
  refine hK.out _ _ ⟨prev_bel w0 _, inferInstance⟩ (fun hHeld => ?_)
  clear hHeld hK K
  try dsimp only [Act.put, List.setIfInBounds_toArray, List.set_cons_zero, List.set_cons_succ]
  refine wpAnyH_on (i := 9) (d := 42) (v := ?_) rfl rfl (by kernel_rfl) (by kernel_rfl) (by kernel_rfl) (fun _ _ _ h => h) (by kernel_rfl) ⟨prev_bel _ _, inferInstance⟩ ?_ ?_
  rotate_left
  · rintro uu ⟨pu, r1⟩
    go_simp
    try (with_reducible rfl)
  try simp only [List.set]
  refine wpAnyH_on (i := 10) (d := 43) (v := ?_) rfl rfl (by kernel_rfl) (by kernel_rfl) (by kernel_rfl) (fun _ _ _ h => h) (by kernel_rfl) ⟨prev_bel _ _, inferInstance⟩ ?_ ?_
  rotate_left
  · rintro uu ⟨pu, r1⟩
    go_simp
    try (with_reducible rfl)
  try simp only [List.set]
  refine wpAnyH_on (i := 11) (d := 44) (v := ?_) rfl rfl (by kernel_rfl) (by kernel_rfl) (by kernel_rfl) (fun _ _ _ h => h) (by kernel_rfl) ⟨prev_bel _ _, inferInstance⟩ ?_ ?_
  rotate_left
  · rintro uu ⟨pu, r1⟩
    go_simp
    try (with_reducible rfl)
  try simp only [List.set]
  refine wpAnyH_ready (rs := [12]) (by kernel_rfl) (by simp) ?_
  refine AllReadyH.cons rfl (fun K hK => ?_) AllReadyH.nil
  go_simp
  have HJ := Lib.hid (((HW.out.at (w' := ux)).setBox (i := 11) (v := .int .i64 (max s.pk (s.wo + x))) (s' := ⟨s.pr, s.sv, s.gr, s.em, s.sd, s.la, s.wo + x, max s.pk (s.wo + x), s.co⟩) rfl rfl rfl rfl))
  have SS : ∀ b, b ≠ wk → (ux.setCell ⟨wk, 11, none⟩ (.int .i64 (max s.pk (s.wo + x)))).heap[b]? = ux.heap[b]? := fun b hb => Below.heap_setCell _ ⟨wk, 11, none⟩ _ _ hb
  obtain ⟨v2, hv2⟩ : ∃ W : World, W = ux.setCell ⟨wk, 11, none⟩ (.int .i64 (max s.pk (s.wo + x))) := ⟨_, rfl⟩
  rw [← hv2] at HJ SS ⊢
  clear hv2
  obtain ⟨HW, -⟩ : _ ∧ True := ⟨HJ, trivial⟩
  clear HJ
  have pv2 := HW.out.pr
  have kW := HW.out.box
  have kp := HW.out.p
  have kv := HW.out.v
  have kg := HW.out.g
  refine hK.out _ _ ⟨pv2, ⟨kW.blk.cell 10⟩⟩ (fun hHeld => ?_)
  clear hHeld hK K
  try dsimp only [Act.put, List.setIfInBounds_toArray, List.set_cons_zero, List.set_cons_succ]
  obtain ⟨ux, rfl⟩ : ∃ v : World, v = v2 := ⟨_, rfl⟩
  refine wpAnyH_done (by kernel_rfl) ?_ _
  skip
  have kI : Bx ux w.heap.size 108 #[.int .i64 6, .int .i64 id] := ⟨(SS _ (kI.blk.ne_typ (Bx.blk (w := v1) (g := wk)) (by decide))).trans kI.blk.at⟩
  have c6 : Ck ux wk 6 (.slice (some ⟨gg, 0, none⟩) n n) := ⟨kW.blk.cell 6⟩
  go_upto_region 22 with fail
  refine wp_region_upR w0 (fun w9 => Ck w9 wk 6 (.slice (some ⟨gg, 0, none⟩) n n)) (by kernel_rfl) inferInstance (fun uy _ => ?_)
  refine wpAnyH_on (i := 0) (d := 124) (v := ?_) rfl rfl (by kernel_rfl) (by kernel_rfl) (by kernel_rfl) (fun _ _ _ h => h) (by kernel_rfl) ⟨prev_bel _ _, inferInstance⟩ ?_ ?_
  rotate_left
  · rintro uu ⟨pu, r1⟩
    go_simp
    try (with_reducible rfl)
  try simp only [List.set]
  refine wpAnyH_on (i := 1) (d := 125) (v := ?_) rfl rfl (by kernel_rfl) (by kernel_rfl) (by kernel_rfl) (fun _ _ _ h => h) (by kernel_rfl) ⟨prev_bel _ _, inferInstance⟩ ?_ ?_
  rotate_left
  · rintro uu ⟨pu, r1⟩
    go_simp
    try (with_reducible rfl)
  try simp only [List.set]
  refine wpAnyH_on (i := 2) (d := 126) (v := ?_) rfl rfl (by kernel_rfl) (by kernel_rfl) (by kernel_rfl) (fun _ _ _ h => h) (by kernel_rfl) ⟨prev_bel _ _, inferInstance⟩ ?_ ?_
  rotate_left
  · rintro uu ⟨pu, r1⟩
    go_simp
    try (with_reducible rfl)
  try simp only [List.set]
  refine wpAnyH_on (i := 3) (d := 127) (v := ?_) rfl rfl (by kernel_rfl) (by kernel_rfl) (by kernel_rfl) (fun _ _ _ h => h) (by kernel_rfl) ⟨prev_bel _ _, inferInstance⟩ ?_ ?_
  rotate_left
  · rintro uu ⟨pu, r1⟩
    go_simp
    try (with_reducible rfl)
  try simp only [List.set]
  refine wpAnyH_on (i := 4) (d := 128) (v := ?_) rfl rfl (by kernel_rfl) (by kernel_rfl) (by kernel_rfl) (fun _ _ _ h => h) (by kernel_rfl) ⟨prev_bel _ _, inferInstance⟩ ?_ ?_
  rotate_left
  · rintro uu ⟨pu, r1⟩
    go_simp
    try (with_reducible rfl)
  try simp only [List.set]
  refine wpAnyH_on (i := 5) (d := 129) (v := ?_) rfl rfl (by kernel_rfl) (by kernel_rfl) (by kernel_rfl) (fun _ _ _ h => h) (by kernel_rfl) ⟨prev_bel _ _, inferInstance⟩ ?_ ?_
  rotate_left
  · rintro uu ⟨pu, r1⟩
    go_simp
    try (with_reducible rfl)
  try simp only [List.set]
  refine wpAnyH_on (i := 6) (d := 130) (v := ?_) rfl rfl (by kernel_rfl) (by kernel_rfl) (by kernel_rfl) (fun _ _ _ h => h) (by kernel_rfl) ⟨prev_bel _ _, inferInstance⟩ ?_ ?_
  rotate_left
  · rintro uu ⟨pu, r1⟩
    go_simp
    try (with_reducible rfl)
  try simp only [List.set]
  refine wpAnyH_on (i := 7) (d := 131) (v := ?_) rfl rfl (by kernel_rfl) (by kernel_rfl) (by kernel_rfl) (fun _ _ _ h => h) (by kernel_rfl) ⟨prev_bel _ _, inferInstance⟩ ?_ ?_
  rotate_left
  · rintro uu ⟨pu, r1⟩
    go_simp
    try (with_reducible rfl)
  try simp only [List.set]
  refine wpAnyH_on (i := 8) (d := 132) (v := ?_) rfl rfl (by kernel_rfl) (by kernel_rfl) (by kernel_rfl) (fun _ _ _ h => h) (by kernel_rfl) ⟨prev_bel _ _, inferInstance⟩ ?_ ?_
  rotate_left
  · rintro uu ⟨pu, r1⟩
    go_simp
    try (with_reducible rfl)
  try simp only [List.set]
  refine wpAnyH_on (i := 9) (d := 133) (v := ?_) rfl rfl (by kernel_rfl) (by kernel_rfl) (by kernel_rfl) (fun _ _ _ h => h) (by kernel_rfl) ⟨prev_bel _ _, inferInstance⟩ ?_ ?_
  rotate_left
  · rintro uu ⟨pu, r1⟩
    go_simp
    try (with_reducible rfl)
  try simp only [List.set]
  refine wpAnyH_on (i := 10) (d := 134) (v := ?_) rfl rfl (by kernel_rfl) (by kernel_rfl) (by kernel_rfl) (fun _ _ _ h => h) (by kernel_rfl) ⟨prev_bel _ _, inferInstance⟩ ?_ ?_
  rotate_left
  · rintro uu ⟨pu, r1⟩
    go_simp
    try (with_reducible rfl)
  try simp only [List.set]
  refine wpAnyH_on (i := 11) (d := 135) (v := ?_) rfl rfl (by kernel_rfl) (by kernel_rfl) (by kernel_rfl) (fun _ _ _ h => h) (by kernel_rfl) ⟨prev_bel _ _, inferInstance⟩ ?_ ?_
  rotate_left
  · rintro uu ⟨pu, r1⟩
    go_simp
    try (with_reducible rfl)
  try simp only [List.set]
  refine wpAnyH_on (i := 12) (d := 136) (v := ?_) rfl rfl (by kernel_rfl) (by kernel_rfl) (by kernel_rfl) (fun _ _ _ h => h) (by kernel_rfl) ⟨prev_bel _ _, inferInstance⟩ ?_ ?_
  rotate_left
  · rintro uu ⟨pu, r1⟩
    go_simp
    try (with_reducible rfl)
  try simp only [List.set]
  refine wpAnyH_on (i := 13) (d := 137) (v := ?_) rfl rfl (by kernel_rfl) (by kernel_rfl) (by kernel_rfl) (fun _ _ _ h => h) (by kernel_rfl) ⟨prev_bel _ _, inferInstance⟩ ?_ ?_
  rotate_left
  · rintro uu ⟨pu, r1⟩
    go_simp
    try (with_reducible rfl)
  try simp only [List.set]
  refine wpAnyH_ready (rs := [14]) (by kernel_rfl) (by simp) ?_
  refine AllReadyH.cons rfl (fun K hK => ?_) AllReadyH.nil
  go_simp
  have HJ := Lib.hid ((HW.out.at (w' := uy)).setG d v)
  have SS : ∀ b, b ≠ gg → (uy.setCell ⟨gg, d, none⟩ (.bool v)).heap[b]? = uy.heap[b]? := fun b hb => Below.heap_setCell _ ⟨gg, d, none⟩ _ _ hb
  obtain ⟨v3, hv3⟩ : ∃ W : World, W = uy.setCell ⟨gg, d, none⟩ (.bool v) := ⟨_, rfl⟩
  rw [← hv3] at HJ SS ⊢
  clear hv3
  obtain ⟨HW, -⟩ : _ ∧ True := ⟨HJ, trivial⟩
  clear HJ
  have pv3 := HW.out.pr
  have kW := HW.out.box
  have kp := HW.out.p
  have kv := HW.out.v
  have kg := HW.out.g
  refine hK.out _ _ ⟨pv3, ⟨kW.blk.cell 6⟩⟩ (fun hHeld => ?_)
  clear hHeld hK K
  try dsimp only [Act.put, List.setIfInBounds_toArray, List.set_cons_zero, List.set_cons_succ]
  obtain ⟨uy, rfl⟩ : ∃ v : World, v = v3 := ⟨_, rfl⟩
  have c6 : Ck uy wk 6 (.slice (some ⟨gg, 0, none⟩) n n) := ⟨kW.blk.cell 6⟩
  refine wpAnyH_on (i := 15) (d := 138) (v := ?_) rfl rfl (by kernel_rfl) (by kernel_rfl) (by kernel_rfl) (fun _ _ _ h => h) (by kernel_rfl) ⟨prev_bel _ _, inferInstance⟩ ?_ ?_
  rotate_left
  · rintro uu ⟨pu, r1⟩
    go_simp
    try (with_reducible rfl)
  try simp only [List.set]
  refine wpAnyH_ready (rs := [16]) (by kernel_rfl) (by simp) ?_
  refine AllReadyH.cons rfl (fun K hK => ?_) AllReadyH.nil
  go_simp
  have HJ := Lib.hid ((HW.out.at (w' := uy)).setG id false)
  have SS : ∀ b, b ≠ gg → (uy.setCell ⟨gg, id, none⟩ (.bool false)).heap[b]? = uy.heap[b]? := fun b hb => Below.heap_setCell _ ⟨gg, id, none⟩ _ _ hb
  obtain ⟨v4, hv4⟩ : ∃ W : World, W = uy.setCell ⟨gg, id, none⟩ (.bool false) := ⟨_, rfl⟩
  rw [← hv4] at HJ SS ⊢
  clear hv4
  obtain ⟨HW, -⟩ : _ ∧ True := ⟨HJ, trivial⟩
  clear HJ
  have pv4 := HW.out.pr
  have kW := HW.out.box
  have kp := HW.out.p
  have kv := HW.out.v
  have kg := HW.out.g
  refine hK.out _ _ ⟨pv4, ⟨kW.blk.cell 6⟩⟩ (fun hHeld => ?_)
  clear hHeld hK K
  try dsimp only [Act.put, List.setIfInBounds_toArray, List.set_cons_zero, List.set_cons_succ]
  obtain ⟨uy, rfl⟩ : ∃ v : World, v = v4 := ⟨_, rfl⟩
  have c6 : Ck uy wk 6 (.slice (some ⟨gg, 0, none⟩) n n) := ⟨kW.blk.cell 6⟩
  refine wpAnyH_done (by kernel_rfl) ?_ _
  go_upto_region 23 with fail
  have c1 : Ck uy wk 0 (.slice (some ⟨b1, o1, none⟩) n p) := ⟨kW.blk.cell 0⟩
  refine wp_region_upR w0 (fun w9 => Ck w9 wk 0 (.slice (some ⟨b1, o1, none⟩) n p)) (by kernel_rfl) inferInstance (fun uz _ => ?_)
  refine wpAnyH_on (i := 0) (d := 139) (v := ?_) rfl rfl (by kernel_rfl) (by kernel_rfl) (by kernel_rfl) (fun _ _ _ h => h) (by kernel_rfl) ⟨prev_bel _ _, inferInstance⟩ ?_ ?_
  rotate_left
  · rintro uu ⟨pu, r1⟩
    go_simp
    try (with_reducible rfl)
  try simp only [List.set]
  refine wpAnyH_on (i := 1) (d := 140) (v := ?_) rfl rfl (by kernel_rfl) (by kernel_rfl) (by kernel_rfl) (fun _ _ _ h => h) (by kernel_rfl) ⟨prev_bel _ _, inferInstance⟩ ?_ ?_
  rotate_left
  · rintro uu ⟨pu, r1⟩
    go_simp
    try (with_reducible rfl)
  try simp only [List.set]
  refine wpAnyH_on (i := 2) (d := 141) (v := ?_) rfl rfl (by kernel_rfl) (by kernel_rfl) (by kernel_rfl) (fun _ _ _ h => h) (by kernel_rfl) ⟨prev_bel _ _, inferInstance⟩ ?_ ?_
  rotate_left
  · rintro uu ⟨pu, r1⟩
    go_simp
    try (with_reducible rfl)
  try simp only [List.set]
  refine wpAnyH_on (i := 4) (d := 143) (v := ?_) rfl rfl (by kernel_rfl) (by kernel_rfl) (by kernel_rfl) (fun _ _ _ h => h) (by kernel_rfl) ⟨prev_bel _ _, inferInstance⟩ ?_ ?_
  rotate_left
  · rintro uu ⟨pu, r1⟩
    go_simp
    try (with_reducible rfl)
  try simp only [List.set]
  refine wpAnyH_on (i := 5) (d := 144) (v := ?_) rfl rfl (by kernel_rfl) (by kernel_rfl) (by kernel_rfl) (fun _ _ _ h => h) (by kernel_rfl) ⟨prev_bel _ _, inferInstance⟩ ?_ ?_
  rotate_left
  · rintro uu ⟨pu, r1⟩
    go_simp
    try (with_reducible rfl)
  try simp only [List.set]
  refine wpAnyH_on (i := 6) (d := 145) (v := ?_) rfl rfl (by kernel_rfl) (by kernel_rfl) (by kernel_rfl) (fun _ _ _ h => h) (by kernel_rfl) ⟨prev_bel _ _, inferInstance⟩ ?_ ?_
  rotate_left
  · rintro uu ⟨pu, r1⟩
    go_simp
    try (with_reducible rfl)
  try simp only [List.set]
  refine wpAnyH_on (i := 7) (d := 146) (v := ?_) rfl rfl (by kernel_rfl) (by kernel_rfl) (by kernel_rfl) (fun _ _ _ h => h) (by kernel_rfl) ⟨prev_bel _ _, inferInstance⟩ ?_ ?_
  rotate_left
  · rintro uu ⟨pu, r1⟩
    go_simp
    try (with_reducible rfl)
  try simp only [List.set]
  refine wpAnyH_on (i := 8) (d := 147) (v := ?_) rfl rfl (by kernel_rfl) (by kernel_rfl) (by kernel_rfl) (fun _ _ _ h => h) (by kernel_rfl) ⟨prev_bel _ _, inferInstance⟩ ?_ ?_
  rotate_left
  · rintro uu ⟨pu, r1⟩
    go_simp
    try (with_reducible rfl)
  try simp only [List.set]
  refine wpAnyH_on (i := 9) (d := 148) (v := ?_) rfl rfl (by kernel_rfl) (by kernel_rfl) (by kernel_rfl) (fun _ _ _ h => h) (by kernel_rfl) ⟨prev_bel _ _, inferInstance⟩ ?_ ?_
  rotate_left
  · rintro uu ⟨pu, r1⟩
    go_simp
    try (with_reducible rfl)
  try simp only [List.set]
  refine wpAnyH_on (i := 10) (d := 149) (v := ?_) rfl rfl (by kernel_rfl) (by kernel_rfl) (by kernel_rfl) (fun _ _ _ h => h) (by kernel_rfl) ⟨prev_bel _ _, inferInstance⟩ ?_ ?_
  rotate_left
  · rintro uu ⟨pu, r1⟩
    go_simp
    try (with_reducible rfl)
  try simp only [List.set]
  refine wpAnyH_on (i := 11) (d := 150) (v := ?_) rfl rfl (by kernel_rfl) (by kernel_rfl) (by kernel_rfl) (fun _ _ _ h => h) (by kernel_rfl) ⟨prev_bel _ _, inferInstance⟩ ?_ ?_
  rotate_left
  · rintro uu ⟨pu, r1⟩
    go_simp
    try (with_reducible rfl)
  try simp only [List.set]
  refine wpAnyH_ready (rs := [3]) (by kernel_rfl) (by simp) ?_
  refine AllReadyH.cons rfl (fun K hK => ?_) AllReadyH.nil
  go_simp
  refine hK.out _ _ ⟨prev_bel w0 _, inferInstance⟩ (fun hHeld => ?_)
  clear hHeld hK K
  try dsimp only [Act.put, List.setIfInBounds_toArray, List.set_cons_zero, List.set_cons_succ]
  refine wpAnyH_on (i := 12) (d := 151) (v := ?_) rfl rfl (by kernel_rfl) (by kernel_rfl) (by kernel_rfl) (fun _ _ _ h => h) (by kernel_rfl) ⟨prev_bel _ _, inferInstance⟩ ?_ ?_
  rotate_left
  · rintro uu ⟨pu, r1⟩
    go_simp
    try (with_reducible rfl)
  try simp only [List.set]
  refine wpAnyH_on (i := 13) (d := 152) (v := ?_) rfl rfl (by kernel_rfl) (by kernel_rfl) (by kernel_rfl) (fun _ _ _ h => h) (by kernel_rfl) ⟨prev_bel _ _, inferInstance⟩ ?_ ?_
  rotate_left
  · rintro uu ⟨pu, r1⟩
    go_simp
    try (with_reducible rfl)
  try simp only [List.set]
  refine wpAnyH_on (i := 14) (d := 153) (v := ?_) rfl rfl (by kernel_rfl) (by kernel_rfl) (by kernel_rfl) (fun _ _ _ h => h) (by kernel_rfl) ⟨prev_bel _ _, inferInstance⟩ ?_ ?_
  rotate_left
  · rintro uu ⟨pu, r1⟩
    go_simp
    try (with_reducible rfl)
  try simp only [List.set]
  refine wpAnyH_ready (rs := [15]) (by kernel_rfl) (by simp) ?_
  refine AllReadyH.cons rfl (fun K hK => ?_) AllReadyH.nil
  go_simp
  have HJ := Lib.hid ((HW.out.at (w' := uz)).setBox (i := 10) (v := .int .i64 (s.wo + x - c.w id)) (s' := ⟨s.pr, s.sv, (s.gr.set d v).set id false, s.em, s.sd, s.la, s.wo + x - c.w id, max s.pk (s.wo + x), s.co⟩) rfl rfl rfl rfl)
  have SS : ∀ b, b ≠ wk → (uz.setCell ⟨wk, 10, none⟩ (.int .i64 (s.wo + x - c.w id))).heap[b]? = uz.heap[b]? := fun b hb => Below.heap_setCell _ ⟨wk, 10, none⟩ _ _ hb
  obtain ⟨v5, hv5⟩ : ∃ W : World, W = uz.setCell ⟨wk, 10, none⟩ (.int .i64 (s.wo + x - c.w id)) := ⟨_, rfl⟩
  rw [← hv5] at HJ SS ⊢
  clear hv5
  obtain ⟨HW, -⟩ : _ ∧ True := ⟨HJ, trivial⟩
  clear HJ
  have pv5 := HW.out.pr
  have kW := HW.out.box
  have kp := HW.out.p
  have kv := HW.out.v
  have kg := HW.out.g
  refine hK.out _ _ ⟨pv5, ⟨kW.blk.cell 0⟩⟩ (fun hHeld => ?_)
  clear hHeld hK K
  try dsimp only [Act.put, List.setIfInBounds_toArray, List.set_cons_zero, List.set_cons_succ]
  obtain ⟨uz, rfl⟩ : ∃ v : World, v = v5 := ⟨_, rfl⟩
  refine wpAnyH_done (by kernel_rfl) ?_ _
  go_upto_region 25 with fail
  have HJ := Lib.hid ((HW.out.at (w' := uz)).setBox (i := 9) (v := .int .i64 (s.la - 1)) (s' := ⟨s.pr, s.sv, (s.gr.set d v).set id false, s.em, s.sd, s.la - 1, s.wo + x - c.w id, max s.pk (s.wo + x), s.co⟩) rfl rfl rfl rfl)
  obtain ⟨v6, hv6⟩ : ∃ W : World, W = (uz).setCell ⟨wk, 9, none⟩ (.int .i64 (s.la - 1)) := ⟨_, rfl⟩
  rw [← hv6] at HJ ⊢
  clear hv6 HW
  obtain ⟨HW, -⟩ : _ ∧ True := ⟨HJ, trivial⟩
  clear HJ
  have pv6 := HW.out.pr
  have kW := HW.out.box
  have kp := HW.out.p
  have kv := HW.out.v
  have kg := HW.out.g
  go_wp2_with fail
  go_ret
  exact ⟨by rw [HE.out]; rfl, HW.out.pr, Lib.hid fun _ => by rw [HST.out]; exact HW.out⟩
/-- do, of any instruction that may be. -/
theorem ch_do {kind : Int} {N : Nat} {t : Ch.St} [a : Sl w0 A n c.W] [b : Sl w0 B m c.K] (hok : Hid c.Ok) (hW : Hid (WkM w0 w wk gp gv gg A n p B m q cap s)) (hi : Hid (insB c.n kind id = true)) (hs : Hid (c.Sim cap N s t)) (hN : N ≤ 65536) :
    Calls Try.prog 56 #[.pointer (some ⟨wk, 0, none⟩), .agg #[.int .i64 kind, .int .i64 id]] w (RetDo w0 wk gp gv gg A n p B m q cap c s kind id) := by
  have hmn : m = c.n := b.len
  have hnn : n = c.n + 1 := a.len.trans hok.out.len
  have n2 := hok.out.n2
  have S := hs.out
  have w1 := S.wo
  have w2 := S.wp
  have w3 := S.wb
  have w4 := hok.out.sumW_0 t.T
  have w5 := hok.out.sumW_0 t.G
  unfold Ch.used at w1
  have x1 : 0 ≤ Wk.more c kind id ∧ Wk.more c kind id ≤ 65536 := by
    unfold Wk.more
    split
    · exact ⟨hok.out.w_0 _, hok.out.w_2 _⟩
    · split
      · exact ⟨hok.out.w_0 _, hok.out.w_2 _⟩
      · split
        · exact ⟨hok.out.kept_0 _, hok.out.kept_2 _⟩
        · omega
  have hadd : IntKind.i64.wrap (s.wo + Wk.more c kind id) = s.wo + Wk.more c kind id := by rw [IntKind.wrap_i64]; omega
  rcases hl : s.legal c.n kind id with _ | _
  · exact ch_do_illegal hW (Lib.hid hmn) (Lib.hid hnn) (by omega) hi (Lib.hid hl)
  · by_cases hc : cap < s.wo + Wk.more c kind id
    · exact ch_do_cap hW (Lib.hid hmn) (Lib.hid hnn) (by omega) hi (Lib.hid hl) (Lib.hid rfl) hadd hc
    · have hi' := hi.out
      unfold insB at hi'
      have k0 := hok.out.k_0 (id - 1)
      have k2 := hok.out.k_2 (id - 1)
      have v0 := hok.out.w_0 id
      have v2 := hok.out.w_2 id
      have c0 := S.c0
      have cb := S.cb
      have d1 := S.dn
      have la := S.la
      by_cases k4 : kind = 4 ∨ kind = 5
      · rcases k4 with rfl | rfl
        · exact ch_do_emit hW (Lib.hid hmn) (Lib.hid hnn) (by omega) hi (Lib.hid hl) (Lib.hid rfl) hadd hc
        · exact ch_do_seed hW (Lib.hid hmn) (Lib.hid hnn) (by omega) hi (Lib.hid hl) (Lib.hid rfl) hadd hc
      · rw [if_neg k4] at hi'
        by_cases k1 : kind = 1 ∨ kind = 2 ∨ kind = 3 ∨ kind = 6
        · rw [if_pos k1] at hi'
          simp only [Bool.and_eq_true, decide_eq_true_eq] at hi'
          have hwo : IntKind.i64.wrap (s.wo + Wk.more c kind id - c.w id) = s.wo + Wk.more c kind id - c.w id := by rw [IntKind.wrap_i64]; omega
          by_cases k12 : kind = 1 ∨ kind = 2
          · exact ch_do_compute (d := id - 1) k12 hW (Lib.hid hmn) (Lib.hid hnn) (by omega) hi (Lib.hid hl) (Lib.hid rfl) hadd hc (by omega) (by omega) (Lib.hid rfl) (by rw [IntKind.wrap_i64]; omega)
          · rcases k1 with rfl | rfl | rfl | rfl
            · omega
            · omega
            · exact ch_do_free hW (Lib.hid hmn) (Lib.hid hnn) (by omega) hi (Lib.hid hl) (Lib.hid rfl) hadd hc (by omega) hwo
            · exact ch_do_back (d := id - 1) hW (Lib.hid hmn) (Lib.hid hnn) (by omega) hi (Lib.hid hl) (Lib.hid rfl) hadd hc (by omega) (by omega) (Lib.hid rfl) hwo (by rw [IntKind.wrap_i64]; omega)
        · rw [if_neg k1] at hi'; cases hi'
end

end Go.Proofs.Ytphcffcecncngaa
