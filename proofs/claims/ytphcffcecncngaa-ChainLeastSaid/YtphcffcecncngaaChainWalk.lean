/- The walk of a plan: legal, more. -/
import Derived.Test.YtphcffcecncngaaChainPlan
import Derived.Test.YtphcffcecncngaaChainWalkMath
import Derived.Test.YtphcffcecncngaaCode
namespace Go.Proofs.Ytphcffcecncngaa
open Go.RowKit

theorem boolC_at {bs : List Bool} {i : Nat} (h : i < bs.length) : (boolC bs)[i]? = some (.bool (Wk.at_ bs i)) := by
  refine boolC_get ?_
  unfold Wk.at_
  rw [List.getD_eq_getElem?_getD, List.getElem?_eq_getElem h]
  rfl
/-- The cells of a walk. -/
abbrev wkC (A : Option Addr) (n p : Nat) (B : Option Addr) (m q : Nat) (cap : Int) (gp gv gg : Nat) (s : Wk) : Array Value :=
  #[.slice A n p, .slice B m q, .int .i64 m, .int .i64 cap, .slice (some ⟨gp, 0, none⟩) n n, .slice (some ⟨gv, 0, none⟩) n n, .slice (some ⟨gg, 0, none⟩) n n, .bool s.em, .bool s.sd, .int .i64 s.la, .int .i64 s.wo, .int .i64 s.pk, .int .i64 s.co]
/-- A walk in memory. -/
structure WkM (w0 w : World) (wk gp gv gg : Nat) (A : Option Addr) (n p : Nat) (B : Option Addr) (m q : Nat) (cap : Int) (s : Wk) : Prop where
  pr : Prev w w0
  box : Bx w wk 114 (wkC A n p B m q cap gp gv gg s)
  p : Bx w gp 4 (boolC s.pr)
  v : Bx w gv 4 (boolC s.sv)
  g : Bx w gg 4 (boolC s.gr)
  pv : gp ≠ gv
  pg : gp ≠ gg
  vg : gv ≠ gg
  hw : w0.heap.size ≤ wk
  hp : w0.heap.size ≤ gp
  hv : w0.heap.size ≤ gv
  hg : w0.heap.size ≤ gg
  lp : s.pr.length = n
  lv : s.sv.length = n
  lg : s.gr.length = n
section
variable {w w' w0 : World} {A B : Option Addr} {n m p q wk gp gv gg id d : Nat} {c : Ch} {cap kind : Int} {s : Wk}
theorem WkM.at [l : Later w w'] (h : WkM w0 w wk gp gv gg A n p B m q cap s) : WkM w0 w' wk gp gv gg A n p B m q cap s := by
  have hp := h.pr
  have : Later w0 w := inferInstance
  exact ⟨⟨(Later.trans this l).st⟩, ⟨h.box.blk.at⟩, ⟨h.p.blk.at⟩, ⟨h.v.blk.at⟩, ⟨h.g.blk.at⟩, h.pv, h.pg, h.vg, h.hw, h.hp, h.hv, h.hg, h.lp, h.lv, h.lg⟩
set_option maxRecDepth 100000 in
set_option maxHeartbeats 4000000 in
theorem ch_legal_1 (h : Hid (WkM w0 w wk gp gv gg A n p B m q cap s)) (h1 : Hid (id - 1 = d)) (h2 : 1 ≤ id) (h3 : id < n) (h4 : n ≤ 65) :
    Calls Try.prog 95 #[.pointer (some ⟨wk, 0, none⟩), .agg #[.int .i64 1, .int .i64 id]] w (RetV w (.bool (!Wk.at_ s.sv id && Wk.at_ s.pr d))) := by
  have CB := @cell_bx
  have CP := @cell_prev
  have kW := h.out.box
  have kp := h.out.p
  have kv := h.out.v
  have hdn : d < n := by have := h1.out; omega
  have e1 := boolC_at (bs := s.sv) (i := id) (by rw [h.out.lv]; exact h3)
  have e2 := boolC_at (bs := s.pr) (i := d) (by rw [h.out.lp]; exact hdn)
  have hsub : IntKind.i64.wrap ((id : Int) - 1) = (d : Int) := by rw [IntKind.wrap_i64]; have := h1.out; omega
  generalize Wk.at_ s.sv id = x at *
  generalize Wk.at_ s.pr d = y at *
  rcases x with _ | _
  all_goals
    go_enter Try.func95, Try.ntmps95
    go_wp2_with fail
    go_ret
    exact ⟨rfl, prev_bel _ _⟩
set_option maxRecDepth 100000 in
set_option maxHeartbeats 4000000 in
theorem ch_legal_2 (h : Hid (WkM w0 w wk gp gv gg A n p B m q cap s)) (h1 : Hid (id - 1 = d)) (h2 : 1 ≤ id) (h3 : id < n) (h4 : n ≤ 65) :
    Calls Try.prog 95 #[.pointer (some ⟨wk, 0, none⟩), .agg #[.int .i64 2, .int .i64 id]] w (RetV w (.bool (Wk.at_ s.sv id && !Wk.at_ s.pr id && Wk.at_ s.pr d))) := by
  have CB := @cell_bx
  have CP := @cell_prev
  have kW := h.out.box
  have kp := h.out.p
  have kv := h.out.v
  have hdn : d < n := by have := h1.out; omega
  have e1 := boolC_at (bs := s.sv) (i := id) (by rw [h.out.lv]; exact h3)
  have e2 := boolC_at (bs := s.pr) (i := d) (by rw [h.out.lp]; exact hdn)
  have e3 := boolC_at (bs := s.pr) (i := id) (by rw [h.out.lp]; exact h3)
  have hsub : IntKind.i64.wrap ((id : Int) - 1) = (d : Int) := by rw [IntKind.wrap_i64]; have := h1.out; omega
  generalize Wk.at_ s.sv id = x at *
  generalize Wk.at_ s.pr d = y at *
  generalize Wk.at_ s.pr id = z at *
  rcases x with _ | _ <;> rcases z with _ | _
  all_goals
    go_enter Try.func95, Try.ntmps95
    go_wp2_with fail
    go_ret
    exact ⟨rfl, prev_bel _ _⟩
set_option maxRecDepth 100000 in
set_option maxHeartbeats 4000000 in
theorem ch_legal_3 (h : Hid (WkM w0 w wk gp gv gg A n p B m q cap s)) (h3 : id < n) :
    Calls Try.prog 95 #[.pointer (some ⟨wk, 0, none⟩), .agg #[.int .i64 3, .int .i64 id]] w (RetV w (.bool (Wk.at_ s.pr id))) := by
  have CB := @cell_bx
  have CP := @cell_prev
  have kW := h.out.box
  have kp := h.out.p
  have e3 := boolC_at (bs := s.pr) (i := id) (by rw [h.out.lp]; exact h3)
  generalize Wk.at_ s.pr id = z at *
  go_enter Try.func95, Try.ntmps95
  go_wp2_with fail
  go_ret
  exact ⟨rfl, prev_bel _ _⟩
set_option maxRecDepth 100000 in
set_option maxHeartbeats 4000000 in
theorem ch_legal_4 (h : Hid (WkM w0 w wk gp gv gg A n p B m q cap s)) (h3 : m < n) {id : Int} :
    Calls Try.prog 95 #[.pointer (some ⟨wk, 0, none⟩), .agg #[.int .i64 4, .int .i64 id]] w (RetV w (.bool (Wk.at_ s.pr m && !s.em))) := by
  have CB := @cell_bx
  have CP := @cell_prev
  have kW := h.out.box
  have kp := h.out.p
  have e3 := boolC_at (bs := s.pr) (i := m) (by rw [h.out.lp]; exact h3)
  generalize Wk.at_ s.pr m = z at *
  rcases z with _ | _
  · go_enter Try.func95, Try.ntmps95
    go_wp2_with fail
    refine wp_region_up0 (by kernel_rfl) (fun u1 _ => ?_)
    refine wpAnyH_on (i := 0) (d := 70) (v := ?_) rfl rfl (by kernel_rfl) (by kernel_rfl) (by kernel_rfl) (fun _ _ _ h => h) (by kernel_rfl) (prev_bel _ _) ?_ ?_
    rotate_left
    · intro uu (pu : Prev uu _)
      go_simp
      try (with_reducible rfl)
    try simp only [List.set]
    refine wpAnyH_on (i := 1) (d := 71) (v := ?_) rfl rfl (by kernel_rfl) (by kernel_rfl) (by kernel_rfl) (fun _ _ _ h => h) (by kernel_rfl) (prev_bel _ _) ?_ ?_
    rotate_left
    · intro uu (pu : Prev uu _)
      go_simp
      try (with_reducible rfl)
    try simp only [List.set]
    refine wpAnyH_on (i := 2) (d := 72) (v := ?_) rfl rfl (by kernel_rfl) (by kernel_rfl) (by kernel_rfl) (fun _ _ _ h => h) (by kernel_rfl) (prev_bel _ _) ?_ ?_
    rotate_left
    · intro uu (pu : Prev uu _)
      go_simp
      try (with_reducible rfl)
    try simp only [List.set]
    refine wpAnyH_on (i := 3) (d := 73) (v := ?_) rfl rfl (by kernel_rfl) (by kernel_rfl) (by kernel_rfl) (fun _ _ _ h => h) (by kernel_rfl) (prev_bel _ _) ?_ ?_
    rotate_left
    · intro uu (pu : Prev uu _)
      go_simp
      try (with_reducible rfl)
    try simp only [List.set]
    refine wpAnyH_on (i := 4) (d := 74) (v := ?_) rfl rfl (by kernel_rfl) (by kernel_rfl) (by kernel_rfl) (fun _ _ _ h => h) (by kernel_rfl) (prev_bel _ _) ?_ ?_
    rotate_left
    · intro uu (pu : Prev uu _)
      go_simp
      try (with_reducible rfl)
    try simp only [List.set]
    refine wpAnyH_on (i := 5) (d := 75) (v := ?_) rfl rfl (by kernel_rfl) (by kernel_rfl) (by kernel_rfl) (fun _ _ _ h => h) (by kernel_rfl) (prev_bel _ _) ?_ ?_
    rotate_left
    · intro uu (pu : Prev uu _)
      go_simp
      try (with_reducible rfl)
    try simp only [List.set]
    refine wpAnyH_on (i := 6) (d := 76) (v := ?_) rfl rfl (by kernel_rfl) (by kernel_rfl) (by kernel_rfl) (fun _ _ _ h => h) (by kernel_rfl) (prev_bel _ _) ?_ ?_
    rotate_left
    · intro uu (pu : Prev uu _)
      go_simp
      try (with_reducible rfl)
    try simp only [List.set]
    refine wpAnyH_on (i := 7) (d := 77) (v := ?_) rfl rfl (by kernel_rfl) (by kernel_rfl) (by kernel_rfl) (fun _ _ _ h => h) (by kernel_rfl) (prev_bel _ _) ?_ ?_
    rotate_left
    · intro uu (pu : Prev uu _)
      go_simp
      try (with_reducible rfl)
    try simp only [List.set]
    refine wpAnyH_on (i := 8) (d := 78) (v := ?_) rfl rfl (by kernel_rfl) (by kernel_rfl) (by kernel_rfl) (fun _ _ _ h => h) (by kernel_rfl) (prev_bel _ _) ?_ ?_
    rotate_left
    · intro uu (pu : Prev uu _)
      go_simp
      try (with_reducible rfl)
    try simp only [List.set]
    refine wpAnyH_on (i := 9) (d := 79) (v := ?_) rfl rfl (by kernel_rfl) (by kernel_rfl) (by kernel_rfl) (fun _ _ _ h => h) (by kernel_rfl) (prev_bel _ _) ?_ ?_
    rotate_left
    · intro uu (pu : Prev uu _)
      go_simp
      try (with_reducible rfl)
    try simp only [List.set]
    refine wpAnyH_on (i := 10) (d := 80) (v := ?_) rfl rfl (by kernel_rfl) (by kernel_rfl) (by kernel_rfl) (fun _ _ _ h => h) (by kernel_rfl) (prev_bel _ _) ?_ ?_
    rotate_left
    · intro uu (pu : Prev uu _)
      go_simp
      try (with_reducible rfl)
    try simp only [List.set]
    refine wpAnyH_off (i := 11) (d := 81) rfl rfl (by kernel_rfl) (by kernel_rfl) (by kernel_rfl) (fun _ _ _ h => h) (by kernel_rfl) (prev_bel _ _) ?_
    try simp only [List.set]
    refine wpAnyH_off (i := 12) (d := 82) rfl rfl (by kernel_rfl) (by kernel_rfl) (by kernel_rfl) (fun _ _ _ h => h) (by kernel_rfl) (prev_bel _ _) ?_
    try simp only [List.set]
    refine wpAnyH_off (i := 13) (d := 83) rfl rfl (by kernel_rfl) (by kernel_rfl) (by kernel_rfl) (fun _ _ _ h => h) (by kernel_rfl) (prev_bel _ _) ?_
    try simp only [List.set]
    refine wpAnyH_off (i := 14) (d := 84) rfl rfl (by kernel_rfl) (by kernel_rfl) (by kernel_rfl) (fun _ _ _ h => h) (by kernel_rfl) (prev_bel _ _) ?_
    try simp only [List.set]
    refine wpAnyH_off (i := 15) (d := 85) rfl rfl (by kernel_rfl) (by kernel_rfl) (by kernel_rfl) (fun _ _ _ h => h) (by kernel_rfl) (prev_bel _ _) ?_
    try simp only [List.set]
    refine wpAnyH_on (i := 16) (d := 86) (v := ?_) rfl rfl (by kernel_rfl) (by kernel_rfl) (by kernel_rfl) (fun _ _ _ h => h) (by kernel_rfl) (prev_bel _ _) ?_ ?_
    rotate_left
    · intro uu (pu : Prev uu _)
      go_simp
      try (with_reducible rfl)
    try simp only [List.set]
    refine wpAnyH_on (i := 17) (d := 4) (v := ?_) rfl rfl (by kernel_rfl) (by kernel_rfl) (by kernel_rfl) (fun _ _ _ h => h) (by kernel_rfl) (prev_bel _ _) ?_ ?_
    rotate_left
    · intro uu (pu : Prev uu _)
      go_simp
      try (with_reducible rfl)
    try simp only [List.set]
    refine wpAnyH_done (by kernel_rfl) ?_ _
    go_wp2_with fail
    go_ret
    exact ⟨rfl, prev_bel _ _⟩
  · go_enter Try.func95, Try.ntmps95
    go_wp2_with fail
    refine wp_region_up0 (by kernel_rfl) (fun u1 _ => ?_)
    refine wpAnyH_on (i := 0) (d := 70) (v := ?_) rfl rfl (by kernel_rfl) (by kernel_rfl) (by kernel_rfl) (fun _ _ _ h => h) (by kernel_rfl) (prev_bel _ _) ?_ ?_
    rotate_left
    · intro uu (pu : Prev uu _)
      go_simp
      try (with_reducible rfl)
    try simp only [List.set]
    refine wpAnyH_on (i := 1) (d := 71) (v := ?_) rfl rfl (by kernel_rfl) (by kernel_rfl) (by kernel_rfl) (fun _ _ _ h => h) (by kernel_rfl) (prev_bel _ _) ?_ ?_
    rotate_left
    · intro uu (pu : Prev uu _)
      go_simp
      try (with_reducible rfl)
    try simp only [List.set]
    refine wpAnyH_on (i := 2) (d := 72) (v := ?_) rfl rfl (by kernel_rfl) (by kernel_rfl) (by kernel_rfl) (fun _ _ _ h => h) (by kernel_rfl) (prev_bel _ _) ?_ ?_
    rotate_left
    · intro uu (pu : Prev uu _)
      go_simp
      try (with_reducible rfl)
    try simp only [List.set]
    refine wpAnyH_on (i := 3) (d := 73) (v := ?_) rfl rfl (by kernel_rfl) (by kernel_rfl) (by kernel_rfl) (fun _ _ _ h => h) (by kernel_rfl) (prev_bel _ _) ?_ ?_
    rotate_left
    · intro uu (pu : Prev uu _)
      go_simp
      try (with_reducible rfl)
    try simp only [List.set]
    refine wpAnyH_on (i := 4) (d := 74) (v := ?_) rfl rfl (by kernel_rfl) (by kernel_rfl) (by kernel_rfl) (fun _ _ _ h => h) (by kernel_rfl) (prev_bel _ _) ?_ ?_
    rotate_left
    · intro uu (pu : Prev uu _)
      go_simp
      try (with_reducible rfl)
    try simp only [List.set]
    refine wpAnyH_on (i := 5) (d := 75) (v := ?_) rfl rfl (by kernel_rfl) (by kernel_rfl) (by kernel_rfl) (fun _ _ _ h => h) (by kernel_rfl) (prev_bel _ _) ?_ ?_
    rotate_left
    · intro uu (pu : Prev uu _)
      go_simp
      try (with_reducible rfl)
    try simp only [List.set]
    refine wpAnyH_on (i := 6) (d := 76) (v := ?_) rfl rfl (by kernel_rfl) (by kernel_rfl) (by kernel_rfl) (fun _ _ _ h => h) (by kernel_rfl) (prev_bel _ _) ?_ ?_
    rotate_left
    · intro uu (pu : Prev uu _)
      go_simp
      try (with_reducible rfl)
    try simp only [List.set]
    refine wpAnyH_on (i := 7) (d := 77) (v := ?_) rfl rfl (by kernel_rfl) (by kernel_rfl) (by kernel_rfl) (fun _ _ _ h => h) (by kernel_rfl) (prev_bel _ _) ?_ ?_
    rotate_left
    · intro uu (pu : Prev uu _)
      go_simp
      try (with_reducible rfl)
    try simp only [List.set]
    refine wpAnyH_on (i := 8) (d := 78) (v := ?_) rfl rfl (by kernel_rfl) (by kernel_rfl) (by kernel_rfl) (fun _ _ _ h => h) (by kernel_rfl) (prev_bel _ _) ?_ ?_
    rotate_left
    · intro uu (pu : Prev uu _)
      go_simp
      try (with_reducible rfl)
    try simp only [List.set]
    refine wpAnyH_on (i := 9) (d := 79) (v := ?_) rfl rfl (by kernel_rfl) (by kernel_rfl) (by kernel_rfl) (fun _ _ _ h => h) (by kernel_rfl) (prev_bel _ _) ?_ ?_
    rotate_left
    · intro uu (pu : Prev uu _)
      go_simp
      try (with_reducible rfl)
    try simp only [List.set]
    refine wpAnyH_on (i := 10) (d := 80) (v := ?_) rfl rfl (by kernel_rfl) (by kernel_rfl) (by kernel_rfl) (fun _ _ _ h => h) (by kernel_rfl) (prev_bel _ _) ?_ ?_
    rotate_left
    · intro uu (pu : Prev uu _)
      go_simp
      try (with_reducible rfl)
    try simp only [List.set]
    refine wpAnyH_on (i := 11) (d := 81) (v := ?_) rfl rfl (by kernel_rfl) (by kernel_rfl) (by kernel_rfl) (fun _ _ _ h => h) (by kernel_rfl) (prev_bel _ _) ?_ ?_
    rotate_left
    · intro uu (pu : Prev uu _)
      go_simp
      try (with_reducible rfl)
    try simp only [List.set]
    refine wpAnyH_on (i := 12) (d := 82) (v := ?_) rfl rfl (by kernel_rfl) (by kernel_rfl) (by kernel_rfl) (fun _ _ _ h => h) (by kernel_rfl) (prev_bel _ _) ?_ ?_
    rotate_left
    · intro uu (pu : Prev uu _)
      go_simp
      try (with_reducible rfl)
    try simp only [List.set]
    refine wpAnyH_on (i := 13) (d := 83) (v := ?_) rfl rfl (by kernel_rfl) (by kernel_rfl) (by kernel_rfl) (fun _ _ _ h => h) (by kernel_rfl) (prev_bel _ _) ?_ ?_
    rotate_left
    · intro uu (pu : Prev uu _)
      go_simp
      try (with_reducible rfl)
    try simp only [List.set]
    refine wpAnyH_on (i := 14) (d := 84) (v := ?_) rfl rfl (by kernel_rfl) (by kernel_rfl) (by kernel_rfl) (fun _ _ _ h => h) (by kernel_rfl) (prev_bel _ _) ?_ ?_
    rotate_left
    · intro uu (pu : Prev uu _)
      go_simp
      try (with_reducible rfl)
    try simp only [List.set]
    refine wpAnyH_on (i := 15) (d := 85) (v := ?_) rfl rfl (by kernel_rfl) (by kernel_rfl) (by kernel_rfl) (fun _ _ _ h => h) (by kernel_rfl) (prev_bel _ _) ?_ ?_
    rotate_left
    · intro uu (pu : Prev uu _)
      go_simp
      try (with_reducible rfl)
    try simp only [List.set]
    refine wpAnyH_on (i := 16) (d := 86) (v := ?_) rfl rfl (by kernel_rfl) (by kernel_rfl) (by kernel_rfl) (fun _ _ _ h => h) (by kernel_rfl) (prev_bel _ _) ?_ ?_
    rotate_left
    · intro uu (pu : Prev uu _)
      go_simp
      try (with_reducible rfl)
    try simp only [List.set]
    refine wpAnyH_on (i := 17) (d := 4) (v := ?_) rfl rfl (by kernel_rfl) (by kernel_rfl) (by kernel_rfl) (fun _ _ _ h => h) (by kernel_rfl) (prev_bel _ _) ?_ ?_
    rotate_left
    · intro uu (pu : Prev uu _)
      go_simp
      try (with_reducible rfl)
    try simp only [List.set]
    refine wpAnyH_done (by kernel_rfl) ?_ _
    go_wp2_with fail
    go_ret
    exact ⟨rfl, prev_bel _ _⟩
set_option maxRecDepth 100000 in
set_option maxHeartbeats 4000000 in
theorem ch_legal_5 (h : Hid (WkM w0 w wk gp gv gg A n p B m q cap s)) {id : Int} :
    Calls Try.prog 95 #[.pointer (some ⟨wk, 0, none⟩), .agg #[.int .i64 5, .int .i64 id]] w (RetV w (.bool (!s.sd))) := by
  have CB := @cell_bx
  have CP := @cell_prev
  have kW := h.out.box
  go_enter Try.func95, Try.ntmps95
  go_wp2_with fail
  go_ret
  exact ⟨rfl, prev_bel _ _⟩
set_option maxRecDepth 100000 in
set_option maxHeartbeats 4000000 in
theorem ch_legal_6 (h : Hid (WkM w0 w wk gp gv gg A n p B m q cap s)) (h1 : Hid (id - 1 = d)) (h2 : 1 ≤ id) (h3 : id < n) (h4 : n ≤ 65) :
    Calls Try.prog 95 #[.pointer (some ⟨wk, 0, none⟩), .agg #[.int .i64 6, .int .i64 id]] w (RetV w (.bool (decide ((id : Int) = s.la) && Wk.at_ s.gr id && Wk.at_ s.pr d))) := by
  have CB := @cell_bx
  have CP := @cell_prev
  have kW := h.out.box
  have kp := h.out.p
  have kg := h.out.g
  have hdn : d < n := by have := h1.out; omega
  have e1 := boolC_at (bs := s.gr) (i := id) (by rw [h.out.lg]; exact h3)
  have e2 := boolC_at (bs := s.pr) (i := d) (by rw [h.out.lp]; exact hdn)
  have hsub : IntKind.i64.wrap ((id : Int) - 1) = (d : Int) := by rw [IntKind.wrap_i64]; have := h1.out; omega
  generalize Wk.at_ s.gr id = x at *
  generalize Wk.at_ s.pr d = y at *
  by_cases e : (id : Int) = s.la
  · have HE : Hid ((decide ((id : Int) = s.la) && x && y) = (x && y)) := Lib.hid (by rw [decide_eq_true e, Bool.true_and])
    have t1 : ((id : Int) == s.la) = true := by simpa using e
    clear e
    rcases x with _ | _
    all_goals
      go_enter Try.func95, Try.ntmps95
      go_wp2_with fail
      go_ret
      exact ⟨by rw [HE.out]; rfl, prev_bel _ _⟩
  · have HE : Hid ((decide ((id : Int) = s.la) && x && y) = false) := Lib.hid (by rw [decide_eq_false e]; rfl)
    have t1 : ((id : Int) == s.la) = false := by simpa using e
    clear e
    go_enter Try.func95, Try.ntmps95
    go_wp2_with fail
    go_ret
    exact ⟨by rw [HE.out]; rfl, prev_bel _ _⟩
theorem ch_legal {kind : Int} (h : Hid (WkM w0 w wk gp gv gg A n p B m q cap s)) (hm : Hid (m = c.n)) (hn : Hid (n = c.n + 1)) (h4 : n ≤ 65) (hi : Hid (insB c.n kind id = true)) :
    Calls Try.prog 95 #[.pointer (some ⟨wk, 0, none⟩), .agg #[.int .i64 kind, .int .i64 id]] w (RetV w (.bool (s.legal c.n kind id))) := by
  have hi := hi.out
  have hn1 := hn.out
  unfold insB at hi
  by_cases k4 : kind = 4 ∨ kind = 5
  · rcases k4 with rfl | rfl
    · have := ch_legal_4 (id := id) h (by have := hm.out; omega)
      rw [hm.out] at this
      exact this
    · exact ch_legal_5 (id := id) h
  · rw [if_neg k4] at hi
    by_cases k1 : kind = 1 ∨ kind = 2 ∨ kind = 3 ∨ kind = 6
    · rw [if_pos k1] at hi
      simp only [Bool.and_eq_true, decide_eq_true_eq] at hi
      rcases k1 with rfl | rfl | rfl | rfl
      · exact ch_legal_1 h (Lib.hid rfl) (by omega) (by omega) h4
      · exact ch_legal_2 h (Lib.hid rfl) (by omega) (by omega) h4
      · exact ch_legal_3 h (by omega)
      · exact ch_legal_6 h (Lib.hid rfl) (by omega) (by omega) h4
    · rw [if_neg k1] at hi; cases hi
set_option maxRecDepth 100000 in
set_option maxHeartbeats 4000000 in
theorem ch_more {kind : Int} [a : Sl w0 A n c.W] (h : Hid (WkM w0 w wk gp gv gg A n p B m q cap s)) (hm : Hid (m = c.n)) (hn : Hid (n = c.n + 1)) (h4 : n ≤ 65) (hi : Hid (insB c.n kind id = true)) :
    Calls Try.prog 96 #[.pointer (some ⟨wk, 0, none⟩), .agg #[.int .i64 kind, .int .i64 id]] w (RetV w (.int .i64 (Wk.more c kind id))) := by
  have CB := @cell_bx
  have CP := @cell_prev
  have hi' := hi.out
  have hn1 := hn.out
  have hm1 := hm.out
  have kW := h.out.box
  have hpr := h.out.pr
  have hmn : m < n := by omega
  unfold insB at hi'
  by_cases k4 : kind = 4 ∨ kind = 5
  · clear hi' hn1
    rcases k4 with rfl | rfl
    · have HT : Hid (Wk.more c 4 id = 0) := Lib.hid rfl
      clear hm1
      go_enter Try.func96, Try.ntmps96
      go_wp2_with fail
      go_ret
      exact ⟨by rw [HT.out]; rfl, prev_bel _ _⟩
    · have HT : Hid (Wk.more c 5 id = c.w m) := Lib.hid (by rw [hm1]; rfl)
      clear hm1
      obtain ⟨b1, o1, rfl, ob1, v1⟩ := Sl.at_w (c := c) (w := w0) (A := A) (n := n) (l := m) hmn
      go_enter Try.func96, Try.ntmps96
      go_wp2_with fail
      refine wp_region_up0 (by kernel_rfl) (fun u1 _ => ?_)
      refine wpAnyH_on (i := 0) (d := 21) (v := ?_) rfl rfl (by kernel_rfl) (by kernel_rfl) (by kernel_rfl) (fun _ _ _ h => h) (by kernel_rfl) (prev_bel _ _) ?_ ?_
      rotate_left
      · intro uu (pu : Prev uu _)
        go_simp
        try (with_reducible rfl)
      try simp only [List.set]
      refine wpAnyH_on (i := 1) (d := 22) (v := ?_) rfl rfl (by kernel_rfl) (by kernel_rfl) (by kernel_rfl) (fun _ _ _ h => h) (by kernel_rfl) (prev_bel _ _) ?_ ?_
      rotate_left
      · intro uu (pu : Prev uu _)
        go_simp
        try (with_reducible rfl)
      try simp only [List.set]
      refine wpAnyH_on (i := 2) (d := 23) (v := ?_) rfl rfl (by kernel_rfl) (by kernel_rfl) (by kernel_rfl) (fun _ _ _ h => h) (by kernel_rfl) (prev_bel _ _) ?_ ?_
      rotate_left
      · intro uu (pu : Prev uu _)
        go_simp
        try (with_reducible rfl)
      try simp only [List.set]
      refine wpAnyH_on (i := 3) (d := 24) (v := ?_) rfl rfl (by kernel_rfl) (by kernel_rfl) (by kernel_rfl) (fun _ _ _ h => h) (by kernel_rfl) (prev_bel _ _) ?_ ?_
      rotate_left
      · intro uu (pu : Prev uu _)
        go_simp
        try (with_reducible rfl)
      try simp only [List.set]
      refine wpAnyH_on (i := 4) (d := 25) (v := ?_) rfl rfl (by kernel_rfl) (by kernel_rfl) (by kernel_rfl) (fun _ _ _ h => h) (by kernel_rfl) (prev_bel _ _) ?_ ?_
      rotate_left
      · intro uu (pu : Prev uu _)
        go_simp
        try (with_reducible rfl)
      try simp only [List.set]
      refine wpAnyH_on (i := 5) (d := 26) (v := ?_) rfl rfl (by kernel_rfl) (by kernel_rfl) (by kernel_rfl) (fun _ _ _ h => h) (by kernel_rfl) (prev_bel _ _) ?_ ?_
      rotate_left
      · intro uu (pu : Prev uu _)
        go_simp
        try (with_reducible rfl)
      try simp only [List.set]
      refine wpAnyH_on (i := 6) (d := 27) (v := ?_) rfl rfl (by kernel_rfl) (by kernel_rfl) (by kernel_rfl) (fun _ _ _ h => h) (by kernel_rfl) (prev_bel _ _) ?_ ?_
      rotate_left
      · intro uu (pu : Prev uu _)
        go_simp
        try (with_reducible rfl)
      try simp only [List.set]
      refine wpAnyH_on (i := 7) (d := 28) (v := ?_) rfl rfl (by kernel_rfl) (by kernel_rfl) (by kernel_rfl) (fun _ _ _ h => h) (by kernel_rfl) (prev_bel _ _) ?_ ?_
      rotate_left
      · intro uu (pu : Prev uu _)
        go_simp
        try (with_reducible rfl)
      try simp only [List.set]
      refine wpAnyH_on (i := 8) (d := 29) (v := ?_) rfl rfl (by kernel_rfl) (by kernel_rfl) (by kernel_rfl) (fun _ _ _ h => h) (by kernel_rfl) (prev_bel _ _) ?_ ?_
      rotate_left
      · intro uu (pu : Prev uu _)
        go_simp
        try (with_reducible rfl)
      try simp only [List.set]
      refine wpAnyH_on (i := 9) (d := 30) (v := ?_) rfl rfl (by kernel_rfl) (by kernel_rfl) (by kernel_rfl) (fun _ _ _ h => h) (by kernel_rfl) (prev_bel _ _) ?_ ?_
      rotate_left
      · intro uu (pu : Prev uu _)
        go_simp
        try (with_reducible rfl)
      try simp only [List.set]
      refine wpAnyH_on (i := 10) (d := 31) (v := ?_) rfl rfl (by kernel_rfl) (by kernel_rfl) (by kernel_rfl) (fun _ _ _ h => h) (by kernel_rfl) (prev_bel _ _) ?_ ?_
      rotate_left
      · intro uu (pu : Prev uu _)
        go_simp
        try (with_reducible rfl)
      try simp only [List.set]
      refine wpAnyH_on (i := 11) (d := 4) (v := ?_) rfl rfl (by kernel_rfl) (by kernel_rfl) (by kernel_rfl) (fun _ _ _ h => h) (by kernel_rfl) (prev_bel _ _) ?_ ?_
      rotate_left
      · intro uu (pu : Prev uu _)
        go_simp
        try (with_reducible rfl)
      try simp only [List.set]
      refine wpAnyH_done (by kernel_rfl) ?_ _
      go_wp2_with fail
      go_ret
      exact ⟨by rw [HT.out]; rfl, prev_bel _ _⟩
  · rw [if_neg k4] at hi'
    by_cases k1 : kind = 1 ∨ kind = 2 ∨ kind = 3 ∨ kind = 6
    · rw [if_pos k1] at hi'
      simp only [Bool.and_eq_true, decide_eq_true_eq] at hi'
      obtain ⟨i1, i2⟩ := hi'
      have hid : id < n := by omega
      have hid1 : 1 ≤ id := by omega
      obtain ⟨d, hd⟩ : ∃ d, id - 1 = d := ⟨_, rfl⟩
      have hsub : IntKind.i64.wrap ((id : Int) - 1) = (d : Int) := by rw [IntKind.wrap_i64]; omega
      have hdn : d < n := by omega
      have HD := Lib.hid hd
      clear hm1 hn1 i2 i1 hd k4
      rcases k1 with rfl | rfl | rfl | rfl
      · have HT : Hid (Wk.more c 1 id = c.w id) := Lib.hid rfl
        obtain ⟨b1, o1, rfl, ob1, v1⟩ := Sl.at_w (c := c) (w := w0) (A := A) (n := n) (l := id) hid
        go_enter Try.func96, Try.ntmps96
        go_wp2_with fail
        refine wp_region_up0 (by kernel_rfl) (fun u1 _ => ?_)
        refine wpAnyH_on (i := 0) (d := 10) (v := ?_) rfl rfl (by kernel_rfl) (by kernel_rfl) (by kernel_rfl) (fun _ _ _ h => h) (by kernel_rfl) (prev_bel _ _) ?_ ?_
        rotate_left
        · intro uu (pu : Prev uu _)
          go_simp
          try (with_reducible rfl)
        try simp only [List.set]
        refine wpAnyH_on (i := 1) (d := 11) (v := ?_) rfl rfl (by kernel_rfl) (by kernel_rfl) (by kernel_rfl) (fun _ _ _ h => h) (by kernel_rfl) (prev_bel _ _) ?_ ?_
        rotate_left
        · intro uu (pu : Prev uu _)
          go_simp
          try (with_reducible rfl)
        try simp only [List.set]
        refine wpAnyH_on (i := 2) (d := 12) (v := ?_) rfl rfl (by kernel_rfl) (by kernel_rfl) (by kernel_rfl) (fun _ _ _ h => h) (by kernel_rfl) (prev_bel _ _) ?_ ?_
        rotate_left
        · intro uu (pu : Prev uu _)
          go_simp
          try (with_reducible rfl)
        try simp only [List.set]
        refine wpAnyH_on (i := 3) (d := 13) (v := ?_) rfl rfl (by kernel_rfl) (by kernel_rfl) (by kernel_rfl) (fun _ _ _ h => h) (by kernel_rfl) (prev_bel _ _) ?_ ?_
        rotate_left
        · intro uu (pu : Prev uu _)
          go_simp
          try (with_reducible rfl)
        try simp only [List.set]
        refine wpAnyH_on (i := 4) (d := 14) (v := ?_) rfl rfl (by kernel_rfl) (by kernel_rfl) (by kernel_rfl) (fun _ _ _ h => h) (by kernel_rfl) (prev_bel _ _) ?_ ?_
        rotate_left
        · intro uu (pu : Prev uu _)
          go_simp
          try (with_reducible rfl)
        try simp only [List.set]
        refine wpAnyH_on (i := 5) (d := 15) (v := ?_) rfl rfl (by kernel_rfl) (by kernel_rfl) (by kernel_rfl) (fun _ _ _ h => h) (by kernel_rfl) (prev_bel _ _) ?_ ?_
        rotate_left
        · intro uu (pu : Prev uu _)
          go_simp
          try (with_reducible rfl)
        try simp only [List.set]
        refine wpAnyH_on (i := 6) (d := 16) (v := ?_) rfl rfl (by kernel_rfl) (by kernel_rfl) (by kernel_rfl) (fun _ _ _ h => h) (by kernel_rfl) (prev_bel _ _) ?_ ?_
        rotate_left
        · intro uu (pu : Prev uu _)
          go_simp
          try (with_reducible rfl)
        try simp only [List.set]
        refine wpAnyH_on (i := 7) (d := 17) (v := ?_) rfl rfl (by kernel_rfl) (by kernel_rfl) (by kernel_rfl) (fun _ _ _ h => h) (by kernel_rfl) (prev_bel _ _) ?_ ?_
        rotate_left
        · intro uu (pu : Prev uu _)
          go_simp
          try (with_reducible rfl)
        try simp only [List.set]
        refine wpAnyH_on (i := 8) (d := 18) (v := ?_) rfl rfl (by kernel_rfl) (by kernel_rfl) (by kernel_rfl) (fun _ _ _ h => h) (by kernel_rfl) (prev_bel _ _) ?_ ?_
        rotate_left
        · intro uu (pu : Prev uu _)
          go_simp
          try (with_reducible rfl)
        try simp only [List.set]
        refine wpAnyH_on (i := 9) (d := 4) (v := ?_) rfl rfl (by kernel_rfl) (by kernel_rfl) (by kernel_rfl) (fun _ _ _ h => h) (by kernel_rfl) (prev_bel _ _) ?_ ?_
        rotate_left
        · intro uu (pu : Prev uu _)
          go_simp
          try (with_reducible rfl)
        try simp only [List.set]
        refine wpAnyH_done (by kernel_rfl) ?_ _
        go_wp2_with fail
        go_ret
        exact ⟨by rw [HT.out]; rfl, prev_bel _ _⟩
      · have HT : Hid (Wk.more c 2 id = c.w id) := Lib.hid rfl
        obtain ⟨b1, o1, rfl, ob1, v1⟩ := Sl.at_w (c := c) (w := w0) (A := A) (n := n) (l := id) hid
        go_enter Try.func96, Try.ntmps96
        go_wp2_with fail
        refine wp_region_up0 (by kernel_rfl) (fun u1 _ => ?_)
        refine wpAnyH_on (i := 0) (d := 10) (v := ?_) rfl rfl (by kernel_rfl) (by kernel_rfl) (by kernel_rfl) (fun _ _ _ h => h) (by kernel_rfl) (prev_bel _ _) ?_ ?_
        rotate_left
        · intro uu (pu : Prev uu _)
          go_simp
          try (with_reducible rfl)
        try simp only [List.set]
        refine wpAnyH_on (i := 1) (d := 11) (v := ?_) rfl rfl (by kernel_rfl) (by kernel_rfl) (by kernel_rfl) (fun _ _ _ h => h) (by kernel_rfl) (prev_bel _ _) ?_ ?_
        rotate_left
        · intro uu (pu : Prev uu _)
          go_simp
          try (with_reducible rfl)
        try simp only [List.set]
        refine wpAnyH_on (i := 2) (d := 12) (v := ?_) rfl rfl (by kernel_rfl) (by kernel_rfl) (by kernel_rfl) (fun _ _ _ h => h) (by kernel_rfl) (prev_bel _ _) ?_ ?_
        rotate_left
        · intro uu (pu : Prev uu _)
          go_simp
          try (with_reducible rfl)
        try simp only [List.set]
        refine wpAnyH_on (i := 3) (d := 13) (v := ?_) rfl rfl (by kernel_rfl) (by kernel_rfl) (by kernel_rfl) (fun _ _ _ h => h) (by kernel_rfl) (prev_bel _ _) ?_ ?_
        rotate_left
        · intro uu (pu : Prev uu _)
          go_simp
          try (with_reducible rfl)
        try simp only [List.set]
        refine wpAnyH_on (i := 4) (d := 14) (v := ?_) rfl rfl (by kernel_rfl) (by kernel_rfl) (by kernel_rfl) (fun _ _ _ h => h) (by kernel_rfl) (prev_bel _ _) ?_ ?_
        rotate_left
        · intro uu (pu : Prev uu _)
          go_simp
          try (with_reducible rfl)
        try simp only [List.set]
        refine wpAnyH_on (i := 5) (d := 15) (v := ?_) rfl rfl (by kernel_rfl) (by kernel_rfl) (by kernel_rfl) (fun _ _ _ h => h) (by kernel_rfl) (prev_bel _ _) ?_ ?_
        rotate_left
        · intro uu (pu : Prev uu _)
          go_simp
          try (with_reducible rfl)
        try simp only [List.set]
        refine wpAnyH_on (i := 6) (d := 16) (v := ?_) rfl rfl (by kernel_rfl) (by kernel_rfl) (by kernel_rfl) (fun _ _ _ h => h) (by kernel_rfl) (prev_bel _ _) ?_ ?_
        rotate_left
        · intro uu (pu : Prev uu _)
          go_simp
          try (with_reducible rfl)
        try simp only [List.set]
        refine wpAnyH_on (i := 7) (d := 17) (v := ?_) rfl rfl (by kernel_rfl) (by kernel_rfl) (by kernel_rfl) (fun _ _ _ h => h) (by kernel_rfl) (prev_bel _ _) ?_ ?_
        rotate_left
        · intro uu (pu : Prev uu _)
          go_simp
          try (with_reducible rfl)
        try simp only [List.set]
        refine wpAnyH_on (i := 8) (d := 18) (v := ?_) rfl rfl (by kernel_rfl) (by kernel_rfl) (by kernel_rfl) (fun _ _ _ h => h) (by kernel_rfl) (prev_bel _ _) ?_ ?_
        rotate_left
        · intro uu (pu : Prev uu _)
          go_simp
          try (with_reducible rfl)
        try simp only [List.set]
        refine wpAnyH_on (i := 9) (d := 4) (v := ?_) rfl rfl (by kernel_rfl) (by kernel_rfl) (by kernel_rfl) (fun _ _ _ h => h) (by kernel_rfl) (prev_bel _ _) ?_ ?_
        rotate_left
        · intro uu (pu : Prev uu _)
          go_simp
          try (with_reducible rfl)
        try simp only [List.set]
        refine wpAnyH_done (by kernel_rfl) ?_ _
        go_wp2_with fail
        go_ret
        exact ⟨by rw [HT.out]; rfl, prev_bel _ _⟩
      · have HT : Hid (Wk.more c 3 id = 0) := Lib.hid rfl
        go_enter Try.func96, Try.ntmps96
        go_wp2_with fail
        go_ret
        exact ⟨by rw [HT.out]; rfl, prev_bel _ _⟩
      · have HT : Hid (Wk.more c 6 id = c.kept d) := Lib.hid (by rw [← HD.out]; rfl)
        go_enter Try.func96, Try.ntmps96
        go_wp2_with fail
        refine wp_region_up0 (by kernel_rfl) (fun u1 _ => ?_)
        refine wpAnyH_on (i := 0) (d := 34) (v := ?_) rfl rfl (by kernel_rfl) (by kernel_rfl) (by kernel_rfl) (fun _ _ _ h => h) (by kernel_rfl) (prev_bel _ _) ?_ ?_
        rotate_left
        · intro uu (pu : Prev uu _)
          go_simp
          try (with_reducible rfl)
        try simp only [List.set]
        refine wpAnyH_on (i := 1) (d := 35) (v := ?_) rfl rfl (by kernel_rfl) (by kernel_rfl) (by kernel_rfl) (fun _ _ _ h => h) (by kernel_rfl) (prev_bel _ _) ?_ ?_
        rotate_left
        · intro uu (pu : Prev uu _)
          go_simp
          try (with_reducible rfl)
        try simp only [List.set]
        refine wpAnyH_on (i := 2) (d := 36) (v := ?_) rfl rfl (by kernel_rfl) (by kernel_rfl) (by kernel_rfl) (fun _ _ _ h => h) (by kernel_rfl) (prev_bel _ _) ?_ ?_
        rotate_left
        · intro uu (pu : Prev uu _)
          go_simp
          try (with_reducible rfl)
        try simp only [List.set]
        refine wpAnyH_on (i := 3) (d := 37) (v := ?_) rfl rfl (by kernel_rfl) (by kernel_rfl) (by kernel_rfl) (fun _ _ _ h => h) (by kernel_rfl) (prev_bel _ _) ?_ ?_
        rotate_left
        · intro uu (pu : Prev uu _)
          go_simp
          try (with_reducible rfl)
        try simp only [List.set]
        refine wpAnyH_on (i := 4) (d := 38) (v := ?_) rfl rfl (by kernel_rfl) (by kernel_rfl) (by kernel_rfl) (fun _ _ _ h => h) (by kernel_rfl) (prev_bel _ _) ?_ ?_
        rotate_left
        · intro uu (pu : Prev uu _)
          go_simp
          try (with_reducible rfl)
        try simp only [List.set]
        refine wpAnyH_on (i := 5) (d := 39) (v := ?_) rfl rfl (by kernel_rfl) (by kernel_rfl) (by kernel_rfl) (fun _ _ _ h => h) (by kernel_rfl) (prev_bel _ _) ?_ ?_
        rotate_left
        · intro uu (pu : Prev uu _)
          go_simp
          try (with_reducible rfl)
        try simp only [List.set]
        refine wpAnyH_on (i := 6) (d := 40) (v := ?_) rfl rfl (by kernel_rfl) (by kernel_rfl) (by kernel_rfl) (fun _ _ _ h => h) (by kernel_rfl) (prev_bel _ _) ?_ ?_
        rotate_left
        · intro uu (pu : Prev uu _)
          go_simp
          try (with_reducible rfl)
        try simp only [List.set]
        refine wpAnyH_ready (rs := [7]) (by kernel_rfl) (by simp) ?_
        refine AllReadyH.cons rfl (fun K hK => ?_) AllReadyH.nil
        go_simp
        (with_reducible refine (ch_kept hdn).mono ?_)
        rintro e u1 ⟨rfl, _⟩
        dsimp only
        refine hK.out _ _ (prev_bel _ _) (fun hHeld => ?_)
        clear hHeld hK K
        try dsimp only [Act.put, List.setIfInBounds_toArray, List.set_cons_zero, List.set_cons_succ]
        refine wpAnyH_on (i := 8) (d := 4) (v := ?_) rfl rfl (by kernel_rfl) (by kernel_rfl) (by kernel_rfl) (fun _ _ _ h => h) (by kernel_rfl) (prev_bel _ _) ?_ ?_
        rotate_left
        · intro uu (pu : Prev uu _)
          go_simp
          try (with_reducible rfl)
        try simp only [List.set]
        refine wpAnyH_done (by kernel_rfl) ?_ _
        go_wp2_with fail
        go_ret
        exact ⟨by rw [HT.out]; rfl, prev_bel _ _⟩
    · rw [if_neg k1] at hi'; cases hi'
/-- A store into the walk's box. -/
theorem WkM.setBox {i : Nat} {v : Value} {s' : Wk} (h : WkM w0 w wk gp gv gg A n p B m q cap s) (hs : (wkC A n p B m q cap gp gv gg s).setIfInBounds i v = wkC A n p B m q cap gp gv gg s') (h1 : s'.pr = s.pr) (h2 : s'.sv = s.sv) (h3 : s'.gr = s.gr) :
    WkM w0 (w.setCell ⟨wk, i, none⟩ v) wk gp gv gg A n p B m q cap s' := by
  have hpr := h.pr
  have far : ∀ {g : Nat} {cs : Array Value}, Bx w g 4 cs → Bx (w.setCell ⟨wk, i, none⟩ v) g 4 cs := fun k => ⟨(Below.heap_setCell _ ⟨wk, i, none⟩ _ _ (k.blk.ne_typ h.box.blk (by decide))).trans k.blk⟩
  exact ⟨⟨(bel w0 w).setCell (p := ⟨wk, i, none⟩) h.hw _⟩, ⟨by rw [← hs]; exact h.box.blk.set_ i v⟩, by rw [h1]; exact far h.p, by rw [h2]; exact far h.v, by rw [h3]; exact far h.g, h.pv, h.pg, h.vg, h.hw, h.hp, h.hv, h.hg, by rw [h1]; exact h.lp, by rw [h2]; exact h.lv, by rw [h3]; exact h.lg⟩
section
variable (h : WkM w0 w wk gp gv gg A n p B m q cap s) (i : Nat) (v : Bool)
include h
theorem WkM.setP : WkM w0 (w.setCell ⟨gp, i, none⟩ (.bool v)) wk gp gv gg A n p B m q cap { s with pr := s.pr.set i v } := by
  have hpr := h.pr
  have S : ∀ b, b ≠ gp → (w.setCell ⟨gp, i, none⟩ (.bool v)).heap[b]? = w.heap[b]? := fun b hb => Below.heap_setCell _ ⟨gp, i, none⟩ _ _ hb
  exact ⟨⟨(bel w0 w).setCell (p := ⟨gp, i, none⟩) h.hp _⟩, ⟨(S _ (h.box.blk.ne_typ h.p.blk (by decide))).trans h.box.blk⟩, ⟨by show Blk _ _ _ (boolC (s.pr.set i v)); rw [← boolC_set]; exact h.p.blk.set_ i _⟩, ⟨(S _ h.pv.symm).trans h.v.blk⟩, ⟨(S _ h.pg.symm).trans h.g.blk⟩, h.pv, h.pg, h.vg, h.hw, h.hp, h.hv, h.hg, (List.length_set).trans h.lp, h.lv, h.lg⟩
theorem WkM.setV : WkM w0 (w.setCell ⟨gv, i, none⟩ (.bool v)) wk gp gv gg A n p B m q cap { s with sv := s.sv.set i v } := by
  have hpr := h.pr
  have S : ∀ b, b ≠ gv → (w.setCell ⟨gv, i, none⟩ (.bool v)).heap[b]? = w.heap[b]? := fun b hb => Below.heap_setCell _ ⟨gv, i, none⟩ _ _ hb
  exact ⟨⟨(bel w0 w).setCell (p := ⟨gv, i, none⟩) h.hv _⟩, ⟨(S _ (h.box.blk.ne_typ h.v.blk (by decide))).trans h.box.blk⟩, ⟨(S _ h.pv).trans h.p.blk⟩, ⟨by show Blk _ _ _ (boolC (s.sv.set i v)); rw [← boolC_set]; exact h.v.blk.set_ i _⟩, ⟨(S _ h.vg.symm).trans h.g.blk⟩, h.pv, h.pg, h.vg, h.hw, h.hp, h.hv, h.hg, h.lp, (List.length_set).trans h.lv, h.lg⟩
theorem WkM.setG : WkM w0 (w.setCell ⟨gg, i, none⟩ (.bool v)) wk gp gv gg A n p B m q cap { s with gr := s.gr.set i v } := by
  have hpr := h.pr
  have S : ∀ b, b ≠ gg → (w.setCell ⟨gg, i, none⟩ (.bool v)).heap[b]? = w.heap[b]? := fun b hb => Below.heap_setCell _ ⟨gg, i, none⟩ _ _ hb
  exact ⟨⟨(bel w0 w).setCell (p := ⟨gg, i, none⟩) h.hg _⟩, ⟨(S _ (h.box.blk.ne_typ h.g.blk (by decide))).trans h.box.blk⟩, ⟨(S _ h.pg).trans h.p.blk⟩, ⟨(S _ h.vg).trans h.v.blk⟩, ⟨by show Blk _ _ _ (boolC (s.gr.set i v)); rw [← boolC_set]; exact h.g.blk.set_ i _⟩, h.pv, h.pg, h.vg, h.hw, h.hp, h.hv, h.hg, h.lp, h.lv, (List.length_set).trans h.lg⟩
end
end

end Go.Proofs.Ytphcffcecncngaa
