/- OptimRates: for every input the statement returns true, and each argument reads afterwards as it read before. No condition. -/
import Derived.Test.YtphcffcecncngaaMean
import Derived.Test.YtphcffcecncngaaLaw24b
import Derived.Test.YtphcffcecncngaaRows
import Derived.Test.YtphcffcecncngaaOpen

namespace Go.Proofs.Ytphcffcecncngaa
open Go.RowKit

theorem gen_boxK4 {P : Program} {f : Nat} {args : Array Value} {Q : Ending → World → Prop} {X : World} {T T' T'' T3 : TypeId} {cs cs' cs'' cs3 : Array Value} (h : ∀ u, Prev u X → Bx u X.heap.size T cs → Bx u (X.heap.size + 1) T' cs' → Bx u (X.heap.size + 1 + 1) T'' cs'' → Bx u (X.heap.size + 1 + 1 + 1) T3 cs3 → Calls P f args u Q) :
    Calls P f args ((((X.alloc (.cells cs T)).alloc (.cells cs' T')).alloc (.cells cs'' T'')).alloc (.cells cs3 T3)) Q :=
  h _ (prev_bel _ _) inferInstance inferInstance inferInstance inferInstance
theorem Upd.one {f : Nat → Tn → List Int} {t : Tn} {ps : List Cp} (h : Upd f 1 [t] ps) : ∃ g g', ps = [⟨g, t.zs, g', f 0 t⟩] := by
  have hl := h.len
  match ps, hl with
  | [⟨g, zs, g', xs⟩], _ =>
    obtain ⟨h1, h2⟩ := h.at_ 0 ⟨g, zs, g', xs⟩ t rfl rfl
    rw [if_pos (by omega)] at h2
    simp only at h1 h2
    exact ⟨g, g', by rw [h1, h2]⟩
section
variable {w : World} {A B C A1 B1 A2 B2 A3 B3 : Option Addr} {c c1 d1 c2 d2 c3 d3 cb cc : Nat}
/-- One tensor of two cells, its rows new. -/
abbrev tn2 (g g' : Nat) (x y : Int) : Tn := ⟨some ⟨g, 0, none⟩, 1, [2], some ⟨g', 0, none⟩, 2, [x, y]⟩
theorem one2 {w : World} {G g g' : Nat} {x y : Int} (h : Ts w (some ⟨G, 0, none⟩) 1 [tn2 g g' x y]) : w.cell? ⟨G, 0, none⟩ = some (.slice (some ⟨g, 0, none⟩) 1 1) ∧ w.cell? ⟨G, 1, none⟩ = some (.slice (some ⟨g', 0, none⟩) 2 2) ∧ w.cell? ⟨g', 0, none⟩ = some (.int .i64 x) ∧ w.cell? ⟨g', 1, none⟩ = some (.int .i64 y) ∧ Old G w ∧ Old g' w := by
  obtain ⟨b, o, e, k⟩ := h.rd 0 _ rfl
  injection e with e
  injection e with e e'
  subst e e'
  obtain ⟨b0, o0, e0, h0, c0⟩ := k.x 0 x rfl
  obtain ⟨b1, o1, e1, h1, c1⟩ := k.x 1 y rfl
  injection e0 with e0
  injection e0 with e0 e0'
  injection e1 with e1
  injection e1 with e1 e1'
  subst e0 e0' e1 e1'
  exact ⟨k.c0, k.c1, c0, c1, ⟨k.old⟩, ⟨h0⟩⟩
def RetB24 (w : World) (x y p q : Int) (e : Ending) (w' : World) : Prop :=
  ∃ G1 g1 g1' G2 g2 g2', e = .returned (.tuple #[.agg #[.slice (some ⟨G1, 0, none⟩) 1 1, .slice (some ⟨G2, 0, none⟩) 1 1], .int .i64 0]) ∧ Ts w' (some ⟨G1, 0, none⟩) 1 [tn2 g1 g1' x y] ∧ Ts w' (some ⟨G2, 0, none⟩) 1 [tn2 g2 g2' p q] ∧ Prev w' w
theorem ts_one {w : World} {lo G : Nat} {g g' : Nat} {x y : Int} (h : CBk w lo G 1 [⟨g, [2], g', [x, y]⟩]) (hx : I64 x) (hy : I64 y) : Ts w (some ⟨G, 0, none⟩) 1 [tn2 g g' x y] :=
  CBk.ts (ps := [⟨g, [2], g', [x, y]⟩]) h (by
    intro p hp z hz
    rw [List.mem_singleton.1 hp] at hz
    simp at hz
    rcases hz with rfl | rfl
    · exact hx
    · exact hy)
theorem begin24 [a : Ts w A 1 [⟨A1, c1, [2], B1, d1, [fint 5, fint 7]⟩]] : Calls Try.prog 41 #[.slice A 1 c] w (RetB24 w (fint 5) (fint 7) 0 0) := by
  refine (op_begin_yes (by omega) (Lib.hid (by intro t ht; rw [List.mem_singleton.1 ht]; simp)) (by kernel_rfl)).mono ?_
  rintro e u ⟨G1, ps, G2, qs, rfl, CC, H1, H2, pw⟩
  obtain ⟨g1, g1', rfl⟩ := H1.out.one
  obtain ⟨g2, g2', rfl⟩ := H2.out.one
  exact ⟨G1, g1, g1', G2, g2, g2', rfl, ts_one CC.l (fint_bd _) (fint_bd _), ts_one CC.r ⟨by decide, by decide⟩ ⟨by decide, by decide⟩, pw⟩
theorem step24 [a : Ts w A 1 [⟨A1, c1, [2], B1, d1, [fint 5, fint 7]⟩]] [b : Ts w B 1 [⟨A2, c2, [2], B2, d2, [0, 0]⟩]] [g : Ts w C 1 [⟨A3, c3, [2], B3, d3, [fint 1, fint (-2)]⟩]] :
    Calls Try.prog 37 #[.agg #[.slice A 1 c, .slice B 1 cb], .agg #[.int .i64 4294967296, .int .i64 0, .int .i64 0, .int .i64 0, .int .i64 0, .int .i64 0], .int .i64 0, .slice C 1 cc] w (RetB24 w (fint 4) (fint 9) (fint 1) (fint (-2))) := by
  refine (op_step_yes (by omega) (Lib.hid (by intro t ht; rw [List.mem_singleton.1 ht]; simp)) (Lib.hid (by intro t ht; rw [List.mem_singleton.1 ht]; simp)) (Lib.hid (by intro t ht; rw [List.mem_singleton.1 ht]; simp)) (by kernel_rfl) (by kernel_rfl) (by kernel_rfl) (by omega) (by omega) (R := 4294967296) (Lib.hid (by kernel_rfl))).mono ?_
  rintro e u ⟨G1, ps, G2, qs, rfl, CC, H1, H2, pw⟩
  obtain ⟨g1, g1', rfl⟩ := H1.out.one
  obtain ⟨g2, g2', rfl⟩ := H2.out.one
  have e1 : rowP 0 0 0 4294967296 [⟨A1, c1, [2], B1, d1, [fint 5, fint 7]⟩] [⟨A2, c2, [2], B2, d2, [0, 0]⟩] [⟨A3, c3, [2], B3, d3, [fint 1, fint (-2)]⟩] 0 ⟨A1, c1, [2], B1, d1, [fint 5, fint 7]⟩ = [fint 4, fint 9] := by kernel_rfl
  have e2 : rowV 0 0 0 [⟨A1, c1, [2], B1, d1, [fint 5, fint 7]⟩] [⟨A2, c2, [2], B2, d2, [0, 0]⟩] [⟨A3, c3, [2], B3, d3, [fint 1, fint (-2)]⟩] 0 ⟨A2, c2, [2], B2, d2, [0, 0]⟩ = [fint 1, fint (-2)] := by kernel_rfl
  rw [e1, e2] at CC
  exact ⟨G1, g1, g1', G2, g2, g2', rfl, ts_one CC.l (fint_bd _) (fint_bd _), ts_one CC.r (fint_bd _) (fint_bd _), pw⟩
def RetM24 (w : World) (x y : Int) (e : Ending) (w' : World) : Prop :=
  ∃ G1 g1 g1', e = .returned (.tuple #[.slice (some ⟨G1, 0, none⟩) 1 1, .int .i64 0]) ∧ Ts w' (some ⟨G1, 0, none⟩) 1 [tn2 g1 g1' x y] ∧ Prev w' w
theorem mean24 [a : TTs w A 2 [⟨B, cb, [⟨A1, c1, [2], B1, d1, [fint 5, fint 7]⟩]⟩, ⟨C, cc, [⟨A2, c2, [2], B2, d2, [fint 1, fint (-2)]⟩]⟩]] :
    Calls Try.prog 33 #[.slice A 2 c] w (RetM24 w (fint 3) 10737418240) := by
  refine (op_mean (l0 := ⟨B, cb, [⟨A1, c1, [2], B1, d1, [fint 5, fint 7]⟩]⟩) (N := 1) (b := true) (by omega) (by omega) (Lib.hid (by
    intro l hl
    simp at hl
    rcases hl with rfl | rfl
    · exact ⟨by simp, by intro t ht; rw [List.mem_singleton.1 ht]; simp⟩
    · exact ⟨by simp, by intro t ht; rw [List.mem_singleton.1 ht]; simp⟩)) (Lib.hid rfl) (Lib.hid rfl) (Lib.hid (by kernel_rfl))).mono ?_
  rintro e u (⟨h, -⟩ | ⟨-, G1, ps, rfl, CC, H1, pw⟩)
  · cases h
  · obtain ⟨g1, g1', rfl⟩ := H1.out.one
    have a0 : cellM [⟨B, cb, [⟨A1, c1, [2], B1, d1, [fint 5, fint 7]⟩]⟩, ⟨C, cc, [⟨A2, c2, [2], B2, d2, [fint 1, fint (-2)]⟩]⟩] 0 0 = fint 3 := (show cellM [⟨B, cb, [⟨A1, c1, [2], B1, d1, [fint 5, fint 7]⟩]⟩, ⟨C, cc, [⟨A2, c2, [2], B2, d2, [fint 1, fint (-2)]⟩]⟩] 0 0 = fdiv (fsum [fint 5, fint 1]) (fint 2) from rfl).trans (by kernel_rfl)
    have a1 : cellM [⟨B, cb, [⟨A1, c1, [2], B1, d1, [fint 5, fint 7]⟩]⟩, ⟨C, cc, [⟨A2, c2, [2], B2, d2, [fint 1, fint (-2)]⟩]⟩] 0 1 = 10737418240 := (show cellM [⟨B, cb, [⟨A1, c1, [2], B1, d1, [fint 5, fint 7]⟩]⟩, ⟨C, cc, [⟨A2, c2, [2], B2, d2, [fint 1, fint (-2)]⟩]⟩] 0 1 = fdiv (fsum [fint 7, fint (-2)]) (fint 2) from rfl).trans (by kernel_rfl)
    have e1 : rowM [⟨B, cb, [⟨A1, c1, [2], B1, d1, [fint 5, fint 7]⟩]⟩, ⟨C, cc, [⟨A2, c2, [2], B2, d2, [fint 1, fint (-2)]⟩]⟩] 0 ⟨A1, c1, [2], B1, d1, [fint 5, fint 7]⟩ = [fint 3, 10737418240] := by
      rw [rowM, mix, show ([fint 5, fint 7] : List Int).length = 2 from rfl, show List.range 2 = [0, 1] from rfl, List.map_cons, List.map_cons, List.map_nil, if_pos (by omega), if_pos (by omega), a0, a1]
    rw [e1] at CC
    exact ⟨G1, g1, g1', rfl, ts_one CC (fint_bd _) ⟨by decide, by decide⟩, pw⟩
theorem norm24 [a : Ts w A 1 [⟨A1, c1, [2], B1, d1, [fint 1, fint (-2)]⟩]] : Calls Try.prog 45 #[.slice A 1 c] w (RetV w (.int .i64 (fint 3))) :=
  retV_of (op_norm (by omega) (Lib.hid (by intro t ht; rw [List.mem_singleton.1 ht]; simp))) (by kernel_rfl)
set_option maxRecDepth 100000 in
set_option maxHeartbeats 8000000 in
theorem a24_awake : Calls Try.prog 30 #[] w (RetV w (.bool true)) := by
  have CB := @cell_bx
  have CP := @cell_prev
  go_enter Try.func30, Try.ntmps30
  go_wp2_with (first | (go_at_call 63; (try first | (with_reducible refine gen_boxK3 (fun u _ _ _ _ => ?_)) | (with_reducible refine gen_boxK2 (fun u _ _ _ => ?_)) | (with_reducible refine gen_boxK (fun u _ _ => ?_))); (with_reducible refine (aF_intM).mono ?_); rintro e u ⟨rfl, _⟩) | (go_at_call 62; (try first | (with_reducible refine gen_boxK3 (fun u _ _ _ _ => ?_)) | (with_reducible refine gen_boxK2 (fun u _ _ _ => ?_)) | (with_reducible refine gen_boxK (fun u _ _ => ?_))); (with_reducible refine (aT_ofL (by omega) (by omega) (by kernel_rfl)).mono ?_); rintro e u ⟨A', c', B', d', rfl, _, _, _, _⟩) | (go_at_call 41; (try first | (with_reducible refine gen_boxK3 (fun u _ _ _ _ => ?_)) | (with_reducible refine gen_boxK2 (fun u _ _ _ => ?_)) | (with_reducible refine gen_boxK (fun u _ _ => ?_))); (with_reducible refine (begin24).mono ?_); rintro e u ⟨G1, g1, g1', G2, g2, g2', rfl, tP, tV, _⟩) | (go_at_call 37; (try first | (with_reducible refine gen_boxK3 (fun u _ _ _ _ => ?_)) | (with_reducible refine gen_boxK2 (fun u _ _ _ => ?_)) | (with_reducible refine gen_boxK (fun u _ _ => ?_))); (with_reducible refine (step24).mono ?_); rintro e u ⟨G3, g3, g3', G4, g4, g4', rfl, tP2, tV2, _⟩))
  refine gen_boxK4 (fun u4 _ _ _ _ _ => ?_)
  refine mean24.mono ?_
  rintro e u5 ⟨G5, g5, g5', rfl, tM, _⟩
  obtain ⟨a0, a1, a2, a3, oa, oa'⟩ := one2 tP2
  obtain ⟨b0, b1, b2, b3, ob, ob'⟩ := one2 tV2
  obtain ⟨m0, m1, m2, m3, om, om'⟩ := one2 tM
  go_wp2_with (first | (go_at_call 33; (try first | (with_reducible refine gen_boxK3 (fun u _ _ _ _ => ?_)) | (with_reducible refine gen_boxK2 (fun u _ _ _ => ?_)) | (with_reducible refine gen_boxK (fun u _ _ => ?_))); (with_reducible refine (op_mean_none).mono ?_); rintro e u ⟨rfl, _⟩))
  obtain ⟨v, rfl⟩ : ∃ v : World, v = u := ⟨_, rfl⟩
  refine wp_region_up v (by kernel_rfl) (fun ux _ => ?_)
  refine wpAnyH_on (i := 0) (d := 56) (v := ?_) rfl rfl (by kernel_rfl) (by kernel_rfl) (by kernel_rfl) (fun _ _ _ h => h) (by kernel_rfl) (prev_bel _ _) ?_ ?_
  rotate_left
  · intro uu (pu : Prev uu _)
    go_simp
    try (with_reducible rfl)
  try simp only [List.set]
  refine wpAnyH_on (i := 1) (d := 57) (v := ?_) rfl rfl (by kernel_rfl) (by kernel_rfl) (by kernel_rfl) (fun _ _ _ h => h) (by kernel_rfl) (prev_bel _ _) ?_ ?_
  rotate_left
  · intro uu (pu : Prev uu _)
    go_simp
    try (with_reducible rfl)
  try simp only [List.set]
  refine wpAnyH_on (i := 2) (d := 58) (v := ?_) rfl rfl (by kernel_rfl) (by kernel_rfl) (by kernel_rfl) (fun _ _ _ h => h) (by kernel_rfl) (prev_bel _ _) ?_ ?_
  rotate_left
  · intro uu (pu : Prev uu _)
    go_simp
    try (with_reducible rfl)
  try simp only [List.set]
  refine wpAnyH_on (i := 3) (d := 59) (v := ?_) rfl rfl (by kernel_rfl) (by kernel_rfl) (by kernel_rfl) (fun _ _ _ h => h) (by kernel_rfl) (prev_bel _ _) ?_ ?_
  rotate_left
  · intro uu (pu : Prev uu _)
    go_simp
    try (with_reducible rfl)
  try simp only [List.set]
  refine wpAnyH_on (i := 4) (d := 60) (v := ?_) rfl rfl (by kernel_rfl) (by kernel_rfl) (by kernel_rfl) (fun _ _ _ h => h) (by kernel_rfl) (prev_bel _ _) ?_ ?_
  rotate_left
  · intro uu (pu : Prev uu _)
    go_simp
    try (with_reducible rfl)
  try simp only [List.set]
  refine wpAnyH_on (i := 5) (d := 61) (v := ?_) rfl rfl (by kernel_rfl) (by kernel_rfl) (by kernel_rfl) (fun _ _ _ h => h) (by kernel_rfl) (prev_bel _ _) ?_ ?_
  rotate_left
  · intro uu (pu : Prev uu _)
    go_simp
    try (with_reducible rfl)
  try simp only [List.set]
  refine wpAnyH_on (i := 6) (d := 62) (v := ?_) rfl rfl (by kernel_rfl) (by kernel_rfl) (by kernel_rfl) (fun _ _ _ h => h) (by kernel_rfl) (prev_bel _ _) ?_ ?_
  rotate_left
  · intro uu (pu : Prev uu _)
    go_simp
    try (with_reducible rfl)
  try simp only [List.set]
  refine wpAnyH_on (i := 7) (d := 63) (v := ?_) rfl rfl (by kernel_rfl) (by kernel_rfl) (by kernel_rfl) (fun _ _ _ h => h) (by kernel_rfl) (prev_bel _ _) ?_ ?_
  rotate_left
  · intro uu (pu : Prev uu _)
    go_simp
    try (with_reducible rfl)
  try simp only [List.set]
  refine wpAnyH_on (i := 8) (d := 64) (v := ?_) rfl rfl (by kernel_rfl) (by kernel_rfl) (by kernel_rfl) (fun _ _ _ h => h) (by kernel_rfl) (prev_bel _ _) ?_ ?_
  rotate_left
  · intro uu (pu : Prev uu _)
    go_simp
    try (with_reducible rfl)
  try simp only [List.set]
  refine wpAnyH_on (i := 9) (d := 65) (v := ?_) rfl rfl (by kernel_rfl) (by kernel_rfl) (by kernel_rfl) (fun _ _ _ h => h) (by kernel_rfl) (prev_bel _ _) ?_ ?_
  rotate_left
  · intro uu (pu : Prev uu _)
    go_simp
    try (with_reducible rfl)
  try simp only [List.set]
  refine wpAnyH_on (i := 10) (d := 66) (v := ?_) rfl rfl (by kernel_rfl) (by kernel_rfl) (by kernel_rfl) (fun _ _ _ h => h) (by kernel_rfl) (prev_bel _ _) ?_ ?_
  rotate_left
  · intro uu (pu : Prev uu _)
    go_simp
    try (with_reducible rfl)
  try simp only [List.set]
  refine wpAnyH_on (i := 11) (d := 67) (v := ?_) rfl rfl (by kernel_rfl) (by kernel_rfl) (by kernel_rfl) (fun _ _ _ h => h) (by kernel_rfl) (prev_bel _ _) ?_ ?_
  rotate_left
  · intro uu (pu : Prev uu _)
    go_simp
    try (with_reducible rfl)
  try simp only [List.set]
  refine wpAnyH_on (i := 12) (d := 68) (v := ?_) rfl rfl (by kernel_rfl) (by kernel_rfl) (by kernel_rfl) (fun _ _ _ h => h) (by kernel_rfl) (prev_bel _ _) ?_ ?_
  rotate_left
  · intro uu (pu : Prev uu _)
    go_simp
    try (with_reducible rfl)
  try simp only [List.set]
  refine wpAnyH_on (i := 13) (d := 69) (v := ?_) rfl rfl (by kernel_rfl) (by kernel_rfl) (by kernel_rfl) (fun _ _ _ h => h) (by kernel_rfl) (prev_bel _ _) ?_ ?_
  rotate_left
  · intro uu (pu : Prev uu _)
    go_simp
    try (with_reducible rfl)
  try simp only [List.set]
  refine wpAnyH_on (i := 14) (d := 70) (v := ?_) rfl rfl (by kernel_rfl) (by kernel_rfl) (by kernel_rfl) (fun _ _ _ h => h) (by kernel_rfl) (prev_bel _ _) ?_ ?_
  rotate_left
  · intro uu (pu : Prev uu _)
    go_simp
    try (with_reducible rfl)
  try simp only [List.set]
  refine wpAnyH_on (i := 15) (d := 71) (v := ?_) rfl rfl (by kernel_rfl) (by kernel_rfl) (by kernel_rfl) (fun _ _ _ h => h) (by kernel_rfl) (prev_bel _ _) ?_ ?_
  rotate_left
  · intro uu (pu : Prev uu _)
    go_simp
    try (with_reducible rfl)
  try simp only [List.set]
  refine wpAnyH_on (i := 16) (d := 72) (v := ?_) rfl rfl (by kernel_rfl) (by kernel_rfl) (by kernel_rfl) (fun _ _ _ h => h) (by kernel_rfl) (prev_bel _ _) ?_ ?_
  rotate_left
  · intro uu (pu : Prev uu _)
    go_simp
    try (with_reducible rfl)
  try simp only [List.set]
  refine wpAnyH_on (i := 17) (d := 73) (v := ?_) rfl rfl (by kernel_rfl) (by kernel_rfl) (by kernel_rfl) (fun _ _ _ h => h) (by kernel_rfl) (prev_bel _ _) ?_ ?_
  rotate_left
  · intro uu (pu : Prev uu _)
    go_simp
    try (with_reducible rfl)
  try simp only [List.set]
  refine wpAnyH_on (i := 18) (d := 74) (v := ?_) rfl rfl (by kernel_rfl) (by kernel_rfl) (by kernel_rfl) (fun _ _ _ h => h) (by kernel_rfl) (prev_bel _ _) ?_ ?_
  rotate_left
  · intro uu (pu : Prev uu _)
    go_simp
    try (with_reducible rfl)
  try simp only [List.set]
  refine wpAnyH_on (i := 19) (d := 75) (v := ?_) rfl rfl (by kernel_rfl) (by kernel_rfl) (by kernel_rfl) (fun _ _ _ h => h) (by kernel_rfl) (prev_bel _ _) ?_ ?_
  rotate_left
  · intro uu (pu : Prev uu _)
    go_simp
    try (with_reducible rfl)
  try simp only [List.set]
  refine wpAnyH_on (i := 20) (d := 76) (v := ?_) rfl rfl (by kernel_rfl) (by kernel_rfl) (by kernel_rfl) (fun _ _ _ h => h) (by kernel_rfl) (prev_bel _ _) ?_ ?_
  rotate_left
  · intro uu (pu : Prev uu _)
    go_simp
    try (with_reducible rfl)
  try simp only [List.set]
  refine wpAnyH_on (i := 21) (d := 77) (v := ?_) rfl rfl (by kernel_rfl) (by kernel_rfl) (by kernel_rfl) (fun _ _ _ h => h) (by kernel_rfl) (prev_bel _ _) ?_ ?_
  rotate_left
  · intro uu (pu : Prev uu _)
    go_simp
    try (with_reducible rfl)
  try simp only [List.set]
  refine wpAnyH_on (i := 22) (d := 78) (v := ?_) rfl rfl (by kernel_rfl) (by kernel_rfl) (by kernel_rfl) (fun _ _ _ h => h) (by kernel_rfl) (prev_bel _ _) ?_ ?_
  rotate_left
  · intro uu (pu : Prev uu _)
    go_simp
    try (with_reducible rfl)
  try simp only [List.set]
  refine wpAnyH_on (i := 23) (d := 79) (v := ?_) rfl rfl (by kernel_rfl) (by kernel_rfl) (by kernel_rfl) (fun _ _ _ h => h) (by kernel_rfl) (prev_bel _ _) ?_ ?_
  rotate_left
  · intro uu (pu : Prev uu _)
    go_simp
    try (with_reducible rfl)
  try simp only [List.set]
  refine wpAnyH_on (i := 24) (d := 80) (v := ?_) rfl rfl (by kernel_rfl) (by kernel_rfl) (by kernel_rfl) (fun _ _ _ h => h) (by kernel_rfl) (prev_bel _ _) ?_ ?_
  rotate_left
  · intro uu (pu : Prev uu _)
    go_simp
    try (with_reducible rfl)
  try simp only [List.set]
  refine wpAnyH_on (i := 25) (d := 81) (v := ?_) rfl rfl (by kernel_rfl) (by kernel_rfl) (by kernel_rfl) (fun _ _ _ h => h) (by kernel_rfl) (prev_bel _ _) ?_ ?_
  rotate_left
  · intro uu (pu : Prev uu _)
    go_simp
    try (with_reducible rfl)
  try simp only [List.set]
  refine wpAnyH_on (i := 26) (d := 82) (v := ?_) rfl rfl (by kernel_rfl) (by kernel_rfl) (by kernel_rfl) (fun _ _ _ h => h) (by kernel_rfl) (prev_bel _ _) ?_ ?_
  rotate_left
  · intro uu (pu : Prev uu _)
    go_simp
    try (with_reducible rfl)
  try simp only [List.set]
  refine wpAnyH_on (i := 27) (d := 83) (v := ?_) rfl rfl (by kernel_rfl) (by kernel_rfl) (by kernel_rfl) (fun _ _ _ h => h) (by kernel_rfl) (prev_bel _ _) ?_ ?_
  rotate_left
  · intro uu (pu : Prev uu _)
    go_simp
    try (with_reducible rfl)
  try simp only [List.set]
  refine wpAnyH_on (i := 28) (d := 84) (v := ?_) rfl rfl (by kernel_rfl) (by kernel_rfl) (by kernel_rfl) (fun _ _ _ h => h) (by kernel_rfl) (prev_bel _ _) ?_ ?_
  rotate_left
  · intro uu (pu : Prev uu _)
    go_simp
    try (with_reducible rfl)
  try simp only [List.set]
  refine wpAnyH_on (i := 29) (d := 85) (v := ?_) rfl rfl (by kernel_rfl) (by kernel_rfl) (by kernel_rfl) (fun _ _ _ h => h) (by kernel_rfl) (prev_bel _ _) ?_ ?_
  rotate_left
  · intro uu (pu : Prev uu _)
    go_simp
    try (with_reducible rfl)
  try simp only [List.set]
  refine wpAnyH_on (i := 30) (d := 86) (v := ?_) rfl rfl (by kernel_rfl) (by kernel_rfl) (by kernel_rfl) (fun _ _ _ h => h) (by kernel_rfl) (prev_bel _ _) ?_ ?_
  rotate_left
  · intro uu (pu : Prev uu _)
    go_simp
    try (with_reducible rfl)
  try simp only [List.set]
  refine wpAnyH_on (i := 31) (d := 87) (v := ?_) rfl rfl (by kernel_rfl) (by kernel_rfl) (by kernel_rfl) (fun _ _ _ h => h) (by kernel_rfl) (prev_bel _ _) ?_ ?_
  rotate_left
  · intro uu (pu : Prev uu _)
    go_simp
    try (with_reducible rfl)
  try simp only [List.set]
  refine wpAnyH_on (i := 32) (d := 88) (v := ?_) rfl rfl (by kernel_rfl) (by kernel_rfl) (by kernel_rfl) (fun _ _ _ h => h) (by kernel_rfl) (prev_bel _ _) ?_ ?_
  rotate_left
  · intro uu (pu : Prev uu _)
    go_simp
    try (with_reducible rfl)
  try simp only [List.set]
  refine wpAnyH_on (i := 33) (d := 89) (v := ?_) rfl rfl (by kernel_rfl) (by kernel_rfl) (by kernel_rfl) (fun _ _ _ h => h) (by kernel_rfl) (prev_bel _ _) ?_ ?_
  rotate_left
  · intro uu (pu : Prev uu _)
    go_simp
    try (with_reducible rfl)
  try simp only [List.set]
  refine wpAnyH_on (i := 34) (d := 90) (v := ?_) rfl rfl (by kernel_rfl) (by kernel_rfl) (by kernel_rfl) (fun _ _ _ h => h) (by kernel_rfl) (prev_bel _ _) ?_ ?_
  rotate_left
  · intro uu (pu : Prev uu _)
    go_simp
    try (with_reducible rfl)
  try simp only [List.set]
  refine wpAnyH_on (i := 35) (d := 91) (v := ?_) rfl rfl (by kernel_rfl) (by kernel_rfl) (by kernel_rfl) (fun _ _ _ h => h) (by kernel_rfl) (prev_bel _ _) ?_ ?_
  rotate_left
  · intro uu (pu : Prev uu _)
    go_simp
    try (with_reducible rfl)
  try simp only [List.set]
  refine wpAnyH_on (i := 36) (d := 92) (v := ?_) rfl rfl (by kernel_rfl) (by kernel_rfl) (by kernel_rfl) (fun _ _ _ h => h) (by kernel_rfl) (prev_bel _ _) ?_ ?_
  rotate_left
  · intro uu (pu : Prev uu _)
    go_simp
    try (with_reducible rfl)
  try simp only [List.set]
  refine wpAnyH_ready (rs := [37]) (by kernel_rfl) (by simp) ?_
  refine AllReadyH.cons rfl (fun K hK => ?_) AllReadyH.nil
  go_simp
  (with_reducible refine (aF_intM).mono ?_)
  rintro e ux ⟨rfl, _⟩
  dsimp only
  refine hK.out _ _ (prev_bel v _) (fun hHeld => ?_)
  clear hHeld hK K
  try dsimp only [Act.put, List.setIfInBounds_toArray, List.set_cons_zero, List.set_cons_succ]
  refine wpAnyH_on (i := 38) (d := 94) (v := ?_) rfl rfl (by kernel_rfl) (by kernel_rfl) (by kernel_rfl) (fun _ _ _ h => h) (by kernel_rfl) (prev_bel _ _) ?_ ?_
  rotate_left
  · intro uu (pu : Prev uu _)
    go_simp
    try (with_reducible rfl)
  try simp only [List.set]
  refine wpAnyH_on (i := 39) (d := 95) (v := ?_) rfl rfl (by kernel_rfl) (by kernel_rfl) (by kernel_rfl) (fun _ _ _ h => h) (by kernel_rfl) (prev_bel _ _) ?_ ?_
  rotate_left
  · intro uu (pu : Prev uu _)
    go_simp
    try (with_reducible rfl)
  try simp only [List.set]
  refine wpAnyH_on (i := 40) (d := 96) (v := ?_) rfl rfl (by kernel_rfl) (by kernel_rfl) (by kernel_rfl) (fun _ _ _ h => h) (by kernel_rfl) (prev_bel _ _) ?_ ?_
  rotate_left
  · intro uu (pu : Prev uu _)
    go_simp
    try (with_reducible rfl)
  try simp only [List.set]
  refine wpAnyH_on (i := 41) (d := 97) (v := ?_) rfl rfl (by kernel_rfl) (by kernel_rfl) (by kernel_rfl) (fun _ _ _ h => h) (by kernel_rfl) (prev_bel _ _) ?_ ?_
  rotate_left
  · intro uu (pu : Prev uu _)
    go_simp
    try (with_reducible rfl)
  try simp only [List.set]
  refine wpAnyH_on (i := 42) (d := 98) (v := ?_) rfl rfl (by kernel_rfl) (by kernel_rfl) (by kernel_rfl) (fun _ _ _ h => h) (by kernel_rfl) (prev_bel _ _) ?_ ?_
  rotate_left
  · intro uu (pu : Prev uu _)
    go_simp
    try (with_reducible rfl)
  try simp only [List.set]
  refine wpAnyH_on (i := 43) (d := 99) (v := ?_) rfl rfl (by kernel_rfl) (by kernel_rfl) (by kernel_rfl) (fun _ _ _ h => h) (by kernel_rfl) (prev_bel _ _) ?_ ?_
  rotate_left
  · intro uu (pu : Prev uu _)
    go_simp
    try (with_reducible rfl)
  try simp only [List.set]
  refine wpAnyH_on (i := 44) (d := 100) (v := ?_) rfl rfl (by kernel_rfl) (by kernel_rfl) (by kernel_rfl) (fun _ _ _ h => h) (by kernel_rfl) (prev_bel _ _) ?_ ?_
  rotate_left
  · intro uu (pu : Prev uu _)
    go_simp
    try (with_reducible rfl)
  try simp only [List.set]
  refine wpAnyH_on (i := 45) (d := 101) (v := ?_) rfl rfl (by kernel_rfl) (by kernel_rfl) (by kernel_rfl) (fun _ _ _ h => h) (by kernel_rfl) (prev_bel _ _) ?_ ?_
  rotate_left
  · intro uu (pu : Prev uu _)
    go_simp
    try (with_reducible rfl)
  try simp only [List.set]
  refine wpAnyH_on (i := 46) (d := 102) (v := ?_) rfl rfl (by kernel_rfl) (by kernel_rfl) (by kernel_rfl) (fun _ _ _ h => h) (by kernel_rfl) (prev_bel _ _) ?_ ?_
  rotate_left
  · intro uu (pu : Prev uu _)
    go_simp
    try (with_reducible rfl)
  try simp only [List.set]
  refine wpAnyH_on (i := 47) (d := 103) (v := ?_) rfl rfl (by kernel_rfl) (by kernel_rfl) (by kernel_rfl) (fun _ _ _ h => h) (by kernel_rfl) (prev_bel _ _) ?_ ?_
  rotate_left
  · intro uu (pu : Prev uu _)
    go_simp
    try (with_reducible rfl)
  try simp only [List.set]
  refine wpAnyH_ready (rs := [48]) (by kernel_rfl) (by simp) ?_
  refine AllReadyH.cons rfl (fun K hK => ?_) AllReadyH.nil
  go_simp
  (with_reducible refine (aF_intM).mono ?_)
  rintro e ux ⟨rfl, _⟩
  dsimp only
  refine hK.out _ _ (prev_bel v _) (fun hHeld => ?_)
  clear hHeld hK K
  try dsimp only [Act.put, List.setIfInBounds_toArray, List.set_cons_zero, List.set_cons_succ]
  refine wpAnyH_on (i := 49) (d := 105) (v := ?_) rfl rfl (by kernel_rfl) (by kernel_rfl) (by kernel_rfl) (fun _ _ _ h => h) (by kernel_rfl) (prev_bel _ _) ?_ ?_
  rotate_left
  · intro uu (pu : Prev uu _)
    go_simp
    try (with_reducible rfl)
  try simp only [List.set]
  refine wpAnyH_on (i := 50) (d := 106) (v := ?_) rfl rfl (by kernel_rfl) (by kernel_rfl) (by kernel_rfl) (fun _ _ _ h => h) (by kernel_rfl) (prev_bel _ _) ?_ ?_
  rotate_left
  · intro uu (pu : Prev uu _)
    go_simp
    try (with_reducible rfl)
  try simp only [List.set]
  refine wpAnyH_on (i := 51) (d := 107) (v := ?_) rfl rfl (by kernel_rfl) (by kernel_rfl) (by kernel_rfl) (fun _ _ _ h => h) (by kernel_rfl) (prev_bel _ _) ?_ ?_
  rotate_left
  · intro uu (pu : Prev uu _)
    go_simp
    try (with_reducible rfl)
  try simp only [List.set]
  refine wpAnyH_on (i := 52) (d := 108) (v := ?_) rfl rfl (by kernel_rfl) (by kernel_rfl) (by kernel_rfl) (fun _ _ _ h => h) (by kernel_rfl) (prev_bel _ _) ?_ ?_
  rotate_left
  · intro uu (pu : Prev uu _)
    go_simp
    try (with_reducible rfl)
  try simp only [List.set]
  refine wpAnyH_on (i := 53) (d := 109) (v := ?_) rfl rfl (by kernel_rfl) (by kernel_rfl) (by kernel_rfl) (fun _ _ _ h => h) (by kernel_rfl) (prev_bel _ _) ?_ ?_
  rotate_left
  · intro uu (pu : Prev uu _)
    go_simp
    try (with_reducible rfl)
  try simp only [List.set]
  refine wpAnyH_on (i := 54) (d := 110) (v := ?_) rfl rfl (by kernel_rfl) (by kernel_rfl) (by kernel_rfl) (fun _ _ _ h => h) (by kernel_rfl) (prev_bel _ _) ?_ ?_
  rotate_left
  · intro uu (pu : Prev uu _)
    go_simp
    try (with_reducible rfl)
  try simp only [List.set]
  refine wpAnyH_on (i := 55) (d := 111) (v := ?_) rfl rfl (by kernel_rfl) (by kernel_rfl) (by kernel_rfl) (fun _ _ _ h => h) (by kernel_rfl) (prev_bel _ _) ?_ ?_
  rotate_left
  · intro uu (pu : Prev uu _)
    go_simp
    try (with_reducible rfl)
  try simp only [List.set]
  refine wpAnyH_on (i := 56) (d := 112) (v := ?_) rfl rfl (by kernel_rfl) (by kernel_rfl) (by kernel_rfl) (fun _ _ _ h => h) (by kernel_rfl) (prev_bel _ _) ?_ ?_
  rotate_left
  · intro uu (pu : Prev uu _)
    go_simp
    try (with_reducible rfl)
  try simp only [List.set]
  refine wpAnyH_on (i := 57) (d := 113) (v := ?_) rfl rfl (by kernel_rfl) (by kernel_rfl) (by kernel_rfl) (fun _ _ _ h => h) (by kernel_rfl) (prev_bel _ _) ?_ ?_
  rotate_left
  · intro uu (pu : Prev uu _)
    go_simp
    try (with_reducible rfl)
  try simp only [List.set]
  refine wpAnyH_on (i := 58) (d := 114) (v := ?_) rfl rfl (by kernel_rfl) (by kernel_rfl) (by kernel_rfl) (fun _ _ _ h => h) (by kernel_rfl) (prev_bel _ _) ?_ ?_
  rotate_left
  · intro uu (pu : Prev uu _)
    go_simp
    try (with_reducible rfl)
  try simp only [List.set]
  refine wpAnyH_on (i := 59) (d := 115) (v := ?_) rfl rfl (by kernel_rfl) (by kernel_rfl) (by kernel_rfl) (fun _ _ _ h => h) (by kernel_rfl) (prev_bel _ _) ?_ ?_
  rotate_left
  · intro uu (pu : Prev uu _)
    go_simp
    try (with_reducible rfl)
  try simp only [List.set]
  refine wpAnyH_on (i := 60) (d := 116) (v := ?_) rfl rfl (by kernel_rfl) (by kernel_rfl) (by kernel_rfl) (fun _ _ _ h => h) (by kernel_rfl) (prev_bel _ _) ?_ ?_
  rotate_left
  · intro uu (pu : Prev uu _)
    go_simp
    try (with_reducible rfl)
  try simp only [List.set]
  refine wpAnyH_on (i := 61) (d := 117) (v := ?_) rfl rfl (by kernel_rfl) (by kernel_rfl) (by kernel_rfl) (fun _ _ _ h => h) (by kernel_rfl) (prev_bel _ _) ?_ ?_
  rotate_left
  · intro uu (pu : Prev uu _)
    go_simp
    try (with_reducible rfl)
  try simp only [List.set]
  refine wpAnyH_on (i := 62) (d := 118) (v := ?_) rfl rfl (by kernel_rfl) (by kernel_rfl) (by kernel_rfl) (fun _ _ _ h => h) (by kernel_rfl) (prev_bel _ _) ?_ ?_
  rotate_left
  · intro uu (pu : Prev uu _)
    go_simp
    try (with_reducible rfl)
  try simp only [List.set]
  refine wpAnyH_ready (rs := [63]) (by kernel_rfl) (by simp) ?_
  refine AllReadyH.cons rfl (fun K hK => ?_) AllReadyH.nil
  go_simp
  (with_reducible refine (aF_intM).mono ?_)
  rintro e ux ⟨rfl, _⟩
  dsimp only
  refine hK.out _ _ (prev_bel v _) (fun hHeld => ?_)
  clear hHeld hK K
  try dsimp only [Act.put, List.setIfInBounds_toArray, List.set_cons_zero, List.set_cons_succ]
  refine wpAnyH_on (i := 64) (d := 120) (v := ?_) rfl rfl (by kernel_rfl) (by kernel_rfl) (by kernel_rfl) (fun _ _ _ h => h) (by kernel_rfl) (prev_bel _ _) ?_ ?_
  rotate_left
  · intro uu (pu : Prev uu _)
    go_simp
    try (with_reducible rfl)
  try simp only [List.set]
  refine wpAnyH_on (i := 65) (d := 121) (v := ?_) rfl rfl (by kernel_rfl) (by kernel_rfl) (by kernel_rfl) (fun _ _ _ h => h) (by kernel_rfl) (prev_bel _ _) ?_ ?_
  rotate_left
  · intro uu (pu : Prev uu _)
    go_simp
    try (with_reducible rfl)
  try simp only [List.set]
  refine wpAnyH_on (i := 66) (d := 122) (v := ?_) rfl rfl (by kernel_rfl) (by kernel_rfl) (by kernel_rfl) (fun _ _ _ h => h) (by kernel_rfl) (prev_bel _ _) ?_ ?_
  rotate_left
  · intro uu (pu : Prev uu _)
    go_simp
    try (with_reducible rfl)
  try simp only [List.set]
  refine wpAnyH_on (i := 67) (d := 123) (v := ?_) rfl rfl (by kernel_rfl) (by kernel_rfl) (by kernel_rfl) (fun _ _ _ h => h) (by kernel_rfl) (prev_bel _ _) ?_ ?_
  rotate_left
  · intro uu (pu : Prev uu _)
    go_simp
    try (with_reducible rfl)
  try simp only [List.set]
  refine wpAnyH_ready (rs := [68]) (by kernel_rfl) (by simp) ?_
  refine AllReadyH.cons rfl (fun K hK => ?_) AllReadyH.nil
  go_simp
  refine hK.out _ _ (prev_bel v _) (fun hHeld => ?_)
  clear hHeld hK K
  try dsimp only [Act.put, List.setIfInBounds_toArray, List.set_cons_zero, List.set_cons_succ]
  refine gen_boxH (fun ux _ _ => ?_)
  refine wpAnyH_ready (rs := [69]) (by kernel_rfl) (by simp) ?_
  refine AllReadyH.cons rfl (fun K hK => ?_) AllReadyH.nil
  go_simp
  (with_reducible refine (norm24).mono ?_)
  rintro e ux ⟨rfl, _⟩
  dsimp only
  refine hK.out _ _ (prev_bel v _) (fun hHeld => ?_)
  clear hHeld hK K
  try dsimp only [Act.put, List.setIfInBounds_toArray, List.set_cons_zero, List.set_cons_succ]
  refine wpAnyH_ready (rs := [70]) (by kernel_rfl) (by simp) ?_
  refine AllReadyH.cons rfl (fun K hK => ?_) AllReadyH.nil
  go_simp
  (with_reducible refine (aF_intM).mono ?_)
  rintro e ux ⟨rfl, _⟩
  dsimp only
  refine hK.out _ _ (prev_bel v _) (fun hHeld => ?_)
  clear hHeld hK K
  try dsimp only [Act.put, List.setIfInBounds_toArray, List.set_cons_zero, List.set_cons_succ]
  refine wpAnyH_on (i := 71) (d := 127) (v := ?_) rfl rfl (by kernel_rfl) (by kernel_rfl) (by kernel_rfl) (fun _ _ _ h => h) (by kernel_rfl) (prev_bel _ _) ?_ ?_
  rotate_left
  · intro uu (pu : Prev uu _)
    go_simp
    try (with_reducible rfl)
  try simp only [List.set]
  refine wpAnyH_on (i := 72) (d := 128) (v := ?_) rfl rfl (by kernel_rfl) (by kernel_rfl) (by kernel_rfl) (fun _ _ _ h => h) (by kernel_rfl) (prev_bel _ _) ?_ ?_
  rotate_left
  · intro uu (pu : Prev uu _)
    go_simp
    try (with_reducible rfl)
  try simp only [List.set]
  refine wpAnyH_on (i := 73) (d := 0) (v := ?_) rfl rfl (by kernel_rfl) (by kernel_rfl) (by kernel_rfl) (fun _ _ _ h => h) (by kernel_rfl) (prev_bel _ _) ?_ ?_
  rotate_left
  · intro uu (pu : Prev uu _)
    go_simp
    try (with_reducible rfl)
  try simp only [List.set]
  refine wpAnyH_done (by kernel_rfl) ?_ _
  go_wp2_with fail
  go_ret
  exact ⟨rfl, prev_bel _ _⟩
end

end Go.Proofs.Ytphcffcecncngaa

namespace Go.Proofs.Ytphcffcecncngaa
open Go.RowKit

set_option maxRecDepth 100000 in
set_option maxHeartbeats 8000000 in
theorem optimRates_calls (r m d cl dr ev st : Int) (w : World) (h0 : I64 r) (h1 : I64 m) (h2 : I64 d) (h3 : I64 cl) (h4 : I64 dr) :
    Calls Try.prog 8 #[.agg #[.int .i64 r, .int .i64 m, .int .i64 d, .int .i64 cl, .int .i64 dr, .int .i64 ev], .int .i64 st] w (LawTrue w) := by
  have ir : I6 r := ⟨h0⟩
  have im : I6 m := ⟨h1⟩
  have idd : I6 d := ⟨h2⟩
  have icl : I6 cl := ⟨h3⟩
  have idr : I6 dr := ⟨h4⟩
  clear h0 h1 h2 h3 h4
  have CB := @cell_bx
  have CP := @cell_prev
  rcases hb : hyB r m d cl dr ev with _ | _
  · have HE : Hid ((if hyB r m d cl dr ev && decide (0 ≤ st) && decide (st ≤ 1024) then (0 : Int) else 11) = 11) := Lib.hid (by rw [hb]; simp)
    have HR : Hid ((if hyB r m d cl dr ev && decide (0 ≤ st) && decide (st ≤ 1024) then hyAt r dr ev st else 0) = 0) := Lib.hid (by rw [hb]; simp)
    go_enter Try.func8, Try.ntmps8
    go_wp2_with (first | (go_at_call 26; (try first | (with_reducible refine gen_boxK3 (fun u _ _ _ _ => ?_)) | (with_reducible refine gen_boxK2 (fun u _ _ _ => ?_)) | (with_reducible refine gen_boxK (fun u _ _ => ?_))); (with_reducible refine (op_at HE HR).mono ?_); rintro e u ⟨rfl, _⟩) | (go_at_call 28; (try first | (with_reducible refine gen_boxK3 (fun u _ _ _ _ => ?_)) | (with_reducible refine gen_boxK2 (fun u _ _ _ => ?_)) | (with_reducible refine gen_boxK (fun u _ _ => ?_))); (with_reducible refine (r24_ref).mono ?_); rintro e u ⟨rfl, _⟩) | (go_at_call 27; (try first | (with_reducible refine gen_boxK3 (fun u _ _ _ _ => ?_)) | (with_reducible refine gen_boxK2 (fun u _ _ _ => ?_)) | (with_reducible refine gen_boxK (fun u _ _ => ?_))); (with_reducible refine (r24_right).mono ?_); rintro e u ⟨rfl, _⟩) | (go_at_call 29; (try first | (with_reducible refine gen_boxK3 (fun u _ _ _ _ => ?_)) | (with_reducible refine gen_boxK2 (fun u _ _ _ => ?_)) | (with_reducible refine gen_boxK (fun u _ _ => ?_))); (with_reducible refine (op_hright).mono ?_); rintro e u ⟨rfl, _⟩) | (go_at_call 30; (try first | (with_reducible refine gen_boxK3 (fun u _ _ _ _ => ?_)) | (with_reducible refine gen_boxK2 (fun u _ _ _ => ?_)) | (with_reducible refine gen_boxK (fun u _ _ => ?_))); (with_reducible refine (a24_awake).mono ?_); rintro e u ⟨rfl, _⟩))
    go_ret
    exact ⟨rfl, bel w _⟩
  by_cases hs : st < 0
  · have HE : Hid ((if hyB r m d cl dr ev && decide (0 ≤ st) && decide (st ≤ 1024) then (0 : Int) else 11) = 11) := Lib.hid (by rw [if_neg (by simp; omega)])
    have HR : Hid ((if hyB r m d cl dr ev && decide (0 ≤ st) && decide (st ≤ 1024) then hyAt r dr ev st else 0) = 0) := Lib.hid (by rw [if_neg (by simp; omega)])
    go_enter Try.func8, Try.ntmps8
    go_wp2_with (first | (go_at_call 26; (try first | (with_reducible refine gen_boxK3 (fun u _ _ _ _ => ?_)) | (with_reducible refine gen_boxK2 (fun u _ _ _ => ?_)) | (with_reducible refine gen_boxK (fun u _ _ => ?_))); (with_reducible refine (op_at HE HR).mono ?_); rintro e u ⟨rfl, _⟩) | (go_at_call 28; (try first | (with_reducible refine gen_boxK3 (fun u _ _ _ _ => ?_)) | (with_reducible refine gen_boxK2 (fun u _ _ _ => ?_)) | (with_reducible refine gen_boxK (fun u _ _ => ?_))); (with_reducible refine (r24_ref).mono ?_); rintro e u ⟨rfl, _⟩) | (go_at_call 27; (try first | (with_reducible refine gen_boxK3 (fun u _ _ _ _ => ?_)) | (with_reducible refine gen_boxK2 (fun u _ _ _ => ?_)) | (with_reducible refine gen_boxK (fun u _ _ => ?_))); (with_reducible refine (r24_right).mono ?_); rintro e u ⟨rfl, _⟩) | (go_at_call 29; (try first | (with_reducible refine gen_boxK3 (fun u _ _ _ _ => ?_)) | (with_reducible refine gen_boxK2 (fun u _ _ _ => ?_)) | (with_reducible refine gen_boxK (fun u _ _ => ?_))); (with_reducible refine (op_hright).mono ?_); rintro e u ⟨rfl, _⟩) | (go_at_call 30; (try first | (with_reducible refine gen_boxK3 (fun u _ _ _ _ => ?_)) | (with_reducible refine gen_boxK2 (fun u _ _ _ => ?_)) | (with_reducible refine gen_boxK (fun u _ _ => ?_))); (with_reducible refine (a24_awake).mono ?_); rintro e u ⟨rfl, _⟩))
    go_ret
    exact ⟨rfl, bel w _⟩
  by_cases hs' : 1024 < st
  · have HE : Hid ((if hyB r m d cl dr ev && decide (0 ≤ st) && decide (st ≤ 1024) then (0 : Int) else 11) = 11) := Lib.hid (by rw [if_neg (by simp; omega)])
    have HR : Hid ((if hyB r m d cl dr ev && decide (0 ≤ st) && decide (st ≤ 1024) then hyAt r dr ev st else 0) = 0) := Lib.hid (by rw [if_neg (by simp; omega)])
    go_enter Try.func8, Try.ntmps8
    go_wp2_with (first | (go_at_call 26; (try first | (with_reducible refine gen_boxK3 (fun u _ _ _ _ => ?_)) | (with_reducible refine gen_boxK2 (fun u _ _ _ => ?_)) | (with_reducible refine gen_boxK (fun u _ _ => ?_))); (with_reducible refine (op_at HE HR).mono ?_); rintro e u ⟨rfl, _⟩) | (go_at_call 28; (try first | (with_reducible refine gen_boxK3 (fun u _ _ _ _ => ?_)) | (with_reducible refine gen_boxK2 (fun u _ _ _ => ?_)) | (with_reducible refine gen_boxK (fun u _ _ => ?_))); (with_reducible refine (r24_ref).mono ?_); rintro e u ⟨rfl, _⟩) | (go_at_call 27; (try first | (with_reducible refine gen_boxK3 (fun u _ _ _ _ => ?_)) | (with_reducible refine gen_boxK2 (fun u _ _ _ => ?_)) | (with_reducible refine gen_boxK (fun u _ _ => ?_))); (with_reducible refine (r24_right).mono ?_); rintro e u ⟨rfl, _⟩) | (go_at_call 29; (try first | (with_reducible refine gen_boxK3 (fun u _ _ _ _ => ?_)) | (with_reducible refine gen_boxK2 (fun u _ _ _ => ?_)) | (with_reducible refine gen_boxK (fun u _ _ => ?_))); (with_reducible refine (op_hright).mono ?_); rintro e u ⟨rfl, _⟩) | (go_at_call 30; (try first | (with_reducible refine gen_boxK3 (fun u _ _ _ _ => ?_)) | (with_reducible refine gen_boxK2 (fun u _ _ _ => ?_)) | (with_reducible refine gen_boxK (fun u _ _ => ?_))); (with_reducible refine (a24_awake).mono ?_); rintro e u ⟨rfl, _⟩))
    go_ret
    exact ⟨rfl, bel w _⟩
  obtain ⟨R, hR⟩ : ∃ R, hyAt r dr ev st = R := ⟨_, rfl⟩
  have HE : Hid ((if hyB r m d cl dr ev && decide (0 ≤ st) && decide (st ≤ 1024) then (0 : Int) else 11) = 0) := Lib.hid (by rw [if_pos (by simp [hb]; omega)])
  have HR : Hid ((if hyB r m d cl dr ev && decide (0 ≤ st) && decide (st ≤ 1024) then hyAt r dr ev st else 0) = R) := Lib.hid (by rw [if_pos (by simp [hb]; omega), hR])
  have HA := Lib.hid hR
  have hev : 0 ≤ ev ∧ ev ≤ 1024 := by simp [hyB] at hb; omega
  obtain ⟨hev1, hev2⟩ := hev
  clear hR
  go_enter Try.func8, Try.ntmps8
  go_wp2_with (first | (go_at_call 26; (try first | (with_reducible refine gen_boxK3 (fun u _ _ _ _ => ?_)) | (with_reducible refine gen_boxK2 (fun u _ _ _ => ?_)) | (with_reducible refine gen_boxK (fun u _ _ => ?_))); (with_reducible refine (op_at HE HR).mono ?_); rintro e u ⟨rfl, _⟩) | (go_at_call 28; (try first | (with_reducible refine gen_boxK3 (fun u _ _ _ _ => ?_)) | (with_reducible refine gen_boxK2 (fun u _ _ _ => ?_)) | (with_reducible refine gen_boxK (fun u _ _ => ?_))); (with_reducible refine (r24_ref).mono ?_); rintro e u ⟨rfl, _⟩) | (go_at_call 27; (try first | (with_reducible refine gen_boxK3 (fun u _ _ _ _ => ?_)) | (with_reducible refine gen_boxK2 (fun u _ _ _ => ?_)) | (with_reducible refine gen_boxK (fun u _ _ => ?_))); (with_reducible refine (r24_right).mono ?_); rintro e u ⟨rfl, _⟩) | (go_at_call 29; (try first | (with_reducible refine gen_boxK3 (fun u _ _ _ _ => ?_)) | (with_reducible refine gen_boxK2 (fun u _ _ _ => ?_)) | (with_reducible refine gen_boxK (fun u _ _ => ?_))); (with_reducible refine (op_hright).mono ?_); rintro e u ⟨rfl, _⟩) | (go_at_call 30; (try first | (with_reducible refine gen_boxK3 (fun u _ _ _ _ => ?_)) | (with_reducible refine gen_boxK2 (fun u _ _ _ => ?_)) | (with_reducible refine gen_boxK (fun u _ _ => ?_))); (with_reducible refine (a24_awake).mono ?_); rintro e u ⟨rfl, _⟩) | (go_at_call 31; (try first | (with_reducible refine gen_boxK3 (fun u _ _ _ _ => ?_)) | (with_reducible refine gen_boxK2 (fun u _ _ _ => ?_)) | (with_reducible refine gen_boxK (fun u _ _ => ?_))); (with_reducible refine (r24_at (by omega) (by omega) (by omega) (by omega) HA).mono ?_); rintro e u ⟨rfl, _⟩))
  go_ret
  exact ⟨rfl, bel w _⟩

end Go.Proofs.Ytphcffcecncngaa

namespace Go.Proofs.Ytphcffcecncngaa
open Go.ChangeShapes Go.WideShapes Go.ChangeAt Go.RowKit

set_option maxRecDepth 100000 in
theorem optimRates_lifted (os : Os) (started : os.Started) (H : Type) (enc : TypeId × Value → H) :
    ReturnsInHanded {} Try.checked os 8 .any (Rows.optimRatesSpec.pre6 enc Try.prog Try.f8 Rows.optimRatesRow.domain false) (Rows.optimRatesSpec.post enc Try.prog Try.f8 false true false false) := by
  refine returnsInHanded_of_change (C := Try.checked) ownKnob_none started (by kernel_rfl) Try.func8
    (ChangeSpec.witness6 (enc := enc) (C := Try.checked) false ⟨#[], #[.agg #[.int .i64 0, .int .i64 0, .int .i64 0, .int .i64 0, .int .i64 0, .int .i64 0], .int .i64 0], []⟩ 8 (by kernel_rfl) (by kernel_rfl) (by kernel_rfl) (by kernel_rfl)) ?_
  intro W base args ds gs before hval0 hW _ _
  have hval : ∀ (j : Nat) t v, Try.f8.params[j]? = some t → args[j]? = some v → Value.okWide Try.prog W .any base t v := hval0
  have hW' := hW
  obtain ⟨p, q, hA0, hV, rfl, _, _⟩ := hW
  have hA : DataW.TrodAll enc Try.prog W 0 (fun _ => true) true Try.f8.params.toList args.toList ds p := hA0
  rw [Try.params8] at hA hval
  have hAll := hA
  obtain ⟨v0, vs0, d0, ds0, p0, q0, hargs, rfl, rfl, h0, r0⟩ := trodAll_cons hA
  obtain ⟨v1, vs1, d1, ds1, p1, q1, rfl, rfl, rfl, h1, r1⟩ := trodAll_cons r0
  obtain ⟨rfl, rfl, rfl⟩ := trodAll_nil r1
  obtain rfl : args = #[v0, v1] := by cases args; simp_all
  obtain ⟨rfl, rfl⟩ := trodVars_none hV
  obtain ⟨cs0, rfl, hsz0⟩ := okWide_struct Try.underlying47 (hval 0 47 v0 rfl rfl)
  obtain ⟨q0a, q0b, q0c, q0d, q0e, q0f, rfl⟩ := arr6 (hsz0.trans (by kernel_rfl))
  obtain ⟨fuel0, hf0⟩ := h0
  replace hf0 : DataW.trod enc Try.prog W 0 (fun _ => true) true fuel0 47 [q0a, q0b, q0c, q0d, q0e, q0f] = some _ := hf0
  obtain ⟨_, _, hf0_0⟩ := fld Try.underlying47 hf0 0 _ rfl
  replace hf0_0 : DataW.trod enc Try.prog W 0 (fun _ => true) true _ 45 [q0a] = some _ := hf0_0
  obtain ⟨a0a, rfl, w0a⟩ := trod_int1 Try.underlying45 hf0_0
  obtain ⟨_, _, hf0_1⟩ := fld Try.underlying47 hf0 1 _ rfl
  replace hf0_1 : DataW.trod enc Try.prog W 0 (fun _ => true) true _ 45 [q0b] = some _ := hf0_1
  obtain ⟨a0b, rfl, w0b⟩ := trod_int1 Try.underlying45 hf0_1
  obtain ⟨_, _, hf0_2⟩ := fld Try.underlying47 hf0 2 _ rfl
  replace hf0_2 : DataW.trod enc Try.prog W 0 (fun _ => true) true _ 45 [q0c] = some _ := hf0_2
  obtain ⟨a0c, rfl, w0c⟩ := trod_int1 Try.underlying45 hf0_2
  obtain ⟨_, _, hf0_3⟩ := fld Try.underlying47 hf0 3 _ rfl
  replace hf0_3 : DataW.trod enc Try.prog W 0 (fun _ => true) true _ 45 [q0d] = some _ := hf0_3
  obtain ⟨a0d, rfl, w0d⟩ := trod_int1 Try.underlying45 hf0_3
  obtain ⟨_, _, hf0_4⟩ := fld Try.underlying47 hf0 4 _ rfl
  replace hf0_4 : DataW.trod enc Try.prog W 0 (fun _ => true) true _ 45 [q0e] = some _ := hf0_4
  obtain ⟨a0e, rfl, w0e⟩ := trod_int1 Try.underlying45 hf0_4
  obtain ⟨_, _, hf0_5⟩ := fld Try.underlying47 hf0 5 _ rfl
  replace hf0_5 : DataW.trod enc Try.prog W 0 (fun _ => true) true _ 3 [q0f] = some _ := hf0_5
  obtain ⟨a0f, rfl, w0f⟩ := trod_int1 Try.underlying3 hf0_5
  obtain ⟨a1, rfl, w1⟩ := arg_int Try.underlying3 (hval 1 3 v1 rfl rfl) h1
  clear hA0 hval0
  refine (optimRates_calls a0a a0b a0c a0d a0e a0f a1 W (wf_bounds w0a) (wf_bounds w0b) (wf_bounds w0c) (wf_bounds w0d) (wf_bounds w0e)).mono fun e W' ⟨he, bel⟩ => ?_
  subst he
  exact ⟨_, rfl, _, _, _, [], _, [], hW', trodAll_mk1 (shut_bool Try.underlying4 _), trodAll_below laidOut_all (by decide +kernel) hAll bel, rfl, bel.frame _, fun h => by cases h⟩

theorem optimRates_holds : Rows.OptimRatesSaid :=
  OpenClaim.holds_of_wide 8 Try.f8 rfl rfl rfl rfl rfl rfl rfl ⟨rfl, rfl, rfl, rfl, rfl⟩ rfl rfl rfl rfl rfl (by kernel_rfl) Try.func8 (by kernel_rfl)
    (of_decide_eq_true (by kernel_rfl)) (by unfold Func.isWrapper; first | (rw [if_pos (by decide +kernel)]; kernel_rfl) | (rw [if_neg (by decide +kernel)]; exact ⟨rfl, rfl⟩))
    (fun os started H enc _ => optimRates_lifted os started H enc)

end Go.Proofs.Ytphcffcecncngaa
