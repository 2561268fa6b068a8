/- OptimBegins: for every input the statement returns true, and each argument reads afterwards as it read before. No condition. -/
import Derived.Test.YtphcffcecncngaaMean
import Derived.Test.YtphcffcecncngaaLaw24b
import Derived.Test.YtphcffcecncngaaTens
import Derived.Deep.Slices
import Derived.SizedLaws
import Derived.Test.YtphcffcecncngaaRows
import Derived.Test.YtphcffcecncngaaOpen

namespace Go.Proofs.Ytphcffcecncngaa
open Go.RowKit

theorem gen_boxK4 {P : Program} {f : Nat} {args : Array Value} {Q : Ending → World → Prop} {X : World} {T T' T'' T3 : TypeId} {cs cs' cs'' cs3 : Array Value} (h : ∀ u, Prev u X → Bx u X.heap.size T cs → Bx u (X.heap.size + 1) T' cs' → Bx u (X.heap.size + 1 + 1) T'' cs'' → Bx u (X.heap.size + 1 + 1 + 1) T3 cs3 → Calls P f args u Q) :
    Calls P f args ((((X.alloc (.cells cs T)).alloc (.cells cs' T')).alloc (.cells cs'' T'')).alloc (.cells cs3 T3)) Q :=
  h _ (prev_bel _ _) inferInstance inferInstance inferInstance inferInstance
theorem Upd.one {f : Nat → Tn → List Int} {t : Tn} {ps : List Cp} (h : Upd f 1 [t] ps) : ∃ g g', ps = [⟨g, t.zs, g', f 0 t⟩] := by
  have hl := h.len
  match ps, hl with
  | [⟨g, zs, g', xs⟩], _ =>
    obtain ⟨h1, h2⟩ := h.at_ 0 ⟨g, zs, g', xs⟩ t rfl rfl
    rw [if_pos (by omega)] at h2
    simp only at h1 h2
    exact ⟨g, g', by rw [h1, h2]⟩
section
variable {w : World} {A B C A1 B1 A2 B2 A3 B3 : Option Addr} {c c1 d1 c2 d2 c3 d3 cb cc : Nat}
/-- One tensor of two cells, its rows new. -/
abbrev tn2 (g g' : Nat) (x y : Int) : Tn := ⟨some ⟨g, 0, none⟩, 1, [2], some ⟨g', 0, none⟩, 2, [x, y]⟩
theorem one2 {w : World} {G g g' : Nat} {x y : Int} (h : Ts w (some ⟨G, 0, none⟩) 1 [tn2 g g' x y]) : w.cell? ⟨G, 0, none⟩ = some (.slice (some ⟨g, 0, none⟩) 1 1) ∧ w.cell? ⟨G, 1, none⟩ = some (.slice (some ⟨g', 0, none⟩) 2 2) ∧ w.cell? ⟨g', 0, none⟩ = some (.int .i64 x) ∧ w.cell? ⟨g', 1, none⟩ = some (.int .i64 y) ∧ Old G w ∧ Old g' w := by
  obtain ⟨b, o, e, k⟩ := h.rd 0 _ rfl
  injection e with e
  injection e with e e'
  subst e e'
  obtain ⟨b0, o0, e0, h0, c0⟩ := k.x 0 x rfl
  obtain ⟨b1, o1, e1, h1, c1⟩ := k.x 1 y rfl
  injection e0 with e0
  injection e0 with e0 e0'
  injection e1 with e1
  injection e1 with e1 e1'
  subst e0 e0' e1 e1'
  exact ⟨k.c0, k.c1, c0, c1, ⟨k.old⟩, ⟨h0⟩⟩
def RetB24 (w : World) (x y p q : Int) (e : Ending) (w' : World) : Prop :=
  ∃ G1 g1 g1' G2 g2 g2', e = .returned (.tuple #[.agg #[.slice (some ⟨G1, 0, none⟩) 1 1, .slice (some ⟨G2, 0, none⟩) 1 1], .int .i64 0]) ∧ Ts w' (some ⟨G1, 0, none⟩) 1 [tn2 g1 g1' x y] ∧ Ts w' (some ⟨G2, 0, none⟩) 1 [tn2 g2 g2' p q] ∧ Prev w' w
theorem ts_one {w : World} {lo G : Nat} {g g' : Nat} {x y : Int} (h : CBk w lo G 1 [⟨g, [2], g', [x, y]⟩]) (hx : I64 x) (hy : I64 y) : Ts w (some ⟨G, 0, none⟩) 1 [tn2 g g' x y] :=
  CBk.ts (ps := [⟨g, [2], g', [x, y]⟩]) h (by
    intro p hp z hz
    rw [List.mem_singleton.1 hp] at hz
    simp at hz
    rcases hz with rfl | rfl
    · exact hx
    · exact hy)
theorem begin24 [a : Ts w A 1 [⟨A1, c1, [2], B1, d1, [fint 5, fint 7]⟩]] : Calls Try.prog 41 #[.slice A 1 c] w (RetB24 w (fint 5) (fint 7) 0 0) := by
  refine (op_begin_yes (by omega) (Lib.hid (by intro t ht; rw [List.mem_singleton.1 ht]; simp)) (by kernel_rfl)).mono ?_
  rintro e u ⟨G1, ps, G2, qs, rfl, CC, H1, H2, pw⟩
  obtain ⟨g1, g1', rfl⟩ := H1.out.one
  obtain ⟨g2, g2', rfl⟩ := H2.out.one
  exact ⟨G1, g1, g1', G2, g2, g2', rfl, ts_one CC.l (fint_bd _) (fint_bd _), ts_one CC.r ⟨by decide, by decide⟩ ⟨by decide, by decide⟩, pw⟩
theorem step24 [a : Ts w A 1 [⟨A1, c1, [2], B1, d1, [fint 5, fint 7]⟩]] [b : Ts w B 1 [⟨A2, c2, [2], B2, d2, [0, 0]⟩]] [g : Ts w C 1 [⟨A3, c3, [2], B3, d3, [fint 1, fint (-2)]⟩]] :
    Calls Try.prog 37 #[.agg #[.slice A 1 c, .slice B 1 cb], .agg #[.int .i64 4294967296, .int .i64 0, .int .i64 0, .int .i64 0, .int .i64 0, .int .i64 0], .int .i64 0, .slice C 1 cc] w (RetB24 w (fint 4) (fint 9) (fint 1) (fint (-2))) := by
  refine (op_step_yes (by omega) (Lib.hid (by intro t ht; rw [List.mem_singleton.1 ht]; simp)) (Lib.hid (by intro t ht; rw [List.mem_singleton.1 ht]; simp)) (Lib.hid (by intro t ht; rw [List.mem_singleton.1 ht]; simp)) (by kernel_rfl) (by kernel_rfl) (by kernel_rfl) (by omega) (by omega) (R := 4294967296) (Lib.hid (by kernel_rfl))).mono ?_
  rintro e u ⟨G1, ps, G2, qs, rfl, CC, H1, H2, pw⟩
  obtain ⟨g1, g1', rfl⟩ := H1.out.one
  obtain ⟨g2, g2', rfl⟩ := H2.out.one
  have e1 : rowP 0 0 0 4294967296 [⟨A1, c1, [2], B1, d1, [fint 5, fint 7]⟩] [⟨A2, c2, [2], B2, d2, [0, 0]⟩] [⟨A3, c3, [2], B3, d3, [fint 1, fint (-2)]⟩] 0 ⟨A1, c1, [2], B1, d1, [fint 5, fint 7]⟩ = [fint 4, fint 9] := by kernel_rfl
  have e2 : rowV 0 0 0 [⟨A1, c1, [2], B1, d1, [fint 5, fint 7]⟩] [⟨A2, c2, [2], B2, d2, [0, 0]⟩] [⟨A3, c3, [2], B3, d3, [fint 1, fint (-2)]⟩] 0 ⟨A2, c2, [2], B2, d2, [0, 0]⟩ = [fint 1, fint (-2)] := by kernel_rfl
  rw [e1, e2] at CC
  exact ⟨G1, g1, g1', G2, g2, g2', rfl, ts_one CC.l (fint_bd _) (fint_bd _), ts_one CC.r (fint_bd _) (fint_bd _), pw⟩
def RetM24 (w : World) (x y : Int) (e : Ending) (w' : World) : Prop :=
  ∃ G1 g1 g1', e = .returned (.tuple #[.slice (some ⟨G1, 0, none⟩) 1 1, .int .i64 0]) ∧ Ts w' (some ⟨G1, 0, none⟩) 1 [tn2 g1 g1' x y] ∧ Prev w' w
theorem mean24 [a : TTs w A 2 [⟨B, cb, [⟨A1, c1, [2], B1, d1, [fint 5, fint 7]⟩]⟩, ⟨C, cc, [⟨A2, c2, [2], B2, d2, [fint 1, fint (-2)]⟩]⟩]] :
    Calls Try.prog 33 #[.slice A 2 c] w (RetM24 w (fint 3) 10737418240) := by
  refine (op_mean (l0 := ⟨B, cb, [⟨A1, c1, [2], B1, d1, [fint 5, fint 7]⟩]⟩) (N := 1) (b := true) (by omega) (by omega) (Lib.hid (by
    intro l hl
    simp at hl
    rcases hl with rfl | rfl
    · exact ⟨by simp, by intro t ht; rw [List.mem_singleton.1 ht]; simp⟩
    · exact ⟨by simp, by intro t ht; rw [List.mem_singleton.1 ht]; simp⟩)) (Lib.hid rfl) (Lib.hid rfl) (Lib.hid (by kernel_rfl))).mono ?_
  rintro e u (⟨h, -⟩ | ⟨-, G1, ps, rfl, CC, H1, pw⟩)
  · cases h
  · obtain ⟨g1, g1', rfl⟩ := H1.out.one
    have a0 : cellM [⟨B, cb, [⟨A1, c1, [2], B1, d1, [fint 5, fint 7]⟩]⟩, ⟨C, cc, [⟨A2, c2, [2], B2, d2, [fint 1, fint (-2)]⟩]⟩] 0 0 = fint 3 := (show cellM [⟨B, cb, [⟨A1, c1, [2], B1, d1, [fint 5, fint 7]⟩]⟩, ⟨C, cc, [⟨A2, c2, [2], B2, d2, [fint 1, fint (-2)]⟩]⟩] 0 0 = fdiv (fsum [fint 5, fint 1]) (fint 2) from rfl).trans (by kernel_rfl)
    have a1 : cellM [⟨B, cb, [⟨A1, c1, [2], B1, d1, [fint 5, fint 7]⟩]⟩, ⟨C, cc, [⟨A2, c2, [2], B2, d2, [fint 1, fint (-2)]⟩]⟩] 0 1 = 10737418240 := (show cellM [⟨B, cb, [⟨A1, c1, [2], B1, d1, [fint 5, fint 7]⟩]⟩, ⟨C, cc, [⟨A2, c2, [2], B2, d2, [fint 1, fint (-2)]⟩]⟩] 0 1 = fdiv (fsum [fint 7, fint (-2)]) (fint 2) from rfl).trans (by kernel_rfl)
    have e1 : rowM [⟨B, cb, [⟨A1, c1, [2], B1, d1, [fint 5, fint 7]⟩]⟩, ⟨C, cc, [⟨A2, c2, [2], B2, d2, [fint 1, fint (-2)]⟩]⟩] 0 ⟨A1, c1, [2], B1, d1, [fint 5, fint 7]⟩ = [fint 3, 10737418240] := by
      rw [rowM, mix, show ([fint 5, fint 7] : List Int).length = 2 from rfl, show List.range 2 = [0, 1] from rfl, List.map_cons, List.map_cons, List.map_nil, if_pos (by omega), if_pos (by omega), a0, a1]
    rw [e1] at CC
    exact ⟨G1, g1, g1', rfl, ts_one CC (fint_bd _) ⟨by decide, by decide⟩, pw⟩
theorem norm24 [a : Ts w A 1 [⟨A1, c1, [2], B1, d1, [fint 1, fint (-2)]⟩]] : Calls Try.prog 45 #[.slice A 1 c] w (RetV w (.int .i64 (fint 3))) :=
  retV_of (op_norm (by omega) (Lib.hid (by intro t ht; rw [List.mem_singleton.1 ht]; simp))) (by kernel_rfl)
set_option maxRecDepth 100000 in
set_option maxHeartbeats 8000000 in
theorem a24_awake : Calls Try.prog 30 #[] w (RetV w (.bool true)) := by
  have CB := @cell_bx
  have CP := @cell_prev
  go_enter Try.func30, Try.ntmps30
  go_wp2_with (first | (go_at_call 63; (try first | (with_reducible refine gen_boxK3 (fun u _ _ _ _ => ?_)) | (with_reducible refine gen_boxK2 (fun u _ _ _ => ?_)) | (with_reducible refine gen_boxK (fun u _ _ => ?_))); (with_reducible refine (aF_intM).mono ?_); rintro e u ⟨rfl, _⟩) | (go_at_call 62; (try first | (with_reducible refine gen_boxK3 (fun u _ _ _ _ => ?_)) | (with_reducible refine gen_boxK2 (fun u _ _ _ => ?_)) | (with_reducible refine gen_boxK (fun u _ _ => ?_))); (with_reducible refine (aT_ofL (by omega) (by omega) (by kernel_rfl)).mono ?_); rintro e u ⟨A', c', B', d', rfl, _, _, _, _⟩) | (go_at_call 41; (try first | (with_reducible refine gen_boxK3 (fun u _ _ _ _ => ?_)) | (with_reducible refine gen_boxK2 (fun u _ _ _ => ?_)) | (with_reducible refine gen_boxK (fun u _ _ => ?_))); (with_reducible refine (begin24).mono ?_); rintro e u ⟨G1, g1, g1', G2, g2, g2', rfl, tP, tV, _⟩) | (go_at_call 37; (try first | (with_reducible refine gen_boxK3 (fun u _ _ _ _ => ?_)) | (with_reducible refine gen_boxK2 (fun u _ _ _ => ?_)) | (with_reducible refine gen_boxK (fun u _ _ => ?_))); (with_reducible refine (step24).mono ?_); rintro e u ⟨G3, g3, g3', G4, g4, g4', rfl, tP2, tV2, _⟩))
  refine gen_boxK4 (fun u4 _ _ _ _ _ => ?_)
  refine mean24.mono ?_
  rintro e u5 ⟨G5, g5, g5', rfl, tM, _⟩
  obtain ⟨a0, a1, a2, a3, oa, oa'⟩ := one2 tP2
  obtain ⟨b0, b1, b2, b3, ob, ob'⟩ := one2 tV2
  obtain ⟨m0, m1, m2, m3, om, om'⟩ := one2 tM
  go_wp2_with (first | (go_at_call 33; (try first | (with_reducible refine gen_boxK3 (fun u _ _ _ _ => ?_)) | (with_reducible refine gen_boxK2 (fun u _ _ _ => ?_)) | (with_reducible refine gen_boxK (fun u _ _ => ?_))); (with_reducible refine (op_mean_none).mono ?_); rintro e u ⟨rfl, _⟩))
  obtain ⟨v, rfl⟩ : ∃ v : World, v = u := ⟨_, rfl⟩
  refine wp_region_up v (by kernel_rfl) (fun ux _ => ?_)
  refine wpAnyH_on (i := 0) (d := 56) (v := ?_) rfl rfl (by kernel_rfl) (by kernel_rfl) (by kernel_rfl) (fun _ _ _ h => h) (by kernel_rfl) (prev_bel _ _) ?_ ?_
  rotate_left
  · intro uu (pu : Prev uu _)
    go_simp
    try (with_reducible rfl)
  try simp only [List.set]
  refine wpAnyH_on (i := 1) (d := 57) (v := ?_) rfl rfl (by kernel_rfl) (by kernel_rfl) (by kernel_rfl) (fun _ _ _ h => h) (by kernel_rfl) (prev_bel _ _) ?_ ?_
  rotate_left
  · intro uu (pu : Prev uu _)
    go_simp
    try (with_reducible rfl)
  try simp only [List.set]
  refine wpAnyH_on (i := 2) (d := 58) (v := ?_) rfl rfl (by kernel_rfl) (by kernel_rfl) (by kernel_rfl) (fun _ _ _ h => h) (by kernel_rfl) (prev_bel _ _) ?_ ?_
  rotate_left
  · intro uu (pu : Prev uu _)
    go_simp
    try (with_reducible rfl)
  try simp only [List.set]
  refine wpAnyH_on (i := 3) (d := 59) (v := ?_) rfl rfl (by kernel_rfl) (by kernel_rfl) (by kernel_rfl) (fun _ _ _ h => h) (by kernel_rfl) (prev_bel _ _) ?_ ?_
  rotate_left
  · intro uu (pu : Prev uu _)
    go_simp
    try (with_reducible rfl)
  try simp only [List.set]
  refine wpAnyH_on (i := 4) (d := 60) (v := ?_) rfl rfl (by kernel_rfl) (by kernel_rfl) (by kernel_rfl) (fun _ _ _ h => h) (by kernel_rfl) (prev_bel _ _) ?_ ?_
  rotate_left
  · intro uu (pu : Prev uu _)
    go_simp
    try (with_reducible rfl)
  try simp only [List.set]
  refine wpAnyH_on (i := 5) (d := 61) (v := ?_) rfl rfl (by kernel_rfl) (by kernel_rfl) (by kernel_rfl) (fun _ _ _ h => h) (by kernel_rfl) (prev_bel _ _) ?_ ?_
  rotate_left
  · intro uu (pu : Prev uu _)
    go_simp
    try (with_reducible rfl)
  try simp only [List.set]
  refine wpAnyH_on (i := 6) (d := 62) (v := ?_) rfl rfl (by kernel_rfl) (by kernel_rfl) (by kernel_rfl) (fun _ _ _ h => h) (by kernel_rfl) (prev_bel _ _) ?_ ?_
  rotate_left
  · intro uu (pu : Prev uu _)
    go_simp
    try (with_reducible rfl)
  try simp only [List.set]
  refine wpAnyH_on (i := 7) (d := 63) (v := ?_) rfl rfl (by kernel_rfl) (by kernel_rfl) (by kernel_rfl) (fun _ _ _ h => h) (by kernel_rfl) (prev_bel _ _) ?_ ?_
  rotate_left
  · intro uu (pu : Prev uu _)
    go_simp
    try (with_reducible rfl)
  try simp only [List.set]
  refine wpAnyH_on (i := 8) (d := 64) (v := ?_) rfl rfl (by kernel_rfl) (by kernel_rfl) (by kernel_rfl) (fun _ _ _ h => h) (by kernel_rfl) (prev_bel _ _) ?_ ?_
  rotate_left
  · intro uu (pu : Prev uu _)
    go_simp
    try (with_reducible rfl)
  try simp only [List.set]
  refine wpAnyH_on (i := 9) (d := 65) (v := ?_) rfl rfl (by kernel_rfl) (by kernel_rfl) (by kernel_rfl) (fun _ _ _ h => h) (by kernel_rfl) (prev_bel _ _) ?_ ?_
  rotate_left
  · intro uu (pu : Prev uu _)
    go_simp
    try (with_reducible rfl)
  try simp only [List.set]
  refine wpAnyH_on (i := 10) (d := 66) (v := ?_) rfl rfl (by kernel_rfl) (by kernel_rfl) (by kernel_rfl) (fun _ _ _ h => h) (by kernel_rfl) (prev_bel _ _) ?_ ?_
  rotate_left
  · intro uu (pu : Prev uu _)
    go_simp
    try (with_reducible rfl)
  try simp only [List.set]
  refine wpAnyH_on (i := 11) (d := 67) (v := ?_) rfl rfl (by kernel_rfl) (by kernel_rfl) (by kernel_rfl) (fun _ _ _ h => h) (by kernel_rfl) (prev_bel _ _) ?_ ?_
  rotate_left
  · intro uu (pu : Prev uu _)
    go_simp
    try (with_reducible rfl)
  try simp only [List.set]
  refine wpAnyH_on (i := 12) (d := 68) (v := ?_) rfl rfl (by kernel_rfl) (by kernel_rfl) (by kernel_rfl) (fun _ _ _ h => h) (by kernel_rfl) (prev_bel _ _) ?_ ?_
  rotate_left
  · intro uu (pu : Prev uu _)
    go_simp
    try (with_reducible rfl)
  try simp only [List.set]
  refine wpAnyH_on (i := 13) (d := 69) (v := ?_) rfl rfl (by kernel_rfl) (by kernel_rfl) (by kernel_rfl) (fun _ _ _ h => h) (by kernel_rfl) (prev_bel _ _) ?_ ?_
  rotate_left
  · intro uu (pu : Prev uu _)
    go_simp
    try (with_reducible rfl)
  try simp only [List.set]
  refine wpAnyH_on (i := 14) (d := 70) (v := ?_) rfl rfl (by kernel_rfl) (by kernel_rfl) (by kernel_rfl) (fun _ _ _ h => h) (by kernel_rfl) (prev_bel _ _) ?_ ?_
  rotate_left
  · intro uu (pu : Prev uu _)
    go_simp
    try (with_reducible rfl)
  try simp only [List.set]
  refine wpAnyH_on (i := 15) (d := 71) (v := ?_) rfl rfl (by kernel_rfl) (by kernel_rfl) (by kernel_rfl) (fun _ _ _ h => h) (by kernel_rfl) (prev_bel _ _) ?_ ?_
  rotate_left
  · intro uu (pu : Prev uu _)
    go_simp
    try (with_reducible rfl)
  try simp only [List.set]
  refine wpAnyH_on (i := 16) (d := 72) (v := ?_) rfl rfl (by kernel_rfl) (by kernel_rfl) (by kernel_rfl) (fun _ _ _ h => h) (by kernel_rfl) (prev_bel _ _) ?_ ?_
  rotate_left
  · intro uu (pu : Prev uu _)
    go_simp
    try (with_reducible rfl)
  try simp only [List.set]
  refine wpAnyH_on (i := 17) (d := 73) (v := ?_) rfl rfl (by kernel_rfl) (by kernel_rfl) (by kernel_rfl) (fun _ _ _ h => h) (by kernel_rfl) (prev_bel _ _) ?_ ?_
  rotate_left
  · intro uu (pu : Prev uu _)
    go_simp
    try (with_reducible rfl)
  try simp only [List.set]
  refine wpAnyH_on (i := 18) (d := 74) (v := ?_) rfl rfl (by kernel_rfl) (by kernel_rfl) (by kernel_rfl) (fun _ _ _ h => h) (by kernel_rfl) (prev_bel _ _) ?_ ?_
  rotate_left
  · intro uu (pu : Prev uu _)
    go_simp
    try (with_reducible rfl)
  try simp only [List.set]
  refine wpAnyH_on (i := 19) (d := 75) (v := ?_) rfl rfl (by kernel_rfl) (by kernel_rfl) (by kernel_rfl) (fun _ _ _ h => h) (by kernel_rfl) (prev_bel _ _) ?_ ?_
  rotate_left
  · intro uu (pu : Prev uu _)
    go_simp
    try (with_reducible rfl)
  try simp only [List.set]
  refine wpAnyH_on (i := 20) (d := 76) (v := ?_) rfl rfl (by kernel_rfl) (by kernel_rfl) (by kernel_rfl) (fun _ _ _ h => h) (by kernel_rfl) (prev_bel _ _) ?_ ?_
  rotate_left
  · intro uu (pu : Prev uu _)
    go_simp
    try (with_reducible rfl)
  try simp only [List.set]
  refine wpAnyH_on (i := 21) (d := 77) (v := ?_) rfl rfl (by kernel_rfl) (by kernel_rfl) (by kernel_rfl) (fun _ _ _ h => h) (by kernel_rfl) (prev_bel _ _) ?_ ?_
  rotate_left
  · intro uu (pu : Prev uu _)
    go_simp
    try (with_reducible rfl)
  try simp only [List.set]
  refine wpAnyH_on (i := 22) (d := 78) (v := ?_) rfl rfl (by kernel_rfl) (by kernel_rfl) (by kernel_rfl) (fun _ _ _ h => h) (by kernel_rfl) (prev_bel _ _) ?_ ?_
  rotate_left
  · intro uu (pu : Prev uu _)
    go_simp
    try (with_reducible rfl)
  try simp only [List.set]
  refine wpAnyH_on (i := 23) (d := 79) (v := ?_) rfl rfl (by kernel_rfl) (by kernel_rfl) (by kernel_rfl) (fun _ _ _ h => h) (by kernel_rfl) (prev_bel _ _) ?_ ?_
  rotate_left
  · intro uu (pu : Prev uu _)
    go_simp
    try (with_reducible rfl)
  try simp only [List.set]
  refine wpAnyH_on (i := 24) (d := 80) (v := ?_) rfl rfl (by kernel_rfl) (by kernel_rfl) (by kernel_rfl) (fun _ _ _ h => h) (by kernel_rfl) (prev_bel _ _) ?_ ?_
  rotate_left
  · intro uu (pu : Prev uu _)
    go_simp
    try (with_reducible rfl)
  try simp only [List.set]
  refine wpAnyH_on (i := 25) (d := 81) (v := ?_) rfl rfl (by kernel_rfl) (by kernel_rfl) (by kernel_rfl) (fun _ _ _ h => h) (by kernel_rfl) (prev_bel _ _) ?_ ?_
  rotate_left
  · intro uu (pu : Prev uu _)
    go_simp
    try (with_reducible rfl)
  try simp only [List.set]
  refine wpAnyH_on (i := 26) (d := 82) (v := ?_) rfl rfl (by kernel_rfl) (by kernel_rfl) (by kernel_rfl) (fun _ _ _ h => h) (by kernel_rfl) (prev_bel _ _) ?_ ?_
  rotate_left
  · intro uu (pu : Prev uu _)
    go_simp
    try (with_reducible rfl)
  try simp only [List.set]
  refine wpAnyH_on (i := 27) (d := 83) (v := ?_) rfl rfl (by kernel_rfl) (by kernel_rfl) (by kernel_rfl) (fun _ _ _ h => h) (by kernel_rfl) (prev_bel _ _) ?_ ?_
  rotate_left
  · intro uu (pu : Prev uu _)
    go_simp
    try (with_reducible rfl)
  try simp only [List.set]
  refine wpAnyH_on (i := 28) (d := 84) (v := ?_) rfl rfl (by kernel_rfl) (by kernel_rfl) (by kernel_rfl) (fun _ _ _ h => h) (by kernel_rfl) (prev_bel _ _) ?_ ?_
  rotate_left
  · intro uu (pu : Prev uu _)
    go_simp
    try (with_reducible rfl)
  try simp only [List.set]
  refine wpAnyH_on (i := 29) (d := 85) (v := ?_) rfl rfl (by kernel_rfl) (by kernel_rfl) (by kernel_rfl) (fun _ _ _ h => h) (by kernel_rfl) (prev_bel _ _) ?_ ?_
  rotate_left
  · intro uu (pu : Prev uu _)
    go_simp
    try (with_reducible rfl)
  try simp only [List.set]
  refine wpAnyH_on (i := 30) (d := 86) (v := ?_) rfl rfl (by kernel_rfl) (by kernel_rfl) (by kernel_rfl) (fun _ _ _ h => h) (by kernel_rfl) (prev_bel _ _) ?_ ?_
  rotate_left
  · intro uu (pu : Prev uu _)
    go_simp
    try (with_reducible rfl)
  try simp only [List.set]
  refine wpAnyH_on (i := 31) (d := 87) (v := ?_) rfl rfl (by kernel_rfl) (by kernel_rfl) (by kernel_rfl) (fun _ _ _ h => h) (by kernel_rfl) (prev_bel _ _) ?_ ?_
  rotate_left
  · intro uu (pu : Prev uu _)
    go_simp
    try (with_reducible rfl)
  try simp only [List.set]
  refine wpAnyH_on (i := 32) (d := 88) (v := ?_) rfl rfl (by kernel_rfl) (by kernel_rfl) (by kernel_rfl) (fun _ _ _ h => h) (by kernel_rfl) (prev_bel _ _) ?_ ?_
  rotate_left
  · intro uu (pu : Prev uu _)
    go_simp
    try (with_reducible rfl)
  try simp only [List.set]
  refine wpAnyH_on (i := 33) (d := 89) (v := ?_) rfl rfl (by kernel_rfl) (by kernel_rfl) (by kernel_rfl) (fun _ _ _ h => h) (by kernel_rfl) (prev_bel _ _) ?_ ?_
  rotate_left
  · intro uu (pu : Prev uu _)
    go_simp
    try (with_reducible rfl)
  try simp only [List.set]
  refine wpAnyH_on (i := 34) (d := 90) (v := ?_) rfl rfl (by kernel_rfl) (by kernel_rfl) (by kernel_rfl) (fun _ _ _ h => h) (by kernel_rfl) (prev_bel _ _) ?_ ?_
  rotate_left
  · intro uu (pu : Prev uu _)
    go_simp
    try (with_reducible rfl)
  try simp only [List.set]
  refine wpAnyH_on (i := 35) (d := 91) (v := ?_) rfl rfl (by kernel_rfl) (by kernel_rfl) (by kernel_rfl) (fun _ _ _ h => h) (by kernel_rfl) (prev_bel _ _) ?_ ?_
  rotate_left
  · intro uu (pu : Prev uu _)
    go_simp
    try (with_reducible rfl)
  try simp only [List.set]
  refine wpAnyH_on (i := 36) (d := 92) (v := ?_) rfl rfl (by kernel_rfl) (by kernel_rfl) (by kernel_rfl) (fun _ _ _ h => h) (by kernel_rfl) (prev_bel _ _) ?_ ?_
  rotate_left
  · intro uu (pu : Prev uu _)
    go_simp
    try (with_reducible rfl)
  try simp only [List.set]
  refine wpAnyH_ready (rs := [37]) (by kernel_rfl) (by simp) ?_
  refine AllReadyH.cons rfl (fun K hK => ?_) AllReadyH.nil
  go_simp
  (with_reducible refine (aF_intM).mono ?_)
  rintro e ux ⟨rfl, _⟩
  dsimp only
  refine hK.out _ _ (prev_bel v _) (fun hHeld => ?_)
  clear hHeld hK K
  try dsimp only [Act.put, List.setIfInBounds_toArray, List.set_cons_zero, List.set_cons_succ]
  refine wpAnyH_on (i := 38) (d := 94) (v := ?_) rfl rfl (by kernel_rfl) (by kernel_rfl) (by kernel_rfl) (fun _ _ _ h => h) (by kernel_rfl) (prev_bel _ _) ?_ ?_
  rotate_left
  · intro uu (pu : Prev uu _)
    go_simp
    try (with_reducible rfl)
  try simp only [List.set]
  refine wpAnyH_on (i := 39) (d := 95) (v := ?_) rfl rfl (by kernel_rfl) (by kernel_rfl) (by kernel_rfl) (fun _ _ _ h => h) (by kernel_rfl) (prev_bel _ _) ?_ ?_
  rotate_left
  · intro uu (pu : Prev uu _)
    go_simp
    try (with_reducible rfl)
  try simp only [List.set]
  refine wpAnyH_on (i := 40) (d := 96) (v := ?_) rfl rfl (by kernel_rfl) (by kernel_rfl) (by kernel_rfl) (fun _ _ _ h => h) (by kernel_rfl) (prev_bel _ _) ?_ ?_
  rotate_left
  · intro uu (pu : Prev uu _)
    go_simp
    try (with_reducible rfl)
  try simp only [List.set]
  refine wpAnyH_on (i := 41) (d := 97) (v := ?_) rfl rfl (by kernel_rfl) (by kernel_rfl) (by kernel_rfl) (fun _ _ _ h => h) (by kernel_rfl) (prev_bel _ _) ?_ ?_
  rotate_left
  · intro uu (pu : Prev uu _)
    go_simp
    try (with_reducible rfl)
  try simp only [List.set]
  refine wpAnyH_on (i := 42) (d := 98) (v := ?_) rfl rfl (by kernel_rfl) (by kernel_rfl) (by kernel_rfl) (fun _ _ _ h => h) (by kernel_rfl) (prev_bel _ _) ?_ ?_
  rotate_left
  · intro uu (pu : Prev uu _)
    go_simp
    try (with_reducible rfl)
  try simp only [List.set]
  refine wpAnyH_on (i := 43) (d := 99) (v := ?_) rfl rfl (by kernel_rfl) (by kernel_rfl) (by kernel_rfl) (fun _ _ _ h => h) (by kernel_rfl) (prev_bel _ _) ?_ ?_
  rotate_left
  · intro uu (pu : Prev uu _)
    go_simp
    try (with_reducible rfl)
  try simp only [List.set]
  refine wpAnyH_on (i := 44) (d := 100) (v := ?_) rfl rfl (by kernel_rfl) (by kernel_rfl) (by kernel_rfl) (fun _ _ _ h => h) (by kernel_rfl) (prev_bel _ _) ?_ ?_
  rotate_left
  · intro uu (pu : Prev uu _)
    go_simp
    try (with_reducible rfl)
  try simp only [List.set]
  refine wpAnyH_on (i := 45) (d := 101) (v := ?_) rfl rfl (by kernel_rfl) (by kernel_rfl) (by kernel_rfl) (fun _ _ _ h => h) (by kernel_rfl) (prev_bel _ _) ?_ ?_
  rotate_left
  · intro uu (pu : Prev uu _)
    go_simp
    try (with_reducible rfl)
  try simp only [List.set]
  refine wpAnyH_on (i := 46) (d := 102) (v := ?_) rfl rfl (by kernel_rfl) (by kernel_rfl) (by kernel_rfl) (fun _ _ _ h => h) (by kernel_rfl) (prev_bel _ _) ?_ ?_
  rotate_left
  · intro uu (pu : Prev uu _)
    go_simp
    try (with_reducible rfl)
  try simp only [List.set]
  refine wpAnyH_on (i := 47) (d := 103) (v := ?_) rfl rfl (by kernel_rfl) (by kernel_rfl) (by kernel_rfl) (fun _ _ _ h => h) (by kernel_rfl) (prev_bel _ _) ?_ ?_
  rotate_left
  · intro uu (pu : Prev uu _)
    go_simp
    try (with_reducible rfl)
  try simp only [List.set]
  refine wpAnyH_ready (rs := [48]) (by kernel_rfl) (by simp) ?_
  refine AllReadyH.cons rfl (fun K hK => ?_) AllReadyH.nil
  go_simp
  (with_reducible refine (aF_intM).mono ?_)
  rintro e ux ⟨rfl, _⟩
  dsimp only
  refine hK.out _ _ (prev_bel v _) (fun hHeld => ?_)
  clear hHeld hK K
  try dsimp only [Act.put, List.setIfInBounds_toArray, List.set_cons_zero, List.set_cons_succ]
  refine wpAnyH_on (i := 49) (d := 105) (v := ?_) rfl rfl (by kernel_rfl) (by kernel_rfl) (by kernel_rfl) (fun _ _ _ h => h) (by kernel_rfl) (prev_bel _ _) ?_ ?_
  rotate_left
  · intro uu (pu : Prev uu _)
    go_simp
    try (with_reducible rfl)
  try simp only [List.set]
  refine wpAnyH_on (i := 50) (d := 106) (v := ?_) rfl rfl (by kernel_rfl) (by kernel_rfl) (by kernel_rfl) (fun _ _ _ h => h) (by kernel_rfl) (prev_bel _ _) ?_ ?_
  rotate_left
  · intro uu (pu : Prev uu _)
    go_simp
    try (with_reducible rfl)
  try simp only [List.set]
  refine wpAnyH_on (i := 51) (d := 107) (v := ?_) rfl rfl (by kernel_rfl) (by kernel_rfl) (by kernel_rfl) (fun _ _ _ h => h) (by kernel_rfl) (prev_bel _ _) ?_ ?_
  rotate_left
  · intro uu (pu : Prev uu _)
    go_simp
    try (with_reducible rfl)
  try simp only [List.set]
  refine wpAnyH_on (i := 52) (d := 108) (v := ?_) rfl rfl (by kernel_rfl) (by kernel_rfl) (by kernel_rfl) (fun _ _ _ h => h) (by kernel_rfl) (prev_bel _ _) ?_ ?_
  rotate_left
  · intro uu (pu : Prev uu _)
    go_simp
    try (with_reducible rfl)
  try simp only [List.set]
  refine wpAnyH_on (i := 53) (d := 109) (v := ?_) rfl rfl (by kernel_rfl) (by kernel_rfl) (by kernel_rfl) (fun _ _ _ h => h) (by kernel_rfl) (prev_bel _ _) ?_ ?_
  rotate_left
  · intro uu (pu : Prev uu _)
    go_simp
    try (with_reducible rfl)
  try simp only [List.set]
  refine wpAnyH_on (i := 54) (d := 110) (v := ?_) rfl rfl (by kernel_rfl) (by kernel_rfl) (by kernel_rfl) (fun _ _ _ h => h) (by kernel_rfl) (prev_bel _ _) ?_ ?_
  rotate_left
  · intro uu (pu : Prev uu _)
    go_simp
    try (with_reducible rfl)
  try simp only [List.set]
  refine wpAnyH_on (i := 55) (d := 111) (v := ?_) rfl rfl (by kernel_rfl) (by kernel_rfl) (by kernel_rfl) (fun _ _ _ h => h) (by kernel_rfl) (prev_bel _ _) ?_ ?_
  rotate_left
  · intro uu (pu : Prev uu _)
    go_simp
    try (with_reducible rfl)
  try simp only [List.set]
  refine wpAnyH_on (i := 56) (d := 112) (v := ?_) rfl rfl (by kernel_rfl) (by kernel_rfl) (by kernel_rfl) (fun _ _ _ h => h) (by kernel_rfl) (prev_bel _ _) ?_ ?_
  rotate_left
  · intro uu (pu : Prev uu _)
    go_simp
    try (with_reducible rfl)
  try simp only [List.set]
  refine wpAnyH_on (i := 57) (d := 113) (v := ?_) rfl rfl (by kernel_rfl) (by kernel_rfl) (by kernel_rfl) (fun _ _ _ h => h) (by kernel_rfl) (prev_bel _ _) ?_ ?_
  rotate_left
  · intro uu (pu : Prev uu _)
    go_simp
    try (with_reducible rfl)
  try simp only [List.set]
  refine wpAnyH_on (i := 58) (d := 114) (v := ?_) rfl rfl (by kernel_rfl) (by kernel_rfl) (by kernel_rfl) (fun _ _ _ h => h) (by kernel_rfl) (prev_bel _ _) ?_ ?_
  rotate_left
  · intro uu (pu : Prev uu _)
    go_simp
    try (with_reducible rfl)
  try simp only [List.set]
  refine wpAnyH_on (i := 59) (d := 115) (v := ?_) rfl rfl (by kernel_rfl) (by kernel_rfl) (by kernel_rfl) (fun _ _ _ h => h) (by kernel_rfl) (prev_bel _ _) ?_ ?_
  rotate_left
  · intro uu (pu : Prev uu _)
    go_simp
    try (with_reducible rfl)
  try simp only [List.set]
  refine wpAnyH_on (i := 60) (d := 116) (v := ?_) rfl rfl (by kernel_rfl) (by kernel_rfl) (by kernel_rfl) (fun _ _ _ h => h) (by kernel_rfl) (prev_bel _ _) ?_ ?_
  rotate_left
  · intro uu (pu : Prev uu _)
    go_simp
    try (with_reducible rfl)
  try simp only [List.set]
  refine wpAnyH_on (i := 61) (d := 117) (v := ?_) rfl rfl (by kernel_rfl) (by kernel_rfl) (by kernel_rfl) (fun _ _ _ h => h) (by kernel_rfl) (prev_bel _ _) ?_ ?_
  rotate_left
  · intro uu (pu : Prev uu _)
    go_simp
    try (with_reducible rfl)
  try simp only [List.set]
  refine wpAnyH_on (i := 62) (d := 118) (v := ?_) rfl rfl (by kernel_rfl) (by kernel_rfl) (by kernel_rfl) (fun _ _ _ h => h) (by kernel_rfl) (prev_bel _ _) ?_ ?_
  rotate_left
  · intro uu (pu : Prev uu _)
    go_simp
    try (with_reducible rfl)
  try simp only [List.set]
  refine wpAnyH_ready (rs := [63]) (by kernel_rfl) (by simp) ?_
  refine AllReadyH.cons rfl (fun K hK => ?_) AllReadyH.nil
  go_simp
  (with_reducible refine (aF_intM).mono ?_)
  rintro e ux ⟨rfl, _⟩
  dsimp only
  refine hK.out _ _ (prev_bel v _) (fun hHeld => ?_)
  clear hHeld hK K
  try dsimp only [Act.put, List.setIfInBounds_toArray, List.set_cons_zero, List.set_cons_succ]
  refine wpAnyH_on (i := 64) (d := 120) (v := ?_) rfl rfl (by kernel_rfl) (by kernel_rfl) (by kernel_rfl) (fun _ _ _ h => h) (by kernel_rfl) (prev_bel _ _) ?_ ?_
  rotate_left
  · intro uu (pu : Prev uu _)
    go_simp
    try (with_reducible rfl)
  try simp only [List.set]
  refine wpAnyH_on (i := 65) (d := 121) (v := ?_) rfl rfl (by kernel_rfl) (by kernel_rfl) (by kernel_rfl) (fun _ _ _ h => h) (by kernel_rfl) (prev_bel _ _) ?_ ?_
  rotate_left
  · intro uu (pu : Prev uu _)
    go_simp
    try (with_reducible rfl)
  try simp only [List.set]
  refine wpAnyH_on (i := 66) (d := 122) (v := ?_) rfl rfl (by kernel_rfl) (by kernel_rfl) (by kernel_rfl) (fun _ _ _ h => h) (by kernel_rfl) (prev_bel _ _) ?_ ?_
  rotate_left
  · intro uu (pu : Prev uu _)
    go_simp
    try (with_reducible rfl)
  try simp only [List.set]
  refine wpAnyH_on (i := 67) (d := 123) (v := ?_) rfl rfl (by kernel_rfl) (by kernel_rfl) (by kernel_rfl) (fun _ _ _ h => h) (by kernel_rfl) (prev_bel _ _) ?_ ?_
  rotate_left
  · intro uu (pu : Prev uu _)
    go_simp
    try (with_reducible rfl)
  try simp only [List.set]
  refine wpAnyH_ready (rs := [68]) (by kernel_rfl) (by simp) ?_
  refine AllReadyH.cons rfl (fun K hK => ?_) AllReadyH.nil
  go_simp
  refine hK.out _ _ (prev_bel v _) (fun hHeld => ?_)
  clear hHeld hK K
  try dsimp only [Act.put, List.setIfInBounds_toArray, List.set_cons_zero, List.set_cons_succ]
  refine gen_boxH (fun ux _ _ => ?_)
  refine wpAnyH_ready (rs := [69]) (by kernel_rfl) (by simp) ?_
  refine AllReadyH.cons rfl (fun K hK => ?_) AllReadyH.nil
  go_simp
  (with_reducible refine (norm24).mono ?_)
  rintro e ux ⟨rfl, _⟩
  dsimp only
  refine hK.out _ _ (prev_bel v _) (fun hHeld => ?_)
  clear hHeld hK K
  try dsimp only [Act.put, List.setIfInBounds_toArray, List.set_cons_zero, List.set_cons_succ]
  refine wpAnyH_ready (rs := [70]) (by kernel_rfl) (by simp) ?_
  refine AllReadyH.cons rfl (fun K hK => ?_) AllReadyH.nil
  go_simp
  (with_reducible refine (aF_intM).mono ?_)
  rintro e ux ⟨rfl, _⟩
  dsimp only
  refine hK.out _ _ (prev_bel v _) (fun hHeld => ?_)
  clear hHeld hK K
  try dsimp only [Act.put, List.setIfInBounds_toArray, List.set_cons_zero, List.set_cons_succ]
  refine wpAnyH_on (i := 71) (d := 127) (v := ?_) rfl rfl (by kernel_rfl) (by kernel_rfl) (by kernel_rfl) (fun _ _ _ h => h) (by kernel_rfl) (prev_bel _ _) ?_ ?_
  rotate_left
  · intro uu (pu : Prev uu _)
    go_simp
    try (with_reducible rfl)
  try simp only [List.set]
  refine wpAnyH_on (i := 72) (d := 128) (v := ?_) rfl rfl (by kernel_rfl) (by kernel_rfl) (by kernel_rfl) (fun _ _ _ h => h) (by kernel_rfl) (prev_bel _ _) ?_ ?_
  rotate_left
  · intro uu (pu : Prev uu _)
    go_simp
    try (with_reducible rfl)
  try simp only [List.set]
  refine wpAnyH_on (i := 73) (d := 0) (v := ?_) rfl rfl (by kernel_rfl) (by kernel_rfl) (by kernel_rfl) (fun _ _ _ h => h) (by kernel_rfl) (prev_bel _ _) ?_ ?_
  rotate_left
  · intro uu (pu : Prev uu _)
    go_simp
    try (with_reducible rfl)
  try simp only [List.set]
  refine wpAnyH_done (by kernel_rfl) ?_ _
  go_wp2_with fail
  go_ret
  exact ⟨rfl, prev_bel _ _⟩
end

end Go.Proofs.Ytphcffcecncngaa

namespace Go.Proofs.Ytphcffcecncngaa
open Go.RowKit

/-- The same shapes, and as many cells. -/
structure Sim (ts us : List Tn) : Prop where
  len : ts.length = us.length
  at_ : ∀ (j : Nat) (t u : Tn), ts[j]? = some t → us[j]? = some u → t.zs = u.zs ∧ t.xs.length = u.xs.length
theorem Sim.symm {ts us : List Tn} (h : Sim ts us) : Sim us ts := ⟨h.len.symm, fun j t u ht hu => by obtain ⟨a, b⟩ := h.at_ j u t hu ht; exact ⟨a.symm, b.symm⟩⟩
theorem tRightB_same {t u : Tn} (h1 : t.zs = u.zs) (h2 : t.xs.length = u.xs.length) : tRightB t.zs t.xs = tRightB u.zs u.xs := by
  unfold tRightB; rw [h1, h2]
theorem at_of {α β : Type} {l : List α} {m : List β} (h : l.length = m.length) {j : Nat} {x : α} (hx : l[j]? = some x) : ∃ y, m[j]? = some y :=
  ⟨_, List.getElem?_eq_getElem (by rw [← h]; exact (List.getElem?_eq_some_iff.1 hx).1)⟩
theorem Sim.trans {ts us vs : List Tn} (h : Sim ts us) (k : Sim us vs) : Sim ts vs := ⟨h.len.trans k.len, fun j t v ht hv => by
  obtain ⟨u, hu⟩ := at_of h.len ht
  obtain ⟨a, b⟩ := h.at_ j t u ht hu
  obtain ⟨c, d⟩ := k.at_ j u v hu hv
  exact ⟨a.trans c, b.trans d⟩⟩
theorem all_of {α : Type} {f : α → Bool} {l : List α} (h : ∀ (j : Nat) x, l[j]? = some x → f x = true) : l.all f = true := by
  rw [List.all_eq_true]
  intro x hx
  obtain ⟨j, hj⟩ := List.mem_iff_getElem?.1 hx
  exact h j x hj
theorem Sim.valid {ts us : List Tn} (h : Sim ts us) (hv : validB ts = true) : validB us = true := all_of fun j u hu => by
  obtain ⟨t, ht⟩ := at_of h.len.symm hu
  obtain ⟨a, b⟩ := h.at_ j t u ht hu
  rw [← tRightB_same a b]
  exact validB_at hv ht
theorem zip_of {α β : Type} {l : List α} {m : List β} {j : Nat} {p : α × β} (h : (l.zip m)[j]? = some p) : l[j]? = some p.1 ∧ m[j]? = some p.2 := by
  obtain ⟨x, y⟩ := p
  rwa [List.getElem?_zip_eq_some] at h
theorem Sim.alike {ts us : List Tn} (h : Sim ts us) (hv : validB ts = true) : alikeTB ts us = true := by
  rw [alikeTB, decide_eq_true h.len, hv, h.valid hv, Bool.true_and, Bool.true_and, Bool.true_and]
  refine all_of fun j p hp => ?_
  obtain ⟨a, b⟩ := zip_of hp
  exact decide_eq_true (h.at_ j _ _ a b).1
theorem sim_of {ts us : List Tn} (h : alikeTB ts us = true) : Sim ts us :=
  ⟨(alikeTB_at h).1, fun j t u ht hu => by
    obtain ⟨_, _, a, b⟩ := (alikeTB_at h).2 j t u ht hu
    exact ⟨a, b⟩⟩
theorem Upd.sim {f : Nat → Tn → List Int} {k : Nat} {ts : List Tn} {qs : List Cp} (h : Upd f k ts qs) (hf : ∀ j t, ts[j]? = some t → (f j t).length = t.xs.length) : Sim ts (qs.map Cp.tn) :=
  ⟨by rw [List.length_map]; exact h.len.symm, fun j t u ht hu => by
    rw [List.getElem?_map] at hu
    obtain ⟨q, hq, rfl⟩ := Option.map_eq_some_iff.1 hu
    obtain ⟨a, b⟩ := h.at_ j q t hq ht
    refine ⟨a.symm, ?_⟩
    show t.xs.length = q.xs.length
    rw [b]
    split
    · exact (hf j t ht).symm
    · rfl⟩
theorem Upd.bd {f : Nat → Tn → List Int} {k : Nat} {ts : List Tn} {qs : List Cp} (h : Upd f k ts qs) (hb : ∀ t ∈ ts, ∀ z ∈ t.xs, I64 z) (hf : ∀ j t, ts[j]? = some t → ∀ z ∈ f j t, I64 z) : ∀ p ∈ qs, ∀ z ∈ p.xs, I64 z := by
  intro p hp z hz
  obtain ⟨j, hj⟩ := List.mem_iff_getElem?.1 hp
  obtain ⟨t, ht⟩ := at_of h.len hj
  obtain ⟨_, b⟩ := h.at_ j p t hj ht
  rw [b] at hz
  split at hz
  · exact hf j t ht z hz
  · exact hb t (List.mem_of_getElem? ht) z hz
theorem mix_mem {f : Nat → Int} {xs : List Int} {z : Int} (h : z ∈ mix f xs xs.length) : ∃ i, z = f i := by
  obtain ⟨i, hi⟩ := List.mem_iff_getElem?.1 h
  exact ⟨i, mix_full (Nat.le_refl _) hi⟩
theorem fsum_zero : ∀ (l : List Int), (∀ z ∈ l, z = 0) → fsum (l.map fabs) = 0
  | [], _ => rfl
  | z :: l, h => by
    have h0 := h z (by simp)
    subst h0
    have ih := fsum_zero l fun y hy => h y (by simp [hy])
    have e : fadd 0 (fabs 0) = 0 := by decide
    simpa [fsum, e] using ih
theorem normI_noughts {ts : List Tn} {qs : List Cp} {n : Nat} (h : Upd noughts n ts qs) (hn : ts.length ≤ n) : normI (qs.map Cp.tn) = 0 := by
  refine fsum_zero _ fun z hz => ?_
  obtain ⟨u, hu, hzu⟩ := List.mem_flatMap.1 hz
  obtain ⟨q, hq, rfl⟩ := List.mem_map.1 hu
  obtain ⟨j, hj⟩ := List.mem_iff_getElem?.1 hq
  obtain ⟨t, ht⟩ := at_of h.len hj
  obtain ⟨_, b⟩ := h.at_ j q t hj ht
  have hjn : j < n := Nat.lt_of_lt_of_le (List.getElem?_eq_some_iff.1 ht).1 hn
  rw [if_pos hjn] at b
  change z ∈ q.xs at hzu
  rw [b] at hzu
  exact (List.mem_replicate.1 hzu).2
theorem sameB_of {ts us : List Tn} (hl : ts.length = us.length) (h : ∀ (j : Nat) (t u : Tn), ts[j]? = some t → us[j]? = some u → t.zs = u.zs ∧ t.xs = u.xs) : sameB ts us = true := by
  rw [sameB, decide_eq_true hl, Bool.true_and]
  refine all_of fun j p hp => ?_
  obtain ⟨a, b⟩ := zip_of hp
  obtain ⟨c, d⟩ := h j _ _ a b
  simp [zxE, c, d]
theorem sameB_no {ts us : List Tn} {j : Nat} {t u : Tn} (ht : ts[j]? = some t) (hu : us[j]? = some u) (h : t.xs ≠ u.xs) : sameB ts us = false := by
  have : cellsB ts us = false := all_no (f := zxE) (zipT_at ht hu) (by simp [zxE, h])
  rw [sameB, this, Bool.and_false]
/-- Copies are the same. -/
theorem CPs.same {ts : List Tn} {ps : List Cp} (h : CPs ts ps) : sameB (ps.map Cp.tn) ts = true :=
  sameB_of (by rw [List.length_map]; exact h.len) fun j t u ht hu => by
    rw [List.getElem?_map] at ht
    obtain ⟨q, hq, rfl⟩ := Option.map_eq_some_iff.1 ht
    exact h.at hq hu
theorem CPs.sim {ts : List Tn} {ps : List Cp} (h : CPs ts ps) : Sim ts (ps.map Cp.tn) :=
  ⟨by rw [List.length_map]; exact h.len.symm, fun j t u ht hu => by
    rw [List.getElem?_map] at hu
    obtain ⟨q, hq, rfl⟩ := Option.map_eq_some_iff.1 hu
    obtain ⟨a, b⟩ := h.at hq ht
    exact ⟨a.symm, by show t.xs.length = q.xs.length; rw [b]⟩⟩
theorem Sim.mo {ts us : List Tn} (h : Sim ts us) (hm : Mo ts) : Mo us := fun u hu => by
  obtain ⟨j, hj⟩ := List.mem_iff_getElem?.1 hu
  obtain ⟨t, ht⟩ := at_of h.len.symm hj
  obtain ⟨a, b⟩ := h.at_ j t u ht hj
  have := hm t (List.mem_of_getElem? ht)
  rw [← a, ← b]; exact this
/-- A row of the call's own as tensors. -/
theorem CBk.tens {w : World} {lo G n : Nat} {ps : List Cp} (h : CBk w lo G n ps) (hl : ps.length = n) (hbd : ∀ p ∈ ps, ∀ z ∈ p.xs, I64 z) : Ts w (some ⟨G, 0, none⟩) n (ps.map Cp.tn) := by
  subst hl; exact h.ts hbd
instance TTs.lit1 {w : World} {B : Option Addr} {g n c : Nat} {T : TypeId} {ts : List Tn} [h : Bx w g T #[.slice B n c]] [s : Ts w B n ts] : TTs w (some ⟨g, 0, none⟩) 1 [⟨B, c, ts⟩] :=
  ⟨fun j l hj => by
    obtain ⟨s, rfl⟩ := s
    match j with
    | 0 => simp at hj; subst hj; exact ⟨g, 0, rfl, h.blk.lt, h.blk.cell 0, s⟩
    | j + 1 => simp at hj, rfl⟩
instance TTs.lit3 {w : World} {B C D : Option Addr} {g n c m d p e : Nat} {T : TypeId} {ts us vs : List Tn} [h : Bx w g T #[.slice B n c, .slice C m d, .slice D p e]] [s : Ts w B n ts] [x : Ts w C m us] [y : Ts w D p vs] : TTs w (some ⟨g, 0, none⟩) 3 [⟨B, c, ts⟩, ⟨C, d, us⟩, ⟨D, e, vs⟩] :=
  ⟨fun j l hj => by
    obtain ⟨s, rfl⟩ := s
    obtain ⟨x, rfl⟩ := x
    obtain ⟨y, rfl⟩ := y
    match j with
    | 0 => simp at hj; subst hj; exact ⟨g, 0, rfl, h.blk.lt, h.blk.cell 0, s⟩
    | 1 => simp at hj; subst hj; exact ⟨g, 0, rfl, h.blk.lt, h.blk.cell 1, x⟩
    | 2 => simp at hj; subst hj; exact ⟨g, 0, rfl, h.blk.lt, h.blk.cell 2, y⟩
    | j + 3 => simp at hj, rfl⟩
/-- Raised by one. -/
def raise (x : Int) : Int := IntKind.i64.wrap (x + 1)
def rowI (_ : Nat) (t : Tn) : List Int := mix (fun i => raise (t.xs.getD i 0)) t.xs t.xs.length
theorem raise_bd (x : Int) : I64 (raise x) := by
  unfold raise I64
  rw [IntKind.wrap_i64]
  omega
theorem raise_ne (x : Int) : raise x ≠ x := by
  unfold raise
  rw [IntKind.wrap_i64]
  omega
section
variable {w : World} {A B C D : Option Addr} {n m c d n' m' c' d' : Nat} {zs xs : List Int} {ts us : List Tn}
theorem aT_equalT24 [a : Sl w A n zs] [b : Sl w B m xs] [a' : Sl w C n' zs] [b' : Sl w D m' xs] (hn : n ≤ 1000000) (hm : m ≤ 1000000) (hn' : n' ≤ 1000000) : Calls Try.prog 46 #[.agg #[.slice A n c, .slice B m d], .agg #[.slice C n' c', .slice D m' d']] w (RetV w (.bool true)) :=
  retV_of (aT_equal hn hm hn') (by simp)
theorem op_normS [a : Ts w A n ts] (hn : n ≤ 1000000) (hz : Hid (Mo ts)) {S : Int} (h : Hid (normI ts = S)) : Calls Try.prog 45 #[.slice A n c] w (RetV w (.int .i64 S)) := retV_of (op_norm hn hz) (by rw [h.out])
end

end Go.Proofs.Ytphcffcecncngaa

namespace Go.Proofs.Ytphcffcecncngaa
open Go.RowKit Go.ChangeShapes Go.WideShapes Go.Deep

/-- A slice of tensors among the parameters. -/
structure TensIn (W : World) (A : Option Addr) (c : Nat) (ts : List Tn) : Prop where
  rd : TRd W A ts
  le : ts.length ≤ c
  max : c ≤ maxLen
section
variable {H : Type} {enc : TypeId × Value → H} {W : World} {base : Nat} {held : Bool}
theorem cell_none {a : Addr} {v : Value} (h : W.cell? a = some v) : ∃ b o, a = ⟨b, o, none⟩ := by
  obtain ⟨b, off, sp⟩ := a
  cases sp with
  | none => exact ⟨b, off, rfl⟩
  | some s =>
    exfalso
    simp [World.cell?] at h
    split at h <;> simp at h
theorem add_plain (b o k : Nat) : (⟨b, o, none⟩ : Addr).add k = ⟨b, o + k, none⟩ := by
  unfold Addr.add
  split
  · rename_i e; subst e; rfl
  · rfl
set_option maxRecDepth 100000 in
theorem trod_grid {fuel : Nat} {cs : List Value} {x : DataW H × List MemPlace} (h : DataW.trod enc Try.prog W base (fun _ => true) held fuel 65 cs = some x) (hl : cs.length = 2) :
    ∃ A c zs B d xs, cs = [.slice A zs.length c, .slice B xs.length d] ∧ IntsIn W A c zs ∧ IntsIn W B d xs := by
  match cs, hl with
  | [v0, v1], _ =>
    obtain ⟨_, _, h0⟩ := fld Try.underlying65 h 0 _ rfl
    obtain ⟨_, _, h1⟩ := fld Try.underlying65 h 1 _ rfl
    replace h0 : DataW.trod enc Try.prog W base (fun _ => true) held _ 62 [v0] = some _ := h0
    replace h1 : DataW.trod enc Try.prog W base (fun _ => true) held _ 63 [v1] = some _ := h1
    obtain ⟨A, c, zs, rfl, i0⟩ := trod_ints Try.underlying62 Try.underlying3 (by kernel_rfl) h0
    obtain ⟨B, d, xs, rfl, i1⟩ := trod_ints Try.underlying63 Try.underlying45 (by kernel_rfl) h1
    exact ⟨A, c, zs, B, d, xs, rfl, i0, i1⟩
set_option maxRecDepth 100000 in
theorem trod_tens {fuel : Nat} {v : Value} {x : DataW H × List MemPlace} (h : DataW.trod enc Try.prog W base (fun _ => true) held fuel 58 [v] = some x) : ∃ A c ts, v = .slice A (List.length ts) c ∧ TensIn W A c ts := by
  rcases open_slice Try.underlying58 h with ⟨hcs, _⟩ | ⟨a, len, cap, m, n, D, Pl, hcs, _, hl, hm, hmm, _, hi⟩
  · injection hcs with hcs; subst hcs
    exact ⟨none, 0, [], rfl, TRd.nil _ _, Nat.le_refl _, Nat.zero_le _⟩
  · injection hcs with hcs; subst hcs
    simp only [if_true] at hmm
    subst hmm
    have hC : Try.prog.cellsOf 65 = 2 := by kernel_rfl
    have key : ∀ i, i < m → ∃ (b o : Nat) (t : Tn), a = ⟨b, o, none⟩ ∧ TIn W b (o + i * 2) t := by
      intro i him
      obtain ⟨cs', hc, ht⟩ := hi i him
      rw [hC] at hc
      obtain ⟨_, hcl, hat⟩ := World.cells?_some hc
      obtain ⟨A, c, zs, B, d, xs, rfl, i0, i1⟩ := trod_grid ht hcl
      have g0 := hat 0 (by omega)
      have g1 := hat 1 (by omega)
      rw [Go.Deep.add_add] at g0 g1
      have ea : ∃ b o, a = ⟨b, o, none⟩ := by
        obtain ⟨cs0, hc0, ht0⟩ := hi 0 (by omega)
        rw [hC] at hc0
        obtain ⟨_, hcl0, hat0⟩ := World.cells?_some hc0
        obtain ⟨_, _, _, _, _, _, rfl, _, _⟩ := trod_grid ht0 hcl0
        have g := hat0 0 (by omega)
        rw [Go.Deep.add_add] at g
        exact cell_none (show W.cell? (a.add 0) = some _ from g)
      obtain ⟨b', o', rfl⟩ := ea
      rw [add_plain] at g0 g1
      exact ⟨b', o', ⟨A, c, zs, B, d, xs⟩, rfl, World.block_lt_of_cell? W _ g0, g0, g1, i0.rd, i1.rd, i1.2.1, fun z hz => wf_bounds (i1.2.2.2 z hz)⟩
    have all : ∀ k, k ≤ m → ∃ ts : List Tn, ts.length = k ∧ TRd W (some a) ts := by
      intro k
      induction k with
      | zero => intro _; exact ⟨[], rfl, TRd.nil _ _⟩
      | succ k ih =>
        intro hk
        obtain ⟨ts, hlen, hrd⟩ := ih (by omega)
        obtain ⟨b, o, t, rfl, ht⟩ := key k (by omega)
        refine ⟨ts ++ [t], by simp [hlen], fun j u hj => ?_⟩
        by_cases hjk : j < k
        · rw [List.getElem?_append_left (by omega)] at hj
          exact hrd j u hj
        · have : j = k := by
            have := (List.getElem?_eq_some_iff.1 hj).1
            simp at this; omega
          subst this
          rw [List.getElem?_append_right (by omega), hlen] at hj
          simp at hj; subst hj
          exact ⟨b, o, rfl, ht⟩
    obtain ⟨ts, hlen, hrd⟩ := all len hl
    exact ⟨some a, m, ts, by rw [hlen], hrd, by omega, hm⟩
set_option maxRecDepth 100000 in
theorem arg_tens {b0 : Nat} {v : Value} {d : DataW H} {p : List MemPlace} (hval : Value.okWide Try.prog W .any b0 58 v) (h : DataW.Trod enc Try.prog W base (fun _ => true) held 58 v d p) : ∃ A c ts, v = .slice A (List.length ts) c ∧ TensIn W A c ts := by
  obtain ⟨a, l, c, rfl⟩ := okWide_slice Try.underlying58 hval
  obtain ⟨fuel, hf⟩ := h
  exact trod_tens hf
end

end Go.Proofs.Ytphcffcecncngaa

namespace Go.Proofs.Ytphcffcecncngaa
open Go.RowKit Go.ChangeShapes Go.WideShapes Go.Deep

/-- No slice of the datum takes more than the reach. -/
def Wt {H : Type} (t : TypeId) (d : DataW H) : Prop := ∀ n ∈ d.weights Try.prog t, n ≤ reachBytes
abbrev reach8 : Nat := 17592186043904
theorem wt_each {H : Type} {ts : List TypeId} {ds : List (DataW H)} (h : (DataW.weightsEach Try.prog ts ds).all (· ≤ reachBytes) = true) {j : Nat} {t : TypeId} {d : DataW H} (ht : ts[j]? = some t) (hd : ds[j]? = some d) : Wt t d :=
  fun n hn => by simpa using List.all_eq_true.1 h _ (DataW.weights_mem_each ht hd n hn)
section
variable {H : Type} {enc : TypeId × Value → H} {W : World} {base : Nat} {held : Bool}
theorem trod_intsW {T E : TypeId} {fuel : Nat} {v : Value} {x : DataW H × List MemPlace} (hT : Try.prog.underlying T = some (.slice E)) (hE : Try.prog.underlying E = some (.int .i64)) (hc : Try.prog.cellsOf E = 1) (hb : Try.prog.bytesOf E = 8)
    (h : DataW.trod enc Try.prog W base (fun _ => true) held fuel T [v] = some x) (hw : Wt T x.1) : ∃ A c zs, v = .slice A (List.length zs) c ∧ IntsIn W A c zs ∧ zs.length ≤ reach8 := by
  obtain ⟨A, c, zs, rfl, hi⟩ := trod_ints hT hE hc h
  refine ⟨A, c, zs, rfl, hi, ?_⟩
  rcases open_ints hT hE hc h with ⟨hcs, _⟩ | ⟨a, l, c, zs', hcs, _, hl, hm, hz, hx, _, _⟩
  · injection hcs with hcs; injection hcs with _ e _; omega
  · injection hcs with hcs
    injection hcs with _ e _
    subst hx
    have := hw ((((zs'.take l).length + (zs'.drop l).length)) * 8) (by simp [DataW.weights, hT, hb, lits])
    simp only [if_true] at hz
    simp [reachBytes] at this
    unfold reach8
    omega
set_option maxRecDepth 100000 in
theorem trod_gridW {fuel : Nat} {cs : List Value} {x : DataW H × List MemPlace} (h : DataW.trod enc Try.prog W base (fun _ => true) held fuel 65 cs = some x) (hl : cs.length = 2) (hw : Wt 65 x.1) :
    ∃ A c zs B d xs, cs = [.slice A (List.length zs) c, .slice B (List.length xs) d] ∧ IntsIn W A c zs ∧ IntsIn W B d xs ∧ zs.length ≤ reach8 ∧ xs.length ≤ reach8 := by
  match cs, hl with
  | [v0, v1], _ =>
    obtain ⟨ys, n, _, hx, _, hyl, hg⟩ := DataW.trod_struct Try.underlying65 h
    match ys, hyl with
    | [y0, y1], _ =>
      have h0 : DataW.trod enc Try.prog W base (fun _ => true) held n 62 [v0] = some y0 := hg 0 _ rfl
      have h1 : DataW.trod enc Try.prog W base (fun _ => true) held n 63 [v1] = some y1 := hg 1 _ rfl
      have e : x.1 = .agg [y0.1, y1.1] := by rw [hx]; rfl
      have hws : ∀ n ∈ DataW.weightsEach Try.prog [62, 63] [y0.1, y1.1], n ≤ reachBytes := by
        intro n hn
        refine hw n ?_
        rw [e]
        simp only [DataW.weights, Try.underlying65]
        exact hn
      obtain ⟨A, c, zs, rfl, i0, l0⟩ := trod_intsW Try.underlying62 Try.underlying3 (by kernel_rfl) (by kernel_rfl) h0 (fun n hn => hws n (DataW.weights_mem_each (j := 0) rfl rfl n hn))
      obtain ⟨B, d, xs, rfl, i1, l1⟩ := trod_intsW Try.underlying63 Try.underlying45 (by kernel_rfl) (by kernel_rfl) h1 (fun n hn => hws n (DataW.weights_mem_each (j := 1) rfl rfl n hn))
      exact ⟨A, c, zs, B, d, xs, rfl, i0, i1, l0, l1⟩
theorem weightsAll_mem {e : TypeId} : ∀ {l : List (DataW H)} {d : DataW H}, d ∈ l → ∀ n ∈ d.weights Try.prog e, n ∈ DataW.weightsAll Try.prog e l
  | a :: l, d, h, n, hn => by
    simp only [DataW.weightsAll, List.mem_append]
    rcases List.mem_cons.1 h with rfl | h
    · exact .inl hn
    · exact .inr (weightsAll_mem h n hn)
/-- A slice of tensors among the parameters, all lengths within the reach. -/
structure TensW (W : World) (A : Option Addr) (c : Nat) (ts : List Tn) : Prop where
  rd : TRd W A ts
  big : ∀ t ∈ ts, t.zs.length ≤ reach8 ∧ t.xs.length ≤ reach8
  caps : ∀ t ∈ ts, t.zs.length ≤ t.c
  len : ts.length * 48 ≤ 140737488351232
  cap : ts.length ≤ c
set_option maxRecDepth 100000 in
theorem trod_tensW {fuel : Nat} {v : Value} {x : DataW H × List MemPlace} (h : DataW.trod enc Try.prog W base (fun _ => true) held fuel 58 [v] = some x) (hw : Wt 58 x.1) : ∃ A c ts, v = .slice A (List.length ts) c ∧ TensW W A c ts := by
  rcases open_slice Try.underlying58 h with ⟨hcs, _⟩ | ⟨a, len, cap, m, n, D, Pl, hcs, _, hl, hm, hmm, hx, hi⟩
  · injection hcs with hcs; subst hcs
    exact ⟨none, 0, [], rfl, TRd.nil _ _, by simp, by simp, by simp, Nat.le_refl _⟩
  · injection hcs with hcs; subst hcs
    simp only [if_true] at hmm
    subst hmm
    have hC : Try.prog.cellsOf 65 = 2 := by kernel_rfl
    have hB : Try.prog.bytesOf 65 = 48 := by kernel_rfl
    have hwd : ∀ i, i < len → Wt 65 (D i) := fun i hi n hn => by
      refine hw n ?_
      rw [hx]
      simp only [DataW.weights, Try.underlying58, List.mem_cons, List.mem_append]
      exact .inr (.inl (weightsAll_mem (List.mem_map.2 ⟨i, List.mem_range.2 hi, rfl⟩) n hn))
    have hlen : len * 48 ≤ 140737488351232 := by
      have := hw ((len + (m - len)) * 48) (by rw [hx]; simp [DataW.weights, Try.underlying58, hB])
      simp [reachBytes] at this
      omega
    have key : ∀ i, i < len → ∃ (b o : Nat) (t : Tn), a = ⟨b, o, none⟩ ∧ TIn W b (o + i * 2) t ∧ t.zs.length ≤ reach8 ∧ t.xs.length ≤ reach8 ∧ t.zs.length ≤ t.c := by
      intro i him
      obtain ⟨cs', hc, ht⟩ := hi i (by omega)
      rw [hC] at hc
      obtain ⟨_, hcl, hat⟩ := World.cells?_some hc
      obtain ⟨A, c, zs, B, d, xs, rfl, i0, i1, l0, l1⟩ := trod_gridW ht hcl (hwd i him)
      have g0 := hat 0 (by omega)
      have g1 := hat 1 (by omega)
      rw [Go.Deep.add_add] at g0 g1
      have ea : ∃ b o, a = ⟨b, o, none⟩ := by
        obtain ⟨cs0, hc0, ht0⟩ := hi 0 (by omega)
        rw [hC] at hc0
        obtain ⟨_, hcl0, hat0⟩ := World.cells?_some hc0
        obtain ⟨_, _, _, _, _, _, rfl, _, _⟩ := trod_grid ht0 hcl0
        have g := hat0 0 (by omega)
        rw [Go.Deep.add_add] at g
        exact cell_none (show W.cell? (a.add 0) = some _ from g)
      obtain ⟨b', o', rfl⟩ := ea
      rw [add_plain] at g0 g1
      exact ⟨b', o', ⟨A, c, zs, B, d, xs⟩, rfl, ⟨World.block_lt_of_cell? W _ g0, g0, g1, i0.rd, i1.rd, i1.2.1, fun z hz => wf_bounds (i1.2.2.2 z hz)⟩, l0, l1, i0.2.1⟩
    have all : ∀ k, k ≤ len → ∃ ts : List Tn, ts.length = k ∧ TRd W (some a) ts ∧ ∀ t ∈ ts, t.zs.length ≤ reach8 ∧ t.xs.length ≤ reach8 ∧ t.zs.length ≤ t.c := by
      intro k
      induction k with
      | zero => intro _; exact ⟨[], rfl, TRd.nil _ _, by simp⟩
      | succ k ih =>
        intro hk
        obtain ⟨ts, hlen, hrd, hbig⟩ := ih (by omega)
        obtain ⟨b, o, t, rfl, ht, hl⟩ := key k (by omega)
        refine ⟨ts ++ [t], by simp [hlen], fun j u hj => ?_, fun u hu => ?_⟩
        · by_cases hjk : j < k
          · rw [List.getElem?_append_left (by omega)] at hj
            exact hrd j u hj
          · have : j = k := by
              have := (List.getElem?_eq_some_iff.1 hj).1
              simp at this; omega
            subst this
            rw [List.getElem?_append_right (by omega), hlen] at hj
            simp at hj; subst hj
            exact ⟨b, o, rfl, ht⟩
        · rcases List.mem_append.1 hu with hu | hu
          · exact hbig u hu
          · simp at hu; subst hu; exact hl
    obtain ⟨ts, hts, hrd, hbig⟩ := all len (Nat.le_refl _)
    exact ⟨some a, m, ts, by rw [hts], hrd, fun t ht => ⟨(hbig t ht).1, (hbig t ht).2.1⟩, fun t ht => (hbig t ht).2.2, by omega, by omega⟩
set_option maxRecDepth 100000 in
theorem arg_tensW {b0 : Nat} {v : Value} {d : DataW H} {p : List MemPlace} (hval : Value.okWide Try.prog W .any b0 58 v) (h : DataW.Trod enc Try.prog W base (fun _ => true) held 58 v d p) (hw : Wt 58 d) : ∃ A c ts, v = .slice A (List.length ts) c ∧ TensW W A c ts := by
  obtain ⟨a, l, c, rfl⟩ := okWide_slice Try.underlying58 hval
  obtain ⟨fuel, hf⟩ := h
  exact trod_tensW hf hw
end

end Go.Proofs.Ytphcffcecncngaa

namespace Go.Proofs.Ytphcffcecncngaa
open Go.RowKit Go.ChangeShapes Go.WideShapes Go.Deep

section
variable {H : Type} {enc : TypeId × Value → H} {W : World} {base : Nat} {held : Bool}
/-- A field of a struct that was read, and the bound on it. -/
theorem fldW {T : TypeId} {fs : Array Field} {fuel : Nat} {cs : List Value} {x : DataW H × List MemPlace} {spare : Nat → Bool} (hT : Try.prog.underlying T = some (.struct fs)) (h : DataW.trod enc Try.prog W base spare held fuel T cs = some x) (hw : Wt T x.1)
    (i : Nat) (f : Field) (hf : fs[i]? = some f) : ∃ n y, DataW.trod enc Try.prog W base spare held n f.type ((cs.drop f.offset).take (Try.prog.cellsOf f.type)) = some y ∧ Wt f.type y.1 := by
  obtain ⟨xs, n, _, hx, _, hl, hg⟩ := DataW.trod_struct hT h
  have hi : i < xs.length := by rw [hl]; exact (Array.getElem?_eq_some_iff.1 hf).1
  refine ⟨n, xs[i], (hg i f hf).trans (List.getElem?_eq_getElem hi), fun m hm => hw m ?_⟩
  rw [hx]
  simp only [DataW.weights, hT]
  refine DataW.weights_mem_each (j := i) (t := f.type) (d := xs[i].1) ?_ ?_ m hm
  · simp [hf]
  · simp [List.getElem?_eq_getElem hi]
set_option maxRecDepth 100000 in
theorem arg_grid {b0 : Nat} {v : Value} {d : DataW H} {p : List MemPlace} (hval : Value.okWide Try.prog W .any b0 65 v) (h : DataW.Trod enc Try.prog W base (fun _ => true) held 65 v d p) (hw : Wt 65 d) :
    ∃ A c zs B d xs, v = .agg #[.slice A (List.length zs) c, .slice B (List.length xs) d] ∧ IntsIn W A c zs ∧ IntsIn W B d xs ∧ zs.length ≤ reach8 ∧ xs.length ≤ reach8 := by
  obtain ⟨cs, rfl, hsz⟩ := okWide_struct Try.underlying65 hval
  obtain ⟨q0, q1, rfl⟩ := arr2 (hsz.trans (by kernel_rfl))
  obtain ⟨fuel, hf⟩ := h
  obtain ⟨A, c, zs, B, d, xs, e, r⟩ := trod_gridW hf rfl hw
  simp only [Value.cells] at e
  injection e with e0 e1; injection e1 with e1 _; subst e0 e1
  exact ⟨A, c, zs, B, d, xs, rfl, r⟩
end

end Go.Proofs.Ytphcffcecncngaa

namespace Go.Proofs.Ytphcffcecncngaa
open Go.RowKit Go.ChangeShapes Go.WideShapes Go.Deep

section
variable {H : Type} {enc : TypeId × Value → H} {W : World} {base : Nat} {held : Bool}
theorem TensW.l8 {A : Option Addr} {c : Nat} {ts : List Tn} (h : TensW W A c ts) : ts.length ≤ 17592186043904 := by have := h.len; omega
set_option maxRecDepth 100000 in
theorem arg_case24 {b0 : Nat} {v : Value} {d : DataW H} {p : List MemPlace} (hval : Value.okWide Try.prog W .any b0 72 v) (h : DataW.Trod enc Try.prog W base (fun _ => true) held 72 v d p) (hw : Wt 72 d) :
    ∃ A c ts B c' us r m dd cl dr ev st C c'' gs, v = .agg #[.slice A (List.length ts) c, .slice B (List.length us) c', .int .i64 r, .int .i64 m, .int .i64 dd, .int .i64 cl, .int .i64 dr, .int .i64 ev, .int .i64 st, .slice C (List.length gs) c''] ∧
      TensW W A c ts ∧ TensW W B c' us ∧ TensW W C c'' gs ∧ I64 r ∧ I64 m ∧ I64 dd ∧ I64 cl ∧ I64 dr := by
  obtain ⟨cs, rfl, hsz⟩ := okWide_struct Try.underlying72 hval
  obtain ⟨q0, q1, q2, q3, q4, q5, q6, q7, q8, q9, rfl⟩ := arr10 (hsz.trans (by kernel_rfl))
  obtain ⟨fuel, hf⟩ := h
  obtain ⟨_, _, h0, w0⟩ := fldW Try.underlying72 hf hw 0 _ rfl
  obtain ⟨_, _, h1, w1⟩ := fldW Try.underlying72 hf hw 1 _ rfl
  obtain ⟨_, _, h2, w2⟩ := fldW Try.underlying72 hf hw 2 _ rfl
  obtain ⟨_, _, h3, w3⟩ := fldW Try.underlying72 hf hw 3 _ rfl
  replace h0 : DataW.trod enc Try.prog W base (fun _ => true) held _ 70 [q0, q1] = some _ := h0
  replace h1 : DataW.trod enc Try.prog W base (fun _ => true) held _ 47 [q2, q3, q4, q5, q6, q7] = some _ := h1
  replace h2 : DataW.trod enc Try.prog W base (fun _ => true) held _ 3 [q8] = some _ := h2
  replace h3 : DataW.trod enc Try.prog W base (fun _ => true) held _ 58 [q9] = some _ := h3
  obtain ⟨_, _, h00, w00⟩ := fldW Try.underlying70 h0 w0 0 _ rfl
  obtain ⟨_, _, h01, w01⟩ := fldW Try.underlying70 h0 w0 1 _ rfl
  replace h00 : DataW.trod enc Try.prog W base (fun _ => true) held _ 58 [q0] = some _ := h00
  replace h01 : DataW.trod enc Try.prog W base (fun _ => true) held _ 58 [q1] = some _ := h01
  obtain ⟨_, _, k0⟩ := fld Try.underlying47 h1 0 _ rfl
  obtain ⟨_, _, k1⟩ := fld Try.underlying47 h1 1 _ rfl
  obtain ⟨_, _, k2⟩ := fld Try.underlying47 h1 2 _ rfl
  obtain ⟨_, _, k3⟩ := fld Try.underlying47 h1 3 _ rfl
  obtain ⟨_, _, k4⟩ := fld Try.underlying47 h1 4 _ rfl
  obtain ⟨_, _, k5⟩ := fld Try.underlying47 h1 5 _ rfl
  replace k0 : DataW.trod enc Try.prog W base (fun _ => true) held _ 45 [q2] = some _ := k0
  replace k1 : DataW.trod enc Try.prog W base (fun _ => true) held _ 45 [q3] = some _ := k1
  replace k2 : DataW.trod enc Try.prog W base (fun _ => true) held _ 45 [q4] = some _ := k2
  replace k3 : DataW.trod enc Try.prog W base (fun _ => true) held _ 45 [q5] = some _ := k3
  replace k4 : DataW.trod enc Try.prog W base (fun _ => true) held _ 45 [q6] = some _ := k4
  replace k5 : DataW.trod enc Try.prog W base (fun _ => true) held _ 3 [q7] = some _ := k5
  obtain ⟨r, rfl, i0⟩ := trod_int1 Try.underlying45 k0
  obtain ⟨m, rfl, i1⟩ := trod_int1 Try.underlying45 k1
  obtain ⟨dd, rfl, i2⟩ := trod_int1 Try.underlying45 k2
  obtain ⟨cl, rfl, i3⟩ := trod_int1 Try.underlying45 k3
  obtain ⟨dr, rfl, i4⟩ := trod_int1 Try.underlying45 k4
  obtain ⟨ev, rfl, -⟩ := trod_int1 Try.underlying3 k5
  obtain ⟨st, rfl, -⟩ := trod_int1 Try.underlying3 h2
  obtain ⟨A, c, ts, rfl, t0⟩ := trod_tensW h00 w00
  obtain ⟨B, c', us, rfl, t1⟩ := trod_tensW h01 w01
  obtain ⟨C, c'', gs, rfl, t2⟩ := trod_tensW h3 w3
  exact ⟨A, c, ts, B, c', us, r, m, dd, cl, dr, ev, st, C, c'', gs, rfl, t0, t1, t2, wf_bounds i0, wf_bounds i1, wf_bounds i2, wf_bounds i3, wf_bounds i4⟩
/-- A slice of lists of tensors among the parameters, all lengths within the reach. -/
structure TTW (W : World) (A : Option Addr) (ls : List TL) : Prop where
  rd : TTRd W A ls
  big : ∀ l ∈ ls, l.ts.length ≤ 17592186043904 ∧ Bigs l.ts
  len : ls.length ≤ 17592186043904
set_option maxRecDepth 100000 in
theorem trod_ttensW {fuel : Nat} {v : Value} {x : DataW H × List MemPlace} (h : DataW.trod enc Try.prog W base (fun _ => true) held fuel 56 [v] = some x) (hw : Wt 56 x.1) : ∃ A c ls, v = .slice A (List.length ls) c ∧ TTW W A ls := by
  rcases open_slice Try.underlying56 h with ⟨hcs, _⟩ | ⟨a, len, cap, m, n, D, Pl, hcs, _, hl, hm, hmm, hx, hi⟩
  · injection hcs with hcs; subst hcs
    exact ⟨none, 0, [], rfl, (fun j l hj => by simp at hj), by simp, by simp⟩
  · injection hcs with hcs; subst hcs
    simp only [if_true] at hmm
    subst hmm
    have hC : Try.prog.cellsOf 58 = 1 := by kernel_rfl
    have hB : Try.prog.bytesOf 58 = 24 := by kernel_rfl
    have hwd : ∀ i, i < len → Wt 58 (D i) := fun i hi n hn => by
      refine hw n ?_
      rw [hx]
      simp only [DataW.weights, Try.underlying56, List.mem_cons, List.mem_append]
      exact .inr (.inl (weightsAll_mem (List.mem_map.2 ⟨i, List.mem_range.2 hi, rfl⟩) n hn))
    have hlen : len * 24 ≤ 140737488351232 := by
      have := hw ((len + (m - len)) * 24) (by rw [hx]; simp [DataW.weights, Try.underlying56, hB])
      simp [reachBytes] at this
      omega
    have key : ∀ i, i < len → ∃ (b o : Nat) (l : TL), a = ⟨b, o, none⟩ ∧ b < W.heap.size ∧ W.cell? ⟨b, o + i, none⟩ = some (.slice l.A l.ts.length l.c) ∧ TRd W l.A l.ts ∧ l.ts.length ≤ 17592186043904 ∧ Bigs l.ts := by
      intro i him
      obtain ⟨cs', hc, ht⟩ := hi i (by omega)
      rw [hC] at hc
      obtain ⟨_, hcl, hat⟩ := World.cells?_some hc
      match cs', hcl with
      | [u], _ =>
        obtain ⟨A, c, ts, rfl, tw⟩ := trod_tensW ht (hwd i him)
        have g0 := hat 0 (by omega)
        rw [Go.Deep.add_add] at g0
        have g0' : W.cell? (a.add (i * 1 + 0)) = some (.slice A ts.length c) := g0
        have ea : ∃ b o, a = ⟨b, o, none⟩ := by
          obtain ⟨cs0, hc0, ht0⟩ := hi 0 (by omega)
          rw [hC] at hc0
          obtain ⟨_, hcl0, hat0⟩ := World.cells?_some hc0
          match cs0, hcl0 with
          | [u0], _ =>
            obtain ⟨A0, c0, ts0, rfl, _⟩ := trod_tensW ht0 (hwd 0 (by omega))
            have g := hat0 0 (by omega)
            rw [Go.Deep.add_add] at g
            exact cell_none (show W.cell? (a.add 0) = some _ from g)
        obtain ⟨b', o', rfl⟩ := ea
        rw [add_plain, Nat.mul_one, Nat.add_zero] at g0'
        exact ⟨b', o', ⟨A, c, ts⟩, rfl, World.block_lt_of_cell? W _ g0', g0', tw.rd, tw.l8, tw.big⟩
    have all : ∀ k, k ≤ len → ∃ ls : List TL, ls.length = k ∧ TTRd W (some a) ls ∧ ∀ l ∈ ls, l.ts.length ≤ 17592186043904 ∧ Bigs l.ts := by
      intro k
      induction k with
      | zero => intro _; exact ⟨[], rfl, (fun j l hj => by simp at hj), by simp⟩
      | succ k ih =>
        intro hk
        obtain ⟨ls, hlen, hrd, hbig⟩ := ih (by omega)
        obtain ⟨b, o, l, rfl, e1, e2, e3, e4, e5⟩ := key k (by omega)
        refine ⟨ls ++ [l], by simp [hlen], fun j u hj => ?_, fun u hu => ?_⟩
        · by_cases hjk : j < k
          · rw [List.getElem?_append_left (by omega)] at hj
            exact hrd j u hj
          · have : j = k := by
              have := (List.getElem?_eq_some_iff.1 hj).1
              simp at this; omega
            subst this
            rw [List.getElem?_append_right (by omega), hlen] at hj
            simp at hj; subst hj
            exact ⟨b, o, rfl, e1, e2, e3⟩
        · rcases List.mem_append.1 hu with hu | hu
          · exact hbig u hu
          · simp at hu; subst hu; exact ⟨e4, e5⟩
    obtain ⟨ls, hls, hrd, hbig⟩ := all len (Nat.le_refl _)
    exact ⟨some a, m, ls, by rw [hls], hrd, hbig, by omega⟩
set_option maxRecDepth 100000 in
theorem arg_ttensW {b0 : Nat} {v : Value} {d : DataW H} {p : List MemPlace} (hval : Value.okWide Try.prog W .any b0 56 v) (h : DataW.Trod enc Try.prog W base (fun _ => true) held 56 v d p) (hw : Wt 56 d) : ∃ A c ls, v = .slice A (List.length ls) c ∧ TTW W A ls := by
  obtain ⟨a, l, c, rfl⟩ := okWide_slice Try.underlying56 hval
  obtain ⟨fuel, hf⟩ := h
  exact trod_ttensW hf hw
end

end Go.Proofs.Ytphcffcecncngaa

namespace Go.Proofs.Ytphcffcecncngaa
open Go.RowKit

set_option maxRecDepth 100000 in
set_option maxHeartbeats 20000000 in
theorem optimBegins_calls (A : Option Addr) (c : Nat) (ts : List Tn) (w : World) (h : TensW w A c ts) :
    Calls Try.prog 11 #[.slice A ts.length c] w (LawTrue w) := by
  obtain ⟨n, hn⟩ : ∃ n, ts.length = n := ⟨_, rfl⟩
  have l8 := h.l8
  rw [hn] at l8 ⊢
  have a : Ts w A n ts := ⟨h.rd, hn.symm⟩
  have HN := Lib.hid hn
  have HB : Hid (∀ l ∈ [(⟨A, c, ts⟩ : TL)], l.ts.length ≤ 17592186043904 ∧ Bigs l.ts) := Lib.hid fun l hl => by
    rw [List.mem_singleton.1 hl]; exact ⟨by simpa [hn] using l8, h.big⟩
  have HBD : Hid (∀ t ∈ ts, ∀ z ∈ t.xs, I64 z) := Lib.hid h.rd.bd
  clear h
  have CB := @cell_bx
  have CP := @cell_prev
  rcases hs : decide (sumTT [(⟨A, c, ts⟩ : TL)] ≤ 1000) with _ | _
  · go_enter Try.func11, Try.ntmps11
    go_wp2_with (first | (go_at_call 32; (try first | (with_reducible refine gen_boxK3 (fun u _ _ _ _ => ?_)) | (with_reducible refine gen_boxK2 (fun u _ _ _ => ?_)) | (with_reducible refine gen_boxK (fun u _ _ => ?_))); (with_reducible refine (a24_small (by omega) HB).mono ?_); rintro e u ⟨rfl, _⟩) | (go_at_call 30; (try first | (with_reducible refine gen_boxK3 (fun u _ _ _ _ => ?_)) | (with_reducible refine gen_boxK2 (fun u _ _ _ => ?_)) | (with_reducible refine gen_boxK (fun u _ _ => ?_))); (with_reducible refine (a24_awake).mono ?_); rintro e u ⟨rfl, _⟩))
    go_ret
    exact ⟨rfl, bel w _⟩
  have hsum : sumT ts ≤ 1000 := by simpa [sumTT] using hs
  have hz : Hid (Mo ts) := Lib.hid (small_mo hsum)
  have hn6 : n ≤ 1000 := by have := sumT_len ts; omega
  clear hsum hn
  rcases hv : validB ts with _ | _
  · have HV := Lib.hid hv
    go_enter Try.func11, Try.ntmps11
    go_wp2_with (first | (go_at_call 32; (try first | (with_reducible refine gen_boxK3 (fun u _ _ _ _ => ?_)) | (with_reducible refine gen_boxK2 (fun u _ _ _ => ?_)) | (with_reducible refine gen_boxK (fun u _ _ => ?_))); (with_reducible refine (a24_small (by omega) HB).mono ?_); rintro e u ⟨rfl, _⟩) | (go_at_call 41; (try first | (with_reducible refine gen_boxK3 (fun u _ _ _ _ => ?_)) | (with_reducible refine gen_boxK2 (fun u _ _ _ => ?_)) | (with_reducible refine gen_boxK (fun u _ _ => ?_))); (with_reducible refine (op_begin_no (by omega) hz hv).mono ?_); rintro e u ⟨rfl, _⟩))
    obtain ⟨va, hva⟩ : ∃ va : World, va = u.alloc (.cells #[.slice none 0 0, .slice none 0 0] 70) := ⟨_, rfl⟩
    have pva : Prev va u := by rw [hva]; infer_instance
    obtain ⟨T0, hT0⟩ : ∃ T, u.heap.size = T := ⟨_, rfl⟩
    have kva : Bx va T0 70 #[.slice none 0 0, .slice none 0 0] := by rw [hva, ← hT0]; infer_instance
    rw [← hva]
    try rw [hT0]
    clear hva hT0
    go_loopw [5, 6, 26] (fun g s i wr => ∃ (k : Nat) (S : Int) (G : Bool), k ≤ n ∧ i = .int .i64 k ∧ g = .bool G ∧ s = .int .i64 S ∧ Hid (fsum (((ts.take k).flatMap Tn.xs).map fabs) = S) ∧ Hid (validB (ts.take k) = G) ∧ Prev wr va) (fun _ _ i _ => n - (intOf i).toNat)
    case atStart => exact ⟨0, 0, true, Nat.zero_le _, rfl, rfl, rfl, Lib.hid rfl, Lib.hid rfl, prev_bel _ _⟩
    case round =>
      obtain ⟨k, S, G, hk, rfl, rfl, rfl, HS, HG, hp⟩ := hrel
      by_cases hlt : k < n
      · obtain ⟨b, o, A1, c1, z1, B1, d1, x1, rfl, ob, q0, q1, s1, t1, hd1, i1, ht⟩ := a.get hlt
        obtain ⟨l1, l2⟩ := hz.out _ (List.mem_of_getElem? ht.out)
        simp only at l1 l2
        have HN := Lib.hid (normI_next ht.out)
        have HT0 : Hid (fsum (((ts.take k).flatMap Tn.xs ++ x1.take 0).map fabs) = S) := Lib.hid (by simpa using HS.out)
        rcases G with _ | _
        · have HG2 : Hid (validB (ts.take (k + 1)) = false) := Lib.hid (by
            have h1 := HG.out
            rw [validB, List.all_eq_false] at h1 ⊢
            obtain ⟨x, hx, hf⟩ := h1
            exact ⟨x, List.take_subset_take_left _ (Nat.le_succ k) hx, hf⟩)
          go_wp2_with fail
          go_loopw [6, 38] (fun s i wr' => ∃ (j : Nat) (T : Int), j ≤ x1.length ∧ i = .int .i64 j ∧ s = .int .i64 T ∧ Hid (fsum (((ts.take k).flatMap Tn.xs ++ x1.take j).map fabs) = T) ∧ Prev wr' wr) (fun _ i _ => x1.length - (intOf i).toNat)
          case atStart => exact ⟨0, S, Nat.zero_le _, rfl, rfl, HT0, prev_bel _ _⟩
          case round =>
            obtain ⟨j, T, hj, rfl, rfl, HT, hp'⟩ := hrel
            have iT : I6 T := ⟨by rw [← HT.out]; exact fsum_bd _⟩
            by_cases hlt2 : j < x1.length
            · obtain ⟨b2, o2, z, rfl, ob2, cz, hz2⟩ := t1.get hlt2
              have iz : I6 z := i1.at hz2.out
              have HS' : Hid (fsum (((ts.take k).flatMap Tn.xs ++ x1.take (j + 1)).map fabs) = fadd T (fabs z)) := Lib.hid (by rw [← HT.out]; exact (normI_zero hz2.out).symm)
              go_wp2_with (first | (go_at_call 44; (try first | (with_reducible refine gen_boxK3 (fun u _ _ _ _ => ?_)) | (with_reducible refine gen_boxK2 (fun u _ _ _ => ?_)) | (with_reducible refine gen_boxK (fun u _ _ => ?_))); (with_reducible refine (aF_abs).mono ?_); rintro e u ⟨rfl, _⟩) | (go_at_call 43; (try first | (with_reducible refine gen_boxK3 (fun u _ _ _ _ => ?_)) | (with_reducible refine gen_boxK2 (fun u _ _ _ => ?_)) | (with_reducible refine gen_boxK (fun u _ _ => ?_))); (with_reducible refine (a1_add).mono ?_); rintro e u ⟨rfl, _⟩))
              go_roundw
              case rel => exact ⟨j + 1, _, by omega, by go_num, rfl, HS', prev_bel _ _⟩
              case measure => simp [intOf]; omega
            · have HJ : Hid (fsum (((ts.take (k + 1)).flatMap Tn.xs).map fabs) = T) := Lib.hid (by rw [← HT.out, ← HN.out, show j = x1.length from by omega])
              go_wp2_with fail
              go_roundw
              case rel => exact ⟨k + 1, T, false, by omega, by go_num, rfl, rfl, HJ, HG2, prev_bel _ _⟩
              case measure => simp [intOf]; omega
        · rcases hr : tRightB z1 x1 with _ | _
          · have HG2 : Hid (validB (ts.take (k + 1)) = false) := Lib.hid (by rw [validB, all_step ht.out HG.out]; exact hr)
            go_wp2_with (first | (go_at_call 42; (try first | (with_reducible refine gen_boxK3 (fun u _ _ _ _ => ?_)) | (with_reducible refine gen_boxK2 (fun u _ _ _ => ?_)) | (with_reducible refine gen_boxK (fun u _ _ => ?_))); (with_reducible refine (a24_right (by omega)).mono ?_); rintro e u ⟨rfl, _⟩))
            go_loopw [6, 38] (fun s i wr' => ∃ (j : Nat) (T : Int), j ≤ x1.length ∧ i = .int .i64 j ∧ s = .int .i64 T ∧ Hid (fsum (((ts.take k).flatMap Tn.xs ++ x1.take j).map fabs) = T) ∧ Prev wr' wr) (fun _ i _ => x1.length - (intOf i).toNat)
            case atStart => exact ⟨0, S, Nat.zero_le _, rfl, rfl, HT0, prev_bel _ _⟩
            case round =>
              obtain ⟨j, T, hj, rfl, rfl, HT, hp'⟩ := hrel
              have iT : I6 T := ⟨by rw [← HT.out]; exact fsum_bd _⟩
              by_cases hlt2 : j < x1.length
              · obtain ⟨b2, o2, z, rfl, ob2, cz, hz2⟩ := t1.get hlt2
                have iz : I6 z := i1.at hz2.out
                have HS' : Hid (fsum (((ts.take k).flatMap Tn.xs ++ x1.take (j + 1)).map fabs) = fadd T (fabs z)) := Lib.hid (by rw [← HT.out]; exact (normI_zero hz2.out).symm)
                go_wp2_with (first | (go_at_call 44; (try first | (with_reducible refine gen_boxK3 (fun u _ _ _ _ => ?_)) | (with_reducible refine gen_boxK2 (fun u _ _ _ => ?_)) | (with_reducible refine gen_boxK (fun u _ _ => ?_))); (with_reducible refine (aF_abs).mono ?_); rintro e u ⟨rfl, _⟩) | (go_at_call 43; (try first | (with_reducible refine gen_boxK3 (fun u _ _ _ _ => ?_)) | (with_reducible refine gen_boxK2 (fun u _ _ _ => ?_)) | (with_reducible refine gen_boxK (fun u _ _ => ?_))); (with_reducible refine (a1_add).mono ?_); rintro e u ⟨rfl, _⟩))
                go_roundw
                case rel => exact ⟨j + 1, _, by omega, by go_num, rfl, HS', prev_bel _ _⟩
                case measure => simp [intOf]; omega
              · have HJ : Hid (fsum (((ts.take (k + 1)).flatMap Tn.xs).map fabs) = T) := Lib.hid (by rw [← HT.out, ← HN.out, show j = x1.length from by omega])
                go_wp2_with fail
                go_roundw
                case rel => exact ⟨k + 1, T, false, by omega, by go_num, rfl, rfl, HJ, HG2, prev_bel _ _⟩
                case measure => simp [intOf]; omega
          · have HG2 : Hid (validB (ts.take (k + 1)) = true) := Lib.hid (by rw [validB, all_step ht.out HG.out]; exact hr)
            go_wp2_with (first | (go_at_call 42; (try first | (with_reducible refine gen_boxK3 (fun u _ _ _ _ => ?_)) | (with_reducible refine gen_boxK2 (fun u _ _ _ => ?_)) | (with_reducible refine gen_boxK (fun u _ _ => ?_))); (with_reducible refine (a24_right (by omega)).mono ?_); rintro e u ⟨rfl, _⟩))
            go_loopw [6, 38] (fun s i wr' => ∃ (j : Nat) (T : Int), j ≤ x1.length ∧ i = .int .i64 j ∧ s = .int .i64 T ∧ Hid (fsum (((ts.take k).flatMap Tn.xs ++ x1.take j).map fabs) = T) ∧ Prev wr' wr) (fun _ i _ => x1.length - (intOf i).toNat)
            case atStart => exact ⟨0, S, Nat.zero_le _, rfl, rfl, HT0, prev_bel _ _⟩
            case round =>
              obtain ⟨j, T, hj, rfl, rfl, HT, hp'⟩ := hrel
              have iT : I6 T := ⟨by rw [← HT.out]; exact fsum_bd _⟩
              by_cases hlt2 : j < x1.length
              · obtain ⟨b2, o2, z, rfl, ob2, cz, hz2⟩ := t1.get hlt2
                have iz : I6 z := i1.at hz2.out
                have HS' : Hid (fsum (((ts.take k).flatMap Tn.xs ++ x1.take (j + 1)).map fabs) = fadd T (fabs z)) := Lib.hid (by rw [← HT.out]; exact (normI_zero hz2.out).symm)
                go_wp2_with (first | (go_at_call 44; (try first | (with_reducible refine gen_boxK3 (fun u _ _ _ _ => ?_)) | (with_reducible refine gen_boxK2 (fun u _ _ _ => ?_)) | (with_reducible refine gen_boxK (fun u _ _ => ?_))); (with_reducible refine (aF_abs).mono ?_); rintro e u ⟨rfl, _⟩) | (go_at_call 43; (try first | (with_reducible refine gen_boxK3 (fun u _ _ _ _ => ?_)) | (with_reducible refine gen_boxK2 (fun u _ _ _ => ?_)) | (with_reducible refine gen_boxK (fun u _ _ => ?_))); (with_reducible refine (a1_add).mono ?_); rintro e u ⟨rfl, _⟩))
                go_roundw
                case rel => exact ⟨j + 1, _, by omega, by go_num, rfl, HS', prev_bel _ _⟩
                case measure => simp [intOf]; omega
              · have HJ : Hid (fsum (((ts.take (k + 1)).flatMap Tn.xs).map fabs) = T) := Lib.hid (by rw [← HT.out, ← HN.out, show j = x1.length from by omega])
                go_wp2_with fail
                go_roundw
                case rel => exact ⟨k + 1, T, true, by omega, by go_num, rfl, rfl, HJ, HG2, prev_bel _ _⟩
                case measure => simp [intOf]; omega
      · have HNS : Hid (normI ts = S) := Lib.hid (by rw [← HS.out, List.take_of_length_le (by rw [HN.out]; omega)]; rfl)
        obtain rfl : G = false := by rw [← HG.out, List.take_of_length_le (by rw [HN.out]; omega)]; exact hv
        go_wp2_with (first | (go_at_call 45; (try first | (with_reducible refine gen_boxK3 (fun u _ _ _ _ => ?_)) | (with_reducible refine gen_boxK2 (fun u _ _ _ => ?_)) | (with_reducible refine gen_boxK (fun u _ _ => ?_))); (with_reducible refine (op_normS (by omega) hz HNS).mono ?_); rintro e u ⟨rfl, _⟩) | (go_at_call 30; (try first | (with_reducible refine gen_boxK3 (fun u _ _ _ _ => ?_)) | (with_reducible refine gen_boxK2 (fun u _ _ _ => ?_)) | (with_reducible refine gen_boxK (fun u _ _ => ?_))); (with_reducible refine (a24_awake).mono ?_); rintro e u ⟨rfl, _⟩))
        go_ret
        exact ⟨rfl, bel w _⟩
  · have HV := Lib.hid hv
    go_enter Try.func11, Try.ntmps11
    go_wp2_with (first | (go_at_call 32; (try first | (with_reducible refine gen_boxK3 (fun u _ _ _ _ => ?_)) | (with_reducible refine gen_boxK2 (fun u _ _ _ => ?_)) | (with_reducible refine gen_boxK (fun u _ _ => ?_))); (with_reducible refine (a24_small (by omega) HB).mono ?_); rintro e u ⟨rfl, _⟩) | (go_at_call 41; (try first | (with_reducible refine gen_boxK3 (fun u _ _ _ _ => ?_)) | (with_reducible refine gen_boxK2 (fun u _ _ _ => ?_)) | (with_reducible refine gen_boxK (fun u _ _ => ?_))); (with_reducible refine (op_begin_yes (by omega) hz hv).mono ?_); rintro e u ⟨G1, ps, G2, qs, rfl, CC, H1, H2, _⟩))
    obtain ⟨va, hva⟩ : ∃ va : World, va = u.alloc (.cells #[.slice (some ⟨G1, 0, none⟩) n n, .slice (some ⟨G2, 0, none⟩) n n] 70) := ⟨_, rfl⟩
    have pva : Prev va u := by rw [hva]; infer_instance
    obtain ⟨T0, hT0⟩ : ∃ T, u.heap.size = T := ⟨_, rfl⟩
    have kva : Bx va T0 70 #[.slice (some ⟨G1, 0, none⟩) n n, .slice (some ⟨G2, 0, none⟩) n n] := by rw [hva, ← hT0]; infer_instance
    rw [← hva]
    try rw [hT0]
    clear hva hT0
    have lp : ps.length = n := H1.out.len.trans HN.out
    have lq : qs.length = n := H2.out.len.trans HN.out
    have bp := H1.out.bd HBD.out (fun j t ht z hz => HBD.out t (List.mem_of_getElem? ht) z hz)
    have bq := H2.out.bd HBD.out (fun j t _ z hz => by rw [(List.mem_replicate.1 hz).2]; exact ⟨by decide, by decide⟩)
    obtain ⟨Pt, hPt⟩ : ∃ Pt, ps.map Cp.tn = Pt := ⟨_, rfl⟩
    obtain ⟨Qt, hQt⟩ : ∃ Qt, qs.map Cp.tn = Qt := ⟨_, rfl⟩
    have tP : Ts u (some ⟨G1, 0, none⟩) n Pt := by rw [← hPt]; exact CC.l.tens lp bp
    have tQ : Ts u (some ⟨G2, 0, none⟩) n Qt := by rw [← hQt]; exact CC.r.tens lq bq
    have sP : Sim ts Pt := by rw [← hPt]; exact H1.out.sim (fun j t _ => rfl)
    have sQ : Sim ts Qt := by rw [← hQt]; exact H2.out.sim (fun j t _ => by simp [noughts])
    have zP := Lib.hid (sP.mo hz.out)
    have zQ := Lib.hid (sQ.mo hz.out)
    have aPQ : alikeTB Pt Qt = true := (sP.symm.trans sQ).alike (sP.valid HV.out)
    have aPT : alikeTB Pt ts = true := sP.symm.alike (sP.valid HV.out)
    have nQ : Hid (normI Qt = 0) := Lib.hid (by rw [← hQt]; exact normI_noughts H2.out (by rw [HN.out]; exact Nat.le_refl _))
    have HPT : Hid (∀ (j : Nat) (t p : Tn), ts[j]? = some t → Pt[j]? = some p → p.zs = t.zs ∧ p.xs = t.xs) := Lib.hid (fun j t p ht hp => by
      rw [← hPt, List.getElem?_map] at hp
      obtain ⟨q, hq, rfl⟩ := Option.map_eq_some_iff.1 hp
      obtain ⟨a1, a2⟩ := H1.out.at_ j q t hq ht
      exact ⟨a1, by show q.xs = t.xs; rw [a2]; split <;> rfl⟩)
    clear sP sQ bp bq lp lq hPt hQt CC H1 H2
    go_loopw [5, 6, 26] (fun g s i wr => ∃ (k : Nat) (S : Int) (G : Bool), k ≤ n ∧ i = .int .i64 k ∧ g = .bool G ∧ s = .int .i64 S ∧ Hid (fsum (((ts.take k).flatMap Tn.xs).map fabs) = S) ∧ Hid (validB (ts.take k) = G) ∧ Prev wr va) (fun _ _ i _ => n - (intOf i).toNat)
    case atStart => exact ⟨0, 0, true, Nat.zero_le _, rfl, rfl, rfl, Lib.hid rfl, Lib.hid rfl, prev_bel _ _⟩
    case round =>
      obtain ⟨k, S, G, hk, rfl, rfl, rfl, HS, HG, hp⟩ := hrel
      by_cases hlt : k < n
      · obtain ⟨b, o, A1, c1, z1, B1, d1, x1, rfl, ob, q0, q1, s1, t1, hd1, i1, ht⟩ := a.get hlt
        obtain ⟨l1, l2⟩ := hz.out _ (List.mem_of_getElem? ht.out)
        simp only at l1 l2
        have HN := Lib.hid (normI_next ht.out)
        have HT0 : Hid (fsum (((ts.take k).flatMap Tn.xs ++ x1.take 0).map fabs) = S) := Lib.hid (by simpa using HS.out)
        rcases G with _ | _
        · have HG2 : Hid (validB (ts.take (k + 1)) = false) := Lib.hid (by
            have h1 := HG.out
            rw [validB, List.all_eq_false] at h1 ⊢
            obtain ⟨x, hx, hf⟩ := h1
            exact ⟨x, List.take_subset_take_left _ (Nat.le_succ k) hx, hf⟩)
          go_wp2_with fail
          go_loopw [6, 38] (fun s i wr' => ∃ (j : Nat) (T : Int), j ≤ x1.length ∧ i = .int .i64 j ∧ s = .int .i64 T ∧ Hid (fsum (((ts.take k).flatMap Tn.xs ++ x1.take j).map fabs) = T) ∧ Prev wr' wr) (fun _ i _ => x1.length - (intOf i).toNat)
          case atStart => exact ⟨0, S, Nat.zero_le _, rfl, rfl, HT0, prev_bel _ _⟩
          case round =>
            obtain ⟨j, T, hj, rfl, rfl, HT, hp'⟩ := hrel
            have iT : I6 T := ⟨by rw [← HT.out]; exact fsum_bd _⟩
            by_cases hlt2 : j < x1.length
            · obtain ⟨b2, o2, z, rfl, ob2, cz, hz2⟩ := t1.get hlt2
              have iz : I6 z := i1.at hz2.out
              have HS' : Hid (fsum (((ts.take k).flatMap Tn.xs ++ x1.take (j + 1)).map fabs) = fadd T (fabs z)) := Lib.hid (by rw [← HT.out]; exact (normI_zero hz2.out).symm)
              go_wp2_with (first | (go_at_call 44; (try first | (with_reducible refine gen_boxK3 (fun u _ _ _ _ => ?_)) | (with_reducible refine gen_boxK2 (fun u _ _ _ => ?_)) | (with_reducible refine gen_boxK (fun u _ _ => ?_))); (with_reducible refine (aF_abs).mono ?_); rintro e u ⟨rfl, _⟩) | (go_at_call 43; (try first | (with_reducible refine gen_boxK3 (fun u _ _ _ _ => ?_)) | (with_reducible refine gen_boxK2 (fun u _ _ _ => ?_)) | (with_reducible refine gen_boxK (fun u _ _ => ?_))); (with_reducible refine (a1_add).mono ?_); rintro e u ⟨rfl, _⟩))
              go_roundw
              case rel => exact ⟨j + 1, _, by omega, by go_num, rfl, HS', prev_bel _ _⟩
              case measure => simp [intOf]; omega
            · have HJ : Hid (fsum (((ts.take (k + 1)).flatMap Tn.xs).map fabs) = T) := Lib.hid (by rw [← HT.out, ← HN.out, show j = x1.length from by omega])
              go_wp2_with fail
              go_roundw
              case rel => exact ⟨k + 1, T, false, by omega, by go_num, rfl, rfl, HJ, HG2, prev_bel _ _⟩
              case measure => simp [intOf]; omega
        · rcases hr : tRightB z1 x1 with _ | _
          · have HG2 : Hid (validB (ts.take (k + 1)) = false) := Lib.hid (by rw [validB, all_step ht.out HG.out]; exact hr)
            go_wp2_with (first | (go_at_call 42; (try first | (with_reducible refine gen_boxK3 (fun u _ _ _ _ => ?_)) | (with_reducible refine gen_boxK2 (fun u _ _ _ => ?_)) | (with_reducible refine gen_boxK (fun u _ _ => ?_))); (with_reducible refine (a24_right (by omega)).mono ?_); rintro e u ⟨rfl, _⟩))
            go_loopw [6, 38] (fun s i wr' => ∃ (j : Nat) (T : Int), j ≤ x1.length ∧ i = .int .i64 j ∧ s = .int .i64 T ∧ Hid (fsum (((ts.take k).flatMap Tn.xs ++ x1.take j).map fabs) = T) ∧ Prev wr' wr) (fun _ i _ => x1.length - (intOf i).toNat)
            case atStart => exact ⟨0, S, Nat.zero_le _, rfl, rfl, HT0, prev_bel _ _⟩
            case round =>
              obtain ⟨j, T, hj, rfl, rfl, HT, hp'⟩ := hrel
              have iT : I6 T := ⟨by rw [← HT.out]; exact fsum_bd _⟩
              by_cases hlt2 : j < x1.length
              · obtain ⟨b2, o2, z, rfl, ob2, cz, hz2⟩ := t1.get hlt2
                have iz : I6 z := i1.at hz2.out
                have HS' : Hid (fsum (((ts.take k).flatMap Tn.xs ++ x1.take (j + 1)).map fabs) = fadd T (fabs z)) := Lib.hid (by rw [← HT.out]; exact (normI_zero hz2.out).symm)
                go_wp2_with (first | (go_at_call 44; (try first | (with_reducible refine gen_boxK3 (fun u _ _ _ _ => ?_)) | (with_reducible refine gen_boxK2 (fun u _ _ _ => ?_)) | (with_reducible refine gen_boxK (fun u _ _ => ?_))); (with_reducible refine (aF_abs).mono ?_); rintro e u ⟨rfl, _⟩) | (go_at_call 43; (try first | (with_reducible refine gen_boxK3 (fun u _ _ _ _ => ?_)) | (with_reducible refine gen_boxK2 (fun u _ _ _ => ?_)) | (with_reducible refine gen_boxK (fun u _ _ => ?_))); (with_reducible refine (a1_add).mono ?_); rintro e u ⟨rfl, _⟩))
                go_roundw
                case rel => exact ⟨j + 1, _, by omega, by go_num, rfl, HS', prev_bel _ _⟩
                case measure => simp [intOf]; omega
              · have HJ : Hid (fsum (((ts.take (k + 1)).flatMap Tn.xs).map fabs) = T) := Lib.hid (by rw [← HT.out, ← HN.out, show j = x1.length from by omega])
                go_wp2_with fail
                go_roundw
                case rel => exact ⟨k + 1, T, false, by omega, by go_num, rfl, rfl, HJ, HG2, prev_bel _ _⟩
                case measure => simp [intOf]; omega
          · have HG2 : Hid (validB (ts.take (k + 1)) = true) := Lib.hid (by rw [validB, all_step ht.out HG.out]; exact hr)
            go_wp2_with (first | (go_at_call 42; (try first | (with_reducible refine gen_boxK3 (fun u _ _ _ _ => ?_)) | (with_reducible refine gen_boxK2 (fun u _ _ _ => ?_)) | (with_reducible refine gen_boxK (fun u _ _ => ?_))); (with_reducible refine (a24_right (by omega)).mono ?_); rintro e u ⟨rfl, _⟩))
            go_loopw [6, 38] (fun s i wr' => ∃ (j : Nat) (T : Int), j ≤ x1.length ∧ i = .int .i64 j ∧ s = .int .i64 T ∧ Hid (fsum (((ts.take k).flatMap Tn.xs ++ x1.take j).map fabs) = T) ∧ Prev wr' wr) (fun _ i _ => x1.length - (intOf i).toNat)
            case atStart => exact ⟨0, S, Nat.zero_le _, rfl, rfl, HT0, prev_bel _ _⟩
            case round =>
              obtain ⟨j, T, hj, rfl, rfl, HT, hp'⟩ := hrel
              have iT : I6 T := ⟨by rw [← HT.out]; exact fsum_bd _⟩
              by_cases hlt2 : j < x1.length
              · obtain ⟨b2, o2, z, rfl, ob2, cz, hz2⟩ := t1.get hlt2
                have iz : I6 z := i1.at hz2.out
                have HS' : Hid (fsum (((ts.take k).flatMap Tn.xs ++ x1.take (j + 1)).map fabs) = fadd T (fabs z)) := Lib.hid (by rw [← HT.out]; exact (normI_zero hz2.out).symm)
                go_wp2_with (first | (go_at_call 44; (try first | (with_reducible refine gen_boxK3 (fun u _ _ _ _ => ?_)) | (with_reducible refine gen_boxK2 (fun u _ _ _ => ?_)) | (with_reducible refine gen_boxK (fun u _ _ => ?_))); (with_reducible refine (aF_abs).mono ?_); rintro e u ⟨rfl, _⟩) | (go_at_call 43; (try first | (with_reducible refine gen_boxK3 (fun u _ _ _ _ => ?_)) | (with_reducible refine gen_boxK2 (fun u _ _ _ => ?_)) | (with_reducible refine gen_boxK (fun u _ _ => ?_))); (with_reducible refine (a1_add).mono ?_); rintro e u ⟨rfl, _⟩))
                go_roundw
                case rel => exact ⟨j + 1, _, by omega, by go_num, rfl, HS', prev_bel _ _⟩
                case measure => simp [intOf]; omega
              · have HJ : Hid (fsum (((ts.take (k + 1)).flatMap Tn.xs).map fabs) = T) := Lib.hid (by rw [← HT.out, ← HN.out, show j = x1.length from by omega])
                go_wp2_with fail
                go_roundw
                case rel => exact ⟨k + 1, T, true, by omega, by go_num, rfl, rfl, HJ, HG2, prev_bel _ _⟩
                case measure => simp [intOf]; omega
      · have HNS : Hid (normI ts = S) := Lib.hid (by rw [← HS.out, List.take_of_length_le (by rw [HN.out]; omega)]; rfl)
        obtain rfl : G = true := by rw [← HG.out, List.take_of_length_le (by rw [HN.out]; omega)]; exact hv
        clear HS HG
        go_upto_region 20 with (first | (go_at_call 45; (try first | (with_reducible refine gen_boxK3 (fun u _ _ _ _ => ?_)) | (with_reducible refine gen_boxK2 (fun u _ _ _ => ?_)) | (with_reducible refine gen_boxK (fun u _ _ => ?_))); (with_reducible refine (op_normS (by omega) hz HNS).mono ?_); rintro e u ⟨rfl, _⟩))
        obtain ⟨vn, rfl⟩ : ∃ v : World, v = u := ⟨_, rfl⟩
        go_upto_region 21 with (first | (go_at_call 36; (try first | (with_reducible refine gen_boxK3 (fun u _ _ _ _ => ?_)) | (with_reducible refine gen_boxK2 (fun u _ _ _ => ?_)) | (with_reducible refine gen_boxK (fun u _ _ => ?_))); (with_reducible refine (op_scopy (by omega) (by omega) zP zQ).mono ?_); rintro e u ⟨G3, cs, G4, ds, rfl, CC2, H3, H4, _⟩))
        obtain ⟨vb, hvb⟩ : ∃ va : World, va = u.alloc (.cells #[.slice (some ⟨G3, 0, none⟩) n n, .slice (some ⟨G4, 0, none⟩) n n] 70) := ⟨_, rfl⟩
        have pvb : Prev vb u := by rw [hvb]; infer_instance
        obtain ⟨T1, hT1⟩ : ∃ T, u.heap.size = T := ⟨_, rfl⟩
        have kvb : Bx vb T1 70 #[.slice (some ⟨G3, 0, none⟩) n n, .slice (some ⟨G4, 0, none⟩) n n] := by rw [hvb, ← hT1]; infer_instance
        rw [← hvb]
        try rw [hT1]
        clear hvb hT1
        have lc : cs.length = n := H3.out.len.trans tP.len.symm
        have ld : ds.length = n := H4.out.len.trans tQ.len.symm
        have BP : ∀ t ∈ Pt, ∀ z ∈ t.xs, I64 z := tP.rd.bd
        have BQ : ∀ t ∈ Qt, ∀ z ∈ t.xs, I64 z := tQ.rd.bd
        have bc := H3.out.bd BP
        have bd := H4.out.bd BQ
        obtain ⟨Ct, hCt⟩ : ∃ Ct, cs.map Cp.tn = Ct := ⟨_, rfl⟩
        obtain ⟨Dt, hDt⟩ : ∃ Dt, ds.map Cp.tn = Dt := ⟨_, rfl⟩
        have tC : Ts u (some ⟨G3, 0, none⟩) n Ct := by rw [← hCt]; exact CC2.l.tens lc bc
        have tD : Ts u (some ⟨G4, 0, none⟩) n Dt := by rw [← hDt]; exact CC2.r.tens ld bd
        have sc : sameB Ct Pt = true := by rw [← hCt]; exact H3.out.same
        have sd : sameB Dt Qt = true := by rw [← hDt]; exact H4.out.same
        have zC := Lib.hid (show Mo Ct by rw [← hCt]; exact H3.out.sim.mo zP.out)
        have zD := Lib.hid (show Mo Dt by rw [← hDt]; exact H4.out.sim.mo zQ.out)
        have UC : Hid (Upd rowI 0 Pt cs) := Lib.hid H3.out.upd
        have CC3 : CB2 vb vn.heap.size G3 n cs G4 n ds := CC2.at
        have HBP := Lib.hid BP
        have HBd := Lib.hid bd
        have HLD := Lib.hid ld
        have HDt := Lib.hid hDt
        have HLP := Lib.hid tP.len
        have HDQ : Hid (∀ (j : Nat) (u z : Tn), (ds.map Cp.tn)[j]? = some u → Qt[j]? = some z → u.zs = z.zs ∧ u.xs = z.xs) := Lib.hid (fun j u z hu hz => by
          rw [List.getElem?_map] at hu
          obtain ⟨q, hq, rfl⟩ := Option.map_eq_some_iff.1 hu
          exact H4.out.at hq hz)
        clear lc ld BP BQ bc bd hCt hDt H3 H4 CC2
        go_wp2_with (first | (go_at_call 39; (try first | (with_reducible refine gen_boxK3 (fun u _ _ _ _ => ?_)) | (with_reducible refine gen_boxK2 (fun u _ _ _ => ?_)) | (with_reducible refine gen_boxK (fun u _ _ => ?_))); (with_reducible refine (op_sright (by omega) (by omega) zP zQ).mono ?_); rintro e u ⟨rfl, _⟩) | (go_at_call 34; (try first | (with_reducible refine gen_boxK3 (fun u _ _ _ _ => ?_)) | (with_reducible refine gen_boxK2 (fun u _ _ _ => ?_)) | (with_reducible refine gen_boxK (fun u _ _ => ?_))); (with_reducible refine (a24_alike (by omega) (by omega) zP hz).mono ?_); rintro e u ⟨rfl, _⟩) | (go_at_call 45; (try first | (with_reducible refine gen_boxK3 (fun u _ _ _ _ => ?_)) | (with_reducible refine gen_boxK2 (fun u _ _ _ => ?_)) | (with_reducible refine gen_boxK (fun u _ _ => ?_))); (with_reducible refine (op_normS (by omega) zQ nQ).mono ?_); rintro e u ⟨rfl, _⟩) | (go_at_call 38; (try first | (with_reducible refine gen_boxK3 (fun u _ _ _ _ => ?_)) | (with_reducible refine gen_boxK2 (fun u _ _ _ => ?_)) | (with_reducible refine gen_boxK (fun u _ _ => ?_))); (with_reducible refine (op_sequal (by omega) (by omega) (by omega) (by omega) zC zD zP zQ).mono ?_); rintro e u ⟨rfl, _⟩))
        have CC4 : CB2 u vn.heap.size G3 n cs G4 n ds := CC3.at
        have kub : Bx u T1 70 #[.slice (some ⟨G3, 0, none⟩) n n, .slice (some ⟨G4, 0, none⟩) n n] := inferInstance
        clear CC3 tC tD sc zC zD aPQ aPT nQ
        go_loopw [102] (fun i wr => ∃ (k : Nat) (cs' : List Cp), k ≤ n ∧ i = .int .i64 k ∧ CB2 wr vn.heap.size G3 n cs' G4 n ds ∧ Hid (Upd rowI k Pt cs') ∧ Bx wr T1 70 #[.slice (some ⟨G3, 0, none⟩) n n, .slice (some ⟨G4, 0, none⟩) n n] ∧ Prev wr vn) (fun i _ => n - (intOf i).toNat)
        case atStart => exact ⟨0, cs, Nat.zero_le _, rfl, CC4, UC, kub, prev_bel _ _⟩
        case round =>
          clear CC4 UC kub
          obtain ⟨k, cs', hk, rfl, CC, UC, kB, hpn⟩ := hrel
          have hcl : cs'.length = n := UC.out.len.trans HLP.out.symm
          by_cases hlt : k < n
          · obtain ⟨b1, o1, A1, c1, z1, B1, d1, x1, rfl, ob1, q0, q1, s1, y1, -, -, h1⟩ := a.get hlt
            obtain ⟨b2, o2, A2, c2, z2, B2, d2, x2, e2, ob2, q2, q3, s2, y2, -, -, h2⟩ := tP.get hlt
            injection e2 with e2
            injection e2 with e2 e2'
            subst e2 e2'
            obtain ⟨l1, l2⟩ := hz.out _ (List.mem_of_getElem? h1.out)
            simp only at l1 l2
            obtain ⟨ez, ex⟩ := HPT.out k _ _ h1.out h2.out
            simp only at ez ex
            subst ez ex
            obtain ⟨q, hq, hqz, hqx⟩ := UC.out.get h2.out
            rw [if_neg (Nat.lt_irrefl k)] at hqx
            have hb1 : ∀ z ∈ x2, I64 z := HBP.out _ (List.mem_of_getElem? h2.out)
            obtain ⟨qg, qz, qg', qx⟩ := q
            simp only at hqz hqx
            subst hqz hqx
            simp only [Nat.zero_add] at q2 q3
            obtain ⟨M, hM⟩ : ∃ M, qx.length = M := ⟨_, rfl⟩
            have hM6 : M ≤ 1000000 := by rw [← hM]; exact l2
            have HM := Lib.hid hM
            have HQ := Lib.hid hq
            have H2 := Lib.hid h2.out
            have HCL := Lib.hid hcl
            obtain ⟨fI, hfI⟩ : ∃ fI : Nat → Int, (fun i => raise (qx.getD i 0)) = fI := ⟨_, rfl⟩
            obtain ⟨PJ, hPJ⟩ : ∃ PJ : Nat → List Cp, ∀ j, PJ j = cs'.set k ⟨qg, qz, qg', mix fI qx j⟩ := ⟨fun j => _, fun j => rfl⟩
            have HP0 : Hid (PJ 0 = cs') := Lib.hid (by rw [hPJ, mix_zero]; exact setl_same HQ.out)
            have UCN : Hid (Upd rowI (k + 1) Pt (PJ M)) := Lib.hid (by
              rw [hPJ]
              exact UC.out.step HQ.out H2.out (by rw [rowI, hfI, HM.out]))
            have HPS : Hid (∀ j v, v = fI j → (PJ j).set k ⟨qg, qz, qg', (mix fI qx j).set j v⟩ = PJ (j + 1)) := Lib.hid (fun j v e => by rw [hPJ, hPJ, List.set_set, e, mix_set])
            have HPK : Hid (∀ j, (PJ j)[k]? = some ⟨qg, qz, qg', mix fI qx j⟩) := Lib.hid (fun j => by rw [hPJ, List.getElem?_set_self (List.getElem?_eq_some_iff.1 HQ.out).1])
            have HPL : Hid (∀ j, (PJ j).length = n) := Lib.hid (fun j => by rw [hPJ, List.length_set, HCL.out])
            have HFI : Hid (∀ j x, qx[j]? = some x → raise x = fI j) := Lib.hid (fun j x hx => by rw [← hfI]; simp only [List.getD_eq_getElem?_getD, hx]; rfl)
            have CC5 : ∀ u', Later wr u' → CB2 u' vn.heap.size G3 n (PJ 0) G4 n ds := fun u' pu => by rw [HP0.out]; exact CC.at
            obtain ⟨e0, e1⟩ := (CC.l.len hcl).get hq
            simp only [hM] at e1
            have oG3 : Old G3 wr := ⟨CC.l.blk.lt⟩
            obtain ⟨PZ, hPZ⟩ : ∃ N, qz.length = N := ⟨_, rfl⟩
            simp only [hPZ] at e0
            clear hfI hPJ HP0 UC hq hM hcl h1 h2 hPZ
            go_wp2_with fail
            refine wp_region_up0 (by kernel_rfl) (fun ux _ => ?_)
            refine wpAnyH_on (i := 0) (d := 105) (v := ?_) rfl rfl (by kernel_rfl) (by kernel_rfl) (by kernel_rfl) (fun _ _ _ h => h) (by kernel_rfl) (prev_bel _ _) ?_ ?_
            rotate_left
            · intro uu (pu : Prev uu _)
              go_simp
              try (with_reducible rfl)
            try simp only [List.set]
            refine wpAnyH_on (i := 1) (d := 106) (v := ?_) rfl rfl (by kernel_rfl) (by kernel_rfl) (by kernel_rfl) (fun _ _ _ h => h) (by kernel_rfl) (prev_bel _ _) ?_ ?_
            rotate_left
            · intro uu (pu : Prev uu _)
              go_simp
              try (with_reducible rfl)
            try simp only [List.set]
            refine wpAnyH_on (i := 2) (d := 107) (v := ?_) rfl rfl (by kernel_rfl) (by kernel_rfl) (by kernel_rfl) (fun _ _ _ h => h) (by kernel_rfl) (prev_bel _ _) ?_ ?_
            rotate_left
            · intro uu (pu : Prev uu _)
              go_simp
              try (with_reducible rfl)
            try simp only [List.set]
            refine wpAnyH_on (i := 3) (d := 108) (v := ?_) rfl rfl (by kernel_rfl) (by kernel_rfl) (by kernel_rfl) (fun _ _ _ h => h) (by kernel_rfl) (prev_bel _ _) ?_ ?_
            rotate_left
            · intro uu (pu : Prev uu _)
              go_simp
              try (with_reducible rfl)
            try simp only [List.set]
            refine wpAnyH_on (i := 4) (d := 109) (v := ?_) rfl rfl (by kernel_rfl) (by kernel_rfl) (by kernel_rfl) (fun _ _ _ h => h) (by kernel_rfl) (prev_bel _ _) ?_ ?_
            rotate_left
            · intro uu (pu : Prev uu _)
              go_simp
              try (with_reducible rfl)
            try simp only [List.set]
            refine wpAnyH_on (i := 5) (d := 110) (v := ?_) rfl rfl (by kernel_rfl) (by kernel_rfl) (by kernel_rfl) (fun _ _ _ h => h) (by kernel_rfl) (prev_bel _ _) ?_ ?_
            rotate_left
            · intro uu (pu : Prev uu _)
              go_simp
              try (with_reducible rfl)
            try simp only [List.set]
            refine wpAnyH_on (i := 6) (d := 111) (v := ?_) rfl rfl (by kernel_rfl) (by kernel_rfl) (by kernel_rfl) (fun _ _ _ h => h) (by kernel_rfl) (prev_bel _ _) ?_ ?_
            rotate_left
            · intro uu (pu : Prev uu _)
              go_simp
              try (with_reducible rfl)
            try simp only [List.set]
            refine wpAnyH_on (i := 7) (d := 112) (v := ?_) rfl rfl (by kernel_rfl) (by kernel_rfl) (by kernel_rfl) (fun _ _ _ h => h) (by kernel_rfl) (prev_bel _ _) ?_ ?_
            rotate_left
            · intro uu (pu : Prev uu _)
              go_simp
              try (with_reducible rfl)
            try simp only [List.set]
            refine wpAnyH_on (i := 8) (d := 113) (v := ?_) rfl rfl (by kernel_rfl) (by kernel_rfl) (by kernel_rfl) (fun _ _ _ h => h) (by kernel_rfl) (prev_bel _ _) ?_ ?_
            rotate_left
            · intro uu (pu : Prev uu _)
              go_simp
              try (with_reducible rfl)
            try simp only [List.set]
            refine wpAnyH_ready (rs := [9]) (by kernel_rfl) (by simp) ?_
            refine AllReadyH.cons rfl (fun K hK => ?_) AllReadyH.nil
            go_simp
            (with_reducible refine (aT_equalT24 (by omega) (by omega) (by omega)).mono ?_)
            rintro e ux ⟨rfl, _⟩
            dsimp only
            refine hK.out _ _ (prev_bel _ _) (fun hHeld => ?_)
            clear hHeld hK K
            try dsimp only [Act.put, List.setIfInBounds_toArray, List.set_cons_zero, List.set_cons_succ]
            refine wpAnyH_on (i := 10) (d := 115) (v := ?_) rfl rfl (by kernel_rfl) (by kernel_rfl) (by kernel_rfl) (fun _ _ _ h => h) (by kernel_rfl) (prev_bel _ _) ?_ ?_
            rotate_left
            · intro uu (pu : Prev uu _)
              go_simp
              try (with_reducible rfl)
            try simp only [List.set]
            refine wpAnyH_done (by kernel_rfl) ?_ _
            go_wp2_with fail
            have CC6 := CC5 ux inferInstance
            have kB6 : Bx ux T1 70 #[.slice (some ⟨G3, 0, none⟩) n n, .slice (some ⟨G4, 0, none⟩) n n] := inferInstance
            clear CC5 CC e0 e1 oG3 kB q0 q1 q2 q3
            go_loopw [123] (fun i wr => ∃ j : Nat, j ≤ M ∧ i = .int .i64 j ∧ CB2 wr vn.heap.size G3 n (PJ j) G4 n ds ∧ Bx wr T1 70 #[.slice (some ⟨G3, 0, none⟩) n n, .slice (some ⟨G4, 0, none⟩) n n] ∧ Prev wr vn) (fun i _ => M - (intOf i).toNat)
            case atStart => exact ⟨0, Nat.zero_le _, rfl, CC6, kB6, prev_bel _ _⟩
            case round =>
              clear CC6 kB6
              obtain ⟨j, hj, rfl, CC, kB, hp2⟩ := hrel
              by_cases hjM : j < M
              · obtain ⟨x, hx⟩ : ∃ x, qx[j]? = some x := ⟨_, List.getElem?_eq_getElem (by rw [HM.out]; exact hjM)⟩
                obtain ⟨e0, e1⟩ := (CC.l.len (HPL.out j)).get (HPK.out j)
                simp only [mix_len, HM.out] at e1
                have oP := (CC.l.el _ (List.mem_of_getElem? (HPK.out j))).2.1
                have gP := (CC.l.el _ (List.mem_of_getElem? (HPK.out j))).2.2.2
                simp only at oP gP
                have cP := oP.cell (mix_at (f := fI) hx)
                have fP := oP.frozen j
                have oG3 : Old G3 wr := ⟨CC.l.blk.lt⟩
                have oldP : Old qg' wr := ⟨oP.lt⟩
                obtain ⟨y, hy⟩ : ∃ y, IntKind.i64.wrap (x + 1) = y := ⟨_, rfl⟩
                have HY : Hid (y = fI j) := Lib.hid (by rw [← hy]; exact HFI.out j x hx)
                have S1 : ∀ b, b < wr.heap.size → b ≠ qg' → (wr.setCell ⟨qg', j, none⟩ (.int .i64 y)).heap[b]? = wr.heap[b]? := fun b _ hb => Below.heap_setCell wr ⟨qg', j, none⟩ _ b hb
                have C1 := Lib.hid (CC.nought' (w' := wr.setCell ⟨qg', j, none⟩ (.int .i64 y)) (HPK.out j) (X := (mix fI qx j).set j y) S1 (oP.set_ j y) (by simp))
                rw [HPS.out j _ HY.out] at C1
                have B1 := Lib.hid ((bel vn wr).setCell (p := ⟨qg', j, none⟩) gP (.int .i64 y))
                have kB1 := Lib.hid ((S1 _ kB.blk.lt (oP.ne_blk kB.blk (by decide)).symm).trans kB.blk)
                clear S1 hx oP
                go_wp2_with fail
                go_roundw
                case rel => exact ⟨j + 1, by omega, by go_num, C1.out, ⟨kB1.out⟩, ⟨B1.out⟩⟩
                case measure => simp [intOf]; omega
              · obtain rfl : j = M := by omega
                go_wp2_with fail
                go_roundw
                case rel => exact ⟨k + 1, PJ j, by omega, by go_num, CC, UCN, kB, hp2⟩
                case measure => simp [intOf]; omega
          · obtain rfl : k = n := by omega
            have bI : ∀ p ∈ cs', ∀ z ∈ p.xs, I64 z := UC.out.bd HBP.out (fun j t _ z hz => by
              obtain ⟨i, hi⟩ := mix_mem hz
              rw [hi]; exact raise_bd _)
            have sI : Sim Pt (cs'.map Cp.tn) := UC.out.sim (fun j t _ => by rw [rowI, mix_len])
            obtain ⟨It, hIt⟩ : ∃ It, cs'.map Cp.tn = It := ⟨_, rfl⟩
            have tI : Ts wr (some ⟨G3, 0, none⟩) k It := by rw [← hIt]; exact CC.l.tens hcl bI
            have tD : Ts wr (some ⟨G4, 0, none⟩) k Dt := by rw [← HDt.out]; exact CC.r.tens HLD.out HBd.out
            have zI := Lib.hid (show Mo It by rw [← hIt]; exact sI.mo zP.out)
            have zD := Lib.hid (show Mo Dt by
              rw [← HDt.out]
              intro u hu
              obtain ⟨j, hj⟩ := List.mem_iff_getElem?.1 hu
              obtain ⟨z, hzz⟩ := at_of (l := ds.map Cp.tn) (m := Qt) (by rw [List.length_map, HLD.out]; exact tQ.len) hj
              have h1 := HDQ.out j u z hj hzz
              have h2 := zQ.out z (List.mem_of_getElem? hzz)
              rw [h1.1, h1.2]; exact h2)
            by_cases hk0 : k = 0
            · subst hk0
              have e : sameB [] [] = true := rfl
              have zN : Hid (Mo []) := Lib.hid (fun t ht => by cases ht)
              clear sI bI hIt UC hcl zI zD tI tD tP tQ
              go_wp2_with (first | (go_at_call 38; (try first | (with_reducible refine gen_boxK3 (fun u _ _ _ _ => ?_)) | (with_reducible refine gen_boxK2 (fun u _ _ _ => ?_)) | (with_reducible refine gen_boxK (fun u _ _ => ?_))); (with_reducible refine (op_sequal (by omega) (by omega) (by omega) (by omega) zN zN zN zN).mono ?_); rintro e u ⟨rfl, _⟩) | (go_at_call 30; (try first | (with_reducible refine gen_boxK3 (fun u _ _ _ _ => ?_)) | (with_reducible refine gen_boxK2 (fun u _ _ _ => ?_)) | (with_reducible refine gen_boxK (fun u _ _ => ?_))); (with_reducible refine (a24_awake).mono ?_); rintro e u ⟨rfl, _⟩))
              go_ret
              exact ⟨rfl, bel w _⟩
            · have e : sameB It Pt = false := by
                obtain ⟨t, ht⟩ : ∃ t, Pt[0]? = some t := ⟨_, List.getElem?_eq_getElem (by rw [← tP.len]; omega)⟩
                obtain ⟨q, hq, -, hqx⟩ := UC.out.get ht
                rw [if_pos (by omega)] at hqx
                refine sameB_no (j := 0) (t := q.tn) (u := t) (by rw [← hIt, List.getElem?_map, hq]; rfl) ht ?_
                show q.xs ≠ t.xs
                rw [hqx]
                intro heq
                obtain ⟨u, hu⟩ : ∃ u, ts[0]? = some u := ⟨_, List.getElem?_eq_getElem (by rw [HN.out]; omega)⟩
                obtain ⟨-, ex⟩ := HPT.out 0 u t hu ht
                have h1 := (right_len (validB_at HV.out hu)).2.1
                obtain ⟨x, hx⟩ : ∃ x, t.xs[0]? = some x := ⟨_, List.getElem?_eq_getElem (by rw [ex]; omega)⟩
                have h2 : (rowI 0 t)[0]? = some x := by rw [heq]; exact hx
                have h3 := mix_full (Nat.le_refl _) h2
                simp only [List.getD_eq_getElem?_getD, hx] at h3
                exact raise_ne x h3.symm
              have hk1 : ((k : Int) == 0) = false := by rw [beq_eq_false_iff_ne]; omega
              clear sI bI hIt UC hcl hk0
              go_wp2_with (first | (go_at_call 38; (try first | (with_reducible refine gen_boxK3 (fun u _ _ _ _ => ?_)) | (with_reducible refine gen_boxK2 (fun u _ _ _ => ?_)) | (with_reducible refine gen_boxK (fun u _ _ => ?_))); (with_reducible refine (op_sequal (by omega) (by omega) (by omega) (by omega) zI zD zP zQ).mono ?_); rintro e u ⟨rfl, _⟩) | (go_at_call 30; (try first | (with_reducible refine gen_boxK3 (fun u _ _ _ _ => ?_)) | (with_reducible refine gen_boxK2 (fun u _ _ _ => ?_)) | (with_reducible refine gen_boxK (fun u _ _ => ?_))); (with_reducible refine (a24_awake).mono ?_); rintro e u ⟨rfl, _⟩))
              go_ret
              exact ⟨rfl, bel w _⟩

end Go.Proofs.Ytphcffcecncngaa

namespace Go.Proofs.Ytphcffcecncngaa
open Go.ChangeShapes Go.WideShapes Go.ChangeAt Go.RowKit

set_option maxRecDepth 100000 in
theorem optimBegins_lifted (os : Os) (started : os.Started) (H : Type) (enc : TypeId × Value → H) :
    ReturnsInHanded {} Try.checked os 11 .any (Rows.optimBeginsSpec.pre6 enc Try.prog Try.f11 Rows.optimBeginsRow.domain false) (Rows.optimBeginsSpec.post enc Try.prog Try.f11 false true false false) := by
  refine returnsInHanded_of_change_sized (C := Try.checked) ownKnob_none started (by kernel_rfl) Try.func11
    (ChangeSpec.witness6 (enc := enc) (C := Try.checked) false ⟨#[], #[.slice none 0 0], []⟩ 8 (by kernel_rfl) (by kernel_rfl) (by kernel_rfl) (by kernel_rfl)) ?_
  intro W base args ds gs before hval0 hW _ hsz0 _
  have hsz : (DataW.weightsEach Try.prog (Try.f11.params.toList ++ Rows.optimBeginsSpec.plain.varTypes Try.prog) (ds ++ gs)).all (· ≤ reachBytes) = true := hsz0
  have hval : ∀ (j : Nat) t v, Try.f11.params[j]? = some t → args[j]? = some v → Value.okWide Try.prog W .any base t v := hval0
  have hW' := hW
  obtain ⟨p, q, hA0, hV, rfl, _, _⟩ := hW
  have hA : DataW.TrodAll enc Try.prog W 0 (fun _ => true) true Try.f11.params.toList args.toList ds p := hA0
  rw [Try.params11] at hA hval hsz
  have hAll := hA
  obtain ⟨v0, vs0, d0, ds0, p0, q0, hargs, rfl, rfl, h0, r0⟩ := trodAll_cons hA
  obtain ⟨rfl, rfl, rfl⟩ := trodAll_nil r0
  obtain rfl : args = #[v0] := by cases args; simp_all
  obtain ⟨rfl, rfl⟩ := trodVars_none hV
  obtain ⟨A0, c0, t0, rfl, w0⟩ := arg_tensW (hval 0 58 v0 rfl rfl) h0 (wt_each hsz (j := 0) rfl rfl)
  clear hA0 hval0 hsz0
  refine (optimBegins_calls A0 c0 t0 W w0).mono fun e W' ⟨he, bel⟩ => ?_
  subst he
  exact ⟨_, rfl, _, _, _, [], _, [], hW', trodAll_mk1 (shut_bool Try.underlying4 _), trodAll_below laidOut_all (by decide +kernel) hAll bel, rfl, bel.frame _, fun h => by cases h⟩

theorem optimBegins_holds : Rows.OptimBeginsSaid :=
  OpenClaim.holds_of_wide 11 Try.f11 rfl rfl rfl rfl rfl rfl rfl ⟨rfl, rfl, rfl, rfl, rfl⟩ rfl rfl rfl rfl rfl (by kernel_rfl) Try.func11 (by kernel_rfl)
    (of_decide_eq_true (by kernel_rfl)) (by unfold Func.isWrapper; first | (rw [if_pos (by decide +kernel)]; kernel_rfl) | (rw [if_neg (by decide +kernel)]; exact ⟨rfl, rfl⟩))
    (fun os started H enc _ => optimBegins_lifted os started H enc)

end Go.Proofs.Ytphcffcecncngaa
