/- OptimMeans: for every input the statement returns true, and each argument reads afterwards as it read before. No condition. -/
import Derived.Test.YtphcffcecncngaaMean
import Derived.Test.YtphcffcecncngaaLaw24b
import Derived.Test.YtphcffcecncngaaTens
import Derived.Deep.Slices
import Derived.SizedLaws
import Derived.Test.YtphcffcecncngaaRows
import Derived.Test.YtphcffcecncngaaOpen

namespace Go.Proofs.Ytphcffcecncngaa
open Go.RowKit

theorem gen_boxK4 {P : Program} {f : Nat} {args : Array Value} {Q : Ending → World → Prop} {X : World} {T T' T'' T3 : TypeId} {cs cs' cs'' cs3 : Array Value} (h : ∀ u, Prev u X → Bx u X.heap.size T cs → Bx u (X.heap.size + 1) T' cs' → Bx u (X.heap.size + 1 + 1) T'' cs'' → Bx u (X.heap.size + 1 + 1 + 1) T3 cs3 → Calls P f args u Q) :
    Calls P f args ((((X.alloc (.cells cs T)).alloc (.cells cs' T')).alloc (.cells cs'' T'')).alloc (.cells cs3 T3)) Q :=
  h _ (prev_bel _ _) inferInstance inferInstance inferInstance inferInstance
theorem Upd.one {f : Nat → Tn → List Int} {t : Tn} {ps : List Cp} (h : Upd f 1 [t] ps) : ∃ g g', ps = [⟨g, t.zs, g', f 0 t⟩] := by
  have hl := h.len
  match ps, hl with
  | [⟨g, zs, g', xs⟩], _ =>
    obtain ⟨h1, h2⟩ := h.at_ 0 ⟨g, zs, g', xs⟩ t rfl rfl
    rw [if_pos (by omega)] at h2
    simp only at h1 h2
    exact ⟨g, g', by rw [h1, h2]⟩
section
variable {w : World} {A B C A1 B1 A2 B2 A3 B3 : Option Addr} {c c1 d1 c2 d2 c3 d3 cb cc : Nat}
/-- One tensor of two cells, its rows new. -/
abbrev tn2 (g g' : Nat) (x y : Int) : Tn := ⟨some ⟨g, 0, none⟩, 1, [2], some ⟨g', 0, none⟩, 2, [x, y]⟩
theorem one2 {w : World} {G g g' : Nat} {x y : Int} (h : Ts w (some ⟨G, 0, none⟩) 1 [tn2 g g' x y]) : w.cell? ⟨G, 0, none⟩ = some (.slice (some ⟨g, 0, none⟩) 1 1) ∧ w.cell? ⟨G, 1, none⟩ = some (.slice (some ⟨g', 0, none⟩) 2 2) ∧ w.cell? ⟨g', 0, none⟩ = some (.int .i64 x) ∧ w.cell? ⟨g', 1, none⟩ = some (.int .i64 y) ∧ Old G w ∧ Old g' w := by
  obtain ⟨b, o, e, k⟩ := h.rd 0 _ rfl
  injection e with e
  injection e with e e'
  subst e e'
  obtain ⟨b0, o0, e0, h0, c0⟩ := k.x 0 x rfl
  obtain ⟨b1, o1, e1, h1, c1⟩ := k.x 1 y rfl
  injection e0 with e0
  injection e0 with e0 e0'
  injection e1 with e1
  injection e1 with e1 e1'
  subst e0 e0' e1 e1'
  exact ⟨k.c0, k.c1, c0, c1, ⟨k.old⟩, ⟨h0⟩⟩
def RetB24 (w : World) (x y p q : Int) (e : Ending) (w' : World) : Prop :=
  ∃ G1 g1 g1' G2 g2 g2', e = .returned (.tuple #[.agg #[.slice (some ⟨G1, 0, none⟩) 1 1, .slice (some ⟨G2, 0, none⟩) 1 1], .int .i64 0]) ∧ Ts w' (some ⟨G1, 0, none⟩) 1 [tn2 g1 g1' x y] ∧ Ts w' (some ⟨G2, 0, none⟩) 1 [tn2 g2 g2' p q] ∧ Prev w' w
theorem ts_one {w : World} {lo G : Nat} {g g' : Nat} {x y : Int} (h : CBk w lo G 1 [⟨g, [2], g', [x, y]⟩]) (hx : I64 x) (hy : I64 y) : Ts w (some ⟨G, 0, none⟩) 1 [tn2 g g' x y] :=
  CBk.ts (ps := [⟨g, [2], g', [x, y]⟩]) h (by
    intro p hp z hz
    rw [List.mem_singleton.1 hp] at hz
    simp at hz
    rcases hz with rfl | rfl
    · exact hx
    · exact hy)
theorem begin24 [a : Ts w A 1 [⟨A1, c1, [2], B1, d1, [fint 5, fint 7]⟩]] : Calls Try.prog 41 #[.slice A 1 c] w (RetB24 w (fint 5) (fint 7) 0 0) := by
  refine (op_begin_yes (by omega) (Lib.hid (by intro t ht; rw [List.mem_singleton.1 ht]; simp)) (by kernel_rfl)).mono ?_
  rintro e u ⟨G1, ps, G2, qs, rfl, CC, H1, H2, pw⟩
  obtain ⟨g1, g1', rfl⟩ := H1.out.one
  obtain ⟨g2, g2', rfl⟩ := H2.out.one
  exact ⟨G1, g1, g1', G2, g2, g2', rfl, ts_one CC.l (fint_bd _) (fint_bd _), ts_one CC.r ⟨by decide, by decide⟩ ⟨by decide, by decide⟩, pw⟩
theorem step24 [a : Ts w A 1 [⟨A1, c1, [2], B1, d1, [fint 5, fint 7]⟩]] [b : Ts w B 1 [⟨A2, c2, [2], B2, d2, [0, 0]⟩]] [g : Ts w C 1 [⟨A3, c3, [2], B3, d3, [fint 1, fint (-2)]⟩]] :
    Calls Try.prog 37 #[.agg #[.slice A 1 c, .slice B 1 cb], .agg #[.int .i64 4294967296, .int .i64 0, .int .i64 0, .int .i64 0, .int .i64 0, .int .i64 0], .int .i64 0, .slice C 1 cc] w (RetB24 w (fint 4) (fint 9) (fint 1) (fint (-2))) := by
  refine (op_step_yes (by omega) (Lib.hid (by intro t ht; rw [List.mem_singleton.1 ht]; simp)) (Lib.hid (by intro t ht; rw [List.mem_singleton.1 ht]; simp)) (Lib.hid (by intro t ht; rw [List.mem_singleton.1 ht]; simp)) (by kernel_rfl) (by kernel_rfl) (by kernel_rfl) (by omega) (by omega) (R := 4294967296) (Lib.hid (by kernel_rfl))).mono ?_
  rintro e u ⟨G1, ps, G2, qs, rfl, CC, H1, H2, pw⟩
  obtain ⟨g1, g1', rfl⟩ := H1.out.one
  obtain ⟨g2, g2', rfl⟩ := H2.out.one
  have e1 : rowP 0 0 0 4294967296 [⟨A1, c1, [2], B1, d1, [fint 5, fint 7]⟩] [⟨A2, c2, [2], B2, d2, [0, 0]⟩] [⟨A3, c3, [2], B3, d3, [fint 1, fint (-2)]⟩] 0 ⟨A1, c1, [2], B1, d1, [fint 5, fint 7]⟩ = [fint 4, fint 9] := by kernel_rfl
  have e2 : rowV 0 0 0 [⟨A1, c1, [2], B1, d1, [fint 5, fint 7]⟩] [⟨A2, c2, [2], B2, d2, [0, 0]⟩] [⟨A3, c3, [2], B3, d3, [fint 1, fint (-2)]⟩] 0 ⟨A2, c2, [2], B2, d2, [0, 0]⟩ = [fint 1, fint (-2)] := by kernel_rfl
  rw [e1, e2] at CC
  exact ⟨G1, g1, g1', G2, g2, g2', rfl, ts_one CC.l (fint_bd _) (fint_bd _), ts_one CC.r (fint_bd _) (fint_bd _), pw⟩
def RetM24 (w : World) (x y : Int) (e : Ending) (w' : World) : Prop :=
  ∃ G1 g1 g1', e = .returned (.tuple #[.slice (some ⟨G1, 0, none⟩) 1 1, .int .i64 0]) ∧ Ts w' (some ⟨G1, 0, none⟩) 1 [tn2 g1 g1' x y] ∧ Prev w' w
theorem mean24 [a : TTs w A 2 [⟨B, cb, [⟨A1, c1, [2], B1, d1, [fint 5, fint 7]⟩]⟩, ⟨C, cc, [⟨A2, c2, [2], B2, d2, [fint 1, fint (-2)]⟩]⟩]] :
    Calls Try.prog 33 #[.slice A 2 c] w (RetM24 w (fint 3) 10737418240) := by
  refine (op_mean (l0 := ⟨B, cb, [⟨A1, c1, [2], B1, d1, [fint 5, fint 7]⟩]⟩) (N := 1) (b := true) (by omega) (by omega) (Lib.hid (by
    intro l hl
    simp at hl
    rcases hl with rfl | rfl
    · exact ⟨by simp, by intro t ht; rw [List.mem_singleton.1 ht]; simp⟩
    · exact ⟨by simp, by intro t ht; rw [List.mem_singleton.1 ht]; simp⟩)) (Lib.hid rfl) (Lib.hid rfl) (Lib.hid (by kernel_rfl))).mono ?_
  rintro e u (⟨h, -⟩ | ⟨-, G1, ps, rfl, CC, H1, pw⟩)
  · cases h
  · obtain ⟨g1, g1', rfl⟩ := H1.out.one
    have a0 : cellM [⟨B, cb, [⟨A1, c1, [2], B1, d1, [fint 5, fint 7]⟩]⟩, ⟨C, cc, [⟨A2, c2, [2], B2, d2, [fint 1, fint (-2)]⟩]⟩] 0 0 = fint 3 := (show cellM [⟨B, cb, [⟨A1, c1, [2], B1, d1, [fint 5, fint 7]⟩]⟩, ⟨C, cc, [⟨A2, c2, [2], B2, d2, [fint 1, fint (-2)]⟩]⟩] 0 0 = fdiv (fsum [fint 5, fint 1]) (fint 2) from rfl).trans (by kernel_rfl)
    have a1 : cellM [⟨B, cb, [⟨A1, c1, [2], B1, d1, [fint 5, fint 7]⟩]⟩, ⟨C, cc, [⟨A2, c2, [2], B2, d2, [fint 1, fint (-2)]⟩]⟩] 0 1 = 10737418240 := (show cellM [⟨B, cb, [⟨A1, c1, [2], B1, d1, [fint 5, fint 7]⟩]⟩, ⟨C, cc, [⟨A2, c2, [2], B2, d2, [fint 1, fint (-2)]⟩]⟩] 0 1 = fdiv (fsum [fint 7, fint (-2)]) (fint 2) from rfl).trans (by kernel_rfl)
    have e1 : rowM [⟨B, cb, [⟨A1, c1, [2], B1, d1, [fint 5, fint 7]⟩]⟩, ⟨C, cc, [⟨A2, c2, [2], B2, d2, [fint 1, fint (-2)]⟩]⟩] 0 ⟨A1, c1, [2], B1, d1, [fint 5, fint 7]⟩ = [fint 3, 10737418240] := by
      rw [rowM, mix, show ([fint 5, fint 7] : List Int).length = 2 from rfl, show List.range 2 = [0, 1] from rfl, List.map_cons, List.map_cons, List.map_nil, if_pos (by omega), if_pos (by omega), a0, a1]
    rw [e1] at CC
    exact ⟨G1, g1, g1', rfl, ts_one CC (fint_bd _) ⟨by decide, by decide⟩, pw⟩
theorem norm24 [a : Ts w A 1 [⟨A1, c1, [2], B1, d1, [fint 1, fint (-2)]⟩]] : Calls Try.prog 45 #[.slice A 1 c] w (RetV w (.int .i64 (fint 3))) :=
  retV_of (op_norm (by omega) (Lib.hid (by intro t ht; rw [List.mem_singleton.1 ht]; simp))) (by kernel_rfl)
set_option maxRecDepth 100000 in
set_option maxHeartbeats 8000000 in
theorem a24_awake : Calls Try.prog 30 #[] w (RetV w (.bool true)) := by
  have CB := @cell_bx
  have CP := @cell_prev
  go_enter Try.func30, Try.ntmps30
  go_wp2_with (first | (go_at_call 63; (try first | (with_reducible refine gen_boxK3 (fun u _ _ _ _ => ?_)) | (with_reducible refine gen_boxK2 (fun u _ _ _ => ?_)) | (with_reducible refine gen_boxK (fun u _ _ => ?_))); (with_reducible refine (aF_intM).mono ?_); rintro e u ⟨rfl, _⟩) | (go_at_call 62; (try first | (with_reducible refine gen_boxK3 (fun u _ _ _ _ => ?_)) | (with_reducible refine gen_boxK2 (fun u _ _ _ => ?_)) | (with_reducible refine gen_boxK (fun u _ _ => ?_))); (with_reducible refine (aT_ofL (by omega) (by omega) (by kernel_rfl)).mono ?_); rintro e u ⟨A', c', B', d', rfl, _, _, _, _⟩) | (go_at_call 41; (try first | (with_reducible refine gen_boxK3 (fun u _ _ _ _ => ?_)) | (with_reducible refine gen_boxK2 (fun u _ _ _ => ?_)) | (with_reducible refine gen_boxK (fun u _ _ => ?_))); (with_reducible refine (begin24).mono ?_); rintro e u ⟨G1, g1, g1', G2, g2, g2', rfl, tP, tV, _⟩) | (go_at_call 37; (try first | (with_reducible refine gen_boxK3 (fun u _ _ _ _ => ?_)) | (with_reducible refine gen_boxK2 (fun u _ _ _ => ?_)) | (with_reducible refine gen_boxK (fun u _ _ => ?_))); (with_reducible refine (step24).mono ?_); rintro e u ⟨G3, g3, g3', G4, g4, g4', rfl, tP2, tV2, _⟩))
  refine gen_boxK4 (fun u4 _ _ _ _ _ => ?_)
  refine mean24.mono ?_
  rintro e u5 ⟨G5, g5, g5', rfl, tM, _⟩
  obtain ⟨a0, a1, a2, a3, oa, oa'⟩ := one2 tP2
  obtain ⟨b0, b1, b2, b3, ob, ob'⟩ := one2 tV2
  obtain ⟨m0, m1, m2, m3, om, om'⟩ := one2 tM
  go_wp2_with (first | (go_at_call 33; (try first | (with_reducible refine gen_boxK3 (fun u _ _ _ _ => ?_)) | (with_reducible refine gen_boxK2 (fun u _ _ _ => ?_)) | (with_reducible refine gen_boxK (fun u _ _ => ?_))); (with_reducible refine (op_mean_none).mono ?_); rintro e u ⟨rfl, _⟩))
  obtain ⟨v, rfl⟩ : ∃ v : World, v = u := ⟨_, rfl⟩
  refine wp_region_up v (by kernel_rfl) (fun ux _ => ?_)
  refine wpAnyH_on (i := 0) (d := 56) (v := ?_) rfl rfl (by kernel_rfl) (by kernel_rfl) (by kernel_rfl) (fun _ _ _ h => h) (by kernel_rfl) (prev_bel _ _) ?_ ?_
  rotate_left
  · intro uu (pu : Prev uu _)
    go_simp
    try (with_reducible rfl)
  try simp only [List.set]
  refine wpAnyH_on (i := 1) (d := 57) (v := ?_) rfl rfl (by kernel_rfl) (by kernel_rfl) (by kernel_rfl) (fun _ _ _ h => h) (by kernel_rfl) (prev_bel _ _) ?_ ?_
  rotate_left
  · intro uu (pu : Prev uu _)
    go_simp
    try (with_reducible rfl)
  try simp only [List.set]
  refine wpAnyH_on (i := 2) (d := 58) (v := ?_) rfl rfl (by kernel_rfl) (by kernel_rfl) (by kernel_rfl) (fun _ _ _ h => h) (by kernel_rfl) (prev_bel _ _) ?_ ?_
  rotate_left
  · intro uu (pu : Prev uu _)
    go_simp
    try (with_reducible rfl)
  try simp only [List.set]
  refine wpAnyH_on (i := 3) (d := 59) (v := ?_) rfl rfl (by kernel_rfl) (by kernel_rfl) (by kernel_rfl) (fun _ _ _ h => h) (by kernel_rfl) (prev_bel _ _) ?_ ?_
  rotate_left
  · intro uu (pu : Prev uu _)
    go_simp
    try (with_reducible rfl)
  try simp only [List.set]
  refine wpAnyH_on (i := 4) (d := 60) (v := ?_) rfl rfl (by kernel_rfl) (by kernel_rfl) (by kernel_rfl) (fun _ _ _ h => h) (by kernel_rfl) (prev_bel _ _) ?_ ?_
  rotate_left
  · intro uu (pu : Prev uu _)
    go_simp
    try (with_reducible rfl)
  try simp only [List.set]
  refine wpAnyH_on (i := 5) (d := 61) (v := ?_) rfl rfl (by kernel_rfl) (by kernel_rfl) (by kernel_rfl) (fun _ _ _ h => h) (by kernel_rfl) (prev_bel _ _) ?_ ?_
  rotate_left
  · intro uu (pu : Prev uu _)
    go_simp
    try (with_reducible rfl)
  try simp only [List.set]
  refine wpAnyH_on (i := 6) (d := 62) (v := ?_) rfl rfl (by kernel_rfl) (by kernel_rfl) (by kernel_rfl) (fun _ _ _ h => h) (by kernel_rfl) (prev_bel _ _) ?_ ?_
  rotate_left
  · intro uu (pu : Prev uu _)
    go_simp
    try (with_reducible rfl)
  try simp only [List.set]
  refine wpAnyH_on (i := 7) (d := 63) (v := ?_) rfl rfl (by kernel_rfl) (by kernel_rfl) (by kernel_rfl) (fun _ _ _ h => h) (by kernel_rfl) (prev_bel _ _) ?_ ?_
  rotate_left
  · intro uu (pu : Prev uu _)
    go_simp
    try (with_reducible rfl)
  try simp only [List.set]
  refine wpAnyH_on (i := 8) (d := 64) (v := ?_) rfl rfl (by kernel_rfl) (by kernel_rfl) (by kernel_rfl) (fun _ _ _ h => h) (by kernel_rfl) (prev_bel _ _) ?_ ?_
  rotate_left
  · intro uu (pu : Prev uu _)
    go_simp
    try (with_reducible rfl)
  try simp only [List.set]
  refine wpAnyH_on (i := 9) (d := 65) (v := ?_) rfl rfl (by kernel_rfl) (by kernel_rfl) (by kernel_rfl) (fun _ _ _ h => h) (by kernel_rfl) (prev_bel _ _) ?_ ?_
  rotate_left
  · intro uu (pu : Prev uu _)
    go_simp
    try (with_reducible rfl)
  try simp only [List.set]
  refine wpAnyH_on (i := 10) (d := 66) (v := ?_) rfl rfl (by kernel_rfl) (by kernel_rfl) (by kernel_rfl) (fun _ _ _ h => h) (by kernel_rfl) (prev_bel _ _) ?_ ?_
  rotate_left
  · intro uu (pu : Prev uu _)
    go_simp
    try (with_reducible rfl)
  try simp only [List.set]
  refine wpAnyH_on (i := 11) (d := 67) (v := ?_) rfl rfl (by kernel_rfl) (by kernel_rfl) (by kernel_rfl) (fun _ _ _ h => h) (by kernel_rfl) (prev_bel _ _) ?_ ?_
  rotate_left
  · intro uu (pu : Prev uu _)
    go_simp
    try (with_reducible rfl)
  try simp only [List.set]
  refine wpAnyH_on (i := 12) (d := 68) (v := ?_) rfl rfl (by kernel_rfl) (by kernel_rfl) (by kernel_rfl) (fun _ _ _ h => h) (by kernel_rfl) (prev_bel _ _) ?_ ?_
  rotate_left
  · intro uu (pu : Prev uu _)
    go_simp
    try (with_reducible rfl)
  try simp only [List.set]
  refine wpAnyH_on (i := 13) (d := 69) (v := ?_) rfl rfl (by kernel_rfl) (by kernel_rfl) (by kernel_rfl) (fun _ _ _ h => h) (by kernel_rfl) (prev_bel _ _) ?_ ?_
  rotate_left
  · intro uu (pu : Prev uu _)
    go_simp
    try (with_reducible rfl)
  try simp only [List.set]
  refine wpAnyH_on (i := 14) (d := 70) (v := ?_) rfl rfl (by kernel_rfl) (by kernel_rfl) (by kernel_rfl) (fun _ _ _ h => h) (by kernel_rfl) (prev_bel _ _) ?_ ?_
  rotate_left
  · intro uu (pu : Prev uu _)
    go_simp
    try (with_reducible rfl)
  try simp only [List.set]
  refine wpAnyH_on (i := 15) (d := 71) (v := ?_) rfl rfl (by kernel_rfl) (by kernel_rfl) (by kernel_rfl) (fun _ _ _ h => h) (by kernel_rfl) (prev_bel _ _) ?_ ?_
  rotate_left
  · intro uu (pu : Prev uu _)
    go_simp
    try (with_reducible rfl)
  try simp only [List.set]
  refine wpAnyH_on (i := 16) (d := 72) (v := ?_) rfl rfl (by kernel_rfl) (by kernel_rfl) (by kernel_rfl) (fun _ _ _ h => h) (by kernel_rfl) (prev_bel _ _) ?_ ?_
  rotate_left
  · intro uu (pu : Prev uu _)
    go_simp
    try (with_reducible rfl)
  try simp only [List.set]
  refine wpAnyH_on (i := 17) (d := 73) (v := ?_) rfl rfl (by kernel_rfl) (by kernel_rfl) (by kernel_rfl) (fun _ _ _ h => h) (by kernel_rfl) (prev_bel _ _) ?_ ?_
  rotate_left
  · intro uu (pu : Prev uu _)
    go_simp
    try (with_reducible rfl)
  try simp only [List.set]
  refine wpAnyH_on (i := 18) (d := 74) (v := ?_) rfl rfl (by kernel_rfl) (by kernel_rfl) (by kernel_rfl) (fun _ _ _ h => h) (by kernel_rfl) (prev_bel _ _) ?_ ?_
  rotate_left
  · intro uu (pu : Prev uu _)
    go_simp
    try (with_reducible rfl)
  try simp only [List.set]
  refine wpAnyH_on (i := 19) (d := 75) (v := ?_) rfl rfl (by kernel_rfl) (by kernel_rfl) (by kernel_rfl) (fun _ _ _ h => h) (by kernel_rfl) (prev_bel _ _) ?_ ?_
  rotate_left
  · intro uu (pu : Prev uu _)
    go_simp
    try (with_reducible rfl)
  try simp only [List.set]
  refine wpAnyH_on (i := 20) (d := 76) (v := ?_) rfl rfl (by kernel_rfl) (by kernel_rfl) (by kernel_rfl) (fun _ _ _ h => h) (by kernel_rfl) (prev_bel _ _) ?_ ?_
  rotate_left
  · intro uu (pu : Prev uu _)
    go_simp
    try (with_reducible rfl)
  try simp only [List.set]
  refine wpAnyH_on (i := 21) (d := 77) (v := ?_) rfl rfl (by kernel_rfl) (by kernel_rfl) (by kernel_rfl) (fun _ _ _ h => h) (by kernel_rfl) (prev_bel _ _) ?_ ?_
  rotate_left
  · intro uu (pu : Prev uu _)
    go_simp
    try (with_reducible rfl)
  try simp only [List.set]
  refine wpAnyH_on (i := 22) (d := 78) (v := ?_) rfl rfl (by kernel_rfl) (by kernel_rfl) (by kernel_rfl) (fun _ _ _ h => h) (by kernel_rfl) (prev_bel _ _) ?_ ?_
  rotate_left
  · intro uu (pu : Prev uu _)
    go_simp
    try (with_reducible rfl)
  try simp only [List.set]
  refine wpAnyH_on (i := 23) (d := 79) (v := ?_) rfl rfl (by kernel_rfl) (by kernel_rfl) (by kernel_rfl) (fun _ _ _ h => h) (by kernel_rfl) (prev_bel _ _) ?_ ?_
  rotate_left
  · intro uu (pu : Prev uu _)
    go_simp
    try (with_reducible rfl)
  try simp only [List.set]
  refine wpAnyH_on (i := 24) (d := 80) (v := ?_) rfl rfl (by kernel_rfl) (by kernel_rfl) (by kernel_rfl) (fun _ _ _ h => h) (by kernel_rfl) (prev_bel _ _) ?_ ?_
  rotate_left
  · intro uu (pu : Prev uu _)
    go_simp
    try (with_reducible rfl)
  try simp only [List.set]
  refine wpAnyH_on (i := 25) (d := 81) (v := ?_) rfl rfl (by kernel_rfl) (by kernel_rfl) (by kernel_rfl) (fun _ _ _ h => h) (by kernel_rfl) (prev_bel _ _) ?_ ?_
  rotate_left
  · intro uu (pu : Prev uu _)
    go_simp
    try (with_reducible rfl)
  try simp only [List.set]
  refine wpAnyH_on (i := 26) (d := 82) (v := ?_) rfl rfl (by kernel_rfl) (by kernel_rfl) (by kernel_rfl) (fun _ _ _ h => h) (by kernel_rfl) (prev_bel _ _) ?_ ?_
  rotate_left
  · intro uu (pu : Prev uu _)
    go_simp
    try (with_reducible rfl)
  try simp only [List.set]
  refine wpAnyH_on (i := 27) (d := 83) (v := ?_) rfl rfl (by kernel_rfl) (by kernel_rfl) (by kernel_rfl) (fun _ _ _ h => h) (by kernel_rfl) (prev_bel _ _) ?_ ?_
  rotate_left
  · intro uu (pu : Prev uu _)
    go_simp
    try (with_reducible rfl)
  try simp only [List.set]
  refine wpAnyH_on (i := 28) (d := 84) (v := ?_) rfl rfl (by kernel_rfl) (by kernel_rfl) (by kernel_rfl) (fun _ _ _ h => h) (by kernel_rfl) (prev_bel _ _) ?_ ?_
  rotate_left
  · intro uu (pu : Prev uu _)
    go_simp
    try (with_reducible rfl)
  try simp only [List.set]
  refine wpAnyH_on (i := 29) (d := 85) (v := ?_) rfl rfl (by kernel_rfl) (by kernel_rfl) (by kernel_rfl) (fun _ _ _ h => h) (by kernel_rfl) (prev_bel _ _) ?_ ?_
  rotate_left
  · intro uu (pu : Prev uu _)
    go_simp
    try (with_reducible rfl)
  try simp only [List.set]
  refine wpAnyH_on (i := 30) (d := 86) (v := ?_) rfl rfl (by kernel_rfl) (by kernel_rfl) (by kernel_rfl) (fun _ _ _ h => h) (by kernel_rfl) (prev_bel _ _) ?_ ?_
  rotate_left
  · intro uu (pu : Prev uu _)
    go_simp
    try (with_reducible rfl)
  try simp only [List.set]
  refine wpAnyH_on (i := 31) (d := 87) (v := ?_) rfl rfl (by kernel_rfl) (by kernel_rfl) (by kernel_rfl) (fun _ _ _ h => h) (by kernel_rfl) (prev_bel _ _) ?_ ?_
  rotate_left
  · intro uu (pu : Prev uu _)
    go_simp
    try (with_reducible rfl)
  try simp only [List.set]
  refine wpAnyH_on (i := 32) (d := 88) (v := ?_) rfl rfl (by kernel_rfl) (by kernel_rfl) (by kernel_rfl) (fun _ _ _ h => h) (by kernel_rfl) (prev_bel _ _) ?_ ?_
  rotate_left
  · intro uu (pu : Prev uu _)
    go_simp
    try (with_reducible rfl)
  try simp only [List.set]
  refine wpAnyH_on (i := 33) (d := 89) (v := ?_) rfl rfl (by kernel_rfl) (by kernel_rfl) (by kernel_rfl) (fun _ _ _ h => h) (by kernel_rfl) (prev_bel _ _) ?_ ?_
  rotate_left
  · intro uu (pu : Prev uu _)
    go_simp
    try (with_reducible rfl)
  try simp only [List.set]
  refine wpAnyH_on (i := 34) (d := 90) (v := ?_) rfl rfl (by kernel_rfl) (by kernel_rfl) (by kernel_rfl) (fun _ _ _ h => h) (by kernel_rfl) (prev_bel _ _) ?_ ?_
  rotate_left
  · intro uu (pu : Prev uu _)
    go_simp
    try (with_reducible rfl)
  try simp only [List.set]
  refine wpAnyH_on (i := 35) (d := 91) (v := ?_) rfl rfl (by kernel_rfl) (by kernel_rfl) (by kernel_rfl) (fun _ _ _ h => h) (by kernel_rfl) (prev_bel _ _) ?_ ?_
  rotate_left
  · intro uu (pu : Prev uu _)
    go_simp
    try (with_reducible rfl)
  try simp only [List.set]
  refine wpAnyH_on (i := 36) (d := 92) (v := ?_) rfl rfl (by kernel_rfl) (by kernel_rfl) (by kernel_rfl) (fun _ _ _ h => h) (by kernel_rfl) (prev_bel _ _) ?_ ?_
  rotate_left
  · intro uu (pu : Prev uu _)
    go_simp
    try (with_reducible rfl)
  try simp only [List.set]
  refine wpAnyH_ready (rs := [37]) (by kernel_rfl) (by simp) ?_
  refine AllReadyH.cons rfl (fun K hK => ?_) AllReadyH.nil
  go_simp
  (with_reducible refine (aF_intM).mono ?_)
  rintro e ux ⟨rfl, _⟩
  dsimp only
  refine hK.out _ _ (prev_bel v _) (fun hHeld => ?_)
  clear hHeld hK K
  try dsimp only [Act.put, List.setIfInBounds_toArray, List.set_cons_zero, List.set_cons_succ]
  refine wpAnyH_on (i := 38) (d := 94) (v := ?_) rfl rfl (by kernel_rfl) (by kernel_rfl) (by kernel_rfl) (fun _ _ _ h => h) (by kernel_rfl) (prev_bel _ _) ?_ ?_
  rotate_left
  · intro uu (pu : Prev uu _)
    go_simp
    try (with_reducible rfl)
  try simp only [List.set]
  refine wpAnyH_on (i := 39) (d := 95) (v := ?_) rfl rfl (by kernel_rfl) (by kernel_rfl) (by kernel_rfl) (fun _ _ _ h => h) (by kernel_rfl) (prev_bel _ _) ?_ ?_
  rotate_left
  · intro uu (pu : Prev uu _)
    go_simp
    try (with_reducible rfl)
  try simp only [List.set]
  refine wpAnyH_on (i := 40) (d := 96) (v := ?_) rfl rfl (by kernel_rfl) (by kernel_rfl) (by kernel_rfl) (fun _ _ _ h => h) (by kernel_rfl) (prev_bel _ _) ?_ ?_
  rotate_left
  · intro uu (pu : Prev uu _)
    go_simp
    try (with_reducible rfl)
  try simp only [List.set]
  refine wpAnyH_on (i := 41) (d := 97) (v := ?_) rfl rfl (by kernel_rfl) (by kernel_rfl) (by kernel_rfl) (fun _ _ _ h => h) (by kernel_rfl) (prev_bel _ _) ?_ ?_
  rotate_left
  · intro uu (pu : Prev uu _)
    go_simp
    try (with_reducible rfl)
  try simp only [List.set]
  refine wpAnyH_on (i := 42) (d := 98) (v := ?_) rfl rfl (by kernel_rfl) (by kernel_rfl) (by kernel_rfl) (fun _ _ _ h => h) (by kernel_rfl) (prev_bel _ _) ?_ ?_
  rotate_left
  · intro uu (pu : Prev uu _)
    go_simp
    try (with_reducible rfl)
  try simp only [List.set]
  refine wpAnyH_on (i := 43) (d := 99) (v := ?_) rfl rfl (by kernel_rfl) (by kernel_rfl) (by kernel_rfl) (fun _ _ _ h => h) (by kernel_rfl) (prev_bel _ _) ?_ ?_
  rotate_left
  · intro uu (pu : Prev uu _)
    go_simp
    try (with_reducible rfl)
  try simp only [List.set]
  refine wpAnyH_on (i := 44) (d := 100) (v := ?_) rfl rfl (by kernel_rfl) (by kernel_rfl) (by kernel_rfl) (fun _ _ _ h => h) (by kernel_rfl) (prev_bel _ _) ?_ ?_
  rotate_left
  · intro uu (pu : Prev uu _)
    go_simp
    try (with_reducible rfl)
  try simp only [List.set]
  refine wpAnyH_on (i := 45) (d := 101) (v := ?_) rfl rfl (by kernel_rfl) (by kernel_rfl) (by kernel_rfl) (fun _ _ _ h => h) (by kernel_rfl) (prev_bel _ _) ?_ ?_
  rotate_left
  · intro uu (pu : Prev uu _)
    go_simp
    try (with_reducible rfl)
  try simp only [List.set]
  refine wpAnyH_on (i := 46) (d := 102) (v := ?_) rfl rfl (by kernel_rfl) (by kernel_rfl) (by kernel_rfl) (fun _ _ _ h => h) (by kernel_rfl) (prev_bel _ _) ?_ ?_
  rotate_left
  · intro uu (pu : Prev uu _)
    go_simp
    try (with_reducible rfl)
  try simp only [List.set]
  refine wpAnyH_on (i := 47) (d := 103) (v := ?_) rfl rfl (by kernel_rfl) (by kernel_rfl) (by kernel_rfl) (fun _ _ _ h => h) (by kernel_rfl) (prev_bel _ _) ?_ ?_
  rotate_left
  · intro uu (pu : Prev uu _)
    go_simp
    try (with_reducible rfl)
  try simp only [List.set]
  refine wpAnyH_ready (rs := [48]) (by kernel_rfl) (by simp) ?_
  refine AllReadyH.cons rfl (fun K hK => ?_) AllReadyH.nil
  go_simp
  (with_reducible refine (aF_intM).mono ?_)
  rintro e ux ⟨rfl, _⟩
  dsimp only
  refine hK.out _ _ (prev_bel v _) (fun hHeld => ?_)
  clear hHeld hK K
  try dsimp only [Act.put, List.setIfInBounds_toArray, List.set_cons_zero, List.set_cons_succ]
  refine wpAnyH_on (i := 49) (d := 105) (v := ?_) rfl rfl (by kernel_rfl) (by kernel_rfl) (by kernel_rfl) (fun _ _ _ h => h) (by kernel_rfl) (prev_bel _ _) ?_ ?_
  rotate_left
  · intro uu (pu : Prev uu _)
    go_simp
    try (with_reducible rfl)
  try simp only [List.set]
  refine wpAnyH_on (i := 50) (d := 106) (v := ?_) rfl rfl (by kernel_rfl) (by kernel_rfl) (by kernel_rfl) (fun _ _ _ h => h) (by kernel_rfl) (prev_bel _ _) ?_ ?_
  rotate_left
  · intro uu (pu : Prev uu _)
    go_simp
    try (with_reducible rfl)
  try simp only [List.set]
  refine wpAnyH_on (i := 51) (d := 107) (v := ?_) rfl rfl (by kernel_rfl) (by kernel_rfl) (by kernel_rfl) (fun _ _ _ h => h) (by kernel_rfl) (prev_bel _ _) ?_ ?_
  rotate_left
  · intro uu (pu : Prev uu _)
    go_simp
    try (with_reducible rfl)
  try simp only [List.set]
  refine wpAnyH_on (i := 52) (d := 108) (v := ?_) rfl rfl (by kernel_rfl) (by kernel_rfl) (by kernel_rfl) (fun _ _ _ h => h) (by kernel_rfl) (prev_bel _ _) ?_ ?_
  rotate_left
  · intro uu (pu : Prev uu _)
    go_simp
    try (with_reducible rfl)
  try simp only [List.set]
  refine wpAnyH_on (i := 53) (d := 109) (v := ?_) rfl rfl (by kernel_rfl) (by kernel_rfl) (by kernel_rfl) (fun _ _ _ h => h) (by kernel_rfl) (prev_bel _ _) ?_ ?_
  rotate_left
  · intro uu (pu : Prev uu _)
    go_simp
    try (with_reducible rfl)
  try simp only [List.set]
  refine wpAnyH_on (i := 54) (d := 110) (v := ?_) rfl rfl (by kernel_rfl) (by kernel_rfl) (by kernel_rfl) (fun _ _ _ h => h) (by kernel_rfl) (prev_bel _ _) ?_ ?_
  rotate_left
  · intro uu (pu : Prev uu _)
    go_simp
    try (with_reducible rfl)
  try simp only [List.set]
  refine wpAnyH_on (i := 55) (d := 111) (v := ?_) rfl rfl (by kernel_rfl) (by kernel_rfl) (by kernel_rfl) (fun _ _ _ h => h) (by kernel_rfl) (prev_bel _ _) ?_ ?_
  rotate_left
  · intro uu (pu : Prev uu _)
    go_simp
    try (with_reducible rfl)
  try simp only [List.set]
  refine wpAnyH_on (i := 56) (d := 112) (v := ?_) rfl rfl (by kernel_rfl) (by kernel_rfl) (by kernel_rfl) (fun _ _ _ h => h) (by kernel_rfl) (prev_bel _ _) ?_ ?_
  rotate_left
  · intro uu (pu : Prev uu _)
    go_simp
    try (with_reducible rfl)
  try simp only [List.set]
  refine wpAnyH_on (i := 57) (d := 113) (v := ?_) rfl rfl (by kernel_rfl) (by kernel_rfl) (by kernel_rfl) (fun _ _ _ h => h) (by kernel_rfl) (prev_bel _ _) ?_ ?_
  rotate_left
  · intro uu (pu : Prev uu _)
    go_simp
    try (with_reducible rfl)
  try simp only [List.set]
  refine wpAnyH_on (i := 58) (d := 114) (v := ?_) rfl rfl (by kernel_rfl) (by kernel_rfl) (by kernel_rfl) (fun _ _ _ h => h) (by kernel_rfl) (prev_bel _ _) ?_ ?_
  rotate_left
  · intro uu (pu : Prev uu _)
    go_simp
    try (with_reducible rfl)
  try simp only [List.set]
  refine wpAnyH_on (i := 59) (d := 115) (v := ?_) rfl rfl (by kernel_rfl) (by kernel_rfl) (by kernel_rfl) (fun _ _ _ h => h) (by kernel_rfl) (prev_bel _ _) ?_ ?_
  rotate_left
  · intro uu (pu : Prev uu _)
    go_simp
    try (with_reducible rfl)
  try simp only [List.set]
  refine wpAnyH_on (i := 60) (d := 116) (v := ?_) rfl rfl (by kernel_rfl) (by kernel_rfl) (by kernel_rfl) (fun _ _ _ h => h) (by kernel_rfl) (prev_bel _ _) ?_ ?_
  rotate_left
  · intro uu (pu : Prev uu _)
    go_simp
    try (with_reducible rfl)
  try simp only [List.set]
  refine wpAnyH_on (i := 61) (d := 117) (v := ?_) rfl rfl (by kernel_rfl) (by kernel_rfl) (by kernel_rfl) (fun _ _ _ h => h) (by kernel_rfl) (prev_bel _ _) ?_ ?_
  rotate_left
  · intro uu (pu : Prev uu _)
    go_simp
    try (with_reducible rfl)
  try simp only [List.set]
  refine wpAnyH_on (i := 62) (d := 118) (v := ?_) rfl rfl (by kernel_rfl) (by kernel_rfl) (by kernel_rfl) (fun _ _ _ h => h) (by kernel_rfl) (prev_bel _ _) ?_ ?_
  rotate_left
  · intro uu (pu : Prev uu _)
    go_simp
    try (with_reducible rfl)
  try simp only [List.set]
  refine wpAnyH_ready (rs := [63]) (by kernel_rfl) (by simp) ?_
  refine AllReadyH.cons rfl (fun K hK => ?_) AllReadyH.nil
  go_simp
  (with_reducible refine (aF_intM).mono ?_)
  rintro e ux ⟨rfl, _⟩
  dsimp only
  refine hK.out _ _ (prev_bel v _) (fun hHeld => ?_)
  clear hHeld hK K
  try dsimp only [Act.put, List.setIfInBounds_toArray, List.set_cons_zero, List.set_cons_succ]
  refine wpAnyH_on (i := 64) (d := 120) (v := ?_) rfl rfl (by kernel_rfl) (by kernel_rfl) (by kernel_rfl) (fun _ _ _ h => h) (by kernel_rfl) (prev_bel _ _) ?_ ?_
  rotate_left
  · intro uu (pu : Prev uu _)
    go_simp
    try (with_reducible rfl)
  try simp only [List.set]
  refine wpAnyH_on (i := 65) (d := 121) (v := ?_) rfl rfl (by kernel_rfl) (by kernel_rfl) (by kernel_rfl) (fun _ _ _ h => h) (by kernel_rfl) (prev_bel _ _) ?_ ?_
  rotate_left
  · intro uu (pu : Prev uu _)
    go_simp
    try (with_reducible rfl)
  try simp only [List.set]
  refine wpAnyH_on (i := 66) (d := 122) (v := ?_) rfl rfl (by kernel_rfl) (by kernel_rfl) (by kernel_rfl) (fun _ _ _ h => h) (by kernel_rfl) (prev_bel _ _) ?_ ?_
  rotate_left
  · intro uu (pu : Prev uu _)
    go_simp
    try (with_reducible rfl)
  try simp only [List.set]
  refine wpAnyH_on (i := 67) (d := 123) (v := ?_) rfl rfl (by kernel_rfl) (by kernel_rfl) (by kernel_rfl) (fun _ _ _ h => h) (by kernel_rfl) (prev_bel _ _) ?_ ?_
  rotate_left
  · intro uu (pu : Prev uu _)
    go_simp
    try (with_reducible rfl)
  try simp only [List.set]
  refine wpAnyH_ready (rs := [68]) (by kernel_rfl) (by simp) ?_
  refine AllReadyH.cons rfl (fun K hK => ?_) AllReadyH.nil
  go_simp
  refine hK.out _ _ (prev_bel v _) (fun hHeld => ?_)
  clear hHeld hK K
  try dsimp only [Act.put, List.setIfInBounds_toArray, List.set_cons_zero, List.set_cons_succ]
  refine gen_boxH (fun ux _ _ => ?_)
  refine wpAnyH_ready (rs := [69]) (by kernel_rfl) (by simp) ?_
  refine AllReadyH.cons rfl (fun K hK => ?_) AllReadyH.nil
  go_simp
  (with_reducible refine (norm24).mono ?_)
  rintro e ux ⟨rfl, _⟩
  dsimp only
  refine hK.out _ _ (prev_bel v _) (fun hHeld => ?_)
  clear hHeld hK K
  try dsimp only [Act.put, List.setIfInBounds_toArray, List.set_cons_zero, List.set_cons_succ]
  refine wpAnyH_ready (rs := [70]) (by kernel_rfl) (by simp) ?_
  refine AllReadyH.cons rfl (fun K hK => ?_) AllReadyH.nil
  go_simp
  (with_reducible refine (aF_intM).mono ?_)
  rintro e ux ⟨rfl, _⟩
  dsimp only
  refine hK.out _ _ (prev_bel v _) (fun hHeld => ?_)
  clear hHeld hK K
  try dsimp only [Act.put, List.setIfInBounds_toArray, List.set_cons_zero, List.set_cons_succ]
  refine wpAnyH_on (i := 71) (d := 127) (v := ?_) rfl rfl (by kernel_rfl) (by kernel_rfl) (by kernel_rfl) (fun _ _ _ h => h) (by kernel_rfl) (prev_bel _ _) ?_ ?_
  rotate_left
  · intro uu (pu : Prev uu _)
    go_simp
    try (with_reducible rfl)
  try simp only [List.set]
  refine wpAnyH_on (i := 72) (d := 128) (v := ?_) rfl rfl (by kernel_rfl) (by kernel_rfl) (by kernel_rfl) (fun _ _ _ h => h) (by kernel_rfl) (prev_bel _ _) ?_ ?_
  rotate_left
  · intro uu (pu : Prev uu _)
    go_simp
    try (with_reducible rfl)
  try simp only [List.set]
  refine wpAnyH_on (i := 73) (d := 0) (v := ?_) rfl rfl (by kernel_rfl) (by kernel_rfl) (by kernel_rfl) (fun _ _ _ h => h) (by kernel_rfl) (prev_bel _ _) ?_ ?_
  rotate_left
  · intro uu (pu : Prev uu _)
    go_simp
    try (with_reducible rfl)
  try simp only [List.set]
  refine wpAnyH_done (by kernel_rfl) ?_ _
  go_wp2_with fail
  go_ret
  exact ⟨rfl, prev_bel _ _⟩
end

end Go.Proofs.Ytphcffcecncngaa

namespace Go.Proofs.Ytphcffcecncngaa
open Go.RowKit

/-- The same shapes, and as many cells. -/
structure Sim (ts us : List Tn) : Prop where
  len : ts.length = us.length
  at_ : ∀ (j : Nat) (t u : Tn), ts[j]? = some t → us[j]? = some u → t.zs = u.zs ∧ t.xs.length = u.xs.length
theorem Sim.symm {ts us : List Tn} (h : Sim ts us) : Sim us ts := ⟨h.len.symm, fun j t u ht hu => by obtain ⟨a, b⟩ := h.at_ j u t hu ht; exact ⟨a.symm, b.symm⟩⟩
theorem tRightB_same {t u : Tn} (h1 : t.zs = u.zs) (h2 : t.xs.length = u.xs.length) : tRightB t.zs t.xs = tRightB u.zs u.xs := by
  unfold tRightB; rw [h1, h2]
theorem at_of {α β : Type} {l : List α} {m : List β} (h : l.length = m.length) {j : Nat} {x : α} (hx : l[j]? = some x) : ∃ y, m[j]? = some y :=
  ⟨_, List.getElem?_eq_getElem (by rw [← h]; exact (List.getElem?_eq_some_iff.1 hx).1)⟩
theorem Sim.trans {ts us vs : List Tn} (h : Sim ts us) (k : Sim us vs) : Sim ts vs := ⟨h.len.trans k.len, fun j t v ht hv => by
  obtain ⟨u, hu⟩ := at_of h.len ht
  obtain ⟨a, b⟩ := h.at_ j t u ht hu
  obtain ⟨c, d⟩ := k.at_ j u v hu hv
  exact ⟨a.trans c, b.trans d⟩⟩
theorem all_of {α : Type} {f : α → Bool} {l : List α} (h : ∀ (j : Nat) x, l[j]? = some x → f x = true) : l.all f = true := by
  rw [List.all_eq_true]
  intro x hx
  obtain ⟨j, hj⟩ := List.mem_iff_getElem?.1 hx
  exact h j x hj
theorem Sim.valid {ts us : List Tn} (h : Sim ts us) (hv : validB ts = true) : validB us = true := all_of fun j u hu => by
  obtain ⟨t, ht⟩ := at_of h.len.symm hu
  obtain ⟨a, b⟩ := h.at_ j t u ht hu
  rw [← tRightB_same a b]
  exact validB_at hv ht
theorem zip_of {α β : Type} {l : List α} {m : List β} {j : Nat} {p : α × β} (h : (l.zip m)[j]? = some p) : l[j]? = some p.1 ∧ m[j]? = some p.2 := by
  obtain ⟨x, y⟩ := p
  rwa [List.getElem?_zip_eq_some] at h
theorem Sim.alike {ts us : List Tn} (h : Sim ts us) (hv : validB ts = true) : alikeTB ts us = true := by
  rw [alikeTB, decide_eq_true h.len, hv, h.valid hv, Bool.true_and, Bool.true_and, Bool.true_and]
  refine all_of fun j p hp => ?_
  obtain ⟨a, b⟩ := zip_of hp
  exact decide_eq_true (h.at_ j _ _ a b).1
theorem sim_of {ts us : List Tn} (h : alikeTB ts us = true) : Sim ts us :=
  ⟨(alikeTB_at h).1, fun j t u ht hu => by
    obtain ⟨_, _, a, b⟩ := (alikeTB_at h).2 j t u ht hu
    exact ⟨a, b⟩⟩
theorem Upd.sim {f : Nat → Tn → List Int} {k : Nat} {ts : List Tn} {qs : List Cp} (h : Upd f k ts qs) (hf : ∀ j t, ts[j]? = some t → (f j t).length = t.xs.length) : Sim ts (qs.map Cp.tn) :=
  ⟨by rw [List.length_map]; exact h.len.symm, fun j t u ht hu => by
    rw [List.getElem?_map] at hu
    obtain ⟨q, hq, rfl⟩ := Option.map_eq_some_iff.1 hu
    obtain ⟨a, b⟩ := h.at_ j q t hq ht
    refine ⟨a.symm, ?_⟩
    show t.xs.length = q.xs.length
    rw [b]
    split
    · exact (hf j t ht).symm
    · rfl⟩
theorem Upd.bd {f : Nat → Tn → List Int} {k : Nat} {ts : List Tn} {qs : List Cp} (h : Upd f k ts qs) (hb : ∀ t ∈ ts, ∀ z ∈ t.xs, I64 z) (hf : ∀ j t, ts[j]? = some t → ∀ z ∈ f j t, I64 z) : ∀ p ∈ qs, ∀ z ∈ p.xs, I64 z := by
  intro p hp z hz
  obtain ⟨j, hj⟩ := List.mem_iff_getElem?.1 hp
  obtain ⟨t, ht⟩ := at_of h.len hj
  obtain ⟨_, b⟩ := h.at_ j p t hj ht
  rw [b] at hz
  split at hz
  · exact hf j t ht z hz
  · exact hb t (List.mem_of_getElem? ht) z hz
theorem mix_mem {f : Nat → Int} {xs : List Int} {z : Int} (h : z ∈ mix f xs xs.length) : ∃ i, z = f i := by
  obtain ⟨i, hi⟩ := List.mem_iff_getElem?.1 h
  exact ⟨i, mix_full (Nat.le_refl _) hi⟩
theorem fsum_zero : ∀ (l : List Int), (∀ z ∈ l, z = 0) → fsum (l.map fabs) = 0
  | [], _ => rfl
  | z :: l, h => by
    have h0 := h z (by simp)
    subst h0
    have ih := fsum_zero l fun y hy => h y (by simp [hy])
    have e : fadd 0 (fabs 0) = 0 := by decide
    simpa [fsum, e] using ih
theorem normI_noughts {ts : List Tn} {qs : List Cp} {n : Nat} (h : Upd noughts n ts qs) (hn : ts.length ≤ n) : normI (qs.map Cp.tn) = 0 := by
  refine fsum_zero _ fun z hz => ?_
  obtain ⟨u, hu, hzu⟩ := List.mem_flatMap.1 hz
  obtain ⟨q, hq, rfl⟩ := List.mem_map.1 hu
  obtain ⟨j, hj⟩ := List.mem_iff_getElem?.1 hq
  obtain ⟨t, ht⟩ := at_of h.len hj
  obtain ⟨_, b⟩ := h.at_ j q t hj ht
  have hjn : j < n := Nat.lt_of_lt_of_le (List.getElem?_eq_some_iff.1 ht).1 hn
  rw [if_pos hjn] at b
  change z ∈ q.xs at hzu
  rw [b] at hzu
  exact (List.mem_replicate.1 hzu).2
theorem sameB_of {ts us : List Tn} (hl : ts.length = us.length) (h : ∀ (j : Nat) (t u : Tn), ts[j]? = some t → us[j]? = some u → t.zs = u.zs ∧ t.xs = u.xs) : sameB ts us = true := by
  rw [sameB, decide_eq_true hl, Bool.true_and]
  refine all_of fun j p hp => ?_
  obtain ⟨a, b⟩ := zip_of hp
  obtain ⟨c, d⟩ := h j _ _ a b
  simp [zxE, c, d]
theorem sameB_no {ts us : List Tn} {j : Nat} {t u : Tn} (ht : ts[j]? = some t) (hu : us[j]? = some u) (h : t.xs ≠ u.xs) : sameB ts us = false := by
  have : cellsB ts us = false := all_no (f := zxE) (zipT_at ht hu) (by simp [zxE, h])
  rw [sameB, this, Bool.and_false]
/-- Copies are the same. -/
theorem CPs.same {ts : List Tn} {ps : List Cp} (h : CPs ts ps) : sameB (ps.map Cp.tn) ts = true :=
  sameB_of (by rw [List.length_map]; exact h.len) fun j t u ht hu => by
    rw [List.getElem?_map] at ht
    obtain ⟨q, hq, rfl⟩ := Option.map_eq_some_iff.1 ht
    exact h.at hq hu
theorem CPs.sim {ts : List Tn} {ps : List Cp} (h : CPs ts ps) : Sim ts (ps.map Cp.tn) :=
  ⟨by rw [List.length_map]; exact h.len.symm, fun j t u ht hu => by
    rw [List.getElem?_map] at hu
    obtain ⟨q, hq, rfl⟩ := Option.map_eq_some_iff.1 hu
    obtain ⟨a, b⟩ := h.at hq ht
    exact ⟨a.symm, by show t.xs.length = q.xs.length; rw [b]⟩⟩
theorem Sim.mo {ts us : List Tn} (h : Sim ts us) (hm : Mo ts) : Mo us := fun u hu => by
  obtain ⟨j, hj⟩ := List.mem_iff_getElem?.1 hu
  obtain ⟨t, ht⟩ := at_of h.len.symm hj
  obtain ⟨a, b⟩ := h.at_ j t u ht hj
  have := hm t (List.mem_of_getElem? ht)
  rw [← a, ← b]; exact this
/-- A row of the call's own as tensors. -/
theorem CBk.tens {w : World} {lo G n : Nat} {ps : List Cp} (h : CBk w lo G n ps) (hl : ps.length = n) (hbd : ∀ p ∈ ps, ∀ z ∈ p.xs, I64 z) : Ts w (some ⟨G, 0, none⟩) n (ps.map Cp.tn) := by
  subst hl; exact h.ts hbd
instance TTs.lit1 {w : World} {B : Option Addr} {g n c : Nat} {T : TypeId} {ts : List Tn} [h : Bx w g T #[.slice B n c]] [s : Ts w B n ts] : TTs w (some ⟨g, 0, none⟩) 1 [⟨B, c, ts⟩] :=
  ⟨fun j l hj => by
    obtain ⟨s, rfl⟩ := s
    match j with
    | 0 => simp at hj; subst hj; exact ⟨g, 0, rfl, h.blk.lt, h.blk.cell 0, s⟩
    | j + 1 => simp at hj, rfl⟩
instance TTs.lit3 {w : World} {B C D : Option Addr} {g n c m d p e : Nat} {T : TypeId} {ts us vs : List Tn} [h : Bx w g T #[.slice B n c, .slice C m d, .slice D p e]] [s : Ts w B n ts] [x : Ts w C m us] [y : Ts w D p vs] : TTs w (some ⟨g, 0, none⟩) 3 [⟨B, c, ts⟩, ⟨C, d, us⟩, ⟨D, e, vs⟩] :=
  ⟨fun j l hj => by
    obtain ⟨s, rfl⟩ := s
    obtain ⟨x, rfl⟩ := x
    obtain ⟨y, rfl⟩ := y
    match j with
    | 0 => simp at hj; subst hj; exact ⟨g, 0, rfl, h.blk.lt, h.blk.cell 0, s⟩
    | 1 => simp at hj; subst hj; exact ⟨g, 0, rfl, h.blk.lt, h.blk.cell 1, x⟩
    | 2 => simp at hj; subst hj; exact ⟨g, 0, rfl, h.blk.lt, h.blk.cell 2, y⟩
    | j + 3 => simp at hj, rfl⟩
/-- Raised by one. -/
def raise (x : Int) : Int := IntKind.i64.wrap (x + 1)
def rowI (_ : Nat) (t : Tn) : List Int := mix (fun i => raise (t.xs.getD i 0)) t.xs t.xs.length
theorem raise_bd (x : Int) : I64 (raise x) := by
  unfold raise I64
  rw [IntKind.wrap_i64]
  omega
theorem raise_ne (x : Int) : raise x ≠ x := by
  unfold raise
  rw [IntKind.wrap_i64]
  omega
section
variable {w : World} {A B C D : Option Addr} {n m c d n' m' c' d' : Nat} {zs xs : List Int} {ts us : List Tn}
theorem aT_equalT24 [a : Sl w A n zs] [b : Sl w B m xs] [a' : Sl w C n' zs] [b' : Sl w D m' xs] (hn : n ≤ 1000000) (hm : m ≤ 1000000) (hn' : n' ≤ 1000000) : Calls Try.prog 46 #[.agg #[.slice A n c, .slice B m d], .agg #[.slice C n' c', .slice D m' d']] w (RetV w (.bool true)) :=
  retV_of (aT_equal hn hm hn') (by simp)
theorem op_normS [a : Ts w A n ts] (hn : n ≤ 1000000) (hz : Hid (Mo ts)) {S : Int} (h : Hid (normI ts = S)) : Calls Try.prog 45 #[.slice A n c] w (RetV w (.int .i64 S)) := retV_of (op_norm hn hz) (by rw [h.out])
end

end Go.Proofs.Ytphcffcecncngaa

namespace Go.Proofs.Ytphcffcecncngaa
open Go.RowKit Go.ChangeShapes Go.WideShapes Go.Deep

/-- A slice of tensors among the parameters. -/
structure TensIn (W : World) (A : Option Addr) (c : Nat) (ts : List Tn) : Prop where
  rd : TRd W A ts
  le : ts.length ≤ c
  max : c ≤ maxLen
section
variable {H : Type} {enc : TypeId × Value → H} {W : World} {base : Nat} {held : Bool}
theorem cell_none {a : Addr} {v : Value} (h : W.cell? a = some v) : ∃ b o, a = ⟨b, o, none⟩ := by
  obtain ⟨b, off, sp⟩ := a
  cases sp with
  | none => exact ⟨b, off, rfl⟩
  | some s =>
    exfalso
    simp [World.cell?] at h
    split at h <;> simp at h
theorem add_plain (b o k : Nat) : (⟨b, o, none⟩ : Addr).add k = ⟨b, o + k, none⟩ := by
  unfold Addr.add
  split
  · rename_i e; subst e; rfl
  · rfl
set_option maxRecDepth 100000 in
theorem trod_grid {fuel : Nat} {cs : List Value} {x : DataW H × List MemPlace} (h : DataW.trod enc Try.prog W base (fun _ => true) held fuel 65 cs = some x) (hl : cs.length = 2) :
    ∃ A c zs B d xs, cs = [.slice A zs.length c, .slice B xs.length d] ∧ IntsIn W A c zs ∧ IntsIn W B d xs := by
  match cs, hl with
  | [v0, v1], _ =>
    obtain ⟨_, _, h0⟩ := fld Try.underlying65 h 0 _ rfl
    obtain ⟨_, _, h1⟩ := fld Try.underlying65 h 1 _ rfl
    replace h0 : DataW.trod enc Try.prog W base (fun _ => true) held _ 62 [v0] = some _ := h0
    replace h1 : DataW.trod enc Try.prog W base (fun _ => true) held _ 63 [v1] = some _ := h1
    obtain ⟨A, c, zs, rfl, i0⟩ := trod_ints Try.underlying62 Try.underlying3 (by kernel_rfl) h0
    obtain ⟨B, d, xs, rfl, i1⟩ := trod_ints Try.underlying63 Try.underlying45 (by kernel_rfl) h1
    exact ⟨A, c, zs, B, d, xs, rfl, i0, i1⟩
set_option maxRecDepth 100000 in
theorem trod_tens {fuel : Nat} {v : Value} {x : DataW H × List MemPlace} (h : DataW.trod enc Try.prog W base (fun _ => true) held fuel 58 [v] = some x) : ∃ A c ts, v = .slice A (List.length ts) c ∧ TensIn W A c ts := by
  rcases open_slice Try.underlying58 h with ⟨hcs, _⟩ | ⟨a, len, cap, m, n, D, Pl, hcs, _, hl, hm, hmm, _, hi⟩
  · injection hcs with hcs; subst hcs
    exact ⟨none, 0, [], rfl, TRd.nil _ _, Nat.le_refl _, Nat.zero_le _⟩
  · injection hcs with hcs; subst hcs
    simp only [if_true] at hmm
    subst hmm
    have hC : Try.prog.cellsOf 65 = 2 := by kernel_rfl
    have key : ∀ i, i < m → ∃ (b o : Nat) (t : Tn), a = ⟨b, o, none⟩ ∧ TIn W b (o + i * 2) t := by
      intro i him
      obtain ⟨cs', hc, ht⟩ := hi i him
      rw [hC] at hc
      obtain ⟨_, hcl, hat⟩ := World.cells?_some hc
      obtain ⟨A, c, zs, B, d, xs, rfl, i0, i1⟩ := trod_grid ht hcl
      have g0 := hat 0 (by omega)
      have g1 := hat 1 (by omega)
      rw [Go.Deep.add_add] at g0 g1
      have ea : ∃ b o, a = ⟨b, o, none⟩ := by
        obtain ⟨cs0, hc0, ht0⟩ := hi 0 (by omega)
        rw [hC] at hc0
        obtain ⟨_, hcl0, hat0⟩ := World.cells?_some hc0
        obtain ⟨_, _, _, _, _, _, rfl, _, _⟩ := trod_grid ht0 hcl0
        have g := hat0 0 (by omega)
        rw [Go.Deep.add_add] at g
        exact cell_none (show W.cell? (a.add 0) = some _ from g)
      obtain ⟨b', o', rfl⟩ := ea
      rw [add_plain] at g0 g1
      exact ⟨b', o', ⟨A, c, zs, B, d, xs⟩, rfl, World.block_lt_of_cell? W _ g0, g0, g1, i0.rd, i1.rd, i1.2.1, fun z hz => wf_bounds (i1.2.2.2 z hz)⟩
    have all : ∀ k, k ≤ m → ∃ ts : List Tn, ts.length = k ∧ TRd W (some a) ts := by
      intro k
      induction k with
      | zero => intro _; exact ⟨[], rfl, TRd.nil _ _⟩
      | succ k ih =>
        intro hk
        obtain ⟨ts, hlen, hrd⟩ := ih (by omega)
        obtain ⟨b, o, t, rfl, ht⟩ := key k (by omega)
        refine ⟨ts ++ [t], by simp [hlen], fun j u hj => ?_⟩
        by_cases hjk : j < k
        · rw [List.getElem?_append_left (by omega)] at hj
          exact hrd j u hj
        · have : j = k := by
            have := (List.getElem?_eq_some_iff.1 hj).1
            simp at this; omega
          subst this
          rw [List.getElem?_append_right (by omega), hlen] at hj
          simp at hj; subst hj
          exact ⟨b, o, rfl, ht⟩
    obtain ⟨ts, hlen, hrd⟩ := all len hl
    exact ⟨some a, m, ts, by rw [hlen], hrd, by omega, hm⟩
set_option maxRecDepth 100000 in
theorem arg_tens {b0 : Nat} {v : Value} {d : DataW H} {p : List MemPlace} (hval : Value.okWide Try.prog W .any b0 58 v) (h : DataW.Trod enc Try.prog W base (fun _ => true) held 58 v d p) : ∃ A c ts, v = .slice A (List.length ts) c ∧ TensIn W A c ts := by
  obtain ⟨a, l, c, rfl⟩ := okWide_slice Try.underlying58 hval
  obtain ⟨fuel, hf⟩ := h
  exact trod_tens hf
end

end Go.Proofs.Ytphcffcecncngaa

namespace Go.Proofs.Ytphcffcecncngaa
open Go.RowKit Go.ChangeShapes Go.WideShapes Go.Deep

/-- No slice of the datum takes more than the reach. -/
def Wt {H : Type} (t : TypeId) (d : DataW H) : Prop := ∀ n ∈ d.weights Try.prog t, n ≤ reachBytes
abbrev reach8 : Nat := 17592186043904
theorem wt_each {H : Type} {ts : List TypeId} {ds : List (DataW H)} (h : (DataW.weightsEach Try.prog ts ds).all (· ≤ reachBytes) = true) {j : Nat} {t : TypeId} {d : DataW H} (ht : ts[j]? = some t) (hd : ds[j]? = some d) : Wt t d :=
  fun n hn => by simpa using List.all_eq_true.1 h _ (DataW.weights_mem_each ht hd n hn)
section
variable {H : Type} {enc : TypeId × Value → H} {W : World} {base : Nat} {held : Bool}
theorem trod_intsW {T E : TypeId} {fuel : Nat} {v : Value} {x : DataW H × List MemPlace} (hT : Try.prog.underlying T = some (.slice E)) (hE : Try.prog.underlying E = some (.int .i64)) (hc : Try.prog.cellsOf E = 1) (hb : Try.prog.bytesOf E = 8)
    (h : DataW.trod enc Try.prog W base (fun _ => true) held fuel T [v] = some x) (hw : Wt T x.1) : ∃ A c zs, v = .slice A (List.length zs) c ∧ IntsIn W A c zs ∧ zs.length ≤ reach8 := by
  obtain ⟨A, c, zs, rfl, hi⟩ := trod_ints hT hE hc h
  refine ⟨A, c, zs, rfl, hi, ?_⟩
  rcases open_ints hT hE hc h with ⟨hcs, _⟩ | ⟨a, l, c, zs', hcs, _, hl, hm, hz, hx, _, _⟩
  · injection hcs with hcs; injection hcs with _ e _; omega
  · injection hcs with hcs
    injection hcs with _ e _
    subst hx
    have := hw ((((zs'.take l).length + (zs'.drop l).length)) * 8) (by simp [DataW.weights, hT, hb, lits])
    simp only [if_true] at hz
    simp [reachBytes] at this
    unfold reach8
    omega
set_option maxRecDepth 100000 in
theorem trod_gridW {fuel : Nat} {cs : List Value} {x : DataW H × List MemPlace} (h : DataW.trod enc Try.prog W base (fun _ => true) held fuel 65 cs = some x) (hl : cs.length = 2) (hw : Wt 65 x.1) :
    ∃ A c zs B d xs, cs = [.slice A (List.length zs) c, .slice B (List.length xs) d] ∧ IntsIn W A c zs ∧ IntsIn W B d xs ∧ zs.length ≤ reach8 ∧ xs.length ≤ reach8 := by
  match cs, hl with
  | [v0, v1], _ =>
    obtain ⟨ys, n, _, hx, _, hyl, hg⟩ := DataW.trod_struct Try.underlying65 h
    match ys, hyl with
    | [y0, y1], _ =>
      have h0 : DataW.trod enc Try.prog W base (fun _ => true) held n 62 [v0] = some y0 := hg 0 _ rfl
      have h1 : DataW.trod enc Try.prog W base (fun _ => true) held n 63 [v1] = some y1 := hg 1 _ rfl
      have e : x.1 = .agg [y0.1, y1.1] := by rw [hx]; rfl
      have hws : ∀ n ∈ DataW.weightsEach Try.prog [62, 63] [y0.1, y1.1], n ≤ reachBytes := by
        intro n hn
        refine hw n ?_
        rw [e]
        simp only [DataW.weights, Try.underlying65]
        exact hn
      obtain ⟨A, c, zs, rfl, i0, l0⟩ := trod_intsW Try.underlying62 Try.underlying3 (by kernel_rfl) (by kernel_rfl) h0 (fun n hn => hws n (DataW.weights_mem_each (j := 0) rfl rfl n hn))
      obtain ⟨B, d, xs, rfl, i1, l1⟩ := trod_intsW Try.underlying63 Try.underlying45 (by kernel_rfl) (by kernel_rfl) h1 (fun n hn => hws n (DataW.weights_mem_each (j := 1) rfl rfl n hn))
      exact ⟨A, c, zs, B, d, xs, rfl, i0, i1, l0, l1⟩
theorem weightsAll_mem {e : TypeId} : ∀ {l : List (DataW H)} {d : DataW H}, d ∈ l → ∀ n ∈ d.weights Try.prog e, n ∈ DataW.weightsAll Try.prog e l
  | a :: l, d, h, n, hn => by
    simp only [DataW.weightsAll, List.mem_append]
    rcases List.mem_cons.1 h with rfl | h
    · exact .inl hn
    · exact .inr (weightsAll_mem h n hn)
/-- A slice of tensors among the parameters, all lengths within the reach. -/
structure TensW (W : World) (A : Option Addr) (c : Nat) (ts : List Tn) : Prop where
  rd : TRd W A ts
  big : ∀ t ∈ ts, t.zs.length ≤ reach8 ∧ t.xs.length ≤ reach8
  caps : ∀ t ∈ ts, t.zs.length ≤ t.c
  len : ts.length * 48 ≤ 140737488351232
  cap : ts.length ≤ c
set_option maxRecDepth 100000 in
theorem trod_tensW {fuel : Nat} {v : Value} {x : DataW H × List MemPlace} (h : DataW.trod enc Try.prog W base (fun _ => true) held fuel 58 [v] = some x) (hw : Wt 58 x.1) : ∃ A c ts, v = .slice A (List.length ts) c ∧ TensW W A c ts := by
  rcases open_slice Try.underlying58 h with ⟨hcs, _⟩ | ⟨a, len, cap, m, n, D, Pl, hcs, _, hl, hm, hmm, hx, hi⟩
  · injection hcs with hcs; subst hcs
    exact ⟨none, 0, [], rfl, TRd.nil _ _, by simp, by simp, by simp, Nat.le_refl _⟩
  · injection hcs with hcs; subst hcs
    simp only [if_true] at hmm
    subst hmm
    have hC : Try.prog.cellsOf 65 = 2 := by kernel_rfl
    have hB : Try.prog.bytesOf 65 = 48 := by kernel_rfl
    have hwd : ∀ i, i < len → Wt 65 (D i) := fun i hi n hn => by
      refine hw n ?_
      rw [hx]
      simp only [DataW.weights, Try.underlying58, List.mem_cons, List.mem_append]
      exact .inr (.inl (weightsAll_mem (List.mem_map.2 ⟨i, List.mem_range.2 hi, rfl⟩) n hn))
    have hlen : len * 48 ≤ 140737488351232 := by
      have := hw ((len + (m - len)) * 48) (by rw [hx]; simp [DataW.weights, Try.underlying58, hB])
      simp [reachBytes] at this
      omega
    have key : ∀ i, i < len → ∃ (b o : Nat) (t : Tn), a = ⟨b, o, none⟩ ∧ TIn W b (o + i * 2) t ∧ t.zs.length ≤ reach8 ∧ t.xs.length ≤ reach8 ∧ t.zs.length ≤ t.c := by
      intro i him
      obtain ⟨cs', hc, ht⟩ := hi i (by omega)
      rw [hC] at hc
      obtain ⟨_, hcl, hat⟩ := World.cells?_some hc
      obtain ⟨A, c, zs, B, d, xs, rfl, i0, i1, l0, l1⟩ := trod_gridW ht hcl (hwd i him)
      have g0 := hat 0 (by omega)
      have g1 := hat 1 (by omega)
      rw [Go.Deep.add_add] at g0 g1
      have ea : ∃ b o, a = ⟨b, o, none⟩ := by
        obtain ⟨cs0, hc0, ht0⟩ := hi 0 (by omega)
        rw [hC] at hc0
        obtain ⟨_, hcl0, hat0⟩ := World.cells?_some hc0
        obtain ⟨_, _, _, _, _, _, rfl, _, _⟩ := trod_grid ht0 hcl0
        have g := hat0 0 (by omega)
        rw [Go.Deep.add_add] at g
        exact cell_none (show W.cell? (a.add 0) = some _ from g)
      obtain ⟨b', o', rfl⟩ := ea
      rw [add_plain] at g0 g1
      exact ⟨b', o', ⟨A, c, zs, B, d, xs⟩, rfl, ⟨World.block_lt_of_cell? W _ g0, g0, g1, i0.rd, i1.rd, i1.2.1, fun z hz => wf_bounds (i1.2.2.2 z hz)⟩, l0, l1, i0.2.1⟩
    have all : ∀ k, k ≤ len → ∃ ts : List Tn, ts.length = k ∧ TRd W (some a) ts ∧ ∀ t ∈ ts, t.zs.length ≤ reach8 ∧ t.xs.length ≤ reach8 ∧ t.zs.length ≤ t.c := by
      intro k
      induction k with
      | zero => intro _; exact ⟨[], rfl, TRd.nil _ _, by simp⟩
      | succ k ih =>
        intro hk
        obtain ⟨ts, hlen, hrd, hbig⟩ := ih (by omega)
        obtain ⟨b, o, t, rfl, ht, hl⟩ := key k (by omega)
        refine ⟨ts ++ [t], by simp [hlen], fun j u hj => ?_, fun u hu => ?_⟩
        · by_cases hjk : j < k
          · rw [List.getElem?_append_left (by omega)] at hj
            exact hrd j u hj
          · have : j = k := by
              have := (List.getElem?_eq_some_iff.1 hj).1
              simp at this; omega
            subst this
            rw [List.getElem?_append_right (by omega), hlen] at hj
            simp at hj; subst hj
            exact ⟨b, o, rfl, ht⟩
        · rcases List.mem_append.1 hu with hu | hu
          · exact hbig u hu
          · simp at hu; subst hu; exact hl
    obtain ⟨ts, hts, hrd, hbig⟩ := all len (Nat.le_refl _)
    exact ⟨some a, m, ts, by rw [hts], hrd, fun t ht => ⟨(hbig t ht).1, (hbig t ht).2.1⟩, fun t ht => (hbig t ht).2.2, by omega, by omega⟩
set_option maxRecDepth 100000 in
theorem arg_tensW {b0 : Nat} {v : Value} {d : DataW H} {p : List MemPlace} (hval : Value.okWide Try.prog W .any b0 58 v) (h : DataW.Trod enc Try.prog W base (fun _ => true) held 58 v d p) (hw : Wt 58 d) : ∃ A c ts, v = .slice A (List.length ts) c ∧ TensW W A c ts := by
  obtain ⟨a, l, c, rfl⟩ := okWide_slice Try.underlying58 hval
  obtain ⟨fuel, hf⟩ := h
  exact trod_tensW hf hw
end

end Go.Proofs.Ytphcffcecncngaa

namespace Go.Proofs.Ytphcffcecncngaa
open Go.RowKit Go.ChangeShapes Go.WideShapes Go.Deep

section
variable {H : Type} {enc : TypeId × Value → H} {W : World} {base : Nat} {held : Bool}
/-- A field of a struct that was read, and the bound on it. -/
theorem fldW {T : TypeId} {fs : Array Field} {fuel : Nat} {cs : List Value} {x : DataW H × List MemPlace} {spare : Nat → Bool} (hT : Try.prog.underlying T = some (.struct fs)) (h : DataW.trod enc Try.prog W base spare held fuel T cs = some x) (hw : Wt T x.1)
    (i : Nat) (f : Field) (hf : fs[i]? = some f) : ∃ n y, DataW.trod enc Try.prog W base spare held n f.type ((cs.drop f.offset).take (Try.prog.cellsOf f.type)) = some y ∧ Wt f.type y.1 := by
  obtain ⟨xs, n, _, hx, _, hl, hg⟩ := DataW.trod_struct hT h
  have hi : i < xs.length := by rw [hl]; exact (Array.getElem?_eq_some_iff.1 hf).1
  refine ⟨n, xs[i], (hg i f hf).trans (List.getElem?_eq_getElem hi), fun m hm => hw m ?_⟩
  rw [hx]
  simp only [DataW.weights, hT]
  refine DataW.weights_mem_each (j := i) (t := f.type) (d := xs[i].1) ?_ ?_ m hm
  · simp [hf]
  · simp [List.getElem?_eq_getElem hi]
set_option maxRecDepth 100000 in
theorem arg_grid {b0 : Nat} {v : Value} {d : DataW H} {p : List MemPlace} (hval : Value.okWide Try.prog W .any b0 65 v) (h : DataW.Trod enc Try.prog W base (fun _ => true) held 65 v d p) (hw : Wt 65 d) :
    ∃ A c zs B d xs, v = .agg #[.slice A (List.length zs) c, .slice B (List.length xs) d] ∧ IntsIn W A c zs ∧ IntsIn W B d xs ∧ zs.length ≤ reach8 ∧ xs.length ≤ reach8 := by
  obtain ⟨cs, rfl, hsz⟩ := okWide_struct Try.underlying65 hval
  obtain ⟨q0, q1, rfl⟩ := arr2 (hsz.trans (by kernel_rfl))
  obtain ⟨fuel, hf⟩ := h
  obtain ⟨A, c, zs, B, d, xs, e, r⟩ := trod_gridW hf rfl hw
  simp only [Value.cells] at e
  injection e with e0 e1; injection e1 with e1 _; subst e0 e1
  exact ⟨A, c, zs, B, d, xs, rfl, r⟩
end

end Go.Proofs.Ytphcffcecncngaa

namespace Go.Proofs.Ytphcffcecncngaa
open Go.RowKit Go.ChangeShapes Go.WideShapes Go.Deep

section
variable {H : Type} {enc : TypeId × Value → H} {W : World} {base : Nat} {held : Bool}
theorem TensW.l8 {A : Option Addr} {c : Nat} {ts : List Tn} (h : TensW W A c ts) : ts.length ≤ 17592186043904 := by have := h.len; omega
set_option maxRecDepth 100000 in
theorem arg_case24 {b0 : Nat} {v : Value} {d : DataW H} {p : List MemPlace} (hval : Value.okWide Try.prog W .any b0 72 v) (h : DataW.Trod enc Try.prog W base (fun _ => true) held 72 v d p) (hw : Wt 72 d) :
    ∃ A c ts B c' us r m dd cl dr ev st C c'' gs, v = .agg #[.slice A (List.length ts) c, .slice B (List.length us) c', .int .i64 r, .int .i64 m, .int .i64 dd, .int .i64 cl, .int .i64 dr, .int .i64 ev, .int .i64 st, .slice C (List.length gs) c''] ∧
      TensW W A c ts ∧ TensW W B c' us ∧ TensW W C c'' gs ∧ I64 r ∧ I64 m ∧ I64 dd ∧ I64 cl ∧ I64 dr := by
  obtain ⟨cs, rfl, hsz⟩ := okWide_struct Try.underlying72 hval
  obtain ⟨q0, q1, q2, q3, q4, q5, q6, q7, q8, q9, rfl⟩ := arr10 (hsz.trans (by kernel_rfl))
  obtain ⟨fuel, hf⟩ := h
  obtain ⟨_, _, h0, w0⟩ := fldW Try.underlying72 hf hw 0 _ rfl
  obtain ⟨_, _, h1, w1⟩ := fldW Try.underlying72 hf hw 1 _ rfl
  obtain ⟨_, _, h2, w2⟩ := fldW Try.underlying72 hf hw 2 _ rfl
  obtain ⟨_, _, h3, w3⟩ := fldW Try.underlying72 hf hw 3 _ rfl
  replace h0 : DataW.trod enc Try.prog W base (fun _ => true) held _ 70 [q0, q1] = some _ := h0
  replace h1 : DataW.trod enc Try.prog W base (fun _ => true) held _ 47 [q2, q3, q4, q5, q6, q7] = some _ := h1
  replace h2 : DataW.trod enc Try.prog W base (fun _ => true) held _ 3 [q8] = some _ := h2
  replace h3 : DataW.trod enc Try.prog W base (fun _ => true) held _ 58 [q9] = some _ := h3
  obtain ⟨_, _, h00, w00⟩ := fldW Try.underlying70 h0 w0 0 _ rfl
  obtain ⟨_, _, h01, w01⟩ := fldW Try.underlying70 h0 w0 1 _ rfl
  replace h00 : DataW.trod enc Try.prog W base (fun _ => true) held _ 58 [q0] = some _ := h00
  replace h01 : DataW.trod enc Try.prog W base (fun _ => true) held _ 58 [q1] = some _ := h01
  obtain ⟨_, _, k0⟩ := fld Try.underlying47 h1 0 _ rfl
  obtain ⟨_, _, k1⟩ := fld Try.underlying47 h1 1 _ rfl
  obtain ⟨_, _, k2⟩ := fld Try.underlying47 h1 2 _ rfl
  obtain ⟨_, _, k3⟩ := fld Try.underlying47 h1 3 _ rfl
  obtain ⟨_, _, k4⟩ := fld Try.underlying47 h1 4 _ rfl
  obtain ⟨_, _, k5⟩ := fld Try.underlying47 h1 5 _ rfl
  replace k0 : DataW.trod enc Try.prog W base (fun _ => true) held _ 45 [q2] = some _ := k0
  replace k1 : DataW.trod enc Try.prog W base (fun _ => true) held _ 45 [q3] = some _ := k1
  replace k2 : DataW.trod enc Try.prog W base (fun _ => true) held _ 45 [q4] = some _ := k2
  replace k3 : DataW.trod enc Try.prog W base (fun _ => true) held _ 45 [q5] = some _ := k3
  replace k4 : DataW.trod enc Try.prog W base (fun _ => true) held _ 45 [q6] = some _ := k4
  replace k5 : DataW.trod enc Try.prog W base (fun _ => true) held _ 3 [q7] = some _ := k5
  obtain ⟨r, rfl, i0⟩ := trod_int1 Try.underlying45 k0
  obtain ⟨m, rfl, i1⟩ := trod_int1 Try.underlying45 k1
  obtain ⟨dd, rfl, i2⟩ := trod_int1 Try.underlying45 k2
  obtain ⟨cl, rfl, i3⟩ := trod_int1 Try.underlying45 k3
  obtain ⟨dr, rfl, i4⟩ := trod_int1 Try.underlying45 k4
  obtain ⟨ev, rfl, -⟩ := trod_int1 Try.underlying3 k5
  obtain ⟨st, rfl, -⟩ := trod_int1 Try.underlying3 h2
  obtain ⟨A, c, ts, rfl, t0⟩ := trod_tensW h00 w00
  obtain ⟨B, c', us, rfl, t1⟩ := trod_tensW h01 w01
  obtain ⟨C, c'', gs, rfl, t2⟩ := trod_tensW h3 w3
  exact ⟨A, c, ts, B, c', us, r, m, dd, cl, dr, ev, st, C, c'', gs, rfl, t0, t1, t2, wf_bounds i0, wf_bounds i1, wf_bounds i2, wf_bounds i3, wf_bounds i4⟩
/-- A slice of lists of tensors among the parameters, all lengths within the reach. -/
structure TTW (W : World) (A : Option Addr) (ls : List TL) : Prop where
  rd : TTRd W A ls
  big : ∀ l ∈ ls, l.ts.length ≤ 17592186043904 ∧ Bigs l.ts
  len : ls.length ≤ 17592186043904
set_option maxRecDepth 100000 in
theorem trod_ttensW {fuel : Nat} {v : Value} {x : DataW H × List MemPlace} (h : DataW.trod enc Try.prog W base (fun _ => true) held fuel 56 [v] = some x) (hw : Wt 56 x.1) : ∃ A c ls, v = .slice A (List.length ls) c ∧ TTW W A ls := by
  rcases open_slice Try.underlying56 h with ⟨hcs, _⟩ | ⟨a, len, cap, m, n, D, Pl, hcs, _, hl, hm, hmm, hx, hi⟩
  · injection hcs with hcs; subst hcs
    exact ⟨none, 0, [], rfl, (fun j l hj => by simp at hj), by simp, by simp⟩
  · injection hcs with hcs; subst hcs
    simp only [if_true] at hmm
    subst hmm
    have hC : Try.prog.cellsOf 58 = 1 := by kernel_rfl
    have hB : Try.prog.bytesOf 58 = 24 := by kernel_rfl
    have hwd : ∀ i, i < len → Wt 58 (D i) := fun i hi n hn => by
      refine hw n ?_
      rw [hx]
      simp only [DataW.weights, Try.underlying56, List.mem_cons, List.mem_append]
      exact .inr (.inl (weightsAll_mem (List.mem_map.2 ⟨i, List.mem_range.2 hi, rfl⟩) n hn))
    have hlen : len * 24 ≤ 140737488351232 := by
      have := hw ((len + (m - len)) * 24) (by rw [hx]; simp [DataW.weights, Try.underlying56, hB])
      simp [reachBytes] at this
      omega
    have key : ∀ i, i < len → ∃ (b o : Nat) (l : TL), a = ⟨b, o, none⟩ ∧ b < W.heap.size ∧ W.cell? ⟨b, o + i, none⟩ = some (.slice l.A l.ts.length l.c) ∧ TRd W l.A l.ts ∧ l.ts.length ≤ 17592186043904 ∧ Bigs l.ts := by
      intro i him
      obtain ⟨cs', hc, ht⟩ := hi i (by omega)
      rw [hC] at hc
      obtain ⟨_, hcl, hat⟩ := World.cells?_some hc
      match cs', hcl with
      | [u], _ =>
        obtain ⟨A, c, ts, rfl, tw⟩ := trod_tensW ht (hwd i him)
        have g0 := hat 0 (by omega)
        rw [Go.Deep.add_add] at g0
        have g0' : W.cell? (a.add (i * 1 + 0)) = some (.slice A ts.length c) := g0
        have ea : ∃ b o, a = ⟨b, o, none⟩ := by
          obtain ⟨cs0, hc0, ht0⟩ := hi 0 (by omega)
          rw [hC] at hc0
          obtain ⟨_, hcl0, hat0⟩ := World.cells?_some hc0
          match cs0, hcl0 with
          | [u0], _ =>
            obtain ⟨A0, c0, ts0, rfl, _⟩ := trod_tensW ht0 (hwd 0 (by omega))
            have g := hat0 0 (by omega)
            rw [Go.Deep.add_add] at g
            exact cell_none (show W.cell? (a.add 0) = some _ from g)
        obtain ⟨b', o', rfl⟩ := ea
        rw [add_plain, Nat.mul_one, Nat.add_zero] at g0'
        exact ⟨b', o', ⟨A, c, ts⟩, rfl, World.block_lt_of_cell? W _ g0', g0', tw.rd, tw.l8, tw.big⟩
    have all : ∀ k, k ≤ len → ∃ ls : List TL, ls.length = k ∧ TTRd W (some a) ls ∧ ∀ l ∈ ls, l.ts.length ≤ 17592186043904 ∧ Bigs l.ts := by
      intro k
      induction k with
      | zero => intro _; exact ⟨[], rfl, (fun j l hj => by simp at hj), by simp⟩
      | succ k ih =>
        intro hk
        obtain ⟨ls, hlen, hrd, hbig⟩ := ih (by omega)
        obtain ⟨b, o, l, rfl, e1, e2, e3, e4, e5⟩ := key k (by omega)
        refine ⟨ls ++ [l], by simp [hlen], fun j u hj => ?_, fun u hu => ?_⟩
        · by_cases hjk : j < k
          · rw [List.getElem?_append_left (by omega)] at hj
            exact hrd j u hj
          · have : j = k := by
              have := (List.getElem?_eq_some_iff.1 hj).1
              simp at this; omega
            subst this
            rw [List.getElem?_append_right (by omega), hlen] at hj
            simp at hj; subst hj
            exact ⟨b, o, rfl, e1, e2, e3⟩
        · rcases List.mem_append.1 hu with hu | hu
          · exact hbig u hu
          · simp at hu; subst hu; exact ⟨e4, e5⟩
    obtain ⟨ls, hls, hrd, hbig⟩ := all len (Nat.le_refl _)
    exact ⟨some a, m, ls, by rw [hls], hrd, hbig, by omega⟩
set_option maxRecDepth 100000 in
theorem arg_ttensW {b0 : Nat} {v : Value} {d : DataW H} {p : List MemPlace} (hval : Value.okWide Try.prog W .any b0 56 v) (h : DataW.Trod enc Try.prog W base (fun _ => true) held 56 v d p) (hw : Wt 56 d) : ∃ A c ls, v = .slice A (List.length ls) c ∧ TTW W A ls := by
  obtain ⟨a, l, c, rfl⟩ := okWide_slice Try.underlying56 hval
  obtain ⟨fuel, hf⟩ := h
  exact trod_ttensW hf hw
end

end Go.Proofs.Ytphcffcecncngaa

namespace Go.Proofs.Ytphcffcecncngaa
open Go.RowKit

section
variable {w : World} {A : Option Addr} {n c : Nat} {ls : List TL}
theorem op_mean_bad [a : TTs w A n ls] (hn : n ≤ 1000000) (hn0 : 0 < n) (hz : Hid (Mos ls)) {l0 : TL} (h0 : Hid (ls[0]? = some l0)) (hb : Hid (alikesB l0.ts ls = false)) :
    Calls Try.prog 33 #[.slice A n c] w (RetN w 20) := (op_mean hn hn0 hz h0 (Lib.hid rfl) hb).mono fun e u h => by
  rcases h with ⟨-, h⟩ | ⟨h, -⟩
  · exact h
  · cases h
theorem op_mean_ok [a : TTs w A n ls] (hn : n ≤ 1000000) (hn0 : 0 < n) (hz : Hid (Mos ls)) {l0 : TL} (h0 : Hid (ls[0]? = some l0)) {N : Nat} (hN : Hid (l0.ts.length = N)) (hb : Hid (alikesB l0.ts ls = true)) :
    Calls Try.prog 33 #[.slice A n c] w (RetM w l0.ts N (rowM ls)) := (op_mean hn hn0 hz h0 hN hb).mono fun e u h => by
  rcases h with ⟨h, -⟩ | ⟨-, h⟩
  · cases h
  · exact h
end
set_option maxRecDepth 100000 in
set_option maxHeartbeats 40000000 in
theorem optimMeans_calls (A : Option Addr) (c : Nat) (ls : List TL) (w : World) (h : TTW w A ls) :
    Calls Try.prog 9 #[.slice A ls.length c] w (LawTrue w) := by
  obtain ⟨n, hn⟩ : ∃ n, ls.length = n := ⟨_, rfl⟩
  have l8 := h.len
  rw [hn] at l8 ⊢
  have a : TTs w A n ls := ⟨h.rd, hn.symm⟩
  have HN := Lib.hid hn
  have HB := Lib.hid h.big
  clear h
  have CB := @cell_bx
  have CP := @cell_prev
  rcases hs : decide (sumTT ls ≤ 1000) with _ | _
  · go_enter Try.func9, Try.ntmps9
    go_wp2_with (first | (go_at_call 32; (try first | (with_reducible refine gen_boxK3 (fun u _ _ _ _ => ?_)) | (with_reducible refine gen_boxK2 (fun u _ _ _ => ?_)) | (with_reducible refine gen_boxK (fun u _ _ => ?_))); (with_reducible refine (a24_small (by omega) HB).mono ?_); rintro e u ⟨rfl, _⟩) | (go_at_call 30; (try first | (with_reducible refine gen_boxK3 (fun u _ _ _ _ => ?_)) | (with_reducible refine gen_boxK2 (fun u _ _ _ => ?_)) | (with_reducible refine gen_boxK (fun u _ _ => ?_))); (with_reducible refine (a24_awake).mono ?_); rintro e u ⟨rfl, _⟩))
    go_ret
    exact ⟨rfl, bel w _⟩
  by_cases hn1 : 100 < n
  · go_enter Try.func9, Try.ntmps9
    go_wp2_with (first | (go_at_call 32; (try first | (with_reducible refine gen_boxK3 (fun u _ _ _ _ => ?_)) | (with_reducible refine gen_boxK2 (fun u _ _ _ => ?_)) | (with_reducible refine gen_boxK (fun u _ _ => ?_))); (with_reducible refine (a24_small (by omega) HB).mono ?_); rintro e u ⟨rfl, _⟩) | (go_at_call 30; (try first | (with_reducible refine gen_boxK3 (fun u _ _ _ _ => ?_)) | (with_reducible refine gen_boxK2 (fun u _ _ _ => ?_)) | (with_reducible refine gen_boxK (fun u _ _ => ?_))); (with_reducible refine (a24_awake).mono ?_); rintro e u ⟨rfl, _⟩))
    go_ret
    exact ⟨rfl, bel w _⟩
  have hsum : sumTT ls ≤ 1000 := by simpa using hs
  have hz : Hid (Mos ls) := Lib.hid fun l hl => by
    have h1 := sumTT_mem hl
    have h2 := sumT_len l.ts
    exact ⟨by omega, small_mo (by omega)⟩
  clear hsum hn
  by_cases hn0 : n = 0
  · subst hn0
    go_enter Try.func9, Try.ntmps9
    go_wp2_with (first | (go_at_call 32; (try first | (with_reducible refine gen_boxK3 (fun u _ _ _ _ => ?_)) | (with_reducible refine gen_boxK2 (fun u _ _ _ => ?_)) | (with_reducible refine gen_boxK (fun u _ _ => ?_))); (with_reducible refine (a24_small (by omega) HB).mono ?_); rintro e u ⟨rfl, _⟩) | (go_at_call 33; (try first | (with_reducible refine gen_boxK3 (fun u _ _ _ _ => ?_)) | (with_reducible refine gen_boxK2 (fun u _ _ _ => ?_)) | (with_reducible refine gen_boxK (fun u _ _ => ?_))); (with_reducible refine (op_mean_none).mono ?_); rintro e u ⟨rfl, _⟩) | (go_at_call 30; (try first | (with_reducible refine gen_boxK3 (fun u _ _ _ _ => ?_)) | (with_reducible refine gen_boxK2 (fun u _ _ _ => ?_)) | (with_reducible refine gen_boxK (fun u _ _ => ?_))); (with_reducible refine (a24_awake).mono ?_); rintro e u ⟨rfl, _⟩))
    go_ret
    exact ⟨rfl, bel w _⟩
  have hnp : 0 < n := by omega
  have hn00 : ((n : Int) == 0) = false := by rw [beq_eq_false_iff_ne]; omega
  obtain ⟨b0, o0, A0, c0, ts, rfl, ob0, q0, s0, hl0⟩ := a.get hnp
  obtain ⟨hm0, hz0'⟩ := hz.out _ (List.mem_of_getElem? hl0.out)
  have hz0 := Lib.hid hz0'
  simp only at hm0 hz0
  obtain ⟨N, hN'⟩ : ∃ N, ts.length = N := ⟨_, rfl⟩
  have hN := Lib.hid hN'
  rw [hN'] at q0 s0 hm0
  simp only [Nat.add_zero] at q0
  clear hz0' hN' hn0
  rcases hb : alikesB ts ls with _ | _
  · have HBB := Lib.hid hb
    clear hb
    go_enter Try.func9, Try.ntmps9
    go_wp2_with (first | (go_at_call 32; (try first | (with_reducible refine gen_boxK3 (fun u _ _ _ _ => ?_)) | (with_reducible refine gen_boxK2 (fun u _ _ _ => ?_)) | (with_reducible refine gen_boxK (fun u _ _ => ?_))); (with_reducible refine (a24_small (by omega) HB).mono ?_); rintro e u ⟨rfl, _⟩) | (go_at_call 33; (try first | (with_reducible refine gen_boxK3 (fun u _ _ _ _ => ?_)) | (with_reducible refine gen_boxK2 (fun u _ _ _ => ?_)) | (with_reducible refine gen_boxK (fun u _ _ => ?_))); (with_reducible refine (op_mean_bad (by omega) hnp hz hl0 HBB).mono ?_); rintro e u ⟨rfl, _⟩))
    obtain ⟨v, rfl⟩ : ∃ v : World, v = u := ⟨_, rfl⟩
    go_loopw [41] (fun i wr => ∃ k : Nat, k ≤ n ∧ i = .int .i64 k ∧ Hid (alikesB ts (ls.take k) = true) ∧ Prev wr v) (fun i _ => n - (intOf i).toNat)
    case atStart => exact ⟨0, Nat.zero_le _, rfl, Lib.hid rfl, prev_bel _ _⟩
    case round =>
      obtain ⟨k, hk, rfl, HA, hp⟩ := hrel
      by_cases hlt : k < n
      · obtain ⟨b1, o1, A1, c1, us, e1, ob1, q1, s1, hl1⟩ := a.get hlt
        injection e1 with e1
        injection e1 with e1 e1'
        subst e1 e1'
        obtain ⟨hm1, hz1'⟩ := hz.out _ (List.mem_of_getElem? hl1.out)
        have hz1 := Lib.hid hz1'
        simp only at hm1 hz1
        clear hz1'
        rcases hal : alikeTB ts us with _ | _
        · go_wp2_with (first | (go_at_call 34; (try first | (with_reducible refine gen_boxK3 (fun u _ _ _ _ => ?_)) | (with_reducible refine gen_boxK2 (fun u _ _ _ => ?_)) | (with_reducible refine gen_boxK (fun u _ _ => ?_))); (with_reducible refine (a24_alike (by omega) (by omega) hz0 hz1).mono ?_); rintro e u ⟨rfl, _⟩) | (go_at_call 30; (try first | (with_reducible refine gen_boxK3 (fun u _ _ _ _ => ?_)) | (with_reducible refine gen_boxK2 (fun u _ _ _ => ?_)) | (with_reducible refine gen_boxK (fun u _ _ => ?_))); (with_reducible refine (a24_awake).mono ?_); rintro e u ⟨rfl, _⟩))
          go_ret
          exact ⟨rfl, bel w _⟩
        · have HA' : Hid (alikesB ts (ls.take (k + 1)) = true) := Lib.hid ((all_step (f := fun l : TL => alikeTB ts l.ts) hl1.out HA.out).trans hal)
          go_wp2_with (first | (go_at_call 34; (try first | (with_reducible refine gen_boxK3 (fun u _ _ _ _ => ?_)) | (with_reducible refine gen_boxK2 (fun u _ _ _ => ?_)) | (with_reducible refine gen_boxK (fun u _ _ => ?_))); (with_reducible refine (a24_alike (by omega) (by omega) hz0 hz1).mono ?_); rintro e u ⟨rfl, _⟩))
          go_roundw
          case rel => exact ⟨k + 1, by omega, by go_num, HA', prev_bel _ _⟩
          case measure => simp [intOf]; omega
      · exfalso
        have h1 := HA.out
        rw [List.take_of_length_le (by rw [HN.out]; omega), HBB.out] at h1
        cases h1
  have HBB := Lib.hid hb
  have HALL : Hid (∀ (q : Nat) (l : TL), ls[q]? = some l → alikeTB ts l.ts = true) := Lib.hid fun q l hq => List.all_eq_true.1 hb l (List.mem_of_getElem? hq)
  have HBD := Lib.hid s0.rd.bd
  have HVD : Hid (validB ts = true) := Lib.hid (by
    have h1 := HALL.out 0 _ hl0.out
    simp only [alikeTB, Bool.and_eq_true] at h1
    exact h1.1.1.2)
  clear hb
  go_enter Try.func9, Try.ntmps9
  go_upto_region 4 with (first | (go_at_call 32; (try first | (with_reducible refine gen_boxK3 (fun u _ _ _ _ => ?_)) | (with_reducible refine gen_boxK2 (fun u _ _ _ => ?_)) | (with_reducible refine gen_boxK (fun u _ _ => ?_))); (with_reducible refine (a24_small (by omega) HB).mono ?_); rintro e u ⟨rfl, _⟩) | (go_at_call 33; (try first | (with_reducible refine gen_boxK3 (fun u _ _ _ _ => ?_)) | (with_reducible refine gen_boxK2 (fun u _ _ _ => ?_)) | (with_reducible refine gen_boxK (fun u _ _ => ?_))); (with_reducible refine (op_mean_ok (by omega) hnp hz hl0 hN HBB).mono ?_); rintro e u ⟨G9, ps9, rfl, CC9, H9, _⟩))
  have lp : ps9.length = N := H9.out.len.trans hN.out
  have bp := H9.out.bd HBD.out (fun j t _ z hz => by obtain ⟨i, hi⟩ := mix_mem hz; rw [hi]; exact fdiv_bd (fsum_bd _) (fint_bd _))
  have sM0 : Sim ts (ps9.map Cp.tn) := H9.out.sim (fun j t _ => by rw [rowM, mix_len])
  have HMR : Hid (∀ (i : Nat) (t p : Tn), ts[i]? = some t → (ps9.map Cp.tn)[i]? = some p → p.zs = t.zs ∧ p.xs = rowM ls i t) := Lib.hid (fun i t p ht hp => by
    rw [List.getElem?_map] at hp
    obtain ⟨q, hq, rfl⟩ := Option.map_eq_some_iff.1 hp
    obtain ⟨a1, a2⟩ := H9.out.at_ i q t hq ht
    have hi := (List.getElem?_eq_some_iff.1 ht).1
    rw [hN.out] at hi
    rw [if_pos hi] at a2
    exact ⟨a1, a2⟩)
  obtain ⟨Mt, hMt⟩ : ∃ Mt, ps9.map Cp.tn = Mt := ⟨_, rfl⟩
  have tM : Ts u (some ⟨G9, 0, none⟩) N Mt := by rw [← hMt]; exact CC9.tens lp bp
  rw [hMt] at HMR sM0
  have zM := Lib.hid (sM0.mo hz0.out)
  have aM : alikeTB Mt ts = true := sM0.symm.alike (sM0.valid HVD.out)
  clear CC9 H9 hMt lp bp sM0
  obtain ⟨v, rfl⟩ : ∃ v : World, v = u := ⟨_, rfl⟩
  go_wp2_with fail
  go_loopw [41] (fun i wr => ∃ k : Nat, k ≤ n ∧ i = .int .i64 k ∧ Prev wr v) (fun i _ => n - (intOf i).toNat)
  case atStart => exact ⟨0, Nat.zero_le _, rfl, prev_bel _ _⟩
  case round =>
    obtain ⟨k, hk, rfl, hp⟩ := hrel
    by_cases hlt : k < n
    · obtain ⟨b1, o1, A1, c1, us, e1, ob1, q1, s1, hl1⟩ := a.get hlt
      injection e1 with e1
      injection e1 with e1 e1'
      subst e1 e1'
      obtain ⟨hm1, hz1'⟩ := hz.out _ (List.mem_of_getElem? hl1.out)
      have hz1 := Lib.hid hz1'
      simp only at hm1 hz1
      have hal : alikeTB ts us = true := HALL.out k _ hl1.out
      clear hz1'
      go_wp2_with (first | (go_at_call 34; (try first | (with_reducible refine gen_boxK3 (fun u _ _ _ _ => ?_)) | (with_reducible refine gen_boxK2 (fun u _ _ _ => ?_)) | (with_reducible refine gen_boxK (fun u _ _ => ?_))); (with_reducible refine (a24_alike (by omega) (by omega) hz0 hz1).mono ?_); rintro e u ⟨rfl, _⟩))
      go_roundw
      case rel => exact ⟨k + 1, by omega, by go_num, prev_bel _ _⟩
      case measure => simp [intOf]; omega
    · go_wp2_with (first | (go_at_call 34; (try first | (with_reducible refine gen_boxK3 (fun u _ _ _ _ => ?_)) | (with_reducible refine gen_boxK2 (fun u _ _ _ => ?_)) | (with_reducible refine gen_boxK (fun u _ _ => ?_))); (with_reducible refine (a24_alike (by omega) (by omega) zM hz0).mono ?_); rintro e u ⟨rfl, _⟩))
      obtain ⟨v2, rfl⟩ : ∃ v : World, v = u := ⟨_, rfl⟩
      go_loopw [74] (fun i wr => ∃ k : Nat, k ≤ N ∧ i = .int .i64 k ∧ Prev wr v2) (fun i _ => N - (intOf i).toNat)
      case atStart => exact ⟨0, Nat.zero_le _, rfl, prev_bel _ _⟩
      case round =>
        clear hk hlt
        obtain ⟨k, hk, rfl, hp⟩ := hrel
        by_cases hlt : k < N
        · obtain ⟨t, ht⟩ : ∃ t, ts[k]? = some t := ⟨_, List.getElem?_eq_getElem (by rw [hN.out]; exact hlt)⟩
          obtain ⟨b4, o4, A4, c4, z4, B4, d4, x4, e4, ob4, q6, q7, s4, y4, -, -, e5⟩ := tM.get hlt
          injection e4 with e4
          injection e4 with e4 e4'
          subst e4 e4'
          simp only [Nat.zero_add] at q6 q7
          have r4 := (HMR.out k _ _ ht e5.out).2
          simp only at r4
          obtain ⟨M, hM⟩ : ∃ M, t.xs.length = M := ⟨_, rfl⟩
          have l4 : x4.length = M := by rw [r4, rowM, mix_len]; exact hM
          have hM6 : M ≤ 1000000 := by rw [← hM]; exact (hz0.out t (List.mem_of_getElem? ht)).2
          rw [l4] at q7 y4
          have HC : Hid (∀ j p, x4[j]? = some p → fdiv (fsum (ls.map fun l => xsAt l.ts k j)) (fint (n : Int)) = p) := Lib.hid (fun j p f4 => by
            rw [r4, rowM] at f4
            have h4 := mix_full (Nat.le_refl _) f4
            rw [h4, cellM, HN.out])
          have HE : Hid (∀ (q : Nat) (l : TL), ls[q]? = some l → l.ts.length = N ∧ ∀ u, l.ts[k]? = some u → u.xs.length = M) := Lib.hid (fun q l hq => by
            have h1 := alikeTB_at (HALL.out q l hq)
            refine ⟨by rw [← h1.1, hN.out], fun u hu => ?_⟩
            have h2 := (h1.2 k t u ht hu).2.2.2
            omega)
          clear r4 l4 hM ht e5
          go_wp2_with fail
          go_loopw [83] (fun i wr' => ∃ j : Nat, j ≤ M ∧ i = .int .i64 j ∧ Prev wr' wr) (fun i _ => M - (intOf i).toNat)
          case atStart => exact ⟨0, Nat.zero_le _, rfl, prev_bel _ _⟩
          case round =>
            obtain ⟨j, hj, rfl, hp2⟩ := hrel
            by_cases hjM : j < M
            · obtain ⟨b9, o9, p, rfl, ob9, v4, f4⟩ := y4.get hjM
              have HP := Lib.hid (HC.out j p f4.out)
              clear f4
              obtain ⟨wr2, rfl⟩ : ∃ x : World, x = wr := ⟨_, rfl⟩
              go_wp2_with fail
              go_loopw [9, 88] (fun s i wr => ∃ (q : Nat) (A' : Option Addr) (c' : Nat) (cs : List Int), q ≤ n ∧ i = .int .i64 q ∧ s = .slice A' cs.length c' ∧ OwnA wr wr2.heap.size 2 A' c' cs ∧ Hid (cs.length = q) ∧ Hid (cs = (ls.take q).map fun l => xsAt l.ts k j) ∧ Hid (∀ z ∈ cs, I64 z) ∧ Prev wr wr2) (fun _ i _ => n - (intOf i).toNat)
              case atStart => exact ⟨0, none, 0, [], Nat.zero_le _, rfl, rfl, OwnA.nil _ _ _, Lib.hid rfl, Lib.hid rfl, Lib.hid (by simp), prev_bel _ _⟩
              case round =>
                obtain ⟨q, A', c', cs, hq, rfl, rfl, hown, HL, HCS, HI, hp3⟩ := hrel
                have hcl : cs.length ≤ 1000 := by rw [HL.out]; omega
                by_cases hqn : q < n
                · obtain ⟨b5, o5, A5, c5, us, e6, ob5, cq, s5, hl5⟩ := a.get hqn
                  injection e6 with e6
                  injection e6 with e6 e6'
                  subst e6 e6'
                  obtain ⟨lenU, hal⟩ := HE.out q _ hl5.out
                  simp only at lenU hal
                  obtain ⟨b6, o6, A6, c6, z6, B6, d6, x6, rfl, ob6, g0, g1, sz6, sx6, -, i6, hu6⟩ := s5.get (k := k) (by omega)
                  have hxM := hal _ hu6.out
                  simp only at hxM
                  rw [hxM] at g1 sx6
                  rw [lenU] at cq
                  obtain ⟨b7, o7, z, rfl, ob7, c7, hz7⟩ := sx6.get hjM
                  have HCS' : Hid (cs ++ [z] = (ls.take (q + 1)).map fun l => xsAt l.ts k j) := Lib.hid (by
                    rw [take_at hl5.out, List.map_append, ← HCS.out, List.map_cons, List.map_nil, xsAt_of hu6.out hz7.out])
                  have HI' : Hid (∀ y ∈ cs ++ [z], I64 y) := Lib.hid (by
                    intro y hy
                    rcases List.mem_append.1 hy with hy | hy
                    · exact HI.out y hy
                    · rw [List.mem_singleton.1 hy]; exact (i6.at hz7.out).bd)
                  have HL' : Hid ((cs ++ [z]).length = q + 1) := Lib.hid (by simp [HL.out])
                  clear hal hxM lenU hu6 hl5 hz7
                  go_wp2_with (at_builtin; refine wpList_pushI rfl _ _ _ rfl 2 Try.underlying66 (by kernel_rfl) wr2.heap.size A' c' cs rfl hown z rfl (by omega) later_size ?_; intro A3 c3 w3 ho3 hb3 _ _)
                  have pw3 : Prev w3 wr2 := ⟨(bel wr2 wr).trans hb3⟩
                  go_roundw
                  case rel => exact ⟨q + 1, A3, c3, cs ++ [z], by omega, by go_num, by simp, ho3, HL', HCS', HI', pw3⟩
                  case measure => simp [intOf]; omega
                · have sC : Sl wr A' cs.length cs := ⟨hown.rd, rfl⟩
                  have iC : I6s cs := ⟨HI.out⟩
                  have hcp : 0 < cs.length := by rw [HL.out]; omega
                  have HR : Hid (fdiv (fsum cs) (fint (cs.length : Int)) = p) := Lib.hid (by
                    rw [← HP.out, HL.out, show q = n from by omega, HCS.out, List.take_of_length_le (by rw [HN.out]; omega)])
                  go_wp2_with fail
                  refine wp_region_up0 (by kernel_rfl) (fun uz _ => ?_)
                  refine wpAnyH_on (i := 0) (d := 104) (v := ?_) rfl rfl (by kernel_rfl) (by kernel_rfl) (by kernel_rfl) (fun _ _ _ h => h) (by kernel_rfl) (prev_bel _ _) ?_ ?_
                  rotate_left
                  · intro uu (pu : Prev uu _)
                    go_simp
                    try (with_reducible rfl)
                  try simp only [List.set]
                  refine wpAnyH_on (i := 1) (d := 105) (v := ?_) rfl rfl (by kernel_rfl) (by kernel_rfl) (by kernel_rfl) (fun _ _ _ h => h) (by kernel_rfl) (prev_bel _ _) ?_ ?_
                  rotate_left
                  · intro uu (pu : Prev uu _)
                    go_simp
                    try (with_reducible rfl)
                  try simp only [List.set]
                  refine wpAnyH_on (i := 2) (d := 106) (v := ?_) rfl rfl (by kernel_rfl) (by kernel_rfl) (by kernel_rfl) (fun _ _ _ h => h) (by kernel_rfl) (prev_bel _ _) ?_ ?_
                  rotate_left
                  · intro uu (pu : Prev uu _)
                    go_simp
                    try (with_reducible rfl)
                  try simp only [List.set]
                  refine wpAnyH_on (i := 3) (d := 107) (v := ?_) rfl rfl (by kernel_rfl) (by kernel_rfl) (by kernel_rfl) (fun _ _ _ h => h) (by kernel_rfl) (prev_bel _ _) ?_ ?_
                  rotate_left
                  · intro uu (pu : Prev uu _)
                    go_simp
                    try (with_reducible rfl)
                  try simp only [List.set]
                  refine wpAnyH_on (i := 4) (d := 108) (v := ?_) rfl rfl (by kernel_rfl) (by kernel_rfl) (by kernel_rfl) (fun _ _ _ h => h) (by kernel_rfl) (prev_bel _ _) ?_ ?_
                  rotate_left
                  · intro uu (pu : Prev uu _)
                    go_simp
                    try (with_reducible rfl)
                  try simp only [List.set]
                  refine wpAnyH_on (i := 5) (d := 109) (v := ?_) rfl rfl (by kernel_rfl) (by kernel_rfl) (by kernel_rfl) (fun _ _ _ h => h) (by kernel_rfl) (prev_bel _ _) ?_ ?_
                  rotate_left
                  · intro uu (pu : Prev uu _)
                    go_simp
                    try (with_reducible rfl)
                  try simp only [List.set]
                  refine wpAnyH_on (i := 6) (d := 110) (v := ?_) rfl rfl (by kernel_rfl) (by kernel_rfl) (by kernel_rfl) (fun _ _ _ h => h) (by kernel_rfl) (prev_bel _ _) ?_ ?_
                  rotate_left
                  · intro uu (pu : Prev uu _)
                    go_simp
                    try (with_reducible rfl)
                  try simp only [List.set]
                  refine wpAnyH_on (i := 7) (d := 111) (v := ?_) rfl rfl (by kernel_rfl) (by kernel_rfl) (by kernel_rfl) (fun _ _ _ h => h) (by kernel_rfl) (prev_bel _ _) ?_ ?_
                  rotate_left
                  · intro uu (pu : Prev uu _)
                    go_simp
                    try (with_reducible rfl)
                  try simp only [List.set]
                  refine wpAnyH_on (i := 8) (d := 112) (v := ?_) rfl rfl (by kernel_rfl) (by kernel_rfl) (by kernel_rfl) (fun _ _ _ h => h) (by kernel_rfl) (prev_bel _ _) ?_ ?_
                  rotate_left
                  · intro uu (pu : Prev uu _)
                    go_simp
                    try (with_reducible rfl)
                  try simp only [List.set]
                  refine wpAnyH_ready (rs := [9]) (by kernel_rfl) (by simp) ?_
                  refine AllReadyH.cons rfl (fun K hK => ?_) AllReadyH.nil
                  go_simp
                  (with_reducible refine (r24_mean (by omega) (by omega) HR).mono ?_)
                  rintro e uz ⟨rfl, _⟩
                  dsimp only
                  refine hK.out _ _ (prev_bel _ _) (fun hHeld => ?_)
                  clear hHeld hK K
                  try dsimp only [Act.put, List.setIfInBounds_toArray, List.set_cons_zero, List.set_cons_succ]
                  refine wpAnyH_on (i := 10) (d := 114) (v := ?_) rfl rfl (by kernel_rfl) (by kernel_rfl) (by kernel_rfl) (fun _ _ _ h => h) (by kernel_rfl) (prev_bel _ _) ?_ ?_
                  rotate_left
                  · intro uu (pu : Prev uu _)
                    go_simp
                    try (with_reducible rfl)
                  try simp only [List.set]
                  refine wpAnyH_done (by kernel_rfl) ?_ _
                  go_wp2_with fail
                  go_roundw
                  case rel => exact ⟨j + 1, by omega, by go_num, prev_bel _ _⟩
                  case measure => simp [intOf]; omega
            · go_wp2_with fail
              go_roundw
              case rel => exact ⟨k + 1, by omega, by go_num, prev_bel _ _⟩
              case measure => simp [intOf]; omega
        · go_wp2_with (first | (go_at_call 30; (try first | (with_reducible refine gen_boxK3 (fun u _ _ _ _ => ?_)) | (with_reducible refine gen_boxK2 (fun u _ _ _ => ?_)) | (with_reducible refine gen_boxK (fun u _ _ => ?_))); (with_reducible refine (a24_awake).mono ?_); rintro e u ⟨rfl, _⟩))
          go_ret
          exact ⟨rfl, bel w _⟩

end Go.Proofs.Ytphcffcecncngaa

namespace Go.Proofs.Ytphcffcecncngaa
open Go.ChangeShapes Go.WideShapes Go.ChangeAt Go.RowKit

set_option maxRecDepth 100000 in
theorem optimMeans_lifted (os : Os) (started : os.Started) (H : Type) (enc : TypeId × Value → H) :
    ReturnsInHanded {} Try.checked os 9 .any (Rows.optimMeansSpec.pre6 enc Try.prog Try.f9 Rows.optimMeansRow.domain false) (Rows.optimMeansSpec.post enc Try.prog Try.f9 false true false false) := by
  refine returnsInHanded_of_change_sized (C := Try.checked) ownKnob_none started (by kernel_rfl) Try.func9
    (ChangeSpec.witness6 (enc := enc) (C := Try.checked) false ⟨#[], #[.slice none 0 0], []⟩ 8 (by kernel_rfl) (by kernel_rfl) (by kernel_rfl) (by kernel_rfl)) ?_
  intro W base args ds gs before hval0 hW _ hsz0 _
  have hsz : (DataW.weightsEach Try.prog (Try.f9.params.toList ++ Rows.optimMeansSpec.plain.varTypes Try.prog) (ds ++ gs)).all (· ≤ reachBytes) = true := hsz0
  have hval : ∀ (j : Nat) t v, Try.f9.params[j]? = some t → args[j]? = some v → Value.okWide Try.prog W .any base t v := hval0
  have hW' := hW
  obtain ⟨p, q, hA0, hV, rfl, _, _⟩ := hW
  have hA : DataW.TrodAll enc Try.prog W 0 (fun _ => true) true Try.f9.params.toList args.toList ds p := hA0
  rw [Try.params9] at hA hval hsz
  have hAll := hA
  obtain ⟨v0, vs0, d0, ds0, p0, q0, hargs, rfl, rfl, h0, r0⟩ := trodAll_cons hA
  obtain ⟨rfl, rfl, rfl⟩ := trodAll_nil r0
  obtain rfl : args = #[v0] := by cases args; simp_all
  obtain ⟨rfl, rfl⟩ := trodVars_none hV
  obtain ⟨A0, c0, l0, rfl, w0⟩ := arg_ttensW (hval 0 56 v0 rfl rfl) h0 (wt_each hsz (j := 0) rfl rfl)
  clear hA0 hval0 hsz0
  refine (optimMeans_calls A0 c0 l0 W w0).mono fun e W' ⟨he, bel⟩ => ?_
  subst he
  exact ⟨_, rfl, _, _, _, [], _, [], hW', trodAll_mk1 (shut_bool Try.underlying4 _), trodAll_below laidOut_all (by decide +kernel) hAll bel, rfl, bel.frame _, fun h => by cases h⟩

theorem optimMeans_holds : Rows.OptimMeansSaid :=
  OpenClaim.holds_of_wide 9 Try.f9 rfl rfl rfl rfl rfl rfl rfl ⟨rfl, rfl, rfl, rfl, rfl⟩ rfl rfl rfl rfl rfl (by kernel_rfl) Try.func9 (by kernel_rfl)
    (of_decide_eq_true (by kernel_rfl)) (by unfold Func.isWrapper; first | (rw [if_pos (by decide +kernel)]; kernel_rfl) | (rw [if_neg (by decide +kernel)]; exact ⟨rfl, rfl⟩))
    (fun os started H enc _ => optimMeans_lifted os started H enc)

end Go.Proofs.Ytphcffcecncngaa
