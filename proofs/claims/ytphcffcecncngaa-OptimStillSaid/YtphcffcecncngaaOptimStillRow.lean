/- OptimStill: for every input the statement returns true, and each argument reads afterwards as it read before. No condition. -/
import Derived.Test.YtphcffcecncngaaMean
import Derived.Test.YtphcffcecncngaaLaw24b
import Derived.Test.YtphcffcecncngaaTens
import Derived.Deep.Slices
import Derived.SizedLaws
import Derived.Test.YtphcffcecncngaaTAuto
import Derived.Test.YtphcffcecncngaaTcz
import Derived.Test.YtphcffcecncngaaTensor5
import Derived.Test.YtphcffcecncngaaFre
import Derived.Deep.DeepCutAuto
import Derived.Test.YtphcffcecncngaaRows
import Derived.Test.YtphcffcecncngaaOpen

namespace Go.Proofs.Ytphcffcecncngaa
open Go.RowKit

theorem gen_boxK4 {P : Program} {f : Nat} {args : Array Value} {Q : Ending → World → Prop} {X : World} {T T' T'' T3 : TypeId} {cs cs' cs'' cs3 : Array Value} (h : ∀ u, Prev u X → Bx u X.heap.size T cs → Bx u (X.heap.size + 1) T' cs' → Bx u (X.heap.size + 1 + 1) T'' cs'' → Bx u (X.heap.size + 1 + 1 + 1) T3 cs3 → Calls P f args u Q) :
    Calls P f args ((((X.alloc (.cells cs T)).alloc (.cells cs' T')).alloc (.cells cs'' T'')).alloc (.cells cs3 T3)) Q :=
  h _ (prev_bel _ _) inferInstance inferInstance inferInstance inferInstance
theorem Upd.one {f : Nat → Tn → List Int} {t : Tn} {ps : List Cp} (h : Upd f 1 [t] ps) : ∃ g g', ps = [⟨g, t.zs, g', f 0 t⟩] := by
  have hl := h.len
  match ps, hl with
  | [⟨g, zs, g', xs⟩], _ =>
    obtain ⟨h1, h2⟩ := h.at_ 0 ⟨g, zs, g', xs⟩ t rfl rfl
    rw [if_pos (by omega)] at h2
    simp only at h1 h2
    exact ⟨g, g', by rw [h1, h2]⟩
section
variable {w : World} {A B C A1 B1 A2 B2 A3 B3 : Option Addr} {c c1 d1 c2 d2 c3 d3 cb cc : Nat}
/-- One tensor of two cells, its rows new. -/
abbrev tn2 (g g' : Nat) (x y : Int) : Tn := ⟨some ⟨g, 0, none⟩, 1, [2], some ⟨g', 0, none⟩, 2, [x, y]⟩
theorem one2 {w : World} {G g g' : Nat} {x y : Int} (h : Ts w (some ⟨G, 0, none⟩) 1 [tn2 g g' x y]) : w.cell? ⟨G, 0, none⟩ = some (.slice (some ⟨g, 0, none⟩) 1 1) ∧ w.cell? ⟨G, 1, none⟩ = some (.slice (some ⟨g', 0, none⟩) 2 2) ∧ w.cell? ⟨g', 0, none⟩ = some (.int .i64 x) ∧ w.cell? ⟨g', 1, none⟩ = some (.int .i64 y) ∧ Old G w ∧ Old g' w := by
  obtain ⟨b, o, e, k⟩ := h.rd 0 _ rfl
  injection e with e
  injection e with e e'
  subst e e'
  obtain ⟨b0, o0, e0, h0, c0⟩ := k.x 0 x rfl
  obtain ⟨b1, o1, e1, h1, c1⟩ := k.x 1 y rfl
  injection e0 with e0
  injection e0 with e0 e0'
  injection e1 with e1
  injection e1 with e1 e1'
  subst e0 e0' e1 e1'
  exact ⟨k.c0, k.c1, c0, c1, ⟨k.old⟩, ⟨h0⟩⟩
def RetB24 (w : World) (x y p q : Int) (e : Ending) (w' : World) : Prop :=
  ∃ G1 g1 g1' G2 g2 g2', e = .returned (.tuple #[.agg #[.slice (some ⟨G1, 0, none⟩) 1 1, .slice (some ⟨G2, 0, none⟩) 1 1], .int .i64 0]) ∧ Ts w' (some ⟨G1, 0, none⟩) 1 [tn2 g1 g1' x y] ∧ Ts w' (some ⟨G2, 0, none⟩) 1 [tn2 g2 g2' p q] ∧ Prev w' w
theorem ts_one {w : World} {lo G : Nat} {g g' : Nat} {x y : Int} (h : CBk w lo G 1 [⟨g, [2], g', [x, y]⟩]) (hx : I64 x) (hy : I64 y) : Ts w (some ⟨G, 0, none⟩) 1 [tn2 g g' x y] :=
  CBk.ts (ps := [⟨g, [2], g', [x, y]⟩]) h (by
    intro p hp z hz
    rw [List.mem_singleton.1 hp] at hz
    simp at hz
    rcases hz with rfl | rfl
    · exact hx
    · exact hy)
theorem begin24 [a : Ts w A 1 [⟨A1, c1, [2], B1, d1, [fint 5, fint 7]⟩]] : Calls Try.prog 41 #[.slice A 1 c] w (RetB24 w (fint 5) (fint 7) 0 0) := by
  refine (op_begin_yes (by omega) (Lib.hid (by intro t ht; rw [List.mem_singleton.1 ht]; simp)) (by kernel_rfl)).mono ?_
  rintro e u ⟨G1, ps, G2, qs, rfl, CC, H1, H2, pw⟩
  obtain ⟨g1, g1', rfl⟩ := H1.out.one
  obtain ⟨g2, g2', rfl⟩ := H2.out.one
  exact ⟨G1, g1, g1', G2, g2, g2', rfl, ts_one CC.l (fint_bd _) (fint_bd _), ts_one CC.r ⟨by decide, by decide⟩ ⟨by decide, by decide⟩, pw⟩
theorem step24 [a : Ts w A 1 [⟨A1, c1, [2], B1, d1, [fint 5, fint 7]⟩]] [b : Ts w B 1 [⟨A2, c2, [2], B2, d2, [0, 0]⟩]] [g : Ts w C 1 [⟨A3, c3, [2], B3, d3, [fint 1, fint (-2)]⟩]] :
    Calls Try.prog 37 #[.agg #[.slice A 1 c, .slice B 1 cb], .agg #[.int .i64 4294967296, .int .i64 0, .int .i64 0, .int .i64 0, .int .i64 0, .int .i64 0], .int .i64 0, .slice C 1 cc] w (RetB24 w (fint 4) (fint 9) (fint 1) (fint (-2))) := by
  refine (op_step_yes (by omega) (Lib.hid (by intro t ht; rw [List.mem_singleton.1 ht]; simp)) (Lib.hid (by intro t ht; rw [List.mem_singleton.1 ht]; simp)) (Lib.hid (by intro t ht; rw [List.mem_singleton.1 ht]; simp)) (by kernel_rfl) (by kernel_rfl) (by kernel_rfl) (by omega) (by omega) (R := 4294967296) (Lib.hid (by kernel_rfl))).mono ?_
  rintro e u ⟨G1, ps, G2, qs, rfl, CC, H1, H2, pw⟩
  obtain ⟨g1, g1', rfl⟩ := H1.out.one
  obtain ⟨g2, g2', rfl⟩ := H2.out.one
  have e1 : rowP 0 0 0 4294967296 [⟨A1, c1, [2], B1, d1, [fint 5, fint 7]⟩] [⟨A2, c2, [2], B2, d2, [0, 0]⟩] [⟨A3, c3, [2], B3, d3, [fint 1, fint (-2)]⟩] 0 ⟨A1, c1, [2], B1, d1, [fint 5, fint 7]⟩ = [fint 4, fint 9] := by kernel_rfl
  have e2 : rowV 0 0 0 [⟨A1, c1, [2], B1, d1, [fint 5, fint 7]⟩] [⟨A2, c2, [2], B2, d2, [0, 0]⟩] [⟨A3, c3, [2], B3, d3, [fint 1, fint (-2)]⟩] 0 ⟨A2, c2, [2], B2, d2, [0, 0]⟩ = [fint 1, fint (-2)] := by kernel_rfl
  rw [e1, e2] at CC
  exact ⟨G1, g1, g1', G2, g2, g2', rfl, ts_one CC.l (fint_bd _) (fint_bd _), ts_one CC.r (fint_bd _) (fint_bd _), pw⟩
def RetM24 (w : World) (x y : Int) (e : Ending) (w' : World) : Prop :=
  ∃ G1 g1 g1', e = .returned (.tuple #[.slice (some ⟨G1, 0, none⟩) 1 1, .int .i64 0]) ∧ Ts w' (some ⟨G1, 0, none⟩) 1 [tn2 g1 g1' x y] ∧ Prev w' w
theorem mean24 [a : TTs w A 2 [⟨B, cb, [⟨A1, c1, [2], B1, d1, [fint 5, fint 7]⟩]⟩, ⟨C, cc, [⟨A2, c2, [2], B2, d2, [fint 1, fint (-2)]⟩]⟩]] :
    Calls Try.prog 33 #[.slice A 2 c] w (RetM24 w (fint 3) 10737418240) := by
  refine (op_mean (l0 := ⟨B, cb, [⟨A1, c1, [2], B1, d1, [fint 5, fint 7]⟩]⟩) (N := 1) (b := true) (by omega) (by omega) (Lib.hid (by
    intro l hl
    simp at hl
    rcases hl with rfl | rfl
    · exact ⟨by simp, by intro t ht; rw [List.mem_singleton.1 ht]; simp⟩
    · exact ⟨by simp, by intro t ht; rw [List.mem_singleton.1 ht]; simp⟩)) (Lib.hid rfl) (Lib.hid rfl) (Lib.hid (by kernel_rfl))).mono ?_
  rintro e u (⟨h, -⟩ | ⟨-, G1, ps, rfl, CC, H1, pw⟩)
  · cases h
  · obtain ⟨g1, g1', rfl⟩ := H1.out.one
    have a0 : cellM [⟨B, cb, [⟨A1, c1, [2], B1, d1, [fint 5, fint 7]⟩]⟩, ⟨C, cc, [⟨A2, c2, [2], B2, d2, [fint 1, fint (-2)]⟩]⟩] 0 0 = fint 3 := (show cellM [⟨B, cb, [⟨A1, c1, [2], B1, d1, [fint 5, fint 7]⟩]⟩, ⟨C, cc, [⟨A2, c2, [2], B2, d2, [fint 1, fint (-2)]⟩]⟩] 0 0 = fdiv (fsum [fint 5, fint 1]) (fint 2) from rfl).trans (by kernel_rfl)
    have a1 : cellM [⟨B, cb, [⟨A1, c1, [2], B1, d1, [fint 5, fint 7]⟩]⟩, ⟨C, cc, [⟨A2, c2, [2], B2, d2, [fint 1, fint (-2)]⟩]⟩] 0 1 = 10737418240 := (show cellM [⟨B, cb, [⟨A1, c1, [2], B1, d1, [fint 5, fint 7]⟩]⟩, ⟨C, cc, [⟨A2, c2, [2], B2, d2, [fint 1, fint (-2)]⟩]⟩] 0 1 = fdiv (fsum [fint 7, fint (-2)]) (fint 2) from rfl).trans (by kernel_rfl)
    have e1 : rowM [⟨B, cb, [⟨A1, c1, [2], B1, d1, [fint 5, fint 7]⟩]⟩, ⟨C, cc, [⟨A2, c2, [2], B2, d2, [fint 1, fint (-2)]⟩]⟩] 0 ⟨A1, c1, [2], B1, d1, [fint 5, fint 7]⟩ = [fint 3, 10737418240] := by
      rw [rowM, mix, show ([fint 5, fint 7] : List Int).length = 2 from rfl, show List.range 2 = [0, 1] from rfl, List.map_cons, List.map_cons, List.map_nil, if_pos (by omega), if_pos (by omega), a0, a1]
    rw [e1] at CC
    exact ⟨G1, g1, g1', rfl, ts_one CC (fint_bd _) ⟨by decide, by decide⟩, pw⟩
theorem norm24 [a : Ts w A 1 [⟨A1, c1, [2], B1, d1, [fint 1, fint (-2)]⟩]] : Calls Try.prog 45 #[.slice A 1 c] w (RetV w (.int .i64 (fint 3))) :=
  retV_of (op_norm (by omega) (Lib.hid (by intro t ht; rw [List.mem_singleton.1 ht]; simp))) (by kernel_rfl)
set_option maxRecDepth 100000 in
set_option maxHeartbeats 8000000 in
theorem a24_awake : Calls Try.prog 30 #[] w (RetV w (.bool true)) := by
  have CB := @cell_bx
  have CP := @cell_prev
  go_enter Try.func30, Try.ntmps30
  go_wp2_with (first | (go_at_call 63; (try first | (with_reducible refine gen_boxK3 (fun u _ _ _ _ => ?_)) | (with_reducible refine gen_boxK2 (fun u _ _ _ => ?_)) | (with_reducible refine gen_boxK (fun u _ _ => ?_))); (with_reducible refine (aF_intM).mono ?_); rintro e u ⟨rfl, _⟩) | (go_at_call 62; (try first | (with_reducible refine gen_boxK3 (fun u _ _ _ _ => ?_)) | (with_reducible refine gen_boxK2 (fun u _ _ _ => ?_)) | (with_reducible refine gen_boxK (fun u _ _ => ?_))); (with_reducible refine (aT_ofL (by omega) (by omega) (by kernel_rfl)).mono ?_); rintro e u ⟨A', c', B', d', rfl, _, _, _, _⟩) | (go_at_call 41; (try first | (with_reducible refine gen_boxK3 (fun u _ _ _ _ => ?_)) | (with_reducible refine gen_boxK2 (fun u _ _ _ => ?_)) | (with_reducible refine gen_boxK (fun u _ _ => ?_))); (with_reducible refine (begin24).mono ?_); rintro e u ⟨G1, g1, g1', G2, g2, g2', rfl, tP, tV, _⟩) | (go_at_call 37; (try first | (with_reducible refine gen_boxK3 (fun u _ _ _ _ => ?_)) | (with_reducible refine gen_boxK2 (fun u _ _ _ => ?_)) | (with_reducible refine gen_boxK (fun u _ _ => ?_))); (with_reducible refine (step24).mono ?_); rintro e u ⟨G3, g3, g3', G4, g4, g4', rfl, tP2, tV2, _⟩))
  refine gen_boxK4 (fun u4 _ _ _ _ _ => ?_)
  refine mean24.mono ?_
  rintro e u5 ⟨G5, g5, g5', rfl, tM, _⟩
  obtain ⟨a0, a1, a2, a3, oa, oa'⟩ := one2 tP2
  obtain ⟨b0, b1, b2, b3, ob, ob'⟩ := one2 tV2
  obtain ⟨m0, m1, m2, m3, om, om'⟩ := one2 tM
  go_wp2_with (first | (go_at_call 33; (try first | (with_reducible refine gen_boxK3 (fun u _ _ _ _ => ?_)) | (with_reducible refine gen_boxK2 (fun u _ _ _ => ?_)) | (with_reducible refine gen_boxK (fun u _ _ => ?_))); (with_reducible refine (op_mean_none).mono ?_); rintro e u ⟨rfl, _⟩))
  obtain ⟨v, rfl⟩ : ∃ v : World, v = u := ⟨_, rfl⟩
  refine wp_region_up v (by kernel_rfl) (fun ux _ => ?_)
  refine wpAnyH_on (i := 0) (d := 56) (v := ?_) rfl rfl (by kernel_rfl) (by kernel_rfl) (by kernel_rfl) (fun _ _ _ h => h) (by kernel_rfl) (prev_bel _ _) ?_ ?_
  rotate_left
  · intro uu (pu : Prev uu _)
    go_simp
    try (with_reducible rfl)
  try simp only [List.set]
  refine wpAnyH_on (i := 1) (d := 57) (v := ?_) rfl rfl (by kernel_rfl) (by kernel_rfl) (by kernel_rfl) (fun _ _ _ h => h) (by kernel_rfl) (prev_bel _ _) ?_ ?_
  rotate_left
  · intro uu (pu : Prev uu _)
    go_simp
    try (with_reducible rfl)
  try simp only [List.set]
  refine wpAnyH_on (i := 2) (d := 58) (v := ?_) rfl rfl (by kernel_rfl) (by kernel_rfl) (by kernel_rfl) (fun _ _ _ h => h) (by kernel_rfl) (prev_bel _ _) ?_ ?_
  rotate_left
  · intro uu (pu : Prev uu _)
    go_simp
    try (with_reducible rfl)
  try simp only [List.set]
  refine wpAnyH_on (i := 3) (d := 59) (v := ?_) rfl rfl (by kernel_rfl) (by kernel_rfl) (by kernel_rfl) (fun _ _ _ h => h) (by kernel_rfl) (prev_bel _ _) ?_ ?_
  rotate_left
  · intro uu (pu : Prev uu _)
    go_simp
    try (with_reducible rfl)
  try simp only [List.set]
  refine wpAnyH_on (i := 4) (d := 60) (v := ?_) rfl rfl (by kernel_rfl) (by kernel_rfl) (by kernel_rfl) (fun _ _ _ h => h) (by kernel_rfl) (prev_bel _ _) ?_ ?_
  rotate_left
  · intro uu (pu : Prev uu _)
    go_simp
    try (with_reducible rfl)
  try simp only [List.set]
  refine wpAnyH_on (i := 5) (d := 61) (v := ?_) rfl rfl (by kernel_rfl) (by kernel_rfl) (by kernel_rfl) (fun _ _ _ h => h) (by kernel_rfl) (prev_bel _ _) ?_ ?_
  rotate_left
  · intro uu (pu : Prev uu _)
    go_simp
    try (with_reducible rfl)
  try simp only [List.set]
  refine wpAnyH_on (i := 6) (d := 62) (v := ?_) rfl rfl (by kernel_rfl) (by kernel_rfl) (by kernel_rfl) (fun _ _ _ h => h) (by kernel_rfl) (prev_bel _ _) ?_ ?_
  rotate_left
  · intro uu (pu : Prev uu _)
    go_simp
    try (with_reducible rfl)
  try simp only [List.set]
  refine wpAnyH_on (i := 7) (d := 63) (v := ?_) rfl rfl (by kernel_rfl) (by kernel_rfl) (by kernel_rfl) (fun _ _ _ h => h) (by kernel_rfl) (prev_bel _ _) ?_ ?_
  rotate_left
  · intro uu (pu : Prev uu _)
    go_simp
    try (with_reducible rfl)
  try simp only [List.set]
  refine wpAnyH_on (i := 8) (d := 64) (v := ?_) rfl rfl (by kernel_rfl) (by kernel_rfl) (by kernel_rfl) (fun _ _ _ h => h) (by kernel_rfl) (prev_bel _ _) ?_ ?_
  rotate_left
  · intro uu (pu : Prev uu _)
    go_simp
    try (with_reducible rfl)
  try simp only [List.set]
  refine wpAnyH_on (i := 9) (d := 65) (v := ?_) rfl rfl (by kernel_rfl) (by kernel_rfl) (by kernel_rfl) (fun _ _ _ h => h) (by kernel_rfl) (prev_bel _ _) ?_ ?_
  rotate_left
  · intro uu (pu : Prev uu _)
    go_simp
    try (with_reducible rfl)
  try simp only [List.set]
  refine wpAnyH_on (i := 10) (d := 66) (v := ?_) rfl rfl (by kernel_rfl) (by kernel_rfl) (by kernel_rfl) (fun _ _ _ h => h) (by kernel_rfl) (prev_bel _ _) ?_ ?_
  rotate_left
  · intro uu (pu : Prev uu _)
    go_simp
    try (with_reducible rfl)
  try simp only [List.set]
  refine wpAnyH_on (i := 11) (d := 67) (v := ?_) rfl rfl (by kernel_rfl) (by kernel_rfl) (by kernel_rfl) (fun _ _ _ h => h) (by kernel_rfl) (prev_bel _ _) ?_ ?_
  rotate_left
  · intro uu (pu : Prev uu _)
    go_simp
    try (with_reducible rfl)
  try simp only [List.set]
  refine wpAnyH_on (i := 12) (d := 68) (v := ?_) rfl rfl (by kernel_rfl) (by kernel_rfl) (by kernel_rfl) (fun _ _ _ h => h) (by kernel_rfl) (prev_bel _ _) ?_ ?_
  rotate_left
  · intro uu (pu : Prev uu _)
    go_simp
    try (with_reducible rfl)
  try simp only [List.set]
  refine wpAnyH_on (i := 13) (d := 69) (v := ?_) rfl rfl (by kernel_rfl) (by kernel_rfl) (by kernel_rfl) (fun _ _ _ h => h) (by kernel_rfl) (prev_bel _ _) ?_ ?_
  rotate_left
  · intro uu (pu : Prev uu _)
    go_simp
    try (with_reducible rfl)
  try simp only [List.set]
  refine wpAnyH_on (i := 14) (d := 70) (v := ?_) rfl rfl (by kernel_rfl) (by kernel_rfl) (by kernel_rfl) (fun _ _ _ h => h) (by kernel_rfl) (prev_bel _ _) ?_ ?_
  rotate_left
  · intro uu (pu : Prev uu _)
    go_simp
    try (with_reducible rfl)
  try simp only [List.set]
  refine wpAnyH_on (i := 15) (d := 71) (v := ?_) rfl rfl (by kernel_rfl) (by kernel_rfl) (by kernel_rfl) (fun _ _ _ h => h) (by kernel_rfl) (prev_bel _ _) ?_ ?_
  rotate_left
  · intro uu (pu : Prev uu _)
    go_simp
    try (with_reducible rfl)
  try simp only [List.set]
  refine wpAnyH_on (i := 16) (d := 72) (v := ?_) rfl rfl (by kernel_rfl) (by kernel_rfl) (by kernel_rfl) (fun _ _ _ h => h) (by kernel_rfl) (prev_bel _ _) ?_ ?_
  rotate_left
  · intro uu (pu : Prev uu _)
    go_simp
    try (with_reducible rfl)
  try simp only [List.set]
  refine wpAnyH_on (i := 17) (d := 73) (v := ?_) rfl rfl (by kernel_rfl) (by kernel_rfl) (by kernel_rfl) (fun _ _ _ h => h) (by kernel_rfl) (prev_bel _ _) ?_ ?_
  rotate_left
  · intro uu (pu : Prev uu _)
    go_simp
    try (with_reducible rfl)
  try simp only [List.set]
  refine wpAnyH_on (i := 18) (d := 74) (v := ?_) rfl rfl (by kernel_rfl) (by kernel_rfl) (by kernel_rfl) (fun _ _ _ h => h) (by kernel_rfl) (prev_bel _ _) ?_ ?_
  rotate_left
  · intro uu (pu : Prev uu _)
    go_simp
    try (with_reducible rfl)
  try simp only [List.set]
  refine wpAnyH_on (i := 19) (d := 75) (v := ?_) rfl rfl (by kernel_rfl) (by kernel_rfl) (by kernel_rfl) (fun _ _ _ h => h) (by kernel_rfl) (prev_bel _ _) ?_ ?_
  rotate_left
  · intro uu (pu : Prev uu _)
    go_simp
    try (with_reducible rfl)
  try simp only [List.set]
  refine wpAnyH_on (i := 20) (d := 76) (v := ?_) rfl rfl (by kernel_rfl) (by kernel_rfl) (by kernel_rfl) (fun _ _ _ h => h) (by kernel_rfl) (prev_bel _ _) ?_ ?_
  rotate_left
  · intro uu (pu : Prev uu _)
    go_simp
    try (with_reducible rfl)
  try simp only [List.set]
  refine wpAnyH_on (i := 21) (d := 77) (v := ?_) rfl rfl (by kernel_rfl) (by kernel_rfl) (by kernel_rfl) (fun _ _ _ h => h) (by kernel_rfl) (prev_bel _ _) ?_ ?_
  rotate_left
  · intro uu (pu : Prev uu _)
    go_simp
    try (with_reducible rfl)
  try simp only [List.set]
  refine wpAnyH_on (i := 22) (d := 78) (v := ?_) rfl rfl (by kernel_rfl) (by kernel_rfl) (by kernel_rfl) (fun _ _ _ h => h) (by kernel_rfl) (prev_bel _ _) ?_ ?_
  rotate_left
  · intro uu (pu : Prev uu _)
    go_simp
    try (with_reducible rfl)
  try simp only [List.set]
  refine wpAnyH_on (i := 23) (d := 79) (v := ?_) rfl rfl (by kernel_rfl) (by kernel_rfl) (by kernel_rfl) (fun _ _ _ h => h) (by kernel_rfl) (prev_bel _ _) ?_ ?_
  rotate_left
  · intro uu (pu : Prev uu _)
    go_simp
    try (with_reducible rfl)
  try simp only [List.set]
  refine wpAnyH_on (i := 24) (d := 80) (v := ?_) rfl rfl (by kernel_rfl) (by kernel_rfl) (by kernel_rfl) (fun _ _ _ h => h) (by kernel_rfl) (prev_bel _ _) ?_ ?_
  rotate_left
  · intro uu (pu : Prev uu _)
    go_simp
    try (with_reducible rfl)
  try simp only [List.set]
  refine wpAnyH_on (i := 25) (d := 81) (v := ?_) rfl rfl (by kernel_rfl) (by kernel_rfl) (by kernel_rfl) (fun _ _ _ h => h) (by kernel_rfl) (prev_bel _ _) ?_ ?_
  rotate_left
  · intro uu (pu : Prev uu _)
    go_simp
    try (with_reducible rfl)
  try simp only [List.set]
  refine wpAnyH_on (i := 26) (d := 82) (v := ?_) rfl rfl (by kernel_rfl) (by kernel_rfl) (by kernel_rfl) (fun _ _ _ h => h) (by kernel_rfl) (prev_bel _ _) ?_ ?_
  rotate_left
  · intro uu (pu : Prev uu _)
    go_simp
    try (with_reducible rfl)
  try simp only [List.set]
  refine wpAnyH_on (i := 27) (d := 83) (v := ?_) rfl rfl (by kernel_rfl) (by kernel_rfl) (by kernel_rfl) (fun _ _ _ h => h) (by kernel_rfl) (prev_bel _ _) ?_ ?_
  rotate_left
  · intro uu (pu : Prev uu _)
    go_simp
    try (with_reducible rfl)
  try simp only [List.set]
  refine wpAnyH_on (i := 28) (d := 84) (v := ?_) rfl rfl (by kernel_rfl) (by kernel_rfl) (by kernel_rfl) (fun _ _ _ h => h) (by kernel_rfl) (prev_bel _ _) ?_ ?_
  rotate_left
  · intro uu (pu : Prev uu _)
    go_simp
    try (with_reducible rfl)
  try simp only [List.set]
  refine wpAnyH_on (i := 29) (d := 85) (v := ?_) rfl rfl (by kernel_rfl) (by kernel_rfl) (by kernel_rfl) (fun _ _ _ h => h) (by kernel_rfl) (prev_bel _ _) ?_ ?_
  rotate_left
  · intro uu (pu : Prev uu _)
    go_simp
    try (with_reducible rfl)
  try simp only [List.set]
  refine wpAnyH_on (i := 30) (d := 86) (v := ?_) rfl rfl (by kernel_rfl) (by kernel_rfl) (by kernel_rfl) (fun _ _ _ h => h) (by kernel_rfl) (prev_bel _ _) ?_ ?_
  rotate_left
  · intro uu (pu : Prev uu _)
    go_simp
    try (with_reducible rfl)
  try simp only [List.set]
  refine wpAnyH_on (i := 31) (d := 87) (v := ?_) rfl rfl (by kernel_rfl) (by kernel_rfl) (by kernel_rfl) (fun _ _ _ h => h) (by kernel_rfl) (prev_bel _ _) ?_ ?_
  rotate_left
  · intro uu (pu : Prev uu _)
    go_simp
    try (with_reducible rfl)
  try simp only [List.set]
  refine wpAnyH_on (i := 32) (d := 88) (v := ?_) rfl rfl (by kernel_rfl) (by kernel_rfl) (by kernel_rfl) (fun _ _ _ h => h) (by kernel_rfl) (prev_bel _ _) ?_ ?_
  rotate_left
  · intro uu (pu : Prev uu _)
    go_simp
    try (with_reducible rfl)
  try simp only [List.set]
  refine wpAnyH_on (i := 33) (d := 89) (v := ?_) rfl rfl (by kernel_rfl) (by kernel_rfl) (by kernel_rfl) (fun _ _ _ h => h) (by kernel_rfl) (prev_bel _ _) ?_ ?_
  rotate_left
  · intro uu (pu : Prev uu _)
    go_simp
    try (with_reducible rfl)
  try simp only [List.set]
  refine wpAnyH_on (i := 34) (d := 90) (v := ?_) rfl rfl (by kernel_rfl) (by kernel_rfl) (by kernel_rfl) (fun _ _ _ h => h) (by kernel_rfl) (prev_bel _ _) ?_ ?_
  rotate_left
  · intro uu (pu : Prev uu _)
    go_simp
    try (with_reducible rfl)
  try simp only [List.set]
  refine wpAnyH_on (i := 35) (d := 91) (v := ?_) rfl rfl (by kernel_rfl) (by kernel_rfl) (by kernel_rfl) (fun _ _ _ h => h) (by kernel_rfl) (prev_bel _ _) ?_ ?_
  rotate_left
  · intro uu (pu : Prev uu _)
    go_simp
    try (with_reducible rfl)
  try simp only [List.set]
  refine wpAnyH_on (i := 36) (d := 92) (v := ?_) rfl rfl (by kernel_rfl) (by kernel_rfl) (by kernel_rfl) (fun _ _ _ h => h) (by kernel_rfl) (prev_bel _ _) ?_ ?_
  rotate_left
  · intro uu (pu : Prev uu _)
    go_simp
    try (with_reducible rfl)
  try simp only [List.set]
  refine wpAnyH_ready (rs := [37]) (by kernel_rfl) (by simp) ?_
  refine AllReadyH.cons rfl (fun K hK => ?_) AllReadyH.nil
  go_simp
  (with_reducible refine (aF_intM).mono ?_)
  rintro e ux ⟨rfl, _⟩
  dsimp only
  refine hK.out _ _ (prev_bel v _) (fun hHeld => ?_)
  clear hHeld hK K
  try dsimp only [Act.put, List.setIfInBounds_toArray, List.set_cons_zero, List.set_cons_succ]
  refine wpAnyH_on (i := 38) (d := 94) (v := ?_) rfl rfl (by kernel_rfl) (by kernel_rfl) (by kernel_rfl) (fun _ _ _ h => h) (by kernel_rfl) (prev_bel _ _) ?_ ?_
  rotate_left
  · intro uu (pu : Prev uu _)
    go_simp
    try (with_reducible rfl)
  try simp only [List.set]
  refine wpAnyH_on (i := 39) (d := 95) (v := ?_) rfl rfl (by kernel_rfl) (by kernel_rfl) (by kernel_rfl) (fun _ _ _ h => h) (by kernel_rfl) (prev_bel _ _) ?_ ?_
  rotate_left
  · intro uu (pu : Prev uu _)
    go_simp
    try (with_reducible rfl)
  try simp only [List.set]
  refine wpAnyH_on (i := 40) (d := 96) (v := ?_) rfl rfl (by kernel_rfl) (by kernel_rfl) (by kernel_rfl) (fun _ _ _ h => h) (by kernel_rfl) (prev_bel _ _) ?_ ?_
  rotate_left
  · intro uu (pu : Prev uu _)
    go_simp
    try (with_reducible rfl)
  try simp only [List.set]
  refine wpAnyH_on (i := 41) (d := 97) (v := ?_) rfl rfl (by kernel_rfl) (by kernel_rfl) (by kernel_rfl) (fun _ _ _ h => h) (by kernel_rfl) (prev_bel _ _) ?_ ?_
  rotate_left
  · intro uu (pu : Prev uu _)
    go_simp
    try (with_reducible rfl)
  try simp only [List.set]
  refine wpAnyH_on (i := 42) (d := 98) (v := ?_) rfl rfl (by kernel_rfl) (by kernel_rfl) (by kernel_rfl) (fun _ _ _ h => h) (by kernel_rfl) (prev_bel _ _) ?_ ?_
  rotate_left
  · intro uu (pu : Prev uu _)
    go_simp
    try (with_reducible rfl)
  try simp only [List.set]
  refine wpAnyH_on (i := 43) (d := 99) (v := ?_) rfl rfl (by kernel_rfl) (by kernel_rfl) (by kernel_rfl) (fun _ _ _ h => h) (by kernel_rfl) (prev_bel _ _) ?_ ?_
  rotate_left
  · intro uu (pu : Prev uu _)
    go_simp
    try (with_reducible rfl)
  try simp only [List.set]
  refine wpAnyH_on (i := 44) (d := 100) (v := ?_) rfl rfl (by kernel_rfl) (by kernel_rfl) (by kernel_rfl) (fun _ _ _ h => h) (by kernel_rfl) (prev_bel _ _) ?_ ?_
  rotate_left
  · intro uu (pu : Prev uu _)
    go_simp
    try (with_reducible rfl)
  try simp only [List.set]
  refine wpAnyH_on (i := 45) (d := 101) (v := ?_) rfl rfl (by kernel_rfl) (by kernel_rfl) (by kernel_rfl) (fun _ _ _ h => h) (by kernel_rfl) (prev_bel _ _) ?_ ?_
  rotate_left
  · intro uu (pu : Prev uu _)
    go_simp
    try (with_reducible rfl)
  try simp only [List.set]
  refine wpAnyH_on (i := 46) (d := 102) (v := ?_) rfl rfl (by kernel_rfl) (by kernel_rfl) (by kernel_rfl) (fun _ _ _ h => h) (by kernel_rfl) (prev_bel _ _) ?_ ?_
  rotate_left
  · intro uu (pu : Prev uu _)
    go_simp
    try (with_reducible rfl)
  try simp only [List.set]
  refine wpAnyH_on (i := 47) (d := 103) (v := ?_) rfl rfl (by kernel_rfl) (by kernel_rfl) (by kernel_rfl) (fun _ _ _ h => h) (by kernel_rfl) (prev_bel _ _) ?_ ?_
  rotate_left
  · intro uu (pu : Prev uu _)
    go_simp
    try (with_reducible rfl)
  try simp only [List.set]
  refine wpAnyH_ready (rs := [48]) (by kernel_rfl) (by simp) ?_
  refine AllReadyH.cons rfl (fun K hK => ?_) AllReadyH.nil
  go_simp
  (with_reducible refine (aF_intM).mono ?_)
  rintro e ux ⟨rfl, _⟩
  dsimp only
  refine hK.out _ _ (prev_bel v _) (fun hHeld => ?_)
  clear hHeld hK K
  try dsimp only [Act.put, List.setIfInBounds_toArray, List.set_cons_zero, List.set_cons_succ]
  refine wpAnyH_on (i := 49) (d := 105) (v := ?_) rfl rfl (by kernel_rfl) (by kernel_rfl) (by kernel_rfl) (fun _ _ _ h => h) (by kernel_rfl) (prev_bel _ _) ?_ ?_
  rotate_left
  · intro uu (pu : Prev uu _)
    go_simp
    try (with_reducible rfl)
  try simp only [List.set]
  refine wpAnyH_on (i := 50) (d := 106) (v := ?_) rfl rfl (by kernel_rfl) (by kernel_rfl) (by kernel_rfl) (fun _ _ _ h => h) (by kernel_rfl) (prev_bel _ _) ?_ ?_
  rotate_left
  · intro uu (pu : Prev uu _)
    go_simp
    try (with_reducible rfl)
  try simp only [List.set]
  refine wpAnyH_on (i := 51) (d := 107) (v := ?_) rfl rfl (by kernel_rfl) (by kernel_rfl) (by kernel_rfl) (fun _ _ _ h => h) (by kernel_rfl) (prev_bel _ _) ?_ ?_
  rotate_left
  · intro uu (pu : Prev uu _)
    go_simp
    try (with_reducible rfl)
  try simp only [List.set]
  refine wpAnyH_on (i := 52) (d := 108) (v := ?_) rfl rfl (by kernel_rfl) (by kernel_rfl) (by kernel_rfl) (fun _ _ _ h => h) (by kernel_rfl) (prev_bel _ _) ?_ ?_
  rotate_left
  · intro uu (pu : Prev uu _)
    go_simp
    try (with_reducible rfl)
  try simp only [List.set]
  refine wpAnyH_on (i := 53) (d := 109) (v := ?_) rfl rfl (by kernel_rfl) (by kernel_rfl) (by kernel_rfl) (fun _ _ _ h => h) (by kernel_rfl) (prev_bel _ _) ?_ ?_
  rotate_left
  · intro uu (pu : Prev uu _)
    go_simp
    try (with_reducible rfl)
  try simp only [List.set]
  refine wpAnyH_on (i := 54) (d := 110) (v := ?_) rfl rfl (by kernel_rfl) (by kernel_rfl) (by kernel_rfl) (fun _ _ _ h => h) (by kernel_rfl) (prev_bel _ _) ?_ ?_
  rotate_left
  · intro uu (pu : Prev uu _)
    go_simp
    try (with_reducible rfl)
  try simp only [List.set]
  refine wpAnyH_on (i := 55) (d := 111) (v := ?_) rfl rfl (by kernel_rfl) (by kernel_rfl) (by kernel_rfl) (fun _ _ _ h => h) (by kernel_rfl) (prev_bel _ _) ?_ ?_
  rotate_left
  · intro uu (pu : Prev uu _)
    go_simp
    try (with_reducible rfl)
  try simp only [List.set]
  refine wpAnyH_on (i := 56) (d := 112) (v := ?_) rfl rfl (by kernel_rfl) (by kernel_rfl) (by kernel_rfl) (fun _ _ _ h => h) (by kernel_rfl) (prev_bel _ _) ?_ ?_
  rotate_left
  · intro uu (pu : Prev uu _)
    go_simp
    try (with_reducible rfl)
  try simp only [List.set]
  refine wpAnyH_on (i := 57) (d := 113) (v := ?_) rfl rfl (by kernel_rfl) (by kernel_rfl) (by kernel_rfl) (fun _ _ _ h => h) (by kernel_rfl) (prev_bel _ _) ?_ ?_
  rotate_left
  · intro uu (pu : Prev uu _)
    go_simp
    try (with_reducible rfl)
  try simp only [List.set]
  refine wpAnyH_on (i := 58) (d := 114) (v := ?_) rfl rfl (by kernel_rfl) (by kernel_rfl) (by kernel_rfl) (fun _ _ _ h => h) (by kernel_rfl) (prev_bel _ _) ?_ ?_
  rotate_left
  · intro uu (pu : Prev uu _)
    go_simp
    try (with_reducible rfl)
  try simp only [List.set]
  refine wpAnyH_on (i := 59) (d := 115) (v := ?_) rfl rfl (by kernel_rfl) (by kernel_rfl) (by kernel_rfl) (fun _ _ _ h => h) (by kernel_rfl) (prev_bel _ _) ?_ ?_
  rotate_left
  · intro uu (pu : Prev uu _)
    go_simp
    try (with_reducible rfl)
  try simp only [List.set]
  refine wpAnyH_on (i := 60) (d := 116) (v := ?_) rfl rfl (by kernel_rfl) (by kernel_rfl) (by kernel_rfl) (fun _ _ _ h => h) (by kernel_rfl) (prev_bel _ _) ?_ ?_
  rotate_left
  · intro uu (pu : Prev uu _)
    go_simp
    try (with_reducible rfl)
  try simp only [List.set]
  refine wpAnyH_on (i := 61) (d := 117) (v := ?_) rfl rfl (by kernel_rfl) (by kernel_rfl) (by kernel_rfl) (fun _ _ _ h => h) (by kernel_rfl) (prev_bel _ _) ?_ ?_
  rotate_left
  · intro uu (pu : Prev uu _)
    go_simp
    try (with_reducible rfl)
  try simp only [List.set]
  refine wpAnyH_on (i := 62) (d := 118) (v := ?_) rfl rfl (by kernel_rfl) (by kernel_rfl) (by kernel_rfl) (fun _ _ _ h => h) (by kernel_rfl) (prev_bel _ _) ?_ ?_
  rotate_left
  · intro uu (pu : Prev uu _)
    go_simp
    try (with_reducible rfl)
  try simp only [List.set]
  refine wpAnyH_ready (rs := [63]) (by kernel_rfl) (by simp) ?_
  refine AllReadyH.cons rfl (fun K hK => ?_) AllReadyH.nil
  go_simp
  (with_reducible refine (aF_intM).mono ?_)
  rintro e ux ⟨rfl, _⟩
  dsimp only
  refine hK.out _ _ (prev_bel v _) (fun hHeld => ?_)
  clear hHeld hK K
  try dsimp only [Act.put, List.setIfInBounds_toArray, List.set_cons_zero, List.set_cons_succ]
  refine wpAnyH_on (i := 64) (d := 120) (v := ?_) rfl rfl (by kernel_rfl) (by kernel_rfl) (by kernel_rfl) (fun _ _ _ h => h) (by kernel_rfl) (prev_bel _ _) ?_ ?_
  rotate_left
  · intro uu (pu : Prev uu _)
    go_simp
    try (with_reducible rfl)
  try simp only [List.set]
  refine wpAnyH_on (i := 65) (d := 121) (v := ?_) rfl rfl (by kernel_rfl) (by kernel_rfl) (by kernel_rfl) (fun _ _ _ h => h) (by kernel_rfl) (prev_bel _ _) ?_ ?_
  rotate_left
  · intro uu (pu : Prev uu _)
    go_simp
    try (with_reducible rfl)
  try simp only [List.set]
  refine wpAnyH_on (i := 66) (d := 122) (v := ?_) rfl rfl (by kernel_rfl) (by kernel_rfl) (by kernel_rfl) (fun _ _ _ h => h) (by kernel_rfl) (prev_bel _ _) ?_ ?_
  rotate_left
  · intro uu (pu : Prev uu _)
    go_simp
    try (with_reducible rfl)
  try simp only [List.set]
  refine wpAnyH_on (i := 67) (d := 123) (v := ?_) rfl rfl (by kernel_rfl) (by kernel_rfl) (by kernel_rfl) (fun _ _ _ h => h) (by kernel_rfl) (prev_bel _ _) ?_ ?_
  rotate_left
  · intro uu (pu : Prev uu _)
    go_simp
    try (with_reducible rfl)
  try simp only [List.set]
  refine wpAnyH_ready (rs := [68]) (by kernel_rfl) (by simp) ?_
  refine AllReadyH.cons rfl (fun K hK => ?_) AllReadyH.nil
  go_simp
  refine hK.out _ _ (prev_bel v _) (fun hHeld => ?_)
  clear hHeld hK K
  try dsimp only [Act.put, List.setIfInBounds_toArray, List.set_cons_zero, List.set_cons_succ]
  refine gen_boxH (fun ux _ _ => ?_)
  refine wpAnyH_ready (rs := [69]) (by kernel_rfl) (by simp) ?_
  refine AllReadyH.cons rfl (fun K hK => ?_) AllReadyH.nil
  go_simp
  (with_reducible refine (norm24).mono ?_)
  rintro e ux ⟨rfl, _⟩
  dsimp only
  refine hK.out _ _ (prev_bel v _) (fun hHeld => ?_)
  clear hHeld hK K
  try dsimp only [Act.put, List.setIfInBounds_toArray, List.set_cons_zero, List.set_cons_succ]
  refine wpAnyH_ready (rs := [70]) (by kernel_rfl) (by simp) ?_
  refine AllReadyH.cons rfl (fun K hK => ?_) AllReadyH.nil
  go_simp
  (with_reducible refine (aF_intM).mono ?_)
  rintro e ux ⟨rfl, _⟩
  dsimp only
  refine hK.out _ _ (prev_bel v _) (fun hHeld => ?_)
  clear hHeld hK K
  try dsimp only [Act.put, List.setIfInBounds_toArray, List.set_cons_zero, List.set_cons_succ]
  refine wpAnyH_on (i := 71) (d := 127) (v := ?_) rfl rfl (by kernel_rfl) (by kernel_rfl) (by kernel_rfl) (fun _ _ _ h => h) (by kernel_rfl) (prev_bel _ _) ?_ ?_
  rotate_left
  · intro uu (pu : Prev uu _)
    go_simp
    try (with_reducible rfl)
  try simp only [List.set]
  refine wpAnyH_on (i := 72) (d := 128) (v := ?_) rfl rfl (by kernel_rfl) (by kernel_rfl) (by kernel_rfl) (fun _ _ _ h => h) (by kernel_rfl) (prev_bel _ _) ?_ ?_
  rotate_left
  · intro uu (pu : Prev uu _)
    go_simp
    try (with_reducible rfl)
  try simp only [List.set]
  refine wpAnyH_on (i := 73) (d := 0) (v := ?_) rfl rfl (by kernel_rfl) (by kernel_rfl) (by kernel_rfl) (fun _ _ _ h => h) (by kernel_rfl) (prev_bel _ _) ?_ ?_
  rotate_left
  · intro uu (pu : Prev uu _)
    go_simp
    try (with_reducible rfl)
  try simp only [List.set]
  refine wpAnyH_done (by kernel_rfl) ?_ _
  go_wp2_with fail
  go_ret
  exact ⟨rfl, prev_bel _ _⟩
end

end Go.Proofs.Ytphcffcecncngaa

namespace Go.Proofs.Ytphcffcecncngaa
open Go.RowKit

/-- The same shapes, and as many cells. -/
structure Sim (ts us : List Tn) : Prop where
  len : ts.length = us.length
  at_ : ∀ (j : Nat) (t u : Tn), ts[j]? = some t → us[j]? = some u → t.zs = u.zs ∧ t.xs.length = u.xs.length
theorem Sim.symm {ts us : List Tn} (h : Sim ts us) : Sim us ts := ⟨h.len.symm, fun j t u ht hu => by obtain ⟨a, b⟩ := h.at_ j u t hu ht; exact ⟨a.symm, b.symm⟩⟩
theorem tRightB_same {t u : Tn} (h1 : t.zs = u.zs) (h2 : t.xs.length = u.xs.length) : tRightB t.zs t.xs = tRightB u.zs u.xs := by
  unfold tRightB; rw [h1, h2]
theorem at_of {α β : Type} {l : List α} {m : List β} (h : l.length = m.length) {j : Nat} {x : α} (hx : l[j]? = some x) : ∃ y, m[j]? = some y :=
  ⟨_, List.getElem?_eq_getElem (by rw [← h]; exact (List.getElem?_eq_some_iff.1 hx).1)⟩
theorem Sim.trans {ts us vs : List Tn} (h : Sim ts us) (k : Sim us vs) : Sim ts vs := ⟨h.len.trans k.len, fun j t v ht hv => by
  obtain ⟨u, hu⟩ := at_of h.len ht
  obtain ⟨a, b⟩ := h.at_ j t u ht hu
  obtain ⟨c, d⟩ := k.at_ j u v hu hv
  exact ⟨a.trans c, b.trans d⟩⟩
theorem all_of {α : Type} {f : α → Bool} {l : List α} (h : ∀ (j : Nat) x, l[j]? = some x → f x = true) : l.all f = true := by
  rw [List.all_eq_true]
  intro x hx
  obtain ⟨j, hj⟩ := List.mem_iff_getElem?.1 hx
  exact h j x hj
theorem Sim.valid {ts us : List Tn} (h : Sim ts us) (hv : validB ts = true) : validB us = true := all_of fun j u hu => by
  obtain ⟨t, ht⟩ := at_of h.len.symm hu
  obtain ⟨a, b⟩ := h.at_ j t u ht hu
  rw [← tRightB_same a b]
  exact validB_at hv ht
theorem zip_of {α β : Type} {l : List α} {m : List β} {j : Nat} {p : α × β} (h : (l.zip m)[j]? = some p) : l[j]? = some p.1 ∧ m[j]? = some p.2 := by
  obtain ⟨x, y⟩ := p
  rwa [List.getElem?_zip_eq_some] at h
theorem Sim.alike {ts us : List Tn} (h : Sim ts us) (hv : validB ts = true) : alikeTB ts us = true := by
  rw [alikeTB, decide_eq_true h.len, hv, h.valid hv, Bool.true_and, Bool.true_and, Bool.true_and]
  refine all_of fun j p hp => ?_
  obtain ⟨a, b⟩ := zip_of hp
  exact decide_eq_true (h.at_ j _ _ a b).1
theorem sim_of {ts us : List Tn} (h : alikeTB ts us = true) : Sim ts us :=
  ⟨(alikeTB_at h).1, fun j t u ht hu => by
    obtain ⟨_, _, a, b⟩ := (alikeTB_at h).2 j t u ht hu
    exact ⟨a, b⟩⟩
theorem Upd.sim {f : Nat → Tn → List Int} {k : Nat} {ts : List Tn} {qs : List Cp} (h : Upd f k ts qs) (hf : ∀ j t, ts[j]? = some t → (f j t).length = t.xs.length) : Sim ts (qs.map Cp.tn) :=
  ⟨by rw [List.length_map]; exact h.len.symm, fun j t u ht hu => by
    rw [List.getElem?_map] at hu
    obtain ⟨q, hq, rfl⟩ := Option.map_eq_some_iff.1 hu
    obtain ⟨a, b⟩ := h.at_ j q t hq ht
    refine ⟨a.symm, ?_⟩
    show t.xs.length = q.xs.length
    rw [b]
    split
    · exact (hf j t ht).symm
    · rfl⟩
theorem Upd.bd {f : Nat → Tn → List Int} {k : Nat} {ts : List Tn} {qs : List Cp} (h : Upd f k ts qs) (hb : ∀ t ∈ ts, ∀ z ∈ t.xs, I64 z) (hf : ∀ j t, ts[j]? = some t → ∀ z ∈ f j t, I64 z) : ∀ p ∈ qs, ∀ z ∈ p.xs, I64 z := by
  intro p hp z hz
  obtain ⟨j, hj⟩ := List.mem_iff_getElem?.1 hp
  obtain ⟨t, ht⟩ := at_of h.len hj
  obtain ⟨_, b⟩ := h.at_ j p t hj ht
  rw [b] at hz
  split at hz
  · exact hf j t ht z hz
  · exact hb t (List.mem_of_getElem? ht) z hz
theorem mix_mem {f : Nat → Int} {xs : List Int} {z : Int} (h : z ∈ mix f xs xs.length) : ∃ i, z = f i := by
  obtain ⟨i, hi⟩ := List.mem_iff_getElem?.1 h
  exact ⟨i, mix_full (Nat.le_refl _) hi⟩
theorem fsum_zero : ∀ (l : List Int), (∀ z ∈ l, z = 0) → fsum (l.map fabs) = 0
  | [], _ => rfl
  | z :: l, h => by
    have h0 := h z (by simp)
    subst h0
    have ih := fsum_zero l fun y hy => h y (by simp [hy])
    have e : fadd 0 (fabs 0) = 0 := by decide
    simpa [fsum, e] using ih
theorem normI_noughts {ts : List Tn} {qs : List Cp} {n : Nat} (h : Upd noughts n ts qs) (hn : ts.length ≤ n) : normI (qs.map Cp.tn) = 0 := by
  refine fsum_zero _ fun z hz => ?_
  obtain ⟨u, hu, hzu⟩ := List.mem_flatMap.1 hz
  obtain ⟨q, hq, rfl⟩ := List.mem_map.1 hu
  obtain ⟨j, hj⟩ := List.mem_iff_getElem?.1 hq
  obtain ⟨t, ht⟩ := at_of h.len hj
  obtain ⟨_, b⟩ := h.at_ j q t hj ht
  have hjn : j < n := Nat.lt_of_lt_of_le (List.getElem?_eq_some_iff.1 ht).1 hn
  rw [if_pos hjn] at b
  change z ∈ q.xs at hzu
  rw [b] at hzu
  exact (List.mem_replicate.1 hzu).2
theorem sameB_of {ts us : List Tn} (hl : ts.length = us.length) (h : ∀ (j : Nat) (t u : Tn), ts[j]? = some t → us[j]? = some u → t.zs = u.zs ∧ t.xs = u.xs) : sameB ts us = true := by
  rw [sameB, decide_eq_true hl, Bool.true_and]
  refine all_of fun j p hp => ?_
  obtain ⟨a, b⟩ := zip_of hp
  obtain ⟨c, d⟩ := h j _ _ a b
  simp [zxE, c, d]
theorem sameB_no {ts us : List Tn} {j : Nat} {t u : Tn} (ht : ts[j]? = some t) (hu : us[j]? = some u) (h : t.xs ≠ u.xs) : sameB ts us = false := by
  have : cellsB ts us = false := all_no (f := zxE) (zipT_at ht hu) (by simp [zxE, h])
  rw [sameB, this, Bool.and_false]
/-- Copies are the same. -/
theorem CPs.same {ts : List Tn} {ps : List Cp} (h : CPs ts ps) : sameB (ps.map Cp.tn) ts = true :=
  sameB_of (by rw [List.length_map]; exact h.len) fun j t u ht hu => by
    rw [List.getElem?_map] at ht
    obtain ⟨q, hq, rfl⟩ := Option.map_eq_some_iff.1 ht
    exact h.at hq hu
theorem CPs.sim {ts : List Tn} {ps : List Cp} (h : CPs ts ps) : Sim ts (ps.map Cp.tn) :=
  ⟨by rw [List.length_map]; exact h.len.symm, fun j t u ht hu => by
    rw [List.getElem?_map] at hu
    obtain ⟨q, hq, rfl⟩ := Option.map_eq_some_iff.1 hu
    obtain ⟨a, b⟩ := h.at hq ht
    exact ⟨a.symm, by show t.xs.length = q.xs.length; rw [b]⟩⟩
theorem Sim.mo {ts us : List Tn} (h : Sim ts us) (hm : Mo ts) : Mo us := fun u hu => by
  obtain ⟨j, hj⟩ := List.mem_iff_getElem?.1 hu
  obtain ⟨t, ht⟩ := at_of h.len.symm hj
  obtain ⟨a, b⟩ := h.at_ j t u ht hj
  have := hm t (List.mem_of_getElem? ht)
  rw [← a, ← b]; exact this
/-- A row of the call's own as tensors. -/
theorem CBk.tens {w : World} {lo G n : Nat} {ps : List Cp} (h : CBk w lo G n ps) (hl : ps.length = n) (hbd : ∀ p ∈ ps, ∀ z ∈ p.xs, I64 z) : Ts w (some ⟨G, 0, none⟩) n (ps.map Cp.tn) := by
  subst hl; exact h.ts hbd
instance TTs.lit1 {w : World} {B : Option Addr} {g n c : Nat} {T : TypeId} {ts : List Tn} [h : Bx w g T #[.slice B n c]] [s : Ts w B n ts] : TTs w (some ⟨g, 0, none⟩) 1 [⟨B, c, ts⟩] :=
  ⟨fun j l hj => by
    obtain ⟨s, rfl⟩ := s
    match j with
    | 0 => simp at hj; subst hj; exact ⟨g, 0, rfl, h.blk.lt, h.blk.cell 0, s⟩
    | j + 1 => simp at hj, rfl⟩
instance TTs.lit3 {w : World} {B C D : Option Addr} {g n c m d p e : Nat} {T : TypeId} {ts us vs : List Tn} [h : Bx w g T #[.slice B n c, .slice C m d, .slice D p e]] [s : Ts w B n ts] [x : Ts w C m us] [y : Ts w D p vs] : TTs w (some ⟨g, 0, none⟩) 3 [⟨B, c, ts⟩, ⟨C, d, us⟩, ⟨D, e, vs⟩] :=
  ⟨fun j l hj => by
    obtain ⟨s, rfl⟩ := s
    obtain ⟨x, rfl⟩ := x
    obtain ⟨y, rfl⟩ := y
    match j with
    | 0 => simp at hj; subst hj; exact ⟨g, 0, rfl, h.blk.lt, h.blk.cell 0, s⟩
    | 1 => simp at hj; subst hj; exact ⟨g, 0, rfl, h.blk.lt, h.blk.cell 1, x⟩
    | 2 => simp at hj; subst hj; exact ⟨g, 0, rfl, h.blk.lt, h.blk.cell 2, y⟩
    | j + 3 => simp at hj, rfl⟩
/-- Raised by one. -/
def raise (x : Int) : Int := IntKind.i64.wrap (x + 1)
def rowI (_ : Nat) (t : Tn) : List Int := mix (fun i => raise (t.xs.getD i 0)) t.xs t.xs.length
theorem raise_bd (x : Int) : I64 (raise x) := by
  unfold raise I64
  rw [IntKind.wrap_i64]
  omega
theorem raise_ne (x : Int) : raise x ≠ x := by
  unfold raise
  rw [IntKind.wrap_i64]
  omega
section
variable {w : World} {A B C D : Option Addr} {n m c d n' m' c' d' : Nat} {zs xs : List Int} {ts us : List Tn}
theorem aT_equalT24 [a : Sl w A n zs] [b : Sl w B m xs] [a' : Sl w C n' zs] [b' : Sl w D m' xs] (hn : n ≤ 1000000) (hm : m ≤ 1000000) (hn' : n' ≤ 1000000) : Calls Try.prog 46 #[.agg #[.slice A n c, .slice B m d], .agg #[.slice C n' c', .slice D m' d']] w (RetV w (.bool true)) :=
  retV_of (aT_equal hn hm hn') (by simp)
theorem op_normS [a : Ts w A n ts] (hn : n ≤ 1000000) (hz : Hid (Mo ts)) {S : Int} (h : Hid (normI ts = S)) : Calls Try.prog 45 #[.slice A n c] w (RetV w (.int .i64 S)) := retV_of (op_norm hn hz) (by rw [h.out])
end

end Go.Proofs.Ytphcffcecncngaa

namespace Go.Proofs.Ytphcffcecncngaa
open Go.RowKit Go.ChangeShapes Go.WideShapes Go.Deep

/-- A slice of tensors among the parameters. -/
structure TensIn (W : World) (A : Option Addr) (c : Nat) (ts : List Tn) : Prop where
  rd : TRd W A ts
  le : ts.length ≤ c
  max : c ≤ maxLen
section
variable {H : Type} {enc : TypeId × Value → H} {W : World} {base : Nat} {held : Bool}
theorem cell_none {a : Addr} {v : Value} (h : W.cell? a = some v) : ∃ b o, a = ⟨b, o, none⟩ := by
  obtain ⟨b, off, sp⟩ := a
  cases sp with
  | none => exact ⟨b, off, rfl⟩
  | some s =>
    exfalso
    simp [World.cell?] at h
    split at h <;> simp at h
theorem add_plain (b o k : Nat) : (⟨b, o, none⟩ : Addr).add k = ⟨b, o + k, none⟩ := by
  unfold Addr.add
  split
  · rename_i e; subst e; rfl
  · rfl
set_option maxRecDepth 100000 in
theorem trod_grid {fuel : Nat} {cs : List Value} {x : DataW H × List MemPlace} (h : DataW.trod enc Try.prog W base (fun _ => true) held fuel 65 cs = some x) (hl : cs.length = 2) :
    ∃ A c zs B d xs, cs = [.slice A zs.length c, .slice B xs.length d] ∧ IntsIn W A c zs ∧ IntsIn W B d xs := by
  match cs, hl with
  | [v0, v1], _ =>
    obtain ⟨_, _, h0⟩ := fld Try.underlying65 h 0 _ rfl
    obtain ⟨_, _, h1⟩ := fld Try.underlying65 h 1 _ rfl
    replace h0 : DataW.trod enc Try.prog W base (fun _ => true) held _ 62 [v0] = some _ := h0
    replace h1 : DataW.trod enc Try.prog W base (fun _ => true) held _ 63 [v1] = some _ := h1
    obtain ⟨A, c, zs, rfl, i0⟩ := trod_ints Try.underlying62 Try.underlying3 (by kernel_rfl) h0
    obtain ⟨B, d, xs, rfl, i1⟩ := trod_ints Try.underlying63 Try.underlying45 (by kernel_rfl) h1
    exact ⟨A, c, zs, B, d, xs, rfl, i0, i1⟩
set_option maxRecDepth 100000 in
theorem trod_tens {fuel : Nat} {v : Value} {x : DataW H × List MemPlace} (h : DataW.trod enc Try.prog W base (fun _ => true) held fuel 58 [v] = some x) : ∃ A c ts, v = .slice A (List.length ts) c ∧ TensIn W A c ts := by
  rcases open_slice Try.underlying58 h with ⟨hcs, _⟩ | ⟨a, len, cap, m, n, D, Pl, hcs, _, hl, hm, hmm, _, hi⟩
  · injection hcs with hcs; subst hcs
    exact ⟨none, 0, [], rfl, TRd.nil _ _, Nat.le_refl _, Nat.zero_le _⟩
  · injection hcs with hcs; subst hcs
    simp only [if_true] at hmm
    subst hmm
    have hC : Try.prog.cellsOf 65 = 2 := by kernel_rfl
    have key : ∀ i, i < m → ∃ (b o : Nat) (t : Tn), a = ⟨b, o, none⟩ ∧ TIn W b (o + i * 2) t := by
      intro i him
      obtain ⟨cs', hc, ht⟩ := hi i him
      rw [hC] at hc
      obtain ⟨_, hcl, hat⟩ := World.cells?_some hc
      obtain ⟨A, c, zs, B, d, xs, rfl, i0, i1⟩ := trod_grid ht hcl
      have g0 := hat 0 (by omega)
      have g1 := hat 1 (by omega)
      rw [Go.Deep.add_add] at g0 g1
      have ea : ∃ b o, a = ⟨b, o, none⟩ := by
        obtain ⟨cs0, hc0, ht0⟩ := hi 0 (by omega)
        rw [hC] at hc0
        obtain ⟨_, hcl0, hat0⟩ := World.cells?_some hc0
        obtain ⟨_, _, _, _, _, _, rfl, _, _⟩ := trod_grid ht0 hcl0
        have g := hat0 0 (by omega)
        rw [Go.Deep.add_add] at g
        exact cell_none (show W.cell? (a.add 0) = some _ from g)
      obtain ⟨b', o', rfl⟩ := ea
      rw [add_plain] at g0 g1
      exact ⟨b', o', ⟨A, c, zs, B, d, xs⟩, rfl, World.block_lt_of_cell? W _ g0, g0, g1, i0.rd, i1.rd, i1.2.1, fun z hz => wf_bounds (i1.2.2.2 z hz)⟩
    have all : ∀ k, k ≤ m → ∃ ts : List Tn, ts.length = k ∧ TRd W (some a) ts := by
      intro k
      induction k with
      | zero => intro _; exact ⟨[], rfl, TRd.nil _ _⟩
      | succ k ih =>
        intro hk
        obtain ⟨ts, hlen, hrd⟩ := ih (by omega)
        obtain ⟨b, o, t, rfl, ht⟩ := key k (by omega)
        refine ⟨ts ++ [t], by simp [hlen], fun j u hj => ?_⟩
        by_cases hjk : j < k
        · rw [List.getElem?_append_left (by omega)] at hj
          exact hrd j u hj
        · have : j = k := by
            have := (List.getElem?_eq_some_iff.1 hj).1
            simp at this; omega
          subst this
          rw [List.getElem?_append_right (by omega), hlen] at hj
          simp at hj; subst hj
          exact ⟨b, o, rfl, ht⟩
    obtain ⟨ts, hlen, hrd⟩ := all len hl
    exact ⟨some a, m, ts, by rw [hlen], hrd, by omega, hm⟩
set_option maxRecDepth 100000 in
theorem arg_tens {b0 : Nat} {v : Value} {d : DataW H} {p : List MemPlace} (hval : Value.okWide Try.prog W .any b0 58 v) (h : DataW.Trod enc Try.prog W base (fun _ => true) held 58 v d p) : ∃ A c ts, v = .slice A (List.length ts) c ∧ TensIn W A c ts := by
  obtain ⟨a, l, c, rfl⟩ := okWide_slice Try.underlying58 hval
  obtain ⟨fuel, hf⟩ := h
  exact trod_tens hf
end

end Go.Proofs.Ytphcffcecncngaa

namespace Go.Proofs.Ytphcffcecncngaa
open Go.RowKit Go.ChangeShapes Go.WideShapes Go.Deep

/-- No slice of the datum takes more than the reach. -/
def Wt {H : Type} (t : TypeId) (d : DataW H) : Prop := ∀ n ∈ d.weights Try.prog t, n ≤ reachBytes
abbrev reach8 : Nat := 17592186043904
theorem wt_each {H : Type} {ts : List TypeId} {ds : List (DataW H)} (h : (DataW.weightsEach Try.prog ts ds).all (· ≤ reachBytes) = true) {j : Nat} {t : TypeId} {d : DataW H} (ht : ts[j]? = some t) (hd : ds[j]? = some d) : Wt t d :=
  fun n hn => by simpa using List.all_eq_true.1 h _ (DataW.weights_mem_each ht hd n hn)
section
variable {H : Type} {enc : TypeId × Value → H} {W : World} {base : Nat} {held : Bool}
theorem trod_intsW {T E : TypeId} {fuel : Nat} {v : Value} {x : DataW H × List MemPlace} (hT : Try.prog.underlying T = some (.slice E)) (hE : Try.prog.underlying E = some (.int .i64)) (hc : Try.prog.cellsOf E = 1) (hb : Try.prog.bytesOf E = 8)
    (h : DataW.trod enc Try.prog W base (fun _ => true) held fuel T [v] = some x) (hw : Wt T x.1) : ∃ A c zs, v = .slice A (List.length zs) c ∧ IntsIn W A c zs ∧ zs.length ≤ reach8 := by
  obtain ⟨A, c, zs, rfl, hi⟩ := trod_ints hT hE hc h
  refine ⟨A, c, zs, rfl, hi, ?_⟩
  rcases open_ints hT hE hc h with ⟨hcs, _⟩ | ⟨a, l, c, zs', hcs, _, hl, hm, hz, hx, _, _⟩
  · injection hcs with hcs; injection hcs with _ e _; omega
  · injection hcs with hcs
    injection hcs with _ e _
    subst hx
    have := hw ((((zs'.take l).length + (zs'.drop l).length)) * 8) (by simp [DataW.weights, hT, hb, lits])
    simp only [if_true] at hz
    simp [reachBytes] at this
    unfold reach8
    omega
set_option maxRecDepth 100000 in
theorem trod_gridW {fuel : Nat} {cs : List Value} {x : DataW H × List MemPlace} (h : DataW.trod enc Try.prog W base (fun _ => true) held fuel 65 cs = some x) (hl : cs.length = 2) (hw : Wt 65 x.1) :
    ∃ A c zs B d xs, cs = [.slice A (List.length zs) c, .slice B (List.length xs) d] ∧ IntsIn W A c zs ∧ IntsIn W B d xs ∧ zs.length ≤ reach8 ∧ xs.length ≤ reach8 := by
  match cs, hl with
  | [v0, v1], _ =>
    obtain ⟨ys, n, _, hx, _, hyl, hg⟩ := DataW.trod_struct Try.underlying65 h
    match ys, hyl with
    | [y0, y1], _ =>
      have h0 : DataW.trod enc Try.prog W base (fun _ => true) held n 62 [v0] = some y0 := hg 0 _ rfl
      have h1 : DataW.trod enc Try.prog W base (fun _ => true) held n 63 [v1] = some y1 := hg 1 _ rfl
      have e : x.1 = .agg [y0.1, y1.1] := by rw [hx]; rfl
      have hws : ∀ n ∈ DataW.weightsEach Try.prog [62, 63] [y0.1, y1.1], n ≤ reachBytes := by
        intro n hn
        refine hw n ?_
        rw [e]
        simp only [DataW.weights, Try.underlying65]
        exact hn
      obtain ⟨A, c, zs, rfl, i0, l0⟩ := trod_intsW Try.underlying62 Try.underlying3 (by kernel_rfl) (by kernel_rfl) h0 (fun n hn => hws n (DataW.weights_mem_each (j := 0) rfl rfl n hn))
      obtain ⟨B, d, xs, rfl, i1, l1⟩ := trod_intsW Try.underlying63 Try.underlying45 (by kernel_rfl) (by kernel_rfl) h1 (fun n hn => hws n (DataW.weights_mem_each (j := 1) rfl rfl n hn))
      exact ⟨A, c, zs, B, d, xs, rfl, i0, i1, l0, l1⟩
theorem weightsAll_mem {e : TypeId} : ∀ {l : List (DataW H)} {d : DataW H}, d ∈ l → ∀ n ∈ d.weights Try.prog e, n ∈ DataW.weightsAll Try.prog e l
  | a :: l, d, h, n, hn => by
    simp only [DataW.weightsAll, List.mem_append]
    rcases List.mem_cons.1 h with rfl | h
    · exact .inl hn
    · exact .inr (weightsAll_mem h n hn)
/-- A slice of tensors among the parameters, all lengths within the reach. -/
structure TensW (W : World) (A : Option Addr) (c : Nat) (ts : List Tn) : Prop where
  rd : TRd W A ts
  big : ∀ t ∈ ts, t.zs.length ≤ reach8 ∧ t.xs.length ≤ reach8
  caps : ∀ t ∈ ts, t.zs.length ≤ t.c
  len : ts.length * 48 ≤ 140737488351232
  cap : ts.length ≤ c
set_option maxRecDepth 100000 in
theorem trod_tensW {fuel : Nat} {v : Value} {x : DataW H × List MemPlace} (h : DataW.trod enc Try.prog W base (fun _ => true) held fuel 58 [v] = some x) (hw : Wt 58 x.1) : ∃ A c ts, v = .slice A (List.length ts) c ∧ TensW W A c ts := by
  rcases open_slice Try.underlying58 h with ⟨hcs, _⟩ | ⟨a, len, cap, m, n, D, Pl, hcs, _, hl, hm, hmm, hx, hi⟩
  · injection hcs with hcs; subst hcs
    exact ⟨none, 0, [], rfl, TRd.nil _ _, by simp, by simp, by simp, Nat.le_refl _⟩
  · injection hcs with hcs; subst hcs
    simp only [if_true] at hmm
    subst hmm
    have hC : Try.prog.cellsOf 65 = 2 := by kernel_rfl
    have hB : Try.prog.bytesOf 65 = 48 := by kernel_rfl
    have hwd : ∀ i, i < len → Wt 65 (D i) := fun i hi n hn => by
      refine hw n ?_
      rw [hx]
      simp only [DataW.weights, Try.underlying58, List.mem_cons, List.mem_append]
      exact .inr (.inl (weightsAll_mem (List.mem_map.2 ⟨i, List.mem_range.2 hi, rfl⟩) n hn))
    have hlen : len * 48 ≤ 140737488351232 := by
      have := hw ((len + (m - len)) * 48) (by rw [hx]; simp [DataW.weights, Try.underlying58, hB])
      simp [reachBytes] at this
      omega
    have key : ∀ i, i < len → ∃ (b o : Nat) (t : Tn), a = ⟨b, o, none⟩ ∧ TIn W b (o + i * 2) t ∧ t.zs.length ≤ reach8 ∧ t.xs.length ≤ reach8 ∧ t.zs.length ≤ t.c := by
      intro i him
      obtain ⟨cs', hc, ht⟩ := hi i (by omega)
      rw [hC] at hc
      obtain ⟨_, hcl, hat⟩ := World.cells?_some hc
      obtain ⟨A, c, zs, B, d, xs, rfl, i0, i1, l0, l1⟩ := trod_gridW ht hcl (hwd i him)
      have g0 := hat 0 (by omega)
      have g1 := hat 1 (by omega)
      rw [Go.Deep.add_add] at g0 g1
      have ea : ∃ b o, a = ⟨b, o, none⟩ := by
        obtain ⟨cs0, hc0, ht0⟩ := hi 0 (by omega)
        rw [hC] at hc0
        obtain ⟨_, hcl0, hat0⟩ := World.cells?_some hc0
        obtain ⟨_, _, _, _, _, _, rfl, _, _⟩ := trod_grid ht0 hcl0
        have g := hat0 0 (by omega)
        rw [Go.Deep.add_add] at g
        exact cell_none (show W.cell? (a.add 0) = some _ from g)
      obtain ⟨b', o', rfl⟩ := ea
      rw [add_plain] at g0 g1
      exact ⟨b', o', ⟨A, c, zs, B, d, xs⟩, rfl, ⟨World.block_lt_of_cell? W _ g0, g0, g1, i0.rd, i1.rd, i1.2.1, fun z hz => wf_bounds (i1.2.2.2 z hz)⟩, l0, l1, i0.2.1⟩
    have all : ∀ k, k ≤ len → ∃ ts : List Tn, ts.length = k ∧ TRd W (some a) ts ∧ ∀ t ∈ ts, t.zs.length ≤ reach8 ∧ t.xs.length ≤ reach8 ∧ t.zs.length ≤ t.c := by
      intro k
      induction k with
      | zero => intro _; exact ⟨[], rfl, TRd.nil _ _, by simp⟩
      | succ k ih =>
        intro hk
        obtain ⟨ts, hlen, hrd, hbig⟩ := ih (by omega)
        obtain ⟨b, o, t, rfl, ht, hl⟩ := key k (by omega)
        refine ⟨ts ++ [t], by simp [hlen], fun j u hj => ?_, fun u hu => ?_⟩
        · by_cases hjk : j < k
          · rw [List.getElem?_append_left (by omega)] at hj
            exact hrd j u hj
          · have : j = k := by
              have := (List.getElem?_eq_some_iff.1 hj).1
              simp at this; omega
            subst this
            rw [List.getElem?_append_right (by omega), hlen] at hj
            simp at hj; subst hj
            exact ⟨b, o, rfl, ht⟩
        · rcases List.mem_append.1 hu with hu | hu
          · exact hbig u hu
          · simp at hu; subst hu; exact hl
    obtain ⟨ts, hts, hrd, hbig⟩ := all len (Nat.le_refl _)
    exact ⟨some a, m, ts, by rw [hts], hrd, fun t ht => ⟨(hbig t ht).1, (hbig t ht).2.1⟩, fun t ht => (hbig t ht).2.2, by omega, by omega⟩
set_option maxRecDepth 100000 in
theorem arg_tensW {b0 : Nat} {v : Value} {d : DataW H} {p : List MemPlace} (hval : Value.okWide Try.prog W .any b0 58 v) (h : DataW.Trod enc Try.prog W base (fun _ => true) held 58 v d p) (hw : Wt 58 d) : ∃ A c ts, v = .slice A (List.length ts) c ∧ TensW W A c ts := by
  obtain ⟨a, l, c, rfl⟩ := okWide_slice Try.underlying58 hval
  obtain ⟨fuel, hf⟩ := h
  exact trod_tensW hf hw
end

end Go.Proofs.Ytphcffcecncngaa

namespace Go.Proofs.Ytphcffcecncngaa
open Go.RowKit Go.ChangeShapes Go.WideShapes Go.Deep

section
variable {H : Type} {enc : TypeId × Value → H} {W : World} {base : Nat} {held : Bool}
/-- A field of a struct that was read, and the bound on it. -/
theorem fldW {T : TypeId} {fs : Array Field} {fuel : Nat} {cs : List Value} {x : DataW H × List MemPlace} {spare : Nat → Bool} (hT : Try.prog.underlying T = some (.struct fs)) (h : DataW.trod enc Try.prog W base spare held fuel T cs = some x) (hw : Wt T x.1)
    (i : Nat) (f : Field) (hf : fs[i]? = some f) : ∃ n y, DataW.trod enc Try.prog W base spare held n f.type ((cs.drop f.offset).take (Try.prog.cellsOf f.type)) = some y ∧ Wt f.type y.1 := by
  obtain ⟨xs, n, _, hx, _, hl, hg⟩ := DataW.trod_struct hT h
  have hi : i < xs.length := by rw [hl]; exact (Array.getElem?_eq_some_iff.1 hf).1
  refine ⟨n, xs[i], (hg i f hf).trans (List.getElem?_eq_getElem hi), fun m hm => hw m ?_⟩
  rw [hx]
  simp only [DataW.weights, hT]
  refine DataW.weights_mem_each (j := i) (t := f.type) (d := xs[i].1) ?_ ?_ m hm
  · simp [hf]
  · simp [List.getElem?_eq_getElem hi]
set_option maxRecDepth 100000 in
theorem arg_grid {b0 : Nat} {v : Value} {d : DataW H} {p : List MemPlace} (hval : Value.okWide Try.prog W .any b0 65 v) (h : DataW.Trod enc Try.prog W base (fun _ => true) held 65 v d p) (hw : Wt 65 d) :
    ∃ A c zs B d xs, v = .agg #[.slice A (List.length zs) c, .slice B (List.length xs) d] ∧ IntsIn W A c zs ∧ IntsIn W B d xs ∧ zs.length ≤ reach8 ∧ xs.length ≤ reach8 := by
  obtain ⟨cs, rfl, hsz⟩ := okWide_struct Try.underlying65 hval
  obtain ⟨q0, q1, rfl⟩ := arr2 (hsz.trans (by kernel_rfl))
  obtain ⟨fuel, hf⟩ := h
  obtain ⟨A, c, zs, B, d, xs, e, r⟩ := trod_gridW hf rfl hw
  simp only [Value.cells] at e
  injection e with e0 e1; injection e1 with e1 _; subst e0 e1
  exact ⟨A, c, zs, B, d, xs, rfl, r⟩
end

end Go.Proofs.Ytphcffcecncngaa

namespace Go.Proofs.Ytphcffcecncngaa
open Go.RowKit Go.ChangeShapes Go.WideShapes Go.Deep

section
variable {H : Type} {enc : TypeId × Value → H} {W : World} {base : Nat} {held : Bool}
theorem TensW.l8 {A : Option Addr} {c : Nat} {ts : List Tn} (h : TensW W A c ts) : ts.length ≤ 17592186043904 := by have := h.len; omega
set_option maxRecDepth 100000 in
theorem arg_case24 {b0 : Nat} {v : Value} {d : DataW H} {p : List MemPlace} (hval : Value.okWide Try.prog W .any b0 72 v) (h : DataW.Trod enc Try.prog W base (fun _ => true) held 72 v d p) (hw : Wt 72 d) :
    ∃ A c ts B c' us r m dd cl dr ev st C c'' gs, v = .agg #[.slice A (List.length ts) c, .slice B (List.length us) c', .int .i64 r, .int .i64 m, .int .i64 dd, .int .i64 cl, .int .i64 dr, .int .i64 ev, .int .i64 st, .slice C (List.length gs) c''] ∧
      TensW W A c ts ∧ TensW W B c' us ∧ TensW W C c'' gs ∧ I64 r ∧ I64 m ∧ I64 dd ∧ I64 cl ∧ I64 dr := by
  obtain ⟨cs, rfl, hsz⟩ := okWide_struct Try.underlying72 hval
  obtain ⟨q0, q1, q2, q3, q4, q5, q6, q7, q8, q9, rfl⟩ := arr10 (hsz.trans (by kernel_rfl))
  obtain ⟨fuel, hf⟩ := h
  obtain ⟨_, _, h0, w0⟩ := fldW Try.underlying72 hf hw 0 _ rfl
  obtain ⟨_, _, h1, w1⟩ := fldW Try.underlying72 hf hw 1 _ rfl
  obtain ⟨_, _, h2, w2⟩ := fldW Try.underlying72 hf hw 2 _ rfl
  obtain ⟨_, _, h3, w3⟩ := fldW Try.underlying72 hf hw 3 _ rfl
  replace h0 : DataW.trod enc Try.prog W base (fun _ => true) held _ 70 [q0, q1] = some _ := h0
  replace h1 : DataW.trod enc Try.prog W base (fun _ => true) held _ 47 [q2, q3, q4, q5, q6, q7] = some _ := h1
  replace h2 : DataW.trod enc Try.prog W base (fun _ => true) held _ 3 [q8] = some _ := h2
  replace h3 : DataW.trod enc Try.prog W base (fun _ => true) held _ 58 [q9] = some _ := h3
  obtain ⟨_, _, h00, w00⟩ := fldW Try.underlying70 h0 w0 0 _ rfl
  obtain ⟨_, _, h01, w01⟩ := fldW Try.underlying70 h0 w0 1 _ rfl
  replace h00 : DataW.trod enc Try.prog W base (fun _ => true) held _ 58 [q0] = some _ := h00
  replace h01 : DataW.trod enc Try.prog W base (fun _ => true) held _ 58 [q1] = some _ := h01
  obtain ⟨_, _, k0⟩ := fld Try.underlying47 h1 0 _ rfl
  obtain ⟨_, _, k1⟩ := fld Try.underlying47 h1 1 _ rfl
  obtain ⟨_, _, k2⟩ := fld Try.underlying47 h1 2 _ rfl
  obtain ⟨_, _, k3⟩ := fld Try.underlying47 h1 3 _ rfl
  obtain ⟨_, _, k4⟩ := fld Try.underlying47 h1 4 _ rfl
  obtain ⟨_, _, k5⟩ := fld Try.underlying47 h1 5 _ rfl
  replace k0 : DataW.trod enc Try.prog W base (fun _ => true) held _ 45 [q2] = some _ := k0
  replace k1 : DataW.trod enc Try.prog W base (fun _ => true) held _ 45 [q3] = some _ := k1
  replace k2 : DataW.trod enc Try.prog W base (fun _ => true) held _ 45 [q4] = some _ := k2
  replace k3 : DataW.trod enc Try.prog W base (fun _ => true) held _ 45 [q5] = some _ := k3
  replace k4 : DataW.trod enc Try.prog W base (fun _ => true) held _ 45 [q6] = some _ := k4
  replace k5 : DataW.trod enc Try.prog W base (fun _ => true) held _ 3 [q7] = some _ := k5
  obtain ⟨r, rfl, i0⟩ := trod_int1 Try.underlying45 k0
  obtain ⟨m, rfl, i1⟩ := trod_int1 Try.underlying45 k1
  obtain ⟨dd, rfl, i2⟩ := trod_int1 Try.underlying45 k2
  obtain ⟨cl, rfl, i3⟩ := trod_int1 Try.underlying45 k3
  obtain ⟨dr, rfl, i4⟩ := trod_int1 Try.underlying45 k4
  obtain ⟨ev, rfl, -⟩ := trod_int1 Try.underlying3 k5
  obtain ⟨st, rfl, -⟩ := trod_int1 Try.underlying3 h2
  obtain ⟨A, c, ts, rfl, t0⟩ := trod_tensW h00 w00
  obtain ⟨B, c', us, rfl, t1⟩ := trod_tensW h01 w01
  obtain ⟨C, c'', gs, rfl, t2⟩ := trod_tensW h3 w3
  exact ⟨A, c, ts, B, c', us, r, m, dd, cl, dr, ev, st, C, c'', gs, rfl, t0, t1, t2, wf_bounds i0, wf_bounds i1, wf_bounds i2, wf_bounds i3, wf_bounds i4⟩
/-- A slice of lists of tensors among the parameters, all lengths within the reach. -/
structure TTW (W : World) (A : Option Addr) (ls : List TL) : Prop where
  rd : TTRd W A ls
  big : ∀ l ∈ ls, l.ts.length ≤ 17592186043904 ∧ Bigs l.ts
  len : ls.length ≤ 17592186043904
set_option maxRecDepth 100000 in
theorem trod_ttensW {fuel : Nat} {v : Value} {x : DataW H × List MemPlace} (h : DataW.trod enc Try.prog W base (fun _ => true) held fuel 56 [v] = some x) (hw : Wt 56 x.1) : ∃ A c ls, v = .slice A (List.length ls) c ∧ TTW W A ls := by
  rcases open_slice Try.underlying56 h with ⟨hcs, _⟩ | ⟨a, len, cap, m, n, D, Pl, hcs, _, hl, hm, hmm, hx, hi⟩
  · injection hcs with hcs; subst hcs
    exact ⟨none, 0, [], rfl, (fun j l hj => by simp at hj), by simp, by simp⟩
  · injection hcs with hcs; subst hcs
    simp only [if_true] at hmm
    subst hmm
    have hC : Try.prog.cellsOf 58 = 1 := by kernel_rfl
    have hB : Try.prog.bytesOf 58 = 24 := by kernel_rfl
    have hwd : ∀ i, i < len → Wt 58 (D i) := fun i hi n hn => by
      refine hw n ?_
      rw [hx]
      simp only [DataW.weights, Try.underlying56, List.mem_cons, List.mem_append]
      exact .inr (.inl (weightsAll_mem (List.mem_map.2 ⟨i, List.mem_range.2 hi, rfl⟩) n hn))
    have hlen : len * 24 ≤ 140737488351232 := by
      have := hw ((len + (m - len)) * 24) (by rw [hx]; simp [DataW.weights, Try.underlying56, hB])
      simp [reachBytes] at this
      omega
    have key : ∀ i, i < len → ∃ (b o : Nat) (l : TL), a = ⟨b, o, none⟩ ∧ b < W.heap.size ∧ W.cell? ⟨b, o + i, none⟩ = some (.slice l.A l.ts.length l.c) ∧ TRd W l.A l.ts ∧ l.ts.length ≤ 17592186043904 ∧ Bigs l.ts := by
      intro i him
      obtain ⟨cs', hc, ht⟩ := hi i (by omega)
      rw [hC] at hc
      obtain ⟨_, hcl, hat⟩ := World.cells?_some hc
      match cs', hcl with
      | [u], _ =>
        obtain ⟨A, c, ts, rfl, tw⟩ := trod_tensW ht (hwd i him)
        have g0 := hat 0 (by omega)
        rw [Go.Deep.add_add] at g0
        have g0' : W.cell? (a.add (i * 1 + 0)) = some (.slice A ts.length c) := g0
        have ea : ∃ b o, a = ⟨b, o, none⟩ := by
          obtain ⟨cs0, hc0, ht0⟩ := hi 0 (by omega)
          rw [hC] at hc0
          obtain ⟨_, hcl0, hat0⟩ := World.cells?_some hc0
          match cs0, hcl0 with
          | [u0], _ =>
            obtain ⟨A0, c0, ts0, rfl, _⟩ := trod_tensW ht0 (hwd 0 (by omega))
            have g := hat0 0 (by omega)
            rw [Go.Deep.add_add] at g
            exact cell_none (show W.cell? (a.add 0) = some _ from g)
        obtain ⟨b', o', rfl⟩ := ea
        rw [add_plain, Nat.mul_one, Nat.add_zero] at g0'
        exact ⟨b', o', ⟨A, c, ts⟩, rfl, World.block_lt_of_cell? W _ g0', g0', tw.rd, tw.l8, tw.big⟩
    have all : ∀ k, k ≤ len → ∃ ls : List TL, ls.length = k ∧ TTRd W (some a) ls ∧ ∀ l ∈ ls, l.ts.length ≤ 17592186043904 ∧ Bigs l.ts := by
      intro k
      induction k with
      | zero => intro _; exact ⟨[], rfl, (fun j l hj => by simp at hj), by simp⟩
      | succ k ih =>
        intro hk
        obtain ⟨ls, hlen, hrd, hbig⟩ := ih (by omega)
        obtain ⟨b, o, l, rfl, e1, e2, e3, e4, e5⟩ := key k (by omega)
        refine ⟨ls ++ [l], by simp [hlen], fun j u hj => ?_, fun u hu => ?_⟩
        · by_cases hjk : j < k
          · rw [List.getElem?_append_left (by omega)] at hj
            exact hrd j u hj
          · have : j = k := by
              have := (List.getElem?_eq_some_iff.1 hj).1
              simp at this; omega
            subst this
            rw [List.getElem?_append_right (by omega), hlen] at hj
            simp at hj; subst hj
            exact ⟨b, o, rfl, e1, e2, e3⟩
        · rcases List.mem_append.1 hu with hu | hu
          · exact hbig u hu
          · simp at hu; subst hu; exact ⟨e4, e5⟩
    obtain ⟨ls, hls, hrd, hbig⟩ := all len (Nat.le_refl _)
    exact ⟨some a, m, ls, by rw [hls], hrd, hbig, by omega⟩
set_option maxRecDepth 100000 in
theorem arg_ttensW {b0 : Nat} {v : Value} {d : DataW H} {p : List MemPlace} (hval : Value.okWide Try.prog W .any b0 56 v) (h : DataW.Trod enc Try.prog W base (fun _ => true) held 56 v d p) (hw : Wt 56 d) : ∃ A c ls, v = .slice A (List.length ls) c ∧ TTW W A ls := by
  obtain ⟨a, l, c, rfl⟩ := okWide_slice Try.underlying56 hval
  obtain ⟨fuel, hf⟩ := h
  exact trod_ttensW hf hw
end

end Go.Proofs.Ytphcffcecncngaa

namespace Go.Proofs.Ytphcffcecncngaa
open Go.RowKit

section
variable {w : World} {A : Option Addr} {n m c : Nat} {zs xs : List Int}
def RetMO (w : World) (zs xs : List Int) (n m : Nat) (e : Ending) (w' : World) : Prop :=
  ∃ g g', e = .returned (.tuple #[.agg #[.slice (some ⟨g, 0, none⟩) n n, .slice (some ⟨g', 0, none⟩) m m], .int .i64 0]) ∧ w.heap.size ≤ g ∧ w.heap.size ≤ g' ∧ Own w' g 3 zs ∧ Own w' g' 45 xs ∧ Prev w' w
theorem aT_makeO [a : Sl w A n zs] (hn : n ≤ 1000000) {fill : Int} (hr : rightB zs = true) (hp : Hid (prodL zs = (m : Int))) : Calls Try.prog 47 #[.slice A n c, .int .i64 fill] w (RetMO w zs (List.replicate m fill) n m) := by
  obtain ⟨a, rfl⟩ := a
  exact (t_make_row A c zs fill m w hn a (Lib.hid hr) hp).mono fun _ _ ⟨g, g', he, h1, h2, o1, o2, hb⟩ => ⟨g, g', by rw [he, List.length_replicate], h1, h2, o1, o2, ⟨hb⟩⟩
end

end Go.Proofs.Ytphcffcecncngaa

namespace Go.Proofs.Ytphcffcecncngaa
open Go.RowKit

section
variable {w w' : World} {A B C D : Option Addr} {n m c d c' d' g g' : Nat} {zs xs : List Int} {us ts : List Tn} {t : Tn}
/-- The rows of t are the call's own. -/
def TO (w : World) (B : Nat) (t : Tn) : Prop := OwnA w B 3 t.A t.c t.zs ∧ OwnA w B 45 t.B t.d t.xs
theorem TO.at {b : Nat} (h : TO w b t) [l : Later w w'] : TO w' b t := ⟨h.1.at, h.2.at⟩
theorem TO.te {b : Nat} (h : TO w b t) (bd : ∀ z ∈ t.xs, I64 z) : TE w t := ⟨h.1.rd, h.2.rd, h.2.len_le, bd⟩
theorem ownA_ne {b b' : Nat} {E : TypeId} (h : OwnA w b E A c zs) (ho : OwnT w b' B d us) (hE : E ≠ 65) : ∀ ad, A = some ad → ∀ ad', B = some ad' → ad'.block ≠ ad.block := by
  intro ad e ad' e' hb
  rcases h.form with ⟨rfl, _, _⟩ | ⟨g, cur, rfl, hB, hg, _⟩
  · cases e
  · injection e with e; subst e
    rcases ho.2 with ⟨hv, _⟩ | ⟨g2, cap, cur2, hv, hB2, hg2, _⟩
    · injection hv with hv; rw [hv] at e'; cases e'
    · injection hv with hv; rw [hv] at e'; injection e' with e'; subst e'
      simp only at hb
      subst hb
      rw [hg] at hg2
      injection hg2 with hg2; injection hg2 with _ h2 _
      exact hE h2
/-- A write into a row of tensors alone. -/
theorem TO.same {b b' : Nat} (h : TO w b t) (ho : OwnT w b' A c us) (hk : ∀ k, k < w.heap.size → (∀ ad, A = some ad → ad.block ≠ k) → w'.heap[k]? = w.heap[k]?) : TO w' b t :=
  ⟨h.1.same fun ad e => hk _ (h.1.lt ad e) fun ad' e' => ownA_ne h.1 ho (by decide) ad e ad' e', h.2.same fun ad e => hk _ (h.2.lt ad e) fun ad' e' => ownA_ne h.2 ho (by decide) ad e ad' e'⟩
theorem OwnT.lt {b : Nat} (h : OwnT w b A c us) : ∀ ad, A = some ad → ad.block < w.heap.size := by
  intro ad e
  rcases h.2 with ⟨hv, _⟩ | ⟨g2, cap, cur2, hv, hB2, hg2, _⟩
  · injection hv with hv; rw [hv] at e; cases e
  · injection hv with hv; rw [hv] at e; injection e with e; subst e
    exact (Array.getElem?_eq_some_iff.1 hg2).1
end
section
variable {w w' : World} {B c : Nat} {A : Option Addr} {us : List Tn}
theorem OwnT.ne_blk {g : Nat} {T : TypeId} {cs : Array Value} (h : OwnT w B A c us) (h' : Blk w g T cs) (hne : T ≠ 65) : ∀ ad, A = some ad → ad.block ≠ g := by
  intro ad e hb
  rcases h.2 with ⟨hv, _⟩ | ⟨g2, cap, cur2, hv, hB2, hg2, _⟩
  · injection hv with hv; rw [hv] at e; cases e
  · injection hv with hv; rw [hv] at e; injection e with e; subst e
    simp only at hb
    subst hb
    unfold Blk at h'
    rw [hg2] at h'
    injection h' with h'; injection h' with _ h2
    exact hne h2.symm
theorem OwnT.same (h : OwnT w B A c us) (hk : ∀ ad, A = some ad → w'.heap[ad.block]? = w.heap[ad.block]?) : OwnT w' B A c us := by
  refine ⟨h.1, ?_⟩
  rcases h.2 with h | ⟨g, cap, cur, hv, hB, hg, r⟩
  · exact .inl h
  · refine .inr ⟨g, cap, cur, hv, hB, ?_, r⟩
    injection hv with hv
    rw [← hg]
    exact hk _ hv
/-- A box of another type is written: the tensors stay. -/
theorem OwnT.farT {g : Nat} {T : TypeId} {cs : Array Value} (h : OwnT w B A c us) (h' : Blk w g T cs) (h1 : T ≠ 65) (hsame : ∀ b, b < w.heap.size → b ≠ g → w'.heap[b]? = w.heap[b]?) : OwnT w' B A c us :=
  h.same fun ad e => hsame _ (h.lt ad e) (h.ne_blk h' h1 ad e)
theorem TO.farT {b g : Nat} {t : Tn} {T : TypeId} {cs : Array Value} (h : TO w b t) (h' : Blk w g T cs) (h2 : 3 ≠ T) (h3 : 45 ≠ T) (hsame : ∀ b, b < w.heap.size → b ≠ g → w'.heap[b]? = w.heap[b]?) : TO w' b t :=
  ⟨h.1.same fun ad e => hsame _ (h.1.lt ad e) (h.1.ne_blk h' h2 ad e), h.2.same fun ad e => hsame _ (h.2.lt ad e) (h.2.ne_blk h' h3 ad e)⟩
theorem wpList_pushT {ops : Array Oper} {rest : List Oper} {o : Oper} {a : Act} {Q : Exit → Act → World → Prop} (hgd : o.guard = none) (s x : Operand) (t : TypeId)
    (ho : o.op = .call { callee := .builtin .append, args := #[s, x], argTypes := #[t, t] }) (ht : Try.prog.underlying t = some (.slice 65)) {w1 : World} (hown : OwnT w1 B A c us) (u : Tn)
    (hs : a.eval s = .slice A us.length c) {g2 : Nat} (hx : a.eval x = .slice (some ⟨g2, 0, none⟩) 1 1) (hrd : TRd w1 (some ⟨g2, 0, none⟩) [u]) (hlen : us.length ≤ 1000000) (hB : B ≤ w1.heap.size)
    (h : ∀ A' c' w', OwnT w' B A' c' (us ++ [u]) → Below B w1 w' → (∀ k, k < w1.heap.size → (∀ ad, A = some ad → ad.block ≠ k) → w'.heap[k]? = w1.heap[k]?) → wpList Try.prog ops Q rest (a.put o.dst (.slice A' (us ++ [u]).length c')) w') :
    wpList Try.prog ops Q (o :: rest) a w1 := by
  refine wpList_plain hgd fun K' hK' => ?_
  obtain ⟨A', c', w', hr, h1, h2, h3⟩ := run_appendT t o.type ht hown (cc := 1) hrd (by simp; omega) hB
  unfold Oper.wp execOp
  simp only [List.length_cons, List.length_nil, Nat.zero_add] at hr
  simp only [ho, resolve, invoke, builtin, Sem.run_bind, Sem.run_pure, Result.andThen_ok, List.map_toArray, List.map_cons, List.map_nil, hs, hx, hr]
  exact hK' _ _ (h A' c' w' h1 h2 h3)
theorem fmul_zero_l' (y : Int) : fmul 0 y = 0 := by
  unfold fmul heldI rnd absI negB edgeI
  simp
theorem hyR_zero (dr : Int) : ∀ k, hyR 0 dr k = 0
  | 0 => rfl
  | k + 1 => by rw [hyR, hyR_zero dr k, fmul_zero_l']
theorem fsub_zero {p : Int} (h : I64 p) : fsub p 0 = p := by
  unfold I64 at h; unfold fsub clampI; split <;> (try split) <;> omega
theorem fadd_zero' {p : Int} (h : I64 p) : fadd p 0 = p := by
  unfold I64 at h; unfold fadd clampI; split <;> (try split) <;> omega
theorem hyP_still {m d cl p v g : Int} (h : I64 p) : hyP m d cl 0 p v g = p := by
  rw [hyP, fmul_zero_l', fsub_zero h]
theorem hyV_still {m cl p v : Int} (hm : I64 m) (hv : I64 v) (hc : 0 ≤ cl) (hc' : I64 cl) : hyV m 0 cl p v 0 = fmul m v := by
  have e : hyG 0 cl p 0 = 0 := by
    have h1 : (if cl = 0 then (0 : Int) else fclamp 0 (fneg cl) cl) = 0 := by
      split
      · rfl
      · have : fneg cl = -cl := by unfold I64 at hc'; unfold fneg clampI; split <;> (try split) <;> omega
        rw [this, fclamp, if_neg (by omega), if_neg (by omega)]
    rw [hyG, h1, fmul_zero_l']
    decide
  rw [hyV, e, fadd_zero' (fmul_bd hm hv)]
end
section
variable {w : World} {A B : Option Addr} {n m c d : Nat} {zs xs : List Int}
theorem aT_scale [a : Sl w A n zs] [b : Sl w B m xs] [i : I6s xs] {f : Int} [j : I6 f] (h : tRightB zs xs = true) : Calls Try.prog 48 #[.agg #[.slice A n c, .slice B m d], .int .i64 f] w (RetTA w zs (xs.map (fmul · f)) 0) := by
  obtain ⟨a, rfl⟩ := a
  obtain ⟨b, rfl⟩ := b
  exact retTA (t_scale_yes A B c d zs xs f w a b i.hid j.bd (Lib.hid h))
end

end Go.Proofs.Ytphcffcecncngaa

namespace Go.Proofs.Ytphcffcecncngaa
open Go.RowKit

theorem negB_comm' (x y : Int) : negB x y = negB y x := by unfold negB; cases decide (x < 0) <;> cases decide (y < 0) <;> rfl
theorem mix_id {f : Nat → Int} {xs : List Int} (h : ∀ j x, xs[j]? = some x → f j = x) : mix f xs xs.length = xs := by
  apply List.ext_getElem?
  intro i
  by_cases hi : i < xs.length
  · rw [mix_get hi, if_pos hi, List.getElem?_eq_getElem hi, h i _ (List.getElem?_eq_getElem hi)]
  · rw [List.getElem?_eq_none (by rw [mix_len]; omega), List.getElem?_eq_none (by omega)]
theorem mix_map {f : Nat → Int} {g : Int → Int} {xs : List Int} (h : ∀ j x, xs[j]? = some x → f j = g x) : mix f xs xs.length = xs.map g := by
  apply List.ext_getElem?
  intro i
  by_cases hi : i < xs.length
  · rw [mix_get hi, if_pos hi, List.getElem?_map, List.getElem?_eq_getElem hi, h i _ (List.getElem?_eq_getElem hi)]; rfl
  · rw [List.getElem?_eq_none (by rw [mix_len]; omega), List.getElem?_eq_none (by simpa using hi)]
theorem trd_one {w : World} {g2 g g' n m : Nat} {zs xs : List Int} (h : Bx w g2 65 #[.slice (some ⟨g, 0, none⟩) n n, .slice (some ⟨g', 0, none⟩) m m]) (a : Own w g 3 zs) (b : Own w g' 45 xs) (hn : zs.length = n) (hm : xs.length = m) (bd : ∀ z ∈ xs, I64 z) :
    TRd w (some ⟨g2, 0, none⟩) [⟨some ⟨g, 0, none⟩, n, zs, some ⟨g', 0, none⟩, m, xs⟩] := by
  have s : Sl w (some ⟨g, 0, none⟩) n zs := ⟨a.rd, hn.symm⟩
  have x : Sl w (some ⟨g', 0, none⟩) m xs := ⟨b.rd, hm.symm⟩
  have l : Le m m := ⟨Nat.le_refl _⟩
  have i : I6s xs := ⟨bd⟩
  exact (Ts.lit1 (w := w) (g := g2)).rd
theorem ownA_of {w : World} {B g n : Nat} {T : TypeId} {zs : List Int} (h : Own w g T zs) (hB : B ≤ g) (hn : zs.length = n) (hl : n ≤ 1000000) : OwnA w B T (some ⟨g, 0, none⟩) n zs := by
  subst hn
  exact OwnA.of_own h hB (by omega)
theorem Sl.new2 {u w : World} [l : Later u w] {A : Option Addr} {n : Nat} {zs : List Int} (h : Sl u A n zs) {p : Nat} (hp : u.heap.size ≤ p) (v0 v1 : Value) : Sl ((w.setCell ⟨p, 0, none⟩ v0).setCell ⟨p, 1, none⟩ v1) A n zs :=
  ⟨h.rd.below (bset2 l.st hp v0 v1), h.len⟩
/-- Noughts of the same shapes. -/
def Nou (ts us : List Tn) : Prop := ∀ (j : Nat) (t u : Tn), ts[j]? = some t → us[j]? = some u → u.zs = t.zs ∧ u.xs = List.replicate t.xs.length 0
theorem Nou.snoc {ts us : List Tn} {t n : Tn} (h : Nou ts us) (ht : ts[us.length]? = some t) (e : n.zs = t.zs ∧ n.xs = List.replicate t.xs.length 0) : Nou ts (us ++ [n]) := by
  intro j a b ha hb
  by_cases hj : j < us.length
  · rw [List.getElem?_append_left hj] at hb
    exact h j a b ha hb
  · have := (List.getElem?_eq_some_iff.1 hb).1
    have hj' : j = us.length := by simp at this; omega
    subst hj'
    rw [List.getElem?_append_right (Nat.le_refl _)] at hb
    simp at hb; subst hb
    rw [ht] at ha
    injection ha with ha; subst ha
    exact e
theorem Nou.sim {ts us : List Tn} (h : Nou ts us) (hl : ts.length = us.length) : Sim ts us := ⟨hl, fun j t u ht hu => by
  obtain ⟨a, b⟩ := h j t u ht hu
  exact ⟨a.symm, by rw [b]; simp⟩⟩
theorem Nou.bd {ts us : List Tn} (h : Nou ts us) (hl : us.length ≤ ts.length) : ∀ t ∈ us, ∀ z ∈ t.xs, I64 z := by
  intro t ht z hz
  obtain ⟨j, hj⟩ := List.mem_iff_getElem?.1 ht
  obtain ⟨s, hs⟩ : ∃ s, ts[j]? = some s := ⟨_, List.getElem?_eq_getElem (Nat.lt_of_lt_of_le (List.getElem?_eq_some_iff.1 hj).1 hl)⟩
  rw [(h j s t hs hj).2] at hz
  rw [(List.mem_replicate.1 hz).2]
  exact by unfold I64; omega
theorem Nou.at {ts us : List Tn} (h : Nou ts us) (hl : ts.length = us.length) (i j : Nat) : xsAt us i j = 0 := by
  unfold xsAt
  cases hu : us[i]? with
  | none => simp
  | some u =>
    obtain ⟨t, ht⟩ := at_of hl.symm hu
    rw [Option.map_some, Option.getD_some, (h i t u ht hu).2, List.getD_eq_getElem?_getD, List.getElem?_replicate]
    split <;> rfl
theorem mem3s {A B C : Option Addr} {c d e : Nat} {ts us gs : List Tn} {l : TL} (h : l ∈ [(⟨A, c, ts⟩ : TL), ⟨B, d, us⟩, ⟨C, e, gs⟩]) : l = ⟨A, c, ts⟩ ∨ l = ⟨B, d, us⟩ ∨ l = ⟨C, e, gs⟩ := by simpa using h
set_option maxRecDepth 100000 in
set_option maxHeartbeats 40000000 in
theorem optimStill_calls (A B C : Option Addr) (ca cb cc : Nat) (ts us gs : List Tn) (r m d cl dr ev st : Int) (w : World) (ha : TensW w A ca ts) (hb : TensW w B cb us) (hg : TensW w C cc gs) (j0 : I64 r) (j1 : I64 m) (j2 : I64 d) (j3 : I64 cl) (j4 : I64 dr) :
    Calls Try.prog 12 #[.agg #[.slice A ts.length ca, .slice B us.length cb, .int .i64 r, .int .i64 m, .int .i64 d, .int .i64 cl, .int .i64 dr, .int .i64 ev, .int .i64 st, .slice C gs.length cc]] w (LawTrue w) := by
  have ir : I6 r := ⟨j0⟩
  have im : I6 m := ⟨j1⟩
  have idd : I6 d := ⟨j2⟩
  have icl : I6 cl := ⟨j3⟩
  have idr : I6 dr := ⟨j4⟩
  obtain ⟨n, hn⟩ : ∃ n, ts.length = n := ⟨_, rfl⟩
  obtain ⟨n2, hn2⟩ : ∃ n, us.length = n := ⟨_, rfl⟩
  obtain ⟨n3, hn3⟩ : ∃ n, gs.length = n := ⟨_, rfl⟩
  have l1 := ha.l8
  have l2 := hb.l8
  have l3 := hg.l8
  rw [hn] at l1
  rw [hn2] at l2
  rw [hn3] at l3
  rw [hn, hn2, hn3]
  have a : Ts w A n ts := ⟨ha.rd, hn.symm⟩
  have b : Ts w B n2 us := ⟨hb.rd, hn2.symm⟩
  have g : Ts w C n3 gs := ⟨hg.rd, hn3.symm⟩
  have HN := Lib.hid hn
  have HN2 := Lib.hid hn2
  have HN3 := Lib.hid hn3
  have HB : Hid (∀ l ∈ [(⟨A, ca, ts⟩ : TL), ⟨B, cb, us⟩, ⟨C, cc, gs⟩], l.ts.length ≤ 17592186043904 ∧ Bigs l.ts) := Lib.hid fun l hl => by
    rcases mem3s hl with rfl | rfl | rfl
    · exact ⟨by simpa [hn] using l1, ha.big⟩
    · exact ⟨by simpa [hn2] using l2, hb.big⟩
    · exact ⟨by simpa [hn3] using l3, hg.big⟩
  have HBP : Hid (∀ t ∈ ts, ∀ z ∈ t.xs, I64 z) := Lib.hid ha.rd.bd
  have HBV : Hid (∀ t ∈ us, ∀ z ∈ t.xs, I64 z) := Lib.hid hb.rd.bd
  clear ha hb hg j0 j1 j2 j3 j4
  have CB := @cell_bx
  have CP := @cell_prev
  have FB := @frozen_bx
  rcases hs : decide (sumTT [(⟨A, ca, ts⟩ : TL), ⟨B, cb, us⟩, ⟨C, cc, gs⟩] ≤ 1000) with _ | _
  · go_enter Try.func12, Try.ntmps12
    go_wp2_with (first | (go_at_call 32; (try first | (with_reducible refine gen_boxK3 (fun u _ _ _ _ => ?_)) | (with_reducible refine gen_boxK2 (fun u _ _ _ => ?_)) | (with_reducible refine gen_boxK (fun u _ _ => ?_))); (with_reducible refine (a24_small (by omega) HB).mono ?_); rintro e u ⟨rfl, _⟩) | (go_at_call 30; (try first | (with_reducible refine gen_boxK3 (fun u _ _ _ _ => ?_)) | (with_reducible refine gen_boxK2 (fun u _ _ _ => ?_)) | (with_reducible refine gen_boxK (fun u _ _ => ?_))); (with_reducible refine (a24_awake).mono ?_); rintro e u ⟨rfl, _⟩))
    go_ret
    exact ⟨rfl, bel w _⟩
  have hsum : sumT ts + (sumT us + sumT gs) ≤ 1000 := by simpa [sumTT] using hs
  have hz : Hid (Mo ts) := Lib.hid (small_mo (by omega))
  have hz' : Hid (Mo us) := Lib.hid (small_mo (by omega))
  have hz'' : Hid (Mo gs) := Lib.hid (small_mo (by omega))
  have hn6 : n ≤ 1000 := by have := sumT_len ts; omega
  have hn7 : n2 ≤ 1000 := by have := sumT_len us; omega
  have hn8 : n3 ≤ 1000 := by have := sumT_len gs; omega
  clear hsum hn hn2 hn3 l1 l2 l3
  rcases h1 : alikeTB ts us with _ | _
  · go_enter Try.func12, Try.ntmps12
    go_wp2_with (first | (go_at_call 32; (try first | (with_reducible refine gen_boxK3 (fun u _ _ _ _ => ?_)) | (with_reducible refine gen_boxK2 (fun u _ _ _ => ?_)) | (with_reducible refine gen_boxK (fun u _ _ => ?_))); (with_reducible refine (a24_small (by omega) HB).mono ?_); rintro e u ⟨rfl, _⟩) | (go_at_call 39; (try first | (with_reducible refine gen_boxK3 (fun u _ _ _ _ => ?_)) | (with_reducible refine gen_boxK2 (fun u _ _ _ => ?_)) | (with_reducible refine gen_boxK (fun u _ _ => ?_))); (with_reducible refine (op_sright (by omega) (by omega) hz hz').mono ?_); rintro e u ⟨rfl, _⟩) | (go_at_call 34; (try first | (with_reducible refine gen_boxK3 (fun u _ _ _ _ => ?_)) | (with_reducible refine gen_boxK2 (fun u _ _ _ => ?_)) | (with_reducible refine gen_boxK (fun u _ _ => ?_))); (with_reducible refine (a24_alike (by omega) (by omega) hz hz'').mono ?_); rintro e u ⟨rfl, _⟩) | (go_at_call 28; (try first | (with_reducible refine gen_boxK3 (fun u _ _ _ _ => ?_)) | (with_reducible refine gen_boxK2 (fun u _ _ _ => ?_)) | (with_reducible refine gen_boxK (fun u _ _ => ?_))); (with_reducible refine (r24_ref).mono ?_); rintro e u ⟨rfl, _⟩) | (go_at_call 27; (try first | (with_reducible refine gen_boxK3 (fun u _ _ _ _ => ?_)) | (with_reducible refine gen_boxK2 (fun u _ _ _ => ?_)) | (with_reducible refine gen_boxK (fun u _ _ => ?_))); (with_reducible refine (r24_right).mono ?_); rintro e u ⟨rfl, _⟩) | (go_at_call 30; (try first | (with_reducible refine gen_boxK3 (fun u _ _ _ _ => ?_)) | (with_reducible refine gen_boxK2 (fun u _ _ _ => ?_)) | (with_reducible refine gen_boxK (fun u _ _ => ?_))); (with_reducible refine (a24_awake).mono ?_); rintro e u ⟨rfl, _⟩))
    go_ret
    exact ⟨rfl, bel w _⟩
  rcases h2 : alikeTB ts gs with _ | _
  · go_enter Try.func12, Try.ntmps12
    go_wp2_with (first | (go_at_call 32; (try first | (with_reducible refine gen_boxK3 (fun u _ _ _ _ => ?_)) | (with_reducible refine gen_boxK2 (fun u _ _ _ => ?_)) | (with_reducible refine gen_boxK (fun u _ _ => ?_))); (with_reducible refine (a24_small (by omega) HB).mono ?_); rintro e u ⟨rfl, _⟩) | (go_at_call 39; (try first | (with_reducible refine gen_boxK3 (fun u _ _ _ _ => ?_)) | (with_reducible refine gen_boxK2 (fun u _ _ _ => ?_)) | (with_reducible refine gen_boxK (fun u _ _ => ?_))); (with_reducible refine (op_sright (by omega) (by omega) hz hz').mono ?_); rintro e u ⟨rfl, _⟩) | (go_at_call 34; (try first | (with_reducible refine gen_boxK3 (fun u _ _ _ _ => ?_)) | (with_reducible refine gen_boxK2 (fun u _ _ _ => ?_)) | (with_reducible refine gen_boxK (fun u _ _ => ?_))); (with_reducible refine (a24_alike (by omega) (by omega) hz hz'').mono ?_); rintro e u ⟨rfl, _⟩) | (go_at_call 28; (try first | (with_reducible refine gen_boxK3 (fun u _ _ _ _ => ?_)) | (with_reducible refine gen_boxK2 (fun u _ _ _ => ?_)) | (with_reducible refine gen_boxK (fun u _ _ => ?_))); (with_reducible refine (r24_ref).mono ?_); rintro e u ⟨rfl, _⟩) | (go_at_call 27; (try first | (with_reducible refine gen_boxK3 (fun u _ _ _ _ => ?_)) | (with_reducible refine gen_boxK2 (fun u _ _ _ => ?_)) | (with_reducible refine gen_boxK (fun u _ _ => ?_))); (with_reducible refine (r24_right).mono ?_); rintro e u ⟨rfl, _⟩) | (go_at_call 30; (try first | (with_reducible refine gen_boxK3 (fun u _ _ _ _ => ?_)) | (with_reducible refine gen_boxK2 (fun u _ _ _ => ?_)) | (with_reducible refine gen_boxK (fun u _ _ => ?_))); (with_reducible refine (a24_awake).mono ?_); rintro e u ⟨rfl, _⟩))
    go_ret
    exact ⟨rfl, bel w _⟩
  rcases hy : hyB r m d cl dr ev with _ | _
  · go_enter Try.func12, Try.ntmps12
    go_wp2_with (first | (go_at_call 32; (try first | (with_reducible refine gen_boxK3 (fun u _ _ _ _ => ?_)) | (with_reducible refine gen_boxK2 (fun u _ _ _ => ?_)) | (with_reducible refine gen_boxK (fun u _ _ => ?_))); (with_reducible refine (a24_small (by omega) HB).mono ?_); rintro e u ⟨rfl, _⟩) | (go_at_call 39; (try first | (with_reducible refine gen_boxK3 (fun u _ _ _ _ => ?_)) | (with_reducible refine gen_boxK2 (fun u _ _ _ => ?_)) | (with_reducible refine gen_boxK (fun u _ _ => ?_))); (with_reducible refine (op_sright (by omega) (by omega) hz hz').mono ?_); rintro e u ⟨rfl, _⟩) | (go_at_call 34; (try first | (with_reducible refine gen_boxK3 (fun u _ _ _ _ => ?_)) | (with_reducible refine gen_boxK2 (fun u _ _ _ => ?_)) | (with_reducible refine gen_boxK (fun u _ _ => ?_))); (with_reducible refine (a24_alike (by omega) (by omega) hz hz'').mono ?_); rintro e u ⟨rfl, _⟩) | (go_at_call 28; (try first | (with_reducible refine gen_boxK3 (fun u _ _ _ _ => ?_)) | (with_reducible refine gen_boxK2 (fun u _ _ _ => ?_)) | (with_reducible refine gen_boxK (fun u _ _ => ?_))); (with_reducible refine (r24_ref).mono ?_); rintro e u ⟨rfl, _⟩) | (go_at_call 27; (try first | (with_reducible refine gen_boxK3 (fun u _ _ _ _ => ?_)) | (with_reducible refine gen_boxK2 (fun u _ _ _ => ?_)) | (with_reducible refine gen_boxK (fun u _ _ => ?_))); (with_reducible refine (r24_right).mono ?_); rintro e u ⟨rfl, _⟩) | (go_at_call 30; (try first | (with_reducible refine gen_boxK3 (fun u _ _ _ _ => ?_)) | (with_reducible refine gen_boxK2 (fun u _ _ _ => ?_)) | (with_reducible refine gen_boxK (fun u _ _ => ?_))); (with_reducible refine (a24_awake).mono ?_); rintro e u ⟨rfl, _⟩))
    go_ret
    exact ⟨rfl, bel w _⟩
  by_cases hs0 : st < 0
  · go_enter Try.func12, Try.ntmps12
    go_wp2_with (first | (go_at_call 32; (try first | (with_reducible refine gen_boxK3 (fun u _ _ _ _ => ?_)) | (with_reducible refine gen_boxK2 (fun u _ _ _ => ?_)) | (with_reducible refine gen_boxK (fun u _ _ => ?_))); (with_reducible refine (a24_small (by omega) HB).mono ?_); rintro e u ⟨rfl, _⟩) | (go_at_call 39; (try first | (with_reducible refine gen_boxK3 (fun u _ _ _ _ => ?_)) | (with_reducible refine gen_boxK2 (fun u _ _ _ => ?_)) | (with_reducible refine gen_boxK (fun u _ _ => ?_))); (with_reducible refine (op_sright (by omega) (by omega) hz hz').mono ?_); rintro e u ⟨rfl, _⟩) | (go_at_call 34; (try first | (with_reducible refine gen_boxK3 (fun u _ _ _ _ => ?_)) | (with_reducible refine gen_boxK2 (fun u _ _ _ => ?_)) | (with_reducible refine gen_boxK (fun u _ _ => ?_))); (with_reducible refine (a24_alike (by omega) (by omega) hz hz'').mono ?_); rintro e u ⟨rfl, _⟩) | (go_at_call 28; (try first | (with_reducible refine gen_boxK3 (fun u _ _ _ _ => ?_)) | (with_reducible refine gen_boxK2 (fun u _ _ _ => ?_)) | (with_reducible refine gen_boxK (fun u _ _ => ?_))); (with_reducible refine (r24_ref).mono ?_); rintro e u ⟨rfl, _⟩) | (go_at_call 27; (try first | (with_reducible refine gen_boxK3 (fun u _ _ _ _ => ?_)) | (with_reducible refine gen_boxK2 (fun u _ _ _ => ?_)) | (with_reducible refine gen_boxK (fun u _ _ => ?_))); (with_reducible refine (r24_right).mono ?_); rintro e u ⟨rfl, _⟩) | (go_at_call 30; (try first | (with_reducible refine gen_boxK3 (fun u _ _ _ _ => ?_)) | (with_reducible refine gen_boxK2 (fun u _ _ _ => ?_)) | (with_reducible refine gen_boxK (fun u _ _ => ?_))); (with_reducible refine (a24_awake).mono ?_); rintro e u ⟨rfl, _⟩))
    go_ret
    exact ⟨rfl, bel w _⟩
  by_cases hs1 : 1024 < st
  · go_enter Try.func12, Try.ntmps12
    go_wp2_with (first | (go_at_call 32; (try first | (with_reducible refine gen_boxK3 (fun u _ _ _ _ => ?_)) | (with_reducible refine gen_boxK2 (fun u _ _ _ => ?_)) | (with_reducible refine gen_boxK (fun u _ _ => ?_))); (with_reducible refine (a24_small (by omega) HB).mono ?_); rintro e u ⟨rfl, _⟩) | (go_at_call 39; (try first | (with_reducible refine gen_boxK3 (fun u _ _ _ _ => ?_)) | (with_reducible refine gen_boxK2 (fun u _ _ _ => ?_)) | (with_reducible refine gen_boxK (fun u _ _ => ?_))); (with_reducible refine (op_sright (by omega) (by omega) hz hz').mono ?_); rintro e u ⟨rfl, _⟩) | (go_at_call 34; (try first | (with_reducible refine gen_boxK3 (fun u _ _ _ _ => ?_)) | (with_reducible refine gen_boxK2 (fun u _ _ _ => ?_)) | (with_reducible refine gen_boxK (fun u _ _ => ?_))); (with_reducible refine (a24_alike (by omega) (by omega) hz hz'').mono ?_); rintro e u ⟨rfl, _⟩) | (go_at_call 28; (try first | (with_reducible refine gen_boxK3 (fun u _ _ _ _ => ?_)) | (with_reducible refine gen_boxK2 (fun u _ _ _ => ?_)) | (with_reducible refine gen_boxK (fun u _ _ => ?_))); (with_reducible refine (r24_ref).mono ?_); rintro e u ⟨rfl, _⟩) | (go_at_call 27; (try first | (with_reducible refine gen_boxK3 (fun u _ _ _ _ => ?_)) | (with_reducible refine gen_boxK2 (fun u _ _ _ => ?_)) | (with_reducible refine gen_boxK (fun u _ _ => ?_))); (with_reducible refine (r24_right).mono ?_); rintro e u ⟨rfl, _⟩) | (go_at_call 30; (try first | (with_reducible refine gen_boxK3 (fun u _ _ _ _ => ?_)) | (with_reducible refine gen_boxK2 (fun u _ _ _ => ?_)) | (with_reducible refine gen_boxK (fun u _ _ => ?_))); (with_reducible refine (a24_awake).mono ?_); rintro e u ⟨rfl, _⟩))
    go_ret
    exact ⟨rfl, bel w _⟩
  have e2 : n = n2 := by rw [← HN.out, ← HN2.out]; exact (alikeTB_at h1).1
  have e3 : n = n3 := by rw [← HN.out, ← HN3.out]; exact (alikeTB_at h2).1
  subst e2 e3
  have hcl : 0 ≤ cl := by simp [hyB] at hy; omega
  have hst0 : 0 ≤ st := by omega
  have hst1 : st ≤ 1024 := by omega
  have hy0 : hyB 0 m d cl dr ev = true := by simp [hyB] at hy ⊢; omega
  have hy1 : hyB 0 m 0 cl dr ev = true := by simp [hyB] at hy ⊢; omega
  have HA : Hid (hyAt 0 dr ev st = 0) := Lib.hid (hyR_zero _ _)
  have HS12 := Lib.hid (sim_of h1)
  have HS13 := Lib.hid (sim_of h2)
  have HVD := Lib.hid (show validB ts = true by simp only [alikeTB, Bool.and_eq_true] at h1; exact h1.1.1.2)
  go_enter Try.func12, Try.ntmps12
  go_upto_region 3 with (first | (go_at_call 32; (try first | (with_reducible refine gen_boxK3 (fun u _ _ _ _ => ?_)) | (with_reducible refine gen_boxK2 (fun u _ _ _ => ?_)) | (with_reducible refine gen_boxK (fun u _ _ => ?_))); (with_reducible refine (a24_small (by omega) HB).mono ?_); rintro e u ⟨rfl, _⟩) | (go_at_call 39; (try first | (with_reducible refine gen_boxK3 (fun u _ _ _ _ => ?_)) | (with_reducible refine gen_boxK2 (fun u _ _ _ => ?_)) | (with_reducible refine gen_boxK (fun u _ _ => ?_))); (with_reducible refine (op_sright (by omega) (by omega) hz hz').mono ?_); rintro e u ⟨rfl, _⟩) | (go_at_call 34; (try first | (with_reducible refine gen_boxK3 (fun u _ _ _ _ => ?_)) | (with_reducible refine gen_boxK2 (fun u _ _ _ => ?_)) | (with_reducible refine gen_boxK (fun u _ _ => ?_))); (with_reducible refine (a24_alike (by omega) (by omega) hz hz'').mono ?_); rintro e u ⟨rfl, _⟩) | (go_at_call 28; (try first | (with_reducible refine gen_boxK3 (fun u _ _ _ _ => ?_)) | (with_reducible refine gen_boxK2 (fun u _ _ _ => ?_)) | (with_reducible refine gen_boxK (fun u _ _ => ?_))); (with_reducible refine (r24_ref).mono ?_); rintro e u ⟨rfl, _⟩) | (go_at_call 27; (try first | (with_reducible refine gen_boxK3 (fun u _ _ _ _ => ?_)) | (with_reducible refine gen_boxK2 (fun u _ _ _ => ?_)) | (with_reducible refine gen_boxK (fun u _ _ => ?_))); (with_reducible refine (r24_right).mono ?_); rintro e u ⟨rfl, _⟩))
  obtain ⟨v0, rfl⟩ : ∃ v0 : World, v0 = u := ⟨_, rfl⟩
  go_upto_region 6 with (first | (go_at_call 37; (try first | (with_reducible refine gen_boxK3 (fun u _ _ _ _ => ?_)) | (with_reducible refine gen_boxK2 (fun u _ _ _ => ?_)) | (with_reducible refine gen_boxK (fun u _ _ => ?_))); (with_reducible refine (op_step_yes (by omega) hz hz' hz'' h1 h2 hy0 hst0 hst1 HA).mono ?_); rintro e u ⟨G5, ps5, G6, qs6, rfl, CC5, H5, H6, _⟩))
  have lp : ps5.length = n := H5.out.len.trans HN.out
  have lq : qs6.length = n := H6.out.len.trans HN2.out
  have bp := H5.out.bd HBP.out (fun j t _ z hz => by obtain ⟨i, hi⟩ := mix_mem hz; rw [hi]; exact fsub_bd _ _)
  have bq := H6.out.bd HBV.out (fun j t _ z hz => by obtain ⟨i, hi⟩ := mix_mem hz; rw [hi]; exact fadd_bd _ _)
  have sP0 : Sim ts (ps5.map Cp.tn) := H5.out.sim (fun j t _ => by rw [rowP, mix_len])
  have sV0 : Sim us (qs6.map Cp.tn) := H6.out.sim (fun j t _ => by rw [rowV, mix_len])
  have HPR : Hid (∀ (i : Nat) (t p : Tn), ts[i]? = some t → (ps5.map Cp.tn)[i]? = some p → p.zs = t.zs ∧ p.xs = t.xs) := Lib.hid (fun i t p ht hp => by
    rw [List.getElem?_map] at hp
    obtain ⟨q, hq, rfl⟩ := Option.map_eq_some_iff.1 hp
    obtain ⟨a1, a2⟩ := H5.out.at_ i q t hq ht
    have hi := (List.getElem?_eq_some_iff.1 ht).1
    rw [HN.out] at hi
    rw [if_pos hi] at a2
    refine ⟨a1, a2.trans (mix_id fun j x hx => ?_)⟩
    rw [xsAt_of ht hx]
    exact hyP_still (HBP.out t (List.mem_of_getElem? ht) x (List.mem_of_getElem? hx)))
  obtain ⟨Pt, hPt⟩ : ∃ Pt, ps5.map Cp.tn = Pt := ⟨_, rfl⟩
  obtain ⟨Vt, hVt⟩ : ∃ Vt, qs6.map Cp.tn = Vt := ⟨_, rfl⟩
  have tP : Ts u (some ⟨G5, 0, none⟩) n Pt := by rw [← hPt]; exact CC5.l.tens lp bp
  have tV : Ts u (some ⟨G6, 0, none⟩) n Vt := by rw [← hVt]; exact CC5.r.tens lq bq
  rw [hPt] at HPR sP0
  rw [hVt] at sV0
  have zP := Lib.hid (sP0.mo hz.out)
  have zV := Lib.hid (sV0.mo hz'.out)
  have aPV : alikeTB Pt Vt = true := (sP0.symm.trans (HS12.out.trans sV0)).alike (sP0.valid HVD.out)
  clear CC5 H5 H6 hPt hVt lp lq bp bq sP0 sV0
  go_wp2_with (first | (go_at_call 39; (try first | (with_reducible refine gen_boxK3 (fun u _ _ _ _ => ?_)) | (with_reducible refine gen_boxK2 (fun u _ _ _ => ?_)) | (with_reducible refine gen_boxK (fun u _ _ => ?_))); (with_reducible refine (op_sright (by omega) (by omega) zP zV).mono ?_); rintro e u ⟨rfl, _⟩))
  obtain ⟨v, rfl⟩ : ∃ v : World, v = u := ⟨_, rfl⟩
  clear tV zV
  go_loopw [95] (fun i wr => ∃ k : Nat, k ≤ n ∧ i = .int .i64 k ∧ Prev wr v) (fun i _ => n - (intOf i).toNat)
  case atStart => exact ⟨0, Nat.zero_le _, rfl, prev_bel _ _⟩
  case round =>
    obtain ⟨k, hk, rfl, hp⟩ := hrel
    by_cases hlt : k < n
    · obtain ⟨b1, o1, A1, c1, z1, B1, d1, x1, rfl, ob1, q0, q1, s1, y1, -, i1, e1⟩ := a.get hlt
      obtain ⟨b4, o4, A4, c4, z4, B4, d4, x4, e4', ob4, q6, q7, s4, y4, -, -, e4⟩ := tP.get hlt
      injection e4' with e4'
      injection e4' with e4' e4''
      subst e4' e4''
      obtain ⟨r4, r5⟩ := HPR.out k _ _ e1.out e4.out
      have l1 := hz.out _ (List.mem_of_getElem? e1.out)
      simp only at r4 r5 l1
      obtain ⟨l1, l2⟩ := l1
      subst r4 r5
      simp only [Nat.zero_add] at q6 q7
      clear e1 e4
      go_wp2_with fail
      refine wp_region_up0 (by kernel_rfl) (fun ux _ => ?_)
      refine wpAnyH_on (i := 0) (d := 98) (v := ?_) rfl rfl (by kernel_rfl) (by kernel_rfl) (by kernel_rfl) (fun _ _ _ h => h) (by kernel_rfl) (prev_bel _ _) ?_ ?_
      rotate_left
      · intro uu (pu : Prev uu _)
        go_simp
        try (with_reducible rfl)
      try simp only [List.set]
      refine wpAnyH_on (i := 1) (d := 99) (v := ?_) rfl rfl (by kernel_rfl) (by kernel_rfl) (by kernel_rfl) (fun _ _ _ h => h) (by kernel_rfl) (prev_bel _ _) ?_ ?_
      rotate_left
      · intro uu (pu : Prev uu _)
        go_simp
        try (with_reducible rfl)
      try simp only [List.set]
      refine wpAnyH_on (i := 2) (d := 100) (v := ?_) rfl rfl (by kernel_rfl) (by kernel_rfl) (by kernel_rfl) (fun _ _ _ h => h) (by kernel_rfl) (prev_bel _ _) ?_ ?_
      rotate_left
      · intro uu (pu : Prev uu _)
        go_simp
        try (with_reducible rfl)
      try simp only [List.set]
      refine wpAnyH_on (i := 3) (d := 101) (v := ?_) rfl rfl (by kernel_rfl) (by kernel_rfl) (by kernel_rfl) (fun _ _ _ h => h) (by kernel_rfl) (prev_bel _ _) ?_ ?_
      rotate_left
      · intro uu (pu : Prev uu _)
        go_simp
        try (with_reducible rfl)
      try simp only [List.set]
      refine wpAnyH_on (i := 4) (d := 102) (v := ?_) rfl rfl (by kernel_rfl) (by kernel_rfl) (by kernel_rfl) (fun _ _ _ h => h) (by kernel_rfl) (prev_bel _ _) ?_ ?_
      rotate_left
      · intro uu (pu : Prev uu _)
        go_simp
        try (with_reducible rfl)
      try simp only [List.set]
      refine wpAnyH_on (i := 5) (d := 103) (v := ?_) rfl rfl (by kernel_rfl) (by kernel_rfl) (by kernel_rfl) (fun _ _ _ h => h) (by kernel_rfl) (prev_bel _ _) ?_ ?_
      rotate_left
      · intro uu (pu : Prev uu _)
        go_simp
        try (with_reducible rfl)
      try simp only [List.set]
      refine wpAnyH_on (i := 6) (d := 104) (v := ?_) rfl rfl (by kernel_rfl) (by kernel_rfl) (by kernel_rfl) (fun _ _ _ h => h) (by kernel_rfl) (prev_bel _ _) ?_ ?_
      rotate_left
      · intro uu (pu : Prev uu _)
        go_simp
        try (with_reducible rfl)
      try simp only [List.set]
      refine wpAnyH_on (i := 7) (d := 105) (v := ?_) rfl rfl (by kernel_rfl) (by kernel_rfl) (by kernel_rfl) (fun _ _ _ h => h) (by kernel_rfl) (prev_bel _ _) ?_ ?_
      rotate_left
      · intro uu (pu : Prev uu _)
        go_simp
        try (with_reducible rfl)
      try simp only [List.set]
      refine wpAnyH_on (i := 8) (d := 106) (v := ?_) rfl rfl (by kernel_rfl) (by kernel_rfl) (by kernel_rfl) (fun _ _ _ h => h) (by kernel_rfl) (prev_bel _ _) ?_ ?_
      rotate_left
      · intro uu (pu : Prev uu _)
        go_simp
        try (with_reducible rfl)
      try simp only [List.set]
      refine wpAnyH_on (i := 9) (d := 107) (v := ?_) rfl rfl (by kernel_rfl) (by kernel_rfl) (by kernel_rfl) (fun _ _ _ h => h) (by kernel_rfl) (prev_bel _ _) ?_ ?_
      rotate_left
      · intro uu (pu : Prev uu _)
        go_simp
        try (with_reducible rfl)
      try simp only [List.set]
      refine wpAnyH_on (i := 10) (d := 108) (v := ?_) rfl rfl (by kernel_rfl) (by kernel_rfl) (by kernel_rfl) (fun _ _ _ h => h) (by kernel_rfl) (prev_bel _ _) ?_ ?_
      rotate_left
      · intro uu (pu : Prev uu _)
        go_simp
        try (with_reducible rfl)
      try simp only [List.set]
      refine wpAnyH_ready (rs := [11]) (by kernel_rfl) (by simp) ?_
      refine AllReadyH.cons rfl (fun K hK => ?_) AllReadyH.nil
      go_simp
      (with_reducible refine (aT_equalT24 (by omega) (by omega) (by omega)).mono ?_)
      rintro e ux ⟨rfl, _⟩
      dsimp only
      refine hK.out _ _ (prev_bel _ _) (fun hHeld => ?_)
      clear hHeld hK K
      try dsimp only [Act.put, List.setIfInBounds_toArray, List.set_cons_zero, List.set_cons_succ]
      refine wpAnyH_on (i := 12) (d := 110) (v := ?_) rfl rfl (by kernel_rfl) (by kernel_rfl) (by kernel_rfl) (fun _ _ _ h => h) (by kernel_rfl) (prev_bel _ _) ?_ ?_
      rotate_left
      · intro uu (pu : Prev uu _)
        go_simp
        try (with_reducible rfl)
      try simp only [List.set]
      refine wpAnyH_done (by kernel_rfl) ?_ _
      go_wp2_with fail
      go_roundw
      case rel => exact ⟨k + 1, by omega, by go_num, prev_bel _ _⟩
      case measure => simp [intOf]; omega
    · obtain ⟨v2, rfl⟩ : ∃ v2 : World, v2 = wr := ⟨_, rfl⟩
      clear HPR tP zP aPV
      go_wp2_with fail
      go_loopw [7, 115] (fun s i wr => ∃ (A' : Option Addr) (c' : Nat) (os : List Tn), os.length ≤ n ∧ i = .int .i64 os.length ∧ s = .slice A' os.length c' ∧ OwnT wr v2.heap.size A' c' os ∧ Hid (Nou gs os) ∧ Hid (∀ t ∈ os, TO wr v2.heap.size t) ∧ Prev wr v2) (fun _ i _ => n - (intOf i).toNat)
      case atStart => exact ⟨none, 0, [], Nat.zero_le _, rfl, rfl, World.ownsRow_nil _ _ _ _, Lib.hid (fun j t u _ h => by simp at h), Lib.hid (by simp), prev_bel _ _⟩
      case round =>
        obtain ⟨A', c', os, hk, rfl, rfl, ho, HU, HT, hp⟩ := hrel
        by_cases hlt : os.length < n
        · obtain ⟨b3, o3, A3, c3, z3, B3, d3, x3, rfl, ob3, q4, q5, s3, y3, -, i3, e3⟩ := g.get hlt
          have l1 := hz''.out _ (List.mem_of_getElem? e3.out)
          have hr3 := validB_at (HS13.out.valid HVD.out) e3.out
          simp only at l1 hr3
          obtain ⟨l1, l2⟩ := l1
          obtain ⟨hr, hpr⟩ := (tRightB_iff _ _).1 hr3
          have HPR : Hid (prodL z3 = (x3.length : Int)) := Lib.hid hpr.symm
          clear hr3 hpr
          go_wp2_with (first | (first | (go_at_call 47; (try first | (with_reducible refine gen_boxK3 (fun u _ _ _ _ => ?_)) | (with_reducible refine gen_boxK2 (fun u _ _ _ => ?_)) | (with_reducible refine gen_boxK (fun u _ _ => ?_))); (with_reducible refine (aT_makeO (by omega) hr HPR).mono ?_); rintro e u ⟨g, g', rfl, hg, hg', oS, oX, pw1⟩)) | (at_builtin; go_loud (have hvg := Nat.le_trans (later_size (w := v2)) hg; have hvg' := Nat.le_trans (later_size (w := v2)) hg'; refine wpList_pushT rfl _ _ _ rfl Try.underlying58 ho.at ⟨some ⟨g, 0, none⟩, z3.length, z3, some ⟨g', 0, none⟩, x3.length, List.replicate x3.length 0⟩ rfl rfl (trd_one inferInstance oS.at oX.at rfl (by simp) (fun z hz => by rw [(List.mem_replicate.1 hz).2]; exact by unfold I64; omega)) (by omega) (later_size (w := v2)) ?_; intro A4 c4 w4 ho4 hb4 hx4; have HTn := Lib.hid (TO.same (t := ⟨some ⟨g, 0, none⟩, z3.length, z3, some ⟨g', 0, none⟩, x3.length, List.replicate x3.length 0⟩) ⟨ownA_of oS.at hvg rfl l1, ownA_of oX.at hvg' (by simp) l2⟩ ho.at hx4); have HTo := Lib.hid (fun t (h : t ∈ os) => TO.same (HT.out t h).at ho.at hx4); have pw4 : Prev w4 v2 := ⟨(bel v2 _).trans hb4⟩; clear hx4 hb4)))
          go_roundw
          case rel => exact ⟨A4, c4, os ++ [⟨some ⟨g, 0, none⟩, z3.length, z3, some ⟨g', 0, none⟩, x3.length, List.replicate x3.length 0⟩], by simp; omega, by simp, by simp, ho4, Lib.hid (HU.out.snoc e3.out ⟨rfl, rfl⟩), Lib.hid (fun t h => (List.mem_append.1 h).elim (fun h => HTo.out t h) (fun h => by rw [List.mem_singleton.1 h]; exact HTn.out)), prev_bel _ _⟩
          case measure => simp [intOf]; omega
        · have hkn : os.length = n := by omega
          obtain ⟨wL, rfl⟩ : ∃ wL : World, wL = wr := ⟨_, rfl⟩
          clear hlt hk
          go_upto_region 22 with fail
          have kh : Bx wL v0.heap.size 47 #[.int .i64 0, .int .i64 m, .int .i64 d, .int .i64 cl, .int .i64 dr, .int .i64 ev] := inferInstance
          have kc0 : Bx v0 w.heap.size 72 #[.slice A n ca, .slice B n cb, .int .i64 r, .int .i64 m, .int .i64 d, .int .i64 cl, .int .i64 dr, .int .i64 ev, .int .i64 st, .slice C n cc] := inferInstance
          have kc : Bx wL w.heap.size 72 #[.slice A n ca, .slice B n cb, .int .i64 r, .int .i64 m, .int .i64 d, .int .i64 cl, .int .i64 dr, .int .i64 ev, .int .i64 st, .slice C n cc] := inferInstance
          have hv0 : w.heap.size < v0.heap.size := kc0.blk.lt
          obtain ⟨W1, hW1⟩ : ∃ W : World, W = wL.setCell ⟨v0.heap.size, 2, none⟩ (.int .i64 0) := ⟨_, rfl⟩
          rw [← hW1]
          have hsame : ∀ b, b < wL.heap.size → b ≠ v0.heap.size → W1.heap[b]? = wL.heap[b]? := fun b _ hb => by rw [hW1]; exact Below.heap_setCell wL ⟨v0.heap.size, 2, none⟩ _ b hb
          have pW : Prev W1 w := ⟨by rw [hW1]; exact (bel w wL).setCell (p := ⟨v0.heap.size, 2, none⟩) (Nat.le_of_lt hv0) _⟩
          have kh1 : Bx W1 v0.heap.size 47 #[.int .i64 0, .int .i64 m, .int .i64 0, .int .i64 cl, .int .i64 dr, .int .i64 ev] := ⟨by rw [hW1]; exact kh.blk.set_ 2 _⟩
          have kc1 : Bx W1 w.heap.size 72 #[.slice A n ca, .slice B n cb, .int .i64 r, .int .i64 m, .int .i64 d, .int .i64 cl, .int .i64 dr, .int .i64 ev, .int .i64 st, .slice C n cc] := ⟨(hsame _ kc.blk.lt (Nat.ne_of_lt hv0)).trans kc.blk⟩
          have tO : Ts W1 A' n os := ⟨(ho.farT kh.blk (by decide) hsame).trd fun t ht => ((HT.out t ht).farT kh.blk (by decide) (by decide) hsame).te (HU.out.bd (by rw [hkn, HN3.out]; exact Nat.le_refl _) t ht), hkn.symm⟩
          have hgo : gs.length = os.length := by rw [HN3.out, hkn]
          have SGO := HU.out.sim hgo
          have hzo : Hid (Mo os) := Lib.hid (SGO.mo hz''.out)
          have hao : alikeTB ts os = true := (HS13.out.trans SGO).alike HVD.out
          have HX0 : Hid (∀ i j, xsAt os i j = 0) := Lib.hid (HU.out.at hgo)
          rw [hkn]
          clear hW1 hsame kh kc kc0 ho HT HU hp hgo SGO
          go_upto_region 23 with (first | (go_at_call 37; (try first | (with_reducible refine gen_boxK3 (fun u _ _ _ _ => ?_)) | (with_reducible refine gen_boxK2 (fun u _ _ _ => ?_)) | (with_reducible refine gen_boxK (fun u _ _ => ?_))); (with_reducible refine (op_step_yes (by omega) hz hz' hzo h1 hao hy1 hst0 hst1 HA).mono ?_); rintro e u ⟨G5, ps5, G6, qs6, rfl, CC5, H5, H6, _⟩))
          have lq : qs6.length = n := H6.out.len.trans HN2.out
          have bq := H6.out.bd HBV.out (fun j t _ z hz => by obtain ⟨i, hi⟩ := mix_mem hz; rw [hi]; exact fadd_bd _ _)
          have HVR : Hid (∀ (i : Nat) (t p : Tn), us[i]? = some t → (qs6.map Cp.tn)[i]? = some p → p.zs = t.zs ∧ p.xs = t.xs.map (fmul · m)) := Lib.hid (fun i t p ht hp => by
            rw [List.getElem?_map] at hp
            obtain ⟨q, hq, rfl⟩ := Option.map_eq_some_iff.1 hp
            obtain ⟨a1, a2⟩ := H6.out.at_ i q t hq ht
            have hi := (List.getElem?_eq_some_iff.1 ht).1
            rw [HN2.out] at hi
            rw [if_pos hi] at a2
            refine ⟨a1, a2.trans (mix_map fun j x hx => ?_)⟩
            rw [xsAt_of ht hx, HX0.out i j, hyV_still im.bd (HBV.out t (List.mem_of_getElem? ht) x (List.mem_of_getElem? hx)) hcl icl.bd]
            show fmul m x = fmul x m
            unfold fmul; rw [Int.mul_comm, negB_comm'])
          obtain ⟨Ut, hUt⟩ : ∃ Vt, qs6.map Cp.tn = Vt := ⟨_, rfl⟩
          have tU : Ts u (some ⟨G6, 0, none⟩) n Ut := by rw [← hUt]; exact CC5.r.tens lq bq
          rw [hUt] at HVR
          clear CC5 H5 H6 hUt lq bq
          obtain ⟨v3, rfl⟩ : ∃ v3 : World, v3 = u := ⟨_, rfl⟩
          go_wp2_with fail
          go_loopw [156] (fun i wr => ∃ k : Nat, k ≤ n ∧ i = .int .i64 k ∧ Bx wr v3.heap.size 70 #[.slice (some ⟨G5, 0, none⟩) n n, .slice (some ⟨G6, 0, none⟩) n n] ∧ Prev wr v3) (fun i _ => n - (intOf i).toNat)
          case atStart => exact ⟨0, Nat.zero_le _, rfl, inferInstance, prev_bel _ _⟩
          case round =>
            obtain ⟨k, hk, rfl, kS, hp⟩ := hrel
            by_cases hlt : k < n
            · obtain ⟨b1, o1, A1, c1, z1, B1, d1, x1, rfl, ob1, q0, q1, s1, y1, -, i1, e1⟩ := b.get hlt
              obtain ⟨b4, o4, A4, c4, z4, B4, d4, x4, e4', ob4, q6, q7, s4, y4, -, -, e4⟩ := tU.get hlt
              injection e4' with e4'
              injection e4' with e4' e4''
              subst e4' e4''
              obtain ⟨r4, r5⟩ := HVR.out k _ _ e1.out e4.out
              have l1 := hz'.out _ (List.mem_of_getElem? e1.out)
              have hr1 := validB_at (HS12.out.valid HVD.out) e1.out
              simp only at r4 r5 l1 hr1
              obtain ⟨l1, l2⟩ := l1
              subst r4 r5
              simp only [Nat.zero_add] at q6 q7
              rw [List.length_map] at q7 y4
              clear e1 e4
              go_wp2_with fail
              go_cut [15, 16] (fun p e wx => ∃ G A' c' B' d', p = .pointer (some ⟨G, 0, none⟩) ∧ e = .int .i64 0 ∧ Bx wx G 65 #[.slice A' z4.length c', .slice B' x1.length d'] ∧ Sl wx A' z4.length z4 ∧ Sl wx B' x1.length (x1.map (fmul · m)) ∧ Prev wx wr)
              case first =>
                refine wp_region_up0 (by kernel_rfl) (fun ux _ => ?_)
                refine wpAnyH_on (i := 0) (d := 160) (v := ?_) rfl rfl (by kernel_rfl) (by kernel_rfl) (by kernel_rfl) (fun _ _ _ h => h) (by kernel_rfl) (prev_bel _ _) ?_ ?_
                rotate_left
                · intro uu (pu : Prev uu _)
                  go_simp
                  try (with_reducible rfl)
                try simp only [List.set]
                refine wpAnyH_on (i := 1) (d := 161) (v := ?_) rfl rfl (by kernel_rfl) (by kernel_rfl) (by kernel_rfl) (fun _ _ _ h => h) (by kernel_rfl) (prev_bel _ _) ?_ ?_
                rotate_left
                · intro uu (pu : Prev uu _)
                  go_simp
                  try (with_reducible rfl)
                try simp only [List.set]
                refine wpAnyH_on (i := 2) (d := 162) (v := ?_) rfl rfl (by kernel_rfl) (by kernel_rfl) (by kernel_rfl) (fun _ _ _ h => h) (by kernel_rfl) (prev_bel _ _) ?_ ?_
                rotate_left
                · intro uu (pu : Prev uu _)
                  go_simp
                  try (with_reducible rfl)
                try simp only [List.set]
                refine wpAnyH_on (i := 3) (d := 163) (v := ?_) rfl rfl (by kernel_rfl) (by kernel_rfl) (by kernel_rfl) (fun _ _ _ h => h) (by kernel_rfl) (prev_bel _ _) ?_ ?_
                rotate_left
                · intro uu (pu : Prev uu _)
                  go_simp
                  try (with_reducible rfl)
                try simp only [List.set]
                refine wpAnyH_on (i := 4) (d := 164) (v := ?_) rfl rfl (by kernel_rfl) (by kernel_rfl) (by kernel_rfl) (fun _ _ _ h => h) (by kernel_rfl) (prev_bel _ _) ?_ ?_
                rotate_left
                · intro uu (pu : Prev uu _)
                  go_simp
                  try (with_reducible rfl)
                try simp only [List.set]
                refine wpAnyH_on (i := 5) (d := 165) (v := ?_) rfl rfl (by kernel_rfl) (by kernel_rfl) (by kernel_rfl) (fun _ _ _ h => h) (by kernel_rfl) (prev_bel _ _) ?_ ?_
                rotate_left
                · intro uu (pu : Prev uu _)
                  go_simp
                  try (with_reducible rfl)
                try simp only [List.set]
                refine wpAnyH_on (i := 6) (d := 166) (v := ?_) rfl rfl (by kernel_rfl) (by kernel_rfl) (by kernel_rfl) (fun _ _ _ h => h) (by kernel_rfl) (prev_bel _ _) ?_ ?_
                rotate_left
                · intro uu (pu : Prev uu _)
                  go_simp
                  try (with_reducible rfl)
                try simp only [List.set]
                refine wpAnyH_on (i := 7) (d := 167) (v := ?_) rfl rfl (by kernel_rfl) (by kernel_rfl) (by kernel_rfl) (fun _ _ _ h => h) (by kernel_rfl) (prev_bel _ _) ?_ ?_
                rotate_left
                · intro uu (pu : Prev uu _)
                  go_simp
                  try (with_reducible rfl)
                try simp only [List.set]
                refine wpAnyH_ready (rs := [8, 12]) (by kernel_rfl) (by simp) ?_
                refine AllReadyH.cons rfl (fun K hK => ?_) (AllReadyH.cons rfl (fun K hK => ?_) AllReadyH.nil)
                · go_simp
                  (with_reducible refine (aT_scale hr1).mono ?_)
                  rintro e ux ⟨A', c', B', d', rfl, sA, sX, lA, lX, fA, fX, _⟩
                  dsimp only
                  refine hK.out _ _ (prev_bel _ _) (fun hHeld => ?_)
                  clear hHeld hK K
                  try dsimp only [Act.put, List.setIfInBounds_toArray, List.set_cons_zero, List.set_cons_succ]
                  refine wpAnyH_on (i := 9) (d := 159) (v := ?_) rfl rfl (by kernel_rfl) (by kernel_rfl) (by kernel_rfl) (fun _ _ _ h => h) (by kernel_rfl) (prev_bel _ _) ?_ ?_
                  rotate_left
                  · intro uu (pu : Prev uu _)
                    go_simp
                    try (with_reducible rfl)
                  try simp only [List.set]
                  refine wpAnyH_on (i := 10) (d := 169) (v := ?_) rfl rfl (by kernel_rfl) (by kernel_rfl) (by kernel_rfl) (fun _ _ _ h => h) (by kernel_rfl) (prev_bel _ _) ?_ ?_
                  rotate_left
                  · intro uu (pu : Prev uu _)
                    go_simp
                    try (with_reducible rfl)
                  try simp only [List.set]
                  refine wpAnyH_on (i := 11) (d := 170) (v := ?_) rfl rfl (by kernel_rfl) (by kernel_rfl) (by kernel_rfl) (fun _ _ _ h => h) (by kernel_rfl) (prev_bel _ _) ?_ ?_
                  rotate_left
                  · intro uu (pu : Prev uu _)
                    go_simp
                    try (with_reducible rfl)
                  try simp only [List.set]
                  refine wpAnyH_ready (rs := [12]) (by kernel_rfl) (by simp) ?_
                  refine AllReadyH.cons rfl (fun K hK => ?_) AllReadyH.nil
                  go_simp
                  refine hK.out _ _ (prev_bel _ _) (fun hHeld => ?_)
                  clear hHeld hK K
                  try dsimp only [Act.put, List.setIfInBounds_toArray, List.set_cons_zero, List.set_cons_succ]
                  refine gen_boxH (fun ux _ _ => ?_)
                  refine wpAnyH_ready (rs := [13]) (by kernel_rfl) (by simp) ?_
                  refine AllReadyH.cons rfl (fun K hK => ?_) AllReadyH.nil
                  rename World => wN
                  go_simp
                  refine hK.out _ _ ⟨bset2 (bel wr wN) later_size _ _⟩ (fun _ => ?_)
                  clear hK K
                  try dsimp only [Act.put, List.setIfInBounds_toArray, List.set_cons_zero, List.set_cons_succ]
                  refine wpAnyH_on (i := 14) (d := 16) (v := ?_) rfl rfl (by kernel_rfl) (by kernel_rfl) (by kernel_rfl) (fun _ _ _ h => h) (by kernel_rfl) (prev_bel _ _) ?_ ?_
                  rotate_left
                  · intro uu (pu : Prev uu _)
                    go_simp
                    try (with_reducible rfl)
                  try simp only [List.set]
                  refine wpAnyH_done (by kernel_rfl) ?_ _
                  go_wp2_with fail
                  go_meet
                  rw [List.length_map] at sX
                  refine ⟨_, A', _, B', _, rfl, rfl, ⟨(Bx.blk (w := wN)).set2 _ _⟩, ?_, ?_, ⟨bset2 (bel wr wN) later_size _ _⟩⟩
                  · first | exact sA.far2 fA Bx.blk.lt _ _ | exact sA.new2 (Nat.le_refl _) _ _
                  · first | exact sX.far2 fX Bx.blk.lt _ _ | exact sX.new2 (Nat.le_refl _) _ _
                · go_simp
                  refine hK.out _ _ (prev_bel _ _) (fun hHeld => ?_)
                  clear hHeld hK K
                  try dsimp only [Act.put, List.setIfInBounds_toArray, List.set_cons_zero, List.set_cons_succ]
                  refine gen_boxH (fun ux _ _ => ?_)
                  refine wpAnyH_ready (rs := [8]) (by kernel_rfl) (by simp) ?_
                  refine AllReadyH.cons rfl (fun K hK => ?_) AllReadyH.nil
                  go_simp
                  (with_reducible refine (aT_scale hr1).mono ?_)
                  rintro e ux ⟨A', c', B', d', rfl, sA, sX, lA, lX, fA, fX, _⟩
                  dsimp only
                  refine hK.out _ _ (prev_bel _ _) (fun hHeld => ?_)
                  clear hHeld hK K
                  try dsimp only [Act.put, List.setIfInBounds_toArray, List.set_cons_zero, List.set_cons_succ]
                  refine wpAnyH_on (i := 9) (d := 159) (v := ?_) rfl rfl (by kernel_rfl) (by kernel_rfl) (by kernel_rfl) (fun _ _ _ h => h) (by kernel_rfl) (prev_bel _ _) ?_ ?_
                  rotate_left
                  · intro uu (pu : Prev uu _)
                    go_simp
                    try (with_reducible rfl)
                  try simp only [List.set]
                  refine wpAnyH_on (i := 10) (d := 169) (v := ?_) rfl rfl (by kernel_rfl) (by kernel_rfl) (by kernel_rfl) (fun _ _ _ h => h) (by kernel_rfl) (prev_bel _ _) ?_ ?_
                  rotate_left
                  · intro uu (pu : Prev uu _)
                    go_simp
                    try (with_reducible rfl)
                  try simp only [List.set]
                  refine wpAnyH_on (i := 11) (d := 170) (v := ?_) rfl rfl (by kernel_rfl) (by kernel_rfl) (by kernel_rfl) (fun _ _ _ h => h) (by kernel_rfl) (prev_bel _ _) ?_ ?_
                  rotate_left
                  · intro uu (pu : Prev uu _)
                    go_simp
                    try (with_reducible rfl)
                  try simp only [List.set]
                  refine wpAnyH_ready (rs := [13]) (by kernel_rfl) (by simp) ?_
                  refine AllReadyH.cons rfl (fun K hK => ?_) AllReadyH.nil
                  rename World => wN
                  go_simp
                  refine hK.out _ _ ⟨bset2 (bel wr wN) later_size _ _⟩ (fun _ => ?_)
                  clear hK K
                  try dsimp only [Act.put, List.setIfInBounds_toArray, List.set_cons_zero, List.set_cons_succ]
                  refine wpAnyH_on (i := 14) (d := 16) (v := ?_) rfl rfl (by kernel_rfl) (by kernel_rfl) (by kernel_rfl) (fun _ _ _ h => h) (by kernel_rfl) (prev_bel _ _) ?_ ?_
                  rotate_left
                  · intro uu (pu : Prev uu _)
                    go_simp
                    try (with_reducible rfl)
                  try simp only [List.set]
                  refine wpAnyH_done (by kernel_rfl) ?_ _
                  go_wp2_with fail
                  go_meet
                  rw [List.length_map] at sX
                  refine ⟨_, A', _, B', _, rfl, rfl, ⟨(Bx.blk (w := wN)).set2 _ _⟩, ?_, ?_, ⟨bset2 (bel wr wN) later_size _ _⟩⟩
                  · first | exact sA.far2 fA Bx.blk.lt _ _ | exact sA.new2 (Nat.le_refl _) _ _
                  · first | exact sX.far2 fX Bx.blk.lt _ _ | exact sX.new2 (Nat.le_refl _) _ _
              case rest =>
                obtain ⟨G, A5, c5, B5, d5, rfl, rfl, kG, sA5, sX5, pv5⟩ := hcut
                go_wp2_with fail
                refine wp_region_up0 (by kernel_rfl) (fun uy _ => ?_)
                refine wpAnyH_on (i := 0) (d := 171) (v := ?_) rfl rfl (by kernel_rfl) (by kernel_rfl) (by kernel_rfl) (fun _ _ _ h => h) (by kernel_rfl) (prev_bel _ _) ?_ ?_
                rotate_left
                · intro uu (pu : Prev uu _)
                  go_simp
                  try (with_reducible rfl)
                try simp only [List.set]
                refine wpAnyH_on (i := 1) (d := 172) (v := ?_) rfl rfl (by kernel_rfl) (by kernel_rfl) (by kernel_rfl) (fun _ _ _ h => h) (by kernel_rfl) (prev_bel _ _) ?_ ?_
                rotate_left
                · intro uu (pu : Prev uu _)
                  go_simp
                  try (with_reducible rfl)
                try simp only [List.set]
                refine wpAnyH_on (i := 2) (d := 173) (v := ?_) rfl rfl (by kernel_rfl) (by kernel_rfl) (by kernel_rfl) (fun _ _ _ h => h) (by kernel_rfl) (prev_bel _ _) ?_ ?_
                rotate_left
                · intro uu (pu : Prev uu _)
                  go_simp
                  try (with_reducible rfl)
                try simp only [List.set]
                refine wpAnyH_on (i := 3) (d := 174) (v := ?_) rfl rfl (by kernel_rfl) (by kernel_rfl) (by kernel_rfl) (fun _ _ _ h => h) (by kernel_rfl) (prev_bel _ _) ?_ ?_
                rotate_left
                · intro uu (pu : Prev uu _)
                  go_simp
                  try (with_reducible rfl)
                try simp only [List.set]
                refine wpAnyH_on (i := 4) (d := 175) (v := ?_) rfl rfl (by kernel_rfl) (by kernel_rfl) (by kernel_rfl) (fun _ _ _ h => h) (by kernel_rfl) (prev_bel _ _) ?_ ?_
                rotate_left
                · intro uu (pu : Prev uu _)
                  go_simp
                  try (with_reducible rfl)
                try simp only [List.set]
                refine wpAnyH_on (i := 5) (d := 176) (v := ?_) rfl rfl (by kernel_rfl) (by kernel_rfl) (by kernel_rfl) (fun _ _ _ h => h) (by kernel_rfl) (prev_bel _ _) ?_ ?_
                rotate_left
                · intro uu (pu : Prev uu _)
                  go_simp
                  try (with_reducible rfl)
                try simp only [List.set]
                refine wpAnyH_on (i := 6) (d := 177) (v := ?_) rfl rfl (by kernel_rfl) (by kernel_rfl) (by kernel_rfl) (fun _ _ _ h => h) (by kernel_rfl) (prev_bel _ _) ?_ ?_
                rotate_left
                · intro uu (pu : Prev uu _)
                  go_simp
                  try (with_reducible rfl)
                try simp only [List.set]
                refine wpAnyH_on (i := 7) (d := 178) (v := ?_) rfl rfl (by kernel_rfl) (by kernel_rfl) (by kernel_rfl) (fun _ _ _ h => h) (by kernel_rfl) (prev_bel _ _) ?_ ?_
                rotate_left
                · intro uu (pu : Prev uu _)
                  go_simp
                  try (with_reducible rfl)
                try simp only [List.set]
                refine wpAnyH_on (i := 8) (d := 179) (v := ?_) rfl rfl (by kernel_rfl) (by kernel_rfl) (by kernel_rfl) (fun _ _ _ h => h) (by kernel_rfl) (prev_bel _ _) ?_ ?_
                rotate_left
                · intro uu (pu : Prev uu _)
                  go_simp
                  try (with_reducible rfl)
                try simp only [List.set]
                refine wpAnyH_ready (rs := [9]) (by kernel_rfl) (by simp) ?_
                refine AllReadyH.cons rfl (fun K hK => ?_) AllReadyH.nil
                go_simp
                (with_reducible refine (aT_equalT24 (by omega) (by omega) (by omega)).mono ?_)
                rintro e uy ⟨rfl, _⟩
                dsimp only
                refine hK.out _ _ (prev_bel _ _) (fun hHeld => ?_)
                clear hHeld hK K
                try dsimp only [Act.put, List.setIfInBounds_toArray, List.set_cons_zero, List.set_cons_succ]
                refine wpAnyH_on (i := 10) (d := 181) (v := ?_) rfl rfl (by kernel_rfl) (by kernel_rfl) (by kernel_rfl) (fun _ _ _ h => h) (by kernel_rfl) (prev_bel _ _) ?_ ?_
                rotate_left
                · intro uu (pu : Prev uu _)
                  go_simp
                  try (with_reducible rfl)
                try simp only [List.set]
                refine wpAnyH_on (i := 11) (d := 182) (v := ?_) rfl rfl (by kernel_rfl) (by kernel_rfl) (by kernel_rfl) (fun _ _ _ h => h) (by kernel_rfl) (prev_bel _ _) ?_ ?_
                rotate_left
                · intro uu (pu : Prev uu _)
                  go_simp
                  try (with_reducible rfl)
                try simp only [List.set]
                refine wpAnyH_done (by kernel_rfl) ?_ _
                go_wp2_with fail
                go_roundw
                case rel => exact ⟨k + 1, by omega, by go_num, inferInstance, prev_bel _ _⟩
                case measure => simp [intOf]; omega
            · go_wp2_with (first | (go_at_call 30; (try first | (with_reducible refine gen_boxK3 (fun u _ _ _ _ => ?_)) | (with_reducible refine gen_boxK2 (fun u _ _ _ => ?_)) | (with_reducible refine gen_boxK (fun u _ _ => ?_))); (with_reducible refine (a24_awake).mono ?_); rintro e u ⟨rfl, _⟩))
              go_ret
              exact ⟨rfl, bel w _⟩

end Go.Proofs.Ytphcffcecncngaa

namespace Go.Proofs.Ytphcffcecncngaa
open Go.ChangeShapes Go.WideShapes Go.ChangeAt Go.RowKit

set_option maxRecDepth 100000 in
theorem optimStill_lifted (os : Os) (started : os.Started) (H : Type) (enc : TypeId × Value → H) :
    ReturnsInHanded {} Try.checked os 12 .any (Rows.optimStillSpec.pre6 enc Try.prog Try.f12 Rows.optimStillRow.domain false) (Rows.optimStillSpec.post enc Try.prog Try.f12 false true false false) := by
  refine returnsInHanded_of_change_sized (C := Try.checked) ownKnob_none started (by kernel_rfl) Try.func12
    (ChangeSpec.witness6 (enc := enc) (C := Try.checked) false ⟨#[], #[.agg #[.slice none 0 0, .slice none 0 0, .int .i64 0, .int .i64 0, .int .i64 0, .int .i64 0, .int .i64 0, .int .i64 0, .int .i64 0, .slice none 0 0]], []⟩ 8 (by kernel_rfl) (by kernel_rfl) (by kernel_rfl) (by kernel_rfl)) ?_
  intro W base args ds gs before hval0 hW _ hsz0 _
  have hsz : (DataW.weightsEach Try.prog (Try.f12.params.toList ++ Rows.optimStillSpec.plain.varTypes Try.prog) (ds ++ gs)).all (· ≤ reachBytes) = true := hsz0
  have hval : ∀ (j : Nat) t v, Try.f12.params[j]? = some t → args[j]? = some v → Value.okWide Try.prog W .any base t v := hval0
  have hW' := hW
  obtain ⟨p, q, hA0, hV, rfl, _, _⟩ := hW
  have hA : DataW.TrodAll enc Try.prog W 0 (fun _ => true) true Try.f12.params.toList args.toList ds p := hA0
  rw [Try.params12] at hA hval hsz
  have hAll := hA
  obtain ⟨v0, vs0, d0, ds0, p0, q0, hargs, rfl, rfl, h0, r0⟩ := trodAll_cons hA
  obtain ⟨rfl, rfl, rfl⟩ := trodAll_nil r0
  obtain rfl : args = #[v0] := by cases args; simp_all
  obtain ⟨rfl, rfl⟩ := trodVars_none hV
  obtain ⟨Aa, ca, ts, Ab, cb, us, r, m, dd, cl, dr, ev, st, Ac, cc, gs, rfl, ta, tb, tc, i0, i1, i2, i3, i4⟩ := arg_case24 (hval 0 72 v0 rfl rfl) h0 (wt_each hsz (j := 0) rfl rfl)
  clear hA0 hval0 hsz0
  refine (optimStill_calls Aa Ab Ac ca cb cc ts us gs r m dd cl dr ev st W ta tb tc i0 i1 i2 i3 i4).mono fun e W' ⟨he, bel⟩ => ?_
  subst he
  exact ⟨_, rfl, _, _, _, [], _, [], hW', trodAll_mk1 (shut_bool Try.underlying4 _), trodAll_below laidOut_all (by decide +kernel) hAll bel, rfl, bel.frame _, fun h => by cases h⟩

theorem optimStill_holds : Rows.OptimStillSaid :=
  OpenClaim.holds_of_wide 12 Try.f12 rfl rfl rfl rfl rfl rfl rfl ⟨rfl, rfl, rfl, rfl, rfl⟩ rfl rfl rfl rfl rfl (by kernel_rfl) Try.func12 (by kernel_rfl)
    (of_decide_eq_true (by kernel_rfl)) (by unfold Func.isWrapper; first | (rw [if_pos (by decide +kernel)]; kernel_rfl) | (rw [if_neg (by decide +kernel)]; exact ⟨rfl, rfl⟩))
    (fun os started H enc _ => optimStill_lifted os started H enc)

end Go.Proofs.Ytphcffcecncngaa
