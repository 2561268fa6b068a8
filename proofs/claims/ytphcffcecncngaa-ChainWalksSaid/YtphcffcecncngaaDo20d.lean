/- The reference's walk: Do, a node is computed. -/
import Derived.Test.YtphcffcecncngaaDo20b
namespace Go.Proofs.Ytphcffcecncngaa
open Go.RowKit

section
variable {w : World} {A B TA SA GA : Option Addr} {z n m p q tc sc gc : Nat} {c : Ch} {cap em sd dn pk co : Int} {T S G : List Int} {d : Nat} {r : Bool}
set_option maxRecDepth 100000 in
set_option maxHeartbeats 8000000 in
theorem do20_comp_no1 [Sl w B m c.K] [Sl w TA T.length T] [Sl w SA S.length S] [Sl w GA G.length G] (lT : Hid (Lw z w TA)) (lS : Hid (Lw z w SA)) (lG : Hid (Lw z w GA))
    (kT : T.length ≤ 400000) (hd : d ≤ 64) (HRD : Hid (Ch.ready ⟨T, S, G, em, sd, dn, pk, co⟩ (d : Int) = r)) (kS : S.length ≤ 400000) {kind : Int} {x1 : Bool} (hk : kind = 1 ∧ x1 = true ∨ kind = 2 ∧ x1 = false) (HS : Hid (S.contains (d : Int) = x1)) :
    Calls Try.prog 54 #[.slice A n p, .slice B m q, .int .i64 cap, .agg (stC TA tc T SA sc S GA gc G em sd dn pk co), .int .i64 kind, .int .i64 d] w (RetD20 z w 24 ⟨T, S, G, em, sd, dn, pk, co⟩) := by
  have CB := @cell_bx
  have CP := @cell_prev
  have FB := @frozen_bx
  have hsub : IntKind.i64.wrap ((d : Int) - 1) = (d : Int) - 1 := by rw [IntKind.wrap_i64]; omega
  rcases hk with ⟨rfl, rfl⟩ | ⟨rfl, rfl⟩
  all_goals
    go_enter Try.func54, Try.ntmps54
    go_upto_region 2 with fail
    refine gen_box2C (fun u2 _ kb kr => ?_)
    have HM : Hid (SM z w u2 w.heap.size (w.heap.size + 1) TA tc T SA sc S GA gc G em sd dn pk co stZ) := Lib.hid ⟨prev_bel _ _, kb, kr, inferInstance, inferInstance, inferInstance, lT.out.fr, lS.out.fr, lG.out.fr, Nat.le_refl _, Nat.le_succ _, Nat.ne_of_lt (Nat.lt_succ_self _)⟩
    clear kb kr
    go_cut [15] (fun x wx => x = .bool r ∧ Prev wx u2)
    case first =>
      have p9 := HM.out.pr
      have kb := HM.out.bx
      have kr := HM.out.rx
      have eT := HM.out.hT
      have eS := HM.out.hS
      have eG := HM.out.hG
      by_cases e : d = 1
      · have t1 : ((d : Int) == 1) = true := by simp; omega
        have hr : r = true := by rw [← HRD.out, Ch.ready, decide_eq_true (by omega)]; rfl
        clear e
        go_wp2_with fail
        go_meet
        exact ⟨by rw [hr], prev_bel _ _⟩
      · have t1 : ((d : Int) == 1) = false := by simp; omega
        have HR : Hid (T.contains ((d : Int) - 1) = r) := Lib.hid (by rw [← HRD.out, Ch.ready, decide_eq_false (by omega)]; rfl)
        clear e
        go_wp2_with (first | (go_at_call 90; (try first | (with_reducible refine gen_boxK3 (fun u _ _ _ _ => ?_)) | (with_reducible refine gen_boxK2 (fun u _ _ _ => ?_)) | (with_reducible refine gen_boxK (fun u _ _ => ?_))); (with_reducible refine (r18_hasV (by omega) HR).mono ?_); rintro e u ⟨rfl, _⟩))
        go_meet
        exact ⟨rfl, prev_bel _ _⟩
    obtain ⟨rfl, pc⟩ := hcut
    have HM := Lib.hid (HM.out.at (w' := wc))
    have p9 := HM.out.pr
    have kb := HM.out.bx
    have kr := HM.out.rx
    have eT := HM.out.hT
    have eS := HM.out.hS
    have eG := HM.out.hG
    go_wp2_with (first | (go_at_call 90; (try first | (with_reducible refine gen_boxK3 (fun u _ _ _ _ => ?_)) | (with_reducible refine gen_boxK2 (fun u _ _ _ => ?_)) | (with_reducible refine gen_boxK (fun u _ _ => ?_))); (with_reducible refine (r18_hasV (by omega) HS).mono ?_); rintro e u ⟨rfl, _⟩))
    refine HM.out.at.ret rfl (fun W hW => ?_) (Lib.hid rfl)
    obtain ⟨r0, r1, r2, r3, r4, r5, r6, r7⟩ := cells8 hW
    clear hW
    simp [results, Try.results54, go_sem, r0, r1, r2, r3, r4, r5, r6, r7]
set_option maxRecDepth 100000 in
set_option maxHeartbeats 8000000 in
theorem do20_comp_no2 [Sl w B m c.K] [Sl w TA T.length T] [Sl w SA S.length S] [Sl w GA G.length G] (lT : Hid (Lw z w TA)) (lS : Hid (Lw z w SA)) (lG : Hid (Lw z w GA))
    (kT : T.length ≤ 400000) (hd : d ≤ 64) (HRD : Hid (Ch.ready ⟨T, S, G, em, sd, dn, pk, co⟩ (d : Int) = r)) (kS : S.length ≤ 400000) {kind : Int} {x1 : Bool} (hk : kind = 1 ∧ x1 = false ∨ kind = 2 ∧ x1 = true) (HS : Hid (S.contains (d : Int) = x1)) (HT : Hid (T.contains (d : Int) = true)) :
    Calls Try.prog 54 #[.slice A n p, .slice B m q, .int .i64 cap, .agg (stC TA tc T SA sc S GA gc G em sd dn pk co), .int .i64 kind, .int .i64 d] w (RetD20 z w 24 ⟨T, S, G, em, sd, dn, pk, co⟩) := by
  have CB := @cell_bx
  have CP := @cell_prev
  have FB := @frozen_bx
  have hsub : IntKind.i64.wrap ((d : Int) - 1) = (d : Int) - 1 := by rw [IntKind.wrap_i64]; omega
  rcases hk with ⟨rfl, rfl⟩ | ⟨rfl, rfl⟩
  all_goals
    go_enter Try.func54, Try.ntmps54
    go_upto_region 2 with fail
    refine gen_box2C (fun u2 _ kb kr => ?_)
    have HM : Hid (SM z w u2 w.heap.size (w.heap.size + 1) TA tc T SA sc S GA gc G em sd dn pk co stZ) := Lib.hid ⟨prev_bel _ _, kb, kr, inferInstance, inferInstance, inferInstance, lT.out.fr, lS.out.fr, lG.out.fr, Nat.le_refl _, Nat.le_succ _, Nat.ne_of_lt (Nat.lt_succ_self _)⟩
    clear kb kr
    go_cut [15] (fun x wx => x = .bool r ∧ Prev wx u2)
    case first =>
      have p9 := HM.out.pr
      have kb := HM.out.bx
      have kr := HM.out.rx
      have eT := HM.out.hT
      have eS := HM.out.hS
      have eG := HM.out.hG
      by_cases e : d = 1
      · have t1 : ((d : Int) == 1) = true := by simp; omega
        have hr : r = true := by rw [← HRD.out, Ch.ready, decide_eq_true (by omega)]; rfl
        clear e
        go_wp2_with fail
        go_meet
        exact ⟨by rw [hr], prev_bel _ _⟩
      · have t1 : ((d : Int) == 1) = false := by simp; omega
        have HR : Hid (T.contains ((d : Int) - 1) = r) := Lib.hid (by rw [← HRD.out, Ch.ready, decide_eq_false (by omega)]; rfl)
        clear e
        go_wp2_with (first | (go_at_call 90; (try first | (with_reducible refine gen_boxK3 (fun u _ _ _ _ => ?_)) | (with_reducible refine gen_boxK2 (fun u _ _ _ => ?_)) | (with_reducible refine gen_boxK (fun u _ _ => ?_))); (with_reducible refine (r18_hasV (by omega) HR).mono ?_); rintro e u ⟨rfl, _⟩))
        go_meet
        exact ⟨rfl, prev_bel _ _⟩
    obtain ⟨rfl, pc⟩ := hcut
    have HM := Lib.hid (HM.out.at (w' := wc))
    have p9 := HM.out.pr
    have kb := HM.out.bx
    have kr := HM.out.rx
    have eT := HM.out.hT
    have eS := HM.out.hS
    have eG := HM.out.hG
    go_wp2_with (first | (go_at_call 90; (try first | (with_reducible refine gen_boxK3 (fun u _ _ _ _ => ?_)) | (with_reducible refine gen_boxK2 (fun u _ _ _ => ?_)) | (with_reducible refine gen_boxK (fun u _ _ => ?_))); (with_reducible refine (r18_hasV (by omega) HS).mono ?_); rintro e u ⟨rfl, _⟩) | (go_at_call 90; (try first | (with_reducible refine gen_boxK3 (fun u _ _ _ _ => ?_)) | (with_reducible refine gen_boxK2 (fun u _ _ _ => ?_)) | (with_reducible refine gen_boxK (fun u _ _ => ?_))); (with_reducible refine (r18_hasV (by omega) HT).mono ?_); rintro e u ⟨rfl, _⟩))
    refine HM.out.at.ret rfl (fun W hW => ?_) (Lib.hid rfl)
    obtain ⟨r0, r1, r2, r3, r4, r5, r6, r7⟩ := cells8 hW
    clear hW
    simp [results, Try.results54, go_sem, r0, r1, r2, r3, r4, r5, r6, r7]
set_option maxRecDepth 100000 in
set_option maxHeartbeats 8000000 in
theorem do20_comp_no3 [Sl w B m c.K] [Sl w TA T.length T] [Sl w SA S.length S] [Sl w GA G.length G] (lT : Hid (Lw z w TA)) (lS : Hid (Lw z w SA)) (lG : Hid (Lw z w GA))
    (kT : T.length ≤ 400000) (hd : d ≤ 64) (HRD : Hid (Ch.ready ⟨T, S, G, em, sd, dn, pk, co⟩ (d : Int) = r)) (HRr : Hid (r = false)) (kS : S.length ≤ 400000) {kind : Int} {x1 : Bool} (hk : kind = 1 ∧ x1 = false ∨ kind = 2 ∧ x1 = true) (HS : Hid (S.contains (d : Int) = x1)) (HT : Hid (T.contains (d : Int) = false)) :
    Calls Try.prog 54 #[.slice A n p, .slice B m q, .int .i64 cap, .agg (stC TA tc T SA sc S GA gc G em sd dn pk co), .int .i64 kind, .int .i64 d] w (RetD20 z w 24 ⟨T, S, G, em, sd, dn, pk, co⟩) := by
  have CB := @cell_bx
  have CP := @cell_prev
  have FB := @frozen_bx
  have hsub : IntKind.i64.wrap ((d : Int) - 1) = (d : Int) - 1 := by rw [IntKind.wrap_i64]; omega
  rcases hk with ⟨rfl, rfl⟩ | ⟨rfl, rfl⟩
  all_goals
    go_enter Try.func54, Try.ntmps54
    go_upto_region 2 with fail
    refine gen_box2C (fun u2 _ kb kr => ?_)
    have HM : Hid (SM z w u2 w.heap.size (w.heap.size + 1) TA tc T SA sc S GA gc G em sd dn pk co stZ) := Lib.hid ⟨prev_bel _ _, kb, kr, inferInstance, inferInstance, inferInstance, lT.out.fr, lS.out.fr, lG.out.fr, Nat.le_refl _, Nat.le_succ _, Nat.ne_of_lt (Nat.lt_succ_self _)⟩
    clear kb kr
    go_cut [15] (fun x wx => x = .bool r ∧ Prev wx u2)
    case first =>
      have p9 := HM.out.pr
      have kb := HM.out.bx
      have kr := HM.out.rx
      have eT := HM.out.hT
      have eS := HM.out.hS
      have eG := HM.out.hG
      by_cases e : d = 1
      · have t1 : ((d : Int) == 1) = true := by simp; omega
        have hr : r = true := by rw [← HRD.out, Ch.ready, decide_eq_true (by omega)]; rfl
        clear e
        go_wp2_with fail
        go_meet
        exact ⟨by rw [hr], prev_bel _ _⟩
      · have t1 : ((d : Int) == 1) = false := by simp; omega
        have HR : Hid (T.contains ((d : Int) - 1) = r) := Lib.hid (by rw [← HRD.out, Ch.ready, decide_eq_false (by omega)]; rfl)
        clear e
        go_wp2_with (first | (go_at_call 90; (try first | (with_reducible refine gen_boxK3 (fun u _ _ _ _ => ?_)) | (with_reducible refine gen_boxK2 (fun u _ _ _ => ?_)) | (with_reducible refine gen_boxK (fun u _ _ => ?_))); (with_reducible refine (r18_hasV (by omega) HR).mono ?_); rintro e u ⟨rfl, _⟩))
        go_meet
        exact ⟨rfl, prev_bel _ _⟩
    obtain ⟨rfl, pc⟩ := hcut
    have HM := Lib.hid (HM.out.at (w' := wc))
    have p9 := HM.out.pr
    have kb := HM.out.bx
    have kr := HM.out.rx
    have eT := HM.out.hT
    have eS := HM.out.hS
    have eG := HM.out.hG
    obtain rfl := HRr.out
    go_wp2_with (first | (go_at_call 90; (try first | (with_reducible refine gen_boxK3 (fun u _ _ _ _ => ?_)) | (with_reducible refine gen_boxK2 (fun u _ _ _ => ?_)) | (with_reducible refine gen_boxK (fun u _ _ => ?_))); (with_reducible refine (r18_hasV (by omega) HS).mono ?_); rintro e u ⟨rfl, _⟩) | (go_at_call 90; (try first | (with_reducible refine gen_boxK3 (fun u _ _ _ _ => ?_)) | (with_reducible refine gen_boxK2 (fun u _ _ _ => ?_)) | (with_reducible refine gen_boxK (fun u _ _ => ?_))); (with_reducible refine (r18_hasV (by omega) HT).mono ?_); rintro e u ⟨rfl, _⟩))
    refine HM.out.at.ret rfl (fun W hW => ?_) (Lib.hid rfl)
    obtain ⟨r0, r1, r2, r3, r4, r5, r6, r7⟩ := cells8 hW
    clear hW
    simp [results, Try.results54, go_sem, r0, r1, r2, r3, r4, r5, r6, r7]
set_option maxRecDepth 100000 in
set_option maxHeartbeats 8000000 in
theorem do20_comp_cap (hok : Hid c.Ok) [Sl w A n c.W] [Sl w B m c.K] [Sl w TA T.length T] [Sl w SA S.length S] [Sl w GA G.length G] (lT : Hid (Lw z w TA)) (lS : Hid (Lw z w SA)) (lG : Hid (Lw z w GA))
    (kT : T.length ≤ 400000) (hd : d ≤ 64) (HRD : Hid (Ch.ready ⟨T, S, G, em, sd, dn, pk, co⟩ (d : Int) = r)) (HRr : Hid (r = true)) (kS : S.length ≤ 400000) (kG : G.length ≤ 400000) (hdn : d < n) {kind : Int} {x1 : Bool} (hk : kind = 1 ∧ x1 = false ∨ kind = 2 ∧ x1 = true) (HS : Hid (S.contains (d : Int) = x1)) (HT : Hid (T.contains (d : Int) = false)) (HTR : Hid (∀ x ∈ T, 0 ≤ x ∧ x < (n : Int))) (HGR : Hid (∀ x ∈ G, 0 ≤ x ∧ x < (n : Int))) (us2 : IntKind.i64.wrap (c.sumW T + c.sumW G + c.w d) = c.sumW T + c.sumW G + c.w d) (hc : cap < c.sumW T + c.sumW G + c.w d) :
    Calls Try.prog 54 #[.slice A n p, .slice B m q, .int .i64 cap, .agg (stC TA tc T SA sc S GA gc G em sd dn pk co), .int .i64 kind, .int .i64 d] w (RetD20 z w 25 ⟨T, S, G, em, sd, dn, pk, co⟩) := by
  have CB := @cell_bx
  have CP := @cell_prev
  have FB := @frozen_bx
  have hsub : IntKind.i64.wrap ((d : Int) - 1) = (d : Int) - 1 := by rw [IntKind.wrap_i64]; omega
  have us := sum_wrap (c := c) (T := T) (G := G) hok (by omega) (by omega)
  obtain ⟨b8, o8, rfl, ob8, w8⟩ := Sl.at_w (c := c) (w := w) (A := A) (n := n) (l := d) hdn
  rcases hk with ⟨rfl, rfl⟩ | ⟨rfl, rfl⟩
  all_goals
    go_enter Try.func54, Try.ntmps54
    go_upto_region 2 with fail
    refine gen_box2C (fun u2 _ kb kr => ?_)
    have HM : Hid (SM z w u2 w.heap.size (w.heap.size + 1) TA tc T SA sc S GA gc G em sd dn pk co stZ) := Lib.hid ⟨prev_bel _ _, kb, kr, inferInstance, inferInstance, inferInstance, lT.out.fr, lS.out.fr, lG.out.fr, Nat.le_refl _, Nat.le_succ _, Nat.ne_of_lt (Nat.lt_succ_self _)⟩
    clear kb kr
    go_cut [15] (fun x wx => x = .bool r ∧ Prev wx u2)
    case first =>
      have p9 := HM.out.pr
      have kb := HM.out.bx
      have kr := HM.out.rx
      have eT := HM.out.hT
      have eS := HM.out.hS
      have eG := HM.out.hG
      by_cases e : d = 1
      · have t1 : ((d : Int) == 1) = true := by simp; omega
        have hr : r = true := by rw [← HRD.out, Ch.ready, decide_eq_true (by omega)]; rfl
        clear e
        go_wp2_with fail
        go_meet
        exact ⟨by rw [hr], prev_bel _ _⟩
      · have t1 : ((d : Int) == 1) = false := by simp; omega
        have HR : Hid (T.contains ((d : Int) - 1) = r) := Lib.hid (by rw [← HRD.out, Ch.ready, decide_eq_false (by omega)]; rfl)
        clear e
        go_wp2_with (first | (go_at_call 90; (try first | (with_reducible refine gen_boxK3 (fun u _ _ _ _ => ?_)) | (with_reducible refine gen_boxK2 (fun u _ _ _ => ?_)) | (with_reducible refine gen_boxK (fun u _ _ => ?_))); (with_reducible refine (r18_hasV (by omega) HR).mono ?_); rintro e u ⟨rfl, _⟩))
        go_meet
        exact ⟨rfl, prev_bel _ _⟩
    obtain ⟨rfl, pc⟩ := hcut
    have HM := Lib.hid (HM.out.at (w' := wc))
    have p9 := HM.out.pr
    have kb := HM.out.bx
    have kr := HM.out.rx
    have eT := HM.out.hT
    have eS := HM.out.hS
    have eG := HM.out.hG
    obtain rfl := HRr.out
    go_upto_region 6 with (first | (go_at_call 90; (try first | (with_reducible refine gen_boxK3 (fun u _ _ _ _ => ?_)) | (with_reducible refine gen_boxK2 (fun u _ _ _ => ?_)) | (with_reducible refine gen_boxK (fun u _ _ => ?_))); (with_reducible refine (r18_hasV (by omega) HS).mono ?_); rintro e u ⟨rfl, _⟩) | (go_at_call 90; (try first | (with_reducible refine gen_boxK3 (fun u _ _ _ _ => ?_)) | (with_reducible refine gen_boxK2 (fun u _ _ _ => ?_)) | (with_reducible refine gen_boxK (fun u _ _ => ?_))); (with_reducible refine (r18_hasV (by omega) HT).mono ?_); rintro e u ⟨rfl, _⟩))
    refine wp_region_up0 (by kernel_rfl) (fun ux _ => ?_)
    refine wpAnyH_on (i := 0) (d := 47) (v := ?_) rfl rfl (by kernel_rfl) (by kernel_rfl) (by kernel_rfl) (fun _ _ _ h => h) (by kernel_rfl) (prev_bel _ _) ?_ ?_
    rotate_left
    · intro uu (pu : Prev uu _)
      go_simp
      try (with_reducible rfl)
    try simp only [List.set]
    refine wpAnyH_on (i := 1) (d := 48) (v := ?_) rfl rfl (by kernel_rfl) (by kernel_rfl) (by kernel_rfl) (fun _ _ _ h => h) (by kernel_rfl) (prev_bel _ _) ?_ ?_
    rotate_left
    · intro uu (pu : Prev uu _)
      go_simp
      try (with_reducible rfl)
    try simp only [List.set]
    refine wpAnyH_on (i := 2) (d := 49) (v := ?_) rfl rfl (by kernel_rfl) (by kernel_rfl) (by kernel_rfl) (fun _ _ _ h => h) (by kernel_rfl) (prev_bel _ _) ?_ ?_
    rotate_left
    · intro uu (pu : Prev uu _)
      go_simp
      try (with_reducible rfl)
    try simp only [List.set]
    refine wpAnyH_on (i := 4) (d := 51) (v := ?_) rfl rfl (by kernel_rfl) (by kernel_rfl) (by kernel_rfl) (fun _ _ _ h => h) (by kernel_rfl) (prev_bel _ _) ?_ ?_
    rotate_left
    · intro uu (pu : Prev uu _)
      go_simp
      try (with_reducible rfl)
    try simp only [List.set]
    refine wpAnyH_on (i := 5) (d := 52) (v := ?_) rfl rfl (by kernel_rfl) (by kernel_rfl) (by kernel_rfl) (fun _ _ _ h => h) (by kernel_rfl) (prev_bel _ _) ?_ ?_
    rotate_left
    · intro uu (pu : Prev uu _)
      go_simp
      try (with_reducible rfl)
    try simp only [List.set]
    refine wpAnyH_on (i := 6) (d := 53) (v := ?_) rfl rfl (by kernel_rfl) (by kernel_rfl) (by kernel_rfl) (fun _ _ _ h => h) (by kernel_rfl) (prev_bel _ _) ?_ ?_
    rotate_left
    · intro uu (pu : Prev uu _)
      go_simp
      try (with_reducible rfl)
    try simp only [List.set]
    refine wpAnyH_on (i := 9) (d := 56) (v := ?_) rfl rfl (by kernel_rfl) (by kernel_rfl) (by kernel_rfl) (fun _ _ _ h => h) (by kernel_rfl) (prev_bel _ _) ?_ ?_
    rotate_left
    · intro uu (pu : Prev uu _)
      go_simp
      try (with_reducible rfl)
    try simp only [List.set]
    refine wpAnyH_on (i := 10) (d := 57) (v := ?_) rfl rfl (by kernel_rfl) (by kernel_rfl) (by kernel_rfl) (fun _ _ _ h => h) (by kernel_rfl) (prev_bel _ _) ?_ ?_
    rotate_left
    · intro uu (pu : Prev uu _)
      go_simp
      try (with_reducible rfl)
    try simp only [List.set]
    refine wpAnyH_on (i := 11) (d := 58) (v := ?_) rfl rfl (by kernel_rfl) (by kernel_rfl) (by kernel_rfl) (fun _ _ _ h => h) (by kernel_rfl) (prev_bel _ _) ?_ ?_
    rotate_left
    · intro uu (pu : Prev uu _)
      go_simp
      try (with_reducible rfl)
    try simp only [List.set]
    refine wpAnyH_on (i := 12) (d := 59) (v := ?_) rfl rfl (by kernel_rfl) (by kernel_rfl) (by kernel_rfl) (fun _ _ _ h => h) (by kernel_rfl) (prev_bel _ _) ?_ ?_
    rotate_left
    · intro uu (pu : Prev uu _)
      go_simp
      try (with_reducible rfl)
    try simp only [List.set]
    refine wpAnyH_on (i := 14) (d := 61) (v := ?_) rfl rfl (by kernel_rfl) (by kernel_rfl) (by kernel_rfl) (fun _ _ _ h => h) (by kernel_rfl) (prev_bel _ _) ?_ ?_
    rotate_left
    · intro uu (pu : Prev uu _)
      go_simp
      try (with_reducible rfl)
    try simp only [List.set]
    refine wpAnyH_ready (rs := [3]) (by kernel_rfl) (by simp) ?_
    refine AllReadyH.cons rfl (fun K hK => ?_) AllReadyH.nil
    go_simp
    (with_reducible refine (r20_sum (c := c) hok (by omega) HTR).mono ?_)
    rintro e ux ⟨rfl, _⟩
    dsimp only
    refine hK.out _ _ (prev_bel _ _) (fun hHeld => ?_)
    clear hHeld hK K
    try dsimp only [Act.put, List.setIfInBounds_toArray, List.set_cons_zero, List.set_cons_succ]
    refine wpAnyH_ready (rs := [7]) (by kernel_rfl) (by simp) ?_
    refine AllReadyH.cons rfl (fun K hK => ?_) AllReadyH.nil
    go_simp
    (with_reducible refine (r20_sum (c := c) hok (by omega) HGR).mono ?_)
    rintro e ux ⟨rfl, _⟩
    dsimp only
    refine hK.out _ _ (prev_bel _ _) (fun hHeld => ?_)
    clear hHeld hK K
    try dsimp only [Act.put, List.setIfInBounds_toArray, List.set_cons_zero, List.set_cons_succ]
    refine wpAnyH_on (i := 8) (d := 55) (v := ?_) rfl rfl (by kernel_rfl) (by kernel_rfl) (by kernel_rfl) (fun _ _ _ h => h) (by kernel_rfl) (prev_bel _ _) ?_ ?_
    rotate_left
    · intro uu (pu : Prev uu _)
      go_simp
      try (with_reducible rfl)
    try simp only [List.set]
    refine wpAnyH_on (i := 13) (d := 60) (v := ?_) rfl rfl (by kernel_rfl) (by kernel_rfl) (by kernel_rfl) (fun _ _ _ h => h) (by kernel_rfl) (prev_bel _ _) ?_ ?_
    rotate_left
    · intro uu (pu : Prev uu _)
      go_simp
      try (with_reducible rfl)
    try simp only [List.set]
    refine wpAnyH_on (i := 15) (d := 62) (v := ?_) rfl rfl (by kernel_rfl) (by kernel_rfl) (by kernel_rfl) (fun _ _ _ h => h) (by kernel_rfl) (prev_bel _ _) ?_ ?_
    rotate_left
    · intro uu (pu : Prev uu _)
      go_simp
      try (with_reducible rfl)
    try simp only [List.set]
    refine wpAnyH_done (by kernel_rfl) ?_ _
    go_wp2_with fail
    refine HM.out.at.ret rfl (fun W hW => ?_) (Lib.hid rfl)
    obtain ⟨r0, r1, r2, r3, r4, r5, r6, r7⟩ := cells8 hW
    clear hW
    simp [results, Try.results54, go_sem, r0, r1, r2, r3, r4, r5, r6, r7]
end
end Go.Proofs.Ytphcffcecncngaa
