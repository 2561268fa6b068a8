/- The walk of the statement PointBacks. -/
import Derived.Test.YtingmabmglpmaaaPointGoes
import Derived.Test.YtingmabmglpmaaaAppendT
import Derived.Deep.DeepCutAuto
namespace Go.Proofs.Ytingmabmglpmaaa
open Go.RowKit

set_option maxRecDepth 100000 in
set_option maxHeartbeats 8000000 in
theorem pointBacks_calls (kind kk : Int) (A B C : Option Addr) (c d e' : Nat) (ts : List Tn) (zg xg : List Int) (w : World) (hk : I64 kk) (h : TensW w A c ts) (iB : IntsIn w B d zg) (iC : IntsIn w C e' xg) (lB : zg.length ≤ reach8) (lC : xg.length ≤ reach8) :
    Calls Try.prog 9 #[.agg #[.int .i64 kind, .int .i64 kk, .slice A ts.length c, .slice B zg.length d, .slice C xg.length e']] w (LawTrue w) := by
  obtain ⟨N, hN⟩ : ∃ N, ts.length = N := ⟨_, rfl⟩
  have hn := h.len
  rw [hN]
  have a : Ts w A N ts := ⟨h.rd, hN.symm⟩
  have HN := Lib.hid hN
  clear hN
  have sB : Sl w B zg.length zg := ⟨iB.rd, rfl⟩
  have sC : Sl w C xg.length xg := ⟨iC.rd, rfl⟩
  have ig : I6s xg := iC.i6
  have lg : Le xg.length e' := ⟨iC.2.1⟩
  have ik : I6 kk := ⟨hk⟩
  unfold reach8 at lB lC
  have HB : Hid (∀ t ∈ ts ++ [(⟨B, d, zg, C, e', xg⟩ : Tn)], t.zs.length ≤ 17592186043904 ∧ t.xs.length ≤ 17592186043904) := Lib.hid fun t ht => by
    simp at ht
    rcases ht with ht | rfl
    · exact h.big t ht
    · exact ⟨lB, lC⟩
  have HE : Hid (∀ t ∈ ts ++ [(⟨B, d, zg, C, e', xg⟩ : Tn)], TE w t) := Lib.hid fun t ht => by
    simp at ht
    rcases ht with ht | rfl
    · exact h.rd.elems t ht
    · exact ⟨iB.rd, iC.rd, iC.2.1, fun z hz => wf_bounds (iC.2.2.2 z hz)⟩
  clear h hk iB iC
  obtain ⟨W0, hW0⟩ : ∃ W0, W0 = w.alloc (.cells #[.int .i64 kind, .int .i64 kk, .slice A N c, .slice B zg.length d, .slice C xg.length e'] 64) := ⟨_, rfl⟩
  have pW0 : Prev W0 w := hW0 ▸ Prev.alloc _ _
  have bW0 : Bx W0 w.heap.size 64 #[.int .i64 kind, .int .i64 kk, .slice A N c, .slice B zg.length d, .slice C xg.length e'] := hW0 ▸ Bx.new
  obtain ⟨sm, hsm⟩ : ∃ sm, decide (sumT (ts ++ [(⟨B, d, zg, C, e', xg⟩ : Tn)]) ≤ 800) = sm := ⟨_, rfl⟩
  have CB := @cell_bx
  have CP := @cell_prev
  go_enter Try.func9, Try.ntmps9
  go_upto_region 1 with fail
  rw [← hW0]
  clear hW0
  go_cut [20] (fun s wx => s = .bool (!sm) ∧ Prev wx W0)
  case first =>
    refine wp_region_up W0 (by kernel_rfl) (fun ux _ => ?_)
    refine wpAnyH_on (i := 1) (d := 12) (v := ?_) rfl rfl (by kernel_rfl) (by kernel_rfl) (by kernel_rfl) (fun _ _ _ h => h) (by kernel_rfl) (prev_bel _ _) ?_ ?_
    rotate_left
    · intro uu (pu : Prev uu _)
      go_simp
      try (with_reducible rfl)
    simp only [List.set]
    refine wpAnyH_on (i := 2) (d := 13) (v := ?_) rfl rfl (by kernel_rfl) (by kernel_rfl) (by kernel_rfl) (fun _ _ _ h => h) (by kernel_rfl) (prev_bel _ _) ?_ ?_
    rotate_left
    · intro uu (pu : Prev uu _)
      go_simp
      try (with_reducible rfl)
    simp only [List.set]
    refine wpAnyH_on (i := 4) (d := 15) (v := ?_) rfl rfl (by kernel_rfl) (by kernel_rfl) (by kernel_rfl) (fun _ _ _ h => h) (by kernel_rfl) (prev_bel _ _) ?_ ?_
    rotate_left
    · intro uu (pu : Prev uu _)
      go_simp
      try (with_reducible rfl)
    simp only [List.set]
    refine wpAnyH_on (i := 5) (d := 16) (v := ?_) rfl rfl (by kernel_rfl) (by kernel_rfl) (by kernel_rfl) (fun _ _ _ h => h) (by kernel_rfl) (prev_bel _ _) ?_ ?_
    rotate_left
    · intro uu (pu : Prev uu _)
      go_simp
      try (with_reducible rfl)
    simp only [List.set]
    refine wpAnyH_ready (rs := [0, 6]) (by kernel_rfl) (by simp) ?_
    refine AllReadyH.cons rfl (fun K hK => ?_) (AllReadyH.cons rfl (fun K hK => ?_) AllReadyH.nil)
    · go_simp
      refine hK.out _ _ (prev_bel W0 _) (fun hHeld => ?_)
      clear hHeld hK K
      try dsimp only [Act.put, List.setIfInBounds_toArray, List.set_cons_zero, List.set_cons_succ]
      refine gen_boxH (fun ux _ _ => ?_)
      refine wpAnyH_ready (rs := [3, 6]) (by kernel_rfl) (by simp) ?_
      refine AllReadyH.cons rfl (fun K hK => ?_) (AllReadyH.cons rfl (fun K hK => ?_) AllReadyH.nil)
      · refine step_appendT0 (by kernel_rfl) _ _ _ rfl Try.underlying27 rfl rfl ?_ ?_
        · (have := HN.out; omega)
        intro A3 c3 w3 ho3 _
        replace ho3 := ho3.more (B' := (World.heap W0).size) later_size
        refine hK.out _ _ (prev_bel W0 _) (fun hHeld => ?_)
        clear hHeld hK K
        try dsimp only [Act.put, List.setIfInBounds_toArray, List.set_cons_zero, List.set_cons_succ]
        refine wpAnyH_ready (rs := [6]) (by kernel_rfl) (by simp) ?_
        refine AllReadyH.cons rfl (fun K hK => ?_) AllReadyH.nil
        go_simp
        refine hK.out _ _ (prev_bel W0 _) (fun hHeld => ?_)
        clear hHeld hK K
        try dsimp only [Act.put, List.setIfInBounds_toArray, List.set_cons_zero, List.set_cons_succ]
        refine gen_boxH (fun ux _ _ => ?_)
        refine wpAnyH_ready (rs := [7]) (by kernel_rfl) (by simp) ?_
        refine AllReadyH.cons rfl (fun K hK => ?_) AllReadyH.nil
        refine step_appendT (B := (World.heap W0).size) (by kernel_rfl) _ _ _ rfl Try.underlying27 HN.out.symm rfl (ho3.at) rfl ?_ (later_size (w := W0)) ?_
        · (simp; omega)
        intro A7 c7 w7 ho7 hb3 hx3
        have : Prev w7 W0 := ⟨(bel W0 _).trans hb3⟩
        have HX3 := Lib.hid hx3
        clear hb3 hx3
        refine hK.out _ _ (prev_bel W0 _) (fun hHeld => ?_)
        clear hHeld hK K
        try dsimp only [Act.put, List.setIfInBounds_toArray, List.set_cons_zero, List.set_cons_succ]
        have tz : Ts w7 A7 (ts.length + 1) (ts ++ [_]) := ⟨ho7.trd fun t ht => (HE.out t ht).below (bel w w7), by simp⟩
        refine wpAnyH_ready (rs := [8]) (by kernel_rfl) (by simp) ?_
        refine AllReadyH.cons rfl (fun K hK => ?_) AllReadyH.nil
        go_simp
        (with_reducible refine (a05_small (by simp; omega) HB).mono ?_)
        rintro e ux ⟨rfl, _⟩
        dsimp only
        refine hK.out _ _ (prev_bel W0 _) (fun hHeld => ?_)
        clear hHeld hK K
        try dsimp only [Act.put, List.setIfInBounds_toArray, List.set_cons_zero, List.set_cons_succ]
        refine wpAnyH_on (i := 9) (d := 20) (v := ?_) rfl rfl (by kernel_rfl) (by kernel_rfl) (by kernel_rfl) (fun _ _ _ h => h) (by kernel_rfl) (prev_bel _ _) ?_ ?_
        rotate_left
        · intro uu (pu : Prev uu _)
          go_simp
          try (with_reducible rfl)
        simp only [List.set]
        refine wpAnyH_done (by kernel_rfl) ?_ _
        go_wp2_with fail
        go_meet
        exact ⟨rfl, prev_bel _ _⟩
      · go_simp
        refine hK.out _ _ (prev_bel W0 _) (fun hHeld => ?_)
        clear hHeld hK K
        try dsimp only [Act.put, List.setIfInBounds_toArray, List.set_cons_zero, List.set_cons_succ]
        refine gen_boxH (fun ux _ _ => ?_)
        refine wpAnyH_ready (rs := [3]) (by kernel_rfl) (by simp) ?_
        refine AllReadyH.cons rfl (fun K hK => ?_) AllReadyH.nil
        refine step_appendT0 (by kernel_rfl) _ _ _ rfl Try.underlying27 rfl rfl ?_ ?_
        · (have := HN.out; omega)
        intro A3 c3 w3 ho3 _
        replace ho3 := ho3.more (B' := (World.heap W0).size) later_size
        refine hK.out _ _ (prev_bel W0 _) (fun hHeld => ?_)
        clear hHeld hK K
        try dsimp only [Act.put, List.setIfInBounds_toArray, List.set_cons_zero, List.set_cons_succ]
        refine wpAnyH_ready (rs := [7]) (by kernel_rfl) (by simp) ?_
        refine AllReadyH.cons rfl (fun K hK => ?_) AllReadyH.nil
        refine step_appendT (B := (World.heap W0).size) (by kernel_rfl) _ _ _ rfl Try.underlying27 HN.out.symm rfl (ho3.at) rfl ?_ (later_size (w := W0)) ?_
        · (simp; omega)
        intro A7 c7 w7 ho7 hb3 hx3
        have : Prev w7 W0 := ⟨(bel W0 _).trans hb3⟩
        have HX3 := Lib.hid hx3
        clear hb3 hx3
        refine hK.out _ _ (prev_bel W0 _) (fun hHeld => ?_)
        clear hHeld hK K
        try dsimp only [Act.put, List.setIfInBounds_toArray, List.set_cons_zero, List.set_cons_succ]
        have tz : Ts w7 A7 (ts.length + 1) (ts ++ [_]) := ⟨ho7.trd fun t ht => (HE.out t ht).below (bel w w7), by simp⟩
        refine wpAnyH_ready (rs := [8]) (by kernel_rfl) (by simp) ?_
        refine AllReadyH.cons rfl (fun K hK => ?_) AllReadyH.nil
        go_simp
        (with_reducible refine (a05_small (by simp; omega) HB).mono ?_)
        rintro e ux ⟨rfl, _⟩
        dsimp only
        refine hK.out _ _ (prev_bel W0 _) (fun hHeld => ?_)
        clear hHeld hK K
        try dsimp only [Act.put, List.setIfInBounds_toArray, List.set_cons_zero, List.set_cons_succ]
        refine wpAnyH_on (i := 9) (d := 20) (v := ?_) rfl rfl (by kernel_rfl) (by kernel_rfl) (by kernel_rfl) (fun _ _ _ h => h) (by kernel_rfl) (prev_bel _ _) ?_ ?_
        rotate_left
        · intro uu (pu : Prev uu _)
          go_simp
          try (with_reducible rfl)
        simp only [List.set]
        refine wpAnyH_done (by kernel_rfl) ?_ _
        go_wp2_with fail
        go_meet
        exact ⟨rfl, prev_bel _ _⟩
    · go_simp
      refine hK.out _ _ (prev_bel W0 _) (fun hHeld => ?_)
      clear hHeld hK K
      try dsimp only [Act.put, List.setIfInBounds_toArray, List.set_cons_zero, List.set_cons_succ]
      refine gen_boxH (fun ux _ _ => ?_)
      refine wpAnyH_ready (rs := [0]) (by kernel_rfl) (by simp) ?_
      refine AllReadyH.cons rfl (fun K hK => ?_) AllReadyH.nil
      go_simp
      refine hK.out _ _ (prev_bel W0 _) (fun hHeld => ?_)
      clear hHeld hK K
      try dsimp only [Act.put, List.setIfInBounds_toArray, List.set_cons_zero, List.set_cons_succ]
      refine gen_boxH (fun ux _ _ => ?_)
      refine wpAnyH_ready (rs := [3]) (by kernel_rfl) (by simp) ?_
      refine AllReadyH.cons rfl (fun K hK => ?_) AllReadyH.nil
      refine step_appendT0 (by kernel_rfl) _ _ _ rfl Try.underlying27 rfl rfl ?_ ?_
      · (have := HN.out; omega)
      intro A3 c3 w3 ho3 _
      replace ho3 := ho3.more (B' := (World.heap W0).size) later_size
      refine hK.out _ _ (prev_bel W0 _) (fun hHeld => ?_)
      clear hHeld hK K
      try dsimp only [Act.put, List.setIfInBounds_toArray, List.set_cons_zero, List.set_cons_succ]
      refine wpAnyH_ready (rs := [7]) (by kernel_rfl) (by simp) ?_
      refine AllReadyH.cons rfl (fun K hK => ?_) AllReadyH.nil
      refine step_appendT (B := (World.heap W0).size) (by kernel_rfl) _ _ _ rfl Try.underlying27 HN.out.symm rfl (ho3.at) rfl ?_ (later_size (w := W0)) ?_
      · (simp; omega)
      intro A7 c7 w7 ho7 hb3 hx3
      have : Prev w7 W0 := ⟨(bel W0 _).trans hb3⟩
      have HX3 := Lib.hid hx3
      clear hb3 hx3
      refine hK.out _ _ (prev_bel W0 _) (fun hHeld => ?_)
      clear hHeld hK K
      try dsimp only [Act.put, List.setIfInBounds_toArray, List.set_cons_zero, List.set_cons_succ]
      have tz : Ts w7 A7 (ts.length + 1) (ts ++ [_]) := ⟨ho7.trd fun t ht => (HE.out t ht).below (bel w w7), by simp⟩
      refine wpAnyH_ready (rs := [8]) (by kernel_rfl) (by simp) ?_
      refine AllReadyH.cons rfl (fun K hK => ?_) AllReadyH.nil
      go_simp
      (with_reducible refine (a05_small (by simp; omega) HB).mono ?_)
      rintro e ux ⟨rfl, _⟩
      dsimp only
      refine hK.out _ _ (prev_bel W0 _) (fun hHeld => ?_)
      clear hHeld hK K
      try dsimp only [Act.put, List.setIfInBounds_toArray, List.set_cons_zero, List.set_cons_succ]
      refine wpAnyH_on (i := 9) (d := 20) (v := ?_) rfl rfl (by kernel_rfl) (by kernel_rfl) (by kernel_rfl) (fun _ _ _ h => h) (by kernel_rfl) (prev_bel _ _) ?_ ?_
      rotate_left
      · intro uu (pu : Prev uu _)
        go_simp
        try (with_reducible rfl)
      simp only [List.set]
      refine wpAnyH_done (by kernel_rfl) ?_ _
      go_wp2_with fail
      go_meet
      exact ⟨rfl, prev_bel _ _⟩
  case rest =>
    obtain ⟨hs, pX⟩ := hcut
    rcases sm with _ | _
    · replace hs : _ = Value.bool true := hs
      subst hs
      go_wp2_with (first | (go_at_call 29; (try first | (with_reducible refine gen_boxK3 (fun u _ _ _ _ => ?_)) | (with_reducible refine gen_boxK2 (fun u _ _ _ => ?_)) | (with_reducible refine gen_boxK (fun u _ _ => ?_))); (with_reducible refine (a05_awake).mono ?_); rintro e u ⟨rfl, _⟩))
      go_ret
      exact ⟨rfl, bel w _⟩
    replace hs : _ = Value.bool false := hs
    subst hs
    have hsum : sumT (ts ++ [(⟨B, d, zg, C, e', xg⟩ : Tn)]) ≤ 800 := by simpa using hsm
    have hz : Hid (∀ t ∈ ts, t.zs.length ≤ 1000000) := Lib.hid fun t ht => by have := sumT_mem (ts := ts ++ [(⟨B, d, zg, C, e', xg⟩ : Tn)]) (t := t) (by simp [ht]); omega
    have hzg : zg.length ≤ 1000000 := by have := sumT_mem (ts := ts ++ [(⟨B, d, zg, C, e', xg⟩ : Tn)]) (t := ⟨B, d, zg, C, e', xg⟩) (by simp); simp only at this; omega
    clear hsum hsm
    obtain ⟨E, hE⟩ : ∃ E, goodE kind ts = E := ⟨_, rfl⟩
    by_cases h0 : E = 0
    rotate_left
    · have e0 : (E != 0) = true := by simp [h0]
      have e1 : (E == 0) = false := by simp [h0]
      clear h0
      go_wp2_with (first | (go_at_call 35; (try first | (with_reducible refine gen_boxK3 (fun u _ _ _ _ => ?_)) | (with_reducible refine gen_boxK2 (fun u _ _ _ => ?_)) | (with_reducible refine gen_boxK (fun u _ _ => ?_))); (with_reducible refine (pt_back_no hzg hz hE e0).mono ?_); rintro e u ⟨rfl, _⟩) | (go_at_call 31; (try first | (with_reducible refine gen_boxK3 (fun u _ _ _ _ => ?_)) | (with_reducible refine gen_boxK2 (fun u _ _ _ => ?_)) | (with_reducible refine gen_boxK (fun u _ _ => ?_))); (with_reducible refine (a05_good hz).mono ?_); rintro e u ⟨rfl, _⟩))
      refine wp_region_up0 (by kernel_rfl) (fun vx _ => ?_)
      refine wpAnyH_on (i := 0) (d := 39) (v := ?_) rfl rfl (by kernel_rfl) (by kernel_rfl) (by kernel_rfl) (fun _ _ _ h => h) (by kernel_rfl) (prev_bel _ _) ?_ ?_
      rotate_left
      · intro uu (pu : Prev uu _)
        go_simp
        try (with_reducible rfl)
      simp only [List.set]
      refine wpAnyH_on (i := 1) (d := 40) (v := ?_) rfl rfl (by kernel_rfl) (by kernel_rfl) (by kernel_rfl) (fun _ _ _ h => h) (by kernel_rfl) (prev_bel _ _) ?_ ?_
      rotate_left
      · intro uu (pu : Prev uu _)
        go_simp
        try (with_reducible rfl)
      simp only [List.set]
      refine wpAnyH_on (i := 2) (d := 41) (v := ?_) rfl rfl (by kernel_rfl) (by kernel_rfl) (by kernel_rfl) (fun _ _ _ h => h) (by kernel_rfl) (prev_bel _ _) ?_ ?_
      rotate_left
      · intro uu (pu : Prev uu _)
        go_simp
        try (with_reducible rfl)
      simp only [List.set]
      refine wpAnyH_off (i := 3) (d := 42) rfl rfl (by kernel_rfl) (by kernel_rfl) (by kernel_rfl) (fun _ _ _ h => h) (by kernel_rfl) (prev_bel _ _) ?_
      simp only [List.set]
      refine wpAnyH_off (i := 4) (d := 43) rfl rfl (by kernel_rfl) (by kernel_rfl) (by kernel_rfl) (fun _ _ _ h => h) (by kernel_rfl) (prev_bel _ _) ?_
      simp only [List.set]
      refine wpAnyH_off (i := 5) (d := 44) rfl rfl (by kernel_rfl) (by kernel_rfl) (by kernel_rfl) (fun _ _ _ h => h) (by kernel_rfl) (prev_bel _ _) ?_
      simp only [List.set]
      refine wpAnyH_off (i := 6) (d := 45) rfl rfl (by kernel_rfl) (by kernel_rfl) (by kernel_rfl) (fun _ _ _ h => h) (by kernel_rfl) (prev_bel _ _) ?_
      simp only [List.set]
      refine wpAnyH_off (i := 7) (d := 46) rfl rfl (by kernel_rfl) (by kernel_rfl) (by kernel_rfl) (fun _ _ _ h => h) (by kernel_rfl) (prev_bel _ _) ?_
      simp only [List.set]
      refine wpAnyH_off (i := 8) (d := 47) rfl rfl (by kernel_rfl) (by kernel_rfl) (by kernel_rfl) (fun _ _ _ h => h) (by kernel_rfl) (prev_bel _ _) ?_
      simp only [List.set]
      refine wpAnyH_off (i := 9) (d := 48) rfl rfl (by kernel_rfl) (by kernel_rfl) (by kernel_rfl) (fun _ _ _ h => h) (by kernel_rfl) (prev_bel _ _) ?_
      simp only [List.set]
      refine wpAnyH_off (i := 10) (d := 49) rfl rfl (by kernel_rfl) (by kernel_rfl) (by kernel_rfl) (fun _ _ _ h => h) (by kernel_rfl) (prev_bel _ _) ?_
      simp only [List.set]
      refine wpAnyH_off (i := 11) (d := 50) rfl rfl (by kernel_rfl) (by kernel_rfl) (by kernel_rfl) (fun _ _ _ h => h) (by kernel_rfl) (prev_bel _ _) ?_
      simp only [List.set]
      refine wpAnyH_off (i := 12) (d := 51) rfl rfl (by kernel_rfl) (by kernel_rfl) (by kernel_rfl) (fun _ _ _ h => h) (by kernel_rfl) (prev_bel _ _) ?_
      simp only [List.set]
      refine wpAnyH_off (i := 13) (d := 52) rfl rfl (by kernel_rfl) (by kernel_rfl) (by kernel_rfl) (fun _ _ _ h => h) (by kernel_rfl) (prev_bel _ _) ?_
      simp only [List.set]
      refine wpAnyH_off (i := 14) (d := 53) rfl rfl (by kernel_rfl) (by kernel_rfl) (by kernel_rfl) (fun _ _ _ h => h) (by kernel_rfl) (prev_bel _ _) ?_
      simp only [List.set]
      refine wpAnyH_off (i := 15) (d := 54) rfl rfl (by kernel_rfl) (by kernel_rfl) (by kernel_rfl) (fun _ _ _ h => h) (by kernel_rfl) (prev_bel _ _) ?_
      simp only [List.set]
      refine wpAnyH_off (i := 16) (d := 55) rfl rfl (by kernel_rfl) (by kernel_rfl) (by kernel_rfl) (fun _ _ _ h => h) (by kernel_rfl) (prev_bel _ _) ?_
      simp only [List.set]
      refine wpAnyH_off (i := 17) (d := 56) rfl rfl (by kernel_rfl) (by kernel_rfl) (by kernel_rfl) (fun _ _ _ h => h) (by kernel_rfl) (prev_bel _ _) ?_
      simp only [List.set]
      refine wpAnyH_off (i := 18) (d := 57) rfl rfl (by kernel_rfl) (by kernel_rfl) (by kernel_rfl) (fun _ _ _ h => h) (by kernel_rfl) (prev_bel _ _) ?_
      simp only [List.set]
      refine wpAnyH_on (i := 19) (d := 58) (v := ?_) rfl rfl (by kernel_rfl) (by kernel_rfl) (by kernel_rfl) (fun _ _ _ h => h) (by kernel_rfl) (prev_bel _ _) ?_ ?_
      rotate_left
      · intro uu (pu : Prev uu _)
        go_simp
        try (with_reducible rfl)
      simp only [List.set]
      refine wpAnyH_done (by kernel_rfl) ?_ _
      go_wp2_with (first | (go_at_call 29; (try first | (with_reducible refine gen_boxK3 (fun u _ _ _ _ => ?_)) | (with_reducible refine gen_boxK2 (fun u _ _ _ => ?_)) | (with_reducible refine gen_boxK (fun u _ _ => ?_))); (with_reducible refine (a05_awake).mono ?_); rintro e u ⟨rfl, _⟩))
      go_ret
      exact ⟨rfl, bel w _⟩
    subst h0
    obtain ⟨hn1, hn2, -, hall⟩ := good_nat hE
    rw [HN.out] at hn1 hn2
    replace hn1 : 0 < N := hn1
    obtain ⟨b, o, A0, c0, z0, B0, d0, x0, rfl, ob, q0, q1, s0, t0, hd0, i0, ht0⟩ := a.get (k := 0) hn1
    simp only [Nat.zero_mul, Nat.add_zero] at q0 q1
    have hz0 : z0.length ≤ 1000000 := hz.out _ (List.mem_of_getElem? ht0.out)
    have HX0 : Hid (xs0 ts = x0) := Lib.hid (by simp [xs0, ht0.out])
    have HZ0 : Hid (zs0 ts = z0) := Lib.hid (by simp [zs0, ht0.out])
    have HI := Lib.hid fun i => sec_i6 a.rd i
    have hr0 := (hall _ (List.mem_of_getElem? ht0.out)).1
    have lx := (right_len hr0).1
    simp only at lx hr0
    have HR0 := Lib.hid hr0
    clear hall hr0
    rcases hr : tRightB zg xg with _ | _
    · go_wp2_with (first | (go_at_call 35; (try first | (with_reducible refine gen_boxK3 (fun u _ _ _ _ => ?_)) | (with_reducible refine gen_boxK2 (fun u _ _ _ => ?_)) | (with_reducible refine gen_boxK (fun u _ _ => ?_))); (with_reducible refine (pt_back_shape hzg hz hE (by simp [hr])).mono ?_); rintro e u ⟨rfl, _⟩) | (go_at_call 31; (try first | (with_reducible refine gen_boxK3 (fun u _ _ _ _ => ?_)) | (with_reducible refine gen_boxK2 (fun u _ _ _ => ?_)) | (with_reducible refine gen_boxK (fun u _ _ => ?_))); (with_reducible refine (a05_good hz).mono ?_); rintro e u ⟨rfl, _⟩))
      refine wp_region_up0 (by kernel_rfl) (fun vx _ => ?_)
      refine wpAnyH_on (i := 0) (d := 39) (v := ?_) rfl rfl (by kernel_rfl) (by kernel_rfl) (by kernel_rfl) (fun _ _ _ h => h) (by kernel_rfl) (prev_bel _ _) ?_ ?_
      rotate_left
      · intro uu (pu : Prev uu _)
        go_simp
        try (with_reducible rfl)
      simp only [List.set]
      refine wpAnyH_on (i := 1) (d := 40) (v := ?_) rfl rfl (by kernel_rfl) (by kernel_rfl) (by kernel_rfl) (fun _ _ _ h => h) (by kernel_rfl) (prev_bel _ _) ?_ ?_
      rotate_left
      · intro uu (pu : Prev uu _)
        go_simp
        try (with_reducible rfl)
      simp only [List.set]
      refine wpAnyH_on (i := 2) (d := 41) (v := ?_) rfl rfl (by kernel_rfl) (by kernel_rfl) (by kernel_rfl) (fun _ _ _ h => h) (by kernel_rfl) (prev_bel _ _) ?_ ?_
      rotate_left
      · intro uu (pu : Prev uu _)
        go_simp
        try (with_reducible rfl)
      simp only [List.set]
      refine wpAnyH_on (i := 3) (d := 42) (v := ?_) rfl rfl (by kernel_rfl) (by kernel_rfl) (by kernel_rfl) (fun _ _ _ h => h) (by kernel_rfl) (prev_bel _ _) ?_ ?_
      rotate_left
      · intro uu (pu : Prev uu _)
        go_simp
        try (with_reducible rfl)
      simp only [List.set]
      refine wpAnyH_on (i := 4) (d := 43) (v := ?_) rfl rfl (by kernel_rfl) (by kernel_rfl) (by kernel_rfl) (fun _ _ _ h => h) (by kernel_rfl) (prev_bel _ _) ?_ ?_
      rotate_left
      · intro uu (pu : Prev uu _)
        go_simp
        try (with_reducible rfl)
      simp only [List.set]
      refine wpAnyH_ready (rs := [5]) (by kernel_rfl) (by simp) ?_
      refine AllReadyH.cons rfl (fun K hK => ?_) AllReadyH.nil
      go_simp
      (with_reducible refine (a05_right (by omega)).mono ?_)
      rintro e vx ⟨rfl, _⟩
      dsimp only
      refine hK.out _ _ (prev_bel _ _) (fun hHeld => ?_)
      clear hHeld hK K
      try dsimp only [Act.put, List.setIfInBounds_toArray, List.set_cons_zero, List.set_cons_succ]
      refine wpAnyH_on (i := 6) (d := 45) (v := ?_) rfl rfl (by kernel_rfl) (by kernel_rfl) (by kernel_rfl) (fun _ _ _ h => h) (by kernel_rfl) (prev_bel _ _) ?_ ?_
      rotate_left
      · intro uu (pu : Prev uu _)
        go_simp
        try (with_reducible rfl)
      simp only [List.set]
      refine wpAnyH_on (i := 7) (d := 46) (v := ?_) rfl rfl (by kernel_rfl) (by kernel_rfl) (by kernel_rfl) (fun _ _ _ h => h) (by kernel_rfl) (prev_bel _ _) ?_ ?_
      rotate_left
      · intro uu (pu : Prev uu _)
        go_simp
        try (with_reducible rfl)
      simp only [List.set]
      refine wpAnyH_off (i := 8) (d := 47) rfl rfl (by kernel_rfl) (by kernel_rfl) (by kernel_rfl) (fun _ _ _ h => h) (by kernel_rfl) (prev_bel _ _) ?_
      simp only [List.set]
      refine wpAnyH_off (i := 9) (d := 48) rfl rfl (by kernel_rfl) (by kernel_rfl) (by kernel_rfl) (fun _ _ _ h => h) (by kernel_rfl) (prev_bel _ _) ?_
      simp only [List.set]
      refine wpAnyH_off (i := 10) (d := 49) rfl rfl (by kernel_rfl) (by kernel_rfl) (by kernel_rfl) (fun _ _ _ h => h) (by kernel_rfl) (prev_bel _ _) ?_
      simp only [List.set]
      refine wpAnyH_off (i := 11) (d := 50) rfl rfl (by kernel_rfl) (by kernel_rfl) (by kernel_rfl) (fun _ _ _ h => h) (by kernel_rfl) (prev_bel _ _) ?_
      simp only [List.set]
      refine wpAnyH_off (i := 12) (d := 51) rfl rfl (by kernel_rfl) (by kernel_rfl) (by kernel_rfl) (fun _ _ _ h => h) (by kernel_rfl) (prev_bel _ _) ?_
      simp only [List.set]
      refine wpAnyH_off (i := 13) (d := 52) rfl rfl (by kernel_rfl) (by kernel_rfl) (by kernel_rfl) (fun _ _ _ h => h) (by kernel_rfl) (prev_bel _ _) ?_
      simp only [List.set]
      refine wpAnyH_off (i := 14) (d := 53) rfl rfl (by kernel_rfl) (by kernel_rfl) (by kernel_rfl) (fun _ _ _ h => h) (by kernel_rfl) (prev_bel _ _) ?_
      simp only [List.set]
      refine wpAnyH_off (i := 15) (d := 54) rfl rfl (by kernel_rfl) (by kernel_rfl) (by kernel_rfl) (fun _ _ _ h => h) (by kernel_rfl) (prev_bel _ _) ?_
      simp only [List.set]
      refine wpAnyH_off (i := 16) (d := 55) rfl rfl (by kernel_rfl) (by kernel_rfl) (by kernel_rfl) (fun _ _ _ h => h) (by kernel_rfl) (prev_bel _ _) ?_
      simp only [List.set]
      refine wpAnyH_off (i := 17) (d := 56) rfl rfl (by kernel_rfl) (by kernel_rfl) (by kernel_rfl) (fun _ _ _ h => h) (by kernel_rfl) (prev_bel _ _) ?_
      simp only [List.set]
      refine wpAnyH_on (i := 18) (d := 57) (v := ?_) rfl rfl (by kernel_rfl) (by kernel_rfl) (by kernel_rfl) (fun _ _ _ h => h) (by kernel_rfl) (prev_bel _ _) ?_ ?_
      rotate_left
      · intro uu (pu : Prev uu _)
        go_simp
        try (with_reducible rfl)
      simp only [List.set]
      refine wpAnyH_on (i := 19) (d := 58) (v := ?_) rfl rfl (by kernel_rfl) (by kernel_rfl) (by kernel_rfl) (fun _ _ _ h => h) (by kernel_rfl) (prev_bel _ _) ?_ ?_
      rotate_left
      · intro uu (pu : Prev uu _)
        go_simp
        try (with_reducible rfl)
      simp only [List.set]
      refine wpAnyH_done (by kernel_rfl) ?_ _
      go_wp2_with (first | (go_at_call 29; (try first | (with_reducible refine gen_boxK3 (fun u _ _ _ _ => ?_)) | (with_reducible refine gen_boxK2 (fun u _ _ _ => ?_)) | (with_reducible refine gen_boxK (fun u _ _ => ?_))); (with_reducible refine (a05_awake).mono ?_); rintro e u ⟨rfl, _⟩))
      go_ret
      exact ⟨rfl, bel w _⟩
    rcases hs : decide (zg = z0) with _ | _
    · go_wp2_with (first | (go_at_call 35; (try first | (with_reducible refine gen_boxK3 (fun u _ _ _ _ => ?_)) | (with_reducible refine gen_boxK2 (fun u _ _ _ => ?_)) | (with_reducible refine gen_boxK (fun u _ _ => ?_))); (with_reducible refine (pt_back_shape hzg hz hE (by rw [HZ0.out, hs]; simp)).mono ?_); rintro e u ⟨rfl, _⟩) | (go_at_call 31; (try first | (with_reducible refine gen_boxK3 (fun u _ _ _ _ => ?_)) | (with_reducible refine gen_boxK2 (fun u _ _ _ => ?_)) | (with_reducible refine gen_boxK (fun u _ _ => ?_))); (with_reducible refine (a05_good hz).mono ?_); rintro e u ⟨rfl, _⟩))
      refine wp_region_up0 (by kernel_rfl) (fun vx _ => ?_)
      refine wpAnyH_on (i := 0) (d := 39) (v := ?_) rfl rfl (by kernel_rfl) (by kernel_rfl) (by kernel_rfl) (fun _ _ _ h => h) (by kernel_rfl) (prev_bel _ _) ?_ ?_
      rotate_left
      · intro uu (pu : Prev uu _)
        go_simp
        try (with_reducible rfl)
      simp only [List.set]
      refine wpAnyH_on (i := 1) (d := 40) (v := ?_) rfl rfl (by kernel_rfl) (by kernel_rfl) (by kernel_rfl) (fun _ _ _ h => h) (by kernel_rfl) (prev_bel _ _) ?_ ?_
      rotate_left
      · intro uu (pu : Prev uu _)
        go_simp
        try (with_reducible rfl)
      simp only [List.set]
      refine wpAnyH_on (i := 2) (d := 41) (v := ?_) rfl rfl (by kernel_rfl) (by kernel_rfl) (by kernel_rfl) (fun _ _ _ h => h) (by kernel_rfl) (prev_bel _ _) ?_ ?_
      rotate_left
      · intro uu (pu : Prev uu _)
        go_simp
        try (with_reducible rfl)
      simp only [List.set]
      refine wpAnyH_on (i := 3) (d := 42) (v := ?_) rfl rfl (by kernel_rfl) (by kernel_rfl) (by kernel_rfl) (fun _ _ _ h => h) (by kernel_rfl) (prev_bel _ _) ?_ ?_
      rotate_left
      · intro uu (pu : Prev uu _)
        go_simp
        try (with_reducible rfl)
      simp only [List.set]
      refine wpAnyH_on (i := 4) (d := 43) (v := ?_) rfl rfl (by kernel_rfl) (by kernel_rfl) (by kernel_rfl) (fun _ _ _ h => h) (by kernel_rfl) (prev_bel _ _) ?_ ?_
      rotate_left
      · intro uu (pu : Prev uu _)
        go_simp
        try (with_reducible rfl)
      simp only [List.set]
      refine wpAnyH_ready (rs := [5]) (by kernel_rfl) (by simp) ?_
      refine AllReadyH.cons rfl (fun K hK => ?_) AllReadyH.nil
      go_simp
      (with_reducible refine (a05_right (by omega)).mono ?_)
      rintro e vx ⟨rfl, _⟩
      dsimp only
      refine hK.out _ _ (prev_bel _ _) (fun hHeld => ?_)
      clear hHeld hK K
      try dsimp only [Act.put, List.setIfInBounds_toArray, List.set_cons_zero, List.set_cons_succ]
      refine wpAnyH_on (i := 6) (d := 45) (v := ?_) rfl rfl (by kernel_rfl) (by kernel_rfl) (by kernel_rfl) (fun _ _ _ h => h) (by kernel_rfl) (prev_bel _ _) ?_ ?_
      rotate_left
      · intro uu (pu : Prev uu _)
        go_simp
        try (with_reducible rfl)
      simp only [List.set]
      refine wpAnyH_on (i := 7) (d := 46) (v := ?_) rfl rfl (by kernel_rfl) (by kernel_rfl) (by kernel_rfl) (fun _ _ _ h => h) (by kernel_rfl) (prev_bel _ _) ?_ ?_
      rotate_left
      · intro uu (pu : Prev uu _)
        go_simp
        try (with_reducible rfl)
      simp only [List.set]
      refine wpAnyH_on (i := 8) (d := 47) (v := ?_) rfl rfl (by kernel_rfl) (by kernel_rfl) (by kernel_rfl) (fun _ _ _ h => h) (by kernel_rfl) (prev_bel _ _) ?_ ?_
      rotate_left
      · intro uu (pu : Prev uu _)
        go_simp
        try (with_reducible rfl)
      simp only [List.set]
      refine wpAnyH_on (i := 9) (d := 48) (v := ?_) rfl rfl (by kernel_rfl) (by kernel_rfl) (by kernel_rfl) (fun _ _ _ h => h) (by kernel_rfl) (prev_bel _ _) ?_ ?_
      rotate_left
      · intro uu (pu : Prev uu _)
        go_simp
        try (with_reducible rfl)
      simp only [List.set]
      refine wpAnyH_on (i := 10) (d := 49) (v := ?_) rfl rfl (by kernel_rfl) (by kernel_rfl) (by kernel_rfl) (fun _ _ _ h => h) (by kernel_rfl) (prev_bel _ _) ?_ ?_
      rotate_left
      · intro uu (pu : Prev uu _)
        go_simp
        try (with_reducible rfl)
      simp only [List.set]
      refine wpAnyH_on (i := 11) (d := 50) (v := ?_) rfl rfl (by kernel_rfl) (by kernel_rfl) (by kernel_rfl) (fun _ _ _ h => h) (by kernel_rfl) (prev_bel _ _) ?_ ?_
      rotate_left
      · intro uu (pu : Prev uu _)
        go_simp
        try (with_reducible rfl)
      simp only [List.set]
      refine wpAnyH_on (i := 12) (d := 51) (v := ?_) rfl rfl (by kernel_rfl) (by kernel_rfl) (by kernel_rfl) (fun _ _ _ h => h) (by kernel_rfl) (prev_bel _ _) ?_ ?_
      rotate_left
      · intro uu (pu : Prev uu _)
        go_simp
        try (with_reducible rfl)
      simp only [List.set]
      refine wpAnyH_on (i := 13) (d := 52) (v := ?_) rfl rfl (by kernel_rfl) (by kernel_rfl) (by kernel_rfl) (fun _ _ _ h => h) (by kernel_rfl) (prev_bel _ _) ?_ ?_
      rotate_left
      · intro uu (pu : Prev uu _)
        go_simp
        try (with_reducible rfl)
      simp only [List.set]
      refine wpAnyH_on (i := 14) (d := 53) (v := ?_) rfl rfl (by kernel_rfl) (by kernel_rfl) (by kernel_rfl) (fun _ _ _ h => h) (by kernel_rfl) (prev_bel _ _) ?_ ?_
      rotate_left
      · intro uu (pu : Prev uu _)
        go_simp
        try (with_reducible rfl)
      simp only [List.set]
      refine wpAnyH_on (i := 15) (d := 54) (v := ?_) rfl rfl (by kernel_rfl) (by kernel_rfl) (by kernel_rfl) (fun _ _ _ h => h) (by kernel_rfl) (prev_bel _ _) ?_ ?_
      rotate_left
      · intro uu (pu : Prev uu _)
        go_simp
        try (with_reducible rfl)
      simp only [List.set]
      refine wpAnyH_ready (rs := [16]) (by kernel_rfl) (by simp) ?_
      refine AllReadyH.cons rfl (fun K hK => ?_) AllReadyH.nil
      go_simp
      (with_reducible refine (a03_same (by omega) (by omega)).mono ?_)
      rintro e vx ⟨rfl, _⟩
      dsimp only
      refine hK.out _ _ (prev_bel _ _) (fun hHeld => ?_)
      clear hHeld hK K
      try dsimp only [Act.put, List.setIfInBounds_toArray, List.set_cons_zero, List.set_cons_succ]
      refine wpAnyH_on (i := 17) (d := 56) (v := ?_) rfl rfl (by kernel_rfl) (by kernel_rfl) (by kernel_rfl) (fun _ _ _ h => h) (by kernel_rfl) (prev_bel _ _) ?_ ?_
      rotate_left
      · intro uu (pu : Prev uu _)
        go_simp
        try (with_reducible rfl)
      simp only [List.set]
      refine wpAnyH_on (i := 18) (d := 57) (v := ?_) rfl rfl (by kernel_rfl) (by kernel_rfl) (by kernel_rfl) (fun _ _ _ h => h) (by kernel_rfl) (prev_bel _ _) ?_ ?_
      rotate_left
      · intro uu (pu : Prev uu _)
        go_simp
        try (with_reducible rfl)
      simp only [List.set]
      refine wpAnyH_on (i := 19) (d := 58) (v := ?_) rfl rfl (by kernel_rfl) (by kernel_rfl) (by kernel_rfl) (fun _ _ _ h => h) (by kernel_rfl) (prev_bel _ _) ?_ ?_
      rotate_left
      · intro uu (pu : Prev uu _)
        go_simp
        try (with_reducible rfl)
      simp only [List.set]
      refine wpAnyH_done (by kernel_rfl) ?_ _
      go_wp2_with (first | (go_at_call 29; (try first | (with_reducible refine gen_boxK3 (fun u _ _ _ _ => ?_)) | (with_reducible refine gen_boxK2 (fun u _ _ _ => ?_)) | (with_reducible refine gen_boxK (fun u _ _ => ?_))); (with_reducible refine (a05_awake).mono ?_); rintro e u ⟨rfl, _⟩))
      go_ret
      exact ⟨rfl, bel w _⟩
    obtain rfl : zg = z0 := of_decide_eq_true hs
    clear hs
    have HGL : Hid (xg.length = x0.length) := Lib.hid (same_len hr HR0.out)
    obtain ⟨X, HX⟩ : ∃ X : List Int, Hid (X = bkX kind kk ts xg (xs0 ts).length) := ⟨_, Lib.hid rfl⟩
    have HXL : Hid (X.length = x0.length) := Lib.hid (by rw [HX.out, bkX_length, HX0.out])
    have e1 : ((X.length : Int) != (xg.length : Int)) = false := by simp [HXL.out, HGL.out]
    have lX : X.length ≤ 65536 := by rw [HXL.out]; exact lx
    have lG : xg.length ≤ 65536 := by rw [HGL.out]; exact lx
    rcases (by omega : N = 1 ∨ N = 2) with rfl | rfl
    · go_wp2_with (first | (go_at_call 35; (try first | (with_reducible refine gen_boxK3 (fun u _ _ _ _ => ?_)) | (with_reducible refine gen_boxK2 (fun u _ _ _ => ?_)) | (with_reducible refine gen_boxK (fun u _ _ => ?_))); (with_reducible refine (pt_back_one hzg hz hE hr HZ0.out.symm (Lib.hid HZ0.out.symm) HX).mono ?_); rintro e u ⟨G, g, g', rfl, hg', kG, oS, oX, _⟩) | (go_at_call 31; (try first | (with_reducible refine gen_boxK3 (fun u _ _ _ _ => ?_)) | (with_reducible refine gen_boxK2 (fun u _ _ _ => ?_)) | (with_reducible refine gen_boxK (fun u _ _ => ?_))); (with_reducible refine (a05_good hz).mono ?_); rintro e u ⟨rfl, _⟩))
      have sS : Sl _ (some ⟨g, 0, none⟩) zg.length zg := ⟨oS.rd, rfl⟩
      have ogX : Old g' _ := ⟨oX.lt⟩
      refine wp_region_up0 (by kernel_rfl) (fun vx _ => ?_)
      refine wpAnyH_on (i := 0) (d := 39) (v := ?_) rfl rfl (by kernel_rfl) (by kernel_rfl) (by kernel_rfl) (fun _ _ _ h => h) (by kernel_rfl) (prev_bel _ _) ?_ ?_
      rotate_left
      · intro uu (pu : Prev uu _)
        go_simp
        try (with_reducible rfl)
      simp only [List.set]
      refine wpAnyH_on (i := 1) (d := 40) (v := ?_) rfl rfl (by kernel_rfl) (by kernel_rfl) (by kernel_rfl) (fun _ _ _ h => h) (by kernel_rfl) (prev_bel _ _) ?_ ?_
      rotate_left
      · intro uu (pu : Prev uu _)
        go_simp
        try (with_reducible rfl)
      simp only [List.set]
      refine wpAnyH_on (i := 2) (d := 41) (v := ?_) rfl rfl (by kernel_rfl) (by kernel_rfl) (by kernel_rfl) (fun _ _ _ h => h) (by kernel_rfl) (prev_bel _ _) ?_ ?_
      rotate_left
      · intro uu (pu : Prev uu _)
        go_simp
        try (with_reducible rfl)
      simp only [List.set]
      refine wpAnyH_on (i := 3) (d := 42) (v := ?_) rfl rfl (by kernel_rfl) (by kernel_rfl) (by kernel_rfl) (fun _ _ _ h => h) (by kernel_rfl) (prev_bel _ _) ?_ ?_
      rotate_left
      · intro uu (pu : Prev uu _)
        go_simp
        try (with_reducible rfl)
      simp only [List.set]
      refine wpAnyH_on (i := 4) (d := 43) (v := ?_) rfl rfl (by kernel_rfl) (by kernel_rfl) (by kernel_rfl) (fun _ _ _ h => h) (by kernel_rfl) (prev_bel _ _) ?_ ?_
      rotate_left
      · intro uu (pu : Prev uu _)
        go_simp
        try (with_reducible rfl)
      simp only [List.set]
      refine wpAnyH_ready (rs := [5]) (by kernel_rfl) (by simp) ?_
      refine AllReadyH.cons rfl (fun K hK => ?_) AllReadyH.nil
      go_simp
      (with_reducible refine (a05_right (by omega)).mono ?_)
      rintro e vx ⟨rfl, _⟩
      dsimp only
      refine hK.out _ _ (prev_bel _ _) (fun hHeld => ?_)
      clear hHeld hK K
      try dsimp only [Act.put, List.setIfInBounds_toArray, List.set_cons_zero, List.set_cons_succ]
      refine wpAnyH_on (i := 6) (d := 45) (v := ?_) rfl rfl (by kernel_rfl) (by kernel_rfl) (by kernel_rfl) (fun _ _ _ h => h) (by kernel_rfl) (prev_bel _ _) ?_ ?_
      rotate_left
      · intro uu (pu : Prev uu _)
        go_simp
        try (with_reducible rfl)
      simp only [List.set]
      refine wpAnyH_on (i := 7) (d := 46) (v := ?_) rfl rfl (by kernel_rfl) (by kernel_rfl) (by kernel_rfl) (fun _ _ _ h => h) (by kernel_rfl) (prev_bel _ _) ?_ ?_
      rotate_left
      · intro uu (pu : Prev uu _)
        go_simp
        try (with_reducible rfl)
      simp only [List.set]
      refine wpAnyH_on (i := 8) (d := 47) (v := ?_) rfl rfl (by kernel_rfl) (by kernel_rfl) (by kernel_rfl) (fun _ _ _ h => h) (by kernel_rfl) (prev_bel _ _) ?_ ?_
      rotate_left
      · intro uu (pu : Prev uu _)
        go_simp
        try (with_reducible rfl)
      simp only [List.set]
      refine wpAnyH_on (i := 9) (d := 48) (v := ?_) rfl rfl (by kernel_rfl) (by kernel_rfl) (by kernel_rfl) (fun _ _ _ h => h) (by kernel_rfl) (prev_bel _ _) ?_ ?_
      rotate_left
      · intro uu (pu : Prev uu _)
        go_simp
        try (with_reducible rfl)
      simp only [List.set]
      refine wpAnyH_on (i := 10) (d := 49) (v := ?_) rfl rfl (by kernel_rfl) (by kernel_rfl) (by kernel_rfl) (fun _ _ _ h => h) (by kernel_rfl) (prev_bel _ _) ?_ ?_
      rotate_left
      · intro uu (pu : Prev uu _)
        go_simp
        try (with_reducible rfl)
      simp only [List.set]
      refine wpAnyH_on (i := 11) (d := 50) (v := ?_) rfl rfl (by kernel_rfl) (by kernel_rfl) (by kernel_rfl) (fun _ _ _ h => h) (by kernel_rfl) (prev_bel _ _) ?_ ?_
      rotate_left
      · intro uu (pu : Prev uu _)
        go_simp
        try (with_reducible rfl)
      simp only [List.set]
      refine wpAnyH_on (i := 12) (d := 51) (v := ?_) rfl rfl (by kernel_rfl) (by kernel_rfl) (by kernel_rfl) (fun _ _ _ h => h) (by kernel_rfl) (prev_bel _ _) ?_ ?_
      rotate_left
      · intro uu (pu : Prev uu _)
        go_simp
        try (with_reducible rfl)
      simp only [List.set]
      refine wpAnyH_on (i := 13) (d := 52) (v := ?_) rfl rfl (by kernel_rfl) (by kernel_rfl) (by kernel_rfl) (fun _ _ _ h => h) (by kernel_rfl) (prev_bel _ _) ?_ ?_
      rotate_left
      · intro uu (pu : Prev uu _)
        go_simp
        try (with_reducible rfl)
      simp only [List.set]
      refine wpAnyH_on (i := 14) (d := 53) (v := ?_) rfl rfl (by kernel_rfl) (by kernel_rfl) (by kernel_rfl) (fun _ _ _ h => h) (by kernel_rfl) (prev_bel _ _) ?_ ?_
      rotate_left
      · intro uu (pu : Prev uu _)
        go_simp
        try (with_reducible rfl)
      simp only [List.set]
      refine wpAnyH_on (i := 15) (d := 54) (v := ?_) rfl rfl (by kernel_rfl) (by kernel_rfl) (by kernel_rfl) (fun _ _ _ h => h) (by kernel_rfl) (prev_bel _ _) ?_ ?_
      rotate_left
      · intro uu (pu : Prev uu _)
        go_simp
        try (with_reducible rfl)
      simp only [List.set]
      refine wpAnyH_ready (rs := [16]) (by kernel_rfl) (by simp) ?_
      refine AllReadyH.cons rfl (fun K hK => ?_) AllReadyH.nil
      go_simp
      (with_reducible refine (a03_sameT (by omega) (by omega)).mono ?_)
      rintro e vx ⟨rfl, _⟩
      dsimp only
      refine hK.out _ _ (prev_bel _ _) (fun hHeld => ?_)
      clear hHeld hK K
      try dsimp only [Act.put, List.setIfInBounds_toArray, List.set_cons_zero, List.set_cons_succ]
      refine wpAnyH_on (i := 17) (d := 56) (v := ?_) rfl rfl (by kernel_rfl) (by kernel_rfl) (by kernel_rfl) (fun _ _ _ h => h) (by kernel_rfl) (prev_bel _ _) ?_ ?_
      rotate_left
      · intro uu (pu : Prev uu _)
        go_simp
        try (with_reducible rfl)
      simp only [List.set]
      refine wpAnyH_on (i := 18) (d := 57) (v := ?_) rfl rfl (by kernel_rfl) (by kernel_rfl) (by kernel_rfl) (fun _ _ _ h => h) (by kernel_rfl) (prev_bel _ _) ?_ ?_
      rotate_left
      · intro uu (pu : Prev uu _)
        go_simp
        try (with_reducible rfl)
      simp only [List.set]
      refine wpAnyH_on (i := 19) (d := 58) (v := ?_) rfl rfl (by kernel_rfl) (by kernel_rfl) (by kernel_rfl) (fun _ _ _ h => h) (by kernel_rfl) (prev_bel _ _) ?_ ?_
      rotate_left
      · intro uu (pu : Prev uu _)
        go_simp
        try (with_reducible rfl)
      simp only [List.set]
      refine wpAnyH_done (by kernel_rfl) ?_ _
      go_wp2_with fail
      refine wp_loop_rounds 2 ?_
      rw [rounds_succ]
      go_wp2_with fail
      refine wp_region_up0 (by kernel_rfl) (fun vy _ => ?_)
      refine wpAnyH_on (i := 0) (d := 87) (v := ?_) rfl rfl (by kernel_rfl) (by kernel_rfl) (by kernel_rfl) (fun _ _ _ h => h) (by kernel_rfl) (prev_bel _ _) ?_ ?_
      rotate_left
      · intro uu (pu : Prev uu _)
        go_simp
        try (with_reducible rfl)
      simp only [List.set]
      refine wpAnyH_on (i := 1) (d := 88) (v := ?_) rfl rfl (by kernel_rfl) (by kernel_rfl) (by kernel_rfl) (fun _ _ _ h => h) (by kernel_rfl) (prev_bel _ _) ?_ ?_
      rotate_left
      · intro uu (pu : Prev uu _)
        go_simp
        try (with_reducible rfl)
      simp only [List.set]
      refine wpAnyH_on (i := 2) (d := 89) (v := ?_) rfl rfl (by kernel_rfl) (by kernel_rfl) (by kernel_rfl) (fun _ _ _ h => h) (by kernel_rfl) (prev_bel _ _) ?_ ?_
      rotate_left
      · intro uu (pu : Prev uu _)
        go_simp
        try (with_reducible rfl)
      simp only [List.set]
      refine wpAnyH_on (i := 3) (d := 90) (v := ?_) rfl rfl (by kernel_rfl) (by kernel_rfl) (by kernel_rfl) (fun _ _ _ h => h) (by kernel_rfl) (prev_bel _ _) ?_ ?_
      rotate_left
      · intro uu (pu : Prev uu _)
        go_simp
        try (with_reducible rfl)
      simp only [List.set]
      refine wpAnyH_on (i := 4) (d := 91) (v := ?_) rfl rfl (by kernel_rfl) (by kernel_rfl) (by kernel_rfl) (fun _ _ _ h => h) (by kernel_rfl) (prev_bel _ _) ?_ ?_
      rotate_left
      · intro uu (pu : Prev uu _)
        go_simp
        try (with_reducible rfl)
      simp only [List.set]
      refine wpAnyH_on (i := 5) (d := 92) (v := ?_) rfl rfl (by kernel_rfl) (by kernel_rfl) (by kernel_rfl) (fun _ _ _ h => h) (by kernel_rfl) (prev_bel _ _) ?_ ?_
      rotate_left
      · intro uu (pu : Prev uu _)
        go_simp
        try (with_reducible rfl)
      simp only [List.set]
      refine wpAnyH_on (i := 6) (d := 93) (v := ?_) rfl rfl (by kernel_rfl) (by kernel_rfl) (by kernel_rfl) (fun _ _ _ h => h) (by kernel_rfl) (prev_bel _ _) ?_ ?_
      rotate_left
      · intro uu (pu : Prev uu _)
        go_simp
        try (with_reducible rfl)
      simp only [List.set]
      refine wpAnyH_on (i := 7) (d := 94) (v := ?_) rfl rfl (by kernel_rfl) (by kernel_rfl) (by kernel_rfl) (fun _ _ _ h => h) (by kernel_rfl) (prev_bel _ _) ?_ ?_
      rotate_left
      · intro uu (pu : Prev uu _)
        go_simp
        try (with_reducible rfl)
      simp only [List.set]
      refine wpAnyH_ready (rs := [8]) (by kernel_rfl) (by simp) ?_
      refine AllReadyH.cons rfl (fun K hK => ?_) AllReadyH.nil
      go_simp
      (with_reducible refine (aS_equalT (by omega) (by omega)).mono ?_)
      rintro e vy ⟨rfl, _⟩
      dsimp only
      refine hK.out _ _ (prev_bel _ _) (fun hHeld => ?_)
      clear hHeld hK K
      try dsimp only [Act.put, List.setIfInBounds_toArray, List.set_cons_zero, List.set_cons_succ]
      refine wpAnyH_on (i := 9) (d := 96) (v := ?_) rfl rfl (by kernel_rfl) (by kernel_rfl) (by kernel_rfl) (fun _ _ _ h => h) (by kernel_rfl) (prev_bel _ _) ?_ ?_
      rotate_left
      · intro uu (pu : Prev uu _)
        go_simp
        try (with_reducible rfl)
      simp only [List.set]
      refine wpAnyH_on (i := 10) (d := 97) (v := ?_) rfl rfl (by kernel_rfl) (by kernel_rfl) (by kernel_rfl) (fun _ _ _ h => h) (by kernel_rfl) (prev_bel _ _) ?_ ?_
      rotate_left
      · intro uu (pu : Prev uu _)
        go_simp
        try (with_reducible rfl)
      simp only [List.set]
      refine wpAnyH_on (i := 11) (d := 98) (v := ?_) rfl rfl (by kernel_rfl) (by kernel_rfl) (by kernel_rfl) (fun _ _ _ h => h) (by kernel_rfl) (prev_bel _ _) ?_ ?_
      rotate_left
      · intro uu (pu : Prev uu _)
        go_simp
        try (with_reducible rfl)
      simp only [List.set]
      refine wpAnyH_on (i := 12) (d := 99) (v := ?_) rfl rfl (by kernel_rfl) (by kernel_rfl) (by kernel_rfl) (fun _ _ _ h => h) (by kernel_rfl) (prev_bel _ _) ?_ ?_
      rotate_left
      · intro uu (pu : Prev uu _)
        go_simp
        try (with_reducible rfl)
      simp only [List.set]
      refine wpAnyH_on (i := 13) (d := 100) (v := ?_) rfl rfl (by kernel_rfl) (by kernel_rfl) (by kernel_rfl) (fun _ _ _ h => h) (by kernel_rfl) (prev_bel _ _) ?_ ?_
      rotate_left
      · intro uu (pu : Prev uu _)
        go_simp
        try (with_reducible rfl)
      simp only [List.set]
      refine wpAnyH_on (i := 14) (d := 101) (v := ?_) rfl rfl (by kernel_rfl) (by kernel_rfl) (by kernel_rfl) (fun _ _ _ h => h) (by kernel_rfl) (prev_bel _ _) ?_ ?_
      rotate_left
      · intro uu (pu : Prev uu _)
        go_simp
        try (with_reducible rfl)
      simp only [List.set]
      refine wpAnyH_on (i := 15) (d := 102) (v := ?_) rfl rfl (by kernel_rfl) (by kernel_rfl) (by kernel_rfl) (fun _ _ _ h => h) (by kernel_rfl) (prev_bel _ _) ?_ ?_
      rotate_left
      · intro uu (pu : Prev uu _)
        go_simp
        try (with_reducible rfl)
      simp only [List.set]
      refine wpAnyH_on (i := 16) (d := 103) (v := ?_) rfl rfl (by kernel_rfl) (by kernel_rfl) (by kernel_rfl) (fun _ _ _ h => h) (by kernel_rfl) (prev_bel _ _) ?_ ?_
      rotate_left
      · intro uu (pu : Prev uu _)
        go_simp
        try (with_reducible rfl)
      simp only [List.set]
      refine wpAnyH_on (i := 17) (d := 104) (v := ?_) rfl rfl (by kernel_rfl) (by kernel_rfl) (by kernel_rfl) (fun _ _ _ h => h) (by kernel_rfl) (prev_bel _ _) ?_ ?_
      rotate_left
      · intro uu (pu : Prev uu _)
        go_simp
        try (with_reducible rfl)
      simp only [List.set]
      refine wpAnyH_on (i := 18) (d := 105) (v := ?_) rfl rfl (by kernel_rfl) (by kernel_rfl) (by kernel_rfl) (fun _ _ _ h => h) (by kernel_rfl) (prev_bel _ _) ?_ ?_
      rotate_left
      · intro uu (pu : Prev uu _)
        go_simp
        try (with_reducible rfl)
      simp only [List.set]
      refine wpAnyH_on (i := 19) (d := 106) (v := ?_) rfl rfl (by kernel_rfl) (by kernel_rfl) (by kernel_rfl) (fun _ _ _ h => h) (by kernel_rfl) (prev_bel _ _) ?_ ?_
      rotate_left
      · intro uu (pu : Prev uu _)
        go_simp
        try (with_reducible rfl)
      simp only [List.set]
      refine wpAnyH_on (i := 20) (d := 107) (v := ?_) rfl rfl (by kernel_rfl) (by kernel_rfl) (by kernel_rfl) (fun _ _ _ h => h) (by kernel_rfl) (prev_bel _ _) ?_ ?_
      rotate_left
      · intro uu (pu : Prev uu _)
        go_simp
        try (with_reducible rfl)
      simp only [List.set]
      refine wpAnyH_on (i := 21) (d := 108) (v := ?_) rfl rfl (by kernel_rfl) (by kernel_rfl) (by kernel_rfl) (fun _ _ _ h => h) (by kernel_rfl) (prev_bel _ _) ?_ ?_
      rotate_left
      · intro uu (pu : Prev uu _)
        go_simp
        try (with_reducible rfl)
      simp only [List.set]
      refine wpAnyH_on (i := 22) (d := 109) (v := ?_) rfl rfl (by kernel_rfl) (by kernel_rfl) (by kernel_rfl) (fun _ _ _ h => h) (by kernel_rfl) (prev_bel _ _) ?_ ?_
      rotate_left
      · intro uu (pu : Prev uu _)
        go_simp
        try (with_reducible rfl)
      simp only [List.set]
      refine wpAnyH_done (by kernel_rfl) ?_ _
      go_wp2_with fail
      rw [rounds_succ]
      go_wp2_with fail
      go_loopw [117] (fun i wr => ∃ k : Nat, k ≤ x0.length ∧ i = .int .i64 k ∧ Prev wr vy) (fun i _ => x0.length - (intOf i).toNat)
      case atStart => exact ⟨0, Nat.zero_le _, rfl, prev_bel _ _⟩
      case round =>
        obtain ⟨k, hk, rfl, hp⟩ := hrel
        by_cases hlt : k < x0.length
        · obtain ⟨b2, o2, x, rfl, ob2, cx, hx⟩ := t0.get hlt
          obtain ⟨b4, o4, gk, rfl, ob4, cg, hg⟩ := sC.get (k := k) (by rw [HGL.out]; exact hlt)
          have hkg : k < xg.length := by rw [HGL.out]; exact hlt
          have hkX : k < X.length := by rw [HXL.out]; exact hlt
          have ix : I6 x := I6s.at hx.out
          have iy : I6 gk := I6s.at hg.out
          have is := HI.out k
          have cy := oX.cell (show X[k]? = some (slopeX kind kk x (sec ts k) gk) by
            rw [HX.out, bkX, List.getElem?_map, List.getElem?_range (by rw [HX0.out]; exact hlt), HX0.out]
            simp only [Option.map_some, getD_some hx.out, getD_some hg.out])
          go_wp2_with fail
          refine wp_region_up0 (by kernel_rfl) (fun vz _ => ?_)
          refine wpAnyH_on (i := 0) (d := 123) (v := ?_) rfl rfl (by kernel_rfl) (by kernel_rfl) (by kernel_rfl) (fun _ _ _ h => h) (by kernel_rfl) (prev_bel _ _) ?_ ?_
          rotate_left
          · intro uu (pu : Prev uu _)
            go_simp
            try (with_reducible rfl)
          simp only [List.set]
          refine wpAnyH_on (i := 1) (d := 124) (v := ?_) rfl rfl (by kernel_rfl) (by kernel_rfl) (by kernel_rfl) (fun _ _ _ h => h) (by kernel_rfl) (prev_bel _ _) ?_ ?_
          rotate_left
          · intro uu (pu : Prev uu _)
            go_simp
            try (with_reducible rfl)
          simp only [List.set]
          refine wpAnyH_on (i := 2) (d := 125) (v := ?_) rfl rfl (by kernel_rfl) (by kernel_rfl) (by kernel_rfl) (fun _ _ _ h => h) (by kernel_rfl) (prev_bel _ _) ?_ ?_
          rotate_left
          · intro uu (pu : Prev uu _)
            go_simp
            try (with_reducible rfl)
          simp only [List.set]
          refine wpAnyH_on (i := 3) (d := 126) (v := ?_) rfl rfl (by kernel_rfl) (by kernel_rfl) (by kernel_rfl) (fun _ _ _ h => h) (by kernel_rfl) (prev_bel _ _) ?_ ?_
          rotate_left
          · intro uu (pu : Prev uu _)
            go_simp
            try (with_reducible rfl)
          simp only [List.set]
          refine wpAnyH_on (i := 4) (d := 127) (v := ?_) rfl rfl (by kernel_rfl) (by kernel_rfl) (by kernel_rfl) (fun _ _ _ h => h) (by kernel_rfl) (prev_bel _ _) ?_ ?_
          rotate_left
          · intro uu (pu : Prev uu _)
            go_simp
            try (with_reducible rfl)
          simp only [List.set]
          refine wpAnyH_on (i := 5) (d := 128) (v := ?_) rfl rfl (by kernel_rfl) (by kernel_rfl) (by kernel_rfl) (fun _ _ _ h => h) (by kernel_rfl) (prev_bel _ _) ?_ ?_
          rotate_left
          · intro uu (pu : Prev uu _)
            go_simp
            try (with_reducible rfl)
          simp only [List.set]
          refine wpAnyH_on (i := 6) (d := 129) (v := ?_) rfl rfl (by kernel_rfl) (by kernel_rfl) (by kernel_rfl) (fun _ _ _ h => h) (by kernel_rfl) (prev_bel _ _) ?_ ?_
          rotate_left
          · intro uu (pu : Prev uu _)
            go_simp
            try (with_reducible rfl)
          simp only [List.set]
          refine wpAnyH_on (i := 7) (d := 130) (v := ?_) rfl rfl (by kernel_rfl) (by kernel_rfl) (by kernel_rfl) (fun _ _ _ h => h) (by kernel_rfl) (prev_bel _ _) ?_ ?_
          rotate_left
          · intro uu (pu : Prev uu _)
            go_simp
            try (with_reducible rfl)
          simp only [List.set]
          refine wpAnyH_on (i := 9) (d := 132) (v := ?_) rfl rfl (by kernel_rfl) (by kernel_rfl) (by kernel_rfl) (fun _ _ _ h => h) (by kernel_rfl) (prev_bel _ _) ?_ ?_
          rotate_left
          · intro uu (pu : Prev uu _)
            go_simp
            try (with_reducible rfl)
          simp only [List.set]
          refine wpAnyH_on (i := 10) (d := 133) (v := ?_) rfl rfl (by kernel_rfl) (by kernel_rfl) (by kernel_rfl) (fun _ _ _ h => h) (by kernel_rfl) (prev_bel _ _) ?_ ?_
          rotate_left
          · intro uu (pu : Prev uu _)
            go_simp
            try (with_reducible rfl)
          simp only [List.set]
          refine wpAnyH_on (i := 11) (d := 134) (v := ?_) rfl rfl (by kernel_rfl) (by kernel_rfl) (by kernel_rfl) (fun _ _ _ h => h) (by kernel_rfl) (prev_bel _ _) ?_ ?_
          rotate_left
          · intro uu (pu : Prev uu _)
            go_simp
            try (with_reducible rfl)
          simp only [List.set]
          refine wpAnyH_on (i := 12) (d := 135) (v := ?_) rfl rfl (by kernel_rfl) (by kernel_rfl) (by kernel_rfl) (fun _ _ _ h => h) (by kernel_rfl) (prev_bel _ _) ?_ ?_
          rotate_left
          · intro uu (pu : Prev uu _)
            go_simp
            try (with_reducible rfl)
          simp only [List.set]
          refine wpAnyH_on (i := 13) (d := 136) (v := ?_) rfl rfl (by kernel_rfl) (by kernel_rfl) (by kernel_rfl) (fun _ _ _ h => h) (by kernel_rfl) (prev_bel _ _) ?_ ?_
          rotate_left
          · intro uu (pu : Prev uu _)
            go_simp
            try (with_reducible rfl)
          simp only [List.set]
          refine wpAnyH_on (i := 14) (d := 137) (v := ?_) rfl rfl (by kernel_rfl) (by kernel_rfl) (by kernel_rfl) (fun _ _ _ h => h) (by kernel_rfl) (prev_bel _ _) ?_ ?_
          rotate_left
          · intro uu (pu : Prev uu _)
            go_simp
            try (with_reducible rfl)
          simp only [List.set]
          refine wpAnyH_ready (rs := [8]) (by kernel_rfl) (by simp) ?_
          refine AllReadyH.cons rfl (fun K hK => ?_) AllReadyH.nil
          go_simp
          (with_reducible refine (a05_other).mono ?_)
          rintro e vz ⟨rfl, _⟩
          dsimp only
          refine hK.out _ _ (prev_bel _ _) (fun hHeld => ?_)
          clear hHeld hK K
          try dsimp only [Act.put, List.setIfInBounds_toArray, List.set_cons_zero, List.set_cons_succ]
          refine wpAnyH_ready (rs := [15]) (by kernel_rfl) (by simp) ?_
          refine AllReadyH.cons rfl (fun K hK => ?_) AllReadyH.nil
          go_simp
          (with_reducible refine (r5_slope).mono ?_)
          rintro e vz ⟨rfl, _⟩
          dsimp only
          refine hK.out _ _ (prev_bel _ _) (fun hHeld => ?_)
          clear hHeld hK K
          try dsimp only [Act.put, List.setIfInBounds_toArray, List.set_cons_zero, List.set_cons_succ]
          refine wpAnyH_on (i := 16) (d := 122) (v := ?_) rfl rfl (by kernel_rfl) (by kernel_rfl) (by kernel_rfl) (fun _ _ _ h => h) (by kernel_rfl) (prev_bel _ _) ?_ ?_
          rotate_left
          · intro uu (pu : Prev uu _)
            go_simp
            try (with_reducible rfl)
          simp only [List.set]
          refine wpAnyH_on (i := 17) (d := 139) (v := ?_) rfl rfl (by kernel_rfl) (by kernel_rfl) (by kernel_rfl) (fun _ _ _ h => h) (by kernel_rfl) (prev_bel _ _) ?_ ?_
          rotate_left
          · intro uu (pu : Prev uu _)
            go_simp
            try (with_reducible rfl)
          simp only [List.set]
          refine wpAnyH_on (i := 18) (d := 140) (v := ?_) rfl rfl (by kernel_rfl) (by kernel_rfl) (by kernel_rfl) (fun _ _ _ h => h) (by kernel_rfl) (prev_bel _ _) ?_ ?_
          rotate_left
          · intro uu (pu : Prev uu _)
            go_simp
            try (with_reducible rfl)
          simp only [List.set]
          refine wpAnyH_on (i := 19) (d := 9) (v := ?_) rfl rfl (by kernel_rfl) (by kernel_rfl) (by kernel_rfl) (fun _ _ _ h => h) (by kernel_rfl) (prev_bel _ _) ?_ ?_
          rotate_left
          · intro uu (pu : Prev uu _)
            go_simp
            try (with_reducible rfl)
          simp only [List.set]
          refine wpAnyH_on (i := 20) (d := 10) (v := ?_) rfl rfl (by kernel_rfl) (by kernel_rfl) (by kernel_rfl) (fun _ _ _ h => h) (by kernel_rfl) (prev_bel _ _) ?_ ?_
          rotate_left
          · intro uu (pu : Prev uu _)
            go_simp
            try (with_reducible rfl)
          simp only [List.set]
          refine wpAnyH_done (by kernel_rfl) ?_ _
          go_wp2_with fail
          go_roundw
          case rel => exact ⟨k + 1, by omega, by go_num, prev_bel _ _⟩
          case measure => simp [intOf]; omega
        · go_wp2_with (first | (go_at_call 29; (try first | (with_reducible refine gen_boxK3 (fun u _ _ _ _ => ?_)) | (with_reducible refine gen_boxK2 (fun u _ _ _ => ?_)) | (with_reducible refine gen_boxK (fun u _ _ => ?_))); (with_reducible refine (a05_awake).mono ?_); rintro e u ⟨rfl, _⟩))
          go_ret
          exact ⟨rfl, bel w _⟩
    · obtain ⟨Y, HY⟩ : ∃ Y : List Int, Hid (Y = bkY kind ts xg (xs0 ts).length) := ⟨_, Lib.hid rfl⟩
      have HYL : Hid (Y.length = x0.length) := Lib.hid (by rw [HY.out, bkY_length, HX0.out])
      have e2 : ((Y.length : Int) != (xg.length : Int)) = false := by simp [HYL.out, HGL.out]
      have lY : Y.length ≤ 65536 := by rw [HYL.out]; exact lx
      go_wp2_with (first | (go_at_call 35; (try first | (with_reducible refine gen_boxK3 (fun u _ _ _ _ => ?_)) | (with_reducible refine gen_boxK2 (fun u _ _ _ => ?_)) | (with_reducible refine gen_boxK (fun u _ _ => ?_))); (with_reducible refine (pt_back_two hzg hz hE hr HZ0.out.symm (Lib.hid HZ0.out.symm) HX HY).mono ?_); rintro e u ⟨G, g1, g1', g2, g2', rfl, hg1, hg2, hne, kG, oS, oX, oT, oY, _⟩) | (go_at_call 31; (try first | (with_reducible refine gen_boxK3 (fun u _ _ _ _ => ?_)) | (with_reducible refine gen_boxK2 (fun u _ _ _ => ?_)) | (with_reducible refine gen_boxK (fun u _ _ => ?_))); (with_reducible refine (a05_good hz).mono ?_); rintro e u ⟨rfl, _⟩))
      have sS : Sl _ (some ⟨g1, 0, none⟩) zg.length zg := ⟨oS.rd, rfl⟩
      have sT : Sl _ (some ⟨g2, 0, none⟩) zg.length zg := ⟨oT.rd, rfl⟩
      have ogX : Old g1' _ := ⟨oX.lt⟩
      have ogY : Old g2' _ := ⟨oY.lt⟩
      refine wp_region_up0 (by kernel_rfl) (fun vx _ => ?_)
      refine wpAnyH_on (i := 0) (d := 39) (v := ?_) rfl rfl (by kernel_rfl) (by kernel_rfl) (by kernel_rfl) (fun _ _ _ h => h) (by kernel_rfl) (prev_bel _ _) ?_ ?_
      rotate_left
      · intro uu (pu : Prev uu _)
        go_simp
        try (with_reducible rfl)
      simp only [List.set]
      refine wpAnyH_on (i := 1) (d := 40) (v := ?_) rfl rfl (by kernel_rfl) (by kernel_rfl) (by kernel_rfl) (fun _ _ _ h => h) (by kernel_rfl) (prev_bel _ _) ?_ ?_
      rotate_left
      · intro uu (pu : Prev uu _)
        go_simp
        try (with_reducible rfl)
      simp only [List.set]
      refine wpAnyH_on (i := 2) (d := 41) (v := ?_) rfl rfl (by kernel_rfl) (by kernel_rfl) (by kernel_rfl) (fun _ _ _ h => h) (by kernel_rfl) (prev_bel _ _) ?_ ?_
      rotate_left
      · intro uu (pu : Prev uu _)
        go_simp
        try (with_reducible rfl)
      simp only [List.set]
      refine wpAnyH_on (i := 3) (d := 42) (v := ?_) rfl rfl (by kernel_rfl) (by kernel_rfl) (by kernel_rfl) (fun _ _ _ h => h) (by kernel_rfl) (prev_bel _ _) ?_ ?_
      rotate_left
      · intro uu (pu : Prev uu _)
        go_simp
        try (with_reducible rfl)
      simp only [List.set]
      refine wpAnyH_on (i := 4) (d := 43) (v := ?_) rfl rfl (by kernel_rfl) (by kernel_rfl) (by kernel_rfl) (fun _ _ _ h => h) (by kernel_rfl) (prev_bel _ _) ?_ ?_
      rotate_left
      · intro uu (pu : Prev uu _)
        go_simp
        try (with_reducible rfl)
      simp only [List.set]
      refine wpAnyH_ready (rs := [5]) (by kernel_rfl) (by simp) ?_
      refine AllReadyH.cons rfl (fun K hK => ?_) AllReadyH.nil
      go_simp
      (with_reducible refine (a05_right (by omega)).mono ?_)
      rintro e vx ⟨rfl, _⟩
      dsimp only
      refine hK.out _ _ (prev_bel _ _) (fun hHeld => ?_)
      clear hHeld hK K
      try dsimp only [Act.put, List.setIfInBounds_toArray, List.set_cons_zero, List.set_cons_succ]
      refine wpAnyH_on (i := 6) (d := 45) (v := ?_) rfl rfl (by kernel_rfl) (by kernel_rfl) (by kernel_rfl) (fun _ _ _ h => h) (by kernel_rfl) (prev_bel _ _) ?_ ?_
      rotate_left
      · intro uu (pu : Prev uu _)
        go_simp
        try (with_reducible rfl)
      simp only [List.set]
      refine wpAnyH_on (i := 7) (d := 46) (v := ?_) rfl rfl (by kernel_rfl) (by kernel_rfl) (by kernel_rfl) (fun _ _ _ h => h) (by kernel_rfl) (prev_bel _ _) ?_ ?_
      rotate_left
      · intro uu (pu : Prev uu _)
        go_simp
        try (with_reducible rfl)
      simp only [List.set]
      refine wpAnyH_on (i := 8) (d := 47) (v := ?_) rfl rfl (by kernel_rfl) (by kernel_rfl) (by kernel_rfl) (fun _ _ _ h => h) (by kernel_rfl) (prev_bel _ _) ?_ ?_
      rotate_left
      · intro uu (pu : Prev uu _)
        go_simp
        try (with_reducible rfl)
      simp only [List.set]
      refine wpAnyH_on (i := 9) (d := 48) (v := ?_) rfl rfl (by kernel_rfl) (by kernel_rfl) (by kernel_rfl) (fun _ _ _ h => h) (by kernel_rfl) (prev_bel _ _) ?_ ?_
      rotate_left
      · intro uu (pu : Prev uu _)
        go_simp
        try (with_reducible rfl)
      simp only [List.set]
      refine wpAnyH_on (i := 10) (d := 49) (v := ?_) rfl rfl (by kernel_rfl) (by kernel_rfl) (by kernel_rfl) (fun _ _ _ h => h) (by kernel_rfl) (prev_bel _ _) ?_ ?_
      rotate_left
      · intro uu (pu : Prev uu _)
        go_simp
        try (with_reducible rfl)
      simp only [List.set]
      refine wpAnyH_on (i := 11) (d := 50) (v := ?_) rfl rfl (by kernel_rfl) (by kernel_rfl) (by kernel_rfl) (fun _ _ _ h => h) (by kernel_rfl) (prev_bel _ _) ?_ ?_
      rotate_left
      · intro uu (pu : Prev uu _)
        go_simp
        try (with_reducible rfl)
      simp only [List.set]
      refine wpAnyH_on (i := 12) (d := 51) (v := ?_) rfl rfl (by kernel_rfl) (by kernel_rfl) (by kernel_rfl) (fun _ _ _ h => h) (by kernel_rfl) (prev_bel _ _) ?_ ?_
      rotate_left
      · intro uu (pu : Prev uu _)
        go_simp
        try (with_reducible rfl)
      simp only [List.set]
      refine wpAnyH_on (i := 13) (d := 52) (v := ?_) rfl rfl (by kernel_rfl) (by kernel_rfl) (by kernel_rfl) (fun _ _ _ h => h) (by kernel_rfl) (prev_bel _ _) ?_ ?_
      rotate_left
      · intro uu (pu : Prev uu _)
        go_simp
        try (with_reducible rfl)
      simp only [List.set]
      refine wpAnyH_on (i := 14) (d := 53) (v := ?_) rfl rfl (by kernel_rfl) (by kernel_rfl) (by kernel_rfl) (fun _ _ _ h => h) (by kernel_rfl) (prev_bel _ _) ?_ ?_
      rotate_left
      · intro uu (pu : Prev uu _)
        go_simp
        try (with_reducible rfl)
      simp only [List.set]
      refine wpAnyH_on (i := 15) (d := 54) (v := ?_) rfl rfl (by kernel_rfl) (by kernel_rfl) (by kernel_rfl) (fun _ _ _ h => h) (by kernel_rfl) (prev_bel _ _) ?_ ?_
      rotate_left
      · intro uu (pu : Prev uu _)
        go_simp
        try (with_reducible rfl)
      simp only [List.set]
      refine wpAnyH_ready (rs := [16]) (by kernel_rfl) (by simp) ?_
      refine AllReadyH.cons rfl (fun K hK => ?_) AllReadyH.nil
      go_simp
      (with_reducible refine (a03_sameT (by omega) (by omega)).mono ?_)
      rintro e vx ⟨rfl, _⟩
      dsimp only
      refine hK.out _ _ (prev_bel _ _) (fun hHeld => ?_)
      clear hHeld hK K
      try dsimp only [Act.put, List.setIfInBounds_toArray, List.set_cons_zero, List.set_cons_succ]
      refine wpAnyH_on (i := 17) (d := 56) (v := ?_) rfl rfl (by kernel_rfl) (by kernel_rfl) (by kernel_rfl) (fun _ _ _ h => h) (by kernel_rfl) (prev_bel _ _) ?_ ?_
      rotate_left
      · intro uu (pu : Prev uu _)
        go_simp
        try (with_reducible rfl)
      simp only [List.set]
      refine wpAnyH_on (i := 18) (d := 57) (v := ?_) rfl rfl (by kernel_rfl) (by kernel_rfl) (by kernel_rfl) (fun _ _ _ h => h) (by kernel_rfl) (prev_bel _ _) ?_ ?_
      rotate_left
      · intro uu (pu : Prev uu _)
        go_simp
        try (with_reducible rfl)
      simp only [List.set]
      refine wpAnyH_on (i := 19) (d := 58) (v := ?_) rfl rfl (by kernel_rfl) (by kernel_rfl) (by kernel_rfl) (fun _ _ _ h => h) (by kernel_rfl) (prev_bel _ _) ?_ ?_
      rotate_left
      · intro uu (pu : Prev uu _)
        go_simp
        try (with_reducible rfl)
      simp only [List.set]
      refine wpAnyH_done (by kernel_rfl) ?_ _
      go_wp2_with fail
      refine wp_loop_rounds 3 ?_
      rw [rounds_succ]
      go_wp2_with fail
      refine wp_region_up0 (by kernel_rfl) (fun vy _ => ?_)
      refine wpAnyH_on (i := 0) (d := 87) (v := ?_) rfl rfl (by kernel_rfl) (by kernel_rfl) (by kernel_rfl) (fun _ _ _ h => h) (by kernel_rfl) (prev_bel _ _) ?_ ?_
      rotate_left
      · intro uu (pu : Prev uu _)
        go_simp
        try (with_reducible rfl)
      simp only [List.set]
      refine wpAnyH_on (i := 1) (d := 88) (v := ?_) rfl rfl (by kernel_rfl) (by kernel_rfl) (by kernel_rfl) (fun _ _ _ h => h) (by kernel_rfl) (prev_bel _ _) ?_ ?_
      rotate_left
      · intro uu (pu : Prev uu _)
        go_simp
        try (with_reducible rfl)
      simp only [List.set]
      refine wpAnyH_on (i := 2) (d := 89) (v := ?_) rfl rfl (by kernel_rfl) (by kernel_rfl) (by kernel_rfl) (fun _ _ _ h => h) (by kernel_rfl) (prev_bel _ _) ?_ ?_
      rotate_left
      · intro uu (pu : Prev uu _)
        go_simp
        try (with_reducible rfl)
      simp only [List.set]
      refine wpAnyH_on (i := 3) (d := 90) (v := ?_) rfl rfl (by kernel_rfl) (by kernel_rfl) (by kernel_rfl) (fun _ _ _ h => h) (by kernel_rfl) (prev_bel _ _) ?_ ?_
      rotate_left
      · intro uu (pu : Prev uu _)
        go_simp
        try (with_reducible rfl)
      simp only [List.set]
      refine wpAnyH_on (i := 4) (d := 91) (v := ?_) rfl rfl (by kernel_rfl) (by kernel_rfl) (by kernel_rfl) (fun _ _ _ h => h) (by kernel_rfl) (prev_bel _ _) ?_ ?_
      rotate_left
      · intro uu (pu : Prev uu _)
        go_simp
        try (with_reducible rfl)
      simp only [List.set]
      refine wpAnyH_on (i := 5) (d := 92) (v := ?_) rfl rfl (by kernel_rfl) (by kernel_rfl) (by kernel_rfl) (fun _ _ _ h => h) (by kernel_rfl) (prev_bel _ _) ?_ ?_
      rotate_left
      · intro uu (pu : Prev uu _)
        go_simp
        try (with_reducible rfl)
      simp only [List.set]
      refine wpAnyH_on (i := 6) (d := 93) (v := ?_) rfl rfl (by kernel_rfl) (by kernel_rfl) (by kernel_rfl) (fun _ _ _ h => h) (by kernel_rfl) (prev_bel _ _) ?_ ?_
      rotate_left
      · intro uu (pu : Prev uu _)
        go_simp
        try (with_reducible rfl)
      simp only [List.set]
      refine wpAnyH_on (i := 7) (d := 94) (v := ?_) rfl rfl (by kernel_rfl) (by kernel_rfl) (by kernel_rfl) (fun _ _ _ h => h) (by kernel_rfl) (prev_bel _ _) ?_ ?_
      rotate_left
      · intro uu (pu : Prev uu _)
        go_simp
        try (with_reducible rfl)
      simp only [List.set]
      refine wpAnyH_ready (rs := [8]) (by kernel_rfl) (by simp) ?_
      refine AllReadyH.cons rfl (fun K hK => ?_) AllReadyH.nil
      go_simp
      (with_reducible refine (aS_equalT (by omega) (by omega)).mono ?_)
      rintro e vy ⟨rfl, _⟩
      dsimp only
      refine hK.out _ _ (prev_bel _ _) (fun hHeld => ?_)
      clear hHeld hK K
      try dsimp only [Act.put, List.setIfInBounds_toArray, List.set_cons_zero, List.set_cons_succ]
      refine wpAnyH_on (i := 9) (d := 96) (v := ?_) rfl rfl (by kernel_rfl) (by kernel_rfl) (by kernel_rfl) (fun _ _ _ h => h) (by kernel_rfl) (prev_bel _ _) ?_ ?_
      rotate_left
      · intro uu (pu : Prev uu _)
        go_simp
        try (with_reducible rfl)
      simp only [List.set]
      refine wpAnyH_on (i := 10) (d := 97) (v := ?_) rfl rfl (by kernel_rfl) (by kernel_rfl) (by kernel_rfl) (fun _ _ _ h => h) (by kernel_rfl) (prev_bel _ _) ?_ ?_
      rotate_left
      · intro uu (pu : Prev uu _)
        go_simp
        try (with_reducible rfl)
      simp only [List.set]
      refine wpAnyH_on (i := 11) (d := 98) (v := ?_) rfl rfl (by kernel_rfl) (by kernel_rfl) (by kernel_rfl) (fun _ _ _ h => h) (by kernel_rfl) (prev_bel _ _) ?_ ?_
      rotate_left
      · intro uu (pu : Prev uu _)
        go_simp
        try (with_reducible rfl)
      simp only [List.set]
      refine wpAnyH_on (i := 12) (d := 99) (v := ?_) rfl rfl (by kernel_rfl) (by kernel_rfl) (by kernel_rfl) (fun _ _ _ h => h) (by kernel_rfl) (prev_bel _ _) ?_ ?_
      rotate_left
      · intro uu (pu : Prev uu _)
        go_simp
        try (with_reducible rfl)
      simp only [List.set]
      refine wpAnyH_on (i := 13) (d := 100) (v := ?_) rfl rfl (by kernel_rfl) (by kernel_rfl) (by kernel_rfl) (fun _ _ _ h => h) (by kernel_rfl) (prev_bel _ _) ?_ ?_
      rotate_left
      · intro uu (pu : Prev uu _)
        go_simp
        try (with_reducible rfl)
      simp only [List.set]
      refine wpAnyH_on (i := 14) (d := 101) (v := ?_) rfl rfl (by kernel_rfl) (by kernel_rfl) (by kernel_rfl) (fun _ _ _ h => h) (by kernel_rfl) (prev_bel _ _) ?_ ?_
      rotate_left
      · intro uu (pu : Prev uu _)
        go_simp
        try (with_reducible rfl)
      simp only [List.set]
      refine wpAnyH_on (i := 15) (d := 102) (v := ?_) rfl rfl (by kernel_rfl) (by kernel_rfl) (by kernel_rfl) (fun _ _ _ h => h) (by kernel_rfl) (prev_bel _ _) ?_ ?_
      rotate_left
      · intro uu (pu : Prev uu _)
        go_simp
        try (with_reducible rfl)
      simp only [List.set]
      refine wpAnyH_on (i := 16) (d := 103) (v := ?_) rfl rfl (by kernel_rfl) (by kernel_rfl) (by kernel_rfl) (fun _ _ _ h => h) (by kernel_rfl) (prev_bel _ _) ?_ ?_
      rotate_left
      · intro uu (pu : Prev uu _)
        go_simp
        try (with_reducible rfl)
      simp only [List.set]
      refine wpAnyH_on (i := 17) (d := 104) (v := ?_) rfl rfl (by kernel_rfl) (by kernel_rfl) (by kernel_rfl) (fun _ _ _ h => h) (by kernel_rfl) (prev_bel _ _) ?_ ?_
      rotate_left
      · intro uu (pu : Prev uu _)
        go_simp
        try (with_reducible rfl)
      simp only [List.set]
      refine wpAnyH_on (i := 18) (d := 105) (v := ?_) rfl rfl (by kernel_rfl) (by kernel_rfl) (by kernel_rfl) (fun _ _ _ h => h) (by kernel_rfl) (prev_bel _ _) ?_ ?_
      rotate_left
      · intro uu (pu : Prev uu _)
        go_simp
        try (with_reducible rfl)
      simp only [List.set]
      refine wpAnyH_on (i := 19) (d := 106) (v := ?_) rfl rfl (by kernel_rfl) (by kernel_rfl) (by kernel_rfl) (fun _ _ _ h => h) (by kernel_rfl) (prev_bel _ _) ?_ ?_
      rotate_left
      · intro uu (pu : Prev uu _)
        go_simp
        try (with_reducible rfl)
      simp only [List.set]
      refine wpAnyH_on (i := 20) (d := 107) (v := ?_) rfl rfl (by kernel_rfl) (by kernel_rfl) (by kernel_rfl) (fun _ _ _ h => h) (by kernel_rfl) (prev_bel _ _) ?_ ?_
      rotate_left
      · intro uu (pu : Prev uu _)
        go_simp
        try (with_reducible rfl)
      simp only [List.set]
      refine wpAnyH_on (i := 21) (d := 108) (v := ?_) rfl rfl (by kernel_rfl) (by kernel_rfl) (by kernel_rfl) (fun _ _ _ h => h) (by kernel_rfl) (prev_bel _ _) ?_ ?_
      rotate_left
      · intro uu (pu : Prev uu _)
        go_simp
        try (with_reducible rfl)
      simp only [List.set]
      refine wpAnyH_on (i := 22) (d := 109) (v := ?_) rfl rfl (by kernel_rfl) (by kernel_rfl) (by kernel_rfl) (fun _ _ _ h => h) (by kernel_rfl) (prev_bel _ _) ?_ ?_
      rotate_left
      · intro uu (pu : Prev uu _)
        go_simp
        try (with_reducible rfl)
      simp only [List.set]
      refine wpAnyH_done (by kernel_rfl) ?_ _
      go_wp2_with fail
      rw [rounds_succ]
      go_wp2_with fail
      refine wp_region_up0 (by kernel_rfl) (fun vz _ => ?_)
      refine wpAnyH_on (i := 0) (d := 87) (v := ?_) rfl rfl (by kernel_rfl) (by kernel_rfl) (by kernel_rfl) (fun _ _ _ h => h) (by kernel_rfl) (prev_bel _ _) ?_ ?_
      rotate_left
      · intro uu (pu : Prev uu _)
        go_simp
        try (with_reducible rfl)
      simp only [List.set]
      refine wpAnyH_on (i := 1) (d := 88) (v := ?_) rfl rfl (by kernel_rfl) (by kernel_rfl) (by kernel_rfl) (fun _ _ _ h => h) (by kernel_rfl) (prev_bel _ _) ?_ ?_
      rotate_left
      · intro uu (pu : Prev uu _)
        go_simp
        try (with_reducible rfl)
      simp only [List.set]
      refine wpAnyH_on (i := 2) (d := 89) (v := ?_) rfl rfl (by kernel_rfl) (by kernel_rfl) (by kernel_rfl) (fun _ _ _ h => h) (by kernel_rfl) (prev_bel _ _) ?_ ?_
      rotate_left
      · intro uu (pu : Prev uu _)
        go_simp
        try (with_reducible rfl)
      simp only [List.set]
      refine wpAnyH_on (i := 3) (d := 90) (v := ?_) rfl rfl (by kernel_rfl) (by kernel_rfl) (by kernel_rfl) (fun _ _ _ h => h) (by kernel_rfl) (prev_bel _ _) ?_ ?_
      rotate_left
      · intro uu (pu : Prev uu _)
        go_simp
        try (with_reducible rfl)
      simp only [List.set]
      refine wpAnyH_on (i := 4) (d := 91) (v := ?_) rfl rfl (by kernel_rfl) (by kernel_rfl) (by kernel_rfl) (fun _ _ _ h => h) (by kernel_rfl) (prev_bel _ _) ?_ ?_
      rotate_left
      · intro uu (pu : Prev uu _)
        go_simp
        try (with_reducible rfl)
      simp only [List.set]
      refine wpAnyH_on (i := 5) (d := 92) (v := ?_) rfl rfl (by kernel_rfl) (by kernel_rfl) (by kernel_rfl) (fun _ _ _ h => h) (by kernel_rfl) (prev_bel _ _) ?_ ?_
      rotate_left
      · intro uu (pu : Prev uu _)
        go_simp
        try (with_reducible rfl)
      simp only [List.set]
      refine wpAnyH_on (i := 6) (d := 93) (v := ?_) rfl rfl (by kernel_rfl) (by kernel_rfl) (by kernel_rfl) (fun _ _ _ h => h) (by kernel_rfl) (prev_bel _ _) ?_ ?_
      rotate_left
      · intro uu (pu : Prev uu _)
        go_simp
        try (with_reducible rfl)
      simp only [List.set]
      refine wpAnyH_on (i := 7) (d := 94) (v := ?_) rfl rfl (by kernel_rfl) (by kernel_rfl) (by kernel_rfl) (fun _ _ _ h => h) (by kernel_rfl) (prev_bel _ _) ?_ ?_
      rotate_left
      · intro uu (pu : Prev uu _)
        go_simp
        try (with_reducible rfl)
      simp only [List.set]
      refine wpAnyH_ready (rs := [8]) (by kernel_rfl) (by simp) ?_
      refine AllReadyH.cons rfl (fun K hK => ?_) AllReadyH.nil
      go_simp
      (with_reducible refine (aS_equalT (by omega) (by omega)).mono ?_)
      rintro e vz ⟨rfl, _⟩
      dsimp only
      refine hK.out _ _ (prev_bel _ _) (fun hHeld => ?_)
      clear hHeld hK K
      try dsimp only [Act.put, List.setIfInBounds_toArray, List.set_cons_zero, List.set_cons_succ]
      refine wpAnyH_on (i := 9) (d := 96) (v := ?_) rfl rfl (by kernel_rfl) (by kernel_rfl) (by kernel_rfl) (fun _ _ _ h => h) (by kernel_rfl) (prev_bel _ _) ?_ ?_
      rotate_left
      · intro uu (pu : Prev uu _)
        go_simp
        try (with_reducible rfl)
      simp only [List.set]
      refine wpAnyH_on (i := 10) (d := 97) (v := ?_) rfl rfl (by kernel_rfl) (by kernel_rfl) (by kernel_rfl) (fun _ _ _ h => h) (by kernel_rfl) (prev_bel _ _) ?_ ?_
      rotate_left
      · intro uu (pu : Prev uu _)
        go_simp
        try (with_reducible rfl)
      simp only [List.set]
      refine wpAnyH_on (i := 11) (d := 98) (v := ?_) rfl rfl (by kernel_rfl) (by kernel_rfl) (by kernel_rfl) (fun _ _ _ h => h) (by kernel_rfl) (prev_bel _ _) ?_ ?_
      rotate_left
      · intro uu (pu : Prev uu _)
        go_simp
        try (with_reducible rfl)
      simp only [List.set]
      refine wpAnyH_on (i := 12) (d := 99) (v := ?_) rfl rfl (by kernel_rfl) (by kernel_rfl) (by kernel_rfl) (fun _ _ _ h => h) (by kernel_rfl) (prev_bel _ _) ?_ ?_
      rotate_left
      · intro uu (pu : Prev uu _)
        go_simp
        try (with_reducible rfl)
      simp only [List.set]
      refine wpAnyH_on (i := 13) (d := 100) (v := ?_) rfl rfl (by kernel_rfl) (by kernel_rfl) (by kernel_rfl) (fun _ _ _ h => h) (by kernel_rfl) (prev_bel _ _) ?_ ?_
      rotate_left
      · intro uu (pu : Prev uu _)
        go_simp
        try (with_reducible rfl)
      simp only [List.set]
      refine wpAnyH_on (i := 14) (d := 101) (v := ?_) rfl rfl (by kernel_rfl) (by kernel_rfl) (by kernel_rfl) (fun _ _ _ h => h) (by kernel_rfl) (prev_bel _ _) ?_ ?_
      rotate_left
      · intro uu (pu : Prev uu _)
        go_simp
        try (with_reducible rfl)
      simp only [List.set]
      refine wpAnyH_on (i := 15) (d := 102) (v := ?_) rfl rfl (by kernel_rfl) (by kernel_rfl) (by kernel_rfl) (fun _ _ _ h => h) (by kernel_rfl) (prev_bel _ _) ?_ ?_
      rotate_left
      · intro uu (pu : Prev uu _)
        go_simp
        try (with_reducible rfl)
      simp only [List.set]
      refine wpAnyH_on (i := 16) (d := 103) (v := ?_) rfl rfl (by kernel_rfl) (by kernel_rfl) (by kernel_rfl) (fun _ _ _ h => h) (by kernel_rfl) (prev_bel _ _) ?_ ?_
      rotate_left
      · intro uu (pu : Prev uu _)
        go_simp
        try (with_reducible rfl)
      simp only [List.set]
      refine wpAnyH_on (i := 17) (d := 104) (v := ?_) rfl rfl (by kernel_rfl) (by kernel_rfl) (by kernel_rfl) (fun _ _ _ h => h) (by kernel_rfl) (prev_bel _ _) ?_ ?_
      rotate_left
      · intro uu (pu : Prev uu _)
        go_simp
        try (with_reducible rfl)
      simp only [List.set]
      refine wpAnyH_on (i := 18) (d := 105) (v := ?_) rfl rfl (by kernel_rfl) (by kernel_rfl) (by kernel_rfl) (fun _ _ _ h => h) (by kernel_rfl) (prev_bel _ _) ?_ ?_
      rotate_left
      · intro uu (pu : Prev uu _)
        go_simp
        try (with_reducible rfl)
      simp only [List.set]
      refine wpAnyH_on (i := 19) (d := 106) (v := ?_) rfl rfl (by kernel_rfl) (by kernel_rfl) (by kernel_rfl) (fun _ _ _ h => h) (by kernel_rfl) (prev_bel _ _) ?_ ?_
      rotate_left
      · intro uu (pu : Prev uu _)
        go_simp
        try (with_reducible rfl)
      simp only [List.set]
      refine wpAnyH_on (i := 20) (d := 107) (v := ?_) rfl rfl (by kernel_rfl) (by kernel_rfl) (by kernel_rfl) (fun _ _ _ h => h) (by kernel_rfl) (prev_bel _ _) ?_ ?_
      rotate_left
      · intro uu (pu : Prev uu _)
        go_simp
        try (with_reducible rfl)
      simp only [List.set]
      refine wpAnyH_on (i := 21) (d := 108) (v := ?_) rfl rfl (by kernel_rfl) (by kernel_rfl) (by kernel_rfl) (fun _ _ _ h => h) (by kernel_rfl) (prev_bel _ _) ?_ ?_
      rotate_left
      · intro uu (pu : Prev uu _)
        go_simp
        try (with_reducible rfl)
      simp only [List.set]
      refine wpAnyH_on (i := 22) (d := 109) (v := ?_) rfl rfl (by kernel_rfl) (by kernel_rfl) (by kernel_rfl) (fun _ _ _ h => h) (by kernel_rfl) (prev_bel _ _) ?_ ?_
      rotate_left
      · intro uu (pu : Prev uu _)
        go_simp
        try (with_reducible rfl)
      simp only [List.set]
      refine wpAnyH_done (by kernel_rfl) ?_ _
      go_wp2_with fail
      rw [rounds_succ]
      go_wp2_with fail
      go_loopw [117] (fun i wr => ∃ k : Nat, k ≤ x0.length ∧ i = .int .i64 k ∧ Prev wr vz) (fun i _ => x0.length - (intOf i).toNat)
      case atStart => exact ⟨0, Nat.zero_le _, rfl, prev_bel _ _⟩
      case round =>
        obtain ⟨k, hk, rfl, hp⟩ := hrel
        by_cases hlt : k < x0.length
        · obtain ⟨b2, o2, x, rfl, ob2, cx, hx⟩ := t0.get hlt
          obtain ⟨b4, o4, gk, rfl, ob4, cg, hg⟩ := sC.get (k := k) (by rw [HGL.out]; exact hlt)
          have hkg : k < xg.length := by rw [HGL.out]; exact hlt
          have hkX : k < X.length := by rw [HXL.out]; exact hlt
          have hkY : k < Y.length := by rw [HYL.out]; exact hlt
          have ix : I6 x := I6s.at hx.out
          have iy : I6 gk := I6s.at hg.out
          have is := HI.out k
          have cy := oX.cell (show X[k]? = some (slopeX kind kk x (sec ts k) gk) by
            rw [HX.out, bkX, List.getElem?_map, List.getElem?_range (by rw [HX0.out]; exact hlt), HX0.out]
            simp only [Option.map_some, getD_some hx.out, getD_some hg.out])
          have cz := oY.cell (show Y[k]? = some (slopeY kind x gk) by
            rw [HY.out, bkY, List.getElem?_map, List.getElem?_range (by rw [HX0.out]; exact hlt), HX0.out]
            simp only [Option.map_some, getD_some hx.out, getD_some hg.out])
          go_wp2_with fail
          refine wp_region_up0 (by kernel_rfl) (fun vu _ => ?_)
          refine wpAnyH_on (i := 0) (d := 123) (v := ?_) rfl rfl (by kernel_rfl) (by kernel_rfl) (by kernel_rfl) (fun _ _ _ h => h) (by kernel_rfl) (prev_bel _ _) ?_ ?_
          rotate_left
          · intro uu (pu : Prev uu _)
            go_simp
            try (with_reducible rfl)
          simp only [List.set]
          refine wpAnyH_on (i := 1) (d := 124) (v := ?_) rfl rfl (by kernel_rfl) (by kernel_rfl) (by kernel_rfl) (fun _ _ _ h => h) (by kernel_rfl) (prev_bel _ _) ?_ ?_
          rotate_left
          · intro uu (pu : Prev uu _)
            go_simp
            try (with_reducible rfl)
          simp only [List.set]
          refine wpAnyH_on (i := 2) (d := 125) (v := ?_) rfl rfl (by kernel_rfl) (by kernel_rfl) (by kernel_rfl) (fun _ _ _ h => h) (by kernel_rfl) (prev_bel _ _) ?_ ?_
          rotate_left
          · intro uu (pu : Prev uu _)
            go_simp
            try (with_reducible rfl)
          simp only [List.set]
          refine wpAnyH_on (i := 3) (d := 126) (v := ?_) rfl rfl (by kernel_rfl) (by kernel_rfl) (by kernel_rfl) (fun _ _ _ h => h) (by kernel_rfl) (prev_bel _ _) ?_ ?_
          rotate_left
          · intro uu (pu : Prev uu _)
            go_simp
            try (with_reducible rfl)
          simp only [List.set]
          refine wpAnyH_on (i := 4) (d := 127) (v := ?_) rfl rfl (by kernel_rfl) (by kernel_rfl) (by kernel_rfl) (fun _ _ _ h => h) (by kernel_rfl) (prev_bel _ _) ?_ ?_
          rotate_left
          · intro uu (pu : Prev uu _)
            go_simp
            try (with_reducible rfl)
          simp only [List.set]
          refine wpAnyH_on (i := 5) (d := 128) (v := ?_) rfl rfl (by kernel_rfl) (by kernel_rfl) (by kernel_rfl) (fun _ _ _ h => h) (by kernel_rfl) (prev_bel _ _) ?_ ?_
          rotate_left
          · intro uu (pu : Prev uu _)
            go_simp
            try (with_reducible rfl)
          simp only [List.set]
          refine wpAnyH_on (i := 6) (d := 129) (v := ?_) rfl rfl (by kernel_rfl) (by kernel_rfl) (by kernel_rfl) (fun _ _ _ h => h) (by kernel_rfl) (prev_bel _ _) ?_ ?_
          rotate_left
          · intro uu (pu : Prev uu _)
            go_simp
            try (with_reducible rfl)
          simp only [List.set]
          refine wpAnyH_on (i := 7) (d := 130) (v := ?_) rfl rfl (by kernel_rfl) (by kernel_rfl) (by kernel_rfl) (fun _ _ _ h => h) (by kernel_rfl) (prev_bel _ _) ?_ ?_
          rotate_left
          · intro uu (pu : Prev uu _)
            go_simp
            try (with_reducible rfl)
          simp only [List.set]
          refine wpAnyH_on (i := 9) (d := 132) (v := ?_) rfl rfl (by kernel_rfl) (by kernel_rfl) (by kernel_rfl) (fun _ _ _ h => h) (by kernel_rfl) (prev_bel _ _) ?_ ?_
          rotate_left
          · intro uu (pu : Prev uu _)
            go_simp
            try (with_reducible rfl)
          simp only [List.set]
          refine wpAnyH_on (i := 10) (d := 133) (v := ?_) rfl rfl (by kernel_rfl) (by kernel_rfl) (by kernel_rfl) (fun _ _ _ h => h) (by kernel_rfl) (prev_bel _ _) ?_ ?_
          rotate_left
          · intro uu (pu : Prev uu _)
            go_simp
            try (with_reducible rfl)
          simp only [List.set]
          refine wpAnyH_on (i := 11) (d := 134) (v := ?_) rfl rfl (by kernel_rfl) (by kernel_rfl) (by kernel_rfl) (fun _ _ _ h => h) (by kernel_rfl) (prev_bel _ _) ?_ ?_
          rotate_left
          · intro uu (pu : Prev uu _)
            go_simp
            try (with_reducible rfl)
          simp only [List.set]
          refine wpAnyH_on (i := 12) (d := 135) (v := ?_) rfl rfl (by kernel_rfl) (by kernel_rfl) (by kernel_rfl) (fun _ _ _ h => h) (by kernel_rfl) (prev_bel _ _) ?_ ?_
          rotate_left
          · intro uu (pu : Prev uu _)
            go_simp
            try (with_reducible rfl)
          simp only [List.set]
          refine wpAnyH_on (i := 13) (d := 136) (v := ?_) rfl rfl (by kernel_rfl) (by kernel_rfl) (by kernel_rfl) (fun _ _ _ h => h) (by kernel_rfl) (prev_bel _ _) ?_ ?_
          rotate_left
          · intro uu (pu : Prev uu _)
            go_simp
            try (with_reducible rfl)
          simp only [List.set]
          refine wpAnyH_on (i := 14) (d := 137) (v := ?_) rfl rfl (by kernel_rfl) (by kernel_rfl) (by kernel_rfl) (fun _ _ _ h => h) (by kernel_rfl) (prev_bel _ _) ?_ ?_
          rotate_left
          · intro uu (pu : Prev uu _)
            go_simp
            try (with_reducible rfl)
          simp only [List.set]
          refine wpAnyH_ready (rs := [8]) (by kernel_rfl) (by simp) ?_
          refine AllReadyH.cons rfl (fun K hK => ?_) AllReadyH.nil
          go_simp
          (with_reducible refine (a05_other).mono ?_)
          rintro e vu ⟨rfl, _⟩
          dsimp only
          refine hK.out _ _ (prev_bel _ _) (fun hHeld => ?_)
          clear hHeld hK K
          try dsimp only [Act.put, List.setIfInBounds_toArray, List.set_cons_zero, List.set_cons_succ]
          refine wpAnyH_ready (rs := [15]) (by kernel_rfl) (by simp) ?_
          refine AllReadyH.cons rfl (fun K hK => ?_) AllReadyH.nil
          go_simp
          (with_reducible refine (r5_slope).mono ?_)
          rintro e vu ⟨rfl, _⟩
          dsimp only
          refine hK.out _ _ (prev_bel _ _) (fun hHeld => ?_)
          clear hHeld hK K
          try dsimp only [Act.put, List.setIfInBounds_toArray, List.set_cons_zero, List.set_cons_succ]
          refine wpAnyH_on (i := 16) (d := 122) (v := ?_) rfl rfl (by kernel_rfl) (by kernel_rfl) (by kernel_rfl) (fun _ _ _ h => h) (by kernel_rfl) (prev_bel _ _) ?_ ?_
          rotate_left
          · intro uu (pu : Prev uu _)
            go_simp
            try (with_reducible rfl)
          simp only [List.set]
          refine wpAnyH_on (i := 17) (d := 139) (v := ?_) rfl rfl (by kernel_rfl) (by kernel_rfl) (by kernel_rfl) (fun _ _ _ h => h) (by kernel_rfl) (prev_bel _ _) ?_ ?_
          rotate_left
          · intro uu (pu : Prev uu _)
            go_simp
            try (with_reducible rfl)
          simp only [List.set]
          refine wpAnyH_on (i := 18) (d := 140) (v := ?_) rfl rfl (by kernel_rfl) (by kernel_rfl) (by kernel_rfl) (fun _ _ _ h => h) (by kernel_rfl) (prev_bel _ _) ?_ ?_
          rotate_left
          · intro uu (pu : Prev uu _)
            go_simp
            try (with_reducible rfl)
          simp only [List.set]
          refine wpAnyH_on (i := 19) (d := 9) (v := ?_) rfl rfl (by kernel_rfl) (by kernel_rfl) (by kernel_rfl) (fun _ _ _ h => h) (by kernel_rfl) (prev_bel _ _) ?_ ?_
          rotate_left
          · intro uu (pu : Prev uu _)
            go_simp
            try (with_reducible rfl)
          simp only [List.set]
          refine wpAnyH_on (i := 20) (d := 10) (v := ?_) rfl rfl (by kernel_rfl) (by kernel_rfl) (by kernel_rfl) (fun _ _ _ h => h) (by kernel_rfl) (prev_bel _ _) ?_ ?_
          rotate_left
          · intro uu (pu : Prev uu _)
            go_simp
            try (with_reducible rfl)
          simp only [List.set]
          refine wpAnyH_done (by kernel_rfl) ?_ _
          go_wp2_with fail
          go_roundw
          case rel => exact ⟨k + 1, by omega, by go_num, prev_bel _ _⟩
          case measure => simp [intOf]; omega
        · go_wp2_with (first | (go_at_call 29; (try first | (with_reducible refine gen_boxK3 (fun u _ _ _ _ => ?_)) | (with_reducible refine gen_boxK2 (fun u _ _ _ => ?_)) | (with_reducible refine gen_boxK (fun u _ _ => ?_))); (with_reducible refine (a05_awake).mono ?_); rintro e u ⟨rfl, _⟩))
          go_ret
          exact ⟨rfl, bel w _⟩

end Go.Proofs.Ytingmabmglpmaaa
