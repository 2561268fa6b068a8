/- The walk of fits of the statements on dense layers. -/
import Derived.Test.YthcdjdhnjbdfeaaLaw06
namespace Go.Proofs.Ythcdjdhnjbdfeaa
open Go.RowKit

theorem retB_bdrew {P : Program} {f : FuncId} {args : Array Value} {w : World} {b : Bool} (h : Calls P f args w (RetBoolDrew w b)) : Calls P f args w (RetB w (.bool b)) := h.mono fun _ _ ⟨he, m, hw⟩ => ⟨he, hw ▸ below_drewN (Below.refl _ _) m⟩

set_option maxRecDepth 100000 in
set_option maxHeartbeats 8000000 in
theorem l06_fits (A B C D E F G H : Option Addr) (c d c' d' e' f' g' h' : Nat) (zs xs ts ys us vs ps gs : List Int) (w : World) (hzl : zs.length ≤ 1000000) (htl : ts.length ≤ 1000000) (hul : us.length ≤ 1000000) (h1 : Rd w A zs) (h3 : Rd w C ts) (h5 : Rd w E us) :
    Calls Try.prog 35 #[.agg #[.slice A zs.length c, .slice B xs.length d, .slice C ts.length c', .slice D ys.length d', .slice E us.length e', .slice F vs.length f', .slice G ps.length g', .slice H gs.length h']] w (RetB w (.bool (agreeB zs xs ts ys us vs))) := by
  have b1 := (Below.refl w.heap.size w).alloc (Nat.le_refl _) (.cells #[.slice A zs.length c, .slice B xs.length d, .slice C ts.length c', .slice D ys.length d', .slice E us.length e', .slice F vs.length f', .slice G ps.length g', .slice H gs.length h'] 57)
  have k1 := Blk.new w 57 #[.slice A zs.length c, .slice B xs.length d, .slice C ts.length c', .slice D ys.length d', .slice E us.length e', .slice F vs.length f', .slice G ps.length g', .slice H gs.length h']
  replace h1 := h1.below b1
  replace h3 := h3.below b1
  replace h5 := h5.below b1
  have C1 := Lib.hid fun (w' : World) (h : Rd w' A zs) => l06_right A B c d zs xs w' hzl h
  have C2 := Lib.hid fun (w' : World) (h : Rd w' C ts) => l06_right C D c' d' ts ys w' htl h
  have C3 := Lib.hid fun (w' : World) (h : Rd w' E us) => l06_right E F e' f' us vs w' hul h
  rcases q1 : tRightB zs xs with _ | _
  · rw [q1] at C1
    have HV : Hid (agreeB zs xs ts ys us vs = false) := Lib.hid (by simp [agreeB, flatB, q1])
    clear q1
    go_enter Try.func35, Try.ntmps35
    go_wp2_with fail
    generalize w.alloc (.cells #[.slice A zs.length c, .slice B xs.length d, .slice C ts.length c', .slice D ys.length d', .slice E us.length e', .slice F vs.length f', .slice G ps.length g', .slice H gs.length h'] 57) = W0 at *
    have HK0 : Hid (∀ w' : World, Below (W0).heap.size (W0) w' → Below (W0).heap.size (W0) w' ∧ w'.cell? ⟨w.heap.size, 0, none⟩ = some (.slice A zs.length c) ∧ w'.cell? ⟨w.heap.size, 1, none⟩ = some (.slice B xs.length d) ∧ w'.cell? ⟨w.heap.size, 2, none⟩ = some (.slice C ts.length c') ∧ w'.cell? ⟨w.heap.size, 3, none⟩ = some (.slice D ys.length d') ∧ w'.cell? ⟨w.heap.size, 4, none⟩ = some (.slice E us.length e') ∧ w'.cell? ⟨w.heap.size, 5, none⟩ = some (.slice F vs.length f')) := Lib.hid (fun w' hbk => ⟨hbk, (k1.keep hbk).cell 0, (k1.keep hbk).cell 1, (k1.keep hbk).cell 2, (k1.keep hbk).cell 3, (k1.keep hbk).cell 4, (k1.keep hbk).cell 5⟩)
    refine wp_region_held_drew (S := fun w' => Below (W0).heap.size (W0) w' ∧ w'.cell? ⟨w.heap.size, 0, none⟩ = some (.slice A zs.length c) ∧ w'.cell? ⟨w.heap.size, 1, none⟩ = some (.slice B xs.length d) ∧ w'.cell? ⟨w.heap.size, 2, none⟩ = some (.slice C ts.length c') ∧ w'.cell? ⟨w.heap.size, 3, none⟩ = some (.slice D ys.length d') ∧ w'.cell? ⟨w.heap.size, 4, none⟩ = some (.slice E us.length e') ∧ w'.cell? ⟨w.heap.size, 5, none⟩ = some (.slice F vs.length f')) (by kernel_rfl) (HK0.out _ (Below.refl _ _).drew) (fun hHeld => ?_)
    have hNow : Below (W0).heap.size (W0) (W0).drew := (Below.refl _ _).drew
    refine wpAnyH_on (i := 0) (d := 3) (v := ?_) rfl rfl (by kernel_rfl) (by kernel_rfl) (by kernel_rfl) (fun _ _ _ h => h) (by kernel_rfl) (by assumption) ?_ ?_
    rotate_left
    · intro w hSw
      (try dsimp only at hSw)
      go_simp
      try (with_reducible rfl)
    simp only [List.set]
    refine wpAnyH_on (i := 1) (d := 4) (v := ?_) rfl rfl (by kernel_rfl) (by kernel_rfl) (by kernel_rfl) (fun _ _ _ h => h) (by kernel_rfl) (by assumption) ?_ ?_
    rotate_left
    · intro w hSw
      (try dsimp only at hSw)
      go_simp
      try (with_reducible rfl)
    simp only [List.set]
    refine wpAnyH_ready (rs := [2]) (by kernel_rfl) (by simp) ?_
    refine AllReadyH.cons rfl (fun K hK => ?_) AllReadyH.nil
    go_simp
    refine (C1.out _ (h1.below hNow)).mono ?_
    rintro e w1 ⟨rfl, hb⟩
    dsimp only
    replace hNow := btr hNow hb
    clear hb
    refine hK.out _ _ (HK0.out _ hNow) (fun hHeld => ?_)
    clear hK K
    try dsimp only [Act.put, List.setIfInBounds_toArray, List.set_cons_zero, List.set_cons_succ]
    refine wpAnyH_on (i := 3) (d := 6) (v := ?_) rfl rfl (by kernel_rfl) (by kernel_rfl) (by kernel_rfl) (fun _ _ _ h => h) (by kernel_rfl) (by assumption) ?_ ?_
    rotate_left
    · intro w hSw
      (try dsimp only at hSw)
      go_simp
      try (with_reducible rfl)
    simp only [List.set]
    refine wpAnyH_off (i := 4) (d := 7) rfl rfl (by kernel_rfl) (by kernel_rfl) (by kernel_rfl) (fun _ _ _ h => h) (by kernel_rfl) (by assumption) ?_
    simp only [List.set]
    refine wpAnyH_off (i := 5) (d := 8) rfl rfl (by kernel_rfl) (by kernel_rfl) (by kernel_rfl) (fun _ _ _ h => h) (by kernel_rfl) (by assumption) ?_
    simp only [List.set]
    refine wpAnyH_off (i := 6) (d := 9) rfl rfl (by kernel_rfl) (by kernel_rfl) (by kernel_rfl) (fun _ _ _ h => h) (by kernel_rfl) (by assumption) ?_
    simp only [List.set]
    refine wpAnyH_on (i := 7) (d := 10) (v := ?_) rfl rfl (by kernel_rfl) (by kernel_rfl) (by kernel_rfl) (fun _ _ _ h => h) (by kernel_rfl) (by assumption) ?_ ?_
    rotate_left
    · intro w hSw
      (try dsimp only at hSw)
      go_simp
      try (with_reducible rfl)
    simp only [List.set]
    refine wpAnyH_on (i := 8) (d := 11) (v := ?_) rfl rfl (by kernel_rfl) (by kernel_rfl) (by kernel_rfl) (fun _ _ _ h => h) (by kernel_rfl) (by assumption) ?_ ?_
    rotate_left
    · intro w hSw
      (try dsimp only at hSw)
      go_simp
      try (with_reducible rfl)
    simp only [List.set]
    refine wpAnyH_off (i := 9) (d := 12) rfl rfl (by kernel_rfl) (by kernel_rfl) (by kernel_rfl) (fun _ _ _ h => h) (by kernel_rfl) (by assumption) ?_
    simp only [List.set]
    refine wpAnyH_off (i := 10) (d := 13) rfl rfl (by kernel_rfl) (by kernel_rfl) (by kernel_rfl) (fun _ _ _ h => h) (by kernel_rfl) (by assumption) ?_
    simp only [List.set]
    refine wpAnyH_off (i := 11) (d := 14) rfl rfl (by kernel_rfl) (by kernel_rfl) (by kernel_rfl) (fun _ _ _ h => h) (by kernel_rfl) (by assumption) ?_
    simp only [List.set]
    refine wpAnyH_on (i := 12) (d := 15) (v := ?_) rfl rfl (by kernel_rfl) (by kernel_rfl) (by kernel_rfl) (fun _ _ _ h => h) (by kernel_rfl) (by assumption) ?_ ?_
    rotate_left
    · intro w hSw
      (try dsimp only at hSw)
      go_simp
      try (with_reducible rfl)
    simp only [List.set]
    refine wpAnyH_on (i := 13) (d := 16) (v := ?_) rfl rfl (by kernel_rfl) (by kernel_rfl) (by kernel_rfl) (fun _ _ _ h => h) (by kernel_rfl) (by assumption) ?_ ?_
    rotate_left
    · intro w hSw
      (try dsimp only at hSw)
      go_simp
      try (with_reducible rfl)
    simp only [List.set]
    refine wpAnyH_off (i := 14) (d := 17) rfl rfl (by kernel_rfl) (by kernel_rfl) (by kernel_rfl) (fun _ _ _ h => h) (by kernel_rfl) (by assumption) ?_
    simp only [List.set]
    refine wpAnyH_off (i := 15) (d := 18) rfl rfl (by kernel_rfl) (by kernel_rfl) (by kernel_rfl) (fun _ _ _ h => h) (by kernel_rfl) (by assumption) ?_
    simp only [List.set]
    refine wpAnyH_off (i := 16) (d := 19) rfl rfl (by kernel_rfl) (by kernel_rfl) (by kernel_rfl) (fun _ _ _ h => h) (by kernel_rfl) (by assumption) ?_
    simp only [List.set]
    refine wpAnyH_off (i := 17) (d := 20) rfl rfl (by kernel_rfl) (by kernel_rfl) (by kernel_rfl) (fun _ _ _ h => h) (by kernel_rfl) (by assumption) ?_
    simp only [List.set]
    refine wpAnyH_off (i := 18) (d := 21) rfl rfl (by kernel_rfl) (by kernel_rfl) (by kernel_rfl) (fun _ _ _ h => h) (by kernel_rfl) (by assumption) ?_
    simp only [List.set]
    refine wpAnyH_on (i := 19) (d := 22) (v := ?_) rfl rfl (by kernel_rfl) (by kernel_rfl) (by kernel_rfl) (fun _ _ _ h => h) (by kernel_rfl) (by assumption) ?_ ?_
    rotate_left
    · intro w hSw
      (try dsimp only at hSw)
      go_simp
      try (with_reducible rfl)
    simp only [List.set]
    refine wpAnyH_on (i := 20) (d := 23) (v := ?_) rfl rfl (by kernel_rfl) (by kernel_rfl) (by kernel_rfl) (fun _ _ _ h => h) (by kernel_rfl) (by assumption) ?_ ?_
    rotate_left
    · intro w hSw
      (try dsimp only at hSw)
      go_simp
      try (with_reducible rfl)
    simp only [List.set]
    refine wpAnyH_off (i := 21) (d := 24) rfl rfl (by kernel_rfl) (by kernel_rfl) (by kernel_rfl) (fun _ _ _ h => h) (by kernel_rfl) (by assumption) ?_
    simp only [List.set]
    refine wpAnyH_off (i := 22) (d := 25) rfl rfl (by kernel_rfl) (by kernel_rfl) (by kernel_rfl) (fun _ _ _ h => h) (by kernel_rfl) (by assumption) ?_
    simp only [List.set]
    refine wpAnyH_off (i := 23) (d := 26) rfl rfl (by kernel_rfl) (by kernel_rfl) (by kernel_rfl) (fun _ _ _ h => h) (by kernel_rfl) (by assumption) ?_
    simp only [List.set]
    refine wpAnyH_off (i := 24) (d := 27) rfl rfl (by kernel_rfl) (by kernel_rfl) (by kernel_rfl) (fun _ _ _ h => h) (by kernel_rfl) (by assumption) ?_
    simp only [List.set]
    refine wpAnyH_off (i := 25) (d := 28) rfl rfl (by kernel_rfl) (by kernel_rfl) (by kernel_rfl) (fun _ _ _ h => h) (by kernel_rfl) (by assumption) ?_
    simp only [List.set]
    refine wpAnyH_off (i := 26) (d := 29) rfl rfl (by kernel_rfl) (by kernel_rfl) (by kernel_rfl) (fun _ _ _ h => h) (by kernel_rfl) (by assumption) ?_
    simp only [List.set]
    refine wpAnyH_off (i := 27) (d := 30) rfl rfl (by kernel_rfl) (by kernel_rfl) (by kernel_rfl) (fun _ _ _ h => h) (by kernel_rfl) (by assumption) ?_
    simp only [List.set]
    refine wpAnyH_off (i := 28) (d := 31) rfl rfl (by kernel_rfl) (by kernel_rfl) (by kernel_rfl) (fun _ _ _ h => h) (by kernel_rfl) (by assumption) ?_
    simp only [List.set]
    refine wpAnyH_off (i := 29) (d := 32) rfl rfl (by kernel_rfl) (by kernel_rfl) (by kernel_rfl) (fun _ _ _ h => h) (by kernel_rfl) (by assumption) ?_
    simp only [List.set]
    refine wpAnyH_off (i := 30) (d := 33) rfl rfl (by kernel_rfl) (by kernel_rfl) (by kernel_rfl) (fun _ _ _ h => h) (by kernel_rfl) (by assumption) ?_
    simp only [List.set]
    refine wpAnyH_on (i := 31) (d := 34) (v := ?_) rfl rfl (by kernel_rfl) (by kernel_rfl) (by kernel_rfl) (fun _ _ _ h => h) (by kernel_rfl) (by assumption) ?_ ?_
    rotate_left
    · intro w hSw
      (try dsimp only at hSw)
      go_simp
      try (with_reducible rfl)
    simp only [List.set]
    refine wpAnyH_on (i := 32) (d := 35) (v := ?_) rfl rfl (by kernel_rfl) (by kernel_rfl) (by kernel_rfl) (fun _ _ _ h => h) (by kernel_rfl) (by assumption) ?_ ?_
    rotate_left
    · intro w hSw
      (try dsimp only at hSw)
      go_simp
      try (with_reducible rfl)
    simp only [List.set]
    refine wpAnyH_off (i := 33) (d := 36) rfl rfl (by kernel_rfl) (by kernel_rfl) (by kernel_rfl) (fun _ _ _ h => h) (by kernel_rfl) (by assumption) ?_
    simp only [List.set]
    refine wpAnyH_off (i := 34) (d := 37) rfl rfl (by kernel_rfl) (by kernel_rfl) (by kernel_rfl) (fun _ _ _ h => h) (by kernel_rfl) (by assumption) ?_
    simp only [List.set]
    refine wpAnyH_off (i := 35) (d := 38) rfl rfl (by kernel_rfl) (by kernel_rfl) (by kernel_rfl) (fun _ _ _ h => h) (by kernel_rfl) (by assumption) ?_
    simp only [List.set]
    refine wpAnyH_off (i := 36) (d := 39) rfl rfl (by kernel_rfl) (by kernel_rfl) (by kernel_rfl) (fun _ _ _ h => h) (by kernel_rfl) (by assumption) ?_
    simp only [List.set]
    refine wpAnyH_off (i := 37) (d := 40) rfl rfl (by kernel_rfl) (by kernel_rfl) (by kernel_rfl) (fun _ _ _ h => h) (by kernel_rfl) (by assumption) ?_
    simp only [List.set]
    refine wpAnyH_off (i := 38) (d := 41) rfl rfl (by kernel_rfl) (by kernel_rfl) (by kernel_rfl) (fun _ _ _ h => h) (by kernel_rfl) (by assumption) ?_
    simp only [List.set]
    refine wpAnyH_off (i := 39) (d := 42) rfl rfl (by kernel_rfl) (by kernel_rfl) (by kernel_rfl) (fun _ _ _ h => h) (by kernel_rfl) (by assumption) ?_
    simp only [List.set]
    refine wpAnyH_off (i := 40) (d := 43) rfl rfl (by kernel_rfl) (by kernel_rfl) (by kernel_rfl) (fun _ _ _ h => h) (by kernel_rfl) (by assumption) ?_
    simp only [List.set]
    refine wpAnyH_off (i := 41) (d := 44) rfl rfl (by kernel_rfl) (by kernel_rfl) (by kernel_rfl) (fun _ _ _ h => h) (by kernel_rfl) (by assumption) ?_
    simp only [List.set]
    refine wpAnyH_off (i := 42) (d := 45) rfl rfl (by kernel_rfl) (by kernel_rfl) (by kernel_rfl) (fun _ _ _ h => h) (by kernel_rfl) (by assumption) ?_
    simp only [List.set]
    refine wpAnyH_on (i := 43) (d := 46) (v := ?_) rfl rfl (by kernel_rfl) (by kernel_rfl) (by kernel_rfl) (fun _ _ _ h => h) (by kernel_rfl) (by assumption) ?_ ?_
    rotate_left
    · intro w hSw
      (try dsimp only at hSw)
      go_simp
      try (with_reducible rfl)
    simp only [List.set]
    refine wpAnyH_on (i := 44) (d := 2) (v := ?_) rfl rfl (by kernel_rfl) (by kernel_rfl) (by kernel_rfl) (fun _ _ _ h => h) (by kernel_rfl) (by assumption) ?_ ?_
    rotate_left
    · intro w hSw
      (try dsimp only at hSw)
      go_simp
      try (with_reducible rfl)
    simp only [List.set]
    refine wpAnyH_done (by kernel_rfl) ?_ _
    go_wp2_with fail
    go_ret
    exact ⟨ret_bool HV.out.symm, btr b1 hNow⟩
  rcases q2 : tRightB ts ys with _ | _
  · rw [q1] at C1
    rw [q2] at C2
    have HV : Hid (agreeB zs xs ts ys us vs = false) := Lib.hid (by simp [agreeB, flatB, q2])
    clear q1 q2
    go_enter Try.func35, Try.ntmps35
    go_wp2_with fail
    generalize w.alloc (.cells #[.slice A zs.length c, .slice B xs.length d, .slice C ts.length c', .slice D ys.length d', .slice E us.length e', .slice F vs.length f', .slice G ps.length g', .slice H gs.length h'] 57) = W0 at *
    have HK0 : Hid (∀ w' : World, Below (W0).heap.size (W0) w' → Below (W0).heap.size (W0) w' ∧ w'.cell? ⟨w.heap.size, 0, none⟩ = some (.slice A zs.length c) ∧ w'.cell? ⟨w.heap.size, 1, none⟩ = some (.slice B xs.length d) ∧ w'.cell? ⟨w.heap.size, 2, none⟩ = some (.slice C ts.length c') ∧ w'.cell? ⟨w.heap.size, 3, none⟩ = some (.slice D ys.length d') ∧ w'.cell? ⟨w.heap.size, 4, none⟩ = some (.slice E us.length e') ∧ w'.cell? ⟨w.heap.size, 5, none⟩ = some (.slice F vs.length f')) := Lib.hid (fun w' hbk => ⟨hbk, (k1.keep hbk).cell 0, (k1.keep hbk).cell 1, (k1.keep hbk).cell 2, (k1.keep hbk).cell 3, (k1.keep hbk).cell 4, (k1.keep hbk).cell 5⟩)
    refine wp_region_held_drew (S := fun w' => Below (W0).heap.size (W0) w' ∧ w'.cell? ⟨w.heap.size, 0, none⟩ = some (.slice A zs.length c) ∧ w'.cell? ⟨w.heap.size, 1, none⟩ = some (.slice B xs.length d) ∧ w'.cell? ⟨w.heap.size, 2, none⟩ = some (.slice C ts.length c') ∧ w'.cell? ⟨w.heap.size, 3, none⟩ = some (.slice D ys.length d') ∧ w'.cell? ⟨w.heap.size, 4, none⟩ = some (.slice E us.length e') ∧ w'.cell? ⟨w.heap.size, 5, none⟩ = some (.slice F vs.length f')) (by kernel_rfl) (HK0.out _ (Below.refl _ _).drew) (fun hHeld => ?_)
    have hNow : Below (W0).heap.size (W0) (W0).drew := (Below.refl _ _).drew
    refine wpAnyH_on (i := 0) (d := 3) (v := ?_) rfl rfl (by kernel_rfl) (by kernel_rfl) (by kernel_rfl) (fun _ _ _ h => h) (by kernel_rfl) (by assumption) ?_ ?_
    rotate_left
    · intro w hSw
      (try dsimp only at hSw)
      go_simp
      try (with_reducible rfl)
    simp only [List.set]
    refine wpAnyH_on (i := 1) (d := 4) (v := ?_) rfl rfl (by kernel_rfl) (by kernel_rfl) (by kernel_rfl) (fun _ _ _ h => h) (by kernel_rfl) (by assumption) ?_ ?_
    rotate_left
    · intro w hSw
      (try dsimp only at hSw)
      go_simp
      try (with_reducible rfl)
    simp only [List.set]
    refine wpAnyH_ready (rs := [2]) (by kernel_rfl) (by simp) ?_
    refine AllReadyH.cons rfl (fun K hK => ?_) AllReadyH.nil
    go_simp
    refine (C1.out _ (h1.below hNow)).mono ?_
    rintro e w1 ⟨rfl, hb⟩
    dsimp only
    replace hNow := btr hNow hb
    clear hb
    refine hK.out _ _ (HK0.out _ hNow) (fun hHeld => ?_)
    clear hK K
    try dsimp only [Act.put, List.setIfInBounds_toArray, List.set_cons_zero, List.set_cons_succ]
    refine wpAnyH_on (i := 3) (d := 6) (v := ?_) rfl rfl (by kernel_rfl) (by kernel_rfl) (by kernel_rfl) (fun _ _ _ h => h) (by kernel_rfl) (by assumption) ?_ ?_
    rotate_left
    · intro w hSw
      (try dsimp only at hSw)
      go_simp
      try (with_reducible rfl)
    simp only [List.set]
    refine wpAnyH_on (i := 4) (d := 7) (v := ?_) rfl rfl (by kernel_rfl) (by kernel_rfl) (by kernel_rfl) (fun _ _ _ h => h) (by kernel_rfl) (by assumption) ?_ ?_
    rotate_left
    · intro w hSw
      (try dsimp only at hSw)
      go_simp
      try (with_reducible rfl)
    simp only [List.set]
    refine wpAnyH_on (i := 5) (d := 8) (v := ?_) rfl rfl (by kernel_rfl) (by kernel_rfl) (by kernel_rfl) (fun _ _ _ h => h) (by kernel_rfl) (by assumption) ?_ ?_
    rotate_left
    · intro w hSw
      (try dsimp only at hSw)
      go_simp
      try (with_reducible rfl)
    simp only [List.set]
    refine wpAnyH_ready (rs := [6]) (by kernel_rfl) (by simp) ?_
    refine AllReadyH.cons rfl (fun K hK => ?_) AllReadyH.nil
    go_simp
    refine (C2.out _ (h3.below hNow)).mono ?_
    rintro e w2 ⟨rfl, hb⟩
    dsimp only
    replace hNow := btr hNow hb
    clear hb
    refine hK.out _ _ (HK0.out _ hNow) (fun hHeld => ?_)
    clear hK K
    try dsimp only [Act.put, List.setIfInBounds_toArray, List.set_cons_zero, List.set_cons_succ]
    refine wpAnyH_on (i := 7) (d := 10) (v := ?_) rfl rfl (by kernel_rfl) (by kernel_rfl) (by kernel_rfl) (fun _ _ _ h => h) (by kernel_rfl) (by assumption) ?_ ?_
    rotate_left
    · intro w hSw
      (try dsimp only at hSw)
      go_simp
      try (with_reducible rfl)
    simp only [List.set]
    refine wpAnyH_on (i := 8) (d := 11) (v := ?_) rfl rfl (by kernel_rfl) (by kernel_rfl) (by kernel_rfl) (fun _ _ _ h => h) (by kernel_rfl) (by assumption) ?_ ?_
    rotate_left
    · intro w hSw
      (try dsimp only at hSw)
      go_simp
      try (with_reducible rfl)
    simp only [List.set]
    refine wpAnyH_off (i := 9) (d := 12) rfl rfl (by kernel_rfl) (by kernel_rfl) (by kernel_rfl) (fun _ _ _ h => h) (by kernel_rfl) (by assumption) ?_
    simp only [List.set]
    refine wpAnyH_off (i := 10) (d := 13) rfl rfl (by kernel_rfl) (by kernel_rfl) (by kernel_rfl) (fun _ _ _ h => h) (by kernel_rfl) (by assumption) ?_
    simp only [List.set]
    refine wpAnyH_off (i := 11) (d := 14) rfl rfl (by kernel_rfl) (by kernel_rfl) (by kernel_rfl) (fun _ _ _ h => h) (by kernel_rfl) (by assumption) ?_
    simp only [List.set]
    refine wpAnyH_on (i := 12) (d := 15) (v := ?_) rfl rfl (by kernel_rfl) (by kernel_rfl) (by kernel_rfl) (fun _ _ _ h => h) (by kernel_rfl) (by assumption) ?_ ?_
    rotate_left
    · intro w hSw
      (try dsimp only at hSw)
      go_simp
      try (with_reducible rfl)
    simp only [List.set]
    refine wpAnyH_on (i := 13) (d := 16) (v := ?_) rfl rfl (by kernel_rfl) (by kernel_rfl) (by kernel_rfl) (fun _ _ _ h => h) (by kernel_rfl) (by assumption) ?_ ?_
    rotate_left
    · intro w hSw
      (try dsimp only at hSw)
      go_simp
      try (with_reducible rfl)
    simp only [List.set]
    refine wpAnyH_off (i := 14) (d := 17) rfl rfl (by kernel_rfl) (by kernel_rfl) (by kernel_rfl) (fun _ _ _ h => h) (by kernel_rfl) (by assumption) ?_
    simp only [List.set]
    refine wpAnyH_off (i := 15) (d := 18) rfl rfl (by kernel_rfl) (by kernel_rfl) (by kernel_rfl) (fun _ _ _ h => h) (by kernel_rfl) (by assumption) ?_
    simp only [List.set]
    refine wpAnyH_off (i := 16) (d := 19) rfl rfl (by kernel_rfl) (by kernel_rfl) (by kernel_rfl) (fun _ _ _ h => h) (by kernel_rfl) (by assumption) ?_
    simp only [List.set]
    refine wpAnyH_off (i := 17) (d := 20) rfl rfl (by kernel_rfl) (by kernel_rfl) (by kernel_rfl) (fun _ _ _ h => h) (by kernel_rfl) (by assumption) ?_
    simp only [List.set]
    refine wpAnyH_off (i := 18) (d := 21) rfl rfl (by kernel_rfl) (by kernel_rfl) (by kernel_rfl) (fun _ _ _ h => h) (by kernel_rfl) (by assumption) ?_
    simp only [List.set]
    refine wpAnyH_on (i := 19) (d := 22) (v := ?_) rfl rfl (by kernel_rfl) (by kernel_rfl) (by kernel_rfl) (fun _ _ _ h => h) (by kernel_rfl) (by assumption) ?_ ?_
    rotate_left
    · intro w hSw
      (try dsimp only at hSw)
      go_simp
      try (with_reducible rfl)
    simp only [List.set]
    refine wpAnyH_on (i := 20) (d := 23) (v := ?_) rfl rfl (by kernel_rfl) (by kernel_rfl) (by kernel_rfl) (fun _ _ _ h => h) (by kernel_rfl) (by assumption) ?_ ?_
    rotate_left
    · intro w hSw
      (try dsimp only at hSw)
      go_simp
      try (with_reducible rfl)
    simp only [List.set]
    refine wpAnyH_off (i := 21) (d := 24) rfl rfl (by kernel_rfl) (by kernel_rfl) (by kernel_rfl) (fun _ _ _ h => h) (by kernel_rfl) (by assumption) ?_
    simp only [List.set]
    refine wpAnyH_off (i := 22) (d := 25) rfl rfl (by kernel_rfl) (by kernel_rfl) (by kernel_rfl) (fun _ _ _ h => h) (by kernel_rfl) (by assumption) ?_
    simp only [List.set]
    refine wpAnyH_off (i := 23) (d := 26) rfl rfl (by kernel_rfl) (by kernel_rfl) (by kernel_rfl) (fun _ _ _ h => h) (by kernel_rfl) (by assumption) ?_
    simp only [List.set]
    refine wpAnyH_off (i := 24) (d := 27) rfl rfl (by kernel_rfl) (by kernel_rfl) (by kernel_rfl) (fun _ _ _ h => h) (by kernel_rfl) (by assumption) ?_
    simp only [List.set]
    refine wpAnyH_off (i := 25) (d := 28) rfl rfl (by kernel_rfl) (by kernel_rfl) (by kernel_rfl) (fun _ _ _ h => h) (by kernel_rfl) (by assumption) ?_
    simp only [List.set]
    refine wpAnyH_off (i := 26) (d := 29) rfl rfl (by kernel_rfl) (by kernel_rfl) (by kernel_rfl) (fun _ _ _ h => h) (by kernel_rfl) (by assumption) ?_
    simp only [List.set]
    refine wpAnyH_off (i := 27) (d := 30) rfl rfl (by kernel_rfl) (by kernel_rfl) (by kernel_rfl) (fun _ _ _ h => h) (by kernel_rfl) (by assumption) ?_
    simp only [List.set]
    refine wpAnyH_off (i := 28) (d := 31) rfl rfl (by kernel_rfl) (by kernel_rfl) (by kernel_rfl) (fun _ _ _ h => h) (by kernel_rfl) (by assumption) ?_
    simp only [List.set]
    refine wpAnyH_off (i := 29) (d := 32) rfl rfl (by kernel_rfl) (by kernel_rfl) (by kernel_rfl) (fun _ _ _ h => h) (by kernel_rfl) (by assumption) ?_
    simp only [List.set]
    refine wpAnyH_off (i := 30) (d := 33) rfl rfl (by kernel_rfl) (by kernel_rfl) (by kernel_rfl) (fun _ _ _ h => h) (by kernel_rfl) (by assumption) ?_
    simp only [List.set]
    refine wpAnyH_on (i := 31) (d := 34) (v := ?_) rfl rfl (by kernel_rfl) (by kernel_rfl) (by kernel_rfl) (fun _ _ _ h => h) (by kernel_rfl) (by assumption) ?_ ?_
    rotate_left
    · intro w hSw
      (try dsimp only at hSw)
      go_simp
      try (with_reducible rfl)
    simp only [List.set]
    refine wpAnyH_on (i := 32) (d := 35) (v := ?_) rfl rfl (by kernel_rfl) (by kernel_rfl) (by kernel_rfl) (fun _ _ _ h => h) (by kernel_rfl) (by assumption) ?_ ?_
    rotate_left
    · intro w hSw
      (try dsimp only at hSw)
      go_simp
      try (with_reducible rfl)
    simp only [List.set]
    refine wpAnyH_off (i := 33) (d := 36) rfl rfl (by kernel_rfl) (by kernel_rfl) (by kernel_rfl) (fun _ _ _ h => h) (by kernel_rfl) (by assumption) ?_
    simp only [List.set]
    refine wpAnyH_off (i := 34) (d := 37) rfl rfl (by kernel_rfl) (by kernel_rfl) (by kernel_rfl) (fun _ _ _ h => h) (by kernel_rfl) (by assumption) ?_
    simp only [List.set]
    refine wpAnyH_off (i := 35) (d := 38) rfl rfl (by kernel_rfl) (by kernel_rfl) (by kernel_rfl) (fun _ _ _ h => h) (by kernel_rfl) (by assumption) ?_
    simp only [List.set]
    refine wpAnyH_off (i := 36) (d := 39) rfl rfl (by kernel_rfl) (by kernel_rfl) (by kernel_rfl) (fun _ _ _ h => h) (by kernel_rfl) (by assumption) ?_
    simp only [List.set]
    refine wpAnyH_off (i := 37) (d := 40) rfl rfl (by kernel_rfl) (by kernel_rfl) (by kernel_rfl) (fun _ _ _ h => h) (by kernel_rfl) (by assumption) ?_
    simp only [List.set]
    refine wpAnyH_off (i := 38) (d := 41) rfl rfl (by kernel_rfl) (by kernel_rfl) (by kernel_rfl) (fun _ _ _ h => h) (by kernel_rfl) (by assumption) ?_
    simp only [List.set]
    refine wpAnyH_off (i := 39) (d := 42) rfl rfl (by kernel_rfl) (by kernel_rfl) (by kernel_rfl) (fun _ _ _ h => h) (by kernel_rfl) (by assumption) ?_
    simp only [List.set]
    refine wpAnyH_off (i := 40) (d := 43) rfl rfl (by kernel_rfl) (by kernel_rfl) (by kernel_rfl) (fun _ _ _ h => h) (by kernel_rfl) (by assumption) ?_
    simp only [List.set]
    refine wpAnyH_off (i := 41) (d := 44) rfl rfl (by kernel_rfl) (by kernel_rfl) (by kernel_rfl) (fun _ _ _ h => h) (by kernel_rfl) (by assumption) ?_
    simp only [List.set]
    refine wpAnyH_off (i := 42) (d := 45) rfl rfl (by kernel_rfl) (by kernel_rfl) (by kernel_rfl) (fun _ _ _ h => h) (by kernel_rfl) (by assumption) ?_
    simp only [List.set]
    refine wpAnyH_on (i := 43) (d := 46) (v := ?_) rfl rfl (by kernel_rfl) (by kernel_rfl) (by kernel_rfl) (fun _ _ _ h => h) (by kernel_rfl) (by assumption) ?_ ?_
    rotate_left
    · intro w hSw
      (try dsimp only at hSw)
      go_simp
      try (with_reducible rfl)
    simp only [List.set]
    refine wpAnyH_on (i := 44) (d := 2) (v := ?_) rfl rfl (by kernel_rfl) (by kernel_rfl) (by kernel_rfl) (fun _ _ _ h => h) (by kernel_rfl) (by assumption) ?_ ?_
    rotate_left
    · intro w hSw
      (try dsimp only at hSw)
      go_simp
      try (with_reducible rfl)
    simp only [List.set]
    refine wpAnyH_done (by kernel_rfl) ?_ _
    go_wp2_with fail
    go_ret
    exact ⟨ret_bool HV.out.symm, btr b1 hNow⟩
  rcases q3 : tRightB us vs with _ | _
  · rw [q1] at C1
    rw [q2] at C2
    rw [q3] at C3
    have HV : Hid (agreeB zs xs ts ys us vs = false) := Lib.hid (by simp [agreeB, flatB, q3])
    clear q1 q2 q3
    go_enter Try.func35, Try.ntmps35
    go_wp2_with fail
    generalize w.alloc (.cells #[.slice A zs.length c, .slice B xs.length d, .slice C ts.length c', .slice D ys.length d', .slice E us.length e', .slice F vs.length f', .slice G ps.length g', .slice H gs.length h'] 57) = W0 at *
    have HK0 : Hid (∀ w' : World, Below (W0).heap.size (W0) w' → Below (W0).heap.size (W0) w' ∧ w'.cell? ⟨w.heap.size, 0, none⟩ = some (.slice A zs.length c) ∧ w'.cell? ⟨w.heap.size, 1, none⟩ = some (.slice B xs.length d) ∧ w'.cell? ⟨w.heap.size, 2, none⟩ = some (.slice C ts.length c') ∧ w'.cell? ⟨w.heap.size, 3, none⟩ = some (.slice D ys.length d') ∧ w'.cell? ⟨w.heap.size, 4, none⟩ = some (.slice E us.length e') ∧ w'.cell? ⟨w.heap.size, 5, none⟩ = some (.slice F vs.length f')) := Lib.hid (fun w' hbk => ⟨hbk, (k1.keep hbk).cell 0, (k1.keep hbk).cell 1, (k1.keep hbk).cell 2, (k1.keep hbk).cell 3, (k1.keep hbk).cell 4, (k1.keep hbk).cell 5⟩)
    refine wp_region_held_drew (S := fun w' => Below (W0).heap.size (W0) w' ∧ w'.cell? ⟨w.heap.size, 0, none⟩ = some (.slice A zs.length c) ∧ w'.cell? ⟨w.heap.size, 1, none⟩ = some (.slice B xs.length d) ∧ w'.cell? ⟨w.heap.size, 2, none⟩ = some (.slice C ts.length c') ∧ w'.cell? ⟨w.heap.size, 3, none⟩ = some (.slice D ys.length d') ∧ w'.cell? ⟨w.heap.size, 4, none⟩ = some (.slice E us.length e') ∧ w'.cell? ⟨w.heap.size, 5, none⟩ = some (.slice F vs.length f')) (by kernel_rfl) (HK0.out _ (Below.refl _ _).drew) (fun hHeld => ?_)
    have hNow : Below (W0).heap.size (W0) (W0).drew := (Below.refl _ _).drew
    refine wpAnyH_on (i := 0) (d := 3) (v := ?_) rfl rfl (by kernel_rfl) (by kernel_rfl) (by kernel_rfl) (fun _ _ _ h => h) (by kernel_rfl) (by assumption) ?_ ?_
    rotate_left
    · intro w hSw
      (try dsimp only at hSw)
      go_simp
      try (with_reducible rfl)
    simp only [List.set]
    refine wpAnyH_on (i := 1) (d := 4) (v := ?_) rfl rfl (by kernel_rfl) (by kernel_rfl) (by kernel_rfl) (fun _ _ _ h => h) (by kernel_rfl) (by assumption) ?_ ?_
    rotate_left
    · intro w hSw
      (try dsimp only at hSw)
      go_simp
      try (with_reducible rfl)
    simp only [List.set]
    refine wpAnyH_ready (rs := [2]) (by kernel_rfl) (by simp) ?_
    refine AllReadyH.cons rfl (fun K hK => ?_) AllReadyH.nil
    go_simp
    refine (C1.out _ (h1.below hNow)).mono ?_
    rintro e w1 ⟨rfl, hb⟩
    dsimp only
    replace hNow := btr hNow hb
    clear hb
    refine hK.out _ _ (HK0.out _ hNow) (fun hHeld => ?_)
    clear hK K
    try dsimp only [Act.put, List.setIfInBounds_toArray, List.set_cons_zero, List.set_cons_succ]
    refine wpAnyH_on (i := 3) (d := 6) (v := ?_) rfl rfl (by kernel_rfl) (by kernel_rfl) (by kernel_rfl) (fun _ _ _ h => h) (by kernel_rfl) (by assumption) ?_ ?_
    rotate_left
    · intro w hSw
      (try dsimp only at hSw)
      go_simp
      try (with_reducible rfl)
    simp only [List.set]
    refine wpAnyH_on (i := 4) (d := 7) (v := ?_) rfl rfl (by kernel_rfl) (by kernel_rfl) (by kernel_rfl) (fun _ _ _ h => h) (by kernel_rfl) (by assumption) ?_ ?_
    rotate_left
    · intro w hSw
      (try dsimp only at hSw)
      go_simp
      try (with_reducible rfl)
    simp only [List.set]
    refine wpAnyH_on (i := 5) (d := 8) (v := ?_) rfl rfl (by kernel_rfl) (by kernel_rfl) (by kernel_rfl) (fun _ _ _ h => h) (by kernel_rfl) (by assumption) ?_ ?_
    rotate_left
    · intro w hSw
      (try dsimp only at hSw)
      go_simp
      try (with_reducible rfl)
    simp only [List.set]
    refine wpAnyH_ready (rs := [6]) (by kernel_rfl) (by simp) ?_
    refine AllReadyH.cons rfl (fun K hK => ?_) AllReadyH.nil
    go_simp
    refine (C2.out _ (h3.below hNow)).mono ?_
    rintro e w2 ⟨rfl, hb⟩
    dsimp only
    replace hNow := btr hNow hb
    clear hb
    refine hK.out _ _ (HK0.out _ hNow) (fun hHeld => ?_)
    clear hK K
    try dsimp only [Act.put, List.setIfInBounds_toArray, List.set_cons_zero, List.set_cons_succ]
    refine wpAnyH_on (i := 7) (d := 10) (v := ?_) rfl rfl (by kernel_rfl) (by kernel_rfl) (by kernel_rfl) (fun _ _ _ h => h) (by kernel_rfl) (by assumption) ?_ ?_
    rotate_left
    · intro w hSw
      (try dsimp only at hSw)
      go_simp
      try (with_reducible rfl)
    simp only [List.set]
    refine wpAnyH_on (i := 8) (d := 11) (v := ?_) rfl rfl (by kernel_rfl) (by kernel_rfl) (by kernel_rfl) (fun _ _ _ h => h) (by kernel_rfl) (by assumption) ?_ ?_
    rotate_left
    · intro w hSw
      (try dsimp only at hSw)
      go_simp
      try (with_reducible rfl)
    simp only [List.set]
    refine wpAnyH_on (i := 9) (d := 12) (v := ?_) rfl rfl (by kernel_rfl) (by kernel_rfl) (by kernel_rfl) (fun _ _ _ h => h) (by kernel_rfl) (by assumption) ?_ ?_
    rotate_left
    · intro w hSw
      (try dsimp only at hSw)
      go_simp
      try (with_reducible rfl)
    simp only [List.set]
    refine wpAnyH_on (i := 10) (d := 13) (v := ?_) rfl rfl (by kernel_rfl) (by kernel_rfl) (by kernel_rfl) (fun _ _ _ h => h) (by kernel_rfl) (by assumption) ?_ ?_
    rotate_left
    · intro w hSw
      (try dsimp only at hSw)
      go_simp
      try (with_reducible rfl)
    simp only [List.set]
    refine wpAnyH_ready (rs := [11]) (by kernel_rfl) (by simp) ?_
    refine AllReadyH.cons rfl (fun K hK => ?_) AllReadyH.nil
    go_simp
    refine (C3.out _ (h5.below hNow)).mono ?_
    rintro e w3 ⟨rfl, hb⟩
    dsimp only
    replace hNow := btr hNow hb
    clear hb
    refine hK.out _ _ (HK0.out _ hNow) (fun hHeld => ?_)
    clear hK K
    try dsimp only [Act.put, List.setIfInBounds_toArray, List.set_cons_zero, List.set_cons_succ]
    refine wpAnyH_on (i := 12) (d := 15) (v := ?_) rfl rfl (by kernel_rfl) (by kernel_rfl) (by kernel_rfl) (fun _ _ _ h => h) (by kernel_rfl) (by assumption) ?_ ?_
    rotate_left
    · intro w hSw
      (try dsimp only at hSw)
      go_simp
      try (with_reducible rfl)
    simp only [List.set]
    refine wpAnyH_on (i := 13) (d := 16) (v := ?_) rfl rfl (by kernel_rfl) (by kernel_rfl) (by kernel_rfl) (fun _ _ _ h => h) (by kernel_rfl) (by assumption) ?_ ?_
    rotate_left
    · intro w hSw
      (try dsimp only at hSw)
      go_simp
      try (with_reducible rfl)
    simp only [List.set]
    refine wpAnyH_off (i := 14) (d := 17) rfl rfl (by kernel_rfl) (by kernel_rfl) (by kernel_rfl) (fun _ _ _ h => h) (by kernel_rfl) (by assumption) ?_
    simp only [List.set]
    refine wpAnyH_off (i := 15) (d := 18) rfl rfl (by kernel_rfl) (by kernel_rfl) (by kernel_rfl) (fun _ _ _ h => h) (by kernel_rfl) (by assumption) ?_
    simp only [List.set]
    refine wpAnyH_off (i := 16) (d := 19) rfl rfl (by kernel_rfl) (by kernel_rfl) (by kernel_rfl) (fun _ _ _ h => h) (by kernel_rfl) (by assumption) ?_
    simp only [List.set]
    refine wpAnyH_off (i := 17) (d := 20) rfl rfl (by kernel_rfl) (by kernel_rfl) (by kernel_rfl) (fun _ _ _ h => h) (by kernel_rfl) (by assumption) ?_
    simp only [List.set]
    refine wpAnyH_off (i := 18) (d := 21) rfl rfl (by kernel_rfl) (by kernel_rfl) (by kernel_rfl) (fun _ _ _ h => h) (by kernel_rfl) (by assumption) ?_
    simp only [List.set]
    refine wpAnyH_on (i := 19) (d := 22) (v := ?_) rfl rfl (by kernel_rfl) (by kernel_rfl) (by kernel_rfl) (fun _ _ _ h => h) (by kernel_rfl) (by assumption) ?_ ?_
    rotate_left
    · intro w hSw
      (try dsimp only at hSw)
      go_simp
      try (with_reducible rfl)
    simp only [List.set]
    refine wpAnyH_on (i := 20) (d := 23) (v := ?_) rfl rfl (by kernel_rfl) (by kernel_rfl) (by kernel_rfl) (fun _ _ _ h => h) (by kernel_rfl) (by assumption) ?_ ?_
    rotate_left
    · intro w hSw
      (try dsimp only at hSw)
      go_simp
      try (with_reducible rfl)
    simp only [List.set]
    refine wpAnyH_off (i := 21) (d := 24) rfl rfl (by kernel_rfl) (by kernel_rfl) (by kernel_rfl) (fun _ _ _ h => h) (by kernel_rfl) (by assumption) ?_
    simp only [List.set]
    refine wpAnyH_off (i := 22) (d := 25) rfl rfl (by kernel_rfl) (by kernel_rfl) (by kernel_rfl) (fun _ _ _ h => h) (by kernel_rfl) (by assumption) ?_
    simp only [List.set]
    refine wpAnyH_off (i := 23) (d := 26) rfl rfl (by kernel_rfl) (by kernel_rfl) (by kernel_rfl) (fun _ _ _ h => h) (by kernel_rfl) (by assumption) ?_
    simp only [List.set]
    refine wpAnyH_off (i := 24) (d := 27) rfl rfl (by kernel_rfl) (by kernel_rfl) (by kernel_rfl) (fun _ _ _ h => h) (by kernel_rfl) (by assumption) ?_
    simp only [List.set]
    refine wpAnyH_off (i := 25) (d := 28) rfl rfl (by kernel_rfl) (by kernel_rfl) (by kernel_rfl) (fun _ _ _ h => h) (by kernel_rfl) (by assumption) ?_
    simp only [List.set]
    refine wpAnyH_off (i := 26) (d := 29) rfl rfl (by kernel_rfl) (by kernel_rfl) (by kernel_rfl) (fun _ _ _ h => h) (by kernel_rfl) (by assumption) ?_
    simp only [List.set]
    refine wpAnyH_off (i := 27) (d := 30) rfl rfl (by kernel_rfl) (by kernel_rfl) (by kernel_rfl) (fun _ _ _ h => h) (by kernel_rfl) (by assumption) ?_
    simp only [List.set]
    refine wpAnyH_off (i := 28) (d := 31) rfl rfl (by kernel_rfl) (by kernel_rfl) (by kernel_rfl) (fun _ _ _ h => h) (by kernel_rfl) (by assumption) ?_
    simp only [List.set]
    refine wpAnyH_off (i := 29) (d := 32) rfl rfl (by kernel_rfl) (by kernel_rfl) (by kernel_rfl) (fun _ _ _ h => h) (by kernel_rfl) (by assumption) ?_
    simp only [List.set]
    refine wpAnyH_off (i := 30) (d := 33) rfl rfl (by kernel_rfl) (by kernel_rfl) (by kernel_rfl) (fun _ _ _ h => h) (by kernel_rfl) (by assumption) ?_
    simp only [List.set]
    refine wpAnyH_on (i := 31) (d := 34) (v := ?_) rfl rfl (by kernel_rfl) (by kernel_rfl) (by kernel_rfl) (fun _ _ _ h => h) (by kernel_rfl) (by assumption) ?_ ?_
    rotate_left
    · intro w hSw
      (try dsimp only at hSw)
      go_simp
      try (with_reducible rfl)
    simp only [List.set]
    refine wpAnyH_on (i := 32) (d := 35) (v := ?_) rfl rfl (by kernel_rfl) (by kernel_rfl) (by kernel_rfl) (fun _ _ _ h => h) (by kernel_rfl) (by assumption) ?_ ?_
    rotate_left
    · intro w hSw
      (try dsimp only at hSw)
      go_simp
      try (with_reducible rfl)
    simp only [List.set]
    refine wpAnyH_off (i := 33) (d := 36) rfl rfl (by kernel_rfl) (by kernel_rfl) (by kernel_rfl) (fun _ _ _ h => h) (by kernel_rfl) (by assumption) ?_
    simp only [List.set]
    refine wpAnyH_off (i := 34) (d := 37) rfl rfl (by kernel_rfl) (by kernel_rfl) (by kernel_rfl) (fun _ _ _ h => h) (by kernel_rfl) (by assumption) ?_
    simp only [List.set]
    refine wpAnyH_off (i := 35) (d := 38) rfl rfl (by kernel_rfl) (by kernel_rfl) (by kernel_rfl) (fun _ _ _ h => h) (by kernel_rfl) (by assumption) ?_
    simp only [List.set]
    refine wpAnyH_off (i := 36) (d := 39) rfl rfl (by kernel_rfl) (by kernel_rfl) (by kernel_rfl) (fun _ _ _ h => h) (by kernel_rfl) (by assumption) ?_
    simp only [List.set]
    refine wpAnyH_off (i := 37) (d := 40) rfl rfl (by kernel_rfl) (by kernel_rfl) (by kernel_rfl) (fun _ _ _ h => h) (by kernel_rfl) (by assumption) ?_
    simp only [List.set]
    refine wpAnyH_off (i := 38) (d := 41) rfl rfl (by kernel_rfl) (by kernel_rfl) (by kernel_rfl) (fun _ _ _ h => h) (by kernel_rfl) (by assumption) ?_
    simp only [List.set]
    refine wpAnyH_off (i := 39) (d := 42) rfl rfl (by kernel_rfl) (by kernel_rfl) (by kernel_rfl) (fun _ _ _ h => h) (by kernel_rfl) (by assumption) ?_
    simp only [List.set]
    refine wpAnyH_off (i := 40) (d := 43) rfl rfl (by kernel_rfl) (by kernel_rfl) (by kernel_rfl) (fun _ _ _ h => h) (by kernel_rfl) (by assumption) ?_
    simp only [List.set]
    refine wpAnyH_off (i := 41) (d := 44) rfl rfl (by kernel_rfl) (by kernel_rfl) (by kernel_rfl) (fun _ _ _ h => h) (by kernel_rfl) (by assumption) ?_
    simp only [List.set]
    refine wpAnyH_off (i := 42) (d := 45) rfl rfl (by kernel_rfl) (by kernel_rfl) (by kernel_rfl) (fun _ _ _ h => h) (by kernel_rfl) (by assumption) ?_
    simp only [List.set]
    refine wpAnyH_on (i := 43) (d := 46) (v := ?_) rfl rfl (by kernel_rfl) (by kernel_rfl) (by kernel_rfl) (fun _ _ _ h => h) (by kernel_rfl) (by assumption) ?_ ?_
    rotate_left
    · intro w hSw
      (try dsimp only at hSw)
      go_simp
      try (with_reducible rfl)
    simp only [List.set]
    refine wpAnyH_on (i := 44) (d := 2) (v := ?_) rfl rfl (by kernel_rfl) (by kernel_rfl) (by kernel_rfl) (fun _ _ _ h => h) (by kernel_rfl) (by assumption) ?_ ?_
    rotate_left
    · intro w hSw
      (try dsimp only at hSw)
      go_simp
      try (with_reducible rfl)
    simp only [List.set]
    refine wpAnyH_done (by kernel_rfl) ?_ _
    go_wp2_with fail
    go_ret
    exact ⟨ret_bool HV.out.symm, btr b1 hNow⟩
  by_cases hl2 : zs.length = 2
  rotate_left
  · rw [q1] at C1
    rw [q2] at C2
    rw [q3] at C3
    have HV : Hid (agreeB zs xs ts ys us vs = false) := Lib.hid (by simp [agreeB, flatB, hl2])
    have e0 : ((zs.length : Int) == 2) = false := by simp; omega
    clear q1 q2 q3 hl2
    go_enter Try.func35, Try.ntmps35
    go_wp2_with fail
    generalize w.alloc (.cells #[.slice A zs.length c, .slice B xs.length d, .slice C ts.length c', .slice D ys.length d', .slice E us.length e', .slice F vs.length f', .slice G ps.length g', .slice H gs.length h'] 57) = W0 at *
    have HK0 : Hid (∀ w' : World, Below (W0).heap.size (W0) w' → Below (W0).heap.size (W0) w' ∧ w'.cell? ⟨w.heap.size, 0, none⟩ = some (.slice A zs.length c) ∧ w'.cell? ⟨w.heap.size, 1, none⟩ = some (.slice B xs.length d) ∧ w'.cell? ⟨w.heap.size, 2, none⟩ = some (.slice C ts.length c') ∧ w'.cell? ⟨w.heap.size, 3, none⟩ = some (.slice D ys.length d') ∧ w'.cell? ⟨w.heap.size, 4, none⟩ = some (.slice E us.length e') ∧ w'.cell? ⟨w.heap.size, 5, none⟩ = some (.slice F vs.length f')) := Lib.hid (fun w' hbk => ⟨hbk, (k1.keep hbk).cell 0, (k1.keep hbk).cell 1, (k1.keep hbk).cell 2, (k1.keep hbk).cell 3, (k1.keep hbk).cell 4, (k1.keep hbk).cell 5⟩)
    refine wp_region_held_drew (S := fun w' => Below (W0).heap.size (W0) w' ∧ w'.cell? ⟨w.heap.size, 0, none⟩ = some (.slice A zs.length c) ∧ w'.cell? ⟨w.heap.size, 1, none⟩ = some (.slice B xs.length d) ∧ w'.cell? ⟨w.heap.size, 2, none⟩ = some (.slice C ts.length c') ∧ w'.cell? ⟨w.heap.size, 3, none⟩ = some (.slice D ys.length d') ∧ w'.cell? ⟨w.heap.size, 4, none⟩ = some (.slice E us.length e') ∧ w'.cell? ⟨w.heap.size, 5, none⟩ = some (.slice F vs.length f')) (by kernel_rfl) (HK0.out _ (Below.refl _ _).drew) (fun hHeld => ?_)
    have hNow : Below (W0).heap.size (W0) (W0).drew := (Below.refl _ _).drew
    refine wpAnyH_on (i := 0) (d := 3) (v := ?_) rfl rfl (by kernel_rfl) (by kernel_rfl) (by kernel_rfl) (fun _ _ _ h => h) (by kernel_rfl) (by assumption) ?_ ?_
    rotate_left
    · intro w hSw
      (try dsimp only at hSw)
      go_simp
      try (with_reducible rfl)
    simp only [List.set]
    refine wpAnyH_on (i := 1) (d := 4) (v := ?_) rfl rfl (by kernel_rfl) (by kernel_rfl) (by kernel_rfl) (fun _ _ _ h => h) (by kernel_rfl) (by assumption) ?_ ?_
    rotate_left
    · intro w hSw
      (try dsimp only at hSw)
      go_simp
      try (with_reducible rfl)
    simp only [List.set]
    refine wpAnyH_ready (rs := [2]) (by kernel_rfl) (by simp) ?_
    refine AllReadyH.cons rfl (fun K hK => ?_) AllReadyH.nil
    go_simp
    refine (C1.out _ (h1.below hNow)).mono ?_
    rintro e w1 ⟨rfl, hb⟩
    dsimp only
    replace hNow := btr hNow hb
    clear hb
    refine hK.out _ _ (HK0.out _ hNow) (fun hHeld => ?_)
    clear hK K
    try dsimp only [Act.put, List.setIfInBounds_toArray, List.set_cons_zero, List.set_cons_succ]
    refine wpAnyH_on (i := 3) (d := 6) (v := ?_) rfl rfl (by kernel_rfl) (by kernel_rfl) (by kernel_rfl) (fun _ _ _ h => h) (by kernel_rfl) (by assumption) ?_ ?_
    rotate_left
    · intro w hSw
      (try dsimp only at hSw)
      go_simp
      try (with_reducible rfl)
    simp only [List.set]
    refine wpAnyH_on (i := 4) (d := 7) (v := ?_) rfl rfl (by kernel_rfl) (by kernel_rfl) (by kernel_rfl) (fun _ _ _ h => h) (by kernel_rfl) (by assumption) ?_ ?_
    rotate_left
    · intro w hSw
      (try dsimp only at hSw)
      go_simp
      try (with_reducible rfl)
    simp only [List.set]
    refine wpAnyH_on (i := 5) (d := 8) (v := ?_) rfl rfl (by kernel_rfl) (by kernel_rfl) (by kernel_rfl) (fun _ _ _ h => h) (by kernel_rfl) (by assumption) ?_ ?_
    rotate_left
    · intro w hSw
      (try dsimp only at hSw)
      go_simp
      try (with_reducible rfl)
    simp only [List.set]
    refine wpAnyH_ready (rs := [6]) (by kernel_rfl) (by simp) ?_
    refine AllReadyH.cons rfl (fun K hK => ?_) AllReadyH.nil
    go_simp
    refine (C2.out _ (h3.below hNow)).mono ?_
    rintro e w2 ⟨rfl, hb⟩
    dsimp only
    replace hNow := btr hNow hb
    clear hb
    refine hK.out _ _ (HK0.out _ hNow) (fun hHeld => ?_)
    clear hK K
    try dsimp only [Act.put, List.setIfInBounds_toArray, List.set_cons_zero, List.set_cons_succ]
    refine wpAnyH_on (i := 7) (d := 10) (v := ?_) rfl rfl (by kernel_rfl) (by kernel_rfl) (by kernel_rfl) (fun _ _ _ h => h) (by kernel_rfl) (by assumption) ?_ ?_
    rotate_left
    · intro w hSw
      (try dsimp only at hSw)
      go_simp
      try (with_reducible rfl)
    simp only [List.set]
    refine wpAnyH_on (i := 8) (d := 11) (v := ?_) rfl rfl (by kernel_rfl) (by kernel_rfl) (by kernel_rfl) (fun _ _ _ h => h) (by kernel_rfl) (by assumption) ?_ ?_
    rotate_left
    · intro w hSw
      (try dsimp only at hSw)
      go_simp
      try (with_reducible rfl)
    simp only [List.set]
    refine wpAnyH_on (i := 9) (d := 12) (v := ?_) rfl rfl (by kernel_rfl) (by kernel_rfl) (by kernel_rfl) (fun _ _ _ h => h) (by kernel_rfl) (by assumption) ?_ ?_
    rotate_left
    · intro w hSw
      (try dsimp only at hSw)
      go_simp
      try (with_reducible rfl)
    simp only [List.set]
    refine wpAnyH_on (i := 10) (d := 13) (v := ?_) rfl rfl (by kernel_rfl) (by kernel_rfl) (by kernel_rfl) (fun _ _ _ h => h) (by kernel_rfl) (by assumption) ?_ ?_
    rotate_left
    · intro w hSw
      (try dsimp only at hSw)
      go_simp
      try (with_reducible rfl)
    simp only [List.set]
    refine wpAnyH_ready (rs := [11]) (by kernel_rfl) (by simp) ?_
    refine AllReadyH.cons rfl (fun K hK => ?_) AllReadyH.nil
    go_simp
    refine (C3.out _ (h5.below hNow)).mono ?_
    rintro e w3 ⟨rfl, hb⟩
    dsimp only
    replace hNow := btr hNow hb
    clear hb
    refine hK.out _ _ (HK0.out _ hNow) (fun hHeld => ?_)
    clear hK K
    try dsimp only [Act.put, List.setIfInBounds_toArray, List.set_cons_zero, List.set_cons_succ]
    refine wpAnyH_on (i := 12) (d := 15) (v := ?_) rfl rfl (by kernel_rfl) (by kernel_rfl) (by kernel_rfl) (fun _ _ _ h => h) (by kernel_rfl) (by assumption) ?_ ?_
    rotate_left
    · intro w hSw
      (try dsimp only at hSw)
      go_simp
      try (with_reducible rfl)
    simp only [List.set]
    refine wpAnyH_on (i := 13) (d := 16) (v := ?_) rfl rfl (by kernel_rfl) (by kernel_rfl) (by kernel_rfl) (fun _ _ _ h => h) (by kernel_rfl) (by assumption) ?_ ?_
    rotate_left
    · intro w hSw
      (try dsimp only at hSw)
      go_simp
      try (with_reducible rfl)
    simp only [List.set]
    refine wpAnyH_on (i := 14) (d := 17) (v := ?_) rfl rfl (by kernel_rfl) (by kernel_rfl) (by kernel_rfl) (fun _ _ _ h => h) (by kernel_rfl) (by assumption) ?_ ?_
    rotate_left
    · intro w hSw
      (try dsimp only at hSw)
      go_simp
      try (with_reducible rfl)
    simp only [List.set]
    refine wpAnyH_on (i := 15) (d := 18) (v := ?_) rfl rfl (by kernel_rfl) (by kernel_rfl) (by kernel_rfl) (fun _ _ _ h => h) (by kernel_rfl) (by assumption) ?_ ?_
    rotate_left
    · intro w hSw
      (try dsimp only at hSw)
      go_simp
      try (with_reducible rfl)
    simp only [List.set]
    refine wpAnyH_on (i := 16) (d := 19) (v := ?_) rfl rfl (by kernel_rfl) (by kernel_rfl) (by kernel_rfl) (fun _ _ _ h => h) (by kernel_rfl) (by assumption) ?_ ?_
    rotate_left
    · intro w hSw
      (try dsimp only at hSw)
      go_simp
      try (with_reducible rfl)
    simp only [List.set]
    refine wpAnyH_on (i := 17) (d := 20) (v := ?_) rfl rfl (by kernel_rfl) (by kernel_rfl) (by kernel_rfl) (fun _ _ _ h => h) (by kernel_rfl) (by assumption) ?_ ?_
    rotate_left
    · intro w hSw
      (try dsimp only at hSw)
      go_simp
      try (with_reducible rfl)
    simp only [List.set]
    refine wpAnyH_on (i := 18) (d := 21) (v := ?_) rfl rfl (by kernel_rfl) (by kernel_rfl) (by kernel_rfl) (fun _ _ _ h => h) (by kernel_rfl) (by assumption) ?_ ?_
    rotate_left
    · intro w hSw
      (try dsimp only at hSw)
      go_simp
      try (with_reducible rfl)
    simp only [List.set]
    refine wpAnyH_on (i := 19) (d := 22) (v := ?_) rfl rfl (by kernel_rfl) (by kernel_rfl) (by kernel_rfl) (fun _ _ _ h => h) (by kernel_rfl) (by assumption) ?_ ?_
    rotate_left
    · intro w hSw
      (try dsimp only at hSw)
      go_simp
      try (with_reducible rfl)
    simp only [List.set]
    refine wpAnyH_on (i := 20) (d := 23) (v := ?_) rfl rfl (by kernel_rfl) (by kernel_rfl) (by kernel_rfl) (fun _ _ _ h => h) (by kernel_rfl) (by assumption) ?_ ?_
    rotate_left
    · intro w hSw
      (try dsimp only at hSw)
      go_simp
      try (with_reducible rfl)
    simp only [List.set]
    refine wpAnyH_off (i := 21) (d := 24) rfl rfl (by kernel_rfl) (by kernel_rfl) (by kernel_rfl) (fun _ _ _ h => h) (by kernel_rfl) (by assumption) ?_
    simp only [List.set]
    refine wpAnyH_off (i := 22) (d := 25) rfl rfl (by kernel_rfl) (by kernel_rfl) (by kernel_rfl) (fun _ _ _ h => h) (by kernel_rfl) (by assumption) ?_
    simp only [List.set]
    refine wpAnyH_off (i := 23) (d := 26) rfl rfl (by kernel_rfl) (by kernel_rfl) (by kernel_rfl) (fun _ _ _ h => h) (by kernel_rfl) (by assumption) ?_
    simp only [List.set]
    refine wpAnyH_off (i := 24) (d := 27) rfl rfl (by kernel_rfl) (by kernel_rfl) (by kernel_rfl) (fun _ _ _ h => h) (by kernel_rfl) (by assumption) ?_
    simp only [List.set]
    refine wpAnyH_off (i := 25) (d := 28) rfl rfl (by kernel_rfl) (by kernel_rfl) (by kernel_rfl) (fun _ _ _ h => h) (by kernel_rfl) (by assumption) ?_
    simp only [List.set]
    refine wpAnyH_off (i := 26) (d := 29) rfl rfl (by kernel_rfl) (by kernel_rfl) (by kernel_rfl) (fun _ _ _ h => h) (by kernel_rfl) (by assumption) ?_
    simp only [List.set]
    refine wpAnyH_off (i := 27) (d := 30) rfl rfl (by kernel_rfl) (by kernel_rfl) (by kernel_rfl) (fun _ _ _ h => h) (by kernel_rfl) (by assumption) ?_
    simp only [List.set]
    refine wpAnyH_off (i := 28) (d := 31) rfl rfl (by kernel_rfl) (by kernel_rfl) (by kernel_rfl) (fun _ _ _ h => h) (by kernel_rfl) (by assumption) ?_
    simp only [List.set]
    refine wpAnyH_off (i := 29) (d := 32) rfl rfl (by kernel_rfl) (by kernel_rfl) (by kernel_rfl) (fun _ _ _ h => h) (by kernel_rfl) (by assumption) ?_
    simp only [List.set]
    refine wpAnyH_off (i := 30) (d := 33) rfl rfl (by kernel_rfl) (by kernel_rfl) (by kernel_rfl) (fun _ _ _ h => h) (by kernel_rfl) (by assumption) ?_
    simp only [List.set]
    refine wpAnyH_on (i := 31) (d := 34) (v := ?_) rfl rfl (by kernel_rfl) (by kernel_rfl) (by kernel_rfl) (fun _ _ _ h => h) (by kernel_rfl) (by assumption) ?_ ?_
    rotate_left
    · intro w hSw
      (try dsimp only at hSw)
      go_simp
      try (with_reducible rfl)
    simp only [List.set]
    refine wpAnyH_on (i := 32) (d := 35) (v := ?_) rfl rfl (by kernel_rfl) (by kernel_rfl) (by kernel_rfl) (fun _ _ _ h => h) (by kernel_rfl) (by assumption) ?_ ?_
    rotate_left
    · intro w hSw
      (try dsimp only at hSw)
      go_simp
      try (with_reducible rfl)
    simp only [List.set]
    refine wpAnyH_off (i := 33) (d := 36) rfl rfl (by kernel_rfl) (by kernel_rfl) (by kernel_rfl) (fun _ _ _ h => h) (by kernel_rfl) (by assumption) ?_
    simp only [List.set]
    refine wpAnyH_off (i := 34) (d := 37) rfl rfl (by kernel_rfl) (by kernel_rfl) (by kernel_rfl) (fun _ _ _ h => h) (by kernel_rfl) (by assumption) ?_
    simp only [List.set]
    refine wpAnyH_off (i := 35) (d := 38) rfl rfl (by kernel_rfl) (by kernel_rfl) (by kernel_rfl) (fun _ _ _ h => h) (by kernel_rfl) (by assumption) ?_
    simp only [List.set]
    refine wpAnyH_off (i := 36) (d := 39) rfl rfl (by kernel_rfl) (by kernel_rfl) (by kernel_rfl) (fun _ _ _ h => h) (by kernel_rfl) (by assumption) ?_
    simp only [List.set]
    refine wpAnyH_off (i := 37) (d := 40) rfl rfl (by kernel_rfl) (by kernel_rfl) (by kernel_rfl) (fun _ _ _ h => h) (by kernel_rfl) (by assumption) ?_
    simp only [List.set]
    refine wpAnyH_off (i := 38) (d := 41) rfl rfl (by kernel_rfl) (by kernel_rfl) (by kernel_rfl) (fun _ _ _ h => h) (by kernel_rfl) (by assumption) ?_
    simp only [List.set]
    refine wpAnyH_off (i := 39) (d := 42) rfl rfl (by kernel_rfl) (by kernel_rfl) (by kernel_rfl) (fun _ _ _ h => h) (by kernel_rfl) (by assumption) ?_
    simp only [List.set]
    refine wpAnyH_off (i := 40) (d := 43) rfl rfl (by kernel_rfl) (by kernel_rfl) (by kernel_rfl) (fun _ _ _ h => h) (by kernel_rfl) (by assumption) ?_
    simp only [List.set]
    refine wpAnyH_off (i := 41) (d := 44) rfl rfl (by kernel_rfl) (by kernel_rfl) (by kernel_rfl) (fun _ _ _ h => h) (by kernel_rfl) (by assumption) ?_
    simp only [List.set]
    refine wpAnyH_off (i := 42) (d := 45) rfl rfl (by kernel_rfl) (by kernel_rfl) (by kernel_rfl) (fun _ _ _ h => h) (by kernel_rfl) (by assumption) ?_
    simp only [List.set]
    refine wpAnyH_on (i := 43) (d := 46) (v := ?_) rfl rfl (by kernel_rfl) (by kernel_rfl) (by kernel_rfl) (fun _ _ _ h => h) (by kernel_rfl) (by assumption) ?_ ?_
    rotate_left
    · intro w hSw
      (try dsimp only at hSw)
      go_simp
      try (with_reducible rfl)
    simp only [List.set]
    refine wpAnyH_on (i := 44) (d := 2) (v := ?_) rfl rfl (by kernel_rfl) (by kernel_rfl) (by kernel_rfl) (fun _ _ _ h => h) (by kernel_rfl) (by assumption) ?_ ?_
    rotate_left
    · intro w hSw
      (try dsimp only at hSw)
      go_simp
      try (with_reducible rfl)
    simp only [List.set]
    refine wpAnyH_done (by kernel_rfl) ?_ _
    go_wp2_with fail
    go_ret
    exact ⟨ret_bool HV.out.symm, btr b1 hNow⟩
  obtain ⟨z0, z1, rfl⟩ : ∃ z0 z1, zs = [z0, z1] := by
    match zs, hl2 with
    | [z0, z1], _ => exact ⟨z0, z1, rfl⟩
  obtain ⟨ba, oa, rfl, hba, hca⟩ := h1 0 z0 rfl
  have hcb := h1.all (k := 1) (z := z1) rfl
  have hcaL : (ba : Nat) < (w.alloc (.cells #[.slice (some ⟨ba, oa, none⟩) [z0, z1].length c, .slice B xs.length d, .slice C ts.length c', .slice D ys.length d', .slice E us.length e', .slice F vs.length f', .slice G ps.length g', .slice H gs.length h'] 57)).heap.size := hba
  clear hl2
  by_cases q4 : ts = [z0]
  · rw [q1] at C1
    rw [q2] at C2
    rw [q3] at C3
    have HV : Hid (agreeB [z0, z1] xs ts ys us vs = ((vs.length : Int) == z1)) := Lib.hid (by rw [agreeB, flatB, q1, q2, q3, q4, Bool.eq_iff_iff]; simp)
    have CE := Lib.hid fun (g : Nat) (w' : World) (h : Rd w' C ts) (ho : Own w' g 3 [z0]) => retB_bdrew (ref_same C (some ⟨g, 0, none⟩) c' 1 ts [z0] w' htl (by simp) h ho.rd)
    rw [decide_eq_true q4] at CE
    clear q1 q2 q3 q4
    go_enter Try.func35, Try.ntmps35
    go_wp2_with fail
    generalize w.alloc (.cells #[.slice (some ⟨ba, oa, none⟩) 2 c, .slice B xs.length d, .slice C ts.length c', .slice D ys.length d', .slice E us.length e', .slice F vs.length f', .slice G ps.length g', .slice H gs.length h'] 57) = W0 at *
    obtain ⟨t0, t1⟩ : W0.cell? ⟨ba, oa, none⟩ = some (.int .i64 z0) ∧ W0.cell? ⟨ba, oa + 1, none⟩ = some (.int .i64 z1) := ⟨hca, hcb⟩
    have HK0 : Hid (∀ w' : World, Below (W0).heap.size (W0) w' → Below (W0).heap.size (W0) w' ∧ w'.cell? ⟨w.heap.size, 0, none⟩ = some (.slice (some ⟨ba, oa, none⟩) 2 c) ∧ w'.cell? ⟨w.heap.size, 1, none⟩ = some (.slice B xs.length d) ∧ w'.cell? ⟨w.heap.size, 2, none⟩ = some (.slice C ts.length c') ∧ w'.cell? ⟨w.heap.size, 3, none⟩ = some (.slice D ys.length d') ∧ w'.cell? ⟨w.heap.size, 4, none⟩ = some (.slice E us.length e') ∧ w'.cell? ⟨w.heap.size, 5, none⟩ = some (.slice F vs.length f') ∧ w'.cell? ⟨ba, oa, none⟩ = some (.int .i64 z0) ∧ w'.cell? ⟨ba, oa + 1, none⟩ = some (.int .i64 z1)) := Lib.hid (fun w' hbk => ⟨hbk, (k1.keep hbk).cell 0, (k1.keep hbk).cell 1, (k1.keep hbk).cell 2, (k1.keep hbk).cell 3, (k1.keep hbk).cell 4, (k1.keep hbk).cell 5, (hbk.cell (p := ⟨_, _, _⟩) hba).trans t0, (hbk.cell (p := ⟨_, _, _⟩) hba).trans t1⟩)
    refine wp_region_held_drew (S := fun w' => Below (W0).heap.size (W0) w' ∧ w'.cell? ⟨w.heap.size, 0, none⟩ = some (.slice (some ⟨ba, oa, none⟩) 2 c) ∧ w'.cell? ⟨w.heap.size, 1, none⟩ = some (.slice B xs.length d) ∧ w'.cell? ⟨w.heap.size, 2, none⟩ = some (.slice C ts.length c') ∧ w'.cell? ⟨w.heap.size, 3, none⟩ = some (.slice D ys.length d') ∧ w'.cell? ⟨w.heap.size, 4, none⟩ = some (.slice E us.length e') ∧ w'.cell? ⟨w.heap.size, 5, none⟩ = some (.slice F vs.length f') ∧ w'.cell? ⟨ba, oa, none⟩ = some (.int .i64 z0) ∧ w'.cell? ⟨ba, oa + 1, none⟩ = some (.int .i64 z1)) (by kernel_rfl) (HK0.out _ (Below.refl _ _).drew) (fun hHeld => ?_)
    have hNow : Below (W0).heap.size (W0) (W0).drew := (Below.refl _ _).drew
    refine wpAnyH_on (i := 0) (d := 3) (v := ?_) rfl rfl (by kernel_rfl) (by kernel_rfl) (by kernel_rfl) (fun _ _ _ h => h) (by kernel_rfl) (by assumption) ?_ ?_
    rotate_left
    · intro w hSw
      (try dsimp only at hSw)
      go_simp
      try (with_reducible rfl)
    simp only [List.set]
    refine wpAnyH_on (i := 1) (d := 4) (v := ?_) rfl rfl (by kernel_rfl) (by kernel_rfl) (by kernel_rfl) (fun _ _ _ h => h) (by kernel_rfl) (by assumption) ?_ ?_
    rotate_left
    · intro w hSw
      (try dsimp only at hSw)
      go_simp
      try (with_reducible rfl)
    simp only [List.set]
    refine wpAnyH_ready (rs := [2]) (by kernel_rfl) (by simp) ?_
    refine AllReadyH.cons rfl (fun K hK => ?_) AllReadyH.nil
    go_simp
    refine (C1.out _ (h1.below hNow)).mono ?_
    rintro e w1 ⟨rfl, hb⟩
    dsimp only
    replace hNow := btr hNow hb
    clear hb
    refine hK.out _ _ (HK0.out _ hNow) (fun hHeld => ?_)
    clear hK K
    try dsimp only [Act.put, List.setIfInBounds_toArray, List.set_cons_zero, List.set_cons_succ]
    refine wpAnyH_on (i := 3) (d := 6) (v := ?_) rfl rfl (by kernel_rfl) (by kernel_rfl) (by kernel_rfl) (fun _ _ _ h => h) (by kernel_rfl) (by assumption) ?_ ?_
    rotate_left
    · intro w hSw
      (try dsimp only at hSw)
      go_simp
      try (with_reducible rfl)
    simp only [List.set]
    refine wpAnyH_on (i := 4) (d := 7) (v := ?_) rfl rfl (by kernel_rfl) (by kernel_rfl) (by kernel_rfl) (fun _ _ _ h => h) (by kernel_rfl) (by assumption) ?_ ?_
    rotate_left
    · intro w hSw
      (try dsimp only at hSw)
      go_simp
      try (with_reducible rfl)
    simp only [List.set]
    refine wpAnyH_on (i := 5) (d := 8) (v := ?_) rfl rfl (by kernel_rfl) (by kernel_rfl) (by kernel_rfl) (fun _ _ _ h => h) (by kernel_rfl) (by assumption) ?_ ?_
    rotate_left
    · intro w hSw
      (try dsimp only at hSw)
      go_simp
      try (with_reducible rfl)
    simp only [List.set]
    refine wpAnyH_ready (rs := [6]) (by kernel_rfl) (by simp) ?_
    refine AllReadyH.cons rfl (fun K hK => ?_) AllReadyH.nil
    go_simp
    refine (C2.out _ (h3.below hNow)).mono ?_
    rintro e w2 ⟨rfl, hb⟩
    dsimp only
    replace hNow := btr hNow hb
    clear hb
    refine hK.out _ _ (HK0.out _ hNow) (fun hHeld => ?_)
    clear hK K
    try dsimp only [Act.put, List.setIfInBounds_toArray, List.set_cons_zero, List.set_cons_succ]
    refine wpAnyH_on (i := 7) (d := 10) (v := ?_) rfl rfl (by kernel_rfl) (by kernel_rfl) (by kernel_rfl) (fun _ _ _ h => h) (by kernel_rfl) (by assumption) ?_ ?_
    rotate_left
    · intro w hSw
      (try dsimp only at hSw)
      go_simp
      try (with_reducible rfl)
    simp only [List.set]
    refine wpAnyH_on (i := 8) (d := 11) (v := ?_) rfl rfl (by kernel_rfl) (by kernel_rfl) (by kernel_rfl) (fun _ _ _ h => h) (by kernel_rfl) (by assumption) ?_ ?_
    rotate_left
    · intro w hSw
      (try dsimp only at hSw)
      go_simp
      try (with_reducible rfl)
    simp only [List.set]
    refine wpAnyH_on (i := 9) (d := 12) (v := ?_) rfl rfl (by kernel_rfl) (by kernel_rfl) (by kernel_rfl) (fun _ _ _ h => h) (by kernel_rfl) (by assumption) ?_ ?_
    rotate_left
    · intro w hSw
      (try dsimp only at hSw)
      go_simp
      try (with_reducible rfl)
    simp only [List.set]
    refine wpAnyH_on (i := 10) (d := 13) (v := ?_) rfl rfl (by kernel_rfl) (by kernel_rfl) (by kernel_rfl) (fun _ _ _ h => h) (by kernel_rfl) (by assumption) ?_ ?_
    rotate_left
    · intro w hSw
      (try dsimp only at hSw)
      go_simp
      try (with_reducible rfl)
    simp only [List.set]
    refine wpAnyH_ready (rs := [11]) (by kernel_rfl) (by simp) ?_
    refine AllReadyH.cons rfl (fun K hK => ?_) AllReadyH.nil
    go_simp
    refine (C3.out _ (h5.below hNow)).mono ?_
    rintro e w3 ⟨rfl, hb⟩
    dsimp only
    replace hNow := btr hNow hb
    clear hb
    refine hK.out _ _ (HK0.out _ hNow) (fun hHeld => ?_)
    clear hK K
    try dsimp only [Act.put, List.setIfInBounds_toArray, List.set_cons_zero, List.set_cons_succ]
    refine wpAnyH_on (i := 12) (d := 15) (v := ?_) rfl rfl (by kernel_rfl) (by kernel_rfl) (by kernel_rfl) (fun _ _ _ h => h) (by kernel_rfl) (by assumption) ?_ ?_
    rotate_left
    · intro w hSw
      (try dsimp only at hSw)
      go_simp
      try (with_reducible rfl)
    simp only [List.set]
    refine wpAnyH_on (i := 13) (d := 16) (v := ?_) rfl rfl (by kernel_rfl) (by kernel_rfl) (by kernel_rfl) (fun _ _ _ h => h) (by kernel_rfl) (by assumption) ?_ ?_
    rotate_left
    · intro w hSw
      (try dsimp only at hSw)
      go_simp
      try (with_reducible rfl)
    simp only [List.set]
    refine wpAnyH_on (i := 14) (d := 17) (v := ?_) rfl rfl (by kernel_rfl) (by kernel_rfl) (by kernel_rfl) (fun _ _ _ h => h) (by kernel_rfl) (by assumption) ?_ ?_
    rotate_left
    · intro w hSw
      (try dsimp only at hSw)
      go_simp
      try (with_reducible rfl)
    simp only [List.set]
    refine wpAnyH_on (i := 15) (d := 18) (v := ?_) rfl rfl (by kernel_rfl) (by kernel_rfl) (by kernel_rfl) (fun _ _ _ h => h) (by kernel_rfl) (by assumption) ?_ ?_
    rotate_left
    · intro w hSw
      (try dsimp only at hSw)
      go_simp
      try (with_reducible rfl)
    simp only [List.set]
    refine wpAnyH_on (i := 16) (d := 19) (v := ?_) rfl rfl (by kernel_rfl) (by kernel_rfl) (by kernel_rfl) (fun _ _ _ h => h) (by kernel_rfl) (by assumption) ?_ ?_
    rotate_left
    · intro w hSw
      (try dsimp only at hSw)
      go_simp
      try (with_reducible rfl)
    simp only [List.set]
    refine wpAnyH_on (i := 17) (d := 20) (v := ?_) rfl rfl (by kernel_rfl) (by kernel_rfl) (by kernel_rfl) (fun _ _ _ h => h) (by kernel_rfl) (by assumption) ?_ ?_
    rotate_left
    · intro w hSw
      (try dsimp only at hSw)
      go_simp
      try (with_reducible rfl)
    simp only [List.set]
    refine wpAnyH_on (i := 18) (d := 21) (v := ?_) rfl rfl (by kernel_rfl) (by kernel_rfl) (by kernel_rfl) (fun _ _ _ h => h) (by kernel_rfl) (by assumption) ?_ ?_
    rotate_left
    · intro w hSw
      (try dsimp only at hSw)
      go_simp
      try (with_reducible rfl)
    simp only [List.set]
    refine wpAnyH_on (i := 19) (d := 22) (v := ?_) rfl rfl (by kernel_rfl) (by kernel_rfl) (by kernel_rfl) (fun _ _ _ h => h) (by kernel_rfl) (by assumption) ?_ ?_
    rotate_left
    · intro w hSw
      (try dsimp only at hSw)
      go_simp
      try (with_reducible rfl)
    simp only [List.set]
    refine wpAnyH_on (i := 20) (d := 23) (v := ?_) rfl rfl (by kernel_rfl) (by kernel_rfl) (by kernel_rfl) (fun _ _ _ h => h) (by kernel_rfl) (by assumption) ?_ ?_
    rotate_left
    · intro w hSw
      (try dsimp only at hSw)
      go_simp
      try (with_reducible rfl)
    simp only [List.set]
    refine wpAnyH_on (i := 21) (d := 24) (v := ?_) rfl rfl (by kernel_rfl) (by kernel_rfl) (by kernel_rfl) (fun _ _ _ h => h) (by kernel_rfl) (by assumption) ?_ ?_
    rotate_left
    · intro w hSw
      (try dsimp only at hSw)
      go_simp
      try (with_reducible rfl)
    simp only [List.set]
    refine wpAnyH_on (i := 22) (d := 25) (v := ?_) rfl rfl (by kernel_rfl) (by kernel_rfl) (by kernel_rfl) (fun _ _ _ h => h) (by kernel_rfl) (by assumption) ?_ ?_
    rotate_left
    · intro w hSw
      (try dsimp only at hSw)
      go_simp
      try (with_reducible rfl)
    simp only [List.set]
    refine wpAnyH_on (i := 23) (d := 26) (v := ?_) rfl rfl (by kernel_rfl) (by kernel_rfl) (by kernel_rfl) (fun _ _ _ h => h) (by kernel_rfl) (by assumption) ?_ ?_
    rotate_left
    · intro w hSw
      (try dsimp only at hSw)
      go_simp
      try (with_reducible rfl)
    simp only [List.set]
    refine wpAnyH_on (i := 24) (d := 27) (v := ?_) rfl rfl (by kernel_rfl) (by kernel_rfl) (by kernel_rfl) (fun _ _ _ h => h) (by kernel_rfl) (by assumption) ?_ ?_
    rotate_left
    · intro w hSw
      (try dsimp only at hSw)
      go_simp
      try (with_reducible rfl)
    simp only [List.set]
    refine wpAnyH_on (i := 25) (d := 28) (v := ?_) rfl rfl (by kernel_rfl) (by kernel_rfl) (by kernel_rfl) (fun _ _ _ h => h) (by kernel_rfl) (by assumption) ?_ ?_
    rotate_left
    · intro w hSw
      (try dsimp only at hSw)
      go_simp
      try (with_reducible rfl)
    simp only [List.set]
    refine wpAnyH_on (i := 26) (d := 29) (v := ?_) rfl rfl (by kernel_rfl) (by kernel_rfl) (by kernel_rfl) (fun _ _ _ h => h) (by kernel_rfl) (by assumption) ?_ ?_
    rotate_left
    · intro w hSw
      (try dsimp only at hSw)
      go_simp
      try (with_reducible rfl)
    simp only [List.set]
    refine wpAnyH_on (i := 27) (d := 30) (v := ?_) rfl rfl (by kernel_rfl) (by kernel_rfl) (by kernel_rfl) (fun _ _ _ h => h) (by kernel_rfl) (by assumption) ?_ ?_
    rotate_left
    · intro w hSw
      (try dsimp only at hSw)
      go_simp
      try (with_reducible rfl)
    simp only [List.set]
    refine wpAnyH_on (i := 28) (d := 31) (v := ?_) rfl rfl (by kernel_rfl) (by kernel_rfl) (by kernel_rfl) (fun _ _ _ h => h) (by kernel_rfl) (by assumption) ?_ ?_
    rotate_left
    · intro w hSw
      (try dsimp only at hSw)
      go_simp
      try (with_reducible rfl)
    simp only [List.set]
    refine wpAnyH_ready (rs := [29]) (by kernel_rfl) (by simp) ?_
    refine AllReadyH.cons rfl (fun K hK => ?_) AllReadyH.nil
    go_simp
    replace hNow := hNow.alloc hNow.size (.cells #[.int .i64 z0] 3)
    refine hK.out _ _ (HK0.out _ hNow) (fun hHeld => ?_)
    clear hK K
    try dsimp only [Act.put, List.setIfInBounds_toArray, List.set_cons_zero, List.set_cons_succ]
    refine wpAnyH_ready (rs := [30]) (by kernel_rfl) (by simp) ?_
    refine AllReadyH.cons rfl (fun K hK => ?_) AllReadyH.nil
    go_simp
    refine (CE.out _ _ (h3.below hNow) (own_lit4 w3 3 [z0] #[.int .i64 z0] rfl)).mono ?_
    rintro e w4 ⟨rfl, hb⟩
    dsimp only
    replace hNow := btr hNow hb
    clear hb
    refine hK.out _ _ (HK0.out _ hNow) (fun hHeld => ?_)
    clear hK K
    try dsimp only [Act.put, List.setIfInBounds_toArray, List.set_cons_zero, List.set_cons_succ]
    refine wpAnyH_on (i := 31) (d := 34) (v := ?_) rfl rfl (by kernel_rfl) (by kernel_rfl) (by kernel_rfl) (fun _ _ _ h => h) (by kernel_rfl) (by assumption) ?_ ?_
    rotate_left
    · intro w hSw
      (try dsimp only at hSw)
      go_simp
      try (with_reducible rfl)
    simp only [List.set]
    refine wpAnyH_on (i := 32) (d := 35) (v := ?_) rfl rfl (by kernel_rfl) (by kernel_rfl) (by kernel_rfl) (fun _ _ _ h => h) (by kernel_rfl) (by assumption) ?_ ?_
    rotate_left
    · intro w hSw
      (try dsimp only at hSw)
      go_simp
      try (with_reducible rfl)
    simp only [List.set]
    refine wpAnyH_on (i := 33) (d := 36) (v := ?_) rfl rfl (by kernel_rfl) (by kernel_rfl) (by kernel_rfl) (fun _ _ _ h => h) (by kernel_rfl) (by assumption) ?_ ?_
    rotate_left
    · intro w hSw
      (try dsimp only at hSw)
      go_simp
      try (with_reducible rfl)
    simp only [List.set]
    refine wpAnyH_on (i := 34) (d := 37) (v := ?_) rfl rfl (by kernel_rfl) (by kernel_rfl) (by kernel_rfl) (fun _ _ _ h => h) (by kernel_rfl) (by assumption) ?_ ?_
    rotate_left
    · intro w hSw
      (try dsimp only at hSw)
      go_simp
      try (with_reducible rfl)
    simp only [List.set]
    refine wpAnyH_on (i := 35) (d := 38) (v := ?_) rfl rfl (by kernel_rfl) (by kernel_rfl) (by kernel_rfl) (fun _ _ _ h => h) (by kernel_rfl) (by assumption) ?_ ?_
    rotate_left
    · intro w hSw
      (try dsimp only at hSw)
      go_simp
      try (with_reducible rfl)
    simp only [List.set]
    refine wpAnyH_on (i := 36) (d := 39) (v := ?_) rfl rfl (by kernel_rfl) (by kernel_rfl) (by kernel_rfl) (fun _ _ _ h => h) (by kernel_rfl) (by assumption) ?_ ?_
    rotate_left
    · intro w hSw
      (try dsimp only at hSw)
      go_simp
      try (with_reducible rfl)
    simp only [List.set]
    refine wpAnyH_on (i := 37) (d := 40) (v := ?_) rfl rfl (by kernel_rfl) (by kernel_rfl) (by kernel_rfl) (fun _ _ _ h => h) (by kernel_rfl) (by assumption) ?_ ?_
    rotate_left
    · intro w hSw
      (try dsimp only at hSw)
      go_simp
      try (with_reducible rfl)
    simp only [List.set]
    refine wpAnyH_on (i := 38) (d := 41) (v := ?_) rfl rfl (by kernel_rfl) (by kernel_rfl) (by kernel_rfl) (fun _ _ _ h => h) (by kernel_rfl) (by assumption) ?_ ?_
    rotate_left
    · intro w hSw
      (try dsimp only at hSw)
      go_simp
      try (with_reducible rfl)
    simp only [List.set]
    refine wpAnyH_on (i := 39) (d := 42) (v := ?_) rfl rfl (by kernel_rfl) (by kernel_rfl) (by kernel_rfl) (fun _ _ _ h => h) (by kernel_rfl) (by assumption) ?_ ?_
    rotate_left
    · intro w hSw
      (try dsimp only at hSw)
      go_simp
      try (with_reducible rfl)
    simp only [List.set]
    refine wpAnyH_on (i := 40) (d := 43) (v := ?_) rfl rfl (by kernel_rfl) (by kernel_rfl) (by kernel_rfl) (fun _ _ _ h => h) (by kernel_rfl) (by assumption) ?_ ?_
    rotate_left
    · intro w hSw
      (try dsimp only at hSw)
      go_simp
      try (with_reducible rfl)
    simp only [List.set]
    refine wpAnyH_on (i := 41) (d := 44) (v := ?_) rfl rfl (by kernel_rfl) (by kernel_rfl) (by kernel_rfl) (fun _ _ _ h => h) (by kernel_rfl) (by assumption) ?_ ?_
    rotate_left
    · intro w hSw
      (try dsimp only at hSw)
      go_simp
      try (with_reducible rfl)
    simp only [List.set]
    refine wpAnyH_on (i := 42) (d := 45) (v := ?_) rfl rfl (by kernel_rfl) (by kernel_rfl) (by kernel_rfl) (fun _ _ _ h => h) (by kernel_rfl) (by assumption) ?_ ?_
    rotate_left
    · intro w hSw
      (try dsimp only at hSw)
      go_simp
      try (with_reducible rfl)
    simp only [List.set]
    refine wpAnyH_on (i := 43) (d := 46) (v := ?_) rfl rfl (by kernel_rfl) (by kernel_rfl) (by kernel_rfl) (fun _ _ _ h => h) (by kernel_rfl) (by assumption) ?_ ?_
    rotate_left
    · intro w hSw
      (try dsimp only at hSw)
      go_simp
      try (with_reducible rfl)
    simp only [List.set]
    refine wpAnyH_on (i := 44) (d := 2) (v := ?_) rfl rfl (by kernel_rfl) (by kernel_rfl) (by kernel_rfl) (fun _ _ _ h => h) (by kernel_rfl) (by assumption) ?_ ?_
    rotate_left
    · intro w hSw
      (try dsimp only at hSw)
      go_simp
      try (with_reducible rfl)
    simp only [List.set]
    refine wpAnyH_done (by kernel_rfl) ?_ _
    go_wp2_with fail
    go_ret
    exact ⟨ret_bool HV.out.symm, btr b1 hNow⟩
  · rw [q1] at C1
    rw [q2] at C2
    rw [q3] at C3
    have HV : Hid (agreeB [z0, z1] xs ts ys us vs = false) := Lib.hid (by simp [agreeB, q4])
    have CE := Lib.hid fun (g : Nat) (w' : World) (h : Rd w' C ts) (ho : Own w' g 3 [z0]) => retB_bdrew (ref_same C (some ⟨g, 0, none⟩) c' 1 ts [z0] w' htl (by simp) h ho.rd)
    rw [decide_eq_false q4] at CE
    clear q1 q2 q3 q4
    go_enter Try.func35, Try.ntmps35
    go_wp2_with fail
    generalize w.alloc (.cells #[.slice (some ⟨ba, oa, none⟩) 2 c, .slice B xs.length d, .slice C ts.length c', .slice D ys.length d', .slice E us.length e', .slice F vs.length f', .slice G ps.length g', .slice H gs.length h'] 57) = W0 at *
    obtain ⟨t0, t1⟩ : W0.cell? ⟨ba, oa, none⟩ = some (.int .i64 z0) ∧ W0.cell? ⟨ba, oa + 1, none⟩ = some (.int .i64 z1) := ⟨hca, hcb⟩
    have HK0 : Hid (∀ w' : World, Below (W0).heap.size (W0) w' → Below (W0).heap.size (W0) w' ∧ w'.cell? ⟨w.heap.size, 0, none⟩ = some (.slice (some ⟨ba, oa, none⟩) 2 c) ∧ w'.cell? ⟨w.heap.size, 1, none⟩ = some (.slice B xs.length d) ∧ w'.cell? ⟨w.heap.size, 2, none⟩ = some (.slice C ts.length c') ∧ w'.cell? ⟨w.heap.size, 3, none⟩ = some (.slice D ys.length d') ∧ w'.cell? ⟨w.heap.size, 4, none⟩ = some (.slice E us.length e') ∧ w'.cell? ⟨w.heap.size, 5, none⟩ = some (.slice F vs.length f') ∧ w'.cell? ⟨ba, oa, none⟩ = some (.int .i64 z0) ∧ w'.cell? ⟨ba, oa + 1, none⟩ = some (.int .i64 z1)) := Lib.hid (fun w' hbk => ⟨hbk, (k1.keep hbk).cell 0, (k1.keep hbk).cell 1, (k1.keep hbk).cell 2, (k1.keep hbk).cell 3, (k1.keep hbk).cell 4, (k1.keep hbk).cell 5, (hbk.cell (p := ⟨_, _, _⟩) hba).trans t0, (hbk.cell (p := ⟨_, _, _⟩) hba).trans t1⟩)
    refine wp_region_held_drew (S := fun w' => Below (W0).heap.size (W0) w' ∧ w'.cell? ⟨w.heap.size, 0, none⟩ = some (.slice (some ⟨ba, oa, none⟩) 2 c) ∧ w'.cell? ⟨w.heap.size, 1, none⟩ = some (.slice B xs.length d) ∧ w'.cell? ⟨w.heap.size, 2, none⟩ = some (.slice C ts.length c') ∧ w'.cell? ⟨w.heap.size, 3, none⟩ = some (.slice D ys.length d') ∧ w'.cell? ⟨w.heap.size, 4, none⟩ = some (.slice E us.length e') ∧ w'.cell? ⟨w.heap.size, 5, none⟩ = some (.slice F vs.length f') ∧ w'.cell? ⟨ba, oa, none⟩ = some (.int .i64 z0) ∧ w'.cell? ⟨ba, oa + 1, none⟩ = some (.int .i64 z1)) (by kernel_rfl) (HK0.out _ (Below.refl _ _).drew) (fun hHeld => ?_)
    have hNow : Below (W0).heap.size (W0) (W0).drew := (Below.refl _ _).drew
    refine wpAnyH_on (i := 0) (d := 3) (v := ?_) rfl rfl (by kernel_rfl) (by kernel_rfl) (by kernel_rfl) (fun _ _ _ h => h) (by kernel_rfl) (by assumption) ?_ ?_
    rotate_left
    · intro w hSw
      (try dsimp only at hSw)
      go_simp
      try (with_reducible rfl)
    simp only [List.set]
    refine wpAnyH_on (i := 1) (d := 4) (v := ?_) rfl rfl (by kernel_rfl) (by kernel_rfl) (by kernel_rfl) (fun _ _ _ h => h) (by kernel_rfl) (by assumption) ?_ ?_
    rotate_left
    · intro w hSw
      (try dsimp only at hSw)
      go_simp
      try (with_reducible rfl)
    simp only [List.set]
    refine wpAnyH_ready (rs := [2]) (by kernel_rfl) (by simp) ?_
    refine AllReadyH.cons rfl (fun K hK => ?_) AllReadyH.nil
    go_simp
    refine (C1.out _ (h1.below hNow)).mono ?_
    rintro e w1 ⟨rfl, hb⟩
    dsimp only
    replace hNow := btr hNow hb
    clear hb
    refine hK.out _ _ (HK0.out _ hNow) (fun hHeld => ?_)
    clear hK K
    try dsimp only [Act.put, List.setIfInBounds_toArray, List.set_cons_zero, List.set_cons_succ]
    refine wpAnyH_on (i := 3) (d := 6) (v := ?_) rfl rfl (by kernel_rfl) (by kernel_rfl) (by kernel_rfl) (fun _ _ _ h => h) (by kernel_rfl) (by assumption) ?_ ?_
    rotate_left
    · intro w hSw
      (try dsimp only at hSw)
      go_simp
      try (with_reducible rfl)
    simp only [List.set]
    refine wpAnyH_on (i := 4) (d := 7) (v := ?_) rfl rfl (by kernel_rfl) (by kernel_rfl) (by kernel_rfl) (fun _ _ _ h => h) (by kernel_rfl) (by assumption) ?_ ?_
    rotate_left
    · intro w hSw
      (try dsimp only at hSw)
      go_simp
      try (with_reducible rfl)
    simp only [List.set]
    refine wpAnyH_on (i := 5) (d := 8) (v := ?_) rfl rfl (by kernel_rfl) (by kernel_rfl) (by kernel_rfl) (fun _ _ _ h => h) (by kernel_rfl) (by assumption) ?_ ?_
    rotate_left
    · intro w hSw
      (try dsimp only at hSw)
      go_simp
      try (with_reducible rfl)
    simp only [List.set]
    refine wpAnyH_ready (rs := [6]) (by kernel_rfl) (by simp) ?_
    refine AllReadyH.cons rfl (fun K hK => ?_) AllReadyH.nil
    go_simp
    refine (C2.out _ (h3.below hNow)).mono ?_
    rintro e w2 ⟨rfl, hb⟩
    dsimp only
    replace hNow := btr hNow hb
    clear hb
    refine hK.out _ _ (HK0.out _ hNow) (fun hHeld => ?_)
    clear hK K
    try dsimp only [Act.put, List.setIfInBounds_toArray, List.set_cons_zero, List.set_cons_succ]
    refine wpAnyH_on (i := 7) (d := 10) (v := ?_) rfl rfl (by kernel_rfl) (by kernel_rfl) (by kernel_rfl) (fun _ _ _ h => h) (by kernel_rfl) (by assumption) ?_ ?_
    rotate_left
    · intro w hSw
      (try dsimp only at hSw)
      go_simp
      try (with_reducible rfl)
    simp only [List.set]
    refine wpAnyH_on (i := 8) (d := 11) (v := ?_) rfl rfl (by kernel_rfl) (by kernel_rfl) (by kernel_rfl) (fun _ _ _ h => h) (by kernel_rfl) (by assumption) ?_ ?_
    rotate_left
    · intro w hSw
      (try dsimp only at hSw)
      go_simp
      try (with_reducible rfl)
    simp only [List.set]
    refine wpAnyH_on (i := 9) (d := 12) (v := ?_) rfl rfl (by kernel_rfl) (by kernel_rfl) (by kernel_rfl) (fun _ _ _ h => h) (by kernel_rfl) (by assumption) ?_ ?_
    rotate_left
    · intro w hSw
      (try dsimp only at hSw)
      go_simp
      try (with_reducible rfl)
    simp only [List.set]
    refine wpAnyH_on (i := 10) (d := 13) (v := ?_) rfl rfl (by kernel_rfl) (by kernel_rfl) (by kernel_rfl) (fun _ _ _ h => h) (by kernel_rfl) (by assumption) ?_ ?_
    rotate_left
    · intro w hSw
      (try dsimp only at hSw)
      go_simp
      try (with_reducible rfl)
    simp only [List.set]
    refine wpAnyH_ready (rs := [11]) (by kernel_rfl) (by simp) ?_
    refine AllReadyH.cons rfl (fun K hK => ?_) AllReadyH.nil
    go_simp
    refine (C3.out _ (h5.below hNow)).mono ?_
    rintro e w3 ⟨rfl, hb⟩
    dsimp only
    replace hNow := btr hNow hb
    clear hb
    refine hK.out _ _ (HK0.out _ hNow) (fun hHeld => ?_)
    clear hK K
    try dsimp only [Act.put, List.setIfInBounds_toArray, List.set_cons_zero, List.set_cons_succ]
    refine wpAnyH_on (i := 12) (d := 15) (v := ?_) rfl rfl (by kernel_rfl) (by kernel_rfl) (by kernel_rfl) (fun _ _ _ h => h) (by kernel_rfl) (by assumption) ?_ ?_
    rotate_left
    · intro w hSw
      (try dsimp only at hSw)
      go_simp
      try (with_reducible rfl)
    simp only [List.set]
    refine wpAnyH_on (i := 13) (d := 16) (v := ?_) rfl rfl (by kernel_rfl) (by kernel_rfl) (by kernel_rfl) (fun _ _ _ h => h) (by kernel_rfl) (by assumption) ?_ ?_
    rotate_left
    · intro w hSw
      (try dsimp only at hSw)
      go_simp
      try (with_reducible rfl)
    simp only [List.set]
    refine wpAnyH_on (i := 14) (d := 17) (v := ?_) rfl rfl (by kernel_rfl) (by kernel_rfl) (by kernel_rfl) (fun _ _ _ h => h) (by kernel_rfl) (by assumption) ?_ ?_
    rotate_left
    · intro w hSw
      (try dsimp only at hSw)
      go_simp
      try (with_reducible rfl)
    simp only [List.set]
    refine wpAnyH_on (i := 15) (d := 18) (v := ?_) rfl rfl (by kernel_rfl) (by kernel_rfl) (by kernel_rfl) (fun _ _ _ h => h) (by kernel_rfl) (by assumption) ?_ ?_
    rotate_left
    · intro w hSw
      (try dsimp only at hSw)
      go_simp
      try (with_reducible rfl)
    simp only [List.set]
    refine wpAnyH_on (i := 16) (d := 19) (v := ?_) rfl rfl (by kernel_rfl) (by kernel_rfl) (by kernel_rfl) (fun _ _ _ h => h) (by kernel_rfl) (by assumption) ?_ ?_
    rotate_left
    · intro w hSw
      (try dsimp only at hSw)
      go_simp
      try (with_reducible rfl)
    simp only [List.set]
    refine wpAnyH_on (i := 17) (d := 20) (v := ?_) rfl rfl (by kernel_rfl) (by kernel_rfl) (by kernel_rfl) (fun _ _ _ h => h) (by kernel_rfl) (by assumption) ?_ ?_
    rotate_left
    · intro w hSw
      (try dsimp only at hSw)
      go_simp
      try (with_reducible rfl)
    simp only [List.set]
    refine wpAnyH_on (i := 18) (d := 21) (v := ?_) rfl rfl (by kernel_rfl) (by kernel_rfl) (by kernel_rfl) (fun _ _ _ h => h) (by kernel_rfl) (by assumption) ?_ ?_
    rotate_left
    · intro w hSw
      (try dsimp only at hSw)
      go_simp
      try (with_reducible rfl)
    simp only [List.set]
    refine wpAnyH_on (i := 19) (d := 22) (v := ?_) rfl rfl (by kernel_rfl) (by kernel_rfl) (by kernel_rfl) (fun _ _ _ h => h) (by kernel_rfl) (by assumption) ?_ ?_
    rotate_left
    · intro w hSw
      (try dsimp only at hSw)
      go_simp
      try (with_reducible rfl)
    simp only [List.set]
    refine wpAnyH_on (i := 20) (d := 23) (v := ?_) rfl rfl (by kernel_rfl) (by kernel_rfl) (by kernel_rfl) (fun _ _ _ h => h) (by kernel_rfl) (by assumption) ?_ ?_
    rotate_left
    · intro w hSw
      (try dsimp only at hSw)
      go_simp
      try (with_reducible rfl)
    simp only [List.set]
    refine wpAnyH_on (i := 21) (d := 24) (v := ?_) rfl rfl (by kernel_rfl) (by kernel_rfl) (by kernel_rfl) (fun _ _ _ h => h) (by kernel_rfl) (by assumption) ?_ ?_
    rotate_left
    · intro w hSw
      (try dsimp only at hSw)
      go_simp
      try (with_reducible rfl)
    simp only [List.set]
    refine wpAnyH_on (i := 22) (d := 25) (v := ?_) rfl rfl (by kernel_rfl) (by kernel_rfl) (by kernel_rfl) (fun _ _ _ h => h) (by kernel_rfl) (by assumption) ?_ ?_
    rotate_left
    · intro w hSw
      (try dsimp only at hSw)
      go_simp
      try (with_reducible rfl)
    simp only [List.set]
    refine wpAnyH_on (i := 23) (d := 26) (v := ?_) rfl rfl (by kernel_rfl) (by kernel_rfl) (by kernel_rfl) (fun _ _ _ h => h) (by kernel_rfl) (by assumption) ?_ ?_
    rotate_left
    · intro w hSw
      (try dsimp only at hSw)
      go_simp
      try (with_reducible rfl)
    simp only [List.set]
    refine wpAnyH_on (i := 24) (d := 27) (v := ?_) rfl rfl (by kernel_rfl) (by kernel_rfl) (by kernel_rfl) (fun _ _ _ h => h) (by kernel_rfl) (by assumption) ?_ ?_
    rotate_left
    · intro w hSw
      (try dsimp only at hSw)
      go_simp
      try (with_reducible rfl)
    simp only [List.set]
    refine wpAnyH_on (i := 25) (d := 28) (v := ?_) rfl rfl (by kernel_rfl) (by kernel_rfl) (by kernel_rfl) (fun _ _ _ h => h) (by kernel_rfl) (by assumption) ?_ ?_
    rotate_left
    · intro w hSw
      (try dsimp only at hSw)
      go_simp
      try (with_reducible rfl)
    simp only [List.set]
    refine wpAnyH_on (i := 26) (d := 29) (v := ?_) rfl rfl (by kernel_rfl) (by kernel_rfl) (by kernel_rfl) (fun _ _ _ h => h) (by kernel_rfl) (by assumption) ?_ ?_
    rotate_left
    · intro w hSw
      (try dsimp only at hSw)
      go_simp
      try (with_reducible rfl)
    simp only [List.set]
    refine wpAnyH_on (i := 27) (d := 30) (v := ?_) rfl rfl (by kernel_rfl) (by kernel_rfl) (by kernel_rfl) (fun _ _ _ h => h) (by kernel_rfl) (by assumption) ?_ ?_
    rotate_left
    · intro w hSw
      (try dsimp only at hSw)
      go_simp
      try (with_reducible rfl)
    simp only [List.set]
    refine wpAnyH_on (i := 28) (d := 31) (v := ?_) rfl rfl (by kernel_rfl) (by kernel_rfl) (by kernel_rfl) (fun _ _ _ h => h) (by kernel_rfl) (by assumption) ?_ ?_
    rotate_left
    · intro w hSw
      (try dsimp only at hSw)
      go_simp
      try (with_reducible rfl)
    simp only [List.set]
    refine wpAnyH_ready (rs := [29]) (by kernel_rfl) (by simp) ?_
    refine AllReadyH.cons rfl (fun K hK => ?_) AllReadyH.nil
    go_simp
    replace hNow := hNow.alloc hNow.size (.cells #[.int .i64 z0] 3)
    refine hK.out _ _ (HK0.out _ hNow) (fun hHeld => ?_)
    clear hK K
    try dsimp only [Act.put, List.setIfInBounds_toArray, List.set_cons_zero, List.set_cons_succ]
    refine wpAnyH_ready (rs := [30]) (by kernel_rfl) (by simp) ?_
    refine AllReadyH.cons rfl (fun K hK => ?_) AllReadyH.nil
    go_simp
    refine (CE.out _ _ (h3.below hNow) (own_lit4 w3 3 [z0] #[.int .i64 z0] rfl)).mono ?_
    rintro e w4 ⟨rfl, hb⟩
    dsimp only
    replace hNow := btr hNow hb
    clear hb
    refine hK.out _ _ (HK0.out _ hNow) (fun hHeld => ?_)
    clear hK K
    try dsimp only [Act.put, List.setIfInBounds_toArray, List.set_cons_zero, List.set_cons_succ]
    refine wpAnyH_on (i := 31) (d := 34) (v := ?_) rfl rfl (by kernel_rfl) (by kernel_rfl) (by kernel_rfl) (fun _ _ _ h => h) (by kernel_rfl) (by assumption) ?_ ?_
    rotate_left
    · intro w hSw
      (try dsimp only at hSw)
      go_simp
      try (with_reducible rfl)
    simp only [List.set]
    refine wpAnyH_on (i := 32) (d := 35) (v := ?_) rfl rfl (by kernel_rfl) (by kernel_rfl) (by kernel_rfl) (fun _ _ _ h => h) (by kernel_rfl) (by assumption) ?_ ?_
    rotate_left
    · intro w hSw
      (try dsimp only at hSw)
      go_simp
      try (with_reducible rfl)
    simp only [List.set]
    refine wpAnyH_off (i := 33) (d := 36) rfl rfl (by kernel_rfl) (by kernel_rfl) (by kernel_rfl) (fun _ _ _ h => h) (by kernel_rfl) (by assumption) ?_
    simp only [List.set]
    refine wpAnyH_off (i := 34) (d := 37) rfl rfl (by kernel_rfl) (by kernel_rfl) (by kernel_rfl) (fun _ _ _ h => h) (by kernel_rfl) (by assumption) ?_
    simp only [List.set]
    refine wpAnyH_off (i := 35) (d := 38) rfl rfl (by kernel_rfl) (by kernel_rfl) (by kernel_rfl) (fun _ _ _ h => h) (by kernel_rfl) (by assumption) ?_
    simp only [List.set]
    refine wpAnyH_off (i := 36) (d := 39) rfl rfl (by kernel_rfl) (by kernel_rfl) (by kernel_rfl) (fun _ _ _ h => h) (by kernel_rfl) (by assumption) ?_
    simp only [List.set]
    refine wpAnyH_off (i := 37) (d := 40) rfl rfl (by kernel_rfl) (by kernel_rfl) (by kernel_rfl) (fun _ _ _ h => h) (by kernel_rfl) (by assumption) ?_
    simp only [List.set]
    refine wpAnyH_off (i := 38) (d := 41) rfl rfl (by kernel_rfl) (by kernel_rfl) (by kernel_rfl) (fun _ _ _ h => h) (by kernel_rfl) (by assumption) ?_
    simp only [List.set]
    refine wpAnyH_off (i := 39) (d := 42) rfl rfl (by kernel_rfl) (by kernel_rfl) (by kernel_rfl) (fun _ _ _ h => h) (by kernel_rfl) (by assumption) ?_
    simp only [List.set]
    refine wpAnyH_off (i := 40) (d := 43) rfl rfl (by kernel_rfl) (by kernel_rfl) (by kernel_rfl) (fun _ _ _ h => h) (by kernel_rfl) (by assumption) ?_
    simp only [List.set]
    refine wpAnyH_off (i := 41) (d := 44) rfl rfl (by kernel_rfl) (by kernel_rfl) (by kernel_rfl) (fun _ _ _ h => h) (by kernel_rfl) (by assumption) ?_
    simp only [List.set]
    refine wpAnyH_off (i := 42) (d := 45) rfl rfl (by kernel_rfl) (by kernel_rfl) (by kernel_rfl) (fun _ _ _ h => h) (by kernel_rfl) (by assumption) ?_
    simp only [List.set]
    refine wpAnyH_on (i := 43) (d := 46) (v := ?_) rfl rfl (by kernel_rfl) (by kernel_rfl) (by kernel_rfl) (fun _ _ _ h => h) (by kernel_rfl) (by assumption) ?_ ?_
    rotate_left
    · intro w hSw
      (try dsimp only at hSw)
      go_simp
      try (with_reducible rfl)
    simp only [List.set]
    refine wpAnyH_on (i := 44) (d := 2) (v := ?_) rfl rfl (by kernel_rfl) (by kernel_rfl) (by kernel_rfl) (fun _ _ _ h => h) (by kernel_rfl) (by assumption) ?_ ?_
    rotate_left
    · intro w hSw
      (try dsimp only at hSw)
      go_simp
      try (with_reducible rfl)
    simp only [List.set]
    refine wpAnyH_done (by kernel_rfl) ?_ _
    go_wp2_with fail
    go_ret
    exact ⟨ret_bool HV.out.symm, btr b1 hNow⟩

end Go.Proofs.Ythcdjdhnjbdfeaa
