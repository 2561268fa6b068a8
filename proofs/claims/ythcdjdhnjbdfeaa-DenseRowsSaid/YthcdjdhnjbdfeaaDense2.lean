/- The walk of dense.agree. -/
import Derived.Test.YthcdjdhnjbdfeaaDense
import Derived.Test.YthcdjdhnjbdfeaaTensorCuts
import Derived.Test.YthcdjdhnjbdfeaaLater
namespace Go.Proofs.Ythcdjdhnjbdfeaa
open Go.RowKit

/-- Do a weight, a bias and an in belong together? -/
def agreeB (zs xs ts ys us vs : List Int) : Bool := flatB zs xs && tRightB ts ys && tRightB us vs && decide (ts = [zs.getD 0 0]) && decide ((vs.length : Int) = zs.getD 1 0)

set_option maxRecDepth 100000 in
set_option maxHeartbeats 8000000 in
theorem d_agree (A B C D E F : Option Addr) (c d c' d' e' f' : Nat) (zs xs ts ys us vs : List Int) (w : World) (hzl : zs.length ≤ 1000000) (htl : ts.length ≤ 1000000) (hul : us.length ≤ 1000000) (h1 : Rd w A zs) (h3 : Rd w C ts) (h5 : Rd w E us) :
    Calls Try.prog 63 #[.agg #[.slice A zs.length c, .slice B xs.length d], .agg #[.slice C ts.length c', .slice D ys.length d'], .agg #[.slice E us.length e', .slice F vs.length f']] w (RetB w (.bool (agreeB zs xs ts ys us vs))) := by
  have b1 := (((Below.refl w.heap.size w).alloc (Nat.le_refl _) (.cells #[.slice A zs.length c, .slice B xs.length d] 26)).alloc (by simp) (.cells #[.slice C ts.length c', .slice D ys.length d'] 26)).alloc (by simp; omega) (.cells #[.slice E us.length e', .slice F vs.length f'] 26)
  have k1 := ((Blk.new w 26 #[.slice A zs.length c, .slice B xs.length d]).alloc (.cells #[.slice C ts.length c', .slice D ys.length d'] 26)).alloc (.cells #[.slice E us.length e', .slice F vs.length f'] 26)
  have k2 := (Blk.new' (w.alloc (.cells #[.slice A zs.length c, .slice B xs.length d] 26)) 26 #[.slice C ts.length c', .slice D ys.length d'] (n := w.heap.size + 1) (by simp)).alloc (.cells #[.slice E us.length e', .slice F vs.length f'] 26)
  have k3 := Blk.new' ((w.alloc (.cells #[.slice A zs.length c, .slice B xs.length d] 26)).alloc (.cells #[.slice C ts.length c', .slice D ys.length d'] 26)) 26 #[.slice E us.length e', .slice F vs.length f'] (n := w.heap.size + 1 + 1) (by simp)
  replace h1 := h1.below b1
  replace h3 := h3.below b1
  replace h5 := h5.below b1
  have C1 := Lib.hid fun (w' : World) (h : Rd w' A zs) => d_flat A B c d zs xs w' hzl h
  have C2 := Lib.hid fun (w' : World) (h : Rd w' C ts) => t_right C D c' d' ts ys w' htl h
  have C3 := Lib.hid fun (w' : World) (h : Rd w' E us) => t_right E F e' f' us vs w' hul h
  rcases q1 : flatB zs xs with _ | _
  · rw [q1] at C1
    have HV : Hid (agreeB zs xs ts ys us vs = false) := Lib.hid (by simp [agreeB, q1])
    clear q1
    go_enter Try.func63, Try.ntmps63
    go_wp2_with fail
    generalize ((w.alloc (.cells #[.slice A zs.length c, .slice B xs.length d] 26)).alloc (.cells #[.slice C ts.length c', .slice D ys.length d'] 26)).alloc (.cells #[.slice E us.length e', .slice F vs.length f'] 26) = W0 at *
    have HK0 : Hid (∀ w' : World, Below (W0).heap.size (W0) w' → Below (W0).heap.size (W0) w' ∧ w'.cell? ⟨w.heap.size, 0, none⟩ = some (.slice A zs.length c) ∧ w'.cell? ⟨w.heap.size, 1, none⟩ = some (.slice B xs.length d)) := Lib.hid (fun w' hbk => ⟨hbk, (k1.keep hbk).cell 0, (k1.keep hbk).cell 1⟩)
    refine wp_region_held_drew (S := fun w' => Below (W0).heap.size (W0) w' ∧ w'.cell? ⟨w.heap.size, 0, none⟩ = some (.slice A zs.length c) ∧ w'.cell? ⟨w.heap.size, 1, none⟩ = some (.slice B xs.length d)) (by kernel_rfl) (HK0.out _ (Below.refl _ _).drew) (fun hHeld => ?_)
    have hNow : Below (W0).heap.size (W0) (W0).drew := (Below.refl _ _).drew
    refine wpAnyH_on (i := 0) (d := 7) (v := ?_) rfl rfl (by kernel_rfl) (by kernel_rfl) (by kernel_rfl) (fun _ _ _ h => h) (by kernel_rfl) (by assumption) ?_ ?_
    rotate_left
    · intro w hSw
      (try dsimp only at hSw)
      go_simp
      try (with_reducible rfl)
    simp only [List.set]
    refine wpAnyH_ready (rs := [1]) (by kernel_rfl) (by simp) ?_
    refine AllReadyH.cons rfl (fun K hK => ?_) AllReadyH.nil
    go_simp
    refine (C1.out _ (h1.below hNow)).mono ?_
    rintro e w1 ⟨rfl, hb⟩
    dsimp only
    replace hNow := btr hNow hb
    clear hb
    refine hK.out _ _ (HK0.out _ hNow) (fun hHeld => ?_)
    clear hK K
    try dsimp only [Act.put, List.setIfInBounds_toArray, List.set_cons_zero, List.set_cons_succ]
    refine wpAnyH_on (i := 2) (d := 9) (v := ?_) rfl rfl (by kernel_rfl) (by kernel_rfl) (by kernel_rfl) (fun _ _ _ h => h) (by kernel_rfl) (by assumption) ?_ ?_
    rotate_left
    · intro w hSw
      (try dsimp only at hSw)
      go_simp
      try (with_reducible rfl)
    simp only [List.set]
    refine wpAnyH_off (i := 3) (d := 10) rfl rfl (by kernel_rfl) (by kernel_rfl) (by kernel_rfl) (fun _ _ _ h => h) (by kernel_rfl) (by assumption) ?_
    simp only [List.set]
    refine wpAnyH_off (i := 4) (d := 11) rfl rfl (by kernel_rfl) (by kernel_rfl) (by kernel_rfl) (fun _ _ _ h => h) (by kernel_rfl) (by assumption) ?_
    simp only [List.set]
    refine wpAnyH_on (i := 5) (d := 12) (v := ?_) rfl rfl (by kernel_rfl) (by kernel_rfl) (by kernel_rfl) (fun _ _ _ h => h) (by kernel_rfl) (by assumption) ?_ ?_
    rotate_left
    · intro w hSw
      (try dsimp only at hSw)
      go_simp
      try (with_reducible rfl)
    simp only [List.set]
    refine wpAnyH_on (i := 6) (d := 13) (v := ?_) rfl rfl (by kernel_rfl) (by kernel_rfl) (by kernel_rfl) (fun _ _ _ h => h) (by kernel_rfl) (by assumption) ?_ ?_
    rotate_left
    · intro w hSw
      (try dsimp only at hSw)
      go_simp
      try (with_reducible rfl)
    simp only [List.set]
    refine wpAnyH_off (i := 7) (d := 14) rfl rfl (by kernel_rfl) (by kernel_rfl) (by kernel_rfl) (fun _ _ _ h => h) (by kernel_rfl) (by assumption) ?_
    simp only [List.set]
    refine wpAnyH_off (i := 8) (d := 15) rfl rfl (by kernel_rfl) (by kernel_rfl) (by kernel_rfl) (fun _ _ _ h => h) (by kernel_rfl) (by assumption) ?_
    simp only [List.set]
    refine wpAnyH_on (i := 9) (d := 16) (v := ?_) rfl rfl (by kernel_rfl) (by kernel_rfl) (by kernel_rfl) (fun _ _ _ h => h) (by kernel_rfl) (by assumption) ?_ ?_
    rotate_left
    · intro w hSw
      (try dsimp only at hSw)
      go_simp
      try (with_reducible rfl)
    simp only [List.set]
    refine wpAnyH_on (i := 10) (d := 17) (v := ?_) rfl rfl (by kernel_rfl) (by kernel_rfl) (by kernel_rfl) (fun _ _ _ h => h) (by kernel_rfl) (by assumption) ?_ ?_
    rotate_left
    · intro w hSw
      (try dsimp only at hSw)
      go_simp
      try (with_reducible rfl)
    simp only [List.set]
    refine wpAnyH_off (i := 11) (d := 18) rfl rfl (by kernel_rfl) (by kernel_rfl) (by kernel_rfl) (fun _ _ _ h => h) (by kernel_rfl) (by assumption) ?_
    simp only [List.set]
    refine wpAnyH_off (i := 12) (d := 19) rfl rfl (by kernel_rfl) (by kernel_rfl) (by kernel_rfl) (fun _ _ _ h => h) (by kernel_rfl) (by assumption) ?_
    simp only [List.set]
    refine wpAnyH_off (i := 13) (d := 20) rfl rfl (by kernel_rfl) (by kernel_rfl) (by kernel_rfl) (fun _ _ _ h => h) (by kernel_rfl) (by assumption) ?_
    simp only [List.set]
    refine wpAnyH_off (i := 14) (d := 21) rfl rfl (by kernel_rfl) (by kernel_rfl) (by kernel_rfl) (fun _ _ _ h => h) (by kernel_rfl) (by assumption) ?_
    simp only [List.set]
    refine wpAnyH_off (i := 15) (d := 22) rfl rfl (by kernel_rfl) (by kernel_rfl) (by kernel_rfl) (fun _ _ _ h => h) (by kernel_rfl) (by assumption) ?_
    simp only [List.set]
    refine wpAnyH_off (i := 16) (d := 23) rfl rfl (by kernel_rfl) (by kernel_rfl) (by kernel_rfl) (fun _ _ _ h => h) (by kernel_rfl) (by assumption) ?_
    simp only [List.set]
    refine wpAnyH_off (i := 17) (d := 24) rfl rfl (by kernel_rfl) (by kernel_rfl) (by kernel_rfl) (fun _ _ _ h => h) (by kernel_rfl) (by assumption) ?_
    simp only [List.set]
    refine wpAnyH_off (i := 18) (d := 25) rfl rfl (by kernel_rfl) (by kernel_rfl) (by kernel_rfl) (fun _ _ _ h => h) (by kernel_rfl) (by assumption) ?_
    simp only [List.set]
    refine wpAnyH_on (i := 19) (d := 26) (v := ?_) rfl rfl (by kernel_rfl) (by kernel_rfl) (by kernel_rfl) (fun _ _ _ h => h) (by kernel_rfl) (by assumption) ?_ ?_
    rotate_left
    · intro w hSw
      (try dsimp only at hSw)
      go_simp
      try (with_reducible rfl)
    simp only [List.set]
    refine wpAnyH_on (i := 20) (d := 27) (v := ?_) rfl rfl (by kernel_rfl) (by kernel_rfl) (by kernel_rfl) (fun _ _ _ h => h) (by kernel_rfl) (by assumption) ?_ ?_
    rotate_left
    · intro w hSw
      (try dsimp only at hSw)
      go_simp
      try (with_reducible rfl)
    simp only [List.set]
    refine wpAnyH_off (i := 21) (d := 28) rfl rfl (by kernel_rfl) (by kernel_rfl) (by kernel_rfl) (fun _ _ _ h => h) (by kernel_rfl) (by assumption) ?_
    simp only [List.set]
    refine wpAnyH_off (i := 22) (d := 29) rfl rfl (by kernel_rfl) (by kernel_rfl) (by kernel_rfl) (fun _ _ _ h => h) (by kernel_rfl) (by assumption) ?_
    simp only [List.set]
    refine wpAnyH_off (i := 23) (d := 30) rfl rfl (by kernel_rfl) (by kernel_rfl) (by kernel_rfl) (fun _ _ _ h => h) (by kernel_rfl) (by assumption) ?_
    simp only [List.set]
    refine wpAnyH_off (i := 24) (d := 31) rfl rfl (by kernel_rfl) (by kernel_rfl) (by kernel_rfl) (fun _ _ _ h => h) (by kernel_rfl) (by assumption) ?_
    simp only [List.set]
    refine wpAnyH_off (i := 25) (d := 32) rfl rfl (by kernel_rfl) (by kernel_rfl) (by kernel_rfl) (fun _ _ _ h => h) (by kernel_rfl) (by assumption) ?_
    simp only [List.set]
    refine wpAnyH_off (i := 26) (d := 33) rfl rfl (by kernel_rfl) (by kernel_rfl) (by kernel_rfl) (fun _ _ _ h => h) (by kernel_rfl) (by assumption) ?_
    simp only [List.set]
    refine wpAnyH_off (i := 27) (d := 34) rfl rfl (by kernel_rfl) (by kernel_rfl) (by kernel_rfl) (fun _ _ _ h => h) (by kernel_rfl) (by assumption) ?_
    simp only [List.set]
    refine wpAnyH_off (i := 28) (d := 35) rfl rfl (by kernel_rfl) (by kernel_rfl) (by kernel_rfl) (fun _ _ _ h => h) (by kernel_rfl) (by assumption) ?_
    simp only [List.set]
    refine wpAnyH_on (i := 29) (d := 36) (v := ?_) rfl rfl (by kernel_rfl) (by kernel_rfl) (by kernel_rfl) (fun _ _ _ h => h) (by kernel_rfl) (by assumption) ?_ ?_
    rotate_left
    · intro w hSw
      (try dsimp only at hSw)
      go_simp
      try (with_reducible rfl)
    simp only [List.set]
    refine wpAnyH_on (i := 30) (d := 6) (v := ?_) rfl rfl (by kernel_rfl) (by kernel_rfl) (by kernel_rfl) (fun _ _ _ h => h) (by kernel_rfl) (by assumption) ?_ ?_
    rotate_left
    · intro w hSw
      (try dsimp only at hSw)
      go_simp
      try (with_reducible rfl)
    simp only [List.set]
    refine wpAnyH_done (by kernel_rfl) ?_ _
    go_wp2_with fail
    go_ret
    exact ⟨ret_bool HV.out.symm, btr b1 hNow⟩
  rcases q2 : tRightB ts ys with _ | _
  · rw [q1] at C1
    rw [q2] at C2
    have HV : Hid (agreeB zs xs ts ys us vs = false) := Lib.hid (by simp [agreeB, q2])
    clear q1 q2
    go_enter Try.func63, Try.ntmps63
    go_wp2_with fail
    generalize ((w.alloc (.cells #[.slice A zs.length c, .slice B xs.length d] 26)).alloc (.cells #[.slice C ts.length c', .slice D ys.length d'] 26)).alloc (.cells #[.slice E us.length e', .slice F vs.length f'] 26) = W0 at *
    have HK0 : Hid (∀ w' : World, Below (W0).heap.size (W0) w' → Below (W0).heap.size (W0) w' ∧ w'.cell? ⟨w.heap.size, 0, none⟩ = some (.slice A zs.length c) ∧ w'.cell? ⟨w.heap.size, 1, none⟩ = some (.slice B xs.length d) ∧ w'.cell? ⟨w.heap.size + 1, 0, none⟩ = some (.slice C ts.length c') ∧ w'.cell? ⟨w.heap.size + 1, 1, none⟩ = some (.slice D ys.length d')) := Lib.hid (fun w' hbk => ⟨hbk, (k1.keep hbk).cell 0, (k1.keep hbk).cell 1, (k2.keep hbk).cell 0, (k2.keep hbk).cell 1⟩)
    refine wp_region_held_drew (S := fun w' => Below (W0).heap.size (W0) w' ∧ w'.cell? ⟨w.heap.size, 0, none⟩ = some (.slice A zs.length c) ∧ w'.cell? ⟨w.heap.size, 1, none⟩ = some (.slice B xs.length d) ∧ w'.cell? ⟨w.heap.size + 1, 0, none⟩ = some (.slice C ts.length c') ∧ w'.cell? ⟨w.heap.size + 1, 1, none⟩ = some (.slice D ys.length d')) (by kernel_rfl) (HK0.out _ (Below.refl _ _).drew) (fun hHeld => ?_)
    have hNow : Below (W0).heap.size (W0) (W0).drew := (Below.refl _ _).drew
    refine wpAnyH_on (i := 0) (d := 7) (v := ?_) rfl rfl (by kernel_rfl) (by kernel_rfl) (by kernel_rfl) (fun _ _ _ h => h) (by kernel_rfl) (by assumption) ?_ ?_
    rotate_left
    · intro w hSw
      (try dsimp only at hSw)
      go_simp
      try (with_reducible rfl)
    simp only [List.set]
    refine wpAnyH_ready (rs := [1]) (by kernel_rfl) (by simp) ?_
    refine AllReadyH.cons rfl (fun K hK => ?_) AllReadyH.nil
    go_simp
    refine (C1.out _ (h1.below hNow)).mono ?_
    rintro e w1 ⟨rfl, hb⟩
    dsimp only
    replace hNow := btr hNow hb
    clear hb
    refine hK.out _ _ (HK0.out _ hNow) (fun hHeld => ?_)
    clear hK K
    try dsimp only [Act.put, List.setIfInBounds_toArray, List.set_cons_zero, List.set_cons_succ]
    refine wpAnyH_on (i := 2) (d := 9) (v := ?_) rfl rfl (by kernel_rfl) (by kernel_rfl) (by kernel_rfl) (fun _ _ _ h => h) (by kernel_rfl) (by assumption) ?_ ?_
    rotate_left
    · intro w hSw
      (try dsimp only at hSw)
      go_simp
      try (with_reducible rfl)
    simp only [List.set]
    refine wpAnyH_on (i := 3) (d := 10) (v := ?_) rfl rfl (by kernel_rfl) (by kernel_rfl) (by kernel_rfl) (fun _ _ _ h => h) (by kernel_rfl) (by assumption) ?_ ?_
    rotate_left
    · intro w hSw
      (try dsimp only at hSw)
      go_simp
      try (with_reducible rfl)
    simp only [List.set]
    refine wpAnyH_ready (rs := [4]) (by kernel_rfl) (by simp) ?_
    refine AllReadyH.cons rfl (fun K hK => ?_) AllReadyH.nil
    go_simp
    refine (C2.out _ (h3.below hNow)).mono ?_
    rintro e w2 ⟨rfl, hb⟩
    dsimp only
    replace hNow := btr hNow hb
    clear hb
    refine hK.out _ _ (HK0.out _ hNow) (fun hHeld => ?_)
    clear hK K
    try dsimp only [Act.put, List.setIfInBounds_toArray, List.set_cons_zero, List.set_cons_succ]
    refine wpAnyH_on (i := 5) (d := 12) (v := ?_) rfl rfl (by kernel_rfl) (by kernel_rfl) (by kernel_rfl) (fun _ _ _ h => h) (by kernel_rfl) (by assumption) ?_ ?_
    rotate_left
    · intro w hSw
      (try dsimp only at hSw)
      go_simp
      try (with_reducible rfl)
    simp only [List.set]
    refine wpAnyH_on (i := 6) (d := 13) (v := ?_) rfl rfl (by kernel_rfl) (by kernel_rfl) (by kernel_rfl) (fun _ _ _ h => h) (by kernel_rfl) (by assumption) ?_ ?_
    rotate_left
    · intro w hSw
      (try dsimp only at hSw)
      go_simp
      try (with_reducible rfl)
    simp only [List.set]
    refine wpAnyH_off (i := 7) (d := 14) rfl rfl (by kernel_rfl) (by kernel_rfl) (by kernel_rfl) (fun _ _ _ h => h) (by kernel_rfl) (by assumption) ?_
    simp only [List.set]
    refine wpAnyH_off (i := 8) (d := 15) rfl rfl (by kernel_rfl) (by kernel_rfl) (by kernel_rfl) (fun _ _ _ h => h) (by kernel_rfl) (by assumption) ?_
    simp only [List.set]
    refine wpAnyH_on (i := 9) (d := 16) (v := ?_) rfl rfl (by kernel_rfl) (by kernel_rfl) (by kernel_rfl) (fun _ _ _ h => h) (by kernel_rfl) (by assumption) ?_ ?_
    rotate_left
    · intro w hSw
      (try dsimp only at hSw)
      go_simp
      try (with_reducible rfl)
    simp only [List.set]
    refine wpAnyH_on (i := 10) (d := 17) (v := ?_) rfl rfl (by kernel_rfl) (by kernel_rfl) (by kernel_rfl) (fun _ _ _ h => h) (by kernel_rfl) (by assumption) ?_ ?_
    rotate_left
    · intro w hSw
      (try dsimp only at hSw)
      go_simp
      try (with_reducible rfl)
    simp only [List.set]
    refine wpAnyH_off (i := 11) (d := 18) rfl rfl (by kernel_rfl) (by kernel_rfl) (by kernel_rfl) (fun _ _ _ h => h) (by kernel_rfl) (by assumption) ?_
    simp only [List.set]
    refine wpAnyH_off (i := 12) (d := 19) rfl rfl (by kernel_rfl) (by kernel_rfl) (by kernel_rfl) (fun _ _ _ h => h) (by kernel_rfl) (by assumption) ?_
    simp only [List.set]
    refine wpAnyH_off (i := 13) (d := 20) rfl rfl (by kernel_rfl) (by kernel_rfl) (by kernel_rfl) (fun _ _ _ h => h) (by kernel_rfl) (by assumption) ?_
    simp only [List.set]
    refine wpAnyH_off (i := 14) (d := 21) rfl rfl (by kernel_rfl) (by kernel_rfl) (by kernel_rfl) (fun _ _ _ h => h) (by kernel_rfl) (by assumption) ?_
    simp only [List.set]
    refine wpAnyH_off (i := 15) (d := 22) rfl rfl (by kernel_rfl) (by kernel_rfl) (by kernel_rfl) (fun _ _ _ h => h) (by kernel_rfl) (by assumption) ?_
    simp only [List.set]
    refine wpAnyH_off (i := 16) (d := 23) rfl rfl (by kernel_rfl) (by kernel_rfl) (by kernel_rfl) (fun _ _ _ h => h) (by kernel_rfl) (by assumption) ?_
    simp only [List.set]
    refine wpAnyH_off (i := 17) (d := 24) rfl rfl (by kernel_rfl) (by kernel_rfl) (by kernel_rfl) (fun _ _ _ h => h) (by kernel_rfl) (by assumption) ?_
    simp only [List.set]
    refine wpAnyH_off (i := 18) (d := 25) rfl rfl (by kernel_rfl) (by kernel_rfl) (by kernel_rfl) (fun _ _ _ h => h) (by kernel_rfl) (by assumption) ?_
    simp only [List.set]
    refine wpAnyH_on (i := 19) (d := 26) (v := ?_) rfl rfl (by kernel_rfl) (by kernel_rfl) (by kernel_rfl) (fun _ _ _ h => h) (by kernel_rfl) (by assumption) ?_ ?_
    rotate_left
    · intro w hSw
      (try dsimp only at hSw)
      go_simp
      try (with_reducible rfl)
    simp only [List.set]
    refine wpAnyH_on (i := 20) (d := 27) (v := ?_) rfl rfl (by kernel_rfl) (by kernel_rfl) (by kernel_rfl) (fun _ _ _ h => h) (by kernel_rfl) (by assumption) ?_ ?_
    rotate_left
    · intro w hSw
      (try dsimp only at hSw)
      go_simp
      try (with_reducible rfl)
    simp only [List.set]
    refine wpAnyH_off (i := 21) (d := 28) rfl rfl (by kernel_rfl) (by kernel_rfl) (by kernel_rfl) (fun _ _ _ h => h) (by kernel_rfl) (by assumption) ?_
    simp only [List.set]
    refine wpAnyH_off (i := 22) (d := 29) rfl rfl (by kernel_rfl) (by kernel_rfl) (by kernel_rfl) (fun _ _ _ h => h) (by kernel_rfl) (by assumption) ?_
    simp only [List.set]
    refine wpAnyH_off (i := 23) (d := 30) rfl rfl (by kernel_rfl) (by kernel_rfl) (by kernel_rfl) (fun _ _ _ h => h) (by kernel_rfl) (by assumption) ?_
    simp only [List.set]
    refine wpAnyH_off (i := 24) (d := 31) rfl rfl (by kernel_rfl) (by kernel_rfl) (by kernel_rfl) (fun _ _ _ h => h) (by kernel_rfl) (by assumption) ?_
    simp only [List.set]
    refine wpAnyH_off (i := 25) (d := 32) rfl rfl (by kernel_rfl) (by kernel_rfl) (by kernel_rfl) (fun _ _ _ h => h) (by kernel_rfl) (by assumption) ?_
    simp only [List.set]
    refine wpAnyH_off (i := 26) (d := 33) rfl rfl (by kernel_rfl) (by kernel_rfl) (by kernel_rfl) (fun _ _ _ h => h) (by kernel_rfl) (by assumption) ?_
    simp only [List.set]
    refine wpAnyH_off (i := 27) (d := 34) rfl rfl (by kernel_rfl) (by kernel_rfl) (by kernel_rfl) (fun _ _ _ h => h) (by kernel_rfl) (by assumption) ?_
    simp only [List.set]
    refine wpAnyH_off (i := 28) (d := 35) rfl rfl (by kernel_rfl) (by kernel_rfl) (by kernel_rfl) (fun _ _ _ h => h) (by kernel_rfl) (by assumption) ?_
    simp only [List.set]
    refine wpAnyH_on (i := 29) (d := 36) (v := ?_) rfl rfl (by kernel_rfl) (by kernel_rfl) (by kernel_rfl) (fun _ _ _ h => h) (by kernel_rfl) (by assumption) ?_ ?_
    rotate_left
    · intro w hSw
      (try dsimp only at hSw)
      go_simp
      try (with_reducible rfl)
    simp only [List.set]
    refine wpAnyH_on (i := 30) (d := 6) (v := ?_) rfl rfl (by kernel_rfl) (by kernel_rfl) (by kernel_rfl) (fun _ _ _ h => h) (by kernel_rfl) (by assumption) ?_ ?_
    rotate_left
    · intro w hSw
      (try dsimp only at hSw)
      go_simp
      try (with_reducible rfl)
    simp only [List.set]
    refine wpAnyH_done (by kernel_rfl) ?_ _
    go_wp2_with fail
    go_ret
    exact ⟨ret_bool HV.out.symm, btr b1 hNow⟩
  rcases q3 : tRightB us vs with _ | _
  · rw [q1] at C1
    rw [q2] at C2
    rw [q3] at C3
    have HV : Hid (agreeB zs xs ts ys us vs = false) := Lib.hid (by simp [agreeB, q3])
    clear q1 q2 q3
    go_enter Try.func63, Try.ntmps63
    go_wp2_with fail
    generalize ((w.alloc (.cells #[.slice A zs.length c, .slice B xs.length d] 26)).alloc (.cells #[.slice C ts.length c', .slice D ys.length d'] 26)).alloc (.cells #[.slice E us.length e', .slice F vs.length f'] 26) = W0 at *
    have HK0 : Hid (∀ w' : World, Below (W0).heap.size (W0) w' → Below (W0).heap.size (W0) w' ∧ w'.cell? ⟨w.heap.size, 0, none⟩ = some (.slice A zs.length c) ∧ w'.cell? ⟨w.heap.size, 1, none⟩ = some (.slice B xs.length d) ∧ w'.cell? ⟨w.heap.size + 1, 0, none⟩ = some (.slice C ts.length c') ∧ w'.cell? ⟨w.heap.size + 1, 1, none⟩ = some (.slice D ys.length d') ∧ w'.cell? ⟨w.heap.size + 1 + 1, 0, none⟩ = some (.slice E us.length e') ∧ w'.cell? ⟨w.heap.size + 1 + 1, 1, none⟩ = some (.slice F vs.length f')) := Lib.hid (fun w' hbk => ⟨hbk, (k1.keep hbk).cell 0, (k1.keep hbk).cell 1, (k2.keep hbk).cell 0, (k2.keep hbk).cell 1, (k3.keep hbk).cell 0, (k3.keep hbk).cell 1⟩)
    refine wp_region_held_drew (S := fun w' => Below (W0).heap.size (W0) w' ∧ w'.cell? ⟨w.heap.size, 0, none⟩ = some (.slice A zs.length c) ∧ w'.cell? ⟨w.heap.size, 1, none⟩ = some (.slice B xs.length d) ∧ w'.cell? ⟨w.heap.size + 1, 0, none⟩ = some (.slice C ts.length c') ∧ w'.cell? ⟨w.heap.size + 1, 1, none⟩ = some (.slice D ys.length d') ∧ w'.cell? ⟨w.heap.size + 1 + 1, 0, none⟩ = some (.slice E us.length e') ∧ w'.cell? ⟨w.heap.size + 1 + 1, 1, none⟩ = some (.slice F vs.length f')) (by kernel_rfl) (HK0.out _ (Below.refl _ _).drew) (fun hHeld => ?_)
    have hNow : Below (W0).heap.size (W0) (W0).drew := (Below.refl _ _).drew
    refine wpAnyH_on (i := 0) (d := 7) (v := ?_) rfl rfl (by kernel_rfl) (by kernel_rfl) (by kernel_rfl) (fun _ _ _ h => h) (by kernel_rfl) (by assumption) ?_ ?_
    rotate_left
    · intro w hSw
      (try dsimp only at hSw)
      go_simp
      try (with_reducible rfl)
    simp only [List.set]
    refine wpAnyH_ready (rs := [1]) (by kernel_rfl) (by simp) ?_
    refine AllReadyH.cons rfl (fun K hK => ?_) AllReadyH.nil
    go_simp
    refine (C1.out _ (h1.below hNow)).mono ?_
    rintro e w1 ⟨rfl, hb⟩
    dsimp only
    replace hNow := btr hNow hb
    clear hb
    refine hK.out _ _ (HK0.out _ hNow) (fun hHeld => ?_)
    clear hK K
    try dsimp only [Act.put, List.setIfInBounds_toArray, List.set_cons_zero, List.set_cons_succ]
    refine wpAnyH_on (i := 2) (d := 9) (v := ?_) rfl rfl (by kernel_rfl) (by kernel_rfl) (by kernel_rfl) (fun _ _ _ h => h) (by kernel_rfl) (by assumption) ?_ ?_
    rotate_left
    · intro w hSw
      (try dsimp only at hSw)
      go_simp
      try (with_reducible rfl)
    simp only [List.set]
    refine wpAnyH_on (i := 3) (d := 10) (v := ?_) rfl rfl (by kernel_rfl) (by kernel_rfl) (by kernel_rfl) (fun _ _ _ h => h) (by kernel_rfl) (by assumption) ?_ ?_
    rotate_left
    · intro w hSw
      (try dsimp only at hSw)
      go_simp
      try (with_reducible rfl)
    simp only [List.set]
    refine wpAnyH_ready (rs := [4]) (by kernel_rfl) (by simp) ?_
    refine AllReadyH.cons rfl (fun K hK => ?_) AllReadyH.nil
    go_simp
    refine (C2.out _ (h3.below hNow)).mono ?_
    rintro e w2 ⟨rfl, hb⟩
    dsimp only
    replace hNow := btr hNow hb
    clear hb
    refine hK.out _ _ (HK0.out _ hNow) (fun hHeld => ?_)
    clear hK K
    try dsimp only [Act.put, List.setIfInBounds_toArray, List.set_cons_zero, List.set_cons_succ]
    refine wpAnyH_on (i := 5) (d := 12) (v := ?_) rfl rfl (by kernel_rfl) (by kernel_rfl) (by kernel_rfl) (fun _ _ _ h => h) (by kernel_rfl) (by assumption) ?_ ?_
    rotate_left
    · intro w hSw
      (try dsimp only at hSw)
      go_simp
      try (with_reducible rfl)
    simp only [List.set]
    refine wpAnyH_on (i := 6) (d := 13) (v := ?_) rfl rfl (by kernel_rfl) (by kernel_rfl) (by kernel_rfl) (fun _ _ _ h => h) (by kernel_rfl) (by assumption) ?_ ?_
    rotate_left
    · intro w hSw
      (try dsimp only at hSw)
      go_simp
      try (with_reducible rfl)
    simp only [List.set]
    refine wpAnyH_on (i := 7) (d := 14) (v := ?_) rfl rfl (by kernel_rfl) (by kernel_rfl) (by kernel_rfl) (fun _ _ _ h => h) (by kernel_rfl) (by assumption) ?_ ?_
    rotate_left
    · intro w hSw
      (try dsimp only at hSw)
      go_simp
      try (with_reducible rfl)
    simp only [List.set]
    refine wpAnyH_ready (rs := [8]) (by kernel_rfl) (by simp) ?_
    refine AllReadyH.cons rfl (fun K hK => ?_) AllReadyH.nil
    go_simp
    refine (C3.out _ (h5.below hNow)).mono ?_
    rintro e w3 ⟨rfl, hb⟩
    dsimp only
    replace hNow := btr hNow hb
    clear hb
    refine hK.out _ _ (HK0.out _ hNow) (fun hHeld => ?_)
    clear hK K
    try dsimp only [Act.put, List.setIfInBounds_toArray, List.set_cons_zero, List.set_cons_succ]
    refine wpAnyH_on (i := 9) (d := 16) (v := ?_) rfl rfl (by kernel_rfl) (by kernel_rfl) (by kernel_rfl) (fun _ _ _ h => h) (by kernel_rfl) (by assumption) ?_ ?_
    rotate_left
    · intro w hSw
      (try dsimp only at hSw)
      go_simp
      try (with_reducible rfl)
    simp only [List.set]
    refine wpAnyH_on (i := 10) (d := 17) (v := ?_) rfl rfl (by kernel_rfl) (by kernel_rfl) (by kernel_rfl) (fun _ _ _ h => h) (by kernel_rfl) (by assumption) ?_ ?_
    rotate_left
    · intro w hSw
      (try dsimp only at hSw)
      go_simp
      try (with_reducible rfl)
    simp only [List.set]
    refine wpAnyH_off (i := 11) (d := 18) rfl rfl (by kernel_rfl) (by kernel_rfl) (by kernel_rfl) (fun _ _ _ h => h) (by kernel_rfl) (by assumption) ?_
    simp only [List.set]
    refine wpAnyH_off (i := 12) (d := 19) rfl rfl (by kernel_rfl) (by kernel_rfl) (by kernel_rfl) (fun _ _ _ h => h) (by kernel_rfl) (by assumption) ?_
    simp only [List.set]
    refine wpAnyH_off (i := 13) (d := 20) rfl rfl (by kernel_rfl) (by kernel_rfl) (by kernel_rfl) (fun _ _ _ h => h) (by kernel_rfl) (by assumption) ?_
    simp only [List.set]
    refine wpAnyH_off (i := 14) (d := 21) rfl rfl (by kernel_rfl) (by kernel_rfl) (by kernel_rfl) (fun _ _ _ h => h) (by kernel_rfl) (by assumption) ?_
    simp only [List.set]
    refine wpAnyH_off (i := 15) (d := 22) rfl rfl (by kernel_rfl) (by kernel_rfl) (by kernel_rfl) (fun _ _ _ h => h) (by kernel_rfl) (by assumption) ?_
    simp only [List.set]
    refine wpAnyH_off (i := 16) (d := 23) rfl rfl (by kernel_rfl) (by kernel_rfl) (by kernel_rfl) (fun _ _ _ h => h) (by kernel_rfl) (by assumption) ?_
    simp only [List.set]
    refine wpAnyH_off (i := 17) (d := 24) rfl rfl (by kernel_rfl) (by kernel_rfl) (by kernel_rfl) (fun _ _ _ h => h) (by kernel_rfl) (by assumption) ?_
    simp only [List.set]
    refine wpAnyH_off (i := 18) (d := 25) rfl rfl (by kernel_rfl) (by kernel_rfl) (by kernel_rfl) (fun _ _ _ h => h) (by kernel_rfl) (by assumption) ?_
    simp only [List.set]
    refine wpAnyH_on (i := 19) (d := 26) (v := ?_) rfl rfl (by kernel_rfl) (by kernel_rfl) (by kernel_rfl) (fun _ _ _ h => h) (by kernel_rfl) (by assumption) ?_ ?_
    rotate_left
    · intro w hSw
      (try dsimp only at hSw)
      go_simp
      try (with_reducible rfl)
    simp only [List.set]
    refine wpAnyH_on (i := 20) (d := 27) (v := ?_) rfl rfl (by kernel_rfl) (by kernel_rfl) (by kernel_rfl) (fun _ _ _ h => h) (by kernel_rfl) (by assumption) ?_ ?_
    rotate_left
    · intro w hSw
      (try dsimp only at hSw)
      go_simp
      try (with_reducible rfl)
    simp only [List.set]
    refine wpAnyH_off (i := 21) (d := 28) rfl rfl (by kernel_rfl) (by kernel_rfl) (by kernel_rfl) (fun _ _ _ h => h) (by kernel_rfl) (by assumption) ?_
    simp only [List.set]
    refine wpAnyH_off (i := 22) (d := 29) rfl rfl (by kernel_rfl) (by kernel_rfl) (by kernel_rfl) (fun _ _ _ h => h) (by kernel_rfl) (by assumption) ?_
    simp only [List.set]
    refine wpAnyH_off (i := 23) (d := 30) rfl rfl (by kernel_rfl) (by kernel_rfl) (by kernel_rfl) (fun _ _ _ h => h) (by kernel_rfl) (by assumption) ?_
    simp only [List.set]
    refine wpAnyH_off (i := 24) (d := 31) rfl rfl (by kernel_rfl) (by kernel_rfl) (by kernel_rfl) (fun _ _ _ h => h) (by kernel_rfl) (by assumption) ?_
    simp only [List.set]
    refine wpAnyH_off (i := 25) (d := 32) rfl rfl (by kernel_rfl) (by kernel_rfl) (by kernel_rfl) (fun _ _ _ h => h) (by kernel_rfl) (by assumption) ?_
    simp only [List.set]
    refine wpAnyH_off (i := 26) (d := 33) rfl rfl (by kernel_rfl) (by kernel_rfl) (by kernel_rfl) (fun _ _ _ h => h) (by kernel_rfl) (by assumption) ?_
    simp only [List.set]
    refine wpAnyH_off (i := 27) (d := 34) rfl rfl (by kernel_rfl) (by kernel_rfl) (by kernel_rfl) (fun _ _ _ h => h) (by kernel_rfl) (by assumption) ?_
    simp only [List.set]
    refine wpAnyH_off (i := 28) (d := 35) rfl rfl (by kernel_rfl) (by kernel_rfl) (by kernel_rfl) (fun _ _ _ h => h) (by kernel_rfl) (by assumption) ?_
    simp only [List.set]
    refine wpAnyH_on (i := 29) (d := 36) (v := ?_) rfl rfl (by kernel_rfl) (by kernel_rfl) (by kernel_rfl) (fun _ _ _ h => h) (by kernel_rfl) (by assumption) ?_ ?_
    rotate_left
    · intro w hSw
      (try dsimp only at hSw)
      go_simp
      try (with_reducible rfl)
    simp only [List.set]
    refine wpAnyH_on (i := 30) (d := 6) (v := ?_) rfl rfl (by kernel_rfl) (by kernel_rfl) (by kernel_rfl) (fun _ _ _ h => h) (by kernel_rfl) (by assumption) ?_ ?_
    rotate_left
    · intro w hSw
      (try dsimp only at hSw)
      go_simp
      try (with_reducible rfl)
    simp only [List.set]
    refine wpAnyH_done (by kernel_rfl) ?_ _
    go_wp2_with fail
    go_ret
    exact ⟨ret_bool HV.out.symm, btr b1 hNow⟩
  have hl2 : zs.length = 2 := by simp [flatB] at q1; exact q1.2
  obtain ⟨z0, z1, rfl⟩ : ∃ z0 z1, zs = [z0, z1] := by
    match zs, hl2 with
    | [z0, z1], _ => exact ⟨z0, z1, rfl⟩
  obtain ⟨ba, oa, rfl, hba, hca⟩ := h1 0 z0 rfl
  have hcb := h1.all (k := 1) (z := z1) rfl
  have hcaL : (ba : Nat) < (((w.alloc (.cells #[.slice (some ⟨ba, oa, none⟩) [z0, z1].length c, .slice B xs.length d] 26)).alloc (.cells #[.slice C ts.length c', .slice D ys.length d'] 26)).alloc (.cells #[.slice E us.length e', .slice F vs.length f'] 26)).heap.size := hba
  clear hl2
  by_cases q4 : ts = [z0]
  · rw [q1] at C1
    rw [q2] at C2
    rw [q3] at C3
    have HV : Hid (agreeB [z0, z1] xs ts ys us vs = ((vs.length : Int) == z1)) := Lib.hid (by rw [agreeB, q1, q2, q3, q4, Bool.eq_iff_iff]; simp)
    have CE := Lib.hid fun (g : Nat) (w' : World) (h : Rd w' C ts) (ho : Own w' g 3 [z0]) => sh_equal_b C (some ⟨g, 0, none⟩) c' 1 ts [z0] w' htl (by simp) h ho.rd
    rw [decide_eq_true q4] at CE
    clear q1 q2 q3 q4
    go_enter Try.func63, Try.ntmps63
    go_wp2_with fail
    generalize ((w.alloc (.cells #[.slice (some ⟨ba, oa, none⟩) 2 c, .slice B xs.length d] 26)).alloc (.cells #[.slice C ts.length c', .slice D ys.length d'] 26)).alloc (.cells #[.slice E us.length e', .slice F vs.length f'] 26) = W0 at *
    obtain ⟨t0, t1⟩ : W0.cell? ⟨ba, oa, none⟩ = some (.int .i64 z0) ∧ W0.cell? ⟨ba, oa + 1, none⟩ = some (.int .i64 z1) := ⟨hca, hcb⟩
    have HK0 : Hid (∀ w' : World, Below (W0).heap.size (W0) w' → Below (W0).heap.size (W0) w' ∧ w'.cell? ⟨w.heap.size, 0, none⟩ = some (.slice (some ⟨ba, oa, none⟩) 2 c) ∧ w'.cell? ⟨w.heap.size, 1, none⟩ = some (.slice B xs.length d) ∧ w'.cell? ⟨w.heap.size + 1, 0, none⟩ = some (.slice C ts.length c') ∧ w'.cell? ⟨w.heap.size + 1, 1, none⟩ = some (.slice D ys.length d') ∧ w'.cell? ⟨w.heap.size + 1 + 1, 0, none⟩ = some (.slice E us.length e') ∧ w'.cell? ⟨w.heap.size + 1 + 1, 1, none⟩ = some (.slice F vs.length f') ∧ w'.cell? ⟨ba, oa, none⟩ = some (.int .i64 z0) ∧ w'.cell? ⟨ba, oa + 1, none⟩ = some (.int .i64 z1)) := Lib.hid (fun w' hbk => ⟨hbk, (k1.keep hbk).cell 0, (k1.keep hbk).cell 1, (k2.keep hbk).cell 0, (k2.keep hbk).cell 1, (k3.keep hbk).cell 0, (k3.keep hbk).cell 1, (hbk.cell (p := ⟨_, _, _⟩) hba).trans t0, (hbk.cell (p := ⟨_, _, _⟩) hba).trans t1⟩)
    refine wp_region_held_drew (S := fun w' => Below (W0).heap.size (W0) w' ∧ w'.cell? ⟨w.heap.size, 0, none⟩ = some (.slice (some ⟨ba, oa, none⟩) 2 c) ∧ w'.cell? ⟨w.heap.size, 1, none⟩ = some (.slice B xs.length d) ∧ w'.cell? ⟨w.heap.size + 1, 0, none⟩ = some (.slice C ts.length c') ∧ w'.cell? ⟨w.heap.size + 1, 1, none⟩ = some (.slice D ys.length d') ∧ w'.cell? ⟨w.heap.size + 1 + 1, 0, none⟩ = some (.slice E us.length e') ∧ w'.cell? ⟨w.heap.size + 1 + 1, 1, none⟩ = some (.slice F vs.length f') ∧ w'.cell? ⟨ba, oa, none⟩ = some (.int .i64 z0) ∧ w'.cell? ⟨ba, oa + 1, none⟩ = some (.int .i64 z1)) (by kernel_rfl) (HK0.out _ (Below.refl _ _).drew) (fun hHeld => ?_)
    have hNow : Below (W0).heap.size (W0) (W0).drew := (Below.refl _ _).drew
    refine wpAnyH_on (i := 0) (d := 7) (v := ?_) rfl rfl (by kernel_rfl) (by kernel_rfl) (by kernel_rfl) (fun _ _ _ h => h) (by kernel_rfl) (by assumption) ?_ ?_
    rotate_left
    · intro w hSw
      (try dsimp only at hSw)
      go_simp
      try (with_reducible rfl)
    simp only [List.set]
    refine wpAnyH_ready (rs := [1]) (by kernel_rfl) (by simp) ?_
    refine AllReadyH.cons rfl (fun K hK => ?_) AllReadyH.nil
    go_simp
    refine (C1.out _ (h1.below hNow)).mono ?_
    rintro e w1 ⟨rfl, hb⟩
    dsimp only
    replace hNow := btr hNow hb
    clear hb
    refine hK.out _ _ (HK0.out _ hNow) (fun hHeld => ?_)
    clear hK K
    try dsimp only [Act.put, List.setIfInBounds_toArray, List.set_cons_zero, List.set_cons_succ]
    refine wpAnyH_on (i := 2) (d := 9) (v := ?_) rfl rfl (by kernel_rfl) (by kernel_rfl) (by kernel_rfl) (fun _ _ _ h => h) (by kernel_rfl) (by assumption) ?_ ?_
    rotate_left
    · intro w hSw
      (try dsimp only at hSw)
      go_simp
      try (with_reducible rfl)
    simp only [List.set]
    refine wpAnyH_on (i := 3) (d := 10) (v := ?_) rfl rfl (by kernel_rfl) (by kernel_rfl) (by kernel_rfl) (fun _ _ _ h => h) (by kernel_rfl) (by assumption) ?_ ?_
    rotate_left
    · intro w hSw
      (try dsimp only at hSw)
      go_simp
      try (with_reducible rfl)
    simp only [List.set]
    refine wpAnyH_ready (rs := [4]) (by kernel_rfl) (by simp) ?_
    refine AllReadyH.cons rfl (fun K hK => ?_) AllReadyH.nil
    go_simp
    refine (C2.out _ (h3.below hNow)).mono ?_
    rintro e w2 ⟨rfl, hb⟩
    dsimp only
    replace hNow := btr hNow hb
    clear hb
    refine hK.out _ _ (HK0.out _ hNow) (fun hHeld => ?_)
    clear hK K
    try dsimp only [Act.put, List.setIfInBounds_toArray, List.set_cons_zero, List.set_cons_succ]
    refine wpAnyH_on (i := 5) (d := 12) (v := ?_) rfl rfl (by kernel_rfl) (by kernel_rfl) (by kernel_rfl) (fun _ _ _ h => h) (by kernel_rfl) (by assumption) ?_ ?_
    rotate_left
    · intro w hSw
      (try dsimp only at hSw)
      go_simp
      try (with_reducible rfl)
    simp only [List.set]
    refine wpAnyH_on (i := 6) (d := 13) (v := ?_) rfl rfl (by kernel_rfl) (by kernel_rfl) (by kernel_rfl) (fun _ _ _ h => h) (by kernel_rfl) (by assumption) ?_ ?_
    rotate_left
    · intro w hSw
      (try dsimp only at hSw)
      go_simp
      try (with_reducible rfl)
    simp only [List.set]
    refine wpAnyH_on (i := 7) (d := 14) (v := ?_) rfl rfl (by kernel_rfl) (by kernel_rfl) (by kernel_rfl) (fun _ _ _ h => h) (by kernel_rfl) (by assumption) ?_ ?_
    rotate_left
    · intro w hSw
      (try dsimp only at hSw)
      go_simp
      try (with_reducible rfl)
    simp only [List.set]
    refine wpAnyH_ready (rs := [8]) (by kernel_rfl) (by simp) ?_
    refine AllReadyH.cons rfl (fun K hK => ?_) AllReadyH.nil
    go_simp
    refine (C3.out _ (h5.below hNow)).mono ?_
    rintro e w3 ⟨rfl, hb⟩
    dsimp only
    replace hNow := btr hNow hb
    clear hb
    refine hK.out _ _ (HK0.out _ hNow) (fun hHeld => ?_)
    clear hK K
    try dsimp only [Act.put, List.setIfInBounds_toArray, List.set_cons_zero, List.set_cons_succ]
    refine wpAnyH_on (i := 9) (d := 16) (v := ?_) rfl rfl (by kernel_rfl) (by kernel_rfl) (by kernel_rfl) (fun _ _ _ h => h) (by kernel_rfl) (by assumption) ?_ ?_
    rotate_left
    · intro w hSw
      (try dsimp only at hSw)
      go_simp
      try (with_reducible rfl)
    simp only [List.set]
    refine wpAnyH_on (i := 10) (d := 17) (v := ?_) rfl rfl (by kernel_rfl) (by kernel_rfl) (by kernel_rfl) (fun _ _ _ h => h) (by kernel_rfl) (by assumption) ?_ ?_
    rotate_left
    · intro w hSw
      (try dsimp only at hSw)
      go_simp
      try (with_reducible rfl)
    simp only [List.set]
    refine wpAnyH_on (i := 11) (d := 18) (v := ?_) rfl rfl (by kernel_rfl) (by kernel_rfl) (by kernel_rfl) (fun _ _ _ h => h) (by kernel_rfl) (by assumption) ?_ ?_
    rotate_left
    · intro w hSw
      (try dsimp only at hSw)
      go_simp
      try (with_reducible rfl)
    simp only [List.set]
    refine wpAnyH_on (i := 12) (d := 19) (v := ?_) rfl rfl (by kernel_rfl) (by kernel_rfl) (by kernel_rfl) (fun _ _ _ h => h) (by kernel_rfl) (by assumption) ?_ ?_
    rotate_left
    · intro w hSw
      (try dsimp only at hSw)
      go_simp
      try (with_reducible rfl)
    simp only [List.set]
    refine wpAnyH_on (i := 13) (d := 20) (v := ?_) rfl rfl (by kernel_rfl) (by kernel_rfl) (by kernel_rfl) (fun _ _ _ h => h) (by kernel_rfl) (by assumption) ?_ ?_
    rotate_left
    · intro w hSw
      (try dsimp only at hSw)
      go_simp
      try (with_reducible rfl)
    simp only [List.set]
    refine wpAnyH_on (i := 14) (d := 21) (v := ?_) rfl rfl (by kernel_rfl) (by kernel_rfl) (by kernel_rfl) (fun _ _ _ h => h) (by kernel_rfl) (by assumption) ?_ ?_
    rotate_left
    · intro w hSw
      (try dsimp only at hSw)
      go_simp
      try (with_reducible rfl)
    simp only [List.set]
    refine wpAnyH_on (i := 15) (d := 22) (v := ?_) rfl rfl (by kernel_rfl) (by kernel_rfl) (by kernel_rfl) (fun _ _ _ h => h) (by kernel_rfl) (by assumption) ?_ ?_
    rotate_left
    · intro w hSw
      (try dsimp only at hSw)
      go_simp
      try (with_reducible rfl)
    simp only [List.set]
    refine wpAnyH_on (i := 16) (d := 23) (v := ?_) rfl rfl (by kernel_rfl) (by kernel_rfl) (by kernel_rfl) (fun _ _ _ h => h) (by kernel_rfl) (by assumption) ?_ ?_
    rotate_left
    · intro w hSw
      (try dsimp only at hSw)
      go_simp
      try (with_reducible rfl)
    simp only [List.set]
    refine wpAnyH_ready (rs := [17]) (by kernel_rfl) (by simp) ?_
    refine AllReadyH.cons rfl (fun K hK => ?_) AllReadyH.nil
    go_simp
    replace hNow := hNow.alloc hNow.size (.cells #[.int .i64 z0] 3)
    refine hK.out _ _ (HK0.out _ hNow) (fun hHeld => ?_)
    clear hK K
    try dsimp only [Act.put, List.setIfInBounds_toArray, List.set_cons_zero, List.set_cons_succ]
    refine wpAnyH_ready (rs := [18]) (by kernel_rfl) (by simp) ?_
    refine AllReadyH.cons rfl (fun K hK => ?_) AllReadyH.nil
    go_simp
    refine (CE.out _ _ (h3.below hNow) (own_lit4 w3 3 [z0] #[.int .i64 z0] rfl)).mono ?_
    rintro e w4 ⟨rfl, hb⟩
    dsimp only
    replace hNow := btr hNow hb
    clear hb
    refine hK.out _ _ (HK0.out _ hNow) (fun hHeld => ?_)
    clear hK K
    try dsimp only [Act.put, List.setIfInBounds_toArray, List.set_cons_zero, List.set_cons_succ]
    refine wpAnyH_on (i := 19) (d := 26) (v := ?_) rfl rfl (by kernel_rfl) (by kernel_rfl) (by kernel_rfl) (fun _ _ _ h => h) (by kernel_rfl) (by assumption) ?_ ?_
    rotate_left
    · intro w hSw
      (try dsimp only at hSw)
      go_simp
      try (with_reducible rfl)
    simp only [List.set]
    refine wpAnyH_on (i := 20) (d := 27) (v := ?_) rfl rfl (by kernel_rfl) (by kernel_rfl) (by kernel_rfl) (fun _ _ _ h => h) (by kernel_rfl) (by assumption) ?_ ?_
    rotate_left
    · intro w hSw
      (try dsimp only at hSw)
      go_simp
      try (with_reducible rfl)
    simp only [List.set]
    refine wpAnyH_on (i := 21) (d := 28) (v := ?_) rfl rfl (by kernel_rfl) (by kernel_rfl) (by kernel_rfl) (fun _ _ _ h => h) (by kernel_rfl) (by assumption) ?_ ?_
    rotate_left
    · intro w hSw
      (try dsimp only at hSw)
      go_simp
      try (with_reducible rfl)
    simp only [List.set]
    refine wpAnyH_on (i := 22) (d := 29) (v := ?_) rfl rfl (by kernel_rfl) (by kernel_rfl) (by kernel_rfl) (fun _ _ _ h => h) (by kernel_rfl) (by assumption) ?_ ?_
    rotate_left
    · intro w hSw
      (try dsimp only at hSw)
      go_simp
      try (with_reducible rfl)
    simp only [List.set]
    refine wpAnyH_on (i := 23) (d := 30) (v := ?_) rfl rfl (by kernel_rfl) (by kernel_rfl) (by kernel_rfl) (fun _ _ _ h => h) (by kernel_rfl) (by assumption) ?_ ?_
    rotate_left
    · intro w hSw
      (try dsimp only at hSw)
      go_simp
      try (with_reducible rfl)
    simp only [List.set]
    refine wpAnyH_on (i := 24) (d := 31) (v := ?_) rfl rfl (by kernel_rfl) (by kernel_rfl) (by kernel_rfl) (fun _ _ _ h => h) (by kernel_rfl) (by assumption) ?_ ?_
    rotate_left
    · intro w hSw
      (try dsimp only at hSw)
      go_simp
      try (with_reducible rfl)
    simp only [List.set]
    refine wpAnyH_on (i := 25) (d := 32) (v := ?_) rfl rfl (by kernel_rfl) (by kernel_rfl) (by kernel_rfl) (fun _ _ _ h => h) (by kernel_rfl) (by assumption) ?_ ?_
    rotate_left
    · intro w hSw
      (try dsimp only at hSw)
      go_simp
      try (with_reducible rfl)
    simp only [List.set]
    refine wpAnyH_on (i := 26) (d := 33) (v := ?_) rfl rfl (by kernel_rfl) (by kernel_rfl) (by kernel_rfl) (fun _ _ _ h => h) (by kernel_rfl) (by assumption) ?_ ?_
    rotate_left
    · intro w hSw
      (try dsimp only at hSw)
      go_simp
      try (with_reducible rfl)
    simp only [List.set]
    refine wpAnyH_on (i := 27) (d := 34) (v := ?_) rfl rfl (by kernel_rfl) (by kernel_rfl) (by kernel_rfl) (fun _ _ _ h => h) (by kernel_rfl) (by assumption) ?_ ?_
    rotate_left
    · intro w hSw
      (try dsimp only at hSw)
      go_simp
      try (with_reducible rfl)
    simp only [List.set]
    refine wpAnyH_on (i := 28) (d := 35) (v := ?_) rfl rfl (by kernel_rfl) (by kernel_rfl) (by kernel_rfl) (fun _ _ _ h => h) (by kernel_rfl) (by assumption) ?_ ?_
    rotate_left
    · intro w hSw
      (try dsimp only at hSw)
      go_simp
      try (with_reducible rfl)
    simp only [List.set]
    refine wpAnyH_on (i := 29) (d := 36) (v := ?_) rfl rfl (by kernel_rfl) (by kernel_rfl) (by kernel_rfl) (fun _ _ _ h => h) (by kernel_rfl) (by assumption) ?_ ?_
    rotate_left
    · intro w hSw
      (try dsimp only at hSw)
      go_simp
      try (with_reducible rfl)
    simp only [List.set]
    refine wpAnyH_on (i := 30) (d := 6) (v := ?_) rfl rfl (by kernel_rfl) (by kernel_rfl) (by kernel_rfl) (fun _ _ _ h => h) (by kernel_rfl) (by assumption) ?_ ?_
    rotate_left
    · intro w hSw
      (try dsimp only at hSw)
      go_simp
      try (with_reducible rfl)
    simp only [List.set]
    refine wpAnyH_done (by kernel_rfl) ?_ _
    go_wp2_with fail
    go_ret
    exact ⟨ret_bool HV.out.symm, btr b1 hNow⟩
  · rw [q1] at C1
    rw [q2] at C2
    rw [q3] at C3
    have HV : Hid (agreeB [z0, z1] xs ts ys us vs = false) := Lib.hid (by simp [agreeB, q4])
    have CE := Lib.hid fun (g : Nat) (w' : World) (h : Rd w' C ts) (ho : Own w' g 3 [z0]) => sh_equal_b C (some ⟨g, 0, none⟩) c' 1 ts [z0] w' htl (by simp) h ho.rd
    rw [decide_eq_false q4] at CE
    clear q1 q2 q3 q4
    go_enter Try.func63, Try.ntmps63
    go_wp2_with fail
    generalize ((w.alloc (.cells #[.slice (some ⟨ba, oa, none⟩) 2 c, .slice B xs.length d] 26)).alloc (.cells #[.slice C ts.length c', .slice D ys.length d'] 26)).alloc (.cells #[.slice E us.length e', .slice F vs.length f'] 26) = W0 at *
    obtain ⟨t0, t1⟩ : W0.cell? ⟨ba, oa, none⟩ = some (.int .i64 z0) ∧ W0.cell? ⟨ba, oa + 1, none⟩ = some (.int .i64 z1) := ⟨hca, hcb⟩
    have HK0 : Hid (∀ w' : World, Below (W0).heap.size (W0) w' → Below (W0).heap.size (W0) w' ∧ w'.cell? ⟨w.heap.size, 0, none⟩ = some (.slice (some ⟨ba, oa, none⟩) 2 c) ∧ w'.cell? ⟨w.heap.size, 1, none⟩ = some (.slice B xs.length d) ∧ w'.cell? ⟨w.heap.size + 1, 0, none⟩ = some (.slice C ts.length c') ∧ w'.cell? ⟨w.heap.size + 1, 1, none⟩ = some (.slice D ys.length d') ∧ w'.cell? ⟨w.heap.size + 1 + 1, 0, none⟩ = some (.slice E us.length e') ∧ w'.cell? ⟨w.heap.size + 1 + 1, 1, none⟩ = some (.slice F vs.length f') ∧ w'.cell? ⟨ba, oa, none⟩ = some (.int .i64 z0) ∧ w'.cell? ⟨ba, oa + 1, none⟩ = some (.int .i64 z1)) := Lib.hid (fun w' hbk => ⟨hbk, (k1.keep hbk).cell 0, (k1.keep hbk).cell 1, (k2.keep hbk).cell 0, (k2.keep hbk).cell 1, (k3.keep hbk).cell 0, (k3.keep hbk).cell 1, (hbk.cell (p := ⟨_, _, _⟩) hba).trans t0, (hbk.cell (p := ⟨_, _, _⟩) hba).trans t1⟩)
    refine wp_region_held_drew (S := fun w' => Below (W0).heap.size (W0) w' ∧ w'.cell? ⟨w.heap.size, 0, none⟩ = some (.slice (some ⟨ba, oa, none⟩) 2 c) ∧ w'.cell? ⟨w.heap.size, 1, none⟩ = some (.slice B xs.length d) ∧ w'.cell? ⟨w.heap.size + 1, 0, none⟩ = some (.slice C ts.length c') ∧ w'.cell? ⟨w.heap.size + 1, 1, none⟩ = some (.slice D ys.length d') ∧ w'.cell? ⟨w.heap.size + 1 + 1, 0, none⟩ = some (.slice E us.length e') ∧ w'.cell? ⟨w.heap.size + 1 + 1, 1, none⟩ = some (.slice F vs.length f') ∧ w'.cell? ⟨ba, oa, none⟩ = some (.int .i64 z0) ∧ w'.cell? ⟨ba, oa + 1, none⟩ = some (.int .i64 z1)) (by kernel_rfl) (HK0.out _ (Below.refl _ _).drew) (fun hHeld => ?_)
    have hNow : Below (W0).heap.size (W0) (W0).drew := (Below.refl _ _).drew
    refine wpAnyH_on (i := 0) (d := 7) (v := ?_) rfl rfl (by kernel_rfl) (by kernel_rfl) (by kernel_rfl) (fun _ _ _ h => h) (by kernel_rfl) (by assumption) ?_ ?_
    rotate_left
    · intro w hSw
      (try dsimp only at hSw)
      go_simp
      try (with_reducible rfl)
    simp only [List.set]
    refine wpAnyH_ready (rs := [1]) (by kernel_rfl) (by simp) ?_
    refine AllReadyH.cons rfl (fun K hK => ?_) AllReadyH.nil
    go_simp
    refine (C1.out _ (h1.below hNow)).mono ?_
    rintro e w1 ⟨rfl, hb⟩
    dsimp only
    replace hNow := btr hNow hb
    clear hb
    refine hK.out _ _ (HK0.out _ hNow) (fun hHeld => ?_)
    clear hK K
    try dsimp only [Act.put, List.setIfInBounds_toArray, List.set_cons_zero, List.set_cons_succ]
    refine wpAnyH_on (i := 2) (d := 9) (v := ?_) rfl rfl (by kernel_rfl) (by kernel_rfl) (by kernel_rfl) (fun _ _ _ h => h) (by kernel_rfl) (by assumption) ?_ ?_
    rotate_left
    · intro w hSw
      (try dsimp only at hSw)
      go_simp
      try (with_reducible rfl)
    simp only [List.set]
    refine wpAnyH_on (i := 3) (d := 10) (v := ?_) rfl rfl (by kernel_rfl) (by kernel_rfl) (by kernel_rfl) (fun _ _ _ h => h) (by kernel_rfl) (by assumption) ?_ ?_
    rotate_left
    · intro w hSw
      (try dsimp only at hSw)
      go_simp
      try (with_reducible rfl)
    simp only [List.set]
    refine wpAnyH_ready (rs := [4]) (by kernel_rfl) (by simp) ?_
    refine AllReadyH.cons rfl (fun K hK => ?_) AllReadyH.nil
    go_simp
    refine (C2.out _ (h3.below hNow)).mono ?_
    rintro e w2 ⟨rfl, hb⟩
    dsimp only
    replace hNow := btr hNow hb
    clear hb
    refine hK.out _ _ (HK0.out _ hNow) (fun hHeld => ?_)
    clear hK K
    try dsimp only [Act.put, List.setIfInBounds_toArray, List.set_cons_zero, List.set_cons_succ]
    refine wpAnyH_on (i := 5) (d := 12) (v := ?_) rfl rfl (by kernel_rfl) (by kernel_rfl) (by kernel_rfl) (fun _ _ _ h => h) (by kernel_rfl) (by assumption) ?_ ?_
    rotate_left
    · intro w hSw
      (try dsimp only at hSw)
      go_simp
      try (with_reducible rfl)
    simp only [List.set]
    refine wpAnyH_on (i := 6) (d := 13) (v := ?_) rfl rfl (by kernel_rfl) (by kernel_rfl) (by kernel_rfl) (fun _ _ _ h => h) (by kernel_rfl) (by assumption) ?_ ?_
    rotate_left
    · intro w hSw
      (try dsimp only at hSw)
      go_simp
      try (with_reducible rfl)
    simp only [List.set]
    refine wpAnyH_on (i := 7) (d := 14) (v := ?_) rfl rfl (by kernel_rfl) (by kernel_rfl) (by kernel_rfl) (fun _ _ _ h => h) (by kernel_rfl) (by assumption) ?_ ?_
    rotate_left
    · intro w hSw
      (try dsimp only at hSw)
      go_simp
      try (with_reducible rfl)
    simp only [List.set]
    refine wpAnyH_ready (rs := [8]) (by kernel_rfl) (by simp) ?_
    refine AllReadyH.cons rfl (fun K hK => ?_) AllReadyH.nil
    go_simp
    refine (C3.out _ (h5.below hNow)).mono ?_
    rintro e w3 ⟨rfl, hb⟩
    dsimp only
    replace hNow := btr hNow hb
    clear hb
    refine hK.out _ _ (HK0.out _ hNow) (fun hHeld => ?_)
    clear hK K
    try dsimp only [Act.put, List.setIfInBounds_toArray, List.set_cons_zero, List.set_cons_succ]
    refine wpAnyH_on (i := 9) (d := 16) (v := ?_) rfl rfl (by kernel_rfl) (by kernel_rfl) (by kernel_rfl) (fun _ _ _ h => h) (by kernel_rfl) (by assumption) ?_ ?_
    rotate_left
    · intro w hSw
      (try dsimp only at hSw)
      go_simp
      try (with_reducible rfl)
    simp only [List.set]
    refine wpAnyH_on (i := 10) (d := 17) (v := ?_) rfl rfl (by kernel_rfl) (by kernel_rfl) (by kernel_rfl) (fun _ _ _ h => h) (by kernel_rfl) (by assumption) ?_ ?_
    rotate_left
    · intro w hSw
      (try dsimp only at hSw)
      go_simp
      try (with_reducible rfl)
    simp only [List.set]
    refine wpAnyH_on (i := 11) (d := 18) (v := ?_) rfl rfl (by kernel_rfl) (by kernel_rfl) (by kernel_rfl) (fun _ _ _ h => h) (by kernel_rfl) (by assumption) ?_ ?_
    rotate_left
    · intro w hSw
      (try dsimp only at hSw)
      go_simp
      try (with_reducible rfl)
    simp only [List.set]
    refine wpAnyH_on (i := 12) (d := 19) (v := ?_) rfl rfl (by kernel_rfl) (by kernel_rfl) (by kernel_rfl) (fun _ _ _ h => h) (by kernel_rfl) (by assumption) ?_ ?_
    rotate_left
    · intro w hSw
      (try dsimp only at hSw)
      go_simp
      try (with_reducible rfl)
    simp only [List.set]
    refine wpAnyH_on (i := 13) (d := 20) (v := ?_) rfl rfl (by kernel_rfl) (by kernel_rfl) (by kernel_rfl) (fun _ _ _ h => h) (by kernel_rfl) (by assumption) ?_ ?_
    rotate_left
    · intro w hSw
      (try dsimp only at hSw)
      go_simp
      try (with_reducible rfl)
    simp only [List.set]
    refine wpAnyH_on (i := 14) (d := 21) (v := ?_) rfl rfl (by kernel_rfl) (by kernel_rfl) (by kernel_rfl) (fun _ _ _ h => h) (by kernel_rfl) (by assumption) ?_ ?_
    rotate_left
    · intro w hSw
      (try dsimp only at hSw)
      go_simp
      try (with_reducible rfl)
    simp only [List.set]
    refine wpAnyH_on (i := 15) (d := 22) (v := ?_) rfl rfl (by kernel_rfl) (by kernel_rfl) (by kernel_rfl) (fun _ _ _ h => h) (by kernel_rfl) (by assumption) ?_ ?_
    rotate_left
    · intro w hSw
      (try dsimp only at hSw)
      go_simp
      try (with_reducible rfl)
    simp only [List.set]
    refine wpAnyH_on (i := 16) (d := 23) (v := ?_) rfl rfl (by kernel_rfl) (by kernel_rfl) (by kernel_rfl) (fun _ _ _ h => h) (by kernel_rfl) (by assumption) ?_ ?_
    rotate_left
    · intro w hSw
      (try dsimp only at hSw)
      go_simp
      try (with_reducible rfl)
    simp only [List.set]
    refine wpAnyH_ready (rs := [17]) (by kernel_rfl) (by simp) ?_
    refine AllReadyH.cons rfl (fun K hK => ?_) AllReadyH.nil
    go_simp
    replace hNow := hNow.alloc hNow.size (.cells #[.int .i64 z0] 3)
    refine hK.out _ _ (HK0.out _ hNow) (fun hHeld => ?_)
    clear hK K
    try dsimp only [Act.put, List.setIfInBounds_toArray, List.set_cons_zero, List.set_cons_succ]
    refine wpAnyH_ready (rs := [18]) (by kernel_rfl) (by simp) ?_
    refine AllReadyH.cons rfl (fun K hK => ?_) AllReadyH.nil
    go_simp
    refine (CE.out _ _ (h3.below hNow) (own_lit4 w3 3 [z0] #[.int .i64 z0] rfl)).mono ?_
    rintro e w4 ⟨rfl, hb⟩
    dsimp only
    replace hNow := btr hNow hb
    clear hb
    refine hK.out _ _ (HK0.out _ hNow) (fun hHeld => ?_)
    clear hK K
    try dsimp only [Act.put, List.setIfInBounds_toArray, List.set_cons_zero, List.set_cons_succ]
    refine wpAnyH_on (i := 19) (d := 26) (v := ?_) rfl rfl (by kernel_rfl) (by kernel_rfl) (by kernel_rfl) (fun _ _ _ h => h) (by kernel_rfl) (by assumption) ?_ ?_
    rotate_left
    · intro w hSw
      (try dsimp only at hSw)
      go_simp
      try (with_reducible rfl)
    simp only [List.set]
    refine wpAnyH_on (i := 20) (d := 27) (v := ?_) rfl rfl (by kernel_rfl) (by kernel_rfl) (by kernel_rfl) (fun _ _ _ h => h) (by kernel_rfl) (by assumption) ?_ ?_
    rotate_left
    · intro w hSw
      (try dsimp only at hSw)
      go_simp
      try (with_reducible rfl)
    simp only [List.set]
    refine wpAnyH_off (i := 21) (d := 28) rfl rfl (by kernel_rfl) (by kernel_rfl) (by kernel_rfl) (fun _ _ _ h => h) (by kernel_rfl) (by assumption) ?_
    simp only [List.set]
    refine wpAnyH_off (i := 22) (d := 29) rfl rfl (by kernel_rfl) (by kernel_rfl) (by kernel_rfl) (fun _ _ _ h => h) (by kernel_rfl) (by assumption) ?_
    simp only [List.set]
    refine wpAnyH_off (i := 23) (d := 30) rfl rfl (by kernel_rfl) (by kernel_rfl) (by kernel_rfl) (fun _ _ _ h => h) (by kernel_rfl) (by assumption) ?_
    simp only [List.set]
    refine wpAnyH_off (i := 24) (d := 31) rfl rfl (by kernel_rfl) (by kernel_rfl) (by kernel_rfl) (fun _ _ _ h => h) (by kernel_rfl) (by assumption) ?_
    simp only [List.set]
    refine wpAnyH_off (i := 25) (d := 32) rfl rfl (by kernel_rfl) (by kernel_rfl) (by kernel_rfl) (fun _ _ _ h => h) (by kernel_rfl) (by assumption) ?_
    simp only [List.set]
    refine wpAnyH_off (i := 26) (d := 33) rfl rfl (by kernel_rfl) (by kernel_rfl) (by kernel_rfl) (fun _ _ _ h => h) (by kernel_rfl) (by assumption) ?_
    simp only [List.set]
    refine wpAnyH_off (i := 27) (d := 34) rfl rfl (by kernel_rfl) (by kernel_rfl) (by kernel_rfl) (fun _ _ _ h => h) (by kernel_rfl) (by assumption) ?_
    simp only [List.set]
    refine wpAnyH_off (i := 28) (d := 35) rfl rfl (by kernel_rfl) (by kernel_rfl) (by kernel_rfl) (fun _ _ _ h => h) (by kernel_rfl) (by assumption) ?_
    simp only [List.set]
    refine wpAnyH_on (i := 29) (d := 36) (v := ?_) rfl rfl (by kernel_rfl) (by kernel_rfl) (by kernel_rfl) (fun _ _ _ h => h) (by kernel_rfl) (by assumption) ?_ ?_
    rotate_left
    · intro w hSw
      (try dsimp only at hSw)
      go_simp
      try (with_reducible rfl)
    simp only [List.set]
    refine wpAnyH_on (i := 30) (d := 6) (v := ?_) rfl rfl (by kernel_rfl) (by kernel_rfl) (by kernel_rfl) (fun _ _ _ h => h) (by kernel_rfl) (by assumption) ?_ ?_
    rotate_left
    · intro w hSw
      (try dsimp only at hSw)
      go_simp
      try (with_reducible rfl)
    simp only [List.set]
    refine wpAnyH_done (by kernel_rfl) ?_ _
    go_wp2_with fail
    go_ret
    exact ⟨ret_bool HV.out.symm, btr b1 hNow⟩

end Go.Proofs.Ythcdjdhnjbdfeaa
