/- The walk of awake of the statements on dense layers. -/
import Derived.Test.YthcdjdhnjbdfeaaLaw06
namespace Go.Proofs.Ythcdjdhnjbdfeaa
open Go.RowKit

theorem own_lit4' {w : World} {g : Nat} {T : TypeId} {zs : List Int} {cs : Array Value} (h : Blk w g T cs) (e : cs = ints zs := by rfl) : Own w g T zs := by subst e; exact h

set_option maxRecDepth 100000 in
set_option maxHeartbeats 4000000 in
theorem l06_awake (w : World) : Calls Try.prog 33 #[] w (RetB w (.bool true)) := by
  go_enter Try.func33, Try.ntmps33
  go_wp2_with fail
  have o1 := own_lit4 w 3 [2, 2] #[.int .i64 2, .int .i64 2] rfl
  have o2 := own_lit4 (w.alloc (.cells #[.int .i64 2, .int .i64 2] 3)) 3 [1, 2, 3, 4] #[.int .i64 1, .int .i64 2, .int .i64 3, .int .i64 4] rfl
  simp only [World.size_alloc] at o2
  refine (l06_of (some ⟨w.heap.size, 0, none⟩) (some ⟨w.heap.size + 1, 0, none⟩) 2 4 [2, 2] [1, 2, 3, 4] _ (by decide) o2.rd).mono ?_
  rintro e w1 ⟨B1, d1, rfl, x1, hb⟩
  have pw1 := Prev.mk hb
  clear hb
  rw [show [1, 2, 3, 4].map fint = [4294967296, 8589934592, 12884901888, 17179869184] from by decide] at x1
  clear o2
  go_wp2_with fail
  have o3 := own_lit4 w1 3 [2] #[.int .i64 2] rfl
  have o4 := own_lit4 (w1.alloc (.cells #[.int .i64 2] 3)) 3 [0, 1] #[.int .i64 0, .int .i64 1] rfl
  simp only [World.size_alloc] at o4
  refine (l06_of (some ⟨w1.heap.size, 0, none⟩) (some ⟨w1.heap.size + 1, 0, none⟩) 1 2 [2] [0, 1] _ (by decide) o4.rd).mono ?_
  rintro e w2 ⟨B2, d2, rfl, x2, hb⟩
  have pw2 := Prev.mk hb
  clear hb
  rw [show [0, 1].map fint = [0, 4294967296] from by decide] at x2
  clear o4
  go_wp2_with fail
  have o5 := own_lit4 w2 3 [1, 2] #[.int .i64 1, .int .i64 2] rfl
  have o6 := own_lit4 (w2.alloc (.cells #[.int .i64 1, .int .i64 2] 3)) 3 [1, 1] #[.int .i64 1, .int .i64 1] rfl
  simp only [World.size_alloc] at o6
  refine (l06_of (some ⟨w2.heap.size, 0, none⟩) (some ⟨w2.heap.size + 1, 0, none⟩) 2 2 [1, 2] [1, 1] _ (by decide) o6.rd).mono ?_
  rintro e w3 ⟨B3, d3, rfl, x3, hb⟩
  have pw3 := Prev.mk hb
  clear hb
  rw [show [1, 1].map fint = [4294967296, 4294967296] from by decide] at x3
  clear o6
  go_wp2_with fail
  have kW := Blk.new w3 26 #[.slice (some ⟨w.heap.size, 0, none⟩) 2 2, .slice B1 4 d1]
  have kB := Blk.new' (w3.alloc (.cells #[.slice (some ⟨w.heap.size, 0, none⟩) 2 2, .slice B1 4 d1] 26)) 26 #[.slice (some ⟨w1.heap.size, 0, none⟩) 1 1, .slice B2 2 d2] (n := w3.heap.size + 1) (by simp)
  have kX := Blk.new' ((w3.alloc (.cells #[.slice (some ⟨w.heap.size, 0, none⟩) 2 2, .slice B1 4 d1] 26)).alloc (.cells #[.slice (some ⟨w1.heap.size, 0, none⟩) 1 1, .slice B2 2 d2] 26)) 26 #[.slice (some ⟨w2.heap.size, 0, none⟩) 2 2, .slice B3 2 d3] (n := w3.heap.size + 1 + 1) (by simp)
  refine (d_go_yes (some ⟨w.heap.size, 0, none⟩) B1 (some ⟨w1.heap.size, 0, none⟩) B2 (some ⟨w2.heap.size, 0, none⟩) B3 2 d1 1 d2 2 d3 [2, 2] [4294967296, 8589934592, 12884901888, 17179869184] [2] [0, 4294967296] [1, 2] [4294967296, 4294967296] _ x1.len_le (by decide) o1.rd.at x1.rd.at o3.rd.at x2.rd.at o5.rd.at x3.rd.at (Lib.hid (by simp [I64])) (Lib.hid (by simp [I64])) (Lib.hid (by simp [I64])) (Lib.hid (by decide))).mono ?_
  rintro e w4 ⟨A4, c4, B4, d4, rfl, s4, x4, hb⟩
  have pw4 := Prev.mk hb
  clear hb
  rw [show goCells [4294967296, 8589934592, 12884901888, 17179869184] [0, 4294967296] [4294967296, 4294967296] ([0, 4294967296] : List Int).length = [12884901888, 34359738368] from by decide +kernel] at x4 ⊢
  have kY := Blk.new w4 26 #[.slice A4 1 c4, .slice B4 2 d4]
  obtain ⟨p0, p1⟩ := box2 (kW.at (w' := w4.alloc (.cells #[.slice A4 1 c4, .slice B4 2 d4] 26)))
  obtain ⟨p2, p3⟩ := box2 (kB.at (w' := w4.alloc (.cells #[.slice A4 1 c4, .slice B4 2 d4] 26)))
  obtain ⟨p4, p5⟩ := box2 (kX.at (w' := w4.alloc (.cells #[.slice A4 1 c4, .slice B4 2 d4] 26)))
  go_wp2_with fail
  clear p0 p1 p2 p3 p4 p5
  have pY := Prev.alloc w4 (.cells #[.slice A4 1 c4, .slice B4 2 d4] 26)
  generalize w4.alloc (.cells #[.slice A4 1 c4, .slice B4 2 d4] 26) = w5 at *
  refine (d_back_yes (some ⟨w.heap.size, 0, none⟩) B1 (some ⟨w1.heap.size, 0, none⟩) B2 (some ⟨w2.heap.size, 0, none⟩) B3 A4 B4 2 d1 1 d2 2 d3 c4 d4 [2, 2] [4294967296, 8589934592, 12884901888, 17179869184] [2] [0, 4294967296] [1, 2] [4294967296, 4294967296] [2] [12884901888, 34359738368] _ x1.len_le (by decide) o1.rd.at x1.rd.at o3.rd.at o5.rd.at x3.rd.at s4.rd.at x4.rd.at (Lib.hid (by simp [I64])) (Lib.hid (by simp [I64])) (Lib.hid (by simp [I64])) (Lib.hid (by decide))).mono ?_
  rintro e w6 ⟨A6, c6, B6, d6, A7, c7, B7, d7, A8, c8, B8, d8, rfl, -, -, s7, x7, s8, x8, hb⟩
  have pw6 := Prev.mk hb
  clear hb
  rw [show backX ([4294967296, 4294967296] : List Int).length [4294967296, 8589934592, 12884901888, 17179869184] [12884901888, 34359738368] = [115964116992, 163208757248] from by decide +kernel] at x8 ⊢
  rw [show (backW [12884901888, 34359738368] [4294967296, 4294967296]).length = 4 from by decide]
  have kG := Blk.new w6 63 #[.slice A6 2 c6, .slice B6 4 d6, .slice A7 1 c7, .slice B7 2 d7, .slice A8 2 c8, .slice B8 2 d8]
  have pG := Prev.alloc w6 (.cells #[.slice A6 2 c6, .slice B6 4 d6, .slice A7 1 c7, .slice B7 2 d7, .slice A8 2 c8, .slice B8 2 d8] 63)
  obtain ⟨p2, p3⟩ := box2 (kB.at (w' := w6.alloc (.cells #[.slice A6 2 c6, .slice B6 4 d6, .slice A7 1 c7, .slice B7 2 d7, .slice A8 2 c8, .slice B8 2 d8] 63)))
  obtain ⟨p4, p5⟩ := box2 (kX.at (w' := w6.alloc (.cells #[.slice A6 2 c6, .slice B6 4 d6, .slice A7 1 c7, .slice B7 2 d7, .slice A8 2 c8, .slice B8 2 d8] 63)))
  go_wp2_with fail
  clear p2 p3 p4 p5
  generalize w6.alloc (.cells #[.slice A6 2 c6, .slice B6 4 d6, .slice A7 1 c7, .slice B7 2 d7, .slice A8 2 c8, .slice B8 2 d8] 63) = w7 at *
  refine (d_go_no (some ⟨w1.heap.size, 0, none⟩) B2 (some ⟨w1.heap.size, 0, none⟩) B2 (some ⟨w2.heap.size, 0, none⟩) B3 1 d2 1 d2 2 d3 [2] [0, 4294967296] [2] [0, 4294967296] [1, 2] [4294967296, 4294967296] _ (by decide) (by decide) (by decide) o3.rd.at o3.rd.at o5.rd.at (Lib.hid (by decide))).mono ?_
  rintro e w8 ⟨A9, c9, B9, d9, rfl, -, -, hb⟩
  have pw8 := Prev.mk hb
  clear hb
  go_wp2_with fail
  have pE := Prev.alloc w8 (.cells #[.slice A9 0 c9, .slice B9 0 d9] 26)
  generalize w8.alloc (.cells #[.slice A9 0 c9, .slice B9 0 d9] 26) = w9 at *
  have HK0 : Hid (∀ w' : World, Below (w9).heap.size (w9) w' → w'.cell? ⟨w4.heap.size, 0, none⟩ = some (.slice A4 1 c4) ∧ w'.cell? ⟨w4.heap.size, 1, none⟩ = some (.slice B4 2 d4) ∧ w'.cell? ⟨w6.heap.size, 2, none⟩ = some (.slice A7 1 c7) ∧ w'.cell? ⟨w6.heap.size, 3, none⟩ = some (.slice B7 2 d7) ∧ w'.cell? ⟨w6.heap.size, 4, none⟩ = some (.slice A8 2 c8) ∧ w'.cell? ⟨w6.heap.size, 5, none⟩ = some (.slice B8 2 d8)) := Lib.hid (fun w' hbk => ⟨(kY.at.keep hbk).cell 0, (kY.at.keep hbk).cell 1, (kG.at.keep hbk).cell 2, (kG.at.keep hbk).cell 3, (kG.at.keep hbk).cell 4, (kG.at.keep hbk).cell 5⟩)
  refine wp_region_held_drew (S := fun w' => w'.cell? ⟨w4.heap.size, 0, none⟩ = some (.slice A4 1 c4) ∧ w'.cell? ⟨w4.heap.size, 1, none⟩ = some (.slice B4 2 d4) ∧ w'.cell? ⟨w6.heap.size, 2, none⟩ = some (.slice A7 1 c7) ∧ w'.cell? ⟨w6.heap.size, 3, none⟩ = some (.slice B7 2 d7) ∧ w'.cell? ⟨w6.heap.size, 4, none⟩ = some (.slice A8 2 c8) ∧ w'.cell? ⟨w6.heap.size, 5, none⟩ = some (.slice B8 2 d8)) (by kernel_rfl) (HK0.out _ (bel _ _)) (fun _ => ?_)
  refine gen_drewH (fun wD pwD => ?_)
  have hHeld := HK0.out wD (bel _ _)
  refine wpAnyH_on (i := 0) (d := 41) (v := ?_) rfl rfl (by kernel_rfl) (by kernel_rfl) (by kernel_rfl) (fun _ _ _ h => h) (by kernel_rfl) (by assumption) ?_ ?_
  rotate_left
  · intro w hSw
    (try dsimp only at hSw)
    go_simp
    try (with_reducible rfl)
  simp only [List.set]
  refine wpAnyH_on (i := 1) (d := 42) (v := ?_) rfl rfl (by kernel_rfl) (by kernel_rfl) (by kernel_rfl) (fun _ _ _ h => h) (by kernel_rfl) (by assumption) ?_ ?_
  rotate_left
  · intro w hSw
    (try dsimp only at hSw)
    go_simp
    try (with_reducible rfl)
  simp only [List.set]
  refine wpAnyH_on (i := 2) (d := 43) (v := ?_) rfl rfl (by kernel_rfl) (by kernel_rfl) (by kernel_rfl) (fun _ _ _ h => h) (by kernel_rfl) (by assumption) ?_ ?_
  rotate_left
  · intro w hSw
    (try dsimp only at hSw)
    go_simp
    try (with_reducible rfl)
  simp only [List.set]
  refine wpAnyH_on (i := 3) (d := 44) (v := ?_) rfl rfl (by kernel_rfl) (by kernel_rfl) (by kernel_rfl) (fun _ _ _ h => h) (by kernel_rfl) (by assumption) ?_ ?_
  rotate_left
  · intro w hSw
    (try dsimp only at hSw)
    go_simp
    try (with_reducible rfl)
  simp only [List.set]
  refine wpAnyH_on (i := 4) (d := 45) (v := ?_) rfl rfl (by kernel_rfl) (by kernel_rfl) (by kernel_rfl) (fun _ _ _ h => h) (by kernel_rfl) (by assumption) ?_ ?_
  rotate_left
  · intro w hSw
    (try dsimp only at hSw)
    go_simp
    try (with_reducible rfl)
  simp only [List.set]
  refine wpAnyH_on (i := 5) (d := 46) (v := ?_) rfl rfl (by kernel_rfl) (by kernel_rfl) (by kernel_rfl) (fun _ _ _ h => h) (by kernel_rfl) (by assumption) ?_ ?_
  rotate_left
  · intro w hSw
    (try dsimp only at hSw)
    go_simp
    try (with_reducible rfl)
  simp only [List.set]
  refine wpAnyH_on (i := 6) (d := 47) (v := ?_) rfl rfl (by kernel_rfl) (by kernel_rfl) (by kernel_rfl) (fun _ _ _ h => h) (by kernel_rfl) (by assumption) ?_ ?_
  rotate_left
  · intro w hSw
    (try dsimp only at hSw)
    go_simp
    try (with_reducible rfl)
  simp only [List.set]
  refine wpAnyH_on (i := 7) (d := 48) (v := ?_) rfl rfl (by kernel_rfl) (by kernel_rfl) (by kernel_rfl) (fun _ _ _ h => h) (by kernel_rfl) (by assumption) ?_ ?_
  rotate_left
  · intro w hSw
    (try dsimp only at hSw)
    go_simp
    try (with_reducible rfl)
  simp only [List.set]
  refine wpAnyH_on (i := 8) (d := 49) (v := ?_) rfl rfl (by kernel_rfl) (by kernel_rfl) (by kernel_rfl) (fun _ _ _ h => h) (by kernel_rfl) (by assumption) ?_ ?_
  rotate_left
  · intro w hSw
    (try dsimp only at hSw)
    go_simp
    try (with_reducible rfl)
  simp only [List.set]
  refine wpAnyH_on (i := 9) (d := 50) (v := ?_) rfl rfl (by kernel_rfl) (by kernel_rfl) (by kernel_rfl) (fun _ _ _ h => h) (by kernel_rfl) (by assumption) ?_ ?_
  rotate_left
  · intro w hSw
    (try dsimp only at hSw)
    go_simp
    try (with_reducible rfl)
  simp only [List.set]
  refine wpAnyH_on (i := 10) (d := 51) (v := ?_) rfl rfl (by kernel_rfl) (by kernel_rfl) (by kernel_rfl) (fun _ _ _ h => h) (by kernel_rfl) (by assumption) ?_ ?_
  rotate_left
  · intro w hSw
    (try dsimp only at hSw)
    go_simp
    try (with_reducible rfl)
  simp only [List.set]
  refine wpAnyH_on (i := 11) (d := 52) (v := ?_) rfl rfl (by kernel_rfl) (by kernel_rfl) (by kernel_rfl) (fun _ _ _ h => h) (by kernel_rfl) (by assumption) ?_ ?_
  rotate_left
  · intro w hSw
    (try dsimp only at hSw)
    go_simp
    try (with_reducible rfl)
  simp only [List.set]
  refine wpAnyH_ready (rs := [12, 13]) (by kernel_rfl) (by simp) ?_
  refine AllReadyH.cons rfl (fun K hK => ?_) (AllReadyH.cons rfl (fun K hK => ?_) AllReadyH.nil)
  · go_simp
    refine hK.out _ _ (HK0.out _ (bel _ _)) (fun _ => ?_)
    clear hK K
    try dsimp only [Act.put, List.setIfInBounds_toArray, List.set_cons_zero, List.set_cons_succ]
    refine gen_allocH (fun wa pwa kwa zwa => ?_)
    clear zwa
    have hHeld := HK0.out wa (bel _ _)
    refine wpAnyH_ready (rs := [13]) (by kernel_rfl) (by simp) ?_
    refine AllReadyH.cons rfl (fun K hK => ?_) AllReadyH.nil
    go_simp
    refine hK.out _ _ (HK0.out _ (bel _ _)) (fun _ => ?_)
    clear hK K
    try dsimp only [Act.put, List.setIfInBounds_toArray, List.set_cons_zero, List.set_cons_succ]
    refine gen_allocH (fun wb pwb kwb zwb => ?_)
    clear zwb
    have hHeld := HK0.out wb (bel _ _)
    refine wpAnyH_ready (rs := [14]) (by kernel_rfl) (by simp) ?_
    refine AllReadyH.cons rfl (fun K hK => ?_) AllReadyH.nil
    go_simp
    refine (l06_of (some ⟨_, 0, none⟩) (some ⟨_, 0, none⟩) 1 2 [2] [3, 8] _ (by decide) (own_lit4' (zs := [3, 8]) kwb).rd.at).mono ?_
    rintro e wc ⟨B10, d10, rfl, x10, hb⟩
    dsimp only
    have pwc := Prev.mk hb
    clear hb
    refine hK.out _ _ (HK0.out _ (bel _ _)) (fun hHeld => ?_)
    clear hK K
    try dsimp only [Act.put, List.setIfInBounds_toArray, List.set_cons_zero, List.set_cons_succ]
    refine wpAnyH_ready (rs := [15]) (by kernel_rfl) (by simp) ?_
    refine AllReadyH.cons rfl (fun K hK => ?_) AllReadyH.nil
    go_simp
    refine (t_equal A4 B4 (some ⟨_, 0, none⟩) B10 c4 d4 1 d10 [2] [12884901888, 34359738368] [2] [12884901888, 34359738368] _ (by decide) (by decide) (by decide) s4.rd.at x4.rd.at (own_lit4' (zs := [2]) kwa).rd.at x10.rd.at).mono ?_
    rintro e wd ⟨rfl, hb⟩
    dsimp only
    have pwd := Prev.mk hb
    clear hb
    refine hK.out _ _ (HK0.out _ (bel _ _)) (fun hHeld => ?_)
    clear hK K
    try dsimp only [Act.put, List.setIfInBounds_toArray, List.set_cons_zero, List.set_cons_succ]
    refine wpAnyH_on (i := 16) (d := 57) (v := ?_) rfl rfl (by kernel_rfl) (by kernel_rfl) (by kernel_rfl) (fun _ _ _ h => h) (by kernel_rfl) (by assumption) ?_ ?_
    rotate_left
    · intro w hSw
      (try dsimp only at hSw)
      go_simp
      try (with_reducible rfl)
    simp only [List.set]
    refine wpAnyH_on (i := 17) (d := 58) (v := ?_) rfl rfl (by kernel_rfl) (by kernel_rfl) (by kernel_rfl) (fun _ _ _ h => h) (by kernel_rfl) (by assumption) ?_ ?_
    rotate_left
    · intro w hSw
      (try dsimp only at hSw)
      go_simp
      try (with_reducible rfl)
    simp only [List.set]
    refine wpAnyH_on (i := 18) (d := 59) (v := ?_) rfl rfl (by kernel_rfl) (by kernel_rfl) (by kernel_rfl) (fun _ _ _ h => h) (by kernel_rfl) (by assumption) ?_ ?_
    rotate_left
    · intro w hSw
      (try dsimp only at hSw)
      go_simp
      try (with_reducible rfl)
    simp only [List.set]
    refine wpAnyH_on (i := 19) (d := 60) (v := ?_) rfl rfl (by kernel_rfl) (by kernel_rfl) (by kernel_rfl) (fun _ _ _ h => h) (by kernel_rfl) (by assumption) ?_ ?_
    rotate_left
    · intro w hSw
      (try dsimp only at hSw)
      go_simp
      try (with_reducible rfl)
    simp only [List.set]
    refine wpAnyH_ready (rs := [20, 21]) (by kernel_rfl) (by simp) ?_
    refine AllReadyH.cons rfl (fun K hK => ?_) (AllReadyH.cons rfl (fun K hK => ?_) AllReadyH.nil)
    · go_simp
      refine hK.out _ _ (HK0.out _ (bel _ _)) (fun _ => ?_)
      clear hK K
      try dsimp only [Act.put, List.setIfInBounds_toArray, List.set_cons_zero, List.set_cons_succ]
      refine gen_allocH (fun we pwe kwe zwe => ?_)
      clear zwe
      have hHeld := HK0.out we (bel _ _)
      refine wpAnyH_ready (rs := [21]) (by kernel_rfl) (by simp) ?_
      refine AllReadyH.cons rfl (fun K hK => ?_) AllReadyH.nil
      go_simp
      refine hK.out _ _ (HK0.out _ (bel _ _)) (fun _ => ?_)
      clear hK K
      try dsimp only [Act.put, List.setIfInBounds_toArray, List.set_cons_zero, List.set_cons_succ]
      refine gen_allocH (fun wf pwf kwf zwf => ?_)
      clear zwf
      have hHeld := HK0.out wf (bel _ _)
      refine wpAnyH_ready (rs := [22]) (by kernel_rfl) (by simp) ?_
      refine AllReadyH.cons rfl (fun K hK => ?_) AllReadyH.nil
      go_simp
      refine (l06_of (some ⟨_, 0, none⟩) (some ⟨_, 0, none⟩) 2 2 [1, 2] [27, 38] _ (by decide) (own_lit4' (zs := [27, 38]) kwf).rd.at).mono ?_
      rintro e wg ⟨B11, d11, rfl, x11, hb⟩
      dsimp only
      have pwg := Prev.mk hb
      clear hb
      refine hK.out _ _ (HK0.out _ (bel _ _)) (fun hHeld => ?_)
      clear hK K
      try dsimp only [Act.put, List.setIfInBounds_toArray, List.set_cons_zero, List.set_cons_succ]
      refine wpAnyH_ready (rs := [23]) (by kernel_rfl) (by simp) ?_
      refine AllReadyH.cons rfl (fun K hK => ?_) AllReadyH.nil
      go_simp
      refine (t_equal A8 B8 (some ⟨_, 0, none⟩) B11 c8 d8 2 d11 [1, 2] [115964116992, 163208757248] [1, 2] [115964116992, 163208757248] _ (by decide) (by decide) (by decide) s8.rd.at x8.rd.at (own_lit4' (zs := [1, 2]) kwe).rd.at x11.rd.at).mono ?_
      rintro e wh ⟨rfl, hb⟩
      dsimp only
      have pwh := Prev.mk hb
      clear hb
      refine hK.out _ _ (HK0.out _ (bel _ _)) (fun hHeld => ?_)
      clear hK K
      try dsimp only [Act.put, List.setIfInBounds_toArray, List.set_cons_zero, List.set_cons_succ]
      refine wpAnyH_on (i := 24) (d := 65) (v := ?_) rfl rfl (by kernel_rfl) (by kernel_rfl) (by kernel_rfl) (fun _ _ _ h => h) (by kernel_rfl) (by assumption) ?_ ?_
      rotate_left
      · intro w hSw
        (try dsimp only at hSw)
        go_simp
        try (with_reducible rfl)
      simp only [List.set]
      refine wpAnyH_on (i := 25) (d := 66) (v := ?_) rfl rfl (by kernel_rfl) (by kernel_rfl) (by kernel_rfl) (fun _ _ _ h => h) (by kernel_rfl) (by assumption) ?_ ?_
      rotate_left
      · intro w hSw
        (try dsimp only at hSw)
        go_simp
        try (with_reducible rfl)
      simp only [List.set]
      refine wpAnyH_on (i := 26) (d := 67) (v := ?_) rfl rfl (by kernel_rfl) (by kernel_rfl) (by kernel_rfl) (fun _ _ _ h => h) (by kernel_rfl) (by assumption) ?_ ?_
      rotate_left
      · intro w hSw
        (try dsimp only at hSw)
        go_simp
        try (with_reducible rfl)
      simp only [List.set]
      refine wpAnyH_on (i := 27) (d := 68) (v := ?_) rfl rfl (by kernel_rfl) (by kernel_rfl) (by kernel_rfl) (fun _ _ _ h => h) (by kernel_rfl) (by assumption) ?_ ?_
      rotate_left
      · intro w hSw
        (try dsimp only at hSw)
        go_simp
        try (with_reducible rfl)
      simp only [List.set]
      refine wpAnyH_on (i := 28) (d := 69) (v := ?_) rfl rfl (by kernel_rfl) (by kernel_rfl) (by kernel_rfl) (fun _ _ _ h => h) (by kernel_rfl) (by assumption) ?_ ?_
      rotate_left
      · intro w hSw
        (try dsimp only at hSw)
        go_simp
        try (with_reducible rfl)
      simp only [List.set]
      refine wpAnyH_ready (rs := [29]) (by kernel_rfl) (by simp) ?_
      refine AllReadyH.cons rfl (fun K hK => ?_) AllReadyH.nil
      go_simp
      refine (t_equal A7 B7 A4 B4 c7 d7 c4 d4 [2] [12884901888, 34359738368] [2] [12884901888, 34359738368] _ (by decide) (by decide) (by decide) s7.rd.at x7.rd.at s4.rd.at x4.rd.at).mono ?_
      rintro e wi ⟨rfl, hb⟩
      dsimp only
      have pwi := Prev.mk hb
      clear hb
      refine hK.out _ _ (HK0.out _ (bel _ _)) (fun hHeld => ?_)
      clear hK K
      try dsimp only [Act.put, List.setIfInBounds_toArray, List.set_cons_zero, List.set_cons_succ]
      refine wpAnyH_on (i := 30) (d := 71) (v := ?_) rfl rfl (by kernel_rfl) (by kernel_rfl) (by kernel_rfl) (fun _ _ _ h => h) (by kernel_rfl) (by assumption) ?_ ?_
      rotate_left
      · intro w hSw
        (try dsimp only at hSw)
        go_simp
        try (with_reducible rfl)
      simp only [List.set]
      refine wpAnyH_on (i := 31) (d := 0) (v := ?_) rfl rfl (by kernel_rfl) (by kernel_rfl) (by kernel_rfl) (fun _ _ _ h => h) (by kernel_rfl) (by assumption) ?_ ?_
      rotate_left
      · intro w hSw
        (try dsimp only at hSw)
        go_simp
        try (with_reducible rfl)
      simp only [List.set]
      refine wpAnyH_done (by kernel_rfl) ?_ _
      go_wp2_with fail
      go_ret
      exact ⟨rfl, bel w wi⟩
    · go_simp
      refine hK.out _ _ (HK0.out _ (bel _ _)) (fun _ => ?_)
      clear hK K
      try dsimp only [Act.put, List.setIfInBounds_toArray, List.set_cons_zero, List.set_cons_succ]
      refine gen_allocH (fun wf pwf kwf zwf => ?_)
      clear zwf
      have hHeld := HK0.out wf (bel _ _)
      refine wpAnyH_ready (rs := [20]) (by kernel_rfl) (by simp) ?_
      refine AllReadyH.cons rfl (fun K hK => ?_) AllReadyH.nil
      go_simp
      refine hK.out _ _ (HK0.out _ (bel _ _)) (fun _ => ?_)
      clear hK K
      try dsimp only [Act.put, List.setIfInBounds_toArray, List.set_cons_zero, List.set_cons_succ]
      refine gen_allocH (fun we pwe kwe zwe => ?_)
      clear zwe
      have hHeld := HK0.out we (bel _ _)
      refine wpAnyH_ready (rs := [22]) (by kernel_rfl) (by simp) ?_
      refine AllReadyH.cons rfl (fun K hK => ?_) AllReadyH.nil
      go_simp
      refine (l06_of (some ⟨_, 0, none⟩) (some ⟨_, 0, none⟩) 2 2 [1, 2] [27, 38] _ (by decide) (own_lit4' (zs := [27, 38]) kwf).rd.at).mono ?_
      rintro e wg ⟨B11, d11, rfl, x11, hb⟩
      dsimp only
      have pwg := Prev.mk hb
      clear hb
      refine hK.out _ _ (HK0.out _ (bel _ _)) (fun hHeld => ?_)
      clear hK K
      try dsimp only [Act.put, List.setIfInBounds_toArray, List.set_cons_zero, List.set_cons_succ]
      refine wpAnyH_ready (rs := [23]) (by kernel_rfl) (by simp) ?_
      refine AllReadyH.cons rfl (fun K hK => ?_) AllReadyH.nil
      go_simp
      refine (t_equal A8 B8 (some ⟨_, 0, none⟩) B11 c8 d8 2 d11 [1, 2] [115964116992, 163208757248] [1, 2] [115964116992, 163208757248] _ (by decide) (by decide) (by decide) s8.rd.at x8.rd.at (own_lit4' (zs := [1, 2]) kwe).rd.at x11.rd.at).mono ?_
      rintro e wh ⟨rfl, hb⟩
      dsimp only
      have pwh := Prev.mk hb
      clear hb
      refine hK.out _ _ (HK0.out _ (bel _ _)) (fun hHeld => ?_)
      clear hK K
      try dsimp only [Act.put, List.setIfInBounds_toArray, List.set_cons_zero, List.set_cons_succ]
      refine wpAnyH_on (i := 24) (d := 65) (v := ?_) rfl rfl (by kernel_rfl) (by kernel_rfl) (by kernel_rfl) (fun _ _ _ h => h) (by kernel_rfl) (by assumption) ?_ ?_
      rotate_left
      · intro w hSw
        (try dsimp only at hSw)
        go_simp
        try (with_reducible rfl)
      simp only [List.set]
      refine wpAnyH_on (i := 25) (d := 66) (v := ?_) rfl rfl (by kernel_rfl) (by kernel_rfl) (by kernel_rfl) (fun _ _ _ h => h) (by kernel_rfl) (by assumption) ?_ ?_
      rotate_left
      · intro w hSw
        (try dsimp only at hSw)
        go_simp
        try (with_reducible rfl)
      simp only [List.set]
      refine wpAnyH_on (i := 26) (d := 67) (v := ?_) rfl rfl (by kernel_rfl) (by kernel_rfl) (by kernel_rfl) (fun _ _ _ h => h) (by kernel_rfl) (by assumption) ?_ ?_
      rotate_left
      · intro w hSw
        (try dsimp only at hSw)
        go_simp
        try (with_reducible rfl)
      simp only [List.set]
      refine wpAnyH_on (i := 27) (d := 68) (v := ?_) rfl rfl (by kernel_rfl) (by kernel_rfl) (by kernel_rfl) (fun _ _ _ h => h) (by kernel_rfl) (by assumption) ?_ ?_
      rotate_left
      · intro w hSw
        (try dsimp only at hSw)
        go_simp
        try (with_reducible rfl)
      simp only [List.set]
      refine wpAnyH_on (i := 28) (d := 69) (v := ?_) rfl rfl (by kernel_rfl) (by kernel_rfl) (by kernel_rfl) (fun _ _ _ h => h) (by kernel_rfl) (by assumption) ?_ ?_
      rotate_left
      · intro w hSw
        (try dsimp only at hSw)
        go_simp
        try (with_reducible rfl)
      simp only [List.set]
      refine wpAnyH_ready (rs := [29]) (by kernel_rfl) (by simp) ?_
      refine AllReadyH.cons rfl (fun K hK => ?_) AllReadyH.nil
      go_simp
      refine (t_equal A7 B7 A4 B4 c7 d7 c4 d4 [2] [12884901888, 34359738368] [2] [12884901888, 34359738368] _ (by decide) (by decide) (by decide) s7.rd.at x7.rd.at s4.rd.at x4.rd.at).mono ?_
      rintro e wi ⟨rfl, hb⟩
      dsimp only
      have pwi := Prev.mk hb
      clear hb
      refine hK.out _ _ (HK0.out _ (bel _ _)) (fun hHeld => ?_)
      clear hK K
      try dsimp only [Act.put, List.setIfInBounds_toArray, List.set_cons_zero, List.set_cons_succ]
      refine wpAnyH_on (i := 30) (d := 71) (v := ?_) rfl rfl (by kernel_rfl) (by kernel_rfl) (by kernel_rfl) (fun _ _ _ h => h) (by kernel_rfl) (by assumption) ?_ ?_
      rotate_left
      · intro w hSw
        (try dsimp only at hSw)
        go_simp
        try (with_reducible rfl)
      simp only [List.set]
      refine wpAnyH_on (i := 31) (d := 0) (v := ?_) rfl rfl (by kernel_rfl) (by kernel_rfl) (by kernel_rfl) (fun _ _ _ h => h) (by kernel_rfl) (by assumption) ?_ ?_
      rotate_left
      · intro w hSw
        (try dsimp only at hSw)
        go_simp
        try (with_reducible rfl)
      simp only [List.set]
      refine wpAnyH_done (by kernel_rfl) ?_ _
      go_wp2_with fail
      go_ret
      exact ⟨rfl, bel w wi⟩
  · go_simp
    refine hK.out _ _ (HK0.out _ (bel _ _)) (fun _ => ?_)
    clear hK K
    try dsimp only [Act.put, List.setIfInBounds_toArray, List.set_cons_zero, List.set_cons_succ]
    refine gen_allocH (fun wb pwb kwb zwb => ?_)
    clear zwb
    have hHeld := HK0.out wb (bel _ _)
    refine wpAnyH_ready (rs := [12]) (by kernel_rfl) (by simp) ?_
    refine AllReadyH.cons rfl (fun K hK => ?_) AllReadyH.nil
    go_simp
    refine hK.out _ _ (HK0.out _ (bel _ _)) (fun _ => ?_)
    clear hK K
    try dsimp only [Act.put, List.setIfInBounds_toArray, List.set_cons_zero, List.set_cons_succ]
    refine gen_allocH (fun wa pwa kwa zwa => ?_)
    clear zwa
    have hHeld := HK0.out wa (bel _ _)
    refine wpAnyH_ready (rs := [14]) (by kernel_rfl) (by simp) ?_
    refine AllReadyH.cons rfl (fun K hK => ?_) AllReadyH.nil
    go_simp
    refine (l06_of (some ⟨_, 0, none⟩) (some ⟨_, 0, none⟩) 1 2 [2] [3, 8] _ (by decide) (own_lit4' (zs := [3, 8]) kwb).rd.at).mono ?_
    rintro e wc ⟨B10, d10, rfl, x10, hb⟩
    dsimp only
    have pwc := Prev.mk hb
    clear hb
    refine hK.out _ _ (HK0.out _ (bel _ _)) (fun hHeld => ?_)
    clear hK K
    try dsimp only [Act.put, List.setIfInBounds_toArray, List.set_cons_zero, List.set_cons_succ]
    refine wpAnyH_ready (rs := [15]) (by kernel_rfl) (by simp) ?_
    refine AllReadyH.cons rfl (fun K hK => ?_) AllReadyH.nil
    go_simp
    refine (t_equal A4 B4 (some ⟨_, 0, none⟩) B10 c4 d4 1 d10 [2] [12884901888, 34359738368] [2] [12884901888, 34359738368] _ (by decide) (by decide) (by decide) s4.rd.at x4.rd.at (own_lit4' (zs := [2]) kwa).rd.at x10.rd.at).mono ?_
    rintro e wd ⟨rfl, hb⟩
    dsimp only
    have pwd := Prev.mk hb
    clear hb
    refine hK.out _ _ (HK0.out _ (bel _ _)) (fun hHeld => ?_)
    clear hK K
    try dsimp only [Act.put, List.setIfInBounds_toArray, List.set_cons_zero, List.set_cons_succ]
    refine wpAnyH_on (i := 16) (d := 57) (v := ?_) rfl rfl (by kernel_rfl) (by kernel_rfl) (by kernel_rfl) (fun _ _ _ h => h) (by kernel_rfl) (by assumption) ?_ ?_
    rotate_left
    · intro w hSw
      (try dsimp only at hSw)
      go_simp
      try (with_reducible rfl)
    simp only [List.set]
    refine wpAnyH_on (i := 17) (d := 58) (v := ?_) rfl rfl (by kernel_rfl) (by kernel_rfl) (by kernel_rfl) (fun _ _ _ h => h) (by kernel_rfl) (by assumption) ?_ ?_
    rotate_left
    · intro w hSw
      (try dsimp only at hSw)
      go_simp
      try (with_reducible rfl)
    simp only [List.set]
    refine wpAnyH_on (i := 18) (d := 59) (v := ?_) rfl rfl (by kernel_rfl) (by kernel_rfl) (by kernel_rfl) (fun _ _ _ h => h) (by kernel_rfl) (by assumption) ?_ ?_
    rotate_left
    · intro w hSw
      (try dsimp only at hSw)
      go_simp
      try (with_reducible rfl)
    simp only [List.set]
    refine wpAnyH_on (i := 19) (d := 60) (v := ?_) rfl rfl (by kernel_rfl) (by kernel_rfl) (by kernel_rfl) (fun _ _ _ h => h) (by kernel_rfl) (by assumption) ?_ ?_
    rotate_left
    · intro w hSw
      (try dsimp only at hSw)
      go_simp
      try (with_reducible rfl)
    simp only [List.set]
    refine wpAnyH_ready (rs := [20, 21]) (by kernel_rfl) (by simp) ?_
    refine AllReadyH.cons rfl (fun K hK => ?_) (AllReadyH.cons rfl (fun K hK => ?_) AllReadyH.nil)
    · go_simp
      refine hK.out _ _ (HK0.out _ (bel _ _)) (fun _ => ?_)
      clear hK K
      try dsimp only [Act.put, List.setIfInBounds_toArray, List.set_cons_zero, List.set_cons_succ]
      refine gen_allocH (fun we pwe kwe zwe => ?_)
      clear zwe
      have hHeld := HK0.out we (bel _ _)
      refine wpAnyH_ready (rs := [21]) (by kernel_rfl) (by simp) ?_
      refine AllReadyH.cons rfl (fun K hK => ?_) AllReadyH.nil
      go_simp
      refine hK.out _ _ (HK0.out _ (bel _ _)) (fun _ => ?_)
      clear hK K
      try dsimp only [Act.put, List.setIfInBounds_toArray, List.set_cons_zero, List.set_cons_succ]
      refine gen_allocH (fun wf pwf kwf zwf => ?_)
      clear zwf
      have hHeld := HK0.out wf (bel _ _)
      refine wpAnyH_ready (rs := [22]) (by kernel_rfl) (by simp) ?_
      refine AllReadyH.cons rfl (fun K hK => ?_) AllReadyH.nil
      go_simp
      refine (l06_of (some ⟨_, 0, none⟩) (some ⟨_, 0, none⟩) 2 2 [1, 2] [27, 38] _ (by decide) (own_lit4' (zs := [27, 38]) kwf).rd.at).mono ?_
      rintro e wg ⟨B11, d11, rfl, x11, hb⟩
      dsimp only
      have pwg := Prev.mk hb
      clear hb
      refine hK.out _ _ (HK0.out _ (bel _ _)) (fun hHeld => ?_)
      clear hK K
      try dsimp only [Act.put, List.setIfInBounds_toArray, List.set_cons_zero, List.set_cons_succ]
      refine wpAnyH_ready (rs := [23]) (by kernel_rfl) (by simp) ?_
      refine AllReadyH.cons rfl (fun K hK => ?_) AllReadyH.nil
      go_simp
      refine (t_equal A8 B8 (some ⟨_, 0, none⟩) B11 c8 d8 2 d11 [1, 2] [115964116992, 163208757248] [1, 2] [115964116992, 163208757248] _ (by decide) (by decide) (by decide) s8.rd.at x8.rd.at (own_lit4' (zs := [1, 2]) kwe).rd.at x11.rd.at).mono ?_
      rintro e wh ⟨rfl, hb⟩
      dsimp only
      have pwh := Prev.mk hb
      clear hb
      refine hK.out _ _ (HK0.out _ (bel _ _)) (fun hHeld => ?_)
      clear hK K
      try dsimp only [Act.put, List.setIfInBounds_toArray, List.set_cons_zero, List.set_cons_succ]
      refine wpAnyH_on (i := 24) (d := 65) (v := ?_) rfl rfl (by kernel_rfl) (by kernel_rfl) (by kernel_rfl) (fun _ _ _ h => h) (by kernel_rfl) (by assumption) ?_ ?_
      rotate_left
      · intro w hSw
        (try dsimp only at hSw)
        go_simp
        try (with_reducible rfl)
      simp only [List.set]
      refine wpAnyH_on (i := 25) (d := 66) (v := ?_) rfl rfl (by kernel_rfl) (by kernel_rfl) (by kernel_rfl) (fun _ _ _ h => h) (by kernel_rfl) (by assumption) ?_ ?_
      rotate_left
      · intro w hSw
        (try dsimp only at hSw)
        go_simp
        try (with_reducible rfl)
      simp only [List.set]
      refine wpAnyH_on (i := 26) (d := 67) (v := ?_) rfl rfl (by kernel_rfl) (by kernel_rfl) (by kernel_rfl) (fun _ _ _ h => h) (by kernel_rfl) (by assumption) ?_ ?_
      rotate_left
      · intro w hSw
        (try dsimp only at hSw)
        go_simp
        try (with_reducible rfl)
      simp only [List.set]
      refine wpAnyH_on (i := 27) (d := 68) (v := ?_) rfl rfl (by kernel_rfl) (by kernel_rfl) (by kernel_rfl) (fun _ _ _ h => h) (by kernel_rfl) (by assumption) ?_ ?_
      rotate_left
      · intro w hSw
        (try dsimp only at hSw)
        go_simp
        try (with_reducible rfl)
      simp only [List.set]
      refine wpAnyH_on (i := 28) (d := 69) (v := ?_) rfl rfl (by kernel_rfl) (by kernel_rfl) (by kernel_rfl) (fun _ _ _ h => h) (by kernel_rfl) (by assumption) ?_ ?_
      rotate_left
      · intro w hSw
        (try dsimp only at hSw)
        go_simp
        try (with_reducible rfl)
      simp only [List.set]
      refine wpAnyH_ready (rs := [29]) (by kernel_rfl) (by simp) ?_
      refine AllReadyH.cons rfl (fun K hK => ?_) AllReadyH.nil
      go_simp
      refine (t_equal A7 B7 A4 B4 c7 d7 c4 d4 [2] [12884901888, 34359738368] [2] [12884901888, 34359738368] _ (by decide) (by decide) (by decide) s7.rd.at x7.rd.at s4.rd.at x4.rd.at).mono ?_
      rintro e wi ⟨rfl, hb⟩
      dsimp only
      have pwi := Prev.mk hb
      clear hb
      refine hK.out _ _ (HK0.out _ (bel _ _)) (fun hHeld => ?_)
      clear hK K
      try dsimp only [Act.put, List.setIfInBounds_toArray, List.set_cons_zero, List.set_cons_succ]
      refine wpAnyH_on (i := 30) (d := 71) (v := ?_) rfl rfl (by kernel_rfl) (by kernel_rfl) (by kernel_rfl) (fun _ _ _ h => h) (by kernel_rfl) (by assumption) ?_ ?_
      rotate_left
      · intro w hSw
        (try dsimp only at hSw)
        go_simp
        try (with_reducible rfl)
      simp only [List.set]
      refine wpAnyH_on (i := 31) (d := 0) (v := ?_) rfl rfl (by kernel_rfl) (by kernel_rfl) (by kernel_rfl) (fun _ _ _ h => h) (by kernel_rfl) (by assumption) ?_ ?_
      rotate_left
      · intro w hSw
        (try dsimp only at hSw)
        go_simp
        try (with_reducible rfl)
      simp only [List.set]
      refine wpAnyH_done (by kernel_rfl) ?_ _
      go_wp2_with fail
      go_ret
      exact ⟨rfl, bel w wi⟩
    · go_simp
      refine hK.out _ _ (HK0.out _ (bel _ _)) (fun _ => ?_)
      clear hK K
      try dsimp only [Act.put, List.setIfInBounds_toArray, List.set_cons_zero, List.set_cons_succ]
      refine gen_allocH (fun wf pwf kwf zwf => ?_)
      clear zwf
      have hHeld := HK0.out wf (bel _ _)
      refine wpAnyH_ready (rs := [20]) (by kernel_rfl) (by simp) ?_
      refine AllReadyH.cons rfl (fun K hK => ?_) AllReadyH.nil
      go_simp
      refine hK.out _ _ (HK0.out _ (bel _ _)) (fun _ => ?_)
      clear hK K
      try dsimp only [Act.put, List.setIfInBounds_toArray, List.set_cons_zero, List.set_cons_succ]
      refine gen_allocH (fun we pwe kwe zwe => ?_)
      clear zwe
      have hHeld := HK0.out we (bel _ _)
      refine wpAnyH_ready (rs := [22]) (by kernel_rfl) (by simp) ?_
      refine AllReadyH.cons rfl (fun K hK => ?_) AllReadyH.nil
      go_simp
      refine (l06_of (some ⟨_, 0, none⟩) (some ⟨_, 0, none⟩) 2 2 [1, 2] [27, 38] _ (by decide) (own_lit4' (zs := [27, 38]) kwf).rd.at).mono ?_
      rintro e wg ⟨B11, d11, rfl, x11, hb⟩
      dsimp only
      have pwg := Prev.mk hb
      clear hb
      refine hK.out _ _ (HK0.out _ (bel _ _)) (fun hHeld => ?_)
      clear hK K
      try dsimp only [Act.put, List.setIfInBounds_toArray, List.set_cons_zero, List.set_cons_succ]
      refine wpAnyH_ready (rs := [23]) (by kernel_rfl) (by simp) ?_
      refine AllReadyH.cons rfl (fun K hK => ?_) AllReadyH.nil
      go_simp
      refine (t_equal A8 B8 (some ⟨_, 0, none⟩) B11 c8 d8 2 d11 [1, 2] [115964116992, 163208757248] [1, 2] [115964116992, 163208757248] _ (by decide) (by decide) (by decide) s8.rd.at x8.rd.at (own_lit4' (zs := [1, 2]) kwe).rd.at x11.rd.at).mono ?_
      rintro e wh ⟨rfl, hb⟩
      dsimp only
      have pwh := Prev.mk hb
      clear hb
      refine hK.out _ _ (HK0.out _ (bel _ _)) (fun hHeld => ?_)
      clear hK K
      try dsimp only [Act.put, List.setIfInBounds_toArray, List.set_cons_zero, List.set_cons_succ]
      refine wpAnyH_on (i := 24) (d := 65) (v := ?_) rfl rfl (by kernel_rfl) (by kernel_rfl) (by kernel_rfl) (fun _ _ _ h => h) (by kernel_rfl) (by assumption) ?_ ?_
      rotate_left
      · intro w hSw
        (try dsimp only at hSw)
        go_simp
        try (with_reducible rfl)
      simp only [List.set]
      refine wpAnyH_on (i := 25) (d := 66) (v := ?_) rfl rfl (by kernel_rfl) (by kernel_rfl) (by kernel_rfl) (fun _ _ _ h => h) (by kernel_rfl) (by assumption) ?_ ?_
      rotate_left
      · intro w hSw
        (try dsimp only at hSw)
        go_simp
        try (with_reducible rfl)
      simp only [List.set]
      refine wpAnyH_on (i := 26) (d := 67) (v := ?_) rfl rfl (by kernel_rfl) (by kernel_rfl) (by kernel_rfl) (fun _ _ _ h => h) (by kernel_rfl) (by assumption) ?_ ?_
      rotate_left
      · intro w hSw
        (try dsimp only at hSw)
        go_simp
        try (with_reducible rfl)
      simp only [List.set]
      refine wpAnyH_on (i := 27) (d := 68) (v := ?_) rfl rfl (by kernel_rfl) (by kernel_rfl) (by kernel_rfl) (fun _ _ _ h => h) (by kernel_rfl) (by assumption) ?_ ?_
      rotate_left
      · intro w hSw
        (try dsimp only at hSw)
        go_simp
        try (with_reducible rfl)
      simp only [List.set]
      refine wpAnyH_on (i := 28) (d := 69) (v := ?_) rfl rfl (by kernel_rfl) (by kernel_rfl) (by kernel_rfl) (fun _ _ _ h => h) (by kernel_rfl) (by assumption) ?_ ?_
      rotate_left
      · intro w hSw
        (try dsimp only at hSw)
        go_simp
        try (with_reducible rfl)
      simp only [List.set]
      refine wpAnyH_ready (rs := [29]) (by kernel_rfl) (by simp) ?_
      refine AllReadyH.cons rfl (fun K hK => ?_) AllReadyH.nil
      go_simp
      refine (t_equal A7 B7 A4 B4 c7 d7 c4 d4 [2] [12884901888, 34359738368] [2] [12884901888, 34359738368] _ (by decide) (by decide) (by decide) s7.rd.at x7.rd.at s4.rd.at x4.rd.at).mono ?_
      rintro e wi ⟨rfl, hb⟩
      dsimp only
      have pwi := Prev.mk hb
      clear hb
      refine hK.out _ _ (HK0.out _ (bel _ _)) (fun hHeld => ?_)
      clear hK K
      try dsimp only [Act.put, List.setIfInBounds_toArray, List.set_cons_zero, List.set_cons_succ]
      refine wpAnyH_on (i := 30) (d := 71) (v := ?_) rfl rfl (by kernel_rfl) (by kernel_rfl) (by kernel_rfl) (fun _ _ _ h => h) (by kernel_rfl) (by assumption) ?_ ?_
      rotate_left
      · intro w hSw
        (try dsimp only at hSw)
        go_simp
        try (with_reducible rfl)
      simp only [List.set]
      refine wpAnyH_on (i := 31) (d := 0) (v := ?_) rfl rfl (by kernel_rfl) (by kernel_rfl) (by kernel_rfl) (fun _ _ _ h => h) (by kernel_rfl) (by assumption) ?_ ?_
      rotate_left
      · intro w hSw
        (try dsimp only at hSw)
        go_simp
        try (with_reducible rfl)
      simp only [List.set]
      refine wpAnyH_done (by kernel_rfl) ?_ _
      go_wp2_with fail
      go_ret
      exact ⟨rfl, bel w wi⟩

end Go.Proofs.Ythcdjdhnjbdfeaa
