/- The walk of the statement DenseBias. -/
import Derived.Test.YthcdjdhnjbdfeaaLaw06Auto
namespace Go.Proofs.Ythcdjdhnjbdfeaa
open Go.RowKit

set_option maxRecDepth 100000 in
set_option maxHeartbeats 4000000 in
theorem denseBias_calls (A B C D : Option Addr) (c d c' d' : Nat) (zs xs ts ys : List Int) (w : World) (i1 : IntsIn w A c zs) (i2 : IntsIn w B d xs) (i3 : IntsIn w C c' ts) (i4 : IntsIn w D d' ys) :
    Calls Try.prog 9 #[.agg #[.slice A zs.length c, .slice B xs.length d], .agg #[.slice C ts.length c', .slice D ys.length d']] w (LawTrue w) := by
  have HX := ints_i64 i2
  have HY := ints_i64 i4
  have s1 : Sl w A zs.length zs := ⟨i1.rd, rfl⟩
  have s2 : Sl w B xs.length xs := ⟨i2.rd, rfl⟩
  have s3 : Sl w C ts.length ts := ⟨i3.rd, rfl⟩
  have s4 : Sl w D ys.length ys := ⟨i4.rd, rfl⟩
  clear i1 i2 i3 i4
  have CB := @cell_bx
  by_cases l1 : 400 < xs.length
  · go_enter Try.func9, Try.ntmps9
    go_wp2_with (first | (go_at_call 33; (try first | (with_reducible refine gen_boxK3 (fun u _ _ _ _ => ?_)) | (with_reducible refine gen_boxK2 (fun u _ _ _ => ?_)) | (with_reducible refine gen_boxK (fun u _ _ => ?_))); (with_reducible refine (a06_awake).mono ?_); rintro e u ⟨rfl, _⟩))
    go_ret
    exact ⟨rfl, bel w _⟩
  by_cases l2 : 400 < ys.length
  · go_enter Try.func9, Try.ntmps9
    go_wp2_with (first | (go_at_call 33; (try first | (with_reducible refine gen_boxK3 (fun u _ _ _ _ => ?_)) | (with_reducible refine gen_boxK2 (fun u _ _ _ => ?_)) | (with_reducible refine gen_boxK (fun u _ _ => ?_))); (with_reducible refine (a06_awake).mono ?_); rintro e u ⟨rfl, _⟩))
    go_ret
    exact ⟨rfl, bel w _⟩
  by_cases l3 : 9 < zs.length
  · go_enter Try.func9, Try.ntmps9
    go_wp2_with (first | (go_at_call 33; (try first | (with_reducible refine gen_boxK3 (fun u _ _ _ _ => ?_)) | (with_reducible refine gen_boxK2 (fun u _ _ _ => ?_)) | (with_reducible refine gen_boxK (fun u _ _ => ?_))); (with_reducible refine (a06_awake).mono ?_); rintro e u ⟨rfl, _⟩))
    go_ret
    exact ⟨rfl, bel w _⟩
  by_cases l4 : 9 < ts.length
  · go_enter Try.func9, Try.ntmps9
    go_wp2_with (first | (go_at_call 33; (try first | (with_reducible refine gen_boxK3 (fun u _ _ _ _ => ?_)) | (with_reducible refine gen_boxK2 (fun u _ _ _ => ?_)) | (with_reducible refine gen_boxK (fun u _ _ => ?_))); (with_reducible refine (a06_awake).mono ?_); rintro e u ⟨rfl, _⟩))
    go_ret
    exact ⟨rfl, bel w _⟩
  rcases hr : tRightB zs xs with _ | _
  · have al : alikeB ts ys zs xs = false := by simp [alikeB, hr]
    go_enter Try.func9, Try.ntmps9
    go_wp2_with (first | (go_at_call 44; (try first | (with_reducible refine gen_boxK3 (fun u _ _ _ _ => ?_)) | (with_reducible refine gen_boxK2 (fun u _ _ _ => ?_)) | (with_reducible refine gen_boxK (fun u _ _ => ?_))); (with_reducible refine (a06_bias_no (by omega) (by omega) HX HY al).mono ?_); rintro e u ⟨A', c', B', d', rfl, _, _, hd', _⟩) | (go_at_call 40; (try first | (with_reducible refine gen_boxK3 (fun u _ _ _ _ => ?_)) | (with_reducible refine gen_boxK2 (fun u _ _ _ => ?_)) | (with_reducible refine gen_boxK (fun u _ _ => ?_))); (with_reducible refine (a06_right (by omega)).mono ?_); rintro e u ⟨rfl, _⟩) | (go_at_call 33; (try first | (with_reducible refine gen_boxK3 (fun u _ _ _ _ => ?_)) | (with_reducible refine gen_boxK2 (fun u _ _ _ => ?_)) | (with_reducible refine gen_boxK (fun u _ _ => ?_))); (with_reducible refine (a06_awake).mono ?_); rintro e u ⟨rfl, _⟩))
    go_ret
    exact ⟨rfl, bel w _⟩
  rcases hr' : tRightB ts ys with _ | _
  · have al : alikeB ts ys zs xs = false := by simp [alikeB, hr']
    go_enter Try.func9, Try.ntmps9
    go_wp2_with (first | (go_at_call 44; (try first | (with_reducible refine gen_boxK3 (fun u _ _ _ _ => ?_)) | (with_reducible refine gen_boxK2 (fun u _ _ _ => ?_)) | (with_reducible refine gen_boxK (fun u _ _ => ?_))); (with_reducible refine (a06_bias_no (by omega) (by omega) HX HY al).mono ?_); rintro e u ⟨A', c', B', d', rfl, _, _, hd', _⟩) | (go_at_call 40; (try first | (with_reducible refine gen_boxK3 (fun u _ _ _ _ => ?_)) | (with_reducible refine gen_boxK2 (fun u _ _ _ => ?_)) | (with_reducible refine gen_boxK (fun u _ _ => ?_))); (with_reducible refine (a06_right (by omega)).mono ?_); rintro e u ⟨rfl, _⟩) | (go_at_call 33; (try first | (with_reducible refine gen_boxK3 (fun u _ _ _ _ => ?_)) | (with_reducible refine gen_boxK2 (fun u _ _ _ => ?_)) | (with_reducible refine gen_boxK (fun u _ _ => ?_))); (with_reducible refine (a06_awake).mono ?_); rintro e u ⟨rfl, _⟩))
    go_ret
    exact ⟨rfl, bel w _⟩
  rcases hz : decide (zs = ts) with _ | _
  · have al : alikeB ts ys zs xs = false := by simp [alikeB, hr, hr']; simpa [eq_comm] using hz
    go_enter Try.func9, Try.ntmps9
    go_wp2_with (first | (go_at_call 44; (try first | (with_reducible refine gen_boxK3 (fun u _ _ _ _ => ?_)) | (with_reducible refine gen_boxK2 (fun u _ _ _ => ?_)) | (with_reducible refine gen_boxK (fun u _ _ => ?_))); (with_reducible refine (a06_bias_no (by omega) (by omega) HX HY al).mono ?_); rintro e u ⟨A', c', B', d', rfl, _, _, hd', _⟩) | (go_at_call 40; (try first | (with_reducible refine gen_boxK3 (fun u _ _ _ _ => ?_)) | (with_reducible refine gen_boxK2 (fun u _ _ _ => ?_)) | (with_reducible refine gen_boxK (fun u _ _ => ?_))); (with_reducible refine (a06_right (by omega)).mono ?_); rintro e u ⟨rfl, _⟩) | (go_at_call 41; (try first | (with_reducible refine gen_boxK3 (fun u _ _ _ _ => ?_)) | (with_reducible refine gen_boxK2 (fun u _ _ _ => ?_)) | (with_reducible refine gen_boxK (fun u _ _ => ?_))); (with_reducible refine (a03_same (by omega) (by omega)).mono ?_); rintro e u ⟨rfl, _⟩) | (go_at_call 33; (try first | (with_reducible refine gen_boxK3 (fun u _ _ _ _ => ?_)) | (with_reducible refine gen_boxK2 (fun u _ _ _ => ?_)) | (with_reducible refine gen_boxK (fun u _ _ => ?_))); (with_reducible refine (a06_awake).mono ?_); rintro e u ⟨rfl, _⟩))
    go_ret
    exact ⟨rfl, bel w _⟩
  have al : alikeB ts ys zs xs = true := by simp [alikeB, hr, hr']; simpa [eq_comm] using hz
  have hxy : xs.length = ys.length := by
    have h1 := (tRightB_iff _ _).1 hr
    have h2 := (tRightB_iff _ _).1 hr'
    have h3 : zs = ts := by simpa using hz
    rw [h3] at h1
    omega
  have HXY := Lib.hid hxy
  obtain ⟨L, HL⟩ : ∃ L : List Int, Hid (L = ys.zipWith fadd xs) := ⟨_, Lib.hid rfl⟩
  have hLl : L.length ≤ 400 := by rw [HL.out, List.length_zipWith]; omega
  clear hxy
  go_enter Try.func9, Try.ntmps9
  go_wp2_with (first | (go_at_call 44; (try first | (with_reducible refine gen_boxK3 (fun u _ _ _ _ => ?_)) | (with_reducible refine gen_boxK2 (fun u _ _ _ => ?_)) | (with_reducible refine gen_boxK (fun u _ _ => ?_))); (with_reducible refine (a06_bias_yes (by omega) (by omega) HX HY al HL).mono ?_); rintro e u ⟨A', c', B', d', rfl, _, _, hd', _⟩) | (go_at_call 40; (try first | (with_reducible refine gen_boxK3 (fun u _ _ _ _ => ?_)) | (with_reducible refine gen_boxK2 (fun u _ _ _ => ?_)) | (with_reducible refine gen_boxK (fun u _ _ => ?_))); (with_reducible refine (a06_right (by omega)).mono ?_); rintro e u ⟨rfl, _⟩) | (go_at_call 41; (try first | (with_reducible refine gen_boxK3 (fun u _ _ _ _ => ?_)) | (with_reducible refine gen_boxK2 (fun u _ _ _ => ?_)) | (with_reducible refine gen_boxK (fun u _ _ => ?_))); (with_reducible refine (a03_same (by omega) (by omega)).mono ?_); rintro e u ⟨rfl, _⟩) | (go_at_call 33; (try first | (with_reducible refine gen_boxK3 (fun u _ _ _ _ => ?_)) | (with_reducible refine gen_boxK2 (fun u _ _ _ => ?_)) | (with_reducible refine gen_boxK (fun u _ _ => ?_))); (with_reducible refine (a06_awake).mono ?_); rintro e u ⟨rfl, _⟩))
  go_loopw [7, 68] (fun v i wr => ∃ (k : Nat) (A' : Option Addr) (c' : Nat) (l : List Int), k ≤ xs.length ∧ i = .int .i64 k ∧ v = .slice A' l.length c' ∧ Hid (l = L.take k) ∧ OwnA wr u.heap.size 2 A' c' l ∧ Prev wr u) (fun _ i _ => xs.length - (intOf i).toNat)
  case atStart => exact ⟨0, none, 0, [], Nat.zero_le _, rfl, rfl, Lib.hid (by simp), OwnA.nil _ _ _, prev_bel _ _⟩
  case round =>
    obtain ⟨k, A', c', l, hk, rfl, rfl, hl, hown, hp⟩ := hrel
    have hln : l.length ≤ 1000000000 := by rw [hl.out, List.length_take]; omega
    by_cases hlt : k < xs.length
    · obtain ⟨b1, o1, x, rfl, ob1, hc1, hx1⟩ := s2.get hlt
      obtain ⟨b2, o2, y, rfl, ob2, hc2, hy1⟩ := s4.get (k := k) (by rw [← HXY.out]; exact hlt)
      have hxi := HX.out x (List.mem_of_getElem? hx1.out)
      have hyi := HY.out y (List.mem_of_getElem? hy1.out)
      have hky : k < ys.length := by rw [← HXY.out]; exact hlt
      have HT : Hid (L.take (k + 1) = L.take k ++ [fadd y x]) := Lib.hid (take_snoc_at (by rw [HL.out, List.getElem?_zipWith, hx1.out, hy1.out]))
      have CP := @cell_prev
      go_wp2_with fail
      refine wp_region_up u (by kernel_rfl) (fun ux _ => ?_)
      refine wpAnyH_on (i := 0) (d := 71) (v := ?_) rfl rfl (by kernel_rfl) (by kernel_rfl) (by kernel_rfl) (fun _ _ _ h => h) (by kernel_rfl) (prev_bel _ _) ?_ ?_
      rotate_left
      · intro uu (pu : Prev uu _)
        go_simp
        try (with_reducible rfl)
      simp only [List.set]
      refine wpAnyH_on (i := 1) (d := 72) (v := ?_) rfl rfl (by kernel_rfl) (by kernel_rfl) (by kernel_rfl) (fun _ _ _ h => h) (by kernel_rfl) (prev_bel _ _) ?_ ?_
      rotate_left
      · intro uu (pu : Prev uu _)
        go_simp
        try (with_reducible rfl)
      simp only [List.set]
      refine wpAnyH_on (i := 2) (d := 73) (v := ?_) rfl rfl (by kernel_rfl) (by kernel_rfl) (by kernel_rfl) (fun _ _ _ h => h) (by kernel_rfl) (prev_bel _ _) ?_ ?_
      rotate_left
      · intro uu (pu : Prev uu _)
        go_simp
        try (with_reducible rfl)
      simp only [List.set]
      refine wpAnyH_on (i := 3) (d := 74) (v := ?_) rfl rfl (by kernel_rfl) (by kernel_rfl) (by kernel_rfl) (fun _ _ _ h => h) (by kernel_rfl) (prev_bel _ _) ?_ ?_
      rotate_left
      · intro uu (pu : Prev uu _)
        go_simp
        try (with_reducible rfl)
      simp only [List.set]
      refine wpAnyH_on (i := 4) (d := 75) (v := ?_) rfl rfl (by kernel_rfl) (by kernel_rfl) (by kernel_rfl) (fun _ _ _ h => h) (by kernel_rfl) (prev_bel _ _) ?_ ?_
      rotate_left
      · intro uu (pu : Prev uu _)
        go_simp
        try (with_reducible rfl)
      simp only [List.set]
      refine wpAnyH_on (i := 5) (d := 76) (v := ?_) rfl rfl (by kernel_rfl) (by kernel_rfl) (by kernel_rfl) (fun _ _ _ h => h) (by kernel_rfl) (prev_bel _ _) ?_ ?_
      rotate_left
      · intro uu (pu : Prev uu _)
        go_simp
        try (with_reducible rfl)
      simp only [List.set]
      refine wpAnyH_on (i := 6) (d := 77) (v := ?_) rfl rfl (by kernel_rfl) (by kernel_rfl) (by kernel_rfl) (fun _ _ _ h => h) (by kernel_rfl) (prev_bel _ _) ?_ ?_
      rotate_left
      · intro uu (pu : Prev uu _)
        go_simp
        try (with_reducible rfl)
      simp only [List.set]
      refine wpAnyH_on (i := 7) (d := 78) (v := ?_) rfl rfl (by kernel_rfl) (by kernel_rfl) (by kernel_rfl) (fun _ _ _ h => h) (by kernel_rfl) (prev_bel _ _) ?_ ?_
      rotate_left
      · intro uu (pu : Prev uu _)
        go_simp
        try (with_reducible rfl)
      simp only [List.set]
      refine wpAnyH_on (i := 8) (d := 79) (v := ?_) rfl rfl (by kernel_rfl) (by kernel_rfl) (by kernel_rfl) (fun _ _ _ h => h) (by kernel_rfl) (prev_bel _ _) ?_ ?_
      rotate_left
      · intro uu (pu : Prev uu _)
        go_simp
        try (with_reducible rfl)
      simp only [List.set]
      refine wpAnyH_on (i := 9) (d := 80) (v := ?_) rfl rfl (by kernel_rfl) (by kernel_rfl) (by kernel_rfl) (fun _ _ _ h => h) (by kernel_rfl) (prev_bel _ _) ?_ ?_
      rotate_left
      · intro uu (pu : Prev uu _)
        go_simp
        try (with_reducible rfl)
      simp only [List.set]
      refine wpAnyH_on (i := 10) (d := 81) (v := ?_) rfl rfl (by kernel_rfl) (by kernel_rfl) (by kernel_rfl) (fun _ _ _ h => h) (by kernel_rfl) (prev_bel _ _) ?_ ?_
      rotate_left
      · intro uu (pu : Prev uu _)
        go_simp
        try (with_reducible rfl)
      simp only [List.set]
      refine wpAnyH_ready (rs := [11]) (by kernel_rfl) (by simp) ?_
      refine AllReadyH.cons rfl (fun K hK => ?_) AllReadyH.nil
      go_simp
      (with_reducible refine (a01_add hyi hxi).mono ?_)
      rintro e ux ⟨rfl, _⟩
      dsimp only
      refine hK.out _ _ (prev_bel u _) (fun _ => ?_)
      clear hK K
      try dsimp only [Act.put, List.setIfInBounds_toArray, List.set_cons_zero, List.set_cons_succ]
      refine wpAnyH_ready (rs := [12]) (by kernel_rfl) (by simp) ?_
      refine AllReadyH.cons rfl (fun K hK => ?_) AllReadyH.nil
      go_simp
      refine hK.out _ _ (prev_bel u _) (fun _ => ?_)
      clear hK K
      try dsimp only [Act.put, List.setIfInBounds_toArray, List.set_cons_zero, List.set_cons_succ]
      refine gen_boxH (fun ux _ _ => ?_)
      refine wpAnyH_ready (rs := [13]) (by kernel_rfl) (by simp) ?_
      refine AllReadyH.cons rfl (fun K hK => ?_) AllReadyH.nil
      refine step_pushI (by kernel_rfl) _ _ _ rfl 2 Try.underlying52 (by kernel_rfl) (World.heap u).size _ _ _ rfl hown.at _ _ rfl cell_one hln later_size ?_
      intro A3 c3 w3 ho3 hb3 _ _
      have : Prev w3 u := ⟨(bel u _).trans hb3⟩
      clear hb3
      refine hK.out _ _ (prev_bel u _) (fun _ => ?_)
      clear hK K
      try dsimp only [Act.put, List.setIfInBounds_toArray, List.set_cons_zero, List.set_cons_succ]
      refine wpAnyH_on (i := 14) (d := 7) (v := ?_) rfl rfl (by kernel_rfl) (by kernel_rfl) (by kernel_rfl) (fun _ _ _ h => h) (by kernel_rfl) (prev_bel _ _) ?_ ?_
      rotate_left
      · intro uu (pu : Prev uu _)
        go_simp
        try (with_reducible rfl)
      simp only [List.set]
      refine wpAnyH_done (by kernel_rfl) ?_ _
      go_wp2_with fail
      go_roundw
      case rel => exact ⟨k + 1, A3, c3, l ++ [fadd y x], by omega, by go_num, by simp, Lib.hid (by rw [HT.out, hl.out]), ho3, prev_bel _ _⟩
      case measure => simp [intOf]; omega
    · obtain rfl : l = L := by rw [hl.out]; exact List.take_of_length_le (by rw [HL.out, List.length_zipWith]; have := HXY.out; omega)
      have s9 : Sl wr A' l.length l := ⟨hown.rd, rfl⟩
      go_wp2_with (first | (go_at_call 36; (try first | (with_reducible refine gen_boxK3 (fun u _ _ _ _ => ?_)) | (with_reducible refine gen_boxK2 (fun u _ _ _ => ?_)) | (with_reducible refine gen_boxK (fun u _ _ => ?_))); (with_reducible refine (a06_same (by omega) (by omega) (by omega) (by omega)).mono ?_); rintro e u ⟨rfl, _⟩) | (go_at_call 33; (try first | (with_reducible refine gen_boxK3 (fun u _ _ _ _ => ?_)) | (with_reducible refine gen_boxK2 (fun u _ _ _ => ?_)) | (with_reducible refine gen_boxK (fun u _ _ => ?_))); (with_reducible refine (a06_awake).mono ?_); rintro e u ⟨rfl, _⟩))
      go_ret
      exact ⟨rfl, bel w _⟩

end Go.Proofs.Ythcdjdhnjbdfeaa
