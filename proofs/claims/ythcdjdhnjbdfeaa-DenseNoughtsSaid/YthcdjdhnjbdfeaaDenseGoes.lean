/- The walk of the statement DenseGoes. -/
import Derived.Test.YthcdjdhnjbdfeaaLaw06b
import Derived.Test.YthcdjdhnjbdfeaaLaw06c
import Derived.Test.YthcdjdhnjbdfeaaRef06
import Derived.Test.YthcdjdhnjbdfeaaOpen
namespace Go.Proofs.Ythcdjdhnjbdfeaa
open Go.RowKit

theorem box8 {w : World} {g : Nat} {T : TypeId} {v0 v1 v2 v3 v4 v5 v6 v7 : Value} (h : Blk w g T #[v0, v1, v2, v3, v4, v5, v6, v7]) :
    w.cell? ⟨g, 0, none⟩ = some v0 ∧ w.cell? ⟨g, 1, none⟩ = some v1 ∧ w.cell? ⟨g, 2, none⟩ = some v2 ∧ w.cell? ⟨g, 3, none⟩ = some v3 ∧ w.cell? ⟨g, 4, none⟩ = some v4 ∧ w.cell? ⟨g, 5, none⟩ = some v5 ∧ w.cell? ⟨g, 6, none⟩ = some v6 ∧ w.cell? ⟨g, 7, none⟩ = some v7 :=
  ⟨h.cell 0, h.cell 1, h.cell 2, h.cell 3, h.cell 4, h.cell 5, h.cell 6, h.cell 7⟩
theorem small6_le {zs xs ts ys us vs ps gs : List Int} (h : small6B zs xs ts ys us vs ps gs = true) : xs.length ≤ 400 ∧ ys.length ≤ 100 ∧ vs.length ≤ 100 ∧ gs.length ≤ 100 ∧ zs.length ≤ 9 ∧ ts.length ≤ 9 ∧ us.length ≤ 9 ∧ ps.length ≤ 9 := by
  simp [small6B] at h
  omega

set_option maxRecDepth 100000 in
set_option maxHeartbeats 8000000 in
theorem denseGoes_calls (A B C D E F G H : Option Addr) (c d c' d' e' f' g' h' : Nat) (zs xs ts ys us vs ps gs : List Int) (w : World) (i1 : IntsIn w A c zs) (i2 : IntsIn w B d xs) (i3 : IntsIn w C c' ts) (i4 : IntsIn w D d' ys) (i5 : IntsIn w E e' us) (i6 : IntsIn w F f' vs) (i7 : IntsIn w G g' ps) (i8 : IntsIn w H h' gs) :
    Calls Try.prog 6 #[.agg #[.slice A zs.length c, .slice B xs.length d, .slice C ts.length c', .slice D ys.length d', .slice E us.length e', .slice F vs.length f', .slice G ps.length g', .slice H gs.length h']] w (LawTrue w) := by
  have HX := ints_i64 i2
  have HY := ints_i64 i4
  have HV := ints_i64 i6
  have HG := ints_i64 i8
  have hxd := i2.2.1
  have h1 := i1.rd
  have h2 := i2.rd
  have h3 := i3.rd
  have h4 := i4.rd
  have h5 := i5.rd
  have h6 := i6.rd
  have h7 := i7.rd
  have h8 := i8.rd
  clear i1 i2 i3 i4 i5 i6 i7 i8
  have k1 := Blk.new w 57 #[.slice A zs.length c, .slice B xs.length d, .slice C ts.length c', .slice D ys.length d', .slice E us.length e', .slice F vs.length f', .slice G ps.length g', .slice H gs.length h']
  rcases hsm : small6B zs xs ts ys us vs ps gs with _ | _
  · have HS := Lib.hid hsm
    clear hsm
    go_enter Try.func6, Try.ntmps6
    go_wp2_with fail
    refine (l06_small A B C D E F G H c d c' d' e' f' g' h' zs xs ts ys us vs ps gs _).mono ?_
    rintro e w1 ⟨rfl, hb⟩
    have pw1 := Prev.mk hb
    clear hb
    rw [HS.out]
    go_wp2_with fail
    refine (l06_awake _).mono ?_
    rintro e w2 ⟨rfl, hb⟩
    have pw2 := Prev.mk hb
    clear hb
    go_wp2_with fail
    go_ret
    exact ⟨rfl, bel w w2⟩
  obtain ⟨l2, l4, l6, l8, l1, l3, l5, l7⟩ := small6_le hsm
  have HS := Lib.hid hsm
  clear hsm
  rcases hag : agreeB zs xs ts ys us vs with _ | _
  · have HA := Lib.hid hag
    clear hag
    go_enter Try.func6, Try.ntmps6
    go_wp2_with fail
    refine (l06_small A B C D E F G H c d c' d' e' f' g' h' zs xs ts ys us vs ps gs _).mono ?_
    rintro e w1 ⟨rfl, hb⟩
    have pw1 := Prev.mk hb
    clear hb
    rw [HS.out]
    obtain ⟨q0, q1, q2, q3, q4, q5, q6, q7⟩ := box8 (k1.at (w' := w1))
    go_wp2_with fail
    clear q0 q1 q2 q3 q4 q5 q6 q7
    refine (d_go_no A B C D E F c d c' d' e' f' zs xs ts ys us vs _ (by omega) (by omega) (by omega) h1.at h3.at h5.at HA).mono ?_
    rintro e w2 ⟨A1, c1, B1, d1, rfl, -, -, hb⟩
    have pw2 := Prev.mk hb
    clear hb
    have kY := Blk.new w2 26 #[.slice A1 0 c1, .slice B1 0 d1]
    obtain ⟨q0, q1, q2, q3, q4, q5, q6, q7⟩ := box8 (k1.at (w' := w2.alloc (.cells #[.slice A1 0 c1, .slice B1 0 d1] 26)))
    go_wp2_with fail
    clear q0 q1 q2 q3 q4 q5 q6 q7
    refine (l06_fits A B C D E F G H c d c' d' e' f' g' h' zs xs ts ys us vs ps gs _ (by omega) (by omega) (by omega) h1.at h3.at h5.at).mono ?_
    rintro e w3 ⟨rfl, hb⟩
    have pw3 := Prev.mk hb
    clear hb
    rw [HA.out]
    obtain ⟨p0, p1⟩ := box2 (kY.at (w' := w3))
    go_wp2_with fail
    refine (l06_awake _).mono ?_
    rintro e w4 ⟨rfl, hb⟩
    have pw4 := Prev.mk hb
    clear hb
    go_wp2_with fail
    go_ret
    exact ⟨rfl, bel w w4⟩
  · have HA := Lib.hid hag
    obtain ⟨M, N, rfl, rfl, hxl, hyl, hvl, hM1, hN1, hM, hN, hx6, -, -, -⟩ := agree_nats hag
    clear hag
    have HXL : Hid (xs.length = M * vs.length) := Lib.hid (by rw [hvl]; exact hxl)
    have HYL := Lib.hid hyl
    clear hxl hyl hvl
    have hvN : vs.length ≤ 1024 := by omega
    obtain ⟨L, HL⟩ : ∃ L, Hid (L = goCells xs ys vs M) := ⟨_, Lib.hid rfl⟩
    have CG := Lib.hid fun (w' : World) (g1 : Rd w' A [(M : Int), (N : Int)]) (g2 : Rd w' B xs) (g3 : Rd w' C [(M : Int)]) (g4 : Rd w' D ys) (g5 : Rd w' E us) (g6 : Rd w' F vs) => d_go_yes A B C D E F c d c' d' e' f' [(M : Int), (N : Int)] xs [(M : Int)] ys us vs w' hxd (by omega) g1 g2 g3 g4 g5 g6 HX HY HV HA
    rw [show goCells xs ys vs ys.length = L from by rw [HYL.out, HL.out]] at CG
    obtain ⟨ba, oa, rfl, hba, hca⟩ := h1 0 (M : Int) rfl
    have CS := Lib.hid fun (A1 B1 D1 : Option Addr) (c1 d1 d2 : Nat) (w' : World) (hL : L.length ≤ 1000000) (g1 : Rd w' A1 [(M : Int)]) (g2 : Rd w' B1 L) (g3 : Rd w' C [(M : Int)]) (g4 : Rd w' D1 L) => l06_same A1 B1 C D1 c1 d1 c' d2 [(M : Int)] L [(M : Int)] L w' (by simp) (by simp) hL hL g1 g2 g3 g4
    simp only [decide_true, Bool.and_self] at CS
    have CR := Lib.hid fun (A4 A5 A6 : Option Addr) (c4 c5 c6 : Nat) (w' : World) (g1 : Rd w' A4 xs) (g2 : Rd w' A5 ys) (g3 : Rd w' A6 vs) => r6_go A4 A5 A6 c4 c5 c6 M xs ys vs w' hM hvN HXL hx6 HYL g1 g2 g3 HX HY HV
    rw [← HL.out] at CR
    have hLl : L.length ≤ 1000000 := by rw [HL.out, goCells_length]; omega
    go_enter Try.func6, Try.ntmps6
    go_wp2_with fail
    refine (l06_small (some ⟨ba, oa, none⟩) B C D E F G H c d c' d' e' f' g' h' [(M : Int), (N : Int)] xs [(M : Int)] ys us vs ps gs _).mono ?_
    rintro e w1 ⟨rfl, hb⟩
    have pw1 := Prev.mk hb
    clear hb
    rw [HS.out]
    obtain ⟨q0, q1, q2, q3, q4, q5, q6, q7⟩ := box8 (k1.at (w' := w1))
    go_wp2_with fail
    clear q0 q1 q2 q3 q4 q5 q6 q7
    refine (CG.out _ h1.at h2.at h3.at h4.at h5.at h6.at).mono ?_
    rintro e w2 ⟨A1, c1, B1, d1, rfl, s1, x1, hb⟩
    have pw2 := Prev.mk hb
    clear hb
    have kY := Blk.new w2 26 #[.slice A1 1 c1, .slice B1 L.length d1]
    obtain ⟨q0, q1, q2, q3, q4, q5, q6, q7⟩ := box8 (k1.at (w' := w2.alloc (.cells #[.slice A1 1 c1, .slice B1 L.length d1] 26)))
    go_wp2_with fail
    clear q0 q1 q2 q3 q4 q5 q6 q7
    refine (l06_fits (some ⟨ba, oa, none⟩) B C D E F G H c d c' d' e' f' g' h' [(M : Int), (N : Int)] xs [(M : Int)] ys us vs ps gs _ (by simp) (by simp) (by omega) h1.at h3.at h5.at).mono ?_
    rintro e w3 ⟨rfl, hb⟩
    have pw3 := Prev.mk hb
    clear hb
    rw [HA.out]
    go_wp2_with fail
    have hca3 := (h1.at (w' := w3)).all (k := 0) (z := (M : Int)) rfl
    have hba3 : ba < w3.heap.size := Nat.lt_of_lt_of_le hba (bel w w3).size
    have HK0 : Hid (∀ w' : World, Below (w3).heap.size (w3) w' → w'.cell? ⟨w2.heap.size, 0, none⟩ = some (.slice A1 1 c1) ∧ w'.cell? ⟨w2.heap.size, 1, none⟩ = some (.slice B1 L.length d1) ∧ w'.cell? ⟨w.heap.size, 0, none⟩ = some (.slice (some ⟨ba, oa, none⟩) 2 c) ∧ w'.cell? ⟨w.heap.size, 1, none⟩ = some (.slice B xs.length d) ∧ w'.cell? ⟨w.heap.size, 2, none⟩ = some (.slice C 1 c') ∧ w'.cell? ⟨w.heap.size, 3, none⟩ = some (.slice D ys.length d') ∧ w'.cell? ⟨w.heap.size, 4, none⟩ = some (.slice E us.length e') ∧ w'.cell? ⟨w.heap.size, 5, none⟩ = some (.slice F vs.length f') ∧ w'.cell? ⟨ba, oa, none⟩ = some (.int .i64 M)) := Lib.hid (fun w' hbk => ⟨(kY.at.keep hbk).cell 0, (kY.at.keep hbk).cell 1, (k1.at.keep hbk).cell 0, (k1.at.keep hbk).cell 1, (k1.at.keep hbk).cell 2, (k1.at.keep hbk).cell 3, (k1.at.keep hbk).cell 4, (k1.at.keep hbk).cell 5, (hbk.cell (p := ⟨_, _, _⟩) hba3).trans hca3⟩)
    refine wp_region_held_drew (S := fun w' => w'.cell? ⟨w2.heap.size, 0, none⟩ = some (.slice A1 1 c1) ∧ w'.cell? ⟨w2.heap.size, 1, none⟩ = some (.slice B1 L.length d1) ∧ w'.cell? ⟨w.heap.size, 0, none⟩ = some (.slice (some ⟨ba, oa, none⟩) 2 c) ∧ w'.cell? ⟨w.heap.size, 1, none⟩ = some (.slice B xs.length d) ∧ w'.cell? ⟨w.heap.size, 2, none⟩ = some (.slice C 1 c') ∧ w'.cell? ⟨w.heap.size, 3, none⟩ = some (.slice D ys.length d') ∧ w'.cell? ⟨w.heap.size, 4, none⟩ = some (.slice E us.length e') ∧ w'.cell? ⟨w.heap.size, 5, none⟩ = some (.slice F vs.length f') ∧ w'.cell? ⟨ba, oa, none⟩ = some (.int .i64 M)) (by kernel_rfl) (HK0.out _ (bel _ _)) (fun _ => ?_)
    refine gen_drewH (fun wD pwD => ?_)
    have hHeld := HK0.out wD (bel _ _)
    refine wpAnyH_on (i := 0) (d := 33) (v := ?_) rfl rfl (by kernel_rfl) (by kernel_rfl) (by kernel_rfl) (fun _ _ _ h => h) (by kernel_rfl) (by assumption) ?_ ?_
    rotate_left
    · intro w hSw
      (try dsimp only at hSw)
      go_simp
      try (with_reducible rfl)
    simp only [List.set]
    refine wpAnyH_on (i := 1) (d := 34) (v := ?_) rfl rfl (by kernel_rfl) (by kernel_rfl) (by kernel_rfl) (fun _ _ _ h => h) (by kernel_rfl) (by assumption) ?_ ?_
    rotate_left
    · intro w hSw
      (try dsimp only at hSw)
      go_simp
      try (with_reducible rfl)
    simp only [List.set]
    refine wpAnyH_on (i := 2) (d := 35) (v := ?_) rfl rfl (by kernel_rfl) (by kernel_rfl) (by kernel_rfl) (fun _ _ _ h => h) (by kernel_rfl) (by assumption) ?_ ?_
    rotate_left
    · intro w hSw
      (try dsimp only at hSw)
      go_simp
      try (with_reducible rfl)
    simp only [List.set]
    refine wpAnyH_on (i := 3) (d := 36) (v := ?_) rfl rfl (by kernel_rfl) (by kernel_rfl) (by kernel_rfl) (fun _ _ _ h => h) (by kernel_rfl) (by assumption) ?_ ?_
    rotate_left
    · intro w hSw
      (try dsimp only at hSw)
      go_simp
      try (with_reducible rfl)
    simp only [List.set]
    refine wpAnyH_on (i := 4) (d := 37) (v := ?_) rfl rfl (by kernel_rfl) (by kernel_rfl) (by kernel_rfl) (fun _ _ _ h => h) (by kernel_rfl) (by assumption) ?_ ?_
    rotate_left
    · intro w hSw
      (try dsimp only at hSw)
      go_simp
      try (with_reducible rfl)
    simp only [List.set]
    refine wpAnyH_on (i := 5) (d := 38) (v := ?_) rfl rfl (by kernel_rfl) (by kernel_rfl) (by kernel_rfl) (fun _ _ _ h => h) (by kernel_rfl) (by assumption) ?_ ?_
    rotate_left
    · intro w hSw
      (try dsimp only at hSw)
      go_simp
      try (with_reducible rfl)
    simp only [List.set]
    refine wpAnyH_on (i := 6) (d := 39) (v := ?_) rfl rfl (by kernel_rfl) (by kernel_rfl) (by kernel_rfl) (fun _ _ _ h => h) (by kernel_rfl) (by assumption) ?_ ?_
    rotate_left
    · intro w hSw
      (try dsimp only at hSw)
      go_simp
      try (with_reducible rfl)
    simp only [List.set]
    refine wpAnyH_on (i := 7) (d := 40) (v := ?_) rfl rfl (by kernel_rfl) (by kernel_rfl) (by kernel_rfl) (fun _ _ _ h => h) (by kernel_rfl) (by assumption) ?_ ?_
    rotate_left
    · intro w hSw
      (try dsimp only at hSw)
      go_simp
      try (with_reducible rfl)
    simp only [List.set]
    refine wpAnyH_on (i := 8) (d := 41) (v := ?_) rfl rfl (by kernel_rfl) (by kernel_rfl) (by kernel_rfl) (fun _ _ _ h => h) (by kernel_rfl) (by assumption) ?_ ?_
    rotate_left
    · intro w hSw
      (try dsimp only at hSw)
      go_simp
      try (with_reducible rfl)
    simp only [List.set]
    refine wpAnyH_on (i := 9) (d := 42) (v := ?_) rfl rfl (by kernel_rfl) (by kernel_rfl) (by kernel_rfl) (fun _ _ _ h => h) (by kernel_rfl) (by assumption) ?_ ?_
    rotate_left
    · intro w hSw
      (try dsimp only at hSw)
      go_simp
      try (with_reducible rfl)
    simp only [List.set]
    refine wpAnyH_on (i := 10) (d := 43) (v := ?_) rfl rfl (by kernel_rfl) (by kernel_rfl) (by kernel_rfl) (fun _ _ _ h => h) (by kernel_rfl) (by assumption) ?_ ?_
    rotate_left
    · intro w hSw
      (try dsimp only at hSw)
      go_simp
      try (with_reducible rfl)
    simp only [List.set]
    refine wpAnyH_on (i := 11) (d := 44) (v := ?_) rfl rfl (by kernel_rfl) (by kernel_rfl) (by kernel_rfl) (fun _ _ _ h => h) (by kernel_rfl) (by assumption) ?_ ?_
    rotate_left
    · intro w hSw
      (try dsimp only at hSw)
      go_simp
      try (with_reducible rfl)
    simp only [List.set]
    refine wpAnyH_on (i := 12) (d := 45) (v := ?_) rfl rfl (by kernel_rfl) (by kernel_rfl) (by kernel_rfl) (fun _ _ _ h => h) (by kernel_rfl) (by assumption) ?_ ?_
    rotate_left
    · intro w hSw
      (try dsimp only at hSw)
      go_simp
      try (with_reducible rfl)
    simp only [List.set]
    refine wpAnyH_on (i := 13) (d := 46) (v := ?_) rfl rfl (by kernel_rfl) (by kernel_rfl) (by kernel_rfl) (fun _ _ _ h => h) (by kernel_rfl) (by assumption) ?_ ?_
    rotate_left
    · intro w hSw
      (try dsimp only at hSw)
      go_simp
      try (with_reducible rfl)
    simp only [List.set]
    refine wpAnyH_on (i := 15) (d := 48) (v := ?_) rfl rfl (by kernel_rfl) (by kernel_rfl) (by kernel_rfl) (fun _ _ _ h => h) (by kernel_rfl) (by assumption) ?_ ?_
    rotate_left
    · intro w hSw
      (try dsimp only at hSw)
      go_simp
      try (with_reducible rfl)
    simp only [List.set]
    refine wpAnyH_on (i := 16) (d := 49) (v := ?_) rfl rfl (by kernel_rfl) (by kernel_rfl) (by kernel_rfl) (fun _ _ _ h => h) (by kernel_rfl) (by assumption) ?_ ?_
    rotate_left
    · intro w hSw
      (try dsimp only at hSw)
      go_simp
      try (with_reducible rfl)
    simp only [List.set]
    refine wpAnyH_on (i := 18) (d := 51) (v := ?_) rfl rfl (by kernel_rfl) (by kernel_rfl) (by kernel_rfl) (fun _ _ _ h => h) (by kernel_rfl) (by assumption) ?_ ?_
    rotate_left
    · intro w hSw
      (try dsimp only at hSw)
      go_simp
      try (with_reducible rfl)
    simp only [List.set]
    refine wpAnyH_on (i := 19) (d := 52) (v := ?_) rfl rfl (by kernel_rfl) (by kernel_rfl) (by kernel_rfl) (fun _ _ _ h => h) (by kernel_rfl) (by assumption) ?_ ?_
    rotate_left
    · intro w hSw
      (try dsimp only at hSw)
      go_simp
      try (with_reducible rfl)
    simp only [List.set]
    refine wpAnyH_ready (rs := [14]) (by kernel_rfl) (by simp) ?_
    refine AllReadyH.cons rfl (fun K hK => ?_) AllReadyH.nil
    go_simp
    refine (l06_cells (some ⟨ba, oa, none⟩) B c d [(M : Int), (N : Int)] xs _ (by omega) h2.at).mono ?_
    rintro e w4 ⟨A4, c4, rfl, o4, hb⟩
    dsimp only
    have pw4 := Prev.mk hb
    clear hb
    refine hK.out _ _ (HK0.out _ (bel _ _)) (fun hHeld => ?_)
    clear hK K
    try dsimp only [Act.put, List.setIfInBounds_toArray, List.set_cons_zero, List.set_cons_succ]
    refine wpAnyH_ready (rs := [17]) (by kernel_rfl) (by simp) ?_
    refine AllReadyH.cons rfl (fun K hK => ?_) AllReadyH.nil
    go_simp
    refine (l06_cells C D c' d' [(M : Int)] ys _ (by omega) h4.at).mono ?_
    rintro e w5 ⟨A5, c5, rfl, o5, hb⟩
    dsimp only
    have pw5 := Prev.mk hb
    clear hb
    refine hK.out _ _ (HK0.out _ (bel _ _)) (fun hHeld => ?_)
    clear hK K
    try dsimp only [Act.put, List.setIfInBounds_toArray, List.set_cons_zero, List.set_cons_succ]
    refine wpAnyH_ready (rs := [20]) (by kernel_rfl) (by simp) ?_
    refine AllReadyH.cons rfl (fun K hK => ?_) AllReadyH.nil
    go_simp
    refine (l06_cells E F e' f' us vs _ (by omega) h6.at).mono ?_
    rintro e w6 ⟨A6, c6, rfl, o6, hb⟩
    dsimp only
    have pw6 := Prev.mk hb
    clear hb
    refine hK.out _ _ (HK0.out _ (bel _ _)) (fun hHeld => ?_)
    clear hK K
    try dsimp only [Act.put, List.setIfInBounds_toArray, List.set_cons_zero, List.set_cons_succ]
    refine wpAnyH_ready (rs := [21]) (by kernel_rfl) (by simp) ?_
    refine AllReadyH.cons rfl (fun K hK => ?_) AllReadyH.nil
    go_simp
    refine (CR.out A4 A5 A6 c4 c5 c6 _ o4.rd.at o5.rd.at o6.rd.at).mono ?_
    rintro e w7 ⟨A7, c7, rfl, o7, hb⟩
    dsimp only
    have pw7 := Prev.mk hb
    clear hb
    refine hK.out _ _ (HK0.out _ (bel _ _)) (fun hHeld => ?_)
    clear hK K
    try dsimp only [Act.put, List.setIfInBounds_toArray, List.set_cons_zero, List.set_cons_succ]
    refine wpAnyH_ready (rs := [22]) (by kernel_rfl) (by simp) ?_
    refine AllReadyH.cons rfl (fun K hK => ?_) AllReadyH.nil
    go_simp
    refine (CS.out A1 B1 A7 c1 d1 c7 _ hLl s1.rd.at x1.rd.at h3.at o7.rd.at).mono ?_
    rintro e w8 ⟨rfl, hb⟩
    dsimp only
    have pw8 := Prev.mk hb
    clear hb
    refine hK.out _ _ (HK0.out _ (bel _ _)) (fun hHeld => ?_)
    clear hK K
    try dsimp only [Act.put, List.setIfInBounds_toArray, List.set_cons_zero, List.set_cons_succ]
    refine wpAnyH_on (i := 23) (d := 56) (v := ?_) rfl rfl (by kernel_rfl) (by kernel_rfl) (by kernel_rfl) (fun _ _ _ h => h) (by kernel_rfl) (by assumption) ?_ ?_
    rotate_left
    · intro w hSw
      (try dsimp only at hSw)
      go_simp
      try (with_reducible rfl)
    simp only [List.set]
    refine wpAnyH_on (i := 24) (d := 57) (v := ?_) rfl rfl (by kernel_rfl) (by kernel_rfl) (by kernel_rfl) (fun _ _ _ h => h) (by kernel_rfl) (by assumption) ?_ ?_
    rotate_left
    · intro w hSw
      (try dsimp only at hSw)
      go_simp
      try (with_reducible rfl)
    simp only [List.set]
    refine wpAnyH_ready (rs := [25]) (by kernel_rfl) (by simp) ?_
    refine AllReadyH.cons rfl (fun K hK => ?_) AllReadyH.nil
    go_simp
    refine (l06_awake _).mono ?_
    rintro e w9 ⟨rfl, hb⟩
    dsimp only
    have pw9 := Prev.mk hb
    clear hb
    refine hK.out _ _ (HK0.out _ (bel _ _)) (fun hHeld => ?_)
    clear hK K
    try dsimp only [Act.put, List.setIfInBounds_toArray, List.set_cons_zero, List.set_cons_succ]
    refine wpAnyH_on (i := 26) (d := 59) (v := ?_) rfl rfl (by kernel_rfl) (by kernel_rfl) (by kernel_rfl) (fun _ _ _ h => h) (by kernel_rfl) (by assumption) ?_ ?_
    rotate_left
    · intro w hSw
      (try dsimp only at hSw)
      go_simp
      try (with_reducible rfl)
    simp only [List.set]
    refine wpAnyH_on (i := 27) (d := 2) (v := ?_) rfl rfl (by kernel_rfl) (by kernel_rfl) (by kernel_rfl) (fun _ _ _ h => h) (by kernel_rfl) (by assumption) ?_ ?_
    rotate_left
    · intro w hSw
      (try dsimp only at hSw)
      go_simp
      try (with_reducible rfl)
    simp only [List.set]
    refine wpAnyH_done (by kernel_rfl) ?_ _
    go_wp2_with fail
    go_ret
    exact ⟨rfl, bel w w9⟩

end Go.Proofs.Ythcdjdhnjbdfeaa
