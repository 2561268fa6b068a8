/- The walk of the reference of convolutions, what goes out. -/
import Derived.Test.YteibgdcieaiaiaaRef07
namespace Go.Proofs.Yteibgdcieaiaiaa
open Go.RowKit

section
variable {w : World} {A B G : Option Addr} {n m q c d e : Nat}
set_option maxRecDepth 100000 in
set_option maxHeartbeats 8000000 in
theorem r7_run_go {f : CF} {D : Nat} {ws xs gs : List Int} [sw : Sl w A n ws] [sx : Sl w B m xs] [sg : Sl w G q gs] (hf : Hid (CFok f)) (hn : n = f.O * (f.C * (f.K * f.L))) (hm : m = f.C * (f.H * f.W)) [iw : I6s ws] [ix : I6s xs]
    (HM : Hid (winV (f.H : Int) (f.K : Int) (D : Int) = (f.M : Int))) (HN : Hid (winV (f.W : Int) (f.L : Int) (f.S : Int) = (f.N : Int))) (HD : Hid (∀ i, i < f.M → i * D = i * f.S)) :
    Calls Try.prog 23 #[plnV f.O f.C f.K f.L f.H f.W D f.S, .int .i64 0, .slice A n c, .slice B m d, .slice G q e] w (RetS w (goFold ws xs (f.O * (f.M * f.N)) f.all)) := by
  have CB := @cell_bx
  have CP := @cell_prev
  have FP := @frozen_prev
  have ow := hf.out.ow
  have ox := hf.out.ox
  have oy := hf.out.oy
  obtain ⟨NZ, hNZ⟩ : ∃ NZ, f.O * (f.M * f.N) = NZ := ⟨_, rfl⟩
  have hNZ6 : NZ ≤ 65536 := by omega
  have hlw : ws.length = n := sw.len.symm
  have hlx : xs.length = m := sx.len.symm
  have hlg : gs.length = q := sg.len.symm
  obtain ⟨bw, fw, _, rfl, obw, -, -⟩ := sw.get (k := 0) (by rw [hn]; exact Nat.mul_pos hf.out.o1 (Nat.mul_pos hf.out.c1 (Nat.mul_pos hf.out.k1 hf.out.l1)))
  have hm0 : 0 < m := by rw [hm]; have h1 := frm_lt hf.out (i := 0) (j := 0) (q := 0) (t := 0) (u := 0) hf.out.m1 hf.out.n1 hf.out.c1 hf.out.k1 hf.out.l1; omega
  obtain ⟨bx, fx, _, rfl, obx, -, -⟩ := sx.get (k := 0) hm0
  have HN6 := Lib.hid hn
  have HM6 := Lib.hid hm
  have HNZ := Lib.hid hNZ
  have hn6 : n ≤ 65536 := by omega
  have hm6 : m ≤ 65536 := by omega
  have HLW := Lib.hid hlw
  have HLX := Lib.hid hlx
  have HLG := Lib.hid hlg
  obtain ⟨Q1, hQ1⟩ : ∃ Q1, f.O * f.M = Q1 := ⟨_, rfl⟩
  obtain ⟨Q2, hQ2⟩ : ∃ Q2, Q1 * f.N = Q2 := ⟨_, rfl⟩
  have hq2 : Q2 ≤ 65536 := by rw [← hQ2, ← hQ1, Nat.mul_assoc]; exact oy
  have hq1 : Q1 ≤ Q2 := by rw [← hQ2]; exact Nat.le_mul_of_pos_right _ hf.out.n1
  have z1 : (f.O : Int) * (f.M : Int) = (Q1 : Int) := by rw [← hQ1, Int.natCast_mul]
  have z2 : (Q1 : Int) * (f.N : Int) = (Q2 : Int) := by rw [← hQ2, Int.natCast_mul]
  replace z2 : (Q1 : Int) * (f.N : Int) = (NZ : Int) := by rw [z2, show Q2 = NZ from by rw [← hNZ, ← hQ2, ← hQ1, Nat.mul_assoc]]
  have HQ2 : Hid (Q2 = f.O * (f.M * f.N)) := Lib.hid (by rw [← hQ2, ← hQ1, Nat.mul_assoc])
  clear hQ1 hQ2 hn hm hNZ hlw hlx hlg
  have bO : f.O ≤ 65536 ∧ f.M ≤ 65536 ∧ f.N ≤ 65536 := by
    have e1 : f.O * 1 ≤ f.O * (f.M * f.N) := Nat.mul_le_mul_left _ (Nat.mul_pos hf.out.m1 hf.out.n1)
    have e2 : 1 * (f.M * f.N) ≤ f.O * (f.M * f.N) := Nat.mul_le_mul_right _ hf.out.o1
    have e3 : f.M * 1 ≤ f.M * f.N := Nat.mul_le_mul_left _ hf.out.n1
    have e4 : 1 * f.N ≤ f.M * f.N := Nat.mul_le_mul_right _ hf.out.m1
    omega
  have bC : f.C ≤ 65536 ∧ f.K ≤ 65536 ∧ f.L ≤ 65536 := by
    have e1 : 1 * (f.C * (f.K * f.L)) ≤ f.O * (f.C * (f.K * f.L)) := Nat.mul_le_mul_right _ hf.out.o1
    have e2 : f.C * 1 ≤ f.C * (f.K * f.L) := Nat.mul_le_mul_left _ (Nat.mul_pos hf.out.k1 hf.out.l1)
    have e3 : 1 * (f.K * f.L) ≤ f.C * (f.K * f.L) := Nat.mul_le_mul_right _ hf.out.c1
    have e4 : f.K * 1 ≤ f.K * f.L := Nat.mul_le_mul_left _ hf.out.l1
    have e5 : 1 * f.L ≤ f.K * f.L := Nat.mul_le_mul_right _ hf.out.k1
    omega
  clear ow ox oy
  unfold plnV
  go_enter Try.func23, Try.ntmps23
  go_upto_region 1 with fail
  obtain ⟨wb, hwb⟩ : ∃ wb : World, wb = w.alloc (.cells #[.int .i64 f.O, .int .i64 f.C, .int .i64 f.K, .int .i64 f.L, .int .i64 f.H, .int .i64 f.W, .int .i64 D, .int .i64 f.S] 45) := ⟨_, rfl⟩
  have kB : Bx wb w.heap.size 45 #[.int .i64 f.O, .int .i64 f.C, .int .i64 f.K, .int .i64 f.L, .int .i64 f.H, .int .i64 f.W, .int .i64 D, .int .i64 f.S] := by rw [hwb]; exact Bx.new
  have pB : Prev wb w := hwb ▸ Prev.alloc _ _
  rw [← hwb]
  clear hwb
  go_cut [11, 12] (fun p e wx => p = .int .i64 f.M ∧ e = .int .i64 f.N ∧ Prev wx wb)
  case first =>
    refine wp_region_up wb (by kernel_rfl) (fun ux _ => ?_)
    refine wpAnyH_on (i := 0) (d := 24) (v := ?_) rfl rfl (by kernel_rfl) (by kernel_rfl) (by kernel_rfl) (fun _ _ _ h => h) (by kernel_rfl) (prev_bel _ _) ?_ ?_
    rotate_left
    · intro uu (pu : Prev uu _)
      go_simp
      try (with_reducible rfl)
    try simp only [List.set]
    refine wpAnyH_on (i := 1) (d := 25) (v := ?_) rfl rfl (by kernel_rfl) (by kernel_rfl) (by kernel_rfl) (fun _ _ _ h => h) (by kernel_rfl) (prev_bel _ _) ?_ ?_
    rotate_left
    · intro uu (pu : Prev uu _)
      go_simp
      try (with_reducible rfl)
    try simp only [List.set]
    refine wpAnyH_on (i := 2) (d := 26) (v := ?_) rfl rfl (by kernel_rfl) (by kernel_rfl) (by kernel_rfl) (fun _ _ _ h => h) (by kernel_rfl) (prev_bel _ _) ?_ ?_
    rotate_left
    · intro uu (pu : Prev uu _)
      go_simp
      try (with_reducible rfl)
    try simp only [List.set]
    refine wpAnyH_on (i := 3) (d := 27) (v := ?_) rfl rfl (by kernel_rfl) (by kernel_rfl) (by kernel_rfl) (fun _ _ _ h => h) (by kernel_rfl) (prev_bel _ _) ?_ ?_
    rotate_left
    · intro uu (pu : Prev uu _)
      go_simp
      try (with_reducible rfl)
    try simp only [List.set]
    refine wpAnyH_on (i := 4) (d := 28) (v := ?_) rfl rfl (by kernel_rfl) (by kernel_rfl) (by kernel_rfl) (fun _ _ _ h => h) (by kernel_rfl) (prev_bel _ _) ?_ ?_
    rotate_left
    · intro uu (pu : Prev uu _)
      go_simp
      try (with_reducible rfl)
    try simp only [List.set]
    refine wpAnyH_on (i := 5) (d := 29) (v := ?_) rfl rfl (by kernel_rfl) (by kernel_rfl) (by kernel_rfl) (fun _ _ _ h => h) (by kernel_rfl) (prev_bel _ _) ?_ ?_
    rotate_left
    · intro uu (pu : Prev uu _)
      go_simp
      try (with_reducible rfl)
    try simp only [List.set]
    refine wpAnyH_on (i := 7) (d := 31) (v := ?_) rfl rfl (by kernel_rfl) (by kernel_rfl) (by kernel_rfl) (fun _ _ _ h => h) (by kernel_rfl) (prev_bel _ _) ?_ ?_
    rotate_left
    · intro uu (pu : Prev uu _)
      go_simp
      try (with_reducible rfl)
    try simp only [List.set]
    refine wpAnyH_on (i := 8) (d := 32) (v := ?_) rfl rfl (by kernel_rfl) (by kernel_rfl) (by kernel_rfl) (fun _ _ _ h => h) (by kernel_rfl) (prev_bel _ _) ?_ ?_
    rotate_left
    · intro uu (pu : Prev uu _)
      go_simp
      try (with_reducible rfl)
    try simp only [List.set]
    refine wpAnyH_on (i := 9) (d := 33) (v := ?_) rfl rfl (by kernel_rfl) (by kernel_rfl) (by kernel_rfl) (fun _ _ _ h => h) (by kernel_rfl) (prev_bel _ _) ?_ ?_
    rotate_left
    · intro uu (pu : Prev uu _)
      go_simp
      try (with_reducible rfl)
    try simp only [List.set]
    refine wpAnyH_on (i := 10) (d := 34) (v := ?_) rfl rfl (by kernel_rfl) (by kernel_rfl) (by kernel_rfl) (fun _ _ _ h => h) (by kernel_rfl) (prev_bel _ _) ?_ ?_
    rotate_left
    · intro uu (pu : Prev uu _)
      go_simp
      try (with_reducible rfl)
    try simp only [List.set]
    refine wpAnyH_on (i := 11) (d := 35) (v := ?_) rfl rfl (by kernel_rfl) (by kernel_rfl) (by kernel_rfl) (fun _ _ _ h => h) (by kernel_rfl) (prev_bel _ _) ?_ ?_
    rotate_left
    · intro uu (pu : Prev uu _)
      go_simp
      try (with_reducible rfl)
    try simp only [List.set]
    refine wpAnyH_on (i := 12) (d := 36) (v := ?_) rfl rfl (by kernel_rfl) (by kernel_rfl) (by kernel_rfl) (fun _ _ _ h => h) (by kernel_rfl) (prev_bel _ _) ?_ ?_
    rotate_left
    · intro uu (pu : Prev uu _)
      go_simp
      try (with_reducible rfl)
    try simp only [List.set]
    refine wpAnyH_ready (rs := [6]) (by kernel_rfl) (by simp) ?_
    refine AllReadyH.cons rfl (fun K hK => ?_) AllReadyH.nil
    go_simp
    (with_reducible refine (r7_windowH HM).mono ?_)
    rintro e ux ⟨rfl, _⟩
    dsimp only
    refine hK.out _ _ (prev_bel wb _) (fun hHeld => ?_)
    clear hHeld hK K
    try dsimp only [Act.put, List.setIfInBounds_toArray, List.set_cons_zero, List.set_cons_succ]
    refine wpAnyH_ready (rs := [13]) (by kernel_rfl) (by simp) ?_
    refine AllReadyH.cons rfl (fun K hK => ?_) AllReadyH.nil
    go_simp
    (with_reducible refine (r7_windowH HN).mono ?_)
    rintro e ux ⟨rfl, _⟩
    dsimp only
    refine hK.out _ _ (prev_bel wb _) (fun hHeld => ?_)
    clear hHeld hK K
    try dsimp only [Act.put, List.setIfInBounds_toArray, List.set_cons_zero, List.set_cons_succ]
    refine wpAnyH_on (i := 14) (d := 11) (v := ?_) rfl rfl (by kernel_rfl) (by kernel_rfl) (by kernel_rfl) (fun _ _ _ h => h) (by kernel_rfl) (prev_bel _ _) ?_ ?_
    rotate_left
    · intro uu (pu : Prev uu _)
      go_simp
      try (with_reducible rfl)
    try simp only [List.set]
    refine wpAnyH_on (i := 15) (d := 12) (v := ?_) rfl rfl (by kernel_rfl) (by kernel_rfl) (by kernel_rfl) (fun _ _ _ h => h) (by kernel_rfl) (prev_bel _ _) ?_ ?_
    rotate_left
    · intro uu (pu : Prev uu _)
      go_simp
      try (with_reducible rfl)
    try simp only [List.set]
    refine wpAnyH_done (by kernel_rfl) ?_ _
    go_wp2_with fail
    go_meet
    exact ⟨rfl, rfl, prev_bel _ _⟩
  case rest =>
    obtain ⟨rfl, rfl, pv⟩ := hcut
    rename World => v
    have hmk := fun W => run_make_row' (P := Try.prog) 42 2 (.int .i64 0) 8 Try.underlying42 (by kernel_rfl) rfl .i64 .i64 NZ (by omega) (by omega) W
    rw [ints_made] at hmk
    go_wp2_with fail
    clear hmk
    have hO0 : Own (v.alloc (.cells (ints (List.replicate NZ 0)) 2)) v.heap.size 2 (goFold ws xs NZ []) := Own.new _ _ _
    go_loopw [15] (fun o wr => ∃ p : Nat, p ≤ f.O ∧ o = .int .i64 p ∧ Own wr v.heap.size 2 (goFold ws xs NZ (f.pT p)) ∧ Prev wr v) (fun o _ => f.O - (intOf o).toNat)
    case atStart => exact ⟨0, Nat.zero_le _, rfl, hO0, prev_bel _ _⟩
    case round =>
      obtain ⟨p, hp, rfl, hO, hpv⟩ := hrel
      clear hO0
      by_cases hlp : p < f.O
      · go_wp2_with fail
        go_loopw [16] (fun o wr => ∃ i : Nat, i ≤ f.M ∧ o = .int .i64 i ∧ Own wr v.heap.size 2 (goFold ws xs NZ (f.pT p ++ f.iT p i)) ∧ Prev wr v) (fun o _ => f.M - (intOf o).toNat)
        case atStart => exact ⟨0, Nat.zero_le _, rfl, by rw [show f.iT p 0 = [] from rfl, List.append_nil]; exact hO, prev_bel _ _⟩
        case round =>
          clear hO
          obtain ⟨i, hi, rfl, hO, hpv⟩ := hrel
          by_cases hli : i < f.M
          · go_wp2_with fail
            go_loopw [17] (fun o wr => ∃ j : Nat, j ≤ f.N ∧ o = .int .i64 j ∧ Own wr v.heap.size 2 (goFold ws xs NZ (f.pT p ++ (f.iT p i ++ f.jT p i j))) ∧ Prev wr v) (fun o _ => f.N - (intOf o).toNat)
            case atStart => exact ⟨0, Nat.zero_le _, rfl, by rw [show f.jT p i 0 = [] from rfl, List.append_nil]; exact hO, prev_bel _ _⟩
            case round =>
              clear hO
              obtain ⟨j, hj, rfl, hO, hpv⟩ := hrel
              by_cases hlj : j < f.N
              · obtain ⟨A1, A2, PL, m1, m2, m3, HPL, bPL, bA⟩ := r7_place hf.out hlp hli hlj
                rw [← HQ2.out] at bPL
                go_wp2_with fail
                go_loopw [19] (fun o wr => ∃ k : Nat, k ≤ f.C ∧ o = .int .i64 k ∧ Own wr v.heap.size 2 (goFold ws xs NZ (f.pT p ++ (f.iT p i ++ (f.jT p i j ++ f.qT p i j k)))) ∧ Prev wr v) (fun o _ => f.C - (intOf o).toNat)
                case atStart => exact ⟨0, Nat.zero_le _, rfl, by rw [show f.qT p i j 0 = [] from rfl, List.append_nil]; exact hO, prev_bel _ _⟩
                case round =>
                  clear hO
                  obtain ⟨k, hk, rfl, hO, hpv⟩ := hrel
                  by_cases hlk : k < f.C
                  · go_wp2_with fail
                    go_loopw [20] (fun o wr => ∃ t : Nat, t ≤ f.K ∧ o = .int .i64 t ∧ Own wr v.heap.size 2 (goFold ws xs NZ (f.pT p ++ (f.iT p i ++ (f.jT p i j ++ (f.qT p i j k ++ f.tT p i j k t))))) ∧ Prev wr v) (fun o _ => f.K - (intOf o).toNat)
                    case atStart => exact ⟨0, Nat.zero_le _, rfl, by rw [show f.tT p i j k 0 = [] from rfl, List.append_nil]; exact hO, prev_bel _ _⟩
                    case round =>
                      clear hO
                      obtain ⟨t, ht, rfl, hO, hpv⟩ := hrel
                      by_cases hlt : t < f.K
                      · go_wp2_with fail
                        go_loopw [21] (fun o wr => ∃ s : Nat, s ≤ f.L ∧ o = .int .i64 s ∧ Own wr v.heap.size 2 (goFold ws xs NZ (f.pT p ++ (f.iT p i ++ (f.jT p i j ++ (f.qT p i j k ++ (f.tT p i j k t ++ f.uT p i j k t s)))))) ∧ Prev wr v) (fun o _ => f.L - (intOf o).toNat)
                        case atStart => exact ⟨0, Nat.zero_le _, rfl, by rw [show f.uT p i j k t 0 = [] from rfl, List.append_nil]; exact hO, prev_bel _ _⟩
                        case round =>
                          clear hO
                          obtain ⟨s, hs, rfl, hO, hpv⟩ := hrel
                          by_cases hls : s < f.L
                          · obtain ⟨D1, X1, X2, WT, m4, m5, m6, m7, HWT, bWT, bX⟩ := r7_wt hf.out hlp hlk hlt hls
                            obtain ⟨Y1, Y2, Y3, Y4, FR, m8, m9, m10, m11, m12, HFR, bFR, bY⟩ := r7_frm hf.out (HD.out i hli) hli hlj hlk hlt hls
                            rw [← HN6.out] at bWT
                            rw [← HM6.out] at bFR
                            obtain ⟨PR, hPR⟩ : ∃ PR, f.pT p ++ (f.iT p i ++ (f.jT p i j ++ (f.qT p i j k ++ (f.tT p i j k t ++ f.uT p i j k t s)))) = PR := ⟨_, rfl⟩
                            rw [hPR] at hO
                            have HNX : Hid (f.pT p ++ (f.iT p i ++ (f.jT p i j ++ (f.qT p i j k ++ (f.tT p i j k t ++ f.uT p i j k t (s + 1))))) = PR ++ [(PL, WT, FR)]) := Lib.hid (by rw [← hPR, uT_succ, CF.tri, HPL.out, HWT.out, HFR.out]; simp only [List.append_assoc])
                            clear hPR
                            have bP2 : PL < NZ := by have := HQ2.out; have := HNZ.out; omega
                            obtain ⟨y, hy⟩ : ∃ y, ws[WT]? = some y := ⟨_, List.getElem?_eq_getElem (by rw [HLW.out]; omega)⟩
                            obtain ⟨z, hz⟩ : ∃ z, xs[FR]? = some z := ⟨_, List.getElem?_eq_getElem (by rw [HLX.out]; omega)⟩
                            obtain ⟨o, ho⟩ : ∃ o, (goFold ws xs NZ PR)[PL]? = some o := ⟨_, List.getElem?_eq_getElem (by rw [goFold_len]; omega)⟩
                            have cy := (sw).rd.all hy
                            have cz := (sx).rd.all hz
                            have iy : I6 y := I6s.at hy
                            have iz : I6 z := I6s.at hz
                            have io : I6 o := ⟨goFold_bd o (List.mem_of_getElem? ho)⟩
                            have hcg0 := hO.cell ho
                            have hfg0 := hO.frozen PL
                            have og : Old v.heap.size wr := ⟨hO.lt⟩
                            have HST := Lib.hid (goFold_at hy hz ho)
                            have HO := Lib.hid ho
                            clear hy hz ho
                            go_wp2_with fail
                            refine wp_region_up v (by kernel_rfl) (fun vx _ => ?_)
                            refine wpAnyH_on (i := 0) (d := 136) (v := ?_) rfl rfl (by kernel_rfl) (by kernel_rfl) (by kernel_rfl) (fun _ _ _ h => h) (by kernel_rfl) (prev_bel _ _) ?_ ?_
                            rotate_left
                            · intro uu (pu : Prev uu _)
                              go_simp
                              try (with_reducible rfl)
                            try simp only [List.set]
                            refine wpAnyH_on (i := 1) (d := 137) (v := ?_) rfl rfl (by kernel_rfl) (by kernel_rfl) (by kernel_rfl) (fun _ _ _ h => h) (by kernel_rfl) (prev_bel _ _) ?_ ?_
                            rotate_left
                            · intro uu (pu : Prev uu _)
                              go_simp
                              try (with_reducible rfl)
                            try simp only [List.set]
                            refine wpAnyH_on (i := 2) (d := 138) (v := ?_) rfl rfl (by kernel_rfl) (by kernel_rfl) (by kernel_rfl) (fun _ _ _ h => h) (by kernel_rfl) (prev_bel _ _) ?_ ?_
                            rotate_left
                            · intro uu (pu : Prev uu _)
                              go_simp
                              try (with_reducible rfl)
                            try simp only [List.set]
                            refine wpAnyH_on (i := 3) (d := 139) (v := ?_) rfl rfl (by kernel_rfl) (by kernel_rfl) (by kernel_rfl) (fun _ _ _ h => h) (by kernel_rfl) (prev_bel _ _) ?_ ?_
                            rotate_left
                            · intro uu (pu : Prev uu _)
                              go_simp
                              try (with_reducible rfl)
                            try simp only [List.set]
                            refine wpAnyH_on (i := 4) (d := 140) (v := ?_) rfl rfl (by kernel_rfl) (by kernel_rfl) (by kernel_rfl) (fun _ _ _ h => h) (by kernel_rfl) (prev_bel _ _) ?_ ?_
                            rotate_left
                            · intro uu (pu : Prev uu _)
                              go_simp
                              try (with_reducible rfl)
                            try simp only [List.set]
                            refine wpAnyH_on (i := 6) (d := 142) (v := ?_) rfl rfl (by kernel_rfl) (by kernel_rfl) (by kernel_rfl) (fun _ _ _ h => h) (by kernel_rfl) (prev_bel _ _) ?_ ?_
                            rotate_left
                            · intro uu (pu : Prev uu _)
                              go_simp
                              try (with_reducible rfl)
                            try simp only [List.set]
                            refine wpAnyH_on (i := 7) (d := 143) (v := ?_) rfl rfl (by kernel_rfl) (by kernel_rfl) (by kernel_rfl) (fun _ _ _ h => h) (by kernel_rfl) (prev_bel _ _) ?_ ?_
                            rotate_left
                            · intro uu (pu : Prev uu _)
                              go_simp
                              try (with_reducible rfl)
                            try simp only [List.set]
                            refine wpAnyH_on (i := 8) (d := 144) (v := ?_) rfl rfl (by kernel_rfl) (by kernel_rfl) (by kernel_rfl) (fun _ _ _ h => h) (by kernel_rfl) (prev_bel _ _) ?_ ?_
                            rotate_left
                            · intro uu (pu : Prev uu _)
                              go_simp
                              try (with_reducible rfl)
                            try simp only [List.set]
                            refine wpAnyH_on (i := 9) (d := 145) (v := ?_) rfl rfl (by kernel_rfl) (by kernel_rfl) (by kernel_rfl) (fun _ _ _ h => h) (by kernel_rfl) (prev_bel _ _) ?_ ?_
                            rotate_left
                            · intro uu (pu : Prev uu _)
                              go_simp
                              try (with_reducible rfl)
                            try simp only [List.set]
                            refine wpAnyH_on (i := 10) (d := 146) (v := ?_) rfl rfl (by kernel_rfl) (by kernel_rfl) (by kernel_rfl) (fun _ _ _ h => h) (by kernel_rfl) (prev_bel _ _) ?_ ?_
                            rotate_left
                            · intro uu (pu : Prev uu _)
                              go_simp
                              try (with_reducible rfl)
                            try simp only [List.set]
                            refine wpAnyH_on (i := 11) (d := 147) (v := ?_) rfl rfl (by kernel_rfl) (by kernel_rfl) (by kernel_rfl) (fun _ _ _ h => h) (by kernel_rfl) (prev_bel _ _) ?_ ?_
                            rotate_left
                            · intro uu (pu : Prev uu _)
                              go_simp
                              try (with_reducible rfl)
                            try simp only [List.set]
                            refine wpAnyH_on (i := 12) (d := 148) (v := ?_) rfl rfl (by kernel_rfl) (by kernel_rfl) (by kernel_rfl) (fun _ _ _ h => h) (by kernel_rfl) (prev_bel _ _) ?_ ?_
                            rotate_left
                            · intro uu (pu : Prev uu _)
                              go_simp
                              try (with_reducible rfl)
                            try simp only [List.set]
                            refine wpAnyH_on (i := 13) (d := 149) (v := ?_) rfl rfl (by kernel_rfl) (by kernel_rfl) (by kernel_rfl) (fun _ _ _ h => h) (by kernel_rfl) (prev_bel _ _) ?_ ?_
                            rotate_left
                            · intro uu (pu : Prev uu _)
                              go_simp
                              try (with_reducible rfl)
                            try simp only [List.set]
                            refine wpAnyH_ready (rs := [5, 14]) (by kernel_rfl) (by simp) ?_
                            refine AllReadyH.cons rfl (fun K hK => ?_) (AllReadyH.cons rfl (fun K hK => ?_) AllReadyH.nil)
                            · go_simp
                              refine hK.out _ _ (prev_bel v _) (fun hHeld => ?_)
                              clear hHeld hK K
                              try dsimp only [Act.put, List.setIfInBounds_toArray, List.set_cons_zero, List.set_cons_succ]
                              refine wpAnyH_ready (rs := [14]) (by kernel_rfl) (by simp) ?_
                              refine AllReadyH.cons rfl (fun K hK => ?_) AllReadyH.nil
                              go_simp
                              (with_reducible refine (a1_mul).mono ?_)
                              rintro e vx ⟨rfl, _⟩
                              dsimp only
                              refine hK.out _ _ (prev_bel v _) (fun hHeld => ?_)
                              clear hHeld hK K
                              try dsimp only [Act.put, List.setIfInBounds_toArray, List.set_cons_zero, List.set_cons_succ]
                              refine wpAnyH_ready (rs := [15]) (by kernel_rfl) (by simp) ?_
                              refine AllReadyH.cons rfl (fun K hK => ?_) AllReadyH.nil
                              go_simp
                              (with_reducible refine (a1_add).mono ?_)
                              rintro e vx ⟨rfl, _⟩
                              dsimp only
                              refine hK.out _ _ (prev_bel v _) (fun hHeld => ?_)
                              clear hHeld hK K
                              try dsimp only [Act.put, List.setIfInBounds_toArray, List.set_cons_zero, List.set_cons_succ]
                              refine wpAnyH_on (i := 16) (d := 152) (v := ?_) rfl rfl (by kernel_rfl) (by kernel_rfl) (by kernel_rfl) (fun _ _ _ h => h) (by kernel_rfl) (prev_bel _ _) ?_ ?_
                              rotate_left
                              · intro uu (pu : Prev uu _)
                                go_simp
                                try (with_reducible rfl)
                              try simp only [List.set]
                              refine wpAnyH_ready (rs := [17]) (by kernel_rfl) (by simp) ?_
                              refine AllReadyH.cons rfl (fun K hK => ?_) AllReadyH.nil
                              have hcg := ((hO).at (w' := vx)).cell HO.out
                              have hfg := ((hO).at (w' := vx)).frozen PL
                              go_simp
                              refine hK.out _ _ ⟨(bel v vx).setCell (p := ⟨v.heap.size, PL, none⟩) (Nat.le_refl _) _⟩ (fun hHeld => ?_)
                              clear hHeld hK K hcg hfg
                              try dsimp only [Act.put, List.setIfInBounds_toArray, List.set_cons_zero, List.set_cons_succ]
                              refine wpAnyH_done (by kernel_rfl) ?_ _
                              go_wp2_with fail
                              go_roundw
                              case rel => exact ⟨s + 1, by omega, by go_num, by rw [HNX.out, ← HST.out]; exact (hO.at (w' := vx)).set_ PL _, ⟨(bel v vx).setCell (p := ⟨v.heap.size, PL, none⟩) (Nat.le_refl _) _⟩⟩
                              case measure => simp [intOf]; omega
                            · go_simp
                              (with_reducible refine (a1_mul).mono ?_)
                              rintro e vx ⟨rfl, _⟩
                              dsimp only
                              refine hK.out _ _ (prev_bel v _) (fun hHeld => ?_)
                              clear hHeld hK K
                              try dsimp only [Act.put, List.setIfInBounds_toArray, List.set_cons_zero, List.set_cons_succ]
                              refine wpAnyH_ready (rs := [5]) (by kernel_rfl) (by simp) ?_
                              refine AllReadyH.cons rfl (fun K hK => ?_) AllReadyH.nil
                              go_simp
                              refine hK.out _ _ (prev_bel v _) (fun hHeld => ?_)
                              clear hHeld hK K
                              try dsimp only [Act.put, List.setIfInBounds_toArray, List.set_cons_zero, List.set_cons_succ]
                              refine wpAnyH_ready (rs := [15]) (by kernel_rfl) (by simp) ?_
                              refine AllReadyH.cons rfl (fun K hK => ?_) AllReadyH.nil
                              go_simp
                              (with_reducible refine (a1_add).mono ?_)
                              rintro e vx ⟨rfl, _⟩
                              dsimp only
                              refine hK.out _ _ (prev_bel v _) (fun hHeld => ?_)
                              clear hHeld hK K
                              try dsimp only [Act.put, List.setIfInBounds_toArray, List.set_cons_zero, List.set_cons_succ]
                              refine wpAnyH_on (i := 16) (d := 152) (v := ?_) rfl rfl (by kernel_rfl) (by kernel_rfl) (by kernel_rfl) (fun _ _ _ h => h) (by kernel_rfl) (prev_bel _ _) ?_ ?_
                              rotate_left
                              · intro uu (pu : Prev uu _)
                                go_simp
                                try (with_reducible rfl)
                              try simp only [List.set]
                              refine wpAnyH_ready (rs := [17]) (by kernel_rfl) (by simp) ?_
                              refine AllReadyH.cons rfl (fun K hK => ?_) AllReadyH.nil
                              have hcg := ((hO).at (w' := vx)).cell HO.out
                              have hfg := ((hO).at (w' := vx)).frozen PL
                              go_simp
                              refine hK.out _ _ ⟨(bel v vx).setCell (p := ⟨v.heap.size, PL, none⟩) (Nat.le_refl _) _⟩ (fun hHeld => ?_)
                              clear hHeld hK K hcg hfg
                              try dsimp only [Act.put, List.setIfInBounds_toArray, List.set_cons_zero, List.set_cons_succ]
                              refine wpAnyH_done (by kernel_rfl) ?_ _
                              go_wp2_with fail
                              go_roundw
                              case rel => exact ⟨s + 1, by omega, by go_num, by rw [HNX.out, ← HST.out]; exact (hO.at (w' := vx)).set_ PL _, ⟨(bel v vx).setCell (p := ⟨v.heap.size, PL, none⟩) (Nat.le_refl _) _⟩⟩
                              case measure => simp [intOf]; omega
                          · obtain rfl : s = f.L := by omega
                            go_wp2_with fail
                            go_roundw
                            case rel => exact ⟨t + 1, by omega, by go_num, by rw [tT_succ]; exact hO, prev_bel _ _⟩
                            case measure => simp [intOf]; omega
                      · obtain rfl : t = f.K := by omega
                        go_wp2_with fail
                        go_roundw
                        case rel => exact ⟨k + 1, by omega, by go_num, by rw [qT_succ]; exact hO, prev_bel _ _⟩
                        case measure => simp [intOf]; omega
                  · obtain rfl : k = f.C := by omega
                    go_wp2_with fail
                    go_roundw
                    case rel => exact ⟨j + 1, by omega, by go_num, by rw [jT_succ]; exact hO, prev_bel _ _⟩
                    case measure => simp [intOf]; omega
              · obtain rfl : j = f.N := by omega
                go_wp2_with fail
                go_roundw
                case rel => exact ⟨i + 1, by omega, by go_num, by rw [iT_succ]; exact hO, prev_bel _ _⟩
                case measure => simp [intOf]; omega
          · obtain rfl : i = f.M := by omega
            go_wp2_with fail
            go_roundw
            case rel => exact ⟨p + 1, by omega, by go_num, by rw [pT_succ]; exact hO, prev_bel _ _⟩
            case measure => simp [intOf]; omega
      · obtain rfl : p = f.O := by omega
        go_wp2_with fail
        go_ret
        exact ⟨_, _, by rw [goFold_len, HNZ.out]; rfl, ⟨by rw [HNZ.out]; exact hO.rd, rfl⟩, prev_bel _ _⟩
end

end Go.Proofs.Yteibgdcieaiaiaa
