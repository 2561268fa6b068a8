/- The walk of the reference of what goes back to a row. -/
import Derived.Test.YteibgdcieaiaiaaRef08
namespace Go.Proofs.Yteibgdcieaiaiaa
open Go.RowKit

/-- The cells within a step of a row, where the first q cells of the window have been gone through. -/
def bkP (kind : Int) (row g : List Int) (S W j T q p : Nat) : Int := if (hitW kind W row T p && decide (p < T + q)) = true then fadd (bkR kind row g S W j p) (giveW kind W (g.getD j 0)) else bkR kind row g S W j p
section
variable {kind : Int} {row g : List Int} {S W j T q Z : Nat}
theorem bkP_zero (hW : 1 ≤ W) (h : T + W ≤ row.length) : tab Z (bkP kind row g S W j T 0) = tab Z (bkR kind row g S W j) := tab_congr fun p _ => by
  unfold bkP
  rw [if_neg]
  intro h1
  simp only [Bool.and_eq_true, decide_eq_true_eq] at h1
  have := hitW_in hW h h1.1
  omega
theorem bkP_at : bkP kind row g S W j T q (T + q) = bkR kind row g S W j (T + q) := by
  unfold bkP
  rw [if_neg]
  simp
theorem bkP_hit (h : hitW kind W row T (T + q) = true) : (tab Z (bkP kind row g S W j T q)).set (T + q) (fadd (bkR kind row g S W j (T + q)) (giveW kind W (g.getD j 0))) = tab Z (bkP kind row g S W j T (q + 1)) := by
  rw [tab_set]
  refine tab_congr fun p _ => ?_
  unfold bkP
  by_cases hp : p = T + q
  · subst hp; rw [if_pos rfl, h, if_pos (by simp)]
  · rw [if_neg hp]
    have e : decide (p < T + q) = decide (p < T + (q + 1)) := by congr 1; apply propext; omega
    rw [e]
theorem bkP_miss (h : hitW kind W row T (T + q) = false) : tab Z (bkP kind row g S W j T q) = tab Z (bkP kind row g S W j T (q + 1)) := by
  refine tab_congr fun p _ => ?_
  unfold bkP
  by_cases hp : p = T + q
  · subst hp; rw [h]; simp
  · have e : decide (p < T + q) = decide (p < T + (q + 1)) := by congr 1; apply propext; omega
    rw [e]
theorem bkP_end (hT : j * S = T) (hW : 1 ≤ W) (h : T + W ≤ row.length) : tab Z (bkP kind row g S W j T W) = tab Z (bkR kind row g S W (j + 1)) := tab_congr fun p _ => by
  rw [bkP, bkR, hT]
  rcases hh : hitW kind W row T p with _ | _
  · simp
  · have := hitW_in hW h hh
    simp [this.2]
theorem bkR_bd : ∀ (j p : Nat), I64 (bkR kind row g S W j p)
  | 0, _ => by unfold bkR I64; omega
  | i + 1, q => by
    unfold bkR
    split
    · exact fadd_bd _ _
    · exact bkR_bd i q
end
instance I6.bkR {kind : Int} {row g : List Int} {S W j p : Nat} : I6 (bkR kind row g S W j p) := ⟨bkR_bd j p⟩
section
variable {w : World} {A B : Option Addr} {n m c d : Nat} {zs xs : List Int}
set_option maxRecDepth 100000 in
set_option maxHeartbeats 8000000 in
theorem r8_back {kind : Int} {row gs : List Int} {W S N Z : Nat} [a : Sl w A Z row] [b : Sl w B N gs] [i6' : I6s gs] (hk : kind = 1 ∨ kind = 2) (hZ1 : 1 ≤ Z) (hZ : Z ≤ 1024) (hW : 1 ≤ W) (hW2 : W ≤ 1024) (hS : 1 ≤ S) (hS2 : S ≤ 1024) (hN1 : 1 ≤ N) (hN : N ≤ 1024) (HF : Hid (∀ j, j < N → j * S + W ≤ Z)) (HM : Hid (Z < N * S + W)) :
    Calls Try.prog 43 #[.int .i64 kind, .slice A Z c, .slice B N d, .int .i64 W, .int .i64 S] w (RetS w (tab Z (bkR kind row gs S W N))) := by
  have CP := @cell_prev
  have FP := @frozen_prev
  have hmk := fun W => run_make_row' (P := Try.prog) 42 2 (.int .i64 0) 8 Try.underlying42 (by kernel_rfl) rfl .i64 .i64 Z (by omega) (by omega) W
  rw [ints_made] at hmk
  have hRL : Hid (row.length = Z) := Lib.hid a.len.symm
  obtain ⟨b0, off0, y0, rfl, og0, -, -⟩ := b.get (k := 0) (by omega)
  obtain ⟨b1, off1, x0, rfl, oa0, -, -⟩ := a.get (k := 0) (by omega)
  go_enter Try.func43, Try.ntmps43
  go_wp2_with fail
  clear hmk
  have hO0 : Own (w.alloc (.cells (ints (List.replicate Z 0)) 2)) w.heap.size 2 (List.replicate Z 0) := Own.new _ _ _
  go_loopw [12, 13] (fun i t wr => ∃ j T : Nat, j ≤ N ∧ i = .int .i64 j ∧ t = .int .i64 T ∧ Hid (j * S = T) ∧ T ≤ 2048 ∧ Own wr w.heap.size 2 (tab Z (bkR kind row gs S W j)) ∧ Prev wr w) (fun _ t _ => 4000 - (intOf t).toNat)
  case atStart => exact ⟨0, 0, Nat.zero_le _, rfl, rfl, Lib.hid (by simp), by omega, by rw [show tab Z (bkR kind row gs S W 0) = List.replicate Z 0 from (tab_congr fun q _ => by simp [bkR]).trans tab_zero]; exact hO0, prev_bel _ _⟩
  case round =>
    obtain ⟨j, T, hj, rfl, rfl, HT, hT, hO, hp⟩ := hrel
    clear hO0
    by_cases hlt : j < N
    · have hfit : T + W ≤ Z := by have := HF.out j hlt; rw [HT.out] at this; exact this
      obtain ⟨Lw, HLw⟩ : ∃ Lw, Hid ((row.drop T).take W = Lw) := ⟨_, Lib.hid rfl⟩
      have sW : Sl w (some ⟨b1, off1 + T, none⟩) W Lw := by rw [← HLw.out]; exact a.part hfit
      have HWl : Hid (Lw.length = W) := Lib.hid sW.len.symm
      have HFR : Hid (T + W ≤ row.length) := Lib.hid (by rw [hRL.out]; exact hfit)
      have hd : decide ((T : Int) + (W : Int) ≤ (Z : Int)) = true := by simp; omega
      obtain ⟨wo, rfl⟩ : ∃ wo : World, wo = wr := ⟨_, rfl⟩
      go_wp2_with fail
      go_loopw [14, 15] (fun m k wq => ∃ q bb K M : Nat, q ≤ W ∧ k = .int .i64 K ∧ m = .int .i64 M ∧ bb < W ∧ Hid (T + q = K) ∧ Hid (T + bb = M) ∧ Hid ((q = 0 ∧ bb = 0) ∨ (0 < q ∧ bestTo Lw q = (bb : Int))) ∧ Prev wq wo) (fun _ k _ => 4000 - (intOf k).toNat)
      case atStart => exact ⟨0, 0, T, T, Nat.zero_le _, rfl, rfl, by omega, Lib.hid rfl, Lib.hid rfl, Lib.hid (.inl ⟨rfl, rfl⟩), prev_bel _ _⟩
      case round =>
        obtain ⟨q, bb, K, M, hq, rfl, rfl, hbW, HK, HMM, HB, hpq⟩ := hrel
        have hKb : K ≤ 3072 := by have := HK.out; omega
        have hMZ : M < Z := by have := HMM.out; omega
        by_cases hltq : q < W
        · obtain ⟨b2, off2, x, e2, ob2, cx, hx⟩ := sW.get hltq
          injection e2 with e2
          injection e2 with e2 e2'
          subst e2 e2'
          obtain ⟨b3, off3, y, e3, ob3, cy, hy⟩ := sW.get hbW
          injection e3 with e3
          injection e3 with e3 e3'
          subst e3 e3'
          rw [Nat.add_assoc, HK.out] at cx
          rw [Nat.add_assoc, HMM.out] at cy
          have hKZ : K < Z := by have := HK.out; omega
          have hKW : K < T + W := by have := HK.out; omega
          have HST : Hid (bestTo Lw (q + 1) = if y < x then (q : Int) else (bb : Int)) := Lib.hid (by
            rcases HB.out with ⟨rfl, rfl⟩ | ⟨h0, he⟩
            · have : y = x := by have := hx.out.symm.trans hy.out; injection this with this; exact this.symm
              subst this
              rw [if_neg (by omega)]
              simp [bestTo]
            · have g1 : Lw.getD bb 0 = y := by rw [List.getD_eq_getElem?_getD, hy.out]; rfl
              have g2 : Lw.getD q 0 = x := by rw [List.getD_eq_getElem?_getD, hx.out]; rfl
              rw [bestTo, he, Int.toNat_natCast, g1, g2]
              by_cases h : y < x
              · rw [if_pos (.inr h), if_pos h]
              · rw [if_neg (by omega), if_neg h])
          by_cases hyx : y < x
          · have HS2 : Hid (bestTo Lw (q + 1) = (q : Int)) := Lib.hid (by rw [HST.out, if_pos hyx])
            have hyx' : decide (y < x) = true := by simpa using hyx
            go_wp2_with fail
            refine wp_region_up0 (by kernel_rfl) (fun vx _ => ?_)
            refine wpAnyH_on (i := 0) (d := 38) (v := ?_) rfl rfl (by kernel_rfl) (by kernel_rfl) (by kernel_rfl) (fun _ _ _ h => h) (by kernel_rfl) (prev_bel _ _) ?_ ?_
            rotate_left
            · intro uu (pu : Prev uu _)
              go_simp
              try (with_reducible rfl)
            try simp only [List.set]
            refine wpAnyH_on (i := 1) (d := 39) (v := ?_) rfl rfl (by kernel_rfl) (by kernel_rfl) (by kernel_rfl) (fun _ _ _ h => h) (by kernel_rfl) (prev_bel _ _) ?_ ?_
            rotate_left
            · intro uu (pu : Prev uu _)
              go_simp
              try (with_reducible rfl)
            try simp only [List.set]
            refine wpAnyH_on (i := 2) (d := 40) (v := ?_) rfl rfl (by kernel_rfl) (by kernel_rfl) (by kernel_rfl) (fun _ _ _ h => h) (by kernel_rfl) (prev_bel _ _) ?_ ?_
            rotate_left
            · intro uu (pu : Prev uu _)
              go_simp
              try (with_reducible rfl)
            try simp only [List.set]
            refine wpAnyH_on (i := 3) (d := 41) (v := ?_) rfl rfl (by kernel_rfl) (by kernel_rfl) (by kernel_rfl) (fun _ _ _ h => h) (by kernel_rfl) (prev_bel _ _) ?_ ?_
            rotate_left
            · intro uu (pu : Prev uu _)
              go_simp
              try (with_reducible rfl)
            try simp only [List.set]
            refine wpAnyH_on (i := 4) (d := 42) (v := ?_) rfl rfl (by kernel_rfl) (by kernel_rfl) (by kernel_rfl) (fun _ _ _ h => h) (by kernel_rfl) (prev_bel _ _) ?_ ?_
            rotate_left
            · intro uu (pu : Prev uu _)
              go_simp
              try (with_reducible rfl)
            try simp only [List.set]
            refine wpAnyH_on (i := 5) (d := 43) (v := ?_) rfl rfl (by kernel_rfl) (by kernel_rfl) (by kernel_rfl) (fun _ _ _ h => h) (by kernel_rfl) (prev_bel _ _) ?_ ?_
            rotate_left
            · intro uu (pu : Prev uu _)
              go_simp
              try (with_reducible rfl)
            try simp only [List.set]
            refine wpAnyH_on (i := 6) (d := 44) (v := ?_) rfl rfl (by kernel_rfl) (by kernel_rfl) (by kernel_rfl) (fun _ _ _ h => h) (by kernel_rfl) (prev_bel _ _) ?_ ?_
            rotate_left
            · intro uu (pu : Prev uu _)
              go_simp
              try (with_reducible rfl)
            try simp only [List.set]
            refine wpAnyH_on (i := 7) (d := 45) (v := ?_) rfl rfl (by kernel_rfl) (by kernel_rfl) (by kernel_rfl) (fun _ _ _ h => h) (by kernel_rfl) (prev_bel _ _) ?_ ?_
            rotate_left
            · intro uu (pu : Prev uu _)
              go_simp
              try (with_reducible rfl)
            try simp only [List.set]
            refine wpAnyH_on (i := 8) (d := 46) (v := ?_) rfl rfl (by kernel_rfl) (by kernel_rfl) (by kernel_rfl) (fun _ _ _ h => h) (by kernel_rfl) (prev_bel _ _) ?_ ?_
            rotate_left
            · intro uu (pu : Prev uu _)
              go_simp
              try (with_reducible rfl)
            try simp only [List.set]
            refine wpAnyH_done (by kernel_rfl) ?_ _
            go_wp2_with fail
            go_roundw
            case rel => exact ⟨q + 1, q, K + 1, K, by omega, by go_num, rfl, hltq, Lib.hid (by rw [← HK.out]; rfl), HK, Lib.hid (.inr ⟨by omega, HS2.out⟩), prev_bel _ _⟩
            case measure => simp [intOf]; omega
          · have HS2 : Hid (bestTo Lw (q + 1) = (bb : Int)) := Lib.hid (by rw [HST.out, if_neg hyx])
            have hyx' : decide (y < x) = false := by simpa using hyx
            go_wp2_with fail
            refine wp_region_up0 (by kernel_rfl) (fun vx _ => ?_)
            refine wpAnyH_on (i := 0) (d := 38) (v := ?_) rfl rfl (by kernel_rfl) (by kernel_rfl) (by kernel_rfl) (fun _ _ _ h => h) (by kernel_rfl) (prev_bel _ _) ?_ ?_
            rotate_left
            · intro uu (pu : Prev uu _)
              go_simp
              try (with_reducible rfl)
            try simp only [List.set]
            refine wpAnyH_on (i := 1) (d := 39) (v := ?_) rfl rfl (by kernel_rfl) (by kernel_rfl) (by kernel_rfl) (fun _ _ _ h => h) (by kernel_rfl) (prev_bel _ _) ?_ ?_
            rotate_left
            · intro uu (pu : Prev uu _)
              go_simp
              try (with_reducible rfl)
            try simp only [List.set]
            refine wpAnyH_on (i := 2) (d := 40) (v := ?_) rfl rfl (by kernel_rfl) (by kernel_rfl) (by kernel_rfl) (fun _ _ _ h => h) (by kernel_rfl) (prev_bel _ _) ?_ ?_
            rotate_left
            · intro uu (pu : Prev uu _)
              go_simp
              try (with_reducible rfl)
            try simp only [List.set]
            refine wpAnyH_on (i := 3) (d := 41) (v := ?_) rfl rfl (by kernel_rfl) (by kernel_rfl) (by kernel_rfl) (fun _ _ _ h => h) (by kernel_rfl) (prev_bel _ _) ?_ ?_
            rotate_left
            · intro uu (pu : Prev uu _)
              go_simp
              try (with_reducible rfl)
            try simp only [List.set]
            refine wpAnyH_on (i := 4) (d := 42) (v := ?_) rfl rfl (by kernel_rfl) (by kernel_rfl) (by kernel_rfl) (fun _ _ _ h => h) (by kernel_rfl) (prev_bel _ _) ?_ ?_
            rotate_left
            · intro uu (pu : Prev uu _)
              go_simp
              try (with_reducible rfl)
            try simp only [List.set]
            refine wpAnyH_on (i := 5) (d := 43) (v := ?_) rfl rfl (by kernel_rfl) (by kernel_rfl) (by kernel_rfl) (fun _ _ _ h => h) (by kernel_rfl) (prev_bel _ _) ?_ ?_
            rotate_left
            · intro uu (pu : Prev uu _)
              go_simp
              try (with_reducible rfl)
            try simp only [List.set]
            refine wpAnyH_on (i := 6) (d := 44) (v := ?_) rfl rfl (by kernel_rfl) (by kernel_rfl) (by kernel_rfl) (fun _ _ _ h => h) (by kernel_rfl) (prev_bel _ _) ?_ ?_
            rotate_left
            · intro uu (pu : Prev uu _)
              go_simp
              try (with_reducible rfl)
            try simp only [List.set]
            refine wpAnyH_on (i := 7) (d := 45) (v := ?_) rfl rfl (by kernel_rfl) (by kernel_rfl) (by kernel_rfl) (fun _ _ _ h => h) (by kernel_rfl) (prev_bel _ _) ?_ ?_
            rotate_left
            · intro uu (pu : Prev uu _)
              go_simp
              try (with_reducible rfl)
            try simp only [List.set]
            refine wpAnyH_on (i := 8) (d := 46) (v := ?_) rfl rfl (by kernel_rfl) (by kernel_rfl) (by kernel_rfl) (fun _ _ _ h => h) (by kernel_rfl) (prev_bel _ _) ?_ ?_
            rotate_left
            · intro uu (pu : Prev uu _)
              go_simp
              try (with_reducible rfl)
            try simp only [List.set]
            refine wpAnyH_done (by kernel_rfl) ?_ _
            go_wp2_with fail
            go_roundw
            case rel => exact ⟨q + 1, bb, K + 1, M, by omega, by go_num, rfl, hbW, Lib.hid (by rw [← HK.out]; rfl), HMM, Lib.hid (.inr ⟨by omega, HS2.out⟩), prev_bel _ _⟩
            case measure => simp [intOf]; omega
        · obtain rfl : W = q := by omega
          have hKW : T + W ≤ K := by have := HK.out; omega
          have HBB : Hid (bestI Lw = (bb : Int)) := Lib.hid (by
            rcases HB.out with ⟨h, -⟩ | ⟨-, h⟩
            · omega
            · rw [bestI, HWl.out]; exact h)
          have hO2 := hO.at (w' := wr)
          have hbj : gs[j]? = some (gs.getD j 0) := by rw [List.getElem?_eq_getElem (by rw [← b.len]; exact hlt), List.getD_eq_getElem?_getD, List.getElem?_eq_getElem (by rw [← b.len]; exact hlt)]; rfl
          obtain ⟨y, hy⟩ : ∃ y, gs.getD j 0 = y := ⟨_, rfl⟩
          rw [hy] at hbj
          have cy : w.cell? ⟨b0, off0 + j, none⟩ = some (.int .i64 y) := b.rd.all hbj
          have iy : I6 y := I6s.at hbj
          have HY := Lib.hid hy
          have HEND := Lib.hid (bkP_end (kind := kind) (g := gs) (Z := Z) HT.out hW HFR.out)
          have HHIT : Hid (∀ q, hitW kind W row T (T + q) = if kind = 1 then decide (q = bb) else decide (q < W)) := Lib.hid fun q => by
            unfold hitW
            rw [HLw.out, HBB.out, Int.toNat_natCast]
            split
            · congr 1; apply propext; omega
            · rw [show decide (T ≤ T + q) = true from by simp, Bool.true_and]
              congr 1; apply propext; omega
          clear hy hbj HB HK
          go_wp2_with fail
          go_loopw [16] (fun k wq => ∃ q K : Nat, q ≤ W ∧ k = .int .i64 K ∧ Hid (T + q = K) ∧ Own wq w.heap.size 2 (tab Z (bkP kind row gs S W j T q)) ∧ Prev wq w) (fun k _ => 4000 - (intOf k).toNat)
          case atStart => exact ⟨0, T, Nat.zero_le _, rfl, Lib.hid rfl, by rw [bkP_zero hW HFR.out]; exact hO2, prev_bel _ _⟩
          case round =>
            clear hO2 hO
            obtain ⟨q, K2, hq, rfl, HK, hO, hp3⟩ := hrel
            have hKb2 : K2 ≤ 3072 := by have := HK.out; omega
            by_cases hltq : q < W
            · have hKZ2 : K2 < Z := by have := HK.out; omega
              have hKW2 : K2 < T + W := by have := HK.out; omega
              have hat := tab_get (F := bkP kind row gs S W j T q) hKZ2
              have hval : bkP kind row gs S W j T q K2 = bkR kind row gs S W j K2 := by rw [← HK.out]; exact bkP_at
              rw [hval] at hat
              have hcg0 := hO.cell hat
              have hfg0 := hO.frozen K2
              have og : Old w.heap.size wr := ⟨hO.lt⟩
              have hHit := HHIT.out q
              clear hval
              rcases hk with rfl | rfl
              · rw [if_pos rfl] at hHit
                by_cases hqb : q = bb
                · have HST : Hid ((tab Z (bkP 1 row gs S W j T q)).set K2 (fadd (bkR 1 row gs S W j K2) y) = tab Z (bkP 1 row gs S W j T (q + 1))) := Lib.hid (by
                    have := bkP_hit (kind := 1) (Z := Z) (g := gs) (S := S) (j := j) (hHit.trans (by simpa using hqb))
                    rw [HK.out, giveW, if_pos rfl, HY.out] at this
                    exact this)
                  have hKM : K2 = M := by rw [← HK.out, ← HMM.out, hqb]
                  have hKM2 : ((K2 : Int) == (M : Int)) = true := by simp [hKM]
                  clear hHit hqb hKM
                  go_wp2_with fail
                  refine wp_region_up w (by kernel_rfl) (fun vx _ => ?_)
                  refine wpAnyH_on (i := 0) (d := 63) (v := ?_) rfl rfl (by kernel_rfl) (by kernel_rfl) (by kernel_rfl) (fun _ _ _ h => h) (by kernel_rfl) (prev_bel _ _) ?_ ?_
                  rotate_left
                  · intro uu (pu : Prev uu _)
                    go_simp
                    try (with_reducible rfl)
                  try simp only [List.set]
                  refine wpAnyH_on (i := 1) (d := 64) (v := ?_) rfl rfl (by kernel_rfl) (by kernel_rfl) (by kernel_rfl) (fun _ _ _ h => h) (by kernel_rfl) (prev_bel _ _) ?_ ?_
                  rotate_left
                  · intro uu (pu : Prev uu _)
                    go_simp
                    try (with_reducible rfl)
                  try simp only [List.set]
                  refine wpAnyH_on (i := 2) (d := 65) (v := ?_) rfl rfl (by kernel_rfl) (by kernel_rfl) (by kernel_rfl) (fun _ _ _ h => h) (by kernel_rfl) (prev_bel _ _) ?_ ?_
                  rotate_left
                  · intro uu (pu : Prev uu _)
                    go_simp
                    try (with_reducible rfl)
                  try simp only [List.set]
                  refine wpAnyH_on (i := 3) (d := 66) (v := ?_) rfl rfl (by kernel_rfl) (by kernel_rfl) (by kernel_rfl) (fun _ _ _ h => h) (by kernel_rfl) (prev_bel _ _) ?_ ?_
                  rotate_left
                  · intro uu (pu : Prev uu _)
                    go_simp
                    try (with_reducible rfl)
                  try simp only [List.set]
                  refine wpAnyH_on (i := 4) (d := 67) (v := ?_) rfl rfl (by kernel_rfl) (by kernel_rfl) (by kernel_rfl) (fun _ _ _ h => h) (by kernel_rfl) (prev_bel _ _) ?_ ?_
                  rotate_left
                  · intro uu (pu : Prev uu _)
                    go_simp
                    try (with_reducible rfl)
                  try simp only [List.set]
                  refine wpAnyH_on (i := 6) (d := 69) (v := ?_) rfl rfl (by kernel_rfl) (by kernel_rfl) (by kernel_rfl) (fun _ _ _ h => h) (by kernel_rfl) (prev_bel _ _) ?_ ?_
                  rotate_left
                  · intro uu (pu : Prev uu _)
                    go_simp
                    try (with_reducible rfl)
                  try simp only [List.set]
                  refine wpAnyH_on (i := 7) (d := 70) (v := ?_) rfl rfl (by kernel_rfl) (by kernel_rfl) (by kernel_rfl) (fun _ _ _ h => h) (by kernel_rfl) (prev_bel _ _) ?_ ?_
                  rotate_left
                  · intro uu (pu : Prev uu _)
                    go_simp
                    try (with_reducible rfl)
                  try simp only [List.set]
                  refine wpAnyH_on (i := 8) (d := 71) (v := ?_) rfl rfl (by kernel_rfl) (by kernel_rfl) (by kernel_rfl) (fun _ _ _ h => h) (by kernel_rfl) (prev_bel _ _) ?_ ?_
                  rotate_left
                  · intro uu (pu : Prev uu _)
                    go_simp
                    try (with_reducible rfl)
                  try simp only [List.set]
                  refine wpAnyH_on (i := 9) (d := 72) (v := ?_) rfl rfl (by kernel_rfl) (by kernel_rfl) (by kernel_rfl) (fun _ _ _ h => h) (by kernel_rfl) (prev_bel _ _) ?_ ?_
                  rotate_left
                  · intro uu (pu : Prev uu _)
                    go_simp
                    try (with_reducible rfl)
                  try simp only [List.set]
                  refine wpAnyH_ready (rs := [5]) (by kernel_rfl) (by simp) ?_
                  refine AllReadyH.cons rfl (fun K hK => ?_) AllReadyH.nil
                  go_simp
                  refine hK.out _ _ (prev_bel w _) (fun hHeld => ?_)
                  clear hHeld hK K
                  try dsimp only [Act.put, List.setIfInBounds_toArray, List.set_cons_zero, List.set_cons_succ]
                  refine wpAnyH_ready (rs := [10]) (by kernel_rfl) (by simp) ?_
                  refine AllReadyH.cons rfl (fun K hK => ?_) AllReadyH.nil
                  go_simp
                  (with_reducible refine (a1_add).mono ?_)
                  rintro e vx ⟨rfl, _⟩
                  dsimp only
                  refine hK.out _ _ (prev_bel w _) (fun hHeld => ?_)
                  clear hHeld hK K
                  try dsimp only [Act.put, List.setIfInBounds_toArray, List.set_cons_zero, List.set_cons_succ]
                  refine wpAnyH_on (i := 11) (d := 74) (v := ?_) rfl rfl (by kernel_rfl) (by kernel_rfl) (by kernel_rfl) (fun _ _ _ h => h) (by kernel_rfl) (prev_bel _ _) ?_ ?_
                  rotate_left
                  · intro uu (pu : Prev uu _)
                    go_simp
                    try (with_reducible rfl)
                  try simp only [List.set]
                  refine wpAnyH_ready (rs := [12]) (by kernel_rfl) (by simp) ?_
                  refine AllReadyH.cons rfl (fun K hK => ?_) AllReadyH.nil
                  have hcg := ((hO).at (w' := vx)).cell hat
                  have hfg := ((hO).at (w' := vx)).frozen K2
                  go_simp
                  refine hK.out _ _ ⟨(bel w vx).setCell (p := ⟨w.heap.size, K2, none⟩) (Nat.le_refl _) _⟩ (fun hHeld => ?_)
                  clear hHeld hK K hcg hfg
                  try dsimp only [Act.put, List.setIfInBounds_toArray, List.set_cons_zero, List.set_cons_succ]
                  refine wpAnyH_done (by kernel_rfl) ?_ _
                  go_wp2_with fail
                  go_roundw
                  case rel =>
                    have o2 := (hO.at (w' := vx)).set_ K2 (fadd (bkR 1 row gs S W j K2) y)
                    rw [HST.out] at o2
                    exact ⟨q + 1, K2 + 1, by omega, by go_num, Lib.hid (by rw [← HK.out]; rfl), o2, ⟨(bel w vx).setCell (p := ⟨w.heap.size, K2, none⟩) (Nat.le_refl _) _⟩⟩
                  case measure => simp [intOf]; omega
                · have HST : Hid (tab Z (bkP 1 row gs S W j T q) = tab Z (bkP 1 row gs S W j T (q + 1))) := Lib.hid (bkP_miss (hHit.trans (by simpa using hqb)))
                  have hKM : K2 ≠ M := by have h1 := HK.out; have h2 := HMM.out; omega
                  have hKM2 : ((K2 : Int) == (M : Int)) = false := by simp; omega
                  clear hHit hqb hKM
                  rw [HST.out] at hO
                  go_wp2_with fail
                  go_roundw
                  case rel => exact ⟨q + 1, K2 + 1, by omega, by go_num, Lib.hid (by rw [← HK.out]; rfl), hO, prev_bel _ _⟩
                  case measure => simp [intOf]; omega
              · rw [if_neg (by decide)] at hHit
                have HST : Hid ((tab Z (bkP 2 row gs S W j T q)).set K2 (fadd (bkR 2 row gs S W j K2) (fdiv y (fint W))) = tab Z (bkP 2 row gs S W j T (q + 1))) := Lib.hid (by
                  have := bkP_hit (kind := 2) (Z := Z) (g := gs) (S := S) (j := j) (hHit.trans (by simpa using hltq))
                  rw [HK.out, giveW, if_neg (by decide), HY.out] at this
                  exact this)
                clear hHit
                go_wp2_with fail
                refine wp_region_up w (by kernel_rfl) (fun vx _ => ?_)
                refine wpAnyH_on (i := 0) (d := 77) (v := ?_) rfl rfl (by kernel_rfl) (by kernel_rfl) (by kernel_rfl) (fun _ _ _ h => h) (by kernel_rfl) (prev_bel _ _) ?_ ?_
                rotate_left
                · intro uu (pu : Prev uu _)
                  go_simp
                  try (with_reducible rfl)
                try simp only [List.set]
                refine wpAnyH_on (i := 1) (d := 78) (v := ?_) rfl rfl (by kernel_rfl) (by kernel_rfl) (by kernel_rfl) (fun _ _ _ h => h) (by kernel_rfl) (prev_bel _ _) ?_ ?_
                rotate_left
                · intro uu (pu : Prev uu _)
                  go_simp
                  try (with_reducible rfl)
                try simp only [List.set]
                refine wpAnyH_on (i := 2) (d := 79) (v := ?_) rfl rfl (by kernel_rfl) (by kernel_rfl) (by kernel_rfl) (fun _ _ _ h => h) (by kernel_rfl) (prev_bel _ _) ?_ ?_
                rotate_left
                · intro uu (pu : Prev uu _)
                  go_simp
                  try (with_reducible rfl)
                try simp only [List.set]
                refine wpAnyH_on (i := 3) (d := 80) (v := ?_) rfl rfl (by kernel_rfl) (by kernel_rfl) (by kernel_rfl) (fun _ _ _ h => h) (by kernel_rfl) (prev_bel _ _) ?_ ?_
                rotate_left
                · intro uu (pu : Prev uu _)
                  go_simp
                  try (with_reducible rfl)
                try simp only [List.set]
                refine wpAnyH_on (i := 4) (d := 81) (v := ?_) rfl rfl (by kernel_rfl) (by kernel_rfl) (by kernel_rfl) (fun _ _ _ h => h) (by kernel_rfl) (prev_bel _ _) ?_ ?_
                rotate_left
                · intro uu (pu : Prev uu _)
                  go_simp
                  try (with_reducible rfl)
                try simp only [List.set]
                refine wpAnyH_on (i := 6) (d := 83) (v := ?_) rfl rfl (by kernel_rfl) (by kernel_rfl) (by kernel_rfl) (fun _ _ _ h => h) (by kernel_rfl) (prev_bel _ _) ?_ ?_
                rotate_left
                · intro uu (pu : Prev uu _)
                  go_simp
                  try (with_reducible rfl)
                try simp only [List.set]
                refine wpAnyH_on (i := 7) (d := 84) (v := ?_) rfl rfl (by kernel_rfl) (by kernel_rfl) (by kernel_rfl) (fun _ _ _ h => h) (by kernel_rfl) (prev_bel _ _) ?_ ?_
                rotate_left
                · intro uu (pu : Prev uu _)
                  go_simp
                  try (with_reducible rfl)
                try simp only [List.set]
                refine wpAnyH_on (i := 8) (d := 85) (v := ?_) rfl rfl (by kernel_rfl) (by kernel_rfl) (by kernel_rfl) (fun _ _ _ h => h) (by kernel_rfl) (prev_bel _ _) ?_ ?_
                rotate_left
                · intro uu (pu : Prev uu _)
                  go_simp
                  try (with_reducible rfl)
                try simp only [List.set]
                refine wpAnyH_on (i := 9) (d := 86) (v := ?_) rfl rfl (by kernel_rfl) (by kernel_rfl) (by kernel_rfl) (fun _ _ _ h => h) (by kernel_rfl) (prev_bel _ _) ?_ ?_
                rotate_left
                · intro uu (pu : Prev uu _)
                  go_simp
                  try (with_reducible rfl)
                try simp only [List.set]
                refine wpAnyH_on (i := 10) (d := 87) (v := ?_) rfl rfl (by kernel_rfl) (by kernel_rfl) (by kernel_rfl) (fun _ _ _ h => h) (by kernel_rfl) (prev_bel _ _) ?_ ?_
                rotate_left
                · intro uu (pu : Prev uu _)
                  go_simp
                  try (with_reducible rfl)
                try simp only [List.set]
                refine wpAnyH_ready (rs := [5, 11]) (by kernel_rfl) (by simp) ?_
                refine AllReadyH.cons rfl (fun K hK => ?_) (AllReadyH.cons rfl (fun K hK => ?_) AllReadyH.nil)
                · go_simp
                  refine hK.out _ _ (prev_bel w _) (fun hHeld => ?_)
                  clear hHeld hK K
                  try dsimp only [Act.put, List.setIfInBounds_toArray, List.set_cons_zero, List.set_cons_succ]
                  refine wpAnyH_ready (rs := [11]) (by kernel_rfl) (by simp) ?_
                  refine AllReadyH.cons rfl (fun K hK => ?_) AllReadyH.nil
                  go_simp
                  (with_reducible refine (r8_div (by omega)).mono ?_)
                  rintro e vx ⟨rfl, _⟩
                  dsimp only
                  refine hK.out _ _ (prev_bel w _) (fun hHeld => ?_)
                  clear hHeld hK K
                  try dsimp only [Act.put, List.setIfInBounds_toArray, List.set_cons_zero, List.set_cons_succ]
                  refine wpAnyH_ready (rs := [12]) (by kernel_rfl) (by simp) ?_
                  refine AllReadyH.cons rfl (fun K hK => ?_) AllReadyH.nil
                  go_simp
                  (with_reducible refine (a1_add).mono ?_)
                  rintro e vx ⟨rfl, _⟩
                  dsimp only
                  refine hK.out _ _ (prev_bel w _) (fun hHeld => ?_)
                  clear hHeld hK K
                  try dsimp only [Act.put, List.setIfInBounds_toArray, List.set_cons_zero, List.set_cons_succ]
                  refine wpAnyH_on (i := 13) (d := 90) (v := ?_) rfl rfl (by kernel_rfl) (by kernel_rfl) (by kernel_rfl) (fun _ _ _ h => h) (by kernel_rfl) (prev_bel _ _) ?_ ?_
                  rotate_left
                  · intro uu (pu : Prev uu _)
                    go_simp
                    try (with_reducible rfl)
                  try simp only [List.set]
                  refine wpAnyH_ready (rs := [14]) (by kernel_rfl) (by simp) ?_
                  refine AllReadyH.cons rfl (fun K hK => ?_) AllReadyH.nil
                  have hcg := ((hO).at (w' := vx)).cell hat
                  have hfg := ((hO).at (w' := vx)).frozen K2
                  go_simp
                  refine hK.out _ _ ⟨(bel w vx).setCell (p := ⟨w.heap.size, K2, none⟩) (Nat.le_refl _) _⟩ (fun hHeld => ?_)
                  clear hHeld hK K hcg hfg
                  try dsimp only [Act.put, List.setIfInBounds_toArray, List.set_cons_zero, List.set_cons_succ]
                  refine wpAnyH_done (by kernel_rfl) ?_ _
                  go_wp2_with fail
                  go_roundw
                  case rel => exact ⟨q + 1, K2 + 1, by omega, by go_num, Lib.hid (by rw [← HK.out]; rfl), (by have o2 := (hO.at (w' := vx)).set_ K2 (fadd (bkR 2 row gs S W j K2) (fdiv y (fint W))); rw [HST.out] at o2; exact o2), ⟨(bel w vx).setCell (p := ⟨w.heap.size, K2, none⟩) (Nat.le_refl _) _⟩⟩
                  case measure => simp [intOf]; omega
                · go_simp
                  (with_reducible refine (r8_div (by omega)).mono ?_)
                  rintro e vx ⟨rfl, _⟩
                  dsimp only
                  refine hK.out _ _ (prev_bel w _) (fun hHeld => ?_)
                  clear hHeld hK K
                  try dsimp only [Act.put, List.setIfInBounds_toArray, List.set_cons_zero, List.set_cons_succ]
                  refine wpAnyH_ready (rs := [5]) (by kernel_rfl) (by simp) ?_
                  refine AllReadyH.cons rfl (fun K hK => ?_) AllReadyH.nil
                  go_simp
                  refine hK.out _ _ (prev_bel w _) (fun hHeld => ?_)
                  clear hHeld hK K
                  try dsimp only [Act.put, List.setIfInBounds_toArray, List.set_cons_zero, List.set_cons_succ]
                  refine wpAnyH_ready (rs := [12]) (by kernel_rfl) (by simp) ?_
                  refine AllReadyH.cons rfl (fun K hK => ?_) AllReadyH.nil
                  go_simp
                  (with_reducible refine (a1_add).mono ?_)
                  rintro e vx ⟨rfl, _⟩
                  dsimp only
                  refine hK.out _ _ (prev_bel w _) (fun hHeld => ?_)
                  clear hHeld hK K
                  try dsimp only [Act.put, List.setIfInBounds_toArray, List.set_cons_zero, List.set_cons_succ]
                  refine wpAnyH_on (i := 13) (d := 90) (v := ?_) rfl rfl (by kernel_rfl) (by kernel_rfl) (by kernel_rfl) (fun _ _ _ h => h) (by kernel_rfl) (prev_bel _ _) ?_ ?_
                  rotate_left
                  · intro uu (pu : Prev uu _)
                    go_simp
                    try (with_reducible rfl)
                  try simp only [List.set]
                  refine wpAnyH_ready (rs := [14]) (by kernel_rfl) (by simp) ?_
                  refine AllReadyH.cons rfl (fun K hK => ?_) AllReadyH.nil
                  have hcg := ((hO).at (w' := vx)).cell hat
                  have hfg := ((hO).at (w' := vx)).frozen K2
                  go_simp
                  refine hK.out _ _ ⟨(bel w vx).setCell (p := ⟨w.heap.size, K2, none⟩) (Nat.le_refl _) _⟩ (fun hHeld => ?_)
                  clear hHeld hK K hcg hfg
                  try dsimp only [Act.put, List.setIfInBounds_toArray, List.set_cons_zero, List.set_cons_succ]
                  refine wpAnyH_done (by kernel_rfl) ?_ _
                  go_wp2_with fail
                  go_roundw
                  case rel => exact ⟨q + 1, K2 + 1, by omega, by go_num, Lib.hid (by rw [← HK.out]; rfl), (by have o2 := (hO.at (w' := vx)).set_ K2 (fadd (bkR 2 row gs S W j K2) (fdiv y (fint W))); rw [HST.out] at o2; exact o2), ⟨(bel w vx).setCell (p := ⟨w.heap.size, K2, none⟩) (Nat.le_refl _) _⟩⟩
                  case measure => simp [intOf]; omega
            · obtain rfl : W = q := by omega
              have hKW2 : T + W ≤ K2 := by have := HK.out; omega
              rw [HEND.out] at hO
              go_wp2_with fail
              go_roundw
              case rel => exact ⟨j + 1, T + S, by omega, by go_num, by go_num, Lib.hid (by rw [Nat.succ_mul, HT.out]), by omega, hO, prev_bel _ _⟩
              case measure => simp [intOf]; omega
    · obtain rfl : N = j := by omega
      have hfit : Z < T + W := by have := HM.out; rw [HT.out] at this; exact this
      go_wp2_with fail
      go_ret
      exact ⟨_, _, by rw [tab_length]; rfl, ⟨hO.rd, rfl⟩, prev_bel _ _⟩
end

end Go.Proofs.Yteibgdcieaiaiaa
