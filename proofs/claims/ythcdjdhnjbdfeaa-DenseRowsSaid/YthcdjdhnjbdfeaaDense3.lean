/- The walk of dense.Go. -/
import Derived.Test.YthcdjdhnjbdfeaaDense2
import Derived.Test.YthcdjdhnjbdfeaaDenseMath
namespace Go.Proofs.Ythcdjdhnjbdfeaa
open Go.RowKit

section
variable {P : Program} {f : FuncId} {args : Array Value} {w : World} {v : Value}
theorem retB_same (h : Calls P f args w fun e w' => e = .returned v ∧ w = w') : Calls P f args w (RetB w v) := h.mono fun _ _ ⟨he, hw⟩ => ⟨he, hw ▸ Below.refl _ _⟩
theorem retB_drew {n : Int} (h : Calls P f args w (RetIntDrew w n)) : Calls P f args w (RetB w (.int .i64 n)) := h.mono fun _ _ ⟨he, m, hw⟩ => ⟨he, hw ▸ below_drewN (Below.refl _ _) m⟩
end
theorem d_line_b (A : Option Addr) (b off c d M N i S : Nat) (xs : List Int) (w : World) (hd : xs.length ≤ d) (hM : M ≤ 1024) (hN : N ≤ 1024) (hN1 : 1 ≤ N) (hx : Hid (xs.length = M * N)) (hx6 : xs.length ≤ 65536) (hi : i < M) (hS : Hid (i * N = S)) (h : Rd w A [(M : Int), (N : Int)]) :
    Calls Try.prog 65 #[.agg #[.slice A 2 c, .slice (some ⟨b, off, none⟩) xs.length d], .int .i64 i] w (RetB w (.slice (some ⟨b, off + S, none⟩) N N)) :=
  (d_line A b off c d M N i S xs w hd hM hN hN1 hx hx6 hi hS h).mono fun _ _ ⟨he, hw⟩ => ⟨he, hw ▸ (Below.refl _ _).alloc (Nat.le_refl _) _⟩
theorem Rd.row {w : World} {b off : Nat} {xs : List Int} (h : Rd w (some ⟨b, off, none⟩) xs) (n i : Nat) : Rd w (some ⟨b, off + i * n, none⟩) (rowL n xs i) := by
  intro j z hj
  have hj2 : xs[i * n + j]? = some z := by
    rw [rowL, List.getElem?_take] at hj
    split at hj
    · rwa [List.getElem?_drop] at hj
    · cases hj
  obtain ⟨b', off', e, hb, hc⟩ := h _ _ hj2
  injection e with e; injection e with e1 e2; subst e1; subst e2
  exact ⟨b, off + i * n, rfl, hb, by rw [Nat.add_assoc]; exact hc⟩

/-- What a weight, a bias and an in that belong together are made of. -/
theorem agree_nats {zs xs ts ys us vs : List Int} (h : agreeB zs xs ts ys us vs = true) :
    ∃ M N : Nat, zs = [(M : Int), (N : Int)] ∧ ts = [(M : Int)] ∧ xs.length = M * N ∧ ys.length = M ∧ vs.length = N ∧ 1 ≤ M ∧ 1 ≤ N ∧ M ≤ 1024 ∧ N ≤ 1024 ∧ xs.length ≤ 65536 ∧ tRightB zs xs = true ∧ tRightB ts ys = true ∧ tRightB us vs = true := by
  simp only [agreeB, flatB, Bool.and_eq_true, decide_eq_true_eq] at h
  obtain ⟨⟨⟨⟨⟨h1, h2⟩, h3⟩, h4⟩, h5⟩, h6⟩ := h
  obtain ⟨z0, z1, rfl⟩ : ∃ z0 z1, zs = [z0, z1] := by
    match zs, h2 with
    | [z0, z1], _ => exact ⟨z0, z1, rfl⟩
  obtain ⟨g1, g2⟩ := (tRightB_iff _ _).1 h1
  obtain ⟨k1, k2⟩ := (tRightB_iff _ _).1 h3
  obtain ⟨-, -, rin, rpr⟩ := (rightB_iff _).1 g1
  have a0 := inSides_mem rin (z := z0) (by simp)
  have a1 := inSides_mem rin (z := z1) (by simp)
  obtain ⟨M, rfl, hM⟩ := nat_of_pos a0.1
  obtain ⟨N, rfl, hN⟩ := nat_of_pos a1.1
  simp at h5 h6
  subst h5
  simp [prodL] at g2 k2 rpr
  have e1 : xs.length = M * N := by exact_mod_cast g2
  have e2 : (M : Int) * N = ((M * N : Nat) : Int) := by simp
  exact ⟨M, N, rfl, rfl, e1, by omega, by omega, hM, hN, by omega, by omega, by omega, h1, h3, h4⟩

set_option maxRecDepth 100000 in
set_option maxHeartbeats 2000000 in
theorem d_go_no (A B C D E F : Option Addr) (c d c' d' e' f' : Nat) (zs xs ts ys us vs : List Int) (w : World) (hzl : zs.length ≤ 1000000) (htl : ts.length ≤ 1000000) (hul : us.length ≤ 1000000) (h1 : Rd w A zs) (h3 : Rd w C ts) (h5 : Rd w E us) (hr : Hid (agreeB zs xs ts ys us vs = false)) :
    Calls Try.prog 34 #[.agg #[.slice A zs.length c, .slice B xs.length d], .agg #[.slice C ts.length c', .slice D ys.length d'], .agg #[.slice E us.length e', .slice F vs.length f']] w (RetTE w [] [] 20) := by
  have kR := Blk.new' (((w.alloc (.cells #[.slice A zs.length c, .slice B xs.length d] 26)).alloc (.cells #[.slice C ts.length c', .slice D ys.length d'] 26)).alloc (.cells #[.slice E us.length e', .slice F vs.length f'] 26)) 26 #[.slice none 0 0, .slice none 0 0] (n := w.heap.size + 1 + 1 + 1) (by simp)
  go_enter Try.func34, Try.ntmps34
  go_wp2_with fail
  refine (d_agree A B C D E F c d c' d' e' f' zs xs ts ys us vs _ hzl htl hul h1.at h3.at h5.at).mono ?_
  rintro e w1 ⟨rfl, hb⟩
  have pw1 := Prev.mk hb
  clear hb
  rw [hr.out]
  have k1 := kR.at (w' := w1)
  obtain ⟨q0, q1⟩ := box2 k1
  have f0 := k1.frozen 0
  have f1 := k1.frozen 1
  go_wp2_with fail
  have k3 := k1.set2 (.slice none 0 0) (.slice none 0 0)
  have B3 := bset2 (bel w w1) (p := w.heap.size + 1 + 1 + 1) (by omega) (.slice none 0 0) (.slice none 0 0)
  clear q0 q1
  obtain ⟨q0, q1⟩ := box2 k3
  refine bodyPost_ret (v := .tuple #[.agg #[.slice none 0 0, .slice none 0 0], .int .i64 20]) (by simp [results, Try.results34, go_sem, q0, q1]) rfl ?_
  exact RetTE.no rfl rfl B3 _ rfl

set_option maxRecDepth 100000 in
set_option maxHeartbeats 4000000 in
theorem d_go_yes (A B C D E F : Option Addr) (c d c' d' e' f' : Nat) (zs xs ts ys us vs : List Int) (w : World) (hd : xs.length ≤ d) (hul : us.length ≤ 1000000) (h1 : Rd w A zs) (h2 : Rd w B xs) (h3 : Rd w C ts) (h4 : Rd w D ys) (h5 : Rd w E us) (h6 : Rd w F vs) (hx : Hid (∀ z ∈ xs, I64 z)) (hy : Hid (∀ z ∈ ys, I64 z)) (hv : Hid (∀ z ∈ vs, I64 z)) (hr : Hid (agreeB zs xs ts ys us vs = true)) :
    Calls Try.prog 34 #[.agg #[.slice A zs.length c, .slice B xs.length d], .agg #[.slice C ts.length c', .slice D ys.length d'], .agg #[.slice E us.length e', .slice F vs.length f']] w (RetTE w ts (goCells xs ys vs ys.length) 0) := by
  obtain ⟨M, N, rfl, rfl, hxl, hyl, hvl, hM1, hN1, hM, hN, hx6, -, -, -⟩ := agree_nats hr.out
  have HXL := Lib.hid hxl
  have HYL := Lib.hid hyl
  have HVL := Lib.hid hvl
  have hyM : ys.length ≤ 1024 := by omega
  have hvN : vs.length ≤ 1024 := by omega
  have hx1 : 0 < xs.length := by rw [hxl]; exact Nat.mul_pos hM1 hN1
  obtain ⟨bx, ox, x0, rfl, -, -, -⟩ := h2.get (k := 0) hx1
  clear hxl hyl hvl
  have kW := Blk.new w 26 #[.slice A 2 c, .slice (some ⟨bx, ox, none⟩) xs.length d]
  have kB := Blk.new' (w.alloc (.cells #[.slice A 2 c, .slice (some ⟨bx, ox, none⟩) xs.length d] 26)) 26 #[.slice C 1 c', .slice D ys.length d'] (n := w.heap.size + 1) (by simp)
  have kX := Blk.new' ((w.alloc (.cells #[.slice A 2 c, .slice (some ⟨bx, ox, none⟩) xs.length d] 26)).alloc (.cells #[.slice C 1 c', .slice D ys.length d'] 26)) 26 #[.slice E us.length e', .slice F vs.length f'] (n := w.heap.size + 1 + 1) (by simp)
  have kR := Blk.new' (((w.alloc (.cells #[.slice A 2 c, .slice (some ⟨bx, ox, none⟩) xs.length d] 26)).alloc (.cells #[.slice C 1 c', .slice D ys.length d'] 26)).alloc (.cells #[.slice E us.length e', .slice F vs.length f'] 26)) 26 #[.slice none 0 0, .slice none 0 0] (n := w.heap.size + 1 + 1 + 1) (by simp)
  go_enter Try.func34, Try.ntmps34
  go_wp2_with fail
  refine (d_agree A (some ⟨bx, ox, none⟩) C D E F c d c' d' e' f' [(M : Int), (N : Int)] xs [(M : Int)] ys us vs _ (by simp) (by simp) hul h1.at h3.at h5.at).mono ?_
  rintro e w1 ⟨rfl, hb⟩
  have pw1 := Prev.mk hb
  clear hb
  rw [hr.out]
  have hs1 := (kR.at (w' := w1)).lt
  obtain ⟨q0, q1⟩ := box2 (kB.at (w' := w1))
  go_wp2_with fail
  clear q0 q1
  refine (t_copy C D c' d' [(M : Int)] ys _ (by simp) (by omega) h3.at h4.at).mono ?_
  rintro e w2 ⟨g, g', rfl, hg, hg', ho, ho', hb⟩
  have pw2 := Prev.mk hb
  clear hb
  have hg2 := ho'.lt
  have hg1 := ho.lt
  obtain ⟨q0, q1⟩ := box2 ((kB.at (w' := w2)).alloc (.cells #[.slice (some ⟨g, 0, none⟩) 1 1, .slice (some ⟨g', 0, none⟩) ys.length ys.length] 26))
  go_wp2_with fail
  clear q0 q1
  have kO := Blk.new w2 26 #[.slice (some ⟨g, 0, none⟩) 1 1, .slice (some ⟨g', 0, none⟩) ys.length ys.length]
  have hoW := ho'.alloc (.cells #[.slice (some ⟨g, 0, none⟩) 1 1, .slice (some ⟨g', 0, none⟩) ys.length ys.length] 26)
  have pW := Prev.alloc w2 (.cells #[.slice (some ⟨g, 0, none⟩) 1 1, .slice (some ⟨g', 0, none⟩) ys.length ys.length] 26)
  generalize w2.alloc (.cells #[.slice (some ⟨g, 0, none⟩) 1 1, .slice (some ⟨g', 0, none⟩) ys.length ys.length] 26) = W at *
  go_loopw [22] (fun i wr => ∃ k : Nat, k ≤ ys.length ∧ i = .int .i64 k ∧ Aside g' W wr ∧ Own wr g' 27 (upTo (goCells xs ys vs) ys k) ∧ Below w.heap.size w wr) (fun i _ => ys.length - (intOf i).toNat)
  case atStart => exact ⟨0, Nat.zero_le _, rfl, Aside.refl _ _, hoW, bel w W⟩
  case round =>
    obtain ⟨k, hk, rfl, hA, hO, hbel⟩ := hrel
    have n1 : w.heap.size ≠ g' := by omega
    have n2 : w.heap.size + 1 + 1 ≠ g' := by omega
    have n3 : w.heap.size + 1 + 1 + 1 ≠ g' := by omega
    have n4 : w2.heap.size ≠ g' := by omega
    have n5 : w.heap.size ≤ g' := by omega
    have mR := hA.blk (kR.at (w' := W)) n3
    have mO := hA.blk kO n4
    by_cases hlt : k < ys.length
    · have mW := hA.blk (kW.at (w' := W)) n1
      have mX := hA.blk (kX.at (w' := W)) n2
      have r1 := hA.rd_old h1 (h1.at (w' := W)) n5
      have r2 := hA.rd_old h2 (h2.at (w' := W)) n5
      have r6 := hA.rd_old h6 (h6.at (w' := W)) n5
      obtain ⟨b, off, y, rfl, hb4, hc4, hyk⟩ := (hA.rd_old h4 (h4.at (w' := W)) n5).get hlt
      obtain ⟨S, hS⟩ : ∃ S, Hid (k * N = S) := ⟨_, Lib.hid rfl⟩
      have hkM : k < M := by rw [← HYL.out]; exact hlt
      have hrl : (rowL N xs k).length = N := rowL_length HXL.out hkM
      have CL := Lib.hid fun (w' : World) (h : Rd w' A [(M : Int), (N : Int)]) => d_line_b A bx ox c d M N k S xs w' hd hM hN hN1 HXL hx6 hkM hS h
      have CD := Lib.hid fun (w' : World) (ha : Rd w' (some ⟨bx, ox + S, none⟩) (rowL N xs k)) (hb : Rd w' F vs) => retB_drew (fix_dot (some ⟨bx, ox + S, none⟩) F N f' (rowL N xs k) vs w' (by omega) (by omega) (Lib.hid fun z hz => hx.out z (rowL_mem hz)) hv ha hb)
      rw [hrl] at CD
      have CA := Lib.hid fun (w' : World) => retB_same (fix_add (fdot ((rowL N xs k).zip vs)) y w' (fdot_bd _) (hy.out y (List.mem_of_getElem? hyk.out)))
      have HG : Hid (fadd (fdot ((rowL N xs k).zip vs)) y = goCell xs ys vs k) := Lib.hid (by
        unfold goCell
        rw [HVL.out, List.getD_eq_getElem?_getD, hyk.out]; rfl)
      rw [HG.out] at CA
      have HOA := Lib.hid (upTo_at (f := goCells xs ys vs) (goCells_length xs ys vs k) hyk.out)
      have HOS := Lib.hid (upTo_set (f := goCells xs ys vs) (goCells_length xs ys vs k) (goCells_succ xs ys vs k) hyk.out)
      clear hrl
      go_wp2_with fail
      have HK0 : Hid (∀ w' : World, Aside g' (wr) w' → w'.cell? ⟨w2.heap.size, 1, none⟩ = some (.slice (some ⟨g', 0, none⟩) ys.length ys.length) ∧ w'.cell? ⟨w.heap.size, 0, none⟩ = some (.slice A 2 c) ∧ w'.cell? ⟨w.heap.size, 1, none⟩ = some (.slice (some ⟨bx, ox, none⟩) xs.length d) ∧ w'.cell? ⟨w.heap.size + 1 + 1, 1, none⟩ = some (.slice F vs.length f')) := Lib.hid (fun w' hbk => ⟨(hbk.blk mO n4).cell 1, (hbk.blk mW n1).cell 0, (hbk.blk mW n1).cell 1, (hbk.blk mX n2).cell 1⟩)
      refine wp_region_held_drew (S := fun w' => w'.cell? ⟨w2.heap.size, 1, none⟩ = some (.slice (some ⟨g', 0, none⟩) ys.length ys.length) ∧ w'.cell? ⟨w.heap.size, 0, none⟩ = some (.slice A 2 c) ∧ w'.cell? ⟨w.heap.size, 1, none⟩ = some (.slice (some ⟨bx, ox, none⟩) xs.length d) ∧ w'.cell? ⟨w.heap.size + 1 + 1, 1, none⟩ = some (.slice F vs.length f')) (by kernel_rfl) (HK0.out _ (Aside.refl _ _).drew) (fun hHeld => ?_)
      have hNow : Aside g' (wr) (wr).drew := (Aside.refl _ _).drew
      have hOwn := (hO).drew
      have hBel := (hbel).drew
      refine wpAnyH_on (i := 0) (d := 27) (v := ?_) rfl rfl (by kernel_rfl) (by kernel_rfl) (by kernel_rfl) (fun _ _ _ h => h) (by kernel_rfl) (by assumption) ?_ ?_
      rotate_left
      · intro w hSw
        (try dsimp only at hSw)
        go_simp
        try (with_reducible rfl)
      simp only [List.set]
      refine wpAnyH_on (i := 1) (d := 28) (v := ?_) rfl rfl (by kernel_rfl) (by kernel_rfl) (by kernel_rfl) (fun _ _ _ h => h) (by kernel_rfl) (by assumption) ?_ ?_
      rotate_left
      · intro w hSw
        (try dsimp only at hSw)
        go_simp
        try (with_reducible rfl)
      simp only [List.set]
      refine wpAnyH_on (i := 2) (d := 29) (v := ?_) rfl rfl (by kernel_rfl) (by kernel_rfl) (by kernel_rfl) (fun _ _ _ h => h) (by kernel_rfl) (by assumption) ?_ ?_
      rotate_left
      · intro w hSw
        (try dsimp only at hSw)
        go_simp
        try (with_reducible rfl)
      simp only [List.set]
      refine wpAnyH_on (i := 3) (d := 30) (v := ?_) rfl rfl (by kernel_rfl) (by kernel_rfl) (by kernel_rfl) (fun _ _ _ h => h) (by kernel_rfl) (by assumption) ?_ ?_
      rotate_left
      · intro w hSw
        (try dsimp only at hSw)
        go_simp
        try (with_reducible rfl)
      simp only [List.set]
      refine wpAnyH_on (i := 4) (d := 31) (v := ?_) rfl rfl (by kernel_rfl) (by kernel_rfl) (by kernel_rfl) (fun _ _ _ h => h) (by kernel_rfl) (by assumption) ?_ ?_
      rotate_left
      · intro w hSw
        (try dsimp only at hSw)
        go_simp
        try (with_reducible rfl)
      simp only [List.set]
      refine wpAnyH_on (i := 6) (d := 33) (v := ?_) rfl rfl (by kernel_rfl) (by kernel_rfl) (by kernel_rfl) (fun _ _ _ h => h) (by kernel_rfl) (by assumption) ?_ ?_
      rotate_left
      · intro w hSw
        (try dsimp only at hSw)
        go_simp
        try (with_reducible rfl)
      simp only [List.set]
      refine wpAnyH_on (i := 7) (d := 34) (v := ?_) rfl rfl (by kernel_rfl) (by kernel_rfl) (by kernel_rfl) (fun _ _ _ h => h) (by kernel_rfl) (by assumption) ?_ ?_
      rotate_left
      · intro w hSw
        (try dsimp only at hSw)
        go_simp
        try (with_reducible rfl)
      simp only [List.set]
      refine wpAnyH_on (i := 9) (d := 36) (v := ?_) rfl rfl (by kernel_rfl) (by kernel_rfl) (by kernel_rfl) (fun _ _ _ h => h) (by kernel_rfl) (by assumption) ?_ ?_
      rotate_left
      · intro w hSw
        (try dsimp only at hSw)
        go_simp
        try (with_reducible rfl)
      simp only [List.set]
      refine wpAnyH_ready (rs := [5]) (by kernel_rfl) (by simp) ?_
      refine AllReadyH.cons rfl (fun K hK => ?_) AllReadyH.nil
      go_simp
      refine (CL.out _ (hNow.rd_old h1 r1 n5)).mono ?_
      rintro e w3 ⟨rfl, hb⟩
      dsimp only
      replace hNow := hNow.below hb
      replace hOwn := hOwn.keep hb
      replace hBel := btr hBel hb
      clear hb
      refine hK.out _ _ (HK0.out _ hNow) (fun hHeld => ?_)
      clear hK K
      try dsimp only [Act.put, List.setIfInBounds_toArray, List.set_cons_zero, List.set_cons_succ]
      have hrow := (hNow.rd_old h2 r2 n5).row N k
      rw [hS.out] at hrow
      refine wpAnyH_ready (rs := [8]) (by kernel_rfl) (by simp) ?_
      refine AllReadyH.cons rfl (fun K hK => ?_) AllReadyH.nil
      go_simp
      refine (CD.out _ hrow (hNow.rd_old h6 r6 n5)).mono ?_
      rintro e w4 ⟨rfl, hb⟩
      dsimp only
      replace hNow := hNow.below hb
      replace hOwn := hOwn.keep hb
      replace hBel := btr hBel hb
      clear hb
      refine hK.out _ _ (HK0.out _ hNow) (fun hHeld => ?_)
      clear hK K
      try dsimp only [Act.put, List.setIfInBounds_toArray, List.set_cons_zero, List.set_cons_succ]
      refine wpAnyH_ready (rs := [10]) (by kernel_rfl) (by simp) ?_
      refine AllReadyH.cons rfl (fun K hK => ?_) AllReadyH.nil
      go_simp
      refine (CA.out _).mono ?_
      rintro e w5 ⟨rfl, hb⟩
      dsimp only
      replace hNow := hNow.below hb
      replace hOwn := hOwn.keep hb
      replace hBel := btr hBel hb
      clear hb
      refine hK.out _ _ (HK0.out _ hNow) (fun hHeld => ?_)
      clear hK K
      try dsimp only [Act.put, List.setIfInBounds_toArray, List.set_cons_zero, List.set_cons_succ]
      refine wpAnyH_on (i := 11) (d := 38) (v := ?_) rfl rfl (by kernel_rfl) (by kernel_rfl) (by kernel_rfl) (fun _ _ _ h => h) (by kernel_rfl) (by assumption) ?_ ?_
      rotate_left
      · intro w hSw
        (try dsimp only at hSw)
        go_simp
        try (with_reducible rfl)
      simp only [List.set]
      have hc := hOwn.cell (HOA.out)
      have hf := hOwn.frozen (k)
      refine wpAnyH_ready (rs := [12]) (by kernel_rfl) (by simp) ?_
      refine AllReadyH.cons rfl (fun K hK => ?_) AllReadyH.nil
      go_simp
      clear hc hf
      replace hNow := hNow.set_ (k) (.int .i64 (goCell xs ys vs k))
      replace hOwn := hOwn.set_ (k) (goCell xs ys vs k)
      replace hBel := hBel.setCell (p := ⟨_, k, none⟩) (n5) (.int .i64 (goCell xs ys vs k))
      refine hK.out _ _ (HK0.out _ hNow) (fun hHeld => ?_)
      clear hK K
      try dsimp only [Act.put, List.setIfInBounds_toArray, List.set_cons_zero, List.set_cons_succ]
      refine wpAnyH_done (by kernel_rfl) ?_ _
      go_wp2_with fail
      rw [HOS.out] at hOwn
      go_roundw
      case rel => exact ⟨k + 1, by omega, by go_num, hA.trans hNow, hOwn, hBel⟩
      case measure => simp [intOf]; omega
    · rw [upTo_all hlt] at hO
      have e : k = ys.length := by omega
      subst e
      have HO := Lib.hid hO
      have o1 := hA.own (ho.at (w' := W)) (ho.ne_blk (cs := ints ys) ho' (by decide))
      clear hO
      obtain ⟨p0, p1⟩ := box2 mO
      obtain ⟨q0, q1⟩ := box2 mR
      have f0 := mR.frozen 0
      have f1 := mR.frozen 1
      have l1 := o1.ne_blk mR (by decide)
      have l2 := HO.out.ne_blk mR (by decide)
      go_wp2_with fail
      have k3 := mR.set2 (.slice (some ⟨g, 0, none⟩) 1 1) (.slice (some ⟨g', 0, none⟩) ys.length ys.length)
      have B3 := bset2 hbel (p := w.heap.size + 1 + 1 + 1) (by omega) (.slice (some ⟨g, 0, none⟩) 1 1) (.slice (some ⟨g', 0, none⟩) ys.length ys.length)
      have o3 := o1.far2 l1 (.slice (some ⟨g, 0, none⟩) 1 1) (.slice (some ⟨g', 0, none⟩) ys.length ys.length)
      have o4 := HO.out.far2 l2 (.slice (some ⟨g, 0, none⟩) 1 1) (.slice (some ⟨g', 0, none⟩) ys.length ys.length)
      clear q0 q1
      obtain ⟨q0, q1⟩ := box2 k3
      refine bodyPost_ret (v := .tuple #[.agg #[.slice (some ⟨g, 0, none⟩) 1 1, .slice (some ⟨g', 0, none⟩) ys.length ys.length], .int .i64 0]) (by simp [results, Try.results34, go_sem, q0, q1]) rfl ?_
      exact RetTE.yes (by omega) (by omega) (by simp) (by rw [goCells_length]; omega) o3 o4 B3 _ (by rw [goCells_length]; rfl)

end Go.Proofs.Ythcdjdhnjbdfeaa
