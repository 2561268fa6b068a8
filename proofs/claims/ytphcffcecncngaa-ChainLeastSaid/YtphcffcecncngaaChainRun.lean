/- Walk. -/
import Derived.Test.YtphcffcecncngaaChainDo
import Derived.Deep.DeepCutAuto
namespace Go.Proofs.Ytphcffcecncngaa
open Go.RowKit

/-- The answer of a walk through a code. -/
def Ch.walkS (c : Ch) (cap : Int) (ps : List (Int × Int)) : Int × Int × Int :=
  if (c.run cap .new ps).1 = 0 then
    (if (c.run cap .new ps).2.em = 0 ∨ (c.run cap .new ps).2.dn < (c.n : Int) then (0, 0, 28) else ((c.run cap .new ps).2.co, (c.run cap .new ps).2.pk, 0))
  else (0, 0, (c.run cap .new ps).1)
def Ch.inAll (c : Ch) (ps : List (Int × Int)) : Bool := ps.all fun x => decide (x.2 ≤ (c.n : Int))
def Ch.walkR (c : Ch) (cap : Int) (ps : List (Int × Int)) : Int × Int × Int := if (c.okB && insAll ps && c.inAll ps) = true then c.walkS cap ps else (0, 0, 10)
def trip (r : Int × Int × Int) : Value := .tuple #[.int .i64 r.1, .int .i64 r.2.1, .int .i64 r.2.2]
theorem Ch.run_snoc {c : Ch} {cap : Int} {ps : List (Int × Int)} {k i : Int} {s : Ch.St} (h : (c.run cap s ps).1 = 0) : c.run cap s (ps ++ [(k, i)]) = c.doI cap (c.run cap s ps).2 k i := by
  rw [Ch.run_append _ _ _ h, Ch.run]
  split
  · rename_i e
    rw [Ch.run, ← e]
  · rfl
theorem Ch.run_stop {c : Ch} {cap : Int} : ∀ {ps qs : List (Int × Int)} {s : Ch.St}, (c.run cap s ps).1 ≠ 0 → c.run cap s (ps ++ qs) = c.run cap s ps
  | [], _, _, h => absurd rfl h
  | (k, i) :: p, q, s, h => by
    rw [Ch.run] at h
    rw [List.cons_append, Ch.run, Ch.run]
    split
    · rename_i e
      rw [if_pos e] at h
      exact Ch.run_stop h
    · rfl
theorem insB_of {n : Nat} {k i : Int} (h : insR k i = true) (h2 : i ≤ (n : Int)) : insB n k i = true := by
  unfold insR at h
  unfold insB
  split
  · rename_i e; rw [if_pos e] at h; exact h
  · rename_i e
    rw [if_neg e] at h
    split
    · rename_i e2
      rw [if_pos e2] at h
      simp only [Bool.and_eq_true, decide_eq_true_eq] at h ⊢
      omega
    · rename_i e2; rw [if_neg e2] at h; cases h
theorem insR_0 {k i : Int} (h : insR k i = true) : 0 ≤ i := by
  unfold insR at h
  split at h
  · have := beq_iff_eq.1 h; omega
  · split at h
    · simp only [Bool.and_eq_true, decide_eq_true_eq] at h; omega
    · cases h
section
variable {w w' w0 u : World} {A B I : Option Addr} {n m p q k kq t : Nat} {c : Ch} {cap : Int} {ps : List (Int × Int)} {cs : Array Value} {gs : List Nat}
/-- A walk in the making. -/
structure MkW (w0 w : World) (t : Nat) (cs : Array Value) (gs : List Nat) (n : Nat) : Prop where
  pr : Prev w w0
  box : Bx w t 114 cs
  bs : ∀ g ∈ gs, Bx w g 4 (boolC (List.replicate n false))
  nd : gs.Nodup
  ge : ∀ g ∈ gs, w0.heap.size ≤ g
  ht : w0.heap.size ≤ t
theorem MkW.at [l : Later w w'] (h : MkW w0 w t cs gs n) : MkW w0 w' t cs gs n := by
  have hp := h.pr
  have : Later w0 w := inferInstance
  exact ⟨⟨(Later.trans this l).st⟩, ⟨h.box.blk.at⟩, fun g hg => ⟨(h.bs g hg).blk.at⟩, h.nd, h.ge, h.ht⟩
theorem MkW.mk' [l : Prev w' w] (h : MkW w0 w t cs gs n) (k : Bx w' w.heap.size 4 (boolC (List.replicate n false))) : MkW w0 w' t cs (w.heap.size :: gs) n := by
  have hp := h.pr
  have h1 := h.at (w' := w')
  refine ⟨h1.pr, h1.box, fun g hg => ?_, List.nodup_cons.2 ⟨fun hx => Nat.lt_irrefl _ (h.bs _ hx).blk.lt, h.nd⟩, fun g hg => ?_, h.ht⟩
  · rcases List.mem_cons.1 hg with rfl | hg
    · exact k
    · exact h1.bs g hg
  · rcases List.mem_cons.1 hg with rfl | hg
    · exact h.pr.st.size
    · exact h.ge g hg
theorem MkW.set (h : MkW w0 w t cs gs n) (i : Nat) (v : Value) : MkW w0 (w.setCell ⟨t, i, none⟩ v) t (cs.setIfInBounds i v) gs n := by
  have hpr := h.pr
  exact ⟨⟨(bel w0 w).setCell (p := ⟨t, i, none⟩) h.ht _⟩, ⟨h.box.blk.set_ i v⟩, fun g hg => ⟨(Below.heap_setCell _ ⟨t, i, none⟩ _ _ ((h.bs g hg).blk.ne_typ h.box.blk (by decide))).trans (h.bs g hg).blk⟩, h.nd, h.ge, h.ht⟩
theorem MkW.fin {gp gv gg : Nat} (h : MkW w0 w t (wkC A n p B m q cap gp gv gg ⟨List.replicate n false, List.replicate n false, List.replicate n false, false, false, m, 0, 0, 0⟩) gs n) (hp : gp ∈ gs) (hv : gv ∈ gs) (hg : gg ∈ gs) (h1 : gp ≠ gv) (h2 : gp ≠ gg) (h3 : gv ≠ gg) :
    WkM w0 w t gp gv gg A n p B m q cap ⟨List.replicate n false, List.replicate n false, List.replicate n false, false, false, m, 0, 0, 0⟩ :=
  ⟨h.pr, h.box, h.bs _ hp, h.bs _ hv, h.bs _ hg, h1, h2, h3, h.ht, h.ge _ hp, h.ge _ hv, h.ge _ hg, List.length_replicate, List.length_replicate, List.length_replicate⟩
set_option maxRecDepth 100000 in
set_option maxHeartbeats 8000000 in
theorem ch_walk (hk : k ≤ 65536) [a : Sl w A n c.W] [b : Sl w B m c.K] [i : Is w I k ps] : Calls Try.prog 18 #[.agg #[.slice A n p, .slice B m q], .int .i64 cap, .slice I k kq] w (RetV w (trip (c.walkR cap ps))) := by
  have CB := @cell_bx
  have CP := @cell_prev
  have FB := @frozen_bx
  rcases h0 : c.okB with _ | _
  · have HT : Hid (c.walkR cap ps = (0, 0, 10)) := Lib.hid (by rw [Ch.walkR, h0]; rfl)
    go_enter Try.func18, Try.ntmps18
    go_wp2_with (first | (go_at_call 22; (try first | (with_reducible refine gen_boxK3 (fun u _ _ _ _ => ?_)) | (with_reducible refine gen_boxK2 (fun u _ _ _ => ?_)) | (with_reducible refine gen_boxK (fun u _ _ => ?_))); (with_reducible refine (ch_right).mono ?_); rintro e u ⟨rfl, _⟩))
    go_ret3
    exact ⟨by rw [HT.out]; rfl, prev_bel _ _⟩
  rcases h1 : insAll ps with _ | _
  · have HT : Hid (c.walkR cap ps = (0, 0, 10)) := Lib.hid (by rw [Ch.walkR, h0, h1]; rfl)
    have hC : (checkC ps != 0) = true := by rw [checkC, h1]; rfl
    go_enter Try.func18, Try.ntmps18
    go_wp2_with (first | (go_at_call 22; (try first | (with_reducible refine gen_boxK3 (fun u _ _ _ _ => ?_)) | (with_reducible refine gen_boxK2 (fun u _ _ _ => ?_)) | (with_reducible refine gen_boxK (fun u _ _ => ?_))); (with_reducible refine (ch_right).mono ?_); rintro e u ⟨rfl, _⟩) | (go_at_call 55; (try first | (with_reducible refine gen_boxK3 (fun u _ _ _ _ => ?_)) | (with_reducible refine gen_boxK2 (fun u _ _ _ => ?_)) | (with_reducible refine gen_boxK (fun u _ _ => ?_))); (with_reducible refine (cd_check (by omega)).mono ?_); rintro e u ⟨rfl, _⟩))
    go_ret3
    exact ⟨by rw [HT.out]; rfl, prev_bel _ _⟩
  have hC : checkC ps = 0 := by rw [checkC, h1]; rfl
  have hok := Lib.hid (Ch.ok_of h0)
  have H1 := Lib.hid h1
  have H0 := Lib.hid h0
  have HK : Hid (k = ps.length) := Lib.hid i.len
  have HM : Hid (m = c.n) := Lib.hid b.len
  have HN : Hid (n = c.n + 1) := Lib.hid (a.len.trans hok.out.len)
  have n65 : n ≤ 65 := by rw [HN.out]; have := hok.out.n2; omega
  have hn1 : (n : Int) = (m : Int) + 1 := by have := HN.out; have := HM.out; omega
  have hmn : m < n := by omega
  have HMB := make_boolN n (by omega)
  rw [hn1] at HMB
  have hw1 : IntKind.i64.wrap ((m : Int) + 1) = (m : Int) + 1 := by rw [IntKind.wrap_i64]; omega
  clear h1 hn1
  go_enter Try.func18, Try.ntmps18
  go_wp2_with (first | (go_at_call 22; (try first | (with_reducible refine gen_boxK3 (fun u _ _ _ _ => ?_)) | (with_reducible refine gen_boxK2 (fun u _ _ _ => ?_)) | (with_reducible refine gen_boxK (fun u _ _ => ?_))); (with_reducible refine (ch_right).mono ?_); rintro e u ⟨rfl, _⟩) | (go_at_call 55; (try first | (with_reducible refine gen_boxK3 (fun u _ _ _ _ => ?_)) | (with_reducible refine gen_boxK2 (fun u _ _ _ => ?_)) | (with_reducible refine gen_boxK (fun u _ _ => ?_))); (with_reducible refine (cd_check (by omega)).mono ?_); rintro e u ⟨rfl, _⟩))
  go_loopw [29] (fun i wr => ∃ j : Nat, j ≤ k ∧ i = .int .i64 j ∧ Hid ((ps.take j).all (fun x => decide (x.2 ≤ (c.n : Int))) = true) ∧ Bx wr w.heap.size 24 #[.slice A n p, .slice B m q] ∧ Prev wr w) (fun i _ => k - (intOf i).toNat)
  case atStart => exact ⟨0, Nat.zero_le _, rfl, Lib.hid rfl, inferInstance, prev_bel _ _⟩
  case round =>
    obtain ⟨j, hj, rfl, HV, kC, hp⟩ := hrel
    by_cases hlt : j < k
    · obtain ⟨b1, o1, x, y, rfl, ob1, v1, v2, e1⟩ := i.get hlt
      by_cases hy : y ≤ (m : Int)
      · have HV2 := Lib.hid (all_takeP HV.out e1.out (by rw [← HM.out]; exact decide_eq_true hy))
        clear e1
        go_wp2_with fail
        go_roundw
        case rel => exact ⟨j + 1, by omega, by go_num, HV2, inferInstance, prev_bel _ _⟩
        case measure => simp [intOf]; omega
      · have HT : Hid (c.walkR cap ps = (0, 0, 10)) := Lib.hid (by
          rw [Ch.walkR, H0.out, H1.out, Ch.inAll, all_badP e1.out (by rw [← HM.out]; exact decide_eq_false hy)]; rfl)
        clear e1
        go_wp2_with fail
        go_ret3
        exact ⟨by rw [HT.out]; rfl, prev_bel _ _⟩
    · have HI : Hid (c.inAll ps = true) := Lib.hid (all_endP HV.out (by rw [← HK.out]; omega))
      have HWR : Hid (c.walkR cap ps = c.walkS cap ps) := Lib.hid (by rw [Ch.walkR, H0.out, H1.out, HI.out]; rfl)
      go_upto_region 11 with fail
      refine gen_box1C (fun u2 _ kb => ?_)
      have hwt : w.heap.size ≤ wr.heap.size := later_size
      obtain ⟨t, ht⟩ : ∃ t : Nat, t = wr.heap.size := ⟨_, rfl⟩
      rw [← ht] at kb hwt ⊢
      clear ht
      have HW : Hid (MkW w u2 t #[.slice A n p, .slice B m q, .int .i64 m, .int .i64 cap, .slice none 0 0, .slice none 0 0, .slice none 0 0, .bool false, .bool false, .int .i64 m, .int .i64 0, .int .i64 0, .int .i64 0] [] n) := Lib.hid ⟨prev_bel _ _, inferInstance, by simp, List.nodup_nil, by simp, hwt⟩
      go_cut [] (fun wx => ∃ gp gv gg, Hid (WkM w wx t gp gv gg A n p B m q cap ⟨List.replicate n false, List.replicate n false, List.replicate n false, false, false, m, 0, 0, 0⟩))
      case first =>
        refine wp_region_up w (by kernel_rfl) (fun ux _ => ?_)
        refine wpAnyH_on (i := 0) (d := 43) (v := ?_) rfl rfl (by kernel_rfl) (by kernel_rfl) (by kernel_rfl) (fun _ _ _ h => h) (by kernel_rfl) (prev_bel _ _) ?_ ?_
        rotate_left
        · intro uu (pu : Prev uu _)
          go_simp
          try (with_reducible rfl)
        try simp only [List.set]
        refine wpAnyH_on (i := 1) (d := 44) (v := ?_) rfl rfl (by kernel_rfl) (by kernel_rfl) (by kernel_rfl) (fun _ _ _ h => h) (by kernel_rfl) (prev_bel _ _) ?_ ?_
        rotate_left
        · intro uu (pu : Prev uu _)
          go_simp
          try (with_reducible rfl)
        try simp only [List.set]
        refine wpAnyH_on (i := 3) (d := 46) (v := ?_) rfl rfl (by kernel_rfl) (by kernel_rfl) (by kernel_rfl) (fun _ _ _ h => h) (by kernel_rfl) (prev_bel _ _) ?_ ?_
        rotate_left
        · intro uu (pu : Prev uu _)
          go_simp
          try (with_reducible rfl)
        try simp only [List.set]
        refine wpAnyH_on (i := 4) (d := 47) (v := ?_) rfl rfl (by kernel_rfl) (by kernel_rfl) (by kernel_rfl) (fun _ _ _ h => h) (by kernel_rfl) (prev_bel _ _) ?_ ?_
        rotate_left
        · intro uu (pu : Prev uu _)
          go_simp
          try (with_reducible rfl)
        try simp only [List.set]
        refine wpAnyH_on (i := 6) (d := 49) (v := ?_) rfl rfl (by kernel_rfl) (by kernel_rfl) (by kernel_rfl) (fun _ _ _ h => h) (by kernel_rfl) (prev_bel _ _) ?_ ?_
        rotate_left
        · intro uu (pu : Prev uu _)
          go_simp
          try (with_reducible rfl)
        try simp only [List.set]
        refine wpAnyH_on (i := 7) (d := 50) (v := ?_) rfl rfl (by kernel_rfl) (by kernel_rfl) (by kernel_rfl) (fun _ _ _ h => h) (by kernel_rfl) (prev_bel _ _) ?_ ?_
        rotate_left
        · intro uu (pu : Prev uu _)
          go_simp
          try (with_reducible rfl)
        try simp only [List.set]
        refine wpAnyH_ready (rs := [2, 5, 8]) (by kernel_rfl) (by simp) ?_
        refine AllReadyH.cons rfl (fun K hK => ?_) (AllReadyH.cons rfl (fun K hK => ?_) (AllReadyH.cons rfl (fun K hK => ?_) AllReadyH.nil))
        · obtain ⟨gp, hgp⟩ : ∃ g : Nat, g = (World.heap ux).size := ⟨_, rfl⟩
          have HW := Lib.hid (HW.out.at (w' := ux))
          go_simp
          refine hK.out _ _ (prev_bel w _) (fun hHeld => ?_)
          clear hHeld hK K
          try dsimp only [Act.put, List.setIfInBounds_toArray, List.set_cons_zero, List.set_cons_succ]
          refine gen_boxH (fun ux _ _ => ?_)
          have HW := Lib.hid (HW.out.mk' (w' := ux) inferInstance)
          rw [← hgp] at HW ⊢
          clear hgp
          have kb := HW.out.box
          refine wpAnyH_on (i := 9) (d := 52) (v := ?_) rfl rfl (by kernel_rfl) (by kernel_rfl) (by kernel_rfl) (fun _ _ _ h => h) (by kernel_rfl) (prev_bel _ _) ?_ ?_
          rotate_left
          · intro uu (pu : Prev uu _)
            go_simp
            try (with_reducible rfl)
          try simp only [List.set]
          refine wpAnyH_ready (rs := [5, 8, 10]) (by kernel_rfl) (by simp) ?_
          refine AllReadyH.cons rfl (fun K hK => ?_) (AllReadyH.cons rfl (fun K hK => ?_) (AllReadyH.cons rfl (fun K hK => ?_) AllReadyH.nil))
          · obtain ⟨gv, hgv⟩ : ∃ g : Nat, g = (World.heap ux).size := ⟨_, rfl⟩
            have HW := Lib.hid (HW.out.at (w' := ux))
            go_simp
            refine hK.out _ _ (prev_bel w _) (fun hHeld => ?_)
            clear hHeld hK K
            try dsimp only [Act.put, List.setIfInBounds_toArray, List.set_cons_zero, List.set_cons_succ]
            refine gen_boxH (fun ux _ _ => ?_)
            have HW := Lib.hid (HW.out.mk' (w' := ux) inferInstance)
            rw [← hgv] at HW ⊢
            clear hgv
            have kb := HW.out.box
            refine wpAnyH_ready (rs := [8, 10]) (by kernel_rfl) (by simp) ?_
            refine AllReadyH.cons rfl (fun K hK => ?_) (AllReadyH.cons rfl (fun K hK => ?_) AllReadyH.nil)
            · obtain ⟨gg, hgg⟩ : ∃ g : Nat, g = (World.heap ux).size := ⟨_, rfl⟩
              have HW := Lib.hid (HW.out.at (w' := ux))
              go_simp
              refine hK.out _ _ (prev_bel w _) (fun hHeld => ?_)
              clear hHeld hK K
              try dsimp only [Act.put, List.setIfInBounds_toArray, List.set_cons_zero, List.set_cons_succ]
              refine gen_boxH (fun ux _ _ => ?_)
              have HW := Lib.hid (HW.out.mk' (w' := ux) inferInstance)
              rw [← hgg] at HW ⊢
              clear hgg
              have kb := HW.out.box
              refine wpAnyH_ready (rs := [10]) (by kernel_rfl) (by simp) ?_
              refine AllReadyH.cons rfl (fun K hK => ?_) AllReadyH.nil
              go_simp
              have HJ := Lib.hid (HW.out.set 4 (.slice (some ⟨gp, 0, none⟩) n n))
              obtain ⟨v1, hv1⟩ : ∃ W : World, W = ux.setCell ⟨t, 4, none⟩ (.slice (some ⟨gp, 0, none⟩) n n) := ⟨_, rfl⟩
              rw [← hv1] at HJ ⊢
              clear hv1 HW
              obtain ⟨HW, -⟩ : _ ∧ True := ⟨HJ, trivial⟩
              clear HJ
              have pv1 := HW.out.pr
              have kb := HW.out.box
              refine hK.out _ _ pv1 (fun hHeld => ?_)
              clear hHeld hK K
              try dsimp only [Act.put, List.setIfInBounds_toArray, List.set_cons_zero, List.set_cons_succ]
              obtain ⟨ux, rfl⟩ : ∃ W : World, W = v1 := ⟨_, rfl⟩
              refine wpAnyH_on (i := 11) (d := 53) (v := ?_) rfl rfl (by kernel_rfl) (by kernel_rfl) (by kernel_rfl) (fun _ _ _ h => h) (by kernel_rfl) (prev_bel _ _) ?_ ?_
              rotate_left
              · intro uu (pu : Prev uu _)
                go_simp
                try (with_reducible rfl)
              try simp only [List.set]
              refine wpAnyH_ready (rs := [12]) (by kernel_rfl) (by simp) ?_
              refine AllReadyH.cons rfl (fun K hK => ?_) AllReadyH.nil
              go_simp
              have HJ := Lib.hid (HW.out.set 5 (.slice (some ⟨gv, 0, none⟩) n n))
              obtain ⟨v2, hv2⟩ : ∃ W : World, W = ux.setCell ⟨t, 5, none⟩ (.slice (some ⟨gv, 0, none⟩) n n) := ⟨_, rfl⟩
              rw [← hv2] at HJ ⊢
              clear hv2 HW
              obtain ⟨HW, -⟩ : _ ∧ True := ⟨HJ, trivial⟩
              clear HJ
              have pv2 := HW.out.pr
              have kb := HW.out.box
              refine hK.out _ _ pv2 (fun hHeld => ?_)
              clear hHeld hK K
              try dsimp only [Act.put, List.setIfInBounds_toArray, List.set_cons_zero, List.set_cons_succ]
              obtain ⟨ux, rfl⟩ : ∃ W : World, W = v2 := ⟨_, rfl⟩
              refine wpAnyH_on (i := 13) (d := 54) (v := ?_) rfl rfl (by kernel_rfl) (by kernel_rfl) (by kernel_rfl) (fun _ _ _ h => h) (by kernel_rfl) (prev_bel _ _) ?_ ?_
              rotate_left
              · intro uu (pu : Prev uu _)
                go_simp
                try (with_reducible rfl)
              try simp only [List.set]
              refine wpAnyH_ready (rs := [14]) (by kernel_rfl) (by simp) ?_
              refine AllReadyH.cons rfl (fun K hK => ?_) AllReadyH.nil
              go_simp
              have HJ := Lib.hid (HW.out.set 6 (.slice (some ⟨gg, 0, none⟩) n n))
              obtain ⟨v3, hv3⟩ : ∃ W : World, W = ux.setCell ⟨t, 6, none⟩ (.slice (some ⟨gg, 0, none⟩) n n) := ⟨_, rfl⟩
              rw [← hv3] at HJ ⊢
              clear hv3 HW
              obtain ⟨HW, -⟩ : _ ∧ True := ⟨HJ, trivial⟩
              clear HJ
              have pv3 := HW.out.pr
              have kb := HW.out.box
              refine hK.out _ _ pv3 (fun hHeld => ?_)
              clear hHeld hK K
              try dsimp only [Act.put, List.setIfInBounds_toArray, List.set_cons_zero, List.set_cons_succ]
              obtain ⟨ux, rfl⟩ : ∃ W : World, W = v3 := ⟨_, rfl⟩
              refine wpAnyH_done (by kernel_rfl) ?_ _
              go_wp2_with fail
              go_meet
              have ND := HW.out.nd
              simp only [List.nodup_cons, List.mem_cons, List.not_mem_nil, or_false, not_or, not_false_eq_true, and_true, List.nodup_nil] at ND
              exact ⟨gp, gv, gg, Lib.hid (HW.out.fin (by simp) (by simp) (by simp) (by rintro rfl; simp at ND) (by rintro rfl; simp at ND) (by rintro rfl; simp at ND))⟩
            · go_simp
              have HJ := Lib.hid (HW.out.set 4 (.slice (some ⟨gp, 0, none⟩) n n))
              obtain ⟨v1, hv1⟩ : ∃ W : World, W = ux.setCell ⟨t, 4, none⟩ (.slice (some ⟨gp, 0, none⟩) n n) := ⟨_, rfl⟩
              rw [← hv1] at HJ ⊢
              clear hv1 HW
              obtain ⟨HW, -⟩ : _ ∧ True := ⟨HJ, trivial⟩
              clear HJ
              have pv1 := HW.out.pr
              have kb := HW.out.box
              refine hK.out _ _ pv1 (fun hHeld => ?_)
              clear hHeld hK K
              try dsimp only [Act.put, List.setIfInBounds_toArray, List.set_cons_zero, List.set_cons_succ]
              obtain ⟨ux, rfl⟩ : ∃ W : World, W = v1 := ⟨_, rfl⟩
              refine wpAnyH_on (i := 11) (d := 53) (v := ?_) rfl rfl (by kernel_rfl) (by kernel_rfl) (by kernel_rfl) (fun _ _ _ h => h) (by kernel_rfl) (prev_bel _ _) ?_ ?_
              rotate_left
              · intro uu (pu : Prev uu _)
                go_simp
                try (with_reducible rfl)
              try simp only [List.set]
              refine wpAnyH_ready (rs := [8, 12]) (by kernel_rfl) (by simp) ?_
              refine AllReadyH.cons rfl (fun K hK => ?_) (AllReadyH.cons rfl (fun K hK => ?_) AllReadyH.nil)
              · obtain ⟨gg, hgg⟩ : ∃ g : Nat, g = (World.heap ux).size := ⟨_, rfl⟩
                have HW := Lib.hid (HW.out.at (w' := ux))
                go_simp
                refine hK.out _ _ (prev_bel w _) (fun hHeld => ?_)
                clear hHeld hK K
                try dsimp only [Act.put, List.setIfInBounds_toArray, List.set_cons_zero, List.set_cons_succ]
                refine gen_boxH (fun ux _ _ => ?_)
                have HW := Lib.hid (HW.out.mk' (w' := ux) inferInstance)
                rw [← hgg] at HW ⊢
                clear hgg
                have kb := HW.out.box
                refine wpAnyH_ready (rs := [12]) (by kernel_rfl) (by simp) ?_
                refine AllReadyH.cons rfl (fun K hK => ?_) AllReadyH.nil
                go_simp
                have HJ := Lib.hid (HW.out.set 5 (.slice (some ⟨gv, 0, none⟩) n n))
                obtain ⟨v2, hv2⟩ : ∃ W : World, W = ux.setCell ⟨t, 5, none⟩ (.slice (some ⟨gv, 0, none⟩) n n) := ⟨_, rfl⟩
                rw [← hv2] at HJ ⊢
                clear hv2 HW
                obtain ⟨HW, -⟩ : _ ∧ True := ⟨HJ, trivial⟩
                clear HJ
                have pv2 := HW.out.pr
                have kb := HW.out.box
                refine hK.out _ _ pv2 (fun hHeld => ?_)
                clear hHeld hK K
                try dsimp only [Act.put, List.setIfInBounds_toArray, List.set_cons_zero, List.set_cons_succ]
                obtain ⟨ux, rfl⟩ : ∃ W : World, W = v2 := ⟨_, rfl⟩
                refine wpAnyH_on (i := 13) (d := 54) (v := ?_) rfl rfl (by kernel_rfl) (by kernel_rfl) (by kernel_rfl) (fun _ _ _ h => h) (by kernel_rfl) (prev_bel _ _) ?_ ?_
                rotate_left
                · intro uu (pu : Prev uu _)
                  go_simp
                  try (with_reducible rfl)
                try simp only [List.set]
                refine wpAnyH_ready (rs := [14]) (by kernel_rfl) (by simp) ?_
                refine AllReadyH.cons rfl (fun K hK => ?_) AllReadyH.nil
                go_simp
                have HJ := Lib.hid (HW.out.set 6 (.slice (some ⟨gg, 0, none⟩) n n))
                obtain ⟨v3, hv3⟩ : ∃ W : World, W = ux.setCell ⟨t, 6, none⟩ (.slice (some ⟨gg, 0, none⟩) n n) := ⟨_, rfl⟩
                rw [← hv3] at HJ ⊢
                clear hv3 HW
                obtain ⟨HW, -⟩ : _ ∧ True := ⟨HJ, trivial⟩
                clear HJ
                have pv3 := HW.out.pr
                have kb := HW.out.box
                refine hK.out _ _ pv3 (fun hHeld => ?_)
                clear hHeld hK K
                try dsimp only [Act.put, List.setIfInBounds_toArray, List.set_cons_zero, List.set_cons_succ]
                obtain ⟨ux, rfl⟩ : ∃ W : World, W = v3 := ⟨_, rfl⟩
                refine wpAnyH_done (by kernel_rfl) ?_ _
                go_wp2_with fail
                go_meet
                have ND := HW.out.nd
                simp only [List.nodup_cons, List.mem_cons, List.not_mem_nil, or_false, not_or, not_false_eq_true, and_true, List.nodup_nil] at ND
                exact ⟨gp, gv, gg, Lib.hid (HW.out.fin (by simp) (by simp) (by simp) (by rintro rfl; simp at ND) (by rintro rfl; simp at ND) (by rintro rfl; simp at ND))⟩
              · go_simp
                have HJ := Lib.hid (HW.out.set 5 (.slice (some ⟨gv, 0, none⟩) n n))
                obtain ⟨v2, hv2⟩ : ∃ W : World, W = ux.setCell ⟨t, 5, none⟩ (.slice (some ⟨gv, 0, none⟩) n n) := ⟨_, rfl⟩
                rw [← hv2] at HJ ⊢
                clear hv2 HW
                obtain ⟨HW, -⟩ : _ ∧ True := ⟨HJ, trivial⟩
                clear HJ
                have pv2 := HW.out.pr
                have kb := HW.out.box
                refine hK.out _ _ pv2 (fun hHeld => ?_)
                clear hHeld hK K
                try dsimp only [Act.put, List.setIfInBounds_toArray, List.set_cons_zero, List.set_cons_succ]
                obtain ⟨ux, rfl⟩ : ∃ W : World, W = v2 := ⟨_, rfl⟩
                refine wpAnyH_ready (rs := [8]) (by kernel_rfl) (by simp) ?_
                refine AllReadyH.cons rfl (fun K hK => ?_) AllReadyH.nil
                obtain ⟨gg, hgg⟩ : ∃ g : Nat, g = (World.heap ux).size := ⟨_, rfl⟩
                have HW := Lib.hid (HW.out.at (w' := ux))
                go_simp
                refine hK.out _ _ (prev_bel w _) (fun hHeld => ?_)
                clear hHeld hK K
                try dsimp only [Act.put, List.setIfInBounds_toArray, List.set_cons_zero, List.set_cons_succ]
                refine gen_boxH (fun ux _ _ => ?_)
                have HW := Lib.hid (HW.out.mk' (w' := ux) inferInstance)
                rw [← hgg] at HW ⊢
                clear hgg
                have kb := HW.out.box
                refine wpAnyH_on (i := 13) (d := 54) (v := ?_) rfl rfl (by kernel_rfl) (by kernel_rfl) (by kernel_rfl) (fun _ _ _ h => h) (by kernel_rfl) (prev_bel _ _) ?_ ?_
                rotate_left
                · intro uu (pu : Prev uu _)
                  go_simp
                  try (with_reducible rfl)
                try simp only [List.set]
                refine wpAnyH_ready (rs := [14]) (by kernel_rfl) (by simp) ?_
                refine AllReadyH.cons rfl (fun K hK => ?_) AllReadyH.nil
                go_simp
                have HJ := Lib.hid (HW.out.set 6 (.slice (some ⟨gg, 0, none⟩) n n))
                obtain ⟨v3, hv3⟩ : ∃ W : World, W = ux.setCell ⟨t, 6, none⟩ (.slice (some ⟨gg, 0, none⟩) n n) := ⟨_, rfl⟩
                rw [← hv3] at HJ ⊢
                clear hv3 HW
                obtain ⟨HW, -⟩ : _ ∧ True := ⟨HJ, trivial⟩
                clear HJ
                have pv3 := HW.out.pr
                have kb := HW.out.box
                refine hK.out _ _ pv3 (fun hHeld => ?_)
                clear hHeld hK K
                try dsimp only [Act.put, List.setIfInBounds_toArray, List.set_cons_zero, List.set_cons_succ]
                obtain ⟨ux, rfl⟩ : ∃ W : World, W = v3 := ⟨_, rfl⟩
                refine wpAnyH_done (by kernel_rfl) ?_ _
                go_wp2_with fail
                go_meet
                have ND := HW.out.nd
                simp only [List.nodup_cons, List.mem_cons, List.not_mem_nil, or_false, not_or, not_false_eq_true, and_true, List.nodup_nil] at ND
                exact ⟨gp, gv, gg, Lib.hid (HW.out.fin (by simp) (by simp) (by simp) (by rintro rfl; simp at ND) (by rintro rfl; simp at ND) (by rintro rfl; simp at ND))⟩
          · obtain ⟨gg, hgg⟩ : ∃ g : Nat, g = (World.heap ux).size := ⟨_, rfl⟩
            have HW := Lib.hid (HW.out.at (w' := ux))
            go_simp
            refine hK.out _ _ (prev_bel w _) (fun hHeld => ?_)
            clear hHeld hK K
            try dsimp only [Act.put, List.setIfInBounds_toArray, List.set_cons_zero, List.set_cons_succ]
            refine gen_boxH (fun ux _ _ => ?_)
            have HW := Lib.hid (HW.out.mk' (w' := ux) inferInstance)
            rw [← hgg] at HW ⊢
            clear hgg
            have kb := HW.out.box
            refine wpAnyH_ready (rs := [5, 10]) (by kernel_rfl) (by simp) ?_
            refine AllReadyH.cons rfl (fun K hK => ?_) (AllReadyH.cons rfl (fun K hK => ?_) AllReadyH.nil)
            · obtain ⟨gv, hgv⟩ : ∃ g : Nat, g = (World.heap ux).size := ⟨_, rfl⟩
              have HW := Lib.hid (HW.out.at (w' := ux))
              go_simp
              refine hK.out _ _ (prev_bel w _) (fun hHeld => ?_)
              clear hHeld hK K
              try dsimp only [Act.put, List.setIfInBounds_toArray, List.set_cons_zero, List.set_cons_succ]
              refine gen_boxH (fun ux _ _ => ?_)
              have HW := Lib.hid (HW.out.mk' (w' := ux) inferInstance)
              rw [← hgv] at HW ⊢
              clear hgv
              have kb := HW.out.box
              refine wpAnyH_ready (rs := [10]) (by kernel_rfl) (by simp) ?_
              refine AllReadyH.cons rfl (fun K hK => ?_) AllReadyH.nil
              go_simp
              have HJ := Lib.hid (HW.out.set 4 (.slice (some ⟨gp, 0, none⟩) n n))
              obtain ⟨v1, hv1⟩ : ∃ W : World, W = ux.setCell ⟨t, 4, none⟩ (.slice (some ⟨gp, 0, none⟩) n n) := ⟨_, rfl⟩
              rw [← hv1] at HJ ⊢
              clear hv1 HW
              obtain ⟨HW, -⟩ : _ ∧ True := ⟨HJ, trivial⟩
              clear HJ
              have pv1 := HW.out.pr
              have kb := HW.out.box
              refine hK.out _ _ pv1 (fun hHeld => ?_)
              clear hHeld hK K
              try dsimp only [Act.put, List.setIfInBounds_toArray, List.set_cons_zero, List.set_cons_succ]
              obtain ⟨ux, rfl⟩ : ∃ W : World, W = v1 := ⟨_, rfl⟩
              refine wpAnyH_on (i := 11) (d := 53) (v := ?_) rfl rfl (by kernel_rfl) (by kernel_rfl) (by kernel_rfl) (fun _ _ _ h => h) (by kernel_rfl) (prev_bel _ _) ?_ ?_
              rotate_left
              · intro uu (pu : Prev uu _)
                go_simp
                try (with_reducible rfl)
              try simp only [List.set]
              refine wpAnyH_ready (rs := [12]) (by kernel_rfl) (by simp) ?_
              refine AllReadyH.cons rfl (fun K hK => ?_) AllReadyH.nil
              go_simp
              have HJ := Lib.hid (HW.out.set 5 (.slice (some ⟨gv, 0, none⟩) n n))
              obtain ⟨v2, hv2⟩ : ∃ W : World, W = ux.setCell ⟨t, 5, none⟩ (.slice (some ⟨gv, 0, none⟩) n n) := ⟨_, rfl⟩
              rw [← hv2] at HJ ⊢
              clear hv2 HW
              obtain ⟨HW, -⟩ : _ ∧ True := ⟨HJ, trivial⟩
              clear HJ
              have pv2 := HW.out.pr
              have kb := HW.out.box
              refine hK.out _ _ pv2 (fun hHeld => ?_)
              clear hHeld hK K
              try dsimp only [Act.put, List.setIfInBounds_toArray, List.set_cons_zero, List.set_cons_succ]
              obtain ⟨ux, rfl⟩ : ∃ W : World, W = v2 := ⟨_, rfl⟩
              refine wpAnyH_on (i := 13) (d := 54) (v := ?_) rfl rfl (by kernel_rfl) (by kernel_rfl) (by kernel_rfl) (fun _ _ _ h => h) (by kernel_rfl) (prev_bel _ _) ?_ ?_
              rotate_left
              · intro uu (pu : Prev uu _)
                go_simp
                try (with_reducible rfl)
              try simp only [List.set]
              refine wpAnyH_ready (rs := [14]) (by kernel_rfl) (by simp) ?_
              refine AllReadyH.cons rfl (fun K hK => ?_) AllReadyH.nil
              go_simp
              have HJ := Lib.hid (HW.out.set 6 (.slice (some ⟨gg, 0, none⟩) n n))
              obtain ⟨v3, hv3⟩ : ∃ W : World, W = ux.setCell ⟨t, 6, none⟩ (.slice (some ⟨gg, 0, none⟩) n n) := ⟨_, rfl⟩
              rw [← hv3] at HJ ⊢
              clear hv3 HW
              obtain ⟨HW, -⟩ : _ ∧ True := ⟨HJ, trivial⟩
              clear HJ
              have pv3 := HW.out.pr
              have kb := HW.out.box
              refine hK.out _ _ pv3 (fun hHeld => ?_)
              clear hHeld hK K
              try dsimp only [Act.put, List.setIfInBounds_toArray, List.set_cons_zero, List.set_cons_succ]
              obtain ⟨ux, rfl⟩ : ∃ W : World, W = v3 := ⟨_, rfl⟩
              refine wpAnyH_done (by kernel_rfl) ?_ _
              go_wp2_with fail
              go_meet
              have ND := HW.out.nd
              simp only [List.nodup_cons, List.mem_cons, List.not_mem_nil, or_false, not_or, not_false_eq_true, and_true, List.nodup_nil] at ND
              exact ⟨gp, gv, gg, Lib.hid (HW.out.fin (by simp) (by simp) (by simp) (by rintro rfl; simp at ND) (by rintro rfl; simp at ND) (by rintro rfl; simp at ND))⟩
            · go_simp
              have HJ := Lib.hid (HW.out.set 4 (.slice (some ⟨gp, 0, none⟩) n n))
              obtain ⟨v1, hv1⟩ : ∃ W : World, W = ux.setCell ⟨t, 4, none⟩ (.slice (some ⟨gp, 0, none⟩) n n) := ⟨_, rfl⟩
              rw [← hv1] at HJ ⊢
              clear hv1 HW
              obtain ⟨HW, -⟩ : _ ∧ True := ⟨HJ, trivial⟩
              clear HJ
              have pv1 := HW.out.pr
              have kb := HW.out.box
              refine hK.out _ _ pv1 (fun hHeld => ?_)
              clear hHeld hK K
              try dsimp only [Act.put, List.setIfInBounds_toArray, List.set_cons_zero, List.set_cons_succ]
              obtain ⟨ux, rfl⟩ : ∃ W : World, W = v1 := ⟨_, rfl⟩
              refine wpAnyH_ready (rs := [5]) (by kernel_rfl) (by simp) ?_
              refine AllReadyH.cons rfl (fun K hK => ?_) AllReadyH.nil
              obtain ⟨gv, hgv⟩ : ∃ g : Nat, g = (World.heap ux).size := ⟨_, rfl⟩
              have HW := Lib.hid (HW.out.at (w' := ux))
              go_simp
              refine hK.out _ _ (prev_bel w _) (fun hHeld => ?_)
              clear hHeld hK K
              try dsimp only [Act.put, List.setIfInBounds_toArray, List.set_cons_zero, List.set_cons_succ]
              refine gen_boxH (fun ux _ _ => ?_)
              have HW := Lib.hid (HW.out.mk' (w' := ux) inferInstance)
              rw [← hgv] at HW ⊢
              clear hgv
              have kb := HW.out.box
              refine wpAnyH_on (i := 11) (d := 53) (v := ?_) rfl rfl (by kernel_rfl) (by kernel_rfl) (by kernel_rfl) (fun _ _ _ h => h) (by kernel_rfl) (prev_bel _ _) ?_ ?_
              rotate_left
              · intro uu (pu : Prev uu _)
                go_simp
                try (with_reducible rfl)
              try simp only [List.set]
              refine wpAnyH_ready (rs := [12]) (by kernel_rfl) (by simp) ?_
              refine AllReadyH.cons rfl (fun K hK => ?_) AllReadyH.nil
              go_simp
              have HJ := Lib.hid (HW.out.set 5 (.slice (some ⟨gv, 0, none⟩) n n))
              obtain ⟨v2, hv2⟩ : ∃ W : World, W = ux.setCell ⟨t, 5, none⟩ (.slice (some ⟨gv, 0, none⟩) n n) := ⟨_, rfl⟩
              rw [← hv2] at HJ ⊢
              clear hv2 HW
              obtain ⟨HW, -⟩ : _ ∧ True := ⟨HJ, trivial⟩
              clear HJ
              have pv2 := HW.out.pr
              have kb := HW.out.box
              refine hK.out _ _ pv2 (fun hHeld => ?_)
              clear hHeld hK K
              try dsimp only [Act.put, List.setIfInBounds_toArray, List.set_cons_zero, List.set_cons_succ]
              obtain ⟨ux, rfl⟩ : ∃ W : World, W = v2 := ⟨_, rfl⟩
              refine wpAnyH_on (i := 13) (d := 54) (v := ?_) rfl rfl (by kernel_rfl) (by kernel_rfl) (by kernel_rfl) (fun _ _ _ h => h) (by kernel_rfl) (prev_bel _ _) ?_ ?_
              rotate_left
              · intro uu (pu : Prev uu _)
                go_simp
                try (with_reducible rfl)
              try simp only [List.set]
              refine wpAnyH_ready (rs := [14]) (by kernel_rfl) (by simp) ?_
              refine AllReadyH.cons rfl (fun K hK => ?_) AllReadyH.nil
              go_simp
              have HJ := Lib.hid (HW.out.set 6 (.slice (some ⟨gg, 0, none⟩) n n))
              obtain ⟨v3, hv3⟩ : ∃ W : World, W = ux.setCell ⟨t, 6, none⟩ (.slice (some ⟨gg, 0, none⟩) n n) := ⟨_, rfl⟩
              rw [← hv3] at HJ ⊢
              clear hv3 HW
              obtain ⟨HW, -⟩ : _ ∧ True := ⟨HJ, trivial⟩
              clear HJ
              have pv3 := HW.out.pr
              have kb := HW.out.box
              refine hK.out _ _ pv3 (fun hHeld => ?_)
              clear hHeld hK K
              try dsimp only [Act.put, List.setIfInBounds_toArray, List.set_cons_zero, List.set_cons_succ]
              obtain ⟨ux, rfl⟩ : ∃ W : World, W = v3 := ⟨_, rfl⟩
              refine wpAnyH_done (by kernel_rfl) ?_ _
              go_wp2_with fail
              go_meet
              have ND := HW.out.nd
              simp only [List.nodup_cons, List.mem_cons, List.not_mem_nil, or_false, not_or, not_false_eq_true, and_true, List.nodup_nil] at ND
              exact ⟨gp, gv, gg, Lib.hid (HW.out.fin (by simp) (by simp) (by simp) (by rintro rfl; simp at ND) (by rintro rfl; simp at ND) (by rintro rfl; simp at ND))⟩
          · go_simp
            have HJ := Lib.hid (HW.out.set 4 (.slice (some ⟨gp, 0, none⟩) n n))
            obtain ⟨v1, hv1⟩ : ∃ W : World, W = ux.setCell ⟨t, 4, none⟩ (.slice (some ⟨gp, 0, none⟩) n n) := ⟨_, rfl⟩
            rw [← hv1] at HJ ⊢
            clear hv1 HW
            obtain ⟨HW, -⟩ : _ ∧ True := ⟨HJ, trivial⟩
            clear HJ
            have pv1 := HW.out.pr
            have kb := HW.out.box
            refine hK.out _ _ pv1 (fun hHeld => ?_)
            clear hHeld hK K
            try dsimp only [Act.put, List.setIfInBounds_toArray, List.set_cons_zero, List.set_cons_succ]
            obtain ⟨ux, rfl⟩ : ∃ W : World, W = v1 := ⟨_, rfl⟩
            refine wpAnyH_ready (rs := [5, 8]) (by kernel_rfl) (by simp) ?_
            refine AllReadyH.cons rfl (fun K hK => ?_) (AllReadyH.cons rfl (fun K hK => ?_) AllReadyH.nil)
            · obtain ⟨gv, hgv⟩ : ∃ g : Nat, g = (World.heap ux).size := ⟨_, rfl⟩
              have HW := Lib.hid (HW.out.at (w' := ux))
              go_simp
              refine hK.out _ _ (prev_bel w _) (fun hHeld => ?_)
              clear hHeld hK K
              try dsimp only [Act.put, List.setIfInBounds_toArray, List.set_cons_zero, List.set_cons_succ]
              refine gen_boxH (fun ux _ _ => ?_)
              have HW := Lib.hid (HW.out.mk' (w' := ux) inferInstance)
              rw [← hgv] at HW ⊢
              clear hgv
              have kb := HW.out.box
              refine wpAnyH_on (i := 11) (d := 53) (v := ?_) rfl rfl (by kernel_rfl) (by kernel_rfl) (by kernel_rfl) (fun _ _ _ h => h) (by kernel_rfl) (prev_bel _ _) ?_ ?_
              rotate_left
              · intro uu (pu : Prev uu _)
                go_simp
                try (with_reducible rfl)
              try simp only [List.set]
              refine wpAnyH_ready (rs := [8, 12]) (by kernel_rfl) (by simp) ?_
              refine AllReadyH.cons rfl (fun K hK => ?_) (AllReadyH.cons rfl (fun K hK => ?_) AllReadyH.nil)
              · obtain ⟨gg, hgg⟩ : ∃ g : Nat, g = (World.heap ux).size := ⟨_, rfl⟩
                have HW := Lib.hid (HW.out.at (w' := ux))
                go_simp
                refine hK.out _ _ (prev_bel w _) (fun hHeld => ?_)
                clear hHeld hK K
                try dsimp only [Act.put, List.setIfInBounds_toArray, List.set_cons_zero, List.set_cons_succ]
                refine gen_boxH (fun ux _ _ => ?_)
                have HW := Lib.hid (HW.out.mk' (w' := ux) inferInstance)
                rw [← hgg] at HW ⊢
                clear hgg
                have kb := HW.out.box
                refine wpAnyH_ready (rs := [12]) (by kernel_rfl) (by simp) ?_
                refine AllReadyH.cons rfl (fun K hK => ?_) AllReadyH.nil
                go_simp
                have HJ := Lib.hid (HW.out.set 5 (.slice (some ⟨gv, 0, none⟩) n n))
                obtain ⟨v2, hv2⟩ : ∃ W : World, W = ux.setCell ⟨t, 5, none⟩ (.slice (some ⟨gv, 0, none⟩) n n) := ⟨_, rfl⟩
                rw [← hv2] at HJ ⊢
                clear hv2 HW
                obtain ⟨HW, -⟩ : _ ∧ True := ⟨HJ, trivial⟩
                clear HJ
                have pv2 := HW.out.pr
                have kb := HW.out.box
                refine hK.out _ _ pv2 (fun hHeld => ?_)
                clear hHeld hK K
                try dsimp only [Act.put, List.setIfInBounds_toArray, List.set_cons_zero, List.set_cons_succ]
                obtain ⟨ux, rfl⟩ : ∃ W : World, W = v2 := ⟨_, rfl⟩
                refine wpAnyH_on (i := 13) (d := 54) (v := ?_) rfl rfl (by kernel_rfl) (by kernel_rfl) (by kernel_rfl) (fun _ _ _ h => h) (by kernel_rfl) (prev_bel _ _) ?_ ?_
                rotate_left
                · intro uu (pu : Prev uu _)
                  go_simp
                  try (with_reducible rfl)
                try simp only [List.set]
                refine wpAnyH_ready (rs := [14]) (by kernel_rfl) (by simp) ?_
                refine AllReadyH.cons rfl (fun K hK => ?_) AllReadyH.nil
                go_simp
                have HJ := Lib.hid (HW.out.set 6 (.slice (some ⟨gg, 0, none⟩) n n))
                obtain ⟨v3, hv3⟩ : ∃ W : World, W = ux.setCell ⟨t, 6, none⟩ (.slice (some ⟨gg, 0, none⟩) n n) := ⟨_, rfl⟩
                rw [← hv3] at HJ ⊢
                clear hv3 HW
                obtain ⟨HW, -⟩ : _ ∧ True := ⟨HJ, trivial⟩
                clear HJ
                have pv3 := HW.out.pr
                have kb := HW.out.box
                refine hK.out _ _ pv3 (fun hHeld => ?_)
                clear hHeld hK K
                try dsimp only [Act.put, List.setIfInBounds_toArray, List.set_cons_zero, List.set_cons_succ]
                obtain ⟨ux, rfl⟩ : ∃ W : World, W = v3 := ⟨_, rfl⟩
                refine wpAnyH_done (by kernel_rfl) ?_ _
                go_wp2_with fail
                go_meet
                have ND := HW.out.nd
                simp only [List.nodup_cons, List.mem_cons, List.not_mem_nil, or_false, not_or, not_false_eq_true, and_true, List.nodup_nil] at ND
                exact ⟨gp, gv, gg, Lib.hid (HW.out.fin (by simp) (by simp) (by simp) (by rintro rfl; simp at ND) (by rintro rfl; simp at ND) (by rintro rfl; simp at ND))⟩
              · go_simp
                have HJ := Lib.hid (HW.out.set 5 (.slice (some ⟨gv, 0, none⟩) n n))
                obtain ⟨v2, hv2⟩ : ∃ W : World, W = ux.setCell ⟨t, 5, none⟩ (.slice (some ⟨gv, 0, none⟩) n n) := ⟨_, rfl⟩
                rw [← hv2] at HJ ⊢
                clear hv2 HW
                obtain ⟨HW, -⟩ : _ ∧ True := ⟨HJ, trivial⟩
                clear HJ
                have pv2 := HW.out.pr
                have kb := HW.out.box
                refine hK.out _ _ pv2 (fun hHeld => ?_)
                clear hHeld hK K
                try dsimp only [Act.put, List.setIfInBounds_toArray, List.set_cons_zero, List.set_cons_succ]
                obtain ⟨ux, rfl⟩ : ∃ W : World, W = v2 := ⟨_, rfl⟩
                refine wpAnyH_ready (rs := [8]) (by kernel_rfl) (by simp) ?_
                refine AllReadyH.cons rfl (fun K hK => ?_) AllReadyH.nil
                obtain ⟨gg, hgg⟩ : ∃ g : Nat, g = (World.heap ux).size := ⟨_, rfl⟩
                have HW := Lib.hid (HW.out.at (w' := ux))
                go_simp
                refine hK.out _ _ (prev_bel w _) (fun hHeld => ?_)
                clear hHeld hK K
                try dsimp only [Act.put, List.setIfInBounds_toArray, List.set_cons_zero, List.set_cons_succ]
                refine gen_boxH (fun ux _ _ => ?_)
                have HW := Lib.hid (HW.out.mk' (w' := ux) inferInstance)
                rw [← hgg] at HW ⊢
                clear hgg
                have kb := HW.out.box
                refine wpAnyH_on (i := 13) (d := 54) (v := ?_) rfl rfl (by kernel_rfl) (by kernel_rfl) (by kernel_rfl) (fun _ _ _ h => h) (by kernel_rfl) (prev_bel _ _) ?_ ?_
                rotate_left
                · intro uu (pu : Prev uu _)
                  go_simp
                  try (with_reducible rfl)
                try simp only [List.set]
                refine wpAnyH_ready (rs := [14]) (by kernel_rfl) (by simp) ?_
                refine AllReadyH.cons rfl (fun K hK => ?_) AllReadyH.nil
                go_simp
                have HJ := Lib.hid (HW.out.set 6 (.slice (some ⟨gg, 0, none⟩) n n))
                obtain ⟨v3, hv3⟩ : ∃ W : World, W = ux.setCell ⟨t, 6, none⟩ (.slice (some ⟨gg, 0, none⟩) n n) := ⟨_, rfl⟩
                rw [← hv3] at HJ ⊢
                clear hv3 HW
                obtain ⟨HW, -⟩ : _ ∧ True := ⟨HJ, trivial⟩
                clear HJ
                have pv3 := HW.out.pr
                have kb := HW.out.box
                refine hK.out _ _ pv3 (fun hHeld => ?_)
                clear hHeld hK K
                try dsimp only [Act.put, List.setIfInBounds_toArray, List.set_cons_zero, List.set_cons_succ]
                obtain ⟨ux, rfl⟩ : ∃ W : World, W = v3 := ⟨_, rfl⟩
                refine wpAnyH_done (by kernel_rfl) ?_ _
                go_wp2_with fail
                go_meet
                have ND := HW.out.nd
                simp only [List.nodup_cons, List.mem_cons, List.not_mem_nil, or_false, not_or, not_false_eq_true, and_true, List.nodup_nil] at ND
                exact ⟨gp, gv, gg, Lib.hid (HW.out.fin (by simp) (by simp) (by simp) (by rintro rfl; simp at ND) (by rintro rfl; simp at ND) (by rintro rfl; simp at ND))⟩
            · obtain ⟨gg, hgg⟩ : ∃ g : Nat, g = (World.heap ux).size := ⟨_, rfl⟩
              have HW := Lib.hid (HW.out.at (w' := ux))
              go_simp
              refine hK.out _ _ (prev_bel w _) (fun hHeld => ?_)
              clear hHeld hK K
              try dsimp only [Act.put, List.setIfInBounds_toArray, List.set_cons_zero, List.set_cons_succ]
              refine gen_boxH (fun ux _ _ => ?_)
              have HW := Lib.hid (HW.out.mk' (w' := ux) inferInstance)
              rw [← hgg] at HW ⊢
              clear hgg
              have kb := HW.out.box
              refine wpAnyH_ready (rs := [5]) (by kernel_rfl) (by simp) ?_
              refine AllReadyH.cons rfl (fun K hK => ?_) AllReadyH.nil
              obtain ⟨gv, hgv⟩ : ∃ g : Nat, g = (World.heap ux).size := ⟨_, rfl⟩
              have HW := Lib.hid (HW.out.at (w' := ux))
              go_simp
              refine hK.out _ _ (prev_bel w _) (fun hHeld => ?_)
              clear hHeld hK K
              try dsimp only [Act.put, List.setIfInBounds_toArray, List.set_cons_zero, List.set_cons_succ]
              refine gen_boxH (fun ux _ _ => ?_)
              have HW := Lib.hid (HW.out.mk' (w' := ux) inferInstance)
              rw [← hgv] at HW ⊢
              clear hgv
              have kb := HW.out.box
              refine wpAnyH_on (i := 11) (d := 53) (v := ?_) rfl rfl (by kernel_rfl) (by kernel_rfl) (by kernel_rfl) (fun _ _ _ h => h) (by kernel_rfl) (prev_bel _ _) ?_ ?_
              rotate_left
              · intro uu (pu : Prev uu _)
                go_simp
                try (with_reducible rfl)
              try simp only [List.set]
              refine wpAnyH_ready (rs := [12]) (by kernel_rfl) (by simp) ?_
              refine AllReadyH.cons rfl (fun K hK => ?_) AllReadyH.nil
              go_simp
              have HJ := Lib.hid (HW.out.set 5 (.slice (some ⟨gv, 0, none⟩) n n))
              obtain ⟨v2, hv2⟩ : ∃ W : World, W = ux.setCell ⟨t, 5, none⟩ (.slice (some ⟨gv, 0, none⟩) n n) := ⟨_, rfl⟩
              rw [← hv2] at HJ ⊢
              clear hv2 HW
              obtain ⟨HW, -⟩ : _ ∧ True := ⟨HJ, trivial⟩
              clear HJ
              have pv2 := HW.out.pr
              have kb := HW.out.box
              refine hK.out _ _ pv2 (fun hHeld => ?_)
              clear hHeld hK K
              try dsimp only [Act.put, List.setIfInBounds_toArray, List.set_cons_zero, List.set_cons_succ]
              obtain ⟨ux, rfl⟩ : ∃ W : World, W = v2 := ⟨_, rfl⟩
              refine wpAnyH_on (i := 13) (d := 54) (v := ?_) rfl rfl (by kernel_rfl) (by kernel_rfl) (by kernel_rfl) (fun _ _ _ h => h) (by kernel_rfl) (prev_bel _ _) ?_ ?_
              rotate_left
              · intro uu (pu : Prev uu _)
                go_simp
                try (with_reducible rfl)
              try simp only [List.set]
              refine wpAnyH_ready (rs := [14]) (by kernel_rfl) (by simp) ?_
              refine AllReadyH.cons rfl (fun K hK => ?_) AllReadyH.nil
              go_simp
              have HJ := Lib.hid (HW.out.set 6 (.slice (some ⟨gg, 0, none⟩) n n))
              obtain ⟨v3, hv3⟩ : ∃ W : World, W = ux.setCell ⟨t, 6, none⟩ (.slice (some ⟨gg, 0, none⟩) n n) := ⟨_, rfl⟩
              rw [← hv3] at HJ ⊢
              clear hv3 HW
              obtain ⟨HW, -⟩ : _ ∧ True := ⟨HJ, trivial⟩
              clear HJ
              have pv3 := HW.out.pr
              have kb := HW.out.box
              refine hK.out _ _ pv3 (fun hHeld => ?_)
              clear hHeld hK K
              try dsimp only [Act.put, List.setIfInBounds_toArray, List.set_cons_zero, List.set_cons_succ]
              obtain ⟨ux, rfl⟩ : ∃ W : World, W = v3 := ⟨_, rfl⟩
              refine wpAnyH_done (by kernel_rfl) ?_ _
              go_wp2_with fail
              go_meet
              have ND := HW.out.nd
              simp only [List.nodup_cons, List.mem_cons, List.not_mem_nil, or_false, not_or, not_false_eq_true, and_true, List.nodup_nil] at ND
              exact ⟨gp, gv, gg, Lib.hid (HW.out.fin (by simp) (by simp) (by simp) (by rintro rfl; simp at ND) (by rintro rfl; simp at ND) (by rintro rfl; simp at ND))⟩
        · obtain ⟨gv, hgv⟩ : ∃ g : Nat, g = (World.heap ux).size := ⟨_, rfl⟩
          have HW := Lib.hid (HW.out.at (w' := ux))
          go_simp
          refine hK.out _ _ (prev_bel w _) (fun hHeld => ?_)
          clear hHeld hK K
          try dsimp only [Act.put, List.setIfInBounds_toArray, List.set_cons_zero, List.set_cons_succ]
          refine gen_boxH (fun ux _ _ => ?_)
          have HW := Lib.hid (HW.out.mk' (w' := ux) inferInstance)
          rw [← hgv] at HW ⊢
          clear hgv
          have kb := HW.out.box
          refine wpAnyH_ready (rs := [2, 8]) (by kernel_rfl) (by simp) ?_
          refine AllReadyH.cons rfl (fun K hK => ?_) (AllReadyH.cons rfl (fun K hK => ?_) AllReadyH.nil)
          · obtain ⟨gp, hgp⟩ : ∃ g : Nat, g = (World.heap ux).size := ⟨_, rfl⟩
            have HW := Lib.hid (HW.out.at (w' := ux))
            go_simp
            refine hK.out _ _ (prev_bel w _) (fun hHeld => ?_)
            clear hHeld hK K
            try dsimp only [Act.put, List.setIfInBounds_toArray, List.set_cons_zero, List.set_cons_succ]
            refine gen_boxH (fun ux _ _ => ?_)
            have HW := Lib.hid (HW.out.mk' (w' := ux) inferInstance)
            rw [← hgp] at HW ⊢
            clear hgp
            have kb := HW.out.box
            refine wpAnyH_on (i := 9) (d := 52) (v := ?_) rfl rfl (by kernel_rfl) (by kernel_rfl) (by kernel_rfl) (fun _ _ _ h => h) (by kernel_rfl) (prev_bel _ _) ?_ ?_
            rotate_left
            · intro uu (pu : Prev uu _)
              go_simp
              try (with_reducible rfl)
            try simp only [List.set]
            refine wpAnyH_ready (rs := [8, 10]) (by kernel_rfl) (by simp) ?_
            refine AllReadyH.cons rfl (fun K hK => ?_) (AllReadyH.cons rfl (fun K hK => ?_) AllReadyH.nil)
            · obtain ⟨gg, hgg⟩ : ∃ g : Nat, g = (World.heap ux).size := ⟨_, rfl⟩
              have HW := Lib.hid (HW.out.at (w' := ux))
              go_simp
              refine hK.out _ _ (prev_bel w _) (fun hHeld => ?_)
              clear hHeld hK K
              try dsimp only [Act.put, List.setIfInBounds_toArray, List.set_cons_zero, List.set_cons_succ]
              refine gen_boxH (fun ux _ _ => ?_)
              have HW := Lib.hid (HW.out.mk' (w' := ux) inferInstance)
              rw [← hgg] at HW ⊢
              clear hgg
              have kb := HW.out.box
              refine wpAnyH_ready (rs := [10]) (by kernel_rfl) (by simp) ?_
              refine AllReadyH.cons rfl (fun K hK => ?_) AllReadyH.nil
              go_simp
              have HJ := Lib.hid (HW.out.set 4 (.slice (some ⟨gp, 0, none⟩) n n))
              obtain ⟨v1, hv1⟩ : ∃ W : World, W = ux.setCell ⟨t, 4, none⟩ (.slice (some ⟨gp, 0, none⟩) n n) := ⟨_, rfl⟩
              rw [← hv1] at HJ ⊢
              clear hv1 HW
              obtain ⟨HW, -⟩ : _ ∧ True := ⟨HJ, trivial⟩
              clear HJ
              have pv1 := HW.out.pr
              have kb := HW.out.box
              refine hK.out _ _ pv1 (fun hHeld => ?_)
              clear hHeld hK K
              try dsimp only [Act.put, List.setIfInBounds_toArray, List.set_cons_zero, List.set_cons_succ]
              obtain ⟨ux, rfl⟩ : ∃ W : World, W = v1 := ⟨_, rfl⟩
              refine wpAnyH_on (i := 11) (d := 53) (v := ?_) rfl rfl (by kernel_rfl) (by kernel_rfl) (by kernel_rfl) (fun _ _ _ h => h) (by kernel_rfl) (prev_bel _ _) ?_ ?_
              rotate_left
              · intro uu (pu : Prev uu _)
                go_simp
                try (with_reducible rfl)
              try simp only [List.set]
              refine wpAnyH_ready (rs := [12]) (by kernel_rfl) (by simp) ?_
              refine AllReadyH.cons rfl (fun K hK => ?_) AllReadyH.nil
              go_simp
              have HJ := Lib.hid (HW.out.set 5 (.slice (some ⟨gv, 0, none⟩) n n))
              obtain ⟨v2, hv2⟩ : ∃ W : World, W = ux.setCell ⟨t, 5, none⟩ (.slice (some ⟨gv, 0, none⟩) n n) := ⟨_, rfl⟩
              rw [← hv2] at HJ ⊢
              clear hv2 HW
              obtain ⟨HW, -⟩ : _ ∧ True := ⟨HJ, trivial⟩
              clear HJ
              have pv2 := HW.out.pr
              have kb := HW.out.box
              refine hK.out _ _ pv2 (fun hHeld => ?_)
              clear hHeld hK K
              try dsimp only [Act.put, List.setIfInBounds_toArray, List.set_cons_zero, List.set_cons_succ]
              obtain ⟨ux, rfl⟩ : ∃ W : World, W = v2 := ⟨_, rfl⟩
              refine wpAnyH_on (i := 13) (d := 54) (v := ?_) rfl rfl (by kernel_rfl) (by kernel_rfl) (by kernel_rfl) (fun _ _ _ h => h) (by kernel_rfl) (prev_bel _ _) ?_ ?_
              rotate_left
              · intro uu (pu : Prev uu _)
                go_simp
                try (with_reducible rfl)
              try simp only [List.set]
              refine wpAnyH_ready (rs := [14]) (by kernel_rfl) (by simp) ?_
              refine AllReadyH.cons rfl (fun K hK => ?_) AllReadyH.nil
              go_simp
              have HJ := Lib.hid (HW.out.set 6 (.slice (some ⟨gg, 0, none⟩) n n))
              obtain ⟨v3, hv3⟩ : ∃ W : World, W = ux.setCell ⟨t, 6, none⟩ (.slice (some ⟨gg, 0, none⟩) n n) := ⟨_, rfl⟩
              rw [← hv3] at HJ ⊢
              clear hv3 HW
              obtain ⟨HW, -⟩ : _ ∧ True := ⟨HJ, trivial⟩
              clear HJ
              have pv3 := HW.out.pr
              have kb := HW.out.box
              refine hK.out _ _ pv3 (fun hHeld => ?_)
              clear hHeld hK K
              try dsimp only [Act.put, List.setIfInBounds_toArray, List.set_cons_zero, List.set_cons_succ]
              obtain ⟨ux, rfl⟩ : ∃ W : World, W = v3 := ⟨_, rfl⟩
              refine wpAnyH_done (by kernel_rfl) ?_ _
              go_wp2_with fail
              go_meet
              have ND := HW.out.nd
              simp only [List.nodup_cons, List.mem_cons, List.not_mem_nil, or_false, not_or, not_false_eq_true, and_true, List.nodup_nil] at ND
              exact ⟨gp, gv, gg, Lib.hid (HW.out.fin (by simp) (by simp) (by simp) (by rintro rfl; simp at ND) (by rintro rfl; simp at ND) (by rintro rfl; simp at ND))⟩
            · go_simp
              have HJ := Lib.hid (HW.out.set 4 (.slice (some ⟨gp, 0, none⟩) n n))
              obtain ⟨v1, hv1⟩ : ∃ W : World, W = ux.setCell ⟨t, 4, none⟩ (.slice (some ⟨gp, 0, none⟩) n n) := ⟨_, rfl⟩
              rw [← hv1] at HJ ⊢
              clear hv1 HW
              obtain ⟨HW, -⟩ : _ ∧ True := ⟨HJ, trivial⟩
              clear HJ
              have pv1 := HW.out.pr
              have kb := HW.out.box
              refine hK.out _ _ pv1 (fun hHeld => ?_)
              clear hHeld hK K
              try dsimp only [Act.put, List.setIfInBounds_toArray, List.set_cons_zero, List.set_cons_succ]
              obtain ⟨ux, rfl⟩ : ∃ W : World, W = v1 := ⟨_, rfl⟩
              refine wpAnyH_on (i := 11) (d := 53) (v := ?_) rfl rfl (by kernel_rfl) (by kernel_rfl) (by kernel_rfl) (fun _ _ _ h => h) (by kernel_rfl) (prev_bel _ _) ?_ ?_
              rotate_left
              · intro uu (pu : Prev uu _)
                go_simp
                try (with_reducible rfl)
              try simp only [List.set]
              refine wpAnyH_ready (rs := [8, 12]) (by kernel_rfl) (by simp) ?_
              refine AllReadyH.cons rfl (fun K hK => ?_) (AllReadyH.cons rfl (fun K hK => ?_) AllReadyH.nil)
              · obtain ⟨gg, hgg⟩ : ∃ g : Nat, g = (World.heap ux).size := ⟨_, rfl⟩
                have HW := Lib.hid (HW.out.at (w' := ux))
                go_simp
                refine hK.out _ _ (prev_bel w _) (fun hHeld => ?_)
                clear hHeld hK K
                try dsimp only [Act.put, List.setIfInBounds_toArray, List.set_cons_zero, List.set_cons_succ]
                refine gen_boxH (fun ux _ _ => ?_)
                have HW := Lib.hid (HW.out.mk' (w' := ux) inferInstance)
                rw [← hgg] at HW ⊢
                clear hgg
                have kb := HW.out.box
                refine wpAnyH_ready (rs := [12]) (by kernel_rfl) (by simp) ?_
                refine AllReadyH.cons rfl (fun K hK => ?_) AllReadyH.nil
                go_simp
                have HJ := Lib.hid (HW.out.set 5 (.slice (some ⟨gv, 0, none⟩) n n))
                obtain ⟨v2, hv2⟩ : ∃ W : World, W = ux.setCell ⟨t, 5, none⟩ (.slice (some ⟨gv, 0, none⟩) n n) := ⟨_, rfl⟩
                rw [← hv2] at HJ ⊢
                clear hv2 HW
                obtain ⟨HW, -⟩ : _ ∧ True := ⟨HJ, trivial⟩
                clear HJ
                have pv2 := HW.out.pr
                have kb := HW.out.box
                refine hK.out _ _ pv2 (fun hHeld => ?_)
                clear hHeld hK K
                try dsimp only [Act.put, List.setIfInBounds_toArray, List.set_cons_zero, List.set_cons_succ]
                obtain ⟨ux, rfl⟩ : ∃ W : World, W = v2 := ⟨_, rfl⟩
                refine wpAnyH_on (i := 13) (d := 54) (v := ?_) rfl rfl (by kernel_rfl) (by kernel_rfl) (by kernel_rfl) (fun _ _ _ h => h) (by kernel_rfl) (prev_bel _ _) ?_ ?_
                rotate_left
                · intro uu (pu : Prev uu _)
                  go_simp
                  try (with_reducible rfl)
                try simp only [List.set]
                refine wpAnyH_ready (rs := [14]) (by kernel_rfl) (by simp) ?_
                refine AllReadyH.cons rfl (fun K hK => ?_) AllReadyH.nil
                go_simp
                have HJ := Lib.hid (HW.out.set 6 (.slice (some ⟨gg, 0, none⟩) n n))
                obtain ⟨v3, hv3⟩ : ∃ W : World, W = ux.setCell ⟨t, 6, none⟩ (.slice (some ⟨gg, 0, none⟩) n n) := ⟨_, rfl⟩
                rw [← hv3] at HJ ⊢
                clear hv3 HW
                obtain ⟨HW, -⟩ : _ ∧ True := ⟨HJ, trivial⟩
                clear HJ
                have pv3 := HW.out.pr
                have kb := HW.out.box
                refine hK.out _ _ pv3 (fun hHeld => ?_)
                clear hHeld hK K
                try dsimp only [Act.put, List.setIfInBounds_toArray, List.set_cons_zero, List.set_cons_succ]
                obtain ⟨ux, rfl⟩ : ∃ W : World, W = v3 := ⟨_, rfl⟩
                refine wpAnyH_done (by kernel_rfl) ?_ _
                go_wp2_with fail
                go_meet
                have ND := HW.out.nd
                simp only [List.nodup_cons, List.mem_cons, List.not_mem_nil, or_false, not_or, not_false_eq_true, and_true, List.nodup_nil] at ND
                exact ⟨gp, gv, gg, Lib.hid (HW.out.fin (by simp) (by simp) (by simp) (by rintro rfl; simp at ND) (by rintro rfl; simp at ND) (by rintro rfl; simp at ND))⟩
              · go_simp
                have HJ := Lib.hid (HW.out.set 5 (.slice (some ⟨gv, 0, none⟩) n n))
                obtain ⟨v2, hv2⟩ : ∃ W : World, W = ux.setCell ⟨t, 5, none⟩ (.slice (some ⟨gv, 0, none⟩) n n) := ⟨_, rfl⟩
                rw [← hv2] at HJ ⊢
                clear hv2 HW
                obtain ⟨HW, -⟩ : _ ∧ True := ⟨HJ, trivial⟩
                clear HJ
                have pv2 := HW.out.pr
                have kb := HW.out.box
                refine hK.out _ _ pv2 (fun hHeld => ?_)
                clear hHeld hK K
                try dsimp only [Act.put, List.setIfInBounds_toArray, List.set_cons_zero, List.set_cons_succ]
                obtain ⟨ux, rfl⟩ : ∃ W : World, W = v2 := ⟨_, rfl⟩
                refine wpAnyH_ready (rs := [8]) (by kernel_rfl) (by simp) ?_
                refine AllReadyH.cons rfl (fun K hK => ?_) AllReadyH.nil
                obtain ⟨gg, hgg⟩ : ∃ g : Nat, g = (World.heap ux).size := ⟨_, rfl⟩
                have HW := Lib.hid (HW.out.at (w' := ux))
                go_simp
                refine hK.out _ _ (prev_bel w _) (fun hHeld => ?_)
                clear hHeld hK K
                try dsimp only [Act.put, List.setIfInBounds_toArray, List.set_cons_zero, List.set_cons_succ]
                refine gen_boxH (fun ux _ _ => ?_)
                have HW := Lib.hid (HW.out.mk' (w' := ux) inferInstance)
                rw [← hgg] at HW ⊢
                clear hgg
                have kb := HW.out.box
                refine wpAnyH_on (i := 13) (d := 54) (v := ?_) rfl rfl (by kernel_rfl) (by kernel_rfl) (by kernel_rfl) (fun _ _ _ h => h) (by kernel_rfl) (prev_bel _ _) ?_ ?_
                rotate_left
                · intro uu (pu : Prev uu _)
                  go_simp
                  try (with_reducible rfl)
                try simp only [List.set]
                refine wpAnyH_ready (rs := [14]) (by kernel_rfl) (by simp) ?_
                refine AllReadyH.cons rfl (fun K hK => ?_) AllReadyH.nil
                go_simp
                have HJ := Lib.hid (HW.out.set 6 (.slice (some ⟨gg, 0, none⟩) n n))
                obtain ⟨v3, hv3⟩ : ∃ W : World, W = ux.setCell ⟨t, 6, none⟩ (.slice (some ⟨gg, 0, none⟩) n n) := ⟨_, rfl⟩
                rw [← hv3] at HJ ⊢
                clear hv3 HW
                obtain ⟨HW, -⟩ : _ ∧ True := ⟨HJ, trivial⟩
                clear HJ
                have pv3 := HW.out.pr
                have kb := HW.out.box
                refine hK.out _ _ pv3 (fun hHeld => ?_)
                clear hHeld hK K
                try dsimp only [Act.put, List.setIfInBounds_toArray, List.set_cons_zero, List.set_cons_succ]
                obtain ⟨ux, rfl⟩ : ∃ W : World, W = v3 := ⟨_, rfl⟩
                refine wpAnyH_done (by kernel_rfl) ?_ _
                go_wp2_with fail
                go_meet
                have ND := HW.out.nd
                simp only [List.nodup_cons, List.mem_cons, List.not_mem_nil, or_false, not_or, not_false_eq_true, and_true, List.nodup_nil] at ND
                exact ⟨gp, gv, gg, Lib.hid (HW.out.fin (by simp) (by simp) (by simp) (by rintro rfl; simp at ND) (by rintro rfl; simp at ND) (by rintro rfl; simp at ND))⟩
          · obtain ⟨gg, hgg⟩ : ∃ g : Nat, g = (World.heap ux).size := ⟨_, rfl⟩
            have HW := Lib.hid (HW.out.at (w' := ux))
            go_simp
            refine hK.out _ _ (prev_bel w _) (fun hHeld => ?_)
            clear hHeld hK K
            try dsimp only [Act.put, List.setIfInBounds_toArray, List.set_cons_zero, List.set_cons_succ]
            refine gen_boxH (fun ux _ _ => ?_)
            have HW := Lib.hid (HW.out.mk' (w' := ux) inferInstance)
            rw [← hgg] at HW ⊢
            clear hgg
            have kb := HW.out.box
            refine wpAnyH_ready (rs := [2]) (by kernel_rfl) (by simp) ?_
            refine AllReadyH.cons rfl (fun K hK => ?_) AllReadyH.nil
            obtain ⟨gp, hgp⟩ : ∃ g : Nat, g = (World.heap ux).size := ⟨_, rfl⟩
            have HW := Lib.hid (HW.out.at (w' := ux))
            go_simp
            refine hK.out _ _ (prev_bel w _) (fun hHeld => ?_)
            clear hHeld hK K
            try dsimp only [Act.put, List.setIfInBounds_toArray, List.set_cons_zero, List.set_cons_succ]
            refine gen_boxH (fun ux _ _ => ?_)
            have HW := Lib.hid (HW.out.mk' (w' := ux) inferInstance)
            rw [← hgp] at HW ⊢
            clear hgp
            have kb := HW.out.box
            refine wpAnyH_on (i := 9) (d := 52) (v := ?_) rfl rfl (by kernel_rfl) (by kernel_rfl) (by kernel_rfl) (fun _ _ _ h => h) (by kernel_rfl) (prev_bel _ _) ?_ ?_
            rotate_left
            · intro uu (pu : Prev uu _)
              go_simp
              try (with_reducible rfl)
            try simp only [List.set]
            refine wpAnyH_ready (rs := [10]) (by kernel_rfl) (by simp) ?_
            refine AllReadyH.cons rfl (fun K hK => ?_) AllReadyH.nil
            go_simp
            have HJ := Lib.hid (HW.out.set 4 (.slice (some ⟨gp, 0, none⟩) n n))
            obtain ⟨v1, hv1⟩ : ∃ W : World, W = ux.setCell ⟨t, 4, none⟩ (.slice (some ⟨gp, 0, none⟩) n n) := ⟨_, rfl⟩
            rw [← hv1] at HJ ⊢
            clear hv1 HW
            obtain ⟨HW, -⟩ : _ ∧ True := ⟨HJ, trivial⟩
            clear HJ
            have pv1 := HW.out.pr
            have kb := HW.out.box
            refine hK.out _ _ pv1 (fun hHeld => ?_)
            clear hHeld hK K
            try dsimp only [Act.put, List.setIfInBounds_toArray, List.set_cons_zero, List.set_cons_succ]
            obtain ⟨ux, rfl⟩ : ∃ W : World, W = v1 := ⟨_, rfl⟩
            refine wpAnyH_on (i := 11) (d := 53) (v := ?_) rfl rfl (by kernel_rfl) (by kernel_rfl) (by kernel_rfl) (fun _ _ _ h => h) (by kernel_rfl) (prev_bel _ _) ?_ ?_
            rotate_left
            · intro uu (pu : Prev uu _)
              go_simp
              try (with_reducible rfl)
            try simp only [List.set]
            refine wpAnyH_ready (rs := [12]) (by kernel_rfl) (by simp) ?_
            refine AllReadyH.cons rfl (fun K hK => ?_) AllReadyH.nil
            go_simp
            have HJ := Lib.hid (HW.out.set 5 (.slice (some ⟨gv, 0, none⟩) n n))
            obtain ⟨v2, hv2⟩ : ∃ W : World, W = ux.setCell ⟨t, 5, none⟩ (.slice (some ⟨gv, 0, none⟩) n n) := ⟨_, rfl⟩
            rw [← hv2] at HJ ⊢
            clear hv2 HW
            obtain ⟨HW, -⟩ : _ ∧ True := ⟨HJ, trivial⟩
            clear HJ
            have pv2 := HW.out.pr
            have kb := HW.out.box
            refine hK.out _ _ pv2 (fun hHeld => ?_)
            clear hHeld hK K
            try dsimp only [Act.put, List.setIfInBounds_toArray, List.set_cons_zero, List.set_cons_succ]
            obtain ⟨ux, rfl⟩ : ∃ W : World, W = v2 := ⟨_, rfl⟩
            refine wpAnyH_on (i := 13) (d := 54) (v := ?_) rfl rfl (by kernel_rfl) (by kernel_rfl) (by kernel_rfl) (fun _ _ _ h => h) (by kernel_rfl) (prev_bel _ _) ?_ ?_
            rotate_left
            · intro uu (pu : Prev uu _)
              go_simp
              try (with_reducible rfl)
            try simp only [List.set]
            refine wpAnyH_ready (rs := [14]) (by kernel_rfl) (by simp) ?_
            refine AllReadyH.cons rfl (fun K hK => ?_) AllReadyH.nil
            go_simp
            have HJ := Lib.hid (HW.out.set 6 (.slice (some ⟨gg, 0, none⟩) n n))
            obtain ⟨v3, hv3⟩ : ∃ W : World, W = ux.setCell ⟨t, 6, none⟩ (.slice (some ⟨gg, 0, none⟩) n n) := ⟨_, rfl⟩
            rw [← hv3] at HJ ⊢
            clear hv3 HW
            obtain ⟨HW, -⟩ : _ ∧ True := ⟨HJ, trivial⟩
            clear HJ
            have pv3 := HW.out.pr
            have kb := HW.out.box
            refine hK.out _ _ pv3 (fun hHeld => ?_)
            clear hHeld hK K
            try dsimp only [Act.put, List.setIfInBounds_toArray, List.set_cons_zero, List.set_cons_succ]
            obtain ⟨ux, rfl⟩ : ∃ W : World, W = v3 := ⟨_, rfl⟩
            refine wpAnyH_done (by kernel_rfl) ?_ _
            go_wp2_with fail
            go_meet
            have ND := HW.out.nd
            simp only [List.nodup_cons, List.mem_cons, List.not_mem_nil, or_false, not_or, not_false_eq_true, and_true, List.nodup_nil] at ND
            exact ⟨gp, gv, gg, Lib.hid (HW.out.fin (by simp) (by simp) (by simp) (by rintro rfl; simp at ND) (by rintro rfl; simp at ND) (by rintro rfl; simp at ND))⟩
        · obtain ⟨gg, hgg⟩ : ∃ g : Nat, g = (World.heap ux).size := ⟨_, rfl⟩
          have HW := Lib.hid (HW.out.at (w' := ux))
          go_simp
          refine hK.out _ _ (prev_bel w _) (fun hHeld => ?_)
          clear hHeld hK K
          try dsimp only [Act.put, List.setIfInBounds_toArray, List.set_cons_zero, List.set_cons_succ]
          refine gen_boxH (fun ux _ _ => ?_)
          have HW := Lib.hid (HW.out.mk' (w' := ux) inferInstance)
          rw [← hgg] at HW ⊢
          clear hgg
          have kb := HW.out.box
          refine wpAnyH_ready (rs := [2, 5]) (by kernel_rfl) (by simp) ?_
          refine AllReadyH.cons rfl (fun K hK => ?_) (AllReadyH.cons rfl (fun K hK => ?_) AllReadyH.nil)
          · obtain ⟨gp, hgp⟩ : ∃ g : Nat, g = (World.heap ux).size := ⟨_, rfl⟩
            have HW := Lib.hid (HW.out.at (w' := ux))
            go_simp
            refine hK.out _ _ (prev_bel w _) (fun hHeld => ?_)
            clear hHeld hK K
            try dsimp only [Act.put, List.setIfInBounds_toArray, List.set_cons_zero, List.set_cons_succ]
            refine gen_boxH (fun ux _ _ => ?_)
            have HW := Lib.hid (HW.out.mk' (w' := ux) inferInstance)
            rw [← hgp] at HW ⊢
            clear hgp
            have kb := HW.out.box
            refine wpAnyH_on (i := 9) (d := 52) (v := ?_) rfl rfl (by kernel_rfl) (by kernel_rfl) (by kernel_rfl) (fun _ _ _ h => h) (by kernel_rfl) (prev_bel _ _) ?_ ?_
            rotate_left
            · intro uu (pu : Prev uu _)
              go_simp
              try (with_reducible rfl)
            try simp only [List.set]
            refine wpAnyH_ready (rs := [5, 10]) (by kernel_rfl) (by simp) ?_
            refine AllReadyH.cons rfl (fun K hK => ?_) (AllReadyH.cons rfl (fun K hK => ?_) AllReadyH.nil)
            · obtain ⟨gv, hgv⟩ : ∃ g : Nat, g = (World.heap ux).size := ⟨_, rfl⟩
              have HW := Lib.hid (HW.out.at (w' := ux))
              go_simp
              refine hK.out _ _ (prev_bel w _) (fun hHeld => ?_)
              clear hHeld hK K
              try dsimp only [Act.put, List.setIfInBounds_toArray, List.set_cons_zero, List.set_cons_succ]
              refine gen_boxH (fun ux _ _ => ?_)
              have HW := Lib.hid (HW.out.mk' (w' := ux) inferInstance)
              rw [← hgv] at HW ⊢
              clear hgv
              have kb := HW.out.box
              refine wpAnyH_ready (rs := [10]) (by kernel_rfl) (by simp) ?_
              refine AllReadyH.cons rfl (fun K hK => ?_) AllReadyH.nil
              go_simp
              have HJ := Lib.hid (HW.out.set 4 (.slice (some ⟨gp, 0, none⟩) n n))
              obtain ⟨v1, hv1⟩ : ∃ W : World, W = ux.setCell ⟨t, 4, none⟩ (.slice (some ⟨gp, 0, none⟩) n n) := ⟨_, rfl⟩
              rw [← hv1] at HJ ⊢
              clear hv1 HW
              obtain ⟨HW, -⟩ : _ ∧ True := ⟨HJ, trivial⟩
              clear HJ
              have pv1 := HW.out.pr
              have kb := HW.out.box
              refine hK.out _ _ pv1 (fun hHeld => ?_)
              clear hHeld hK K
              try dsimp only [Act.put, List.setIfInBounds_toArray, List.set_cons_zero, List.set_cons_succ]
              obtain ⟨ux, rfl⟩ : ∃ W : World, W = v1 := ⟨_, rfl⟩
              refine wpAnyH_on (i := 11) (d := 53) (v := ?_) rfl rfl (by kernel_rfl) (by kernel_rfl) (by kernel_rfl) (fun _ _ _ h => h) (by kernel_rfl) (prev_bel _ _) ?_ ?_
              rotate_left
              · intro uu (pu : Prev uu _)
                go_simp
                try (with_reducible rfl)
              try simp only [List.set]
              refine wpAnyH_ready (rs := [12]) (by kernel_rfl) (by simp) ?_
              refine AllReadyH.cons rfl (fun K hK => ?_) AllReadyH.nil
              go_simp
              have HJ := Lib.hid (HW.out.set 5 (.slice (some ⟨gv, 0, none⟩) n n))
              obtain ⟨v2, hv2⟩ : ∃ W : World, W = ux.setCell ⟨t, 5, none⟩ (.slice (some ⟨gv, 0, none⟩) n n) := ⟨_, rfl⟩
              rw [← hv2] at HJ ⊢
              clear hv2 HW
              obtain ⟨HW, -⟩ : _ ∧ True := ⟨HJ, trivial⟩
              clear HJ
              have pv2 := HW.out.pr
              have kb := HW.out.box
              refine hK.out _ _ pv2 (fun hHeld => ?_)
              clear hHeld hK K
              try dsimp only [Act.put, List.setIfInBounds_toArray, List.set_cons_zero, List.set_cons_succ]
              obtain ⟨ux, rfl⟩ : ∃ W : World, W = v2 := ⟨_, rfl⟩
              refine wpAnyH_on (i := 13) (d := 54) (v := ?_) rfl rfl (by kernel_rfl) (by kernel_rfl) (by kernel_rfl) (fun _ _ _ h => h) (by kernel_rfl) (prev_bel _ _) ?_ ?_
              rotate_left
              · intro uu (pu : Prev uu _)
                go_simp
                try (with_reducible rfl)
              try simp only [List.set]
              refine wpAnyH_ready (rs := [14]) (by kernel_rfl) (by simp) ?_
              refine AllReadyH.cons rfl (fun K hK => ?_) AllReadyH.nil
              go_simp
              have HJ := Lib.hid (HW.out.set 6 (.slice (some ⟨gg, 0, none⟩) n n))
              obtain ⟨v3, hv3⟩ : ∃ W : World, W = ux.setCell ⟨t, 6, none⟩ (.slice (some ⟨gg, 0, none⟩) n n) := ⟨_, rfl⟩
              rw [← hv3] at HJ ⊢
              clear hv3 HW
              obtain ⟨HW, -⟩ : _ ∧ True := ⟨HJ, trivial⟩
              clear HJ
              have pv3 := HW.out.pr
              have kb := HW.out.box
              refine hK.out _ _ pv3 (fun hHeld => ?_)
              clear hHeld hK K
              try dsimp only [Act.put, List.setIfInBounds_toArray, List.set_cons_zero, List.set_cons_succ]
              obtain ⟨ux, rfl⟩ : ∃ W : World, W = v3 := ⟨_, rfl⟩
              refine wpAnyH_done (by kernel_rfl) ?_ _
              go_wp2_with fail
              go_meet
              have ND := HW.out.nd
              simp only [List.nodup_cons, List.mem_cons, List.not_mem_nil, or_false, not_or, not_false_eq_true, and_true, List.nodup_nil] at ND
              exact ⟨gp, gv, gg, Lib.hid (HW.out.fin (by simp) (by simp) (by simp) (by rintro rfl; simp at ND) (by rintro rfl; simp at ND) (by rintro rfl; simp at ND))⟩
            · go_simp
              have HJ := Lib.hid (HW.out.set 4 (.slice (some ⟨gp, 0, none⟩) n n))
              obtain ⟨v1, hv1⟩ : ∃ W : World, W = ux.setCell ⟨t, 4, none⟩ (.slice (some ⟨gp, 0, none⟩) n n) := ⟨_, rfl⟩
              rw [← hv1] at HJ ⊢
              clear hv1 HW
              obtain ⟨HW, -⟩ : _ ∧ True := ⟨HJ, trivial⟩
              clear HJ
              have pv1 := HW.out.pr
              have kb := HW.out.box
              refine hK.out _ _ pv1 (fun hHeld => ?_)
              clear hHeld hK K
              try dsimp only [Act.put, List.setIfInBounds_toArray, List.set_cons_zero, List.set_cons_succ]
              obtain ⟨ux, rfl⟩ : ∃ W : World, W = v1 := ⟨_, rfl⟩
              refine wpAnyH_ready (rs := [5]) (by kernel_rfl) (by simp) ?_
              refine AllReadyH.cons rfl (fun K hK => ?_) AllReadyH.nil
              obtain ⟨gv, hgv⟩ : ∃ g : Nat, g = (World.heap ux).size := ⟨_, rfl⟩
              have HW := Lib.hid (HW.out.at (w' := ux))
              go_simp
              refine hK.out _ _ (prev_bel w _) (fun hHeld => ?_)
              clear hHeld hK K
              try dsimp only [Act.put, List.setIfInBounds_toArray, List.set_cons_zero, List.set_cons_succ]
              refine gen_boxH (fun ux _ _ => ?_)
              have HW := Lib.hid (HW.out.mk' (w' := ux) inferInstance)
              rw [← hgv] at HW ⊢
              clear hgv
              have kb := HW.out.box
              refine wpAnyH_on (i := 11) (d := 53) (v := ?_) rfl rfl (by kernel_rfl) (by kernel_rfl) (by kernel_rfl) (fun _ _ _ h => h) (by kernel_rfl) (prev_bel _ _) ?_ ?_
              rotate_left
              · intro uu (pu : Prev uu _)
                go_simp
                try (with_reducible rfl)
              try simp only [List.set]
              refine wpAnyH_ready (rs := [12]) (by kernel_rfl) (by simp) ?_
              refine AllReadyH.cons rfl (fun K hK => ?_) AllReadyH.nil
              go_simp
              have HJ := Lib.hid (HW.out.set 5 (.slice (some ⟨gv, 0, none⟩) n n))
              obtain ⟨v2, hv2⟩ : ∃ W : World, W = ux.setCell ⟨t, 5, none⟩ (.slice (some ⟨gv, 0, none⟩) n n) := ⟨_, rfl⟩
              rw [← hv2] at HJ ⊢
              clear hv2 HW
              obtain ⟨HW, -⟩ : _ ∧ True := ⟨HJ, trivial⟩
              clear HJ
              have pv2 := HW.out.pr
              have kb := HW.out.box
              refine hK.out _ _ pv2 (fun hHeld => ?_)
              clear hHeld hK K
              try dsimp only [Act.put, List.setIfInBounds_toArray, List.set_cons_zero, List.set_cons_succ]
              obtain ⟨ux, rfl⟩ : ∃ W : World, W = v2 := ⟨_, rfl⟩
              refine wpAnyH_on (i := 13) (d := 54) (v := ?_) rfl rfl (by kernel_rfl) (by kernel_rfl) (by kernel_rfl) (fun _ _ _ h => h) (by kernel_rfl) (prev_bel _ _) ?_ ?_
              rotate_left
              · intro uu (pu : Prev uu _)
                go_simp
                try (with_reducible rfl)
              try simp only [List.set]
              refine wpAnyH_ready (rs := [14]) (by kernel_rfl) (by simp) ?_
              refine AllReadyH.cons rfl (fun K hK => ?_) AllReadyH.nil
              go_simp
              have HJ := Lib.hid (HW.out.set 6 (.slice (some ⟨gg, 0, none⟩) n n))
              obtain ⟨v3, hv3⟩ : ∃ W : World, W = ux.setCell ⟨t, 6, none⟩ (.slice (some ⟨gg, 0, none⟩) n n) := ⟨_, rfl⟩
              rw [← hv3] at HJ ⊢
              clear hv3 HW
              obtain ⟨HW, -⟩ : _ ∧ True := ⟨HJ, trivial⟩
              clear HJ
              have pv3 := HW.out.pr
              have kb := HW.out.box
              refine hK.out _ _ pv3 (fun hHeld => ?_)
              clear hHeld hK K
              try dsimp only [Act.put, List.setIfInBounds_toArray, List.set_cons_zero, List.set_cons_succ]
              obtain ⟨ux, rfl⟩ : ∃ W : World, W = v3 := ⟨_, rfl⟩
              refine wpAnyH_done (by kernel_rfl) ?_ _
              go_wp2_with fail
              go_meet
              have ND := HW.out.nd
              simp only [List.nodup_cons, List.mem_cons, List.not_mem_nil, or_false, not_or, not_false_eq_true, and_true, List.nodup_nil] at ND
              exact ⟨gp, gv, gg, Lib.hid (HW.out.fin (by simp) (by simp) (by simp) (by rintro rfl; simp at ND) (by rintro rfl; simp at ND) (by rintro rfl; simp at ND))⟩
          · obtain ⟨gv, hgv⟩ : ∃ g : Nat, g = (World.heap ux).size := ⟨_, rfl⟩
            have HW := Lib.hid (HW.out.at (w' := ux))
            go_simp
            refine hK.out _ _ (prev_bel w _) (fun hHeld => ?_)
            clear hHeld hK K
            try dsimp only [Act.put, List.setIfInBounds_toArray, List.set_cons_zero, List.set_cons_succ]
            refine gen_boxH (fun ux _ _ => ?_)
            have HW := Lib.hid (HW.out.mk' (w' := ux) inferInstance)
            rw [← hgv] at HW ⊢
            clear hgv
            have kb := HW.out.box
            refine wpAnyH_ready (rs := [2]) (by kernel_rfl) (by simp) ?_
            refine AllReadyH.cons rfl (fun K hK => ?_) AllReadyH.nil
            obtain ⟨gp, hgp⟩ : ∃ g : Nat, g = (World.heap ux).size := ⟨_, rfl⟩
            have HW := Lib.hid (HW.out.at (w' := ux))
            go_simp
            refine hK.out _ _ (prev_bel w _) (fun hHeld => ?_)
            clear hHeld hK K
            try dsimp only [Act.put, List.setIfInBounds_toArray, List.set_cons_zero, List.set_cons_succ]
            refine gen_boxH (fun ux _ _ => ?_)
            have HW := Lib.hid (HW.out.mk' (w' := ux) inferInstance)
            rw [← hgp] at HW ⊢
            clear hgp
            have kb := HW.out.box
            refine wpAnyH_on (i := 9) (d := 52) (v := ?_) rfl rfl (by kernel_rfl) (by kernel_rfl) (by kernel_rfl) (fun _ _ _ h => h) (by kernel_rfl) (prev_bel _ _) ?_ ?_
            rotate_left
            · intro uu (pu : Prev uu _)
              go_simp
              try (with_reducible rfl)
            try simp only [List.set]
            refine wpAnyH_ready (rs := [10]) (by kernel_rfl) (by simp) ?_
            refine AllReadyH.cons rfl (fun K hK => ?_) AllReadyH.nil
            go_simp
            have HJ := Lib.hid (HW.out.set 4 (.slice (some ⟨gp, 0, none⟩) n n))
            obtain ⟨v1, hv1⟩ : ∃ W : World, W = ux.setCell ⟨t, 4, none⟩ (.slice (some ⟨gp, 0, none⟩) n n) := ⟨_, rfl⟩
            rw [← hv1] at HJ ⊢
            clear hv1 HW
            obtain ⟨HW, -⟩ : _ ∧ True := ⟨HJ, trivial⟩
            clear HJ
            have pv1 := HW.out.pr
            have kb := HW.out.box
            refine hK.out _ _ pv1 (fun hHeld => ?_)
            clear hHeld hK K
            try dsimp only [Act.put, List.setIfInBounds_toArray, List.set_cons_zero, List.set_cons_succ]
            obtain ⟨ux, rfl⟩ : ∃ W : World, W = v1 := ⟨_, rfl⟩
            refine wpAnyH_on (i := 11) (d := 53) (v := ?_) rfl rfl (by kernel_rfl) (by kernel_rfl) (by kernel_rfl) (fun _ _ _ h => h) (by kernel_rfl) (prev_bel _ _) ?_ ?_
            rotate_left
            · intro uu (pu : Prev uu _)
              go_simp
              try (with_reducible rfl)
            try simp only [List.set]
            refine wpAnyH_ready (rs := [12]) (by kernel_rfl) (by simp) ?_
            refine AllReadyH.cons rfl (fun K hK => ?_) AllReadyH.nil
            go_simp
            have HJ := Lib.hid (HW.out.set 5 (.slice (some ⟨gv, 0, none⟩) n n))
            obtain ⟨v2, hv2⟩ : ∃ W : World, W = ux.setCell ⟨t, 5, none⟩ (.slice (some ⟨gv, 0, none⟩) n n) := ⟨_, rfl⟩
            rw [← hv2] at HJ ⊢
            clear hv2 HW
            obtain ⟨HW, -⟩ : _ ∧ True := ⟨HJ, trivial⟩
            clear HJ
            have pv2 := HW.out.pr
            have kb := HW.out.box
            refine hK.out _ _ pv2 (fun hHeld => ?_)
            clear hHeld hK K
            try dsimp only [Act.put, List.setIfInBounds_toArray, List.set_cons_zero, List.set_cons_succ]
            obtain ⟨ux, rfl⟩ : ∃ W : World, W = v2 := ⟨_, rfl⟩
            refine wpAnyH_on (i := 13) (d := 54) (v := ?_) rfl rfl (by kernel_rfl) (by kernel_rfl) (by kernel_rfl) (fun _ _ _ h => h) (by kernel_rfl) (prev_bel _ _) ?_ ?_
            rotate_left
            · intro uu (pu : Prev uu _)
              go_simp
              try (with_reducible rfl)
            try simp only [List.set]
            refine wpAnyH_ready (rs := [14]) (by kernel_rfl) (by simp) ?_
            refine AllReadyH.cons rfl (fun K hK => ?_) AllReadyH.nil
            go_simp
            have HJ := Lib.hid (HW.out.set 6 (.slice (some ⟨gg, 0, none⟩) n n))
            obtain ⟨v3, hv3⟩ : ∃ W : World, W = ux.setCell ⟨t, 6, none⟩ (.slice (some ⟨gg, 0, none⟩) n n) := ⟨_, rfl⟩
            rw [← hv3] at HJ ⊢
            clear hv3 HW
            obtain ⟨HW, -⟩ : _ ∧ True := ⟨HJ, trivial⟩
            clear HJ
            have pv3 := HW.out.pr
            have kb := HW.out.box
            refine hK.out _ _ pv3 (fun hHeld => ?_)
            clear hHeld hK K
            try dsimp only [Act.put, List.setIfInBounds_toArray, List.set_cons_zero, List.set_cons_succ]
            obtain ⟨ux, rfl⟩ : ∃ W : World, W = v3 := ⟨_, rfl⟩
            refine wpAnyH_done (by kernel_rfl) ?_ _
            go_wp2_with fail
            go_meet
            have ND := HW.out.nd
            simp only [List.nodup_cons, List.mem_cons, List.not_mem_nil, or_false, not_or, not_false_eq_true, and_true, List.nodup_nil] at ND
            exact ⟨gp, gv, gg, Lib.hid (HW.out.fin (by simp) (by simp) (by simp) (by rintro rfl; simp at ND) (by rintro rfl; simp at ND) (by rintro rfl; simp at ND))⟩
      case rest =>
        obtain ⟨gp, gv, gg, HW⟩ := hcut
        have kb := HW.out.box
        have kp := HW.out.p
        have pr := HW.out.pr
        have e0 : (boolC (List.replicate n false))[0]? = some (.bool false) := boolC_get (by rw [List.getElem?_replicate, if_pos (by omega)])
        have hnew : ({ pr := (List.replicate n false).set 0 true, sv := List.replicate n false, gr := List.replicate n false, em := false, sd := false, la := m, wo := 0, pk := 0, co := 0 } : Wk) = Wk.new c.n := by rw [HN.out, HM.out]; rfl
        have hn0 : 0 < n := by omega
        have HW2 := HW.out.setP 0 true
        rw [hnew] at HW2
        have HW3 := Lib.hid HW2
        clear hnew HW2
        go_upto_region 13 with fail
        obtain ⟨v, hv⟩ : ∃ v : World, v = wc.setCell ⟨gp, 0, none⟩ (.bool true) := ⟨_, rfl⟩
        rw [← hv] at HW3 ⊢
        clear hv HW e0 kb kp pr
        have pr := HW3.out.pr
        go_wp2_with fail
        go_loopw [60] (fun x wr => ∃ (j : Nat) (s : Wk), j ≤ k ∧ x = .int .i64 j ∧ Hid (WkM w wr t gp gv gg A n p B m q cap s) ∧ Hid ((c.run cap .new (ps.take j)).1 = 0 ∧ c.Sim cap j s (c.run cap .new (ps.take j)).2)) (fun x _ => k - (intOf x).toNat)
        case atStart => exact ⟨0, Wk.new c.n, Nat.zero_le _, rfl, HW3, Lib.hid ⟨rfl, Ch.Sim.new⟩⟩
        case round =>
          obtain ⟨j, s, hj, rfl, HW, HS⟩ := hrel
          have pr := HW.out.pr
          by_cases hlt : j < k
          · obtain ⟨b1, o1, x, y, rfl, ob1, v1, v2, e1⟩ := i.get hlt
            have hmem : (x, y) ∈ ps := List.mem_of_getElem? e1.out
            have hxr : insR x y = true := List.all_eq_true.1 H1.out _ hmem
            have hyn : y ≤ (c.n : Int) := of_decide_eq_true (List.all_eq_true.1 HI.out _ hmem)
            have hins := Lib.hid (insB_of hxr hyn)
            obtain ⟨d, rfl⟩ : ∃ d : Nat, y = d := ⟨y.toNat, by have := insR_0 hxr; omega⟩
            have HD := Lib.hid (Ch.Sim.do hok.out HS.out.2 hins.out)
            have HT := Lib.hid (Ch.run_snoc (k := x) (i := (d : Int)) HS.out.1)
            have HTK : Hid (ps.take (j + 1) = ps.take j ++ [(x, (d : Int))]) := Lib.hid (by rw [List.take_add_one, e1.out]; rfl)
            have HSS := Lib.hid HS.out.2
            have hj6 : j ≤ 65536 := by omega
            obtain ⟨E, hE⟩ : ∃ E, s.err c cap x d = E := ⟨_, rfl⟩
            have HE := Lib.hid hE
            by_cases h0 : E = 0
            · obtain rfl : E = 0 := h0
              have HNS : Hid ((c.run cap .new (ps.take (j + 1))).1 = 0 ∧ c.Sim cap (j + 1) (s.step c x d) (c.run cap .new (ps.take (j + 1))).2) := Lib.hid ⟨by rw [HTK.out, HT.out, HD.out.1, HE.out], by rw [HTK.out, HT.out]; exact HD.out.2 (by rw [HD.out.1, HE.out])⟩
              clear hE hmem hxr hyn e1
              go_wp2_with (go_at_call 56; (with_reducible refine gen_boxK (fun u _ _ => ?_)); (with_reducible refine (ch_do hok (HW.out.at (w' := u)).hd hins HSS hj6).mono ?_); rintro e u ⟨rfl, pu, hu⟩; rw [HE.out])
              go_roundw
              case rel => exact ⟨j + 1, s.step c x d, by omega, by go_num, Lib.hid (hu.out HE.out), HNS⟩
              case measure => simp [intOf]; omega
            · have hne : (E != 0) = true := by rw [bne_iff_ne]; exact h0
              have HR : Hid (c.walkS cap ps = (0, 0, E)) := Lib.hid (by
                have h1 : c.run cap .new (ps.take (j + 1)) = c.doI cap (c.run cap .new (ps.take j)).2 x d := by rw [HTK.out, HT.out]
                have h2 : (c.run cap .new (ps.take (j + 1))).1 = E := by rw [h1, HD.out.1, hE]
                have h3 : c.run cap .new ps = c.run cap .new (ps.take (j + 1)) := by
                  conv => lhs; rw [← List.take_append_drop (j + 1) ps]
                  exact Ch.run_stop (by rw [h2]; exact h0)
                rw [Ch.walkS, h3, h2, if_neg h0])
              clear hE h0 hmem hxr hyn e1
              go_wp2_with (go_at_call 56; (with_reducible refine gen_boxK (fun u _ _ => ?_)); (with_reducible refine (ch_do hok (HW.out.at (w' := u)).hd hins HSS hj6).mono ?_); rintro e u ⟨rfl, pu, hu⟩; rw [HE.out])
              go_ret3
              exact ⟨by rw [HWR.out, HR.out]; rfl, pu⟩
          · have hps : ps.take j = ps := List.take_of_length_le (by rw [← HK.out]; omega)
            have HS2 : Hid ((c.run cap .new ps).1 = 0 ∧ c.Sim cap j s (c.run cap .new ps).2) := Lib.hid (by have := HS.out; rwa [hps] at this)
            have kb := HW.out.box
            have he1 := HS2.out.2.em
            have hl1 := HS2.out.2.la
            have hc1 := HS2.out.2.co
            have hk1 := HS2.out.2.pk
            rcases he : s.em with _ | _
            · have HR : Hid (c.walkS cap ps = (0, 0, 28)) := Lib.hid (by rw [Ch.walkS, if_pos HS2.out.1, if_pos (.inl (by rw [he1, he]; rfl))])
              clear he1 hl1 hc1 hk1 hps
              by_cases hl : 0 < s.la
              · go_wp2_with fail
                go_ret3
                exact ⟨by rw [HWR.out, HR.out]; rfl, prev_bel _ _⟩
              · go_wp2_with fail
                go_ret3
                exact ⟨by rw [HWR.out, HR.out]; rfl, prev_bel _ _⟩
            · by_cases hl : 0 < s.la
              · have HR : Hid (c.walkS cap ps = (0, 0, 28)) := Lib.hid (by rw [Ch.walkS, if_pos HS2.out.1, if_pos (.inr (by omega))])
                clear he1 hl1 hc1 hk1 hps
                go_wp2_with fail
                go_ret3
                exact ⟨by rw [HWR.out, HR.out]; rfl, prev_bel _ _⟩
              · have HR : Hid (c.walkS cap ps = (s.co, s.pk, 0)) := Lib.hid (by rw [Ch.walkS, if_pos HS2.out.1, if_neg (by rw [he1, he]; simp; omega), ← hc1, ← hk1])
                clear he1 hl1 hc1 hk1 hps
                go_wp2_with fail
                refine wp_region_up0 (by kernel_rfl) (fun uz _ => ?_)
                refine wpAnyH_on (i := 0) (d := 78) (v := ?_) rfl rfl (by kernel_rfl) (by kernel_rfl) (by kernel_rfl) (fun _ _ _ h => h) (by kernel_rfl) (prev_bel _ _) ?_ ?_
                rotate_left
                · intro uu (pu : Prev uu _)
                  go_simp
                  try (with_reducible rfl)
                try simp only [List.set]
                refine wpAnyH_on (i := 1) (d := 79) (v := ?_) rfl rfl (by kernel_rfl) (by kernel_rfl) (by kernel_rfl) (fun _ _ _ h => h) (by kernel_rfl) (prev_bel _ _) ?_ ?_
                rotate_left
                · intro uu (pu : Prev uu _)
                  go_simp
                  try (with_reducible rfl)
                try simp only [List.set]
                refine wpAnyH_on (i := 2) (d := 80) (v := ?_) rfl rfl (by kernel_rfl) (by kernel_rfl) (by kernel_rfl) (fun _ _ _ h => h) (by kernel_rfl) (prev_bel _ _) ?_ ?_
                rotate_left
                · intro uu (pu : Prev uu _)
                  go_simp
                  try (with_reducible rfl)
                try simp only [List.set]
                refine wpAnyH_on (i := 3) (d := 81) (v := ?_) rfl rfl (by kernel_rfl) (by kernel_rfl) (by kernel_rfl) (fun _ _ _ h => h) (by kernel_rfl) (prev_bel _ _) ?_ ?_
                rotate_left
                · intro uu (pu : Prev uu _)
                  go_simp
                  try (with_reducible rfl)
                try simp only [List.set]
                refine wpAnyH_on (i := 4) (d := 6) (v := ?_) rfl rfl (by kernel_rfl) (by kernel_rfl) (by kernel_rfl) (fun _ _ _ h => h) (by kernel_rfl) (prev_bel _ _) ?_ ?_
                rotate_left
                · intro uu (pu : Prev uu _)
                  go_simp
                  try (with_reducible rfl)
                try simp only [List.set]
                refine wpAnyH_on (i := 5) (d := 7) (v := ?_) rfl rfl (by kernel_rfl) (by kernel_rfl) (by kernel_rfl) (fun _ _ _ h => h) (by kernel_rfl) (prev_bel _ _) ?_ ?_
                rotate_left
                · intro uu (pu : Prev uu _)
                  go_simp
                  try (with_reducible rfl)
                try simp only [List.set]
                refine wpAnyH_on (i := 6) (d := 8) (v := ?_) rfl rfl (by kernel_rfl) (by kernel_rfl) (by kernel_rfl) (fun _ _ _ h => h) (by kernel_rfl) (prev_bel _ _) ?_ ?_
                rotate_left
                · intro uu (pu : Prev uu _)
                  go_simp
                  try (with_reducible rfl)
                try simp only [List.set]
                refine wpAnyH_done (by kernel_rfl) ?_ _
                go_wp2_with fail
                go_ret3
                exact ⟨by rw [HWR.out, HR.out]; rfl, prev_bel _ _⟩
end

end Go.Proofs.Ytphcffcecncngaa
