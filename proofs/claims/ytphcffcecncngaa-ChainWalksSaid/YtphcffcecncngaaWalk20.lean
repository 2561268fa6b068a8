/- athanorlaw20: walk. -/
import Derived.Test.YtphcffcecncngaaDo20i
import Derived.Test.YtphcffcecncngaaChainRun
namespace Go.Proofs.Ytphcffcecncngaa
open Go.RowKit

/-- What Do returns, in letters. -/
def RetE20 (z : Nat) (w : World) (err : Int) (T S G : List Int) (em sd dn pk co : Int) (e : Ending) (w' : World) : Prop :=
  ∃ TA tc SA sc GA gc, e = .returned (.tuple #[.agg (stC TA tc T SA sc S GA gc G em sd dn pk co), .int .i64 err]) ∧ Sl w' TA T.length T ∧ Sl w' SA S.length S ∧ Sl w' GA G.length G ∧ Lw z w' TA ∧ Lw z w' SA ∧ Lw z w' GA ∧ Prev w' w
/-- May an instruction be, in this chain? -/
def Ch.oneB (c : Ch) (x : Int × Int) : Bool := insR x.1 x.2 && decide (x.2 ≤ (c.n : Int))
theorem Ch.oneB_all {c : Ch} : ∀ {ps : List (Int × Int)}, ps.all c.oneB = (insAll ps && c.inAll ps)
  | [] => rfl
  | x :: l => by
    have h := Ch.oneB_all (c := c) (ps := l)
    unfold insAll Ch.inAll at h ⊢
    rw [List.all_cons, List.all_cons, List.all_cons, h, Ch.oneB]
    cases insR x.1 x.2 <;> cases decide (x.2 ≤ (c.n : Int)) <;> cases l.all (fun x => insR x.1 x.2) <;> rfl
section
variable {w w' w0 u : World} {A B I TA SA GA TA' SA' GA' : Option Addr} {n m p q k kq tc sc gc tc' sc' gc' kB sB z N : Nat} {c : Ch} {cap X Y Z em sd dn pk co em' sd' dn' pk' co' E kind id : Int} {ps : List (Int × Int)} {CC : Array Value} {T S G T' S' G' : List Int}
theorem r20_doE (hok : Hid c.Ok) [a : Sl w A n c.W] [b : Sl w B m c.K] [Sl w TA T.length T] [Sl w SA S.length S] [Sl w GA G.length G] (lT : Hid (Lw z w TA)) (lS : Hid (Lw z w SA)) (lG : Hid (Lw z w GA))
    (hi : Hid (insB c.n kind id = true)) (hN : N ≤ 100000) (HX : Hid (∃ s, c.Sim cap N s ⟨T, S, G, em, sd, dn, pk, co⟩)) (kT : T.length ≤ N) (kS : S.length ≤ N) (kG : G.length ≤ N)
    (hv : Hid (c.doI cap ⟨T, S, G, em, sd, dn, pk, co⟩ kind id = (E, ⟨T', S', G', em', sd', dn', pk', co'⟩))) :
    Calls Try.prog 54 #[.slice A n p, .slice B m q, .int .i64 cap, .agg (stC TA tc T SA sc S GA gc G em sd dn pk co), .int .i64 kind, .int .i64 id] w (RetE20 z w E T' S' G' em' sd' dn' pk' co') := by
  have h := r20_do (n := n) (m := m) (p := p) (q := q) (tc := tc) (sc := sc) (gc := gc) hok lT lS lG hi hN HX kT kS kG (A := A) (B := B)
  rw [hv.out] at h
  exact h
/-- The reference's walk in the making. -/
structure WM (w0 w : World) (kB sB : Nat) (CC : Array Value) (TA : Option Addr) (tc : Nat) (T : List Int) (SA : Option Addr) (sc : Nat) (S : List Int) (GA : Option Addr) (gc : Nat) (G : List Int) (em sd dn pk co : Int) : Prop where
  pr : Prev w w0
  cx : Bx w kB 24 CC
  bx : Bx w sB 106 (stC TA tc T SA sc S GA gc G em sd dn pk co)
  hT : Sl w TA T.length T
  hS : Sl w SA S.length S
  hG : Sl w GA G.length G
  fT : Lw sB w TA
  fS : Lw sB w SA
  fG : Lw sB w GA
  hs : w0.heap.size ≤ sB
  ne : kB ≠ sB
theorem WM.lw [l : Later w w'] (h : WM w0 w kB sB CC TA tc T SA sc S GA gc G em sd dn pk co) : Hid (Lw sB w' TA) ∧ Hid (Lw sB w' SA) ∧ Hid (Lw sB w' GA) := ⟨Lib.hid h.fT.at, Lib.hid h.fS.at, Lib.hid h.fG.at⟩
/-- The new state is stored. -/
theorem WM.put (h : WM w0 w kB sB CC TA tc T SA sc S GA gc G em sd dn pk co) [l : Later w u] (zT : Sl u TA' T'.length T') (zS : Sl u SA' S'.length S') (zG : Sl u GA' G'.length G') (yT : Lw sB u TA') (yS : Lw sB u SA') (yG : Lw sB u GA') :
    WM w0 ((((((((u.setCell ⟨sB, 0, none⟩ (.slice TA' T'.length tc')).setCell ⟨sB, 1, none⟩ (.slice SA' S'.length sc')).setCell ⟨sB, 2, none⟩ (.slice GA' G'.length gc')).setCell ⟨sB, 3, none⟩ (.int .i64 em')).setCell ⟨sB, 4, none⟩ (.int .i64 sd')).setCell ⟨sB, 5, none⟩ (.int .i64 dn')).setCell ⟨sB, 6, none⟩ (.int .i64 pk')).setCell ⟨sB, 7, none⟩ (.int .i64 co')) kB sB CC TA' tc' T' SA' sc' S' GA' gc' G' em' sd' dn' pk' co' := by
  have hp := h.pr
  have l0 : Later w0 w := inferInstance
  have : Later w0 u := Later.trans l0 l
  have hcx : Bx u kB 24 CC := ⟨h.cx.blk.at⟩
  have hbx : Bx u sB 106 (stC TA tc T SA sc S GA gc G em sd dn pk co) := ⟨h.bx.blk.at⟩
  have far : ∀ (i : Nat) (v : Value) (W : World), Bx W kB 24 CC → Bx (W.setCell ⟨sB, i, none⟩ v) kB 24 CC := fun i v W hW => ⟨(Below.heap_setCell _ ⟨sB, i, none⟩ _ _ h.ne).trans hW.blk⟩
  refine ⟨⟨put8_bel (bel w0 u) h.hs⟩, far _ _ _ (far _ _ _ (far _ _ _ (far _ _ _ (far _ _ _ (far _ _ _ (far _ _ _ (far _ _ _ hcx))))))), ⟨put8_blk hbx.blk⟩,
    put8_far zT fun ad e => (yT.2 ad e).2, put8_far zS fun ad e => (yS.2 ad e).2, put8_far zG fun ad e => (yG.2 ad e).2, put8_lw yT, put8_lw yS, put8_lw yG, h.hs, h.ne⟩
set_option maxRecDepth 100000 in
set_option maxHeartbeats 8000000 in
theorem a20_walk (hk : k ≤ 100000) (h0 : c.okB = true) [a : Sl w A n c.W] [b : Sl w B m c.K] [i : Is w I k ps] : Calls Try.prog 17 #[.agg #[.slice A n p, .slice B m q], .int .i64 cap, .slice I k kq] w (RetV w (trip (c.walkR cap ps))) := by
  have CB := @cell_bx
  have CP := @cell_prev
  have FB := @frozen_bx
  have hok := Lib.hid (Ch.ok_of h0)
  have H0 := Lib.hid h0
  have HK : Hid (k = ps.length) := Lib.hid i.len
  have HM : Hid (m = c.n) := Lib.hid b.len
  have HN : Hid (n = c.n + 1) := Lib.hid (a.len.trans hok.out.len)
  have m64 : m ≤ 64 := by rw [HM.out]; exact hok.out.n2
  clear h0
  go_enter Try.func17, Try.ntmps17
  go_wp2_with fail
  go_loopw [17] (fun i wr => ∃ j : Nat, j ≤ k ∧ i = .int .i64 j ∧ Hid ((ps.take j).all c.oneB = true) ∧ Bx wr w.heap.size 24 #[.slice A n p, .slice B m q] ∧ Bx wr (w.heap.size + 1) 106 stZ ∧ Prev wr w) (fun i _ => k - (intOf i).toNat)
  case atStart => exact ⟨0, Nat.zero_le _, rfl, Lib.hid rfl, inferInstance, inferInstance, prev_bel _ _⟩
  case round =>
    obtain ⟨j, hj, rfl, HV, kC, kS, hp⟩ := hrel
    by_cases hlt : j < k
    · obtain ⟨b1, o1, x, y, rfl, ob1, v1, v2, e1⟩ := i.get hlt
      rcases hr : insR x y with _ | _
      · have HT : Hid (c.walkR cap ps = (0, 0, 10)) := Lib.hid (by
          have h : ps.all c.oneB = false := all_badP e1.out (by rw [Ch.oneB, hr]; rfl)
          rw [Ch.oneB_all] at h
          rw [Ch.walkR, H0.out, Bool.true_and, h]; rfl)
        clear e1
        go_wp2_with (first | (go_at_call 53; (try first | (with_reducible refine gen_boxK3 (fun u _ _ _ _ => ?_)) | (with_reducible refine gen_boxK2 (fun u _ _ _ => ?_)) | (with_reducible refine gen_boxK (fun u _ _ => ?_))); (with_reducible refine (r17_right).mono ?_); rintro e u ⟨rfl, _⟩))
        go_ret3
        exact ⟨by rw [HT.out]; rfl, prev_bel _ _⟩
      by_cases hy : y ≤ (m : Int)
      · have HV2 := Lib.hid (all_takeP HV.out e1.out (by rw [Ch.oneB, hr, ← HM.out, decide_eq_true hy]; rfl))
        clear e1
        go_wp2_with (first | (go_at_call 53; (try first | (with_reducible refine gen_boxK3 (fun u _ _ _ _ => ?_)) | (with_reducible refine gen_boxK2 (fun u _ _ _ => ?_)) | (with_reducible refine gen_boxK (fun u _ _ => ?_))); (with_reducible refine (r17_right).mono ?_); rintro e u ⟨rfl, _⟩))
        go_roundw
        case rel => exact ⟨j + 1, by omega, by go_num, HV2, inferInstance, inferInstance, prev_bel _ _⟩
        case measure => simp [intOf]; omega
      · have HT : Hid (c.walkR cap ps = (0, 0, 10)) := Lib.hid (by
          have h : ps.all c.oneB = false := all_badP e1.out (by rw [Ch.oneB, hr, ← HM.out, decide_eq_false hy]; rfl)
          rw [Ch.oneB_all] at h
          rw [Ch.walkR, H0.out, Bool.true_and, h]; rfl)
        clear e1
        go_wp2_with (first | (go_at_call 53; (try first | (with_reducible refine gen_boxK3 (fun u _ _ _ _ => ?_)) | (with_reducible refine gen_boxK2 (fun u _ _ _ => ?_)) | (with_reducible refine gen_boxK (fun u _ _ => ?_))); (with_reducible refine (r17_right).mono ?_); rintro e u ⟨rfl, _⟩))
        go_ret3
        exact ⟨by rw [HT.out]; rfl, prev_bel _ _⟩
    · have HA : Hid (insAll ps = true ∧ c.inAll ps = true) := Lib.hid (by
        have h := all_endP HV.out (by rw [← HK.out]; omega)
        rw [Ch.oneB_all, Bool.and_eq_true] at h
        exact h)
      have HWR : Hid (c.walkR cap ps = c.walkS cap ps) := Lib.hid (by rw [Ch.walkR, H0.out, HA.out.1, HA.out.2]; rfl)
      have hsz : w.heap.size + 1 < wr.heap.size := kS.blk.lt
      obtain ⟨sB, hsB⟩ : ∃ sB : Nat, sB = w.heap.size + 1 := ⟨_, rfl⟩
      have HW : Hid (WM w wr w.heap.size sB #[.slice A n p, .slice B m q] none 0 [] none 0 [] none 0 [] 0 0 0 0 0) := Lib.hid ⟨prev_bel _ _, kC, by rw [hsB]; exact kS, ⟨Rd.nil _ _, rfl⟩, ⟨Rd.nil _ _, rfl⟩, ⟨Rd.nil _ _, rfl⟩, ⟨by omega, by simp⟩, ⟨by omega, by simp⟩, ⟨by omega, by simp⟩, by omega, by omega⟩
      rw [← hsB] at kS ⊢
      clear hsB hsz
      go_wp2_with fail
      go_loopw [38] (fun x wr => ∃ (j : Nat) (TA : Option Addr) (tc : Nat) (T : List Int) (SA : Option Addr) (sc : Nat) (S : List Int) (GA : Option Addr) (gc : Nat) (G : List Int) (em sd dn pk co : Int), j ≤ k ∧ x = .int .i64 j ∧ Hid (WM w wr w.heap.size sB #[.slice A n p, .slice B m q] TA tc T SA sc S GA gc G em sd dn pk co) ∧ Hid (c.run cap .new (ps.take j) = (0, ⟨T, S, G, em, sd, dn, pk, co⟩)) ∧ Hid (∃ s, c.Sim cap j s ⟨T, S, G, em, sd, dn, pk, co⟩) ∧ T.length ≤ j ∧ S.length ≤ j ∧ G.length ≤ j) (fun x _ => k - (intOf x).toNat)
      case atStart => exact ⟨0, none, 0, [], none, 0, [], none, 0, [], 0, 0, 0, 0, 0, Nat.zero_le _, rfl, HW, Lib.hid rfl, Lib.hid ⟨_, Ch.Sim.new⟩, Nat.zero_le _, Nat.zero_le _, Nat.zero_le _⟩
      case round =>
        clear hlt hj HV kC kS hp HW
        obtain ⟨j, TA, tc, T, SA, sc, S, GA, gc, G, em, sd, dn, pk, co, hj, rfl, HW, HR, HX, kT, kS, kG⟩ := hrel
        have pr := HW.out.pr
        have kC := HW.out.cx
        have kb := HW.out.bx
        have eT := HW.out.hT
        have eS := HW.out.hS
        have eG := HW.out.hG
        by_cases hlt : j < k
        · obtain ⟨b1, o1, x, y, rfl, ob1, v1, v2, e1⟩ := i.get hlt
          have hmem : (x, y) ∈ ps := List.mem_of_getElem? e1.out
          have hxr : insR x y = true := List.all_eq_true.1 HA.out.1 _ hmem
          have hyn : y ≤ (c.n : Int) := of_decide_eq_true (List.all_eq_true.1 HA.out.2 _ hmem)
          have hins := Lib.hid (insB_of hxr hyn)
          obtain ⟨d, rfl⟩ : ∃ d : Nat, y = d := ⟨y.toNat, by have := insR_0 hxr; omega⟩
          have HTK : Hid (ps.take (j + 1) = ps.take j ++ [(x, (d : Int))]) := Lib.hid (by rw [List.take_add_one, e1.out]; rfl)
          have HT : Hid (c.run cap .new (ps.take (j + 1)) = c.doI cap ⟨T, S, G, em, sd, dn, pk, co⟩ x d) := Lib.hid (by rw [HTK.out, Ch.run_snoc (by rw [HR.out]), HR.out])
          obtain ⟨E, T', S', G', em', sd', dn', pk', co', hD⟩ : ∃ E T' S' G' em' sd' dn' pk' co', c.doI cap ⟨T, S, G, em, sd, dn, pk, co⟩ x d = (E, ⟨T', S', G', em', sd', dn', pk', co'⟩) := ⟨_, _, _, _, _, _, _, _, _, rfl⟩
          have HD := Lib.hid hD
          obtain ⟨l1, l2, l3⟩ := Ch.doI_len (c := c) (cap := cap) (kind := x) (id := (d : Int)) (t := ⟨T, S, G, em, sd, dn, pk, co⟩) kT kS kG
          rw [hD] at l1 l2 l3
          have kT' : T'.length ≤ j + 1 := l1
          have kS' : S'.length ≤ j + 1 := l2
          have kG' : G'.length ≤ j + 1 := l3
          have hj6 : j ≤ 100000 := by omega
          clear hD hmem hxr hyn e1 l1 l2 l3
          go_upto_region 13 with (go_at_call 54; (with_reducible refine gen_boxK (fun u _ _ => ?_)); obtain ⟨f1, f2, f3⟩ := HW.out.lw (w' := u); (with_reducible refine (r20_doE hok f1 f2 f3 hins hj6 HX kT kS kG HD).mono ?_); rintro e u ⟨TA', tc', SA', sc', GA', gc', rfl, zT, zS, zG, yT, yS, yG, pu⟩)
          have HJ := Lib.hid (HW.out.put (u := u) (tc' := tc') (sc' := sc') (gc' := gc') (em' := em') (sd' := sd') (dn' := dn') (pk' := pk') (co' := co') zT zS zG yT yS yG)
          obtain ⟨v, hv⟩ : ∃ v : World, v = ((((((((u.setCell ⟨sB, 0, none⟩ (.slice TA' T'.length tc')).setCell ⟨sB, 1, none⟩ (.slice SA' S'.length sc')).setCell ⟨sB, 2, none⟩ (.slice GA' G'.length gc')).setCell ⟨sB, 3, none⟩ (.int .i64 em')).setCell ⟨sB, 4, none⟩ (.int .i64 sd')).setCell ⟨sB, 5, none⟩ (.int .i64 dn')).setCell ⟨sB, 6, none⟩ (.int .i64 pk')).setCell ⟨sB, 7, none⟩ (.int .i64 co')) := ⟨_, rfl⟩
          rw [← hv] at HJ ⊢
          clear hv HW
          have pv := HJ.out.pr
          by_cases hE : E = 0
          · have HNX : Hid (∃ s, c.Sim cap (j + 1) s ⟨T', S', G', em', sd', dn', pk', co'⟩) := Lib.hid (by
              obtain ⟨s, hs⟩ := HX.out
              have h1 := (Ch.Sim.do hok.out hs hins.out).2
              rw [HD.out] at h1
              exact ⟨_, h1 hE⟩)
            have HNR : Hid (c.run cap .new (ps.take (j + 1)) = (0, ⟨T', S', G', em', sd', dn', pk', co'⟩)) := Lib.hid (by rw [HT.out, HD.out, hE])
            obtain rfl := hE
            go_wp2_with fail
            go_roundw
            case rel => exact ⟨j + 1, TA', tc', T', SA', sc', S', GA', gc', G', em', sd', dn', pk', co', by omega, by go_num, HJ, HNR, HNX, kT', kS', kG'⟩
            case measure => simp [intOf]; omega
          · have hne : (E != 0) = true := by rw [bne_iff_ne]; exact hE
            have HF : Hid (c.walkS cap ps = (0, 0, E)) := Lib.hid (by
              have h2 : (c.run cap .new (ps.take (j + 1))).1 = E := by rw [HT.out, HD.out]
              have h3 : c.run cap .new ps = c.run cap .new (ps.take (j + 1)) := by
                conv => lhs; rw [← List.take_append_drop (j + 1) ps]
                exact Ch.run_stop (by rw [h2]; exact hE)
              rw [Ch.walkS, h3, h2, if_neg hE])
            clear hE
            go_wp2_with fail
            go_ret3
            exact ⟨by rw [HWR.out, HF.out]; rfl, prev_bel _ _⟩
        · have hps : ps.take j = ps := List.take_of_length_le (by rw [← HK.out]; omega)
          have HR2 : Hid (c.run cap .new ps = (0, ⟨T, S, G, em, sd, dn, pk, co⟩)) := Lib.hid (by rw [← hps]; exact HR.out)
          have HWS : Hid (c.walkS cap ps = if em = 0 ∨ dn < (m : Int) then (0, 0, 28) else (co, pk, 0)) := Lib.hid (by rw [Ch.walkS, HR2.out, if_pos rfl, HM.out])
          clear hps
          by_cases he : em = 0
          · have t1 : (em == 0) = true := by simpa using he
            have HF : Hid (c.walkS cap ps = (0, 0, 28)) := Lib.hid (by rw [HWS.out, if_pos (.inl he)])
            clear he
            go_wp2_with fail
            go_ret3
            exact ⟨by rw [HWR.out, HF.out]; rfl, prev_bel _ _⟩
          · have t1 : (em == 0) = false := by simpa using he
            by_cases hd : dn < (m : Int)
            · have HF : Hid (c.walkS cap ps = (0, 0, 28)) := Lib.hid (by rw [HWS.out, if_pos (.inr hd)])
              clear he
              go_wp2_with fail
              go_ret3
              exact ⟨by rw [HWR.out, HF.out]; rfl, prev_bel _ _⟩
            · have HF : Hid (c.walkS cap ps = (co, pk, 0)) := Lib.hid (by rw [HWS.out, if_neg (by omega)])
              clear he
              go_wp2_with fail
              refine wp_region_up0 (by kernel_rfl) (fun uz _ => ?_)
              refine wpAnyH_on (i := 0) (d := 71) (v := ?_) rfl rfl (by kernel_rfl) (by kernel_rfl) (by kernel_rfl) (fun _ _ _ h => h) (by kernel_rfl) (prev_bel _ _) ?_ ?_
              rotate_left
              · intro uu (pu : Prev uu _)
                go_simp
                try (with_reducible rfl)
              try simp only [List.set]
              refine wpAnyH_on (i := 1) (d := 72) (v := ?_) rfl rfl (by kernel_rfl) (by kernel_rfl) (by kernel_rfl) (fun _ _ _ h => h) (by kernel_rfl) (prev_bel _ _) ?_ ?_
              rotate_left
              · intro uu (pu : Prev uu _)
                go_simp
                try (with_reducible rfl)
              try simp only [List.set]
              refine wpAnyH_on (i := 2) (d := 73) (v := ?_) rfl rfl (by kernel_rfl) (by kernel_rfl) (by kernel_rfl) (fun _ _ _ h => h) (by kernel_rfl) (prev_bel _ _) ?_ ?_
              rotate_left
              · intro uu (pu : Prev uu _)
                go_simp
                try (with_reducible rfl)
              try simp only [List.set]
              refine wpAnyH_on (i := 3) (d := 74) (v := ?_) rfl rfl (by kernel_rfl) (by kernel_rfl) (by kernel_rfl) (fun _ _ _ h => h) (by kernel_rfl) (prev_bel _ _) ?_ ?_
              rotate_left
              · intro uu (pu : Prev uu _)
                go_simp
                try (with_reducible rfl)
              try simp only [List.set]
              refine wpAnyH_on (i := 4) (d := 6) (v := ?_) rfl rfl (by kernel_rfl) (by kernel_rfl) (by kernel_rfl) (fun _ _ _ h => h) (by kernel_rfl) (prev_bel _ _) ?_ ?_
              rotate_left
              · intro uu (pu : Prev uu _)
                go_simp
                try (with_reducible rfl)
              try simp only [List.set]
              refine wpAnyH_on (i := 5) (d := 7) (v := ?_) rfl rfl (by kernel_rfl) (by kernel_rfl) (by kernel_rfl) (fun _ _ _ h => h) (by kernel_rfl) (prev_bel _ _) ?_ ?_
              rotate_left
              · intro uu (pu : Prev uu _)
                go_simp
                try (with_reducible rfl)
              try simp only [List.set]
              refine wpAnyH_on (i := 6) (d := 8) (v := ?_) rfl rfl (by kernel_rfl) (by kernel_rfl) (by kernel_rfl) (fun _ _ _ h => h) (by kernel_rfl) (prev_bel _ _) ?_ ?_
              rotate_left
              · intro uu (pu : Prev uu _)
                go_simp
                try (with_reducible rfl)
              try simp only [List.set]
              refine wpAnyH_done (by kernel_rfl) ?_ _
              go_wp2_with fail
              go_ret3
              exact ⟨by rw [HWR.out, HF.out]; rfl, prev_bel _ _⟩
theorem ch_walkV (hx : Hid (c.walkR cap ps = (X, Y, Z))) (hk : k ≤ 65536) [a : Sl w A n c.W] [b : Sl w B m c.K] [i : Is w I k ps] : Calls Try.prog 18 #[.agg #[.slice A n p, .slice B m q], .int .i64 cap, .slice I k kq] w (RetV w (.tuple #[.int .i64 X, .int .i64 Y, .int .i64 Z])) := by
  have h := ch_walk (A := A) (B := B) (p := p) (q := q) (I := I) (kq := kq) (c := c) (cap := cap) (ps := ps) (w := w) (n := n) (m := m) hk
  rw [hx.out] at h
  exact h
theorem a20_walkV (hx : Hid (c.walkR cap ps = (X, Y, Z))) (hk : k ≤ 100000) (h0 : c.okB = true) [a : Sl w A n c.W] [b : Sl w B m c.K] [i : Is w I k ps] : Calls Try.prog 17 #[.agg #[.slice A n p, .slice B m q], .int .i64 cap, .slice I k kq] w (RetV w (.tuple #[.int .i64 X, .int .i64 Y, .int .i64 Z])) := by
  have h := a20_walk (A := A) (B := B) (p := p) (q := q) (I := I) (kq := kq) (c := c) (cap := cap) (ps := ps) (w := w) (n := n) (m := m) hk h0
  rw [hx.out] at h
  exact h
end
end Go.Proofs.Ytphcffcecncngaa
