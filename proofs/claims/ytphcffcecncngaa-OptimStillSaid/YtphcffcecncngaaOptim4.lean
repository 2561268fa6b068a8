/- optim.State.Step. -/
import Derived.Test.YtphcffcecncngaaOptim3
namespace Go.Proofs.Ytphcffcecncngaa
open Go.RowKit

def xsAt (ts : List Tn) (j i : Nat) : Int := ((ts[j]?.map Tn.xs).getD []).getD i 0
theorem xsAt_of {ts : List Tn} {j i : Nat} {t : Tn} {z : Int} (h : ts[j]? = some t) (hz : t.xs[i]? = some z) : xsAt ts j i = z := by
  simp [xsAt, h, List.getD_eq_getElem?_getD, hz]
/-- A row of parameters, a row of momentum, behind a step. -/
def rowP (m d cl rt : Int) (ts us gs : List Tn) (j : Nat) (t : Tn) : List Int := mix (fun i => hyP m d cl rt (xsAt ts j i) (xsAt us j i) (xsAt gs j i)) t.xs t.xs.length
def rowV (m d cl : Int) (ts us gs : List Tn) (j : Nat) (t : Tn) : List Int := mix (fun i => hyV m d cl (xsAt ts j i) (xsAt us j i) (xsAt gs j i)) t.xs t.xs.length
theorem setl_same {α : Type} {l : List α} {k : Nat} {x : α} (h : l[k]? = some x) : l.set k x = l := by
  apply List.ext_getElem?
  intro i
  rw [List.getElem?_set]
  by_cases e : k = i
  · subst e; rw [if_pos rfl, if_pos (List.getElem?_eq_some_iff.1 h).1, h]
  · rw [if_neg e]
theorem alikeTB_at {ts us : List Tn} (h : alikeTB ts us = true) : ts.length = us.length ∧ ∀ (j : Nat) (t u : Tn), ts[j]? = some t → us[j]? = some u → tRightB t.zs t.xs = true ∧ tRightB u.zs u.xs = true ∧ t.zs = u.zs ∧ t.xs.length = u.xs.length := by
  simp only [alikeTB, Bool.and_eq_true, decide_eq_true_eq] at h
  obtain ⟨⟨⟨h1, h2⟩, h3⟩, h4⟩ := h
  refine ⟨h1, fun j t u ht hu => ?_⟩
  have a := validB_at h2 ht
  have b := validB_at h3 hu
  have c : t.zs = u.zs := by
    have := List.all_eq_true.1 h4 (t, u) (List.mem_of_getElem? (zipT_at ht hu))
    simpa [zsE] using this
  rw [← c] at b
  exact ⟨a, by rw [← c]; exact b, c, same_len a b⟩
section
variable {w : World} {A B C : Option Addr} {n m' p' c d' e' : Nat} {ts us gs : List Tn} {r m d cl dr ev st : Int}
set_option maxRecDepth 100000 in
set_option maxHeartbeats 4000000 in
theorem op_step_shape [a : Ts w A n ts] [b : Ts w B m' us] [g : Ts w C p' gs] (hn : n ≤ 1000000) (hm : m' ≤ 1000000) (hp : p' ≤ 1000000) (hz : Hid (Mo ts)) (hz' : Hid (Mo us)) (hz'' : Hid (Mo gs)) (h : (alikeTB ts us && alikeTB ts gs) = false) :
    Calls Try.prog 37 #[.agg #[.slice A n c, .slice B m' d'], .agg #[.int .i64 r, .int .i64 m, .int .i64 d, .int .i64 cl, .int .i64 dr, .int .i64 ev], .int .i64 st, .slice C p' e'] w (RetS0 w 20) := by
  have CB := @cell_bx
  have CP := @cell_prev
  have FB := @frozen_bx
  rcases h1 : alikeTB ts us with _ | _
  · go_enter Try.func37, Try.ntmps37
    go_wp2_with (first | (go_at_call 39; (try first | (with_reducible refine gen_boxK3 (fun u _ _ _ _ => ?_)) | (with_reducible refine gen_boxK2 (fun u _ _ _ => ?_)) | (with_reducible refine gen_boxK (fun u _ _ => ?_))); (with_reducible refine (op_sright (by omega) (by omega) hz hz').mono ?_); rintro e u ⟨rfl, _⟩))
    have k3 := Blk.set2 (Bx.blk (w := u) (g := w.heap.size + 1 + 1)) (.slice none 0 0) (.slice none 0 0)
    have B3 := bset2 (bel w u) (show w.heap.size ≤ w.heap.size + 1 + 1 by omega) (.slice none 0 0) (.slice none 0 0)
    obtain ⟨r0, r1⟩ := box2 k3
    refine bodyPost_ret (v := .tuple #[.agg #[.slice none 0 0, .slice none 0 0], .int .i64 20]) (by simp [results, Try.results37, go_sem, r0, r1]) rfl ?_
    exact ⟨rfl, ⟨B3⟩⟩
  · rw [h1] at h
    have h2 : alikeTB ts gs = false := by simpa using h
    clear h
    go_enter Try.func37, Try.ntmps37
    go_wp2_with (first | (go_at_call 39; (try first | (with_reducible refine gen_boxK3 (fun u _ _ _ _ => ?_)) | (with_reducible refine gen_boxK2 (fun u _ _ _ => ?_)) | (with_reducible refine gen_boxK (fun u _ _ => ?_))); (with_reducible refine (op_sright (by omega) (by omega) hz hz').mono ?_); rintro e u ⟨rfl, _⟩) | (go_at_call 65; (try first | (with_reducible refine gen_boxK3 (fun u _ _ _ _ => ?_)) | (with_reducible refine gen_boxK2 (fun u _ _ _ => ?_)) | (with_reducible refine gen_boxK (fun u _ _ => ?_))); (with_reducible refine (op_alike (by omega) (by omega) hz hz'').mono ?_); rintro e u ⟨rfl, _⟩))
    have k3 := Blk.set2 (Bx.blk (w := u) (g := w.heap.size + 1 + 1)) (.slice none 0 0) (.slice none 0 0)
    have B3 := bset2 (bel w u) (show w.heap.size ≤ w.heap.size + 1 + 1 by omega) (.slice none 0 0) (.slice none 0 0)
    obtain ⟨r0, r1⟩ := box2 k3
    refine bodyPost_ret (v := .tuple #[.agg #[.slice none 0 0, .slice none 0 0], .int .i64 20]) (by simp [results, Try.results37, go_sem, r0, r1]) rfl ?_
    exact ⟨rfl, ⟨B3⟩⟩
set_option maxRecDepth 100000 in
set_option maxHeartbeats 4000000 in
theorem op_step_no [a : Ts w A n ts] [b : Ts w B m' us] [g : Ts w C p' gs] [I6 r] [I6 dr] (hn : n ≤ 1000000) (hm : m' ≤ 1000000) (hp : p' ≤ 1000000) (hz : Hid (Mo ts)) (hz' : Hid (Mo us)) (hz'' : Hid (Mo gs)) (h1 : alikeTB ts us = true) (h2 : alikeTB ts gs = true) (h : (hyB r m d cl dr ev && decide (0 ≤ st) && decide (st ≤ 1024)) = false) :
    Calls Try.prog 37 #[.agg #[.slice A n c, .slice B m' d'], .agg #[.int .i64 r, .int .i64 m, .int .i64 d, .int .i64 cl, .int .i64 dr, .int .i64 ev], .int .i64 st, .slice C p' e'] w (RetS0 w 11) := by
  have CB := @cell_bx
  have CP := @cell_prev
  have FB := @frozen_bx
  have HE : Hid ((if hyB r m d cl dr ev && decide (0 ≤ st) && decide (st ≤ 1024) then (0 : Int) else 11) = 11) := Lib.hid (by rw [h]; simp)
  have HR : Hid ((if hyB r m d cl dr ev && decide (0 ≤ st) && decide (st ≤ 1024) then hyAt r dr ev st else 0) = 0) := Lib.hid (by rw [h]; simp)
  clear h
  go_enter Try.func37, Try.ntmps37
  go_wp2_with (first | (go_at_call 39; (try first | (with_reducible refine gen_boxK3 (fun u _ _ _ _ => ?_)) | (with_reducible refine gen_boxK2 (fun u _ _ _ => ?_)) | (with_reducible refine gen_boxK (fun u _ _ => ?_))); (with_reducible refine (op_sright (by omega) (by omega) hz hz').mono ?_); rintro e u ⟨rfl, _⟩) | (go_at_call 65; (try first | (with_reducible refine gen_boxK3 (fun u _ _ _ _ => ?_)) | (with_reducible refine gen_boxK2 (fun u _ _ _ => ?_)) | (with_reducible refine gen_boxK (fun u _ _ => ?_))); (with_reducible refine (op_alike (by omega) (by omega) hz hz'').mono ?_); rintro e u ⟨rfl, _⟩) | (go_at_call 26; (try first | (with_reducible refine gen_boxK3 (fun u _ _ _ _ => ?_)) | (with_reducible refine gen_boxK2 (fun u _ _ _ => ?_)) | (with_reducible refine gen_boxK (fun u _ _ => ?_))); (with_reducible refine (op_at HE HR).mono ?_); rintro e u ⟨rfl, _⟩))
  have k3 := Blk.set2 (Bx.blk (w := u) (g := w.heap.size + 1 + 1)) (.slice none 0 0) (.slice none 0 0)
  have B3 := bset2 (bel w u) (show w.heap.size ≤ w.heap.size + 1 + 1 by omega) (.slice none 0 0) (.slice none 0 0)
  obtain ⟨r0, r1⟩ := box2 k3
  refine bodyPost_ret (v := .tuple #[.agg #[.slice none 0 0, .slice none 0 0], .int .i64 11]) (by simp [results, Try.results37, go_sem, r0, r1]) rfl ?_
  exact ⟨rfl, ⟨B3⟩⟩
set_option maxRecDepth 100000 in
set_option maxHeartbeats 8000000 in
theorem op_step_yes [a : Ts w A n ts] [b : Ts w B n us] [g : Ts w C n gs] [I6 r] [I6 m] [I6 d] [I6 cl] [I6 dr] (hn : n ≤ 1000000) (hz : Hid (Mo ts)) (hz' : Hid (Mo us)) (hz'' : Hid (Mo gs)) (h1 : alikeTB ts us = true) (h2 : alikeTB ts gs = true) (h : hyB r m d cl dr ev = true) (hs : 0 ≤ st) (hs' : st ≤ 1024)
    {R : Int} (hR : Hid (hyAt r dr ev st = R)) :
    Calls Try.prog 37 #[.agg #[.slice A n c, .slice B n d'], .agg #[.int .i64 r, .int .i64 m, .int .i64 d, .int .i64 cl, .int .i64 dr, .int .i64 ev], .int .i64 st, .slice C n e'] w (RetS2 w ts us n (rowP m d cl R ts us gs) (rowV m d cl ts us gs)) := by
  have CB := @cell_bx
  have CP := @cell_prev
  have FB := @frozen_bx
  have HE : Hid ((if hyB r m d cl dr ev && decide (0 ≤ st) && decide (st ≤ 1024) then (0 : Int) else 11) = 0) := Lib.hid (by rw [h]; simp; omega)
  have HR : Hid ((if hyB r m d cl dr ev && decide (0 ≤ st) && decide (st ≤ 1024) then hyAt r dr ev st else 0) = R) := Lib.hid (by rw [h, if_pos (by simp; omega)]; exact hR.out)
  have iR : I6 R := ⟨by rw [← hR.out, hyAt]; exact hyR_bd I6.bd I6.bd _⟩
  have HA := Lib.hid (alikeTB_at h1)
  have HA2 := Lib.hid (alikeTB_at h2)
  have HL := Lib.hid a.len
  have HL2 := Lib.hid b.len
  have HL3 := Lib.hid g.len
  clear h
  go_enter Try.func37, Try.ntmps37
  go_wp2_with (first | (go_at_call 39; (try first | (with_reducible refine gen_boxK3 (fun u _ _ _ _ => ?_)) | (with_reducible refine gen_boxK2 (fun u _ _ _ => ?_)) | (with_reducible refine gen_boxK (fun u _ _ => ?_))); (with_reducible refine (op_sright (by omega) (by omega) hz hz').mono ?_); rintro e u ⟨rfl, _⟩) | (go_at_call 65; (try first | (with_reducible refine gen_boxK3 (fun u _ _ _ _ => ?_)) | (with_reducible refine gen_boxK2 (fun u _ _ _ => ?_)) | (with_reducible refine gen_boxK (fun u _ _ => ?_))); (with_reducible refine (op_alike (by omega) (by omega) hz hz'').mono ?_); rintro e u ⟨rfl, _⟩) | (go_at_call 26; (try first | (with_reducible refine gen_boxK3 (fun u _ _ _ _ => ?_)) | (with_reducible refine gen_boxK2 (fun u _ _ _ => ?_)) | (with_reducible refine gen_boxK (fun u _ _ => ?_))); (with_reducible refine (op_at HE HR).mono ?_); rintro e u ⟨rfl, _⟩) | (go_at_call 36; (try first | (with_reducible refine gen_boxK3 (fun u _ _ _ _ => ?_)) | (with_reducible refine gen_boxK2 (fun u _ _ _ => ?_)) | (with_reducible refine gen_boxK (fun u _ _ => ?_))); (with_reducible refine (op_scopy (by omega) (by omega) hz hz').mono ?_); rintro e u ⟨G1, ps, G2, qs, rfl, CC, H1, H2, _⟩))
  obtain ⟨va, hva⟩ : ∃ va : World, va = u.alloc (.cells #[.slice (some ⟨G1, 0, none⟩) n n, .slice (some ⟨G2, 0, none⟩) n n] 70) := ⟨_, rfl⟩
  have pva : Prev va u := by rw [hva]; infer_instance
  have kva : Bx va u.heap.size 70 #[.slice (some ⟨G1, 0, none⟩) n n, .slice (some ⟨G2, 0, none⟩) n n] := by rw [hva]; infer_instance
  rw [← hva]
  clear hva
  obtain ⟨T, hT⟩ : ∃ T, u.heap.size = T := ⟨_, rfl⟩
  rw [hT] at kva ⊢
  have CC0 : CB2 va w.heap.size G1 n ps G2 n qs := ⟨((CC.l.less (lo' := w.heap.size) later_size).at (w' := va)), ((CC.r.less (lo' := w.heap.size) later_size).at (w' := va)), CC.ne⟩
  have UP : Hid (Upd (rowP m d cl R ts us gs) 0 ts ps) := Lib.hid H1.out.upd
  have UV : Hid (Upd (rowV m d cl ts us gs) 0 us qs) := Lib.hid H2.out.upd
  have hwT : w.heap.size ≤ T := by rw [← hT]; exact later_size
  clear CC H1 H2 hT
  go_loopw [43] (fun i wr => ∃ (k : Nat) (ps' qs' : List Cp), k ≤ n ∧ i = .int .i64 k ∧ CB2 wr w.heap.size G1 n ps' G2 n qs' ∧ Hid (Upd (rowP m d cl R ts us gs) k ts ps') ∧ Hid (Upd (rowV m d cl ts us gs) k us qs') ∧ Bx wr T 70 #[.slice (some ⟨G1, 0, none⟩) n n, .slice (some ⟨G2, 0, none⟩) n n] ∧ Bx wr (w.heap.size + 1) 47 #[.int .i64 r, .int .i64 m, .int .i64 d, .int .i64 cl, .int .i64 dr, .int .i64 ev] ∧ Bx wr (w.heap.size + 1 + 1) 70 #[.slice none 0 0, .slice none 0 0] ∧ Prev wr w) (fun i _ => n - (intOf i).toNat)
  case atStart => exact ⟨0, ps, qs, Nat.zero_le _, rfl, CC0, UP, UV, kva, inferInstance, inferInstance, prev_bel _ _⟩
  case round =>
    clear CC0 UP UV kva pva
    obtain ⟨k, ps', qs', hk, rfl, CC, UP, UV, kS, kH, kR, hp⟩ := hrel
    have hpl := UP.out.len.trans HL.out.symm
    have hql := UV.out.len.trans HL2.out.symm
    by_cases hlt : k < n
    · obtain ⟨t, ht⟩ : ∃ t, ts[k]? = some t := ⟨_, List.getElem?_eq_getElem (by rw [← HL.out]; exact hlt)⟩
      obtain ⟨v, hv⟩ : ∃ t, us[k]? = some t := ⟨_, List.getElem?_eq_getElem (by rw [← HL2.out]; exact hlt)⟩
      obtain ⟨p, hp', hpz, hpx⟩ := UP.out.get ht
      obtain ⟨q, hq', hqz, hqx⟩ := UV.out.get hv
      rw [if_neg (Nat.lt_irrefl k)] at hpx hqx
      obtain ⟨hl1, hl2⟩ := hz.out t (List.mem_of_getElem? ht)
      obtain ⟨bg, og, A3, c3, z3, B3, d3, x3, rfl, obg, qg0, qg1, sg1, tg1, -, ig, hgk⟩ := g.get hlt
      obtain ⟨-, -, -, lenV⟩ := HA.out.2 k t v ht hv
      obtain ⟨-, -, -, lenG⟩ := HA2.out.2 k t _ ht hgk.out
      simp only at lenG
      have bt : ∀ z ∈ t.xs, I64 z := a.rd.bd t (List.mem_of_getElem? ht)
      have bv : ∀ z ∈ v.xs, I64 z := b.rd.bd v (List.mem_of_getElem? hv)
      obtain ⟨p0, p1⟩ := (CC.l.len hpl).get hp'
      obtain ⟨q0, q1⟩ := (CC.r.len hql).get hq'
      have oG1 : Old G1 wr := ⟨CC.l.blk.lt⟩
      have oG2 : Old G2 wr := ⟨CC.r.blk.lt⟩
      obtain ⟨pg, pz, pg', px⟩ := p
      obtain ⟨qg, qz, qg', qx⟩ := q
      simp only at hpz hpx hqz hqx p0 p1 q0 q1
      subst hpx hqx
      obtain ⟨xs, hxs⟩ : ∃ xs, t.xs = xs := ⟨_, rfl⟩
      obtain ⟨ys, hys⟩ : ∃ ys, v.xs = ys := ⟨_, rfl⟩
      rw [hxs] at p1 hp' bt lenV lenG hl2
      rw [hys] at q1 hq' bv lenV
      obtain ⟨N, hN⟩ : ∃ N, xs.length = N := ⟨_, rfl⟩
      have hN2 : ys.length = N := by omega
      have hN3 : x3.length = N := by omega
      rw [hN] at p1 hl2
      rw [hN2] at q1
      rw [hN3] at qg1 tg1
      have HP := Lib.hid hp'
      have HQ := Lib.hid hq'
      have HXS := Lib.hid hxs
      have HYS := Lib.hid hys
      have HN1 := Lib.hid hN
      have HN2 := Lib.hid hN2
      have HN3 := Lib.hid hN3
      have HT := Lib.hid ht
      have HV := Lib.hid hv
      obtain ⟨PZ, hPZ⟩ : ∃ N, pz.length = N := ⟨_, rfl⟩
      rw [hPZ] at p0
      obtain ⟨QZ, hQZ⟩ : ∃ N, qz.length = N := ⟨_, rfl⟩
      rw [hQZ] at q0
      clear hp' hq' hxs hys hN hN2 hN3 ht hv hPZ hQZ hpz hqz hl1 lenV lenG hpl hql
      go_wp2_with fail
      refine wp_region_up0 (by kernel_rfl) (fun ux _ => ?_)
      refine wpAnyH_on (i := 0) (d := 46) (v := ?_) rfl rfl (by kernel_rfl) (by kernel_rfl) (by kernel_rfl) (fun _ _ _ h => h) (by kernel_rfl) (prev_bel _ _) ?_ ?_
      rotate_left
      · intro uu (pu : Prev uu _)
        go_simp
        try (with_reducible rfl)
      try simp only [List.set]
      refine wpAnyH_on (i := 1) (d := 47) (v := ?_) rfl rfl (by kernel_rfl) (by kernel_rfl) (by kernel_rfl) (fun _ _ _ h => h) (by kernel_rfl) (prev_bel _ _) ?_ ?_
      rotate_left
      · intro uu (pu : Prev uu _)
        go_simp
        try (with_reducible rfl)
      try simp only [List.set]
      refine wpAnyH_on (i := 2) (d := 48) (v := ?_) rfl rfl (by kernel_rfl) (by kernel_rfl) (by kernel_rfl) (fun _ _ _ h => h) (by kernel_rfl) (prev_bel _ _) ?_ ?_
      rotate_left
      · intro uu (pu : Prev uu _)
        go_simp
        try (with_reducible rfl)
      try simp only [List.set]
      refine wpAnyH_on (i := 3) (d := 49) (v := ?_) rfl rfl (by kernel_rfl) (by kernel_rfl) (by kernel_rfl) (fun _ _ _ h => h) (by kernel_rfl) (prev_bel _ _) ?_ ?_
      rotate_left
      · intro uu (pu : Prev uu _)
        go_simp
        try (with_reducible rfl)
      try simp only [List.set]
      refine wpAnyH_on (i := 4) (d := 50) (v := ?_) rfl rfl (by kernel_rfl) (by kernel_rfl) (by kernel_rfl) (fun _ _ _ h => h) (by kernel_rfl) (prev_bel _ _) ?_ ?_
      rotate_left
      · intro uu (pu : Prev uu _)
        go_simp
        try (with_reducible rfl)
      try simp only [List.set]
      refine wpAnyH_on (i := 5) (d := 51) (v := ?_) rfl rfl (by kernel_rfl) (by kernel_rfl) (by kernel_rfl) (fun _ _ _ h => h) (by kernel_rfl) (prev_bel _ _) ?_ ?_
      rotate_left
      · intro uu (pu : Prev uu _)
        go_simp
        try (with_reducible rfl)
      try simp only [List.set]
      refine wpAnyH_on (i := 6) (d := 52) (v := ?_) rfl rfl (by kernel_rfl) (by kernel_rfl) (by kernel_rfl) (fun _ _ _ h => h) (by kernel_rfl) (prev_bel _ _) ?_ ?_
      rotate_left
      · intro uu (pu : Prev uu _)
        go_simp
        try (with_reducible rfl)
      try simp only [List.set]
      refine wpAnyH_on (i := 7) (d := 53) (v := ?_) rfl rfl (by kernel_rfl) (by kernel_rfl) (by kernel_rfl) (fun _ _ _ h => h) (by kernel_rfl) (prev_bel _ _) ?_ ?_
      rotate_left
      · intro uu (pu : Prev uu _)
        go_simp
        try (with_reducible rfl)
      try simp only [List.set]
      refine wpAnyH_on (i := 8) (d := 54) (v := ?_) rfl rfl (by kernel_rfl) (by kernel_rfl) (by kernel_rfl) (fun _ _ _ h => h) (by kernel_rfl) (prev_bel _ _) ?_ ?_
      rotate_left
      · intro uu (pu : Prev uu _)
        go_simp
        try (with_reducible rfl)
      try simp only [List.set]
      refine wpAnyH_on (i := 9) (d := 55) (v := ?_) rfl rfl (by kernel_rfl) (by kernel_rfl) (by kernel_rfl) (fun _ _ _ h => h) (by kernel_rfl) (prev_bel _ _) ?_ ?_
      rotate_left
      · intro uu (pu : Prev uu _)
        go_simp
        try (with_reducible rfl)
      try simp only [List.set]
      refine wpAnyH_on (i := 10) (d := 56) (v := ?_) rfl rfl (by kernel_rfl) (by kernel_rfl) (by kernel_rfl) (fun _ _ _ h => h) (by kernel_rfl) (prev_bel _ _) ?_ ?_
      rotate_left
      · intro uu (pu : Prev uu _)
        go_simp
        try (with_reducible rfl)
      try simp only [List.set]
      refine wpAnyH_on (i := 11) (d := 57) (v := ?_) rfl rfl (by kernel_rfl) (by kernel_rfl) (by kernel_rfl) (fun _ _ _ h => h) (by kernel_rfl) (prev_bel _ _) ?_ ?_
      rotate_left
      · intro uu (pu : Prev uu _)
        go_simp
        try (with_reducible rfl)
      try simp only [List.set]
      refine wpAnyH_on (i := 12) (d := 14) (v := ?_) rfl rfl (by kernel_rfl) (by kernel_rfl) (by kernel_rfl) (fun _ _ _ h => h) (by kernel_rfl) (prev_bel _ _) ?_ ?_
      rotate_left
      · intro uu (pu : Prev uu _)
        go_simp
        try (with_reducible rfl)
      try simp only [List.set]
      refine wpAnyH_on (i := 13) (d := 15) (v := ?_) rfl rfl (by kernel_rfl) (by kernel_rfl) (by kernel_rfl) (fun _ _ _ h => h) (by kernel_rfl) (prev_bel _ _) ?_ ?_
      rotate_left
      · intro uu (pu : Prev uu _)
        go_simp
        try (with_reducible rfl)
      try simp only [List.set]
      refine wpAnyH_done (by kernel_rfl) ?_ _
      go_wp2_with fail
      obtain ⟨fP, hfP⟩ : ∃ fP : Nat → Int, (fun i => hyP m d cl R (xsAt ts k i) (xsAt us k i) (xsAt gs k i)) = fP := ⟨_, rfl⟩
      obtain ⟨fV, hfV⟩ : ∃ fV : Nat → Int, (fun i => hyV m d cl (xsAt ts k i) (xsAt us k i) (xsAt gs k i)) = fV := ⟨_, rfl⟩
      obtain ⟨PJ, hPJ⟩ : ∃ PJ : Nat → List Cp, ∀ j, PJ j = ps'.set k ⟨pg, pz, pg', mix fP xs j⟩ := ⟨fun j => _, fun j => rfl⟩
      obtain ⟨QJ, hQJ⟩ : ∃ QJ : Nat → List Cp, ∀ j, QJ j = qs'.set k ⟨qg, qz, qg', mix fV ys j⟩ := ⟨fun j => _, fun j => rfl⟩
      have HP0 : Hid (PJ 0 = ps') := Lib.hid (by rw [hPJ, mix_zero]; exact setl_same HP.out)
      have HQ0 : Hid (QJ 0 = qs') := Lib.hid (by rw [hQJ, mix_zero]; exact setl_same HQ.out)
      have UPN : Hid (Upd (rowP m d cl R ts us gs) (k + 1) ts (PJ N)) := Lib.hid (by
        rw [hPJ]
        exact UP.out.step HP.out HT.out (by rw [rowP, HXS.out, hfP, HN1.out]))
      have UVN : Hid (Upd (rowV m d cl ts us gs) (k + 1) us (QJ N)) := Lib.hid (by
        rw [hQJ]
        exact UV.out.step HQ.out HV.out (by rw [rowV, HYS.out, hfV, HN2.out]))
      have HPS : Hid (∀ j v, v = fP j → (PJ j).set k ⟨pg, pz, pg', (mix fP xs j).set j v⟩ = PJ (j + 1)) := Lib.hid (fun j v e => by rw [hPJ, hPJ, List.set_set, e, mix_set])
      have HQS : Hid (∀ j v, v = fV j → (QJ j).set k ⟨qg, qz, qg', (mix fV ys j).set j v⟩ = QJ (j + 1)) := Lib.hid (fun j v e => by rw [hQJ, hQJ, List.set_set, e, mix_set])
      have HPK : Hid (∀ j, (PJ j)[k]? = some ⟨pg, pz, pg', mix fP xs j⟩) := Lib.hid (fun j => by rw [hPJ, List.getElem?_set_self (List.getElem?_eq_some_iff.1 HP.out).1])
      have HQK : Hid (∀ j, (QJ j)[k]? = some ⟨qg, qz, qg', mix fV ys j⟩) := Lib.hid (fun j => by rw [hQJ, List.getElem?_set_self (List.getElem?_eq_some_iff.1 HQ.out).1])
      have HFP : Hid (∀ j x y z, xs[j]? = some x → ys[j]? = some y → x3[j]? = some z → hyP m d cl R x y z = fP j ∧ hyV m d cl x y z = fV j) := Lib.hid (fun j x y z h1 h2 h3 => by
        rw [← hfP, ← hfV]
        have e1 : xsAt ts k j = x := xsAt_of HT.out (by rw [HXS.out]; exact h1)
        have e2 : xsAt us k j = y := xsAt_of HV.out (by rw [HYS.out]; exact h2)
        have e3 : xsAt gs k j = z := xsAt_of hgk.out h3
        refine ⟨?_, ?_⟩ <;> simp only [e1, e2, e3])
      have CC1 : CB2 ux w.heap.size G1 n (PJ 0) G2 n (QJ 0) := by rw [HP0.out, HQ0.out]; exact CC.at
      have kS1 : Bx ux T 70 #[.slice (some ⟨G1, 0, none⟩) n n, .slice (some ⟨G2, 0, none⟩) n n] := inferInstance
      have kH1 : Bx ux (w.heap.size + 1) 47 #[.int .i64 r, .int .i64 m, .int .i64 d, .int .i64 cl, .int .i64 dr, .int .i64 ev] := inferInstance
      have kR1 : Bx ux (w.heap.size + 1 + 1) 70 #[.slice none 0 0, .slice none 0 0] := inferInstance
      clear hPJ hQJ hfP hfV UP UV CC HP0 HQ0 kS kH kR p0 p1 q0 q1 oG1 oG2 HP HQ HT HV HXS HYS hgk
      go_loopw [60] (fun i wr => ∃ j : Nat, j ≤ N ∧ i = .int .i64 j ∧ CB2 wr w.heap.size G1 n (PJ j) G2 n (QJ j) ∧ Bx wr T 70 #[.slice (some ⟨G1, 0, none⟩) n n, .slice (some ⟨G2, 0, none⟩) n n] ∧ Bx wr (w.heap.size + 1) 47 #[.int .i64 r, .int .i64 m, .int .i64 d, .int .i64 cl, .int .i64 dr, .int .i64 ev] ∧ Bx wr (w.heap.size + 1 + 1) 70 #[.slice none 0 0, .slice none 0 0] ∧ Prev wr w) (fun i _ => N - (intOf i).toNat)
      case atStart => exact ⟨0, Nat.zero_le _, rfl, CC1, kS1, kH1, kR1, prev_bel _ _⟩
      case round =>
        clear CC1 kS1 kH1 kR1 hp
        obtain ⟨j, hj, rfl, CC, kS, kH, kR, hp⟩ := hrel
        by_cases hjN : j < N
        · obtain ⟨x, hx⟩ : ∃ x, xs[j]? = some x := ⟨_, List.getElem?_eq_getElem (by rw [HN1.out]; exact hjN)⟩
          obtain ⟨y, hy⟩ : ∃ x, ys[j]? = some x := ⟨_, List.getElem?_eq_getElem (by rw [HN2.out]; exact hjN)⟩
          obtain ⟨b4, o4, z, rfl, ob4, cz, hzz⟩ := tg1.get hjN
          have ix : I6 x := ⟨bt x (List.mem_of_getElem? hx)⟩
          have iy : I6 y := ⟨bv y (List.mem_of_getElem? hy)⟩
          have iz : I6 z := ig.at hzz.out
          obtain ⟨e1, e2⟩ := HFP.out j x y z hx hy hzz.out
          have E1 := Lib.hid e1
          have E2 := Lib.hid e2
          have oP := (CC.l.el _ (List.mem_of_getElem? (HPK.out j))).2.1
          have oQ := (CC.r.el _ (List.mem_of_getElem? (HQK.out j))).2.1
          have gP := (CC.l.el _ (List.mem_of_getElem? (HPK.out j))).2.2.2
          have gQ := (CC.r.el _ (List.mem_of_getElem? (HQK.out j))).2.2.2
          simp only at oP oQ gP gQ
          have cP := oP.cell (mix_at (f := fP) hx)
          have cQ := oQ.cell (mix_at (f := fV) hy)
          have oldP : Old pg' wr := ⟨oP.lt⟩
          have oldQ : Old qg' wr := ⟨oQ.lt⟩
          have HX := Lib.hid hx
          have HY := Lib.hid hy
          clear hx hy e1 e2
          go_wp2_with fail
          refine wp_region_upR w (fun w9 => Bx w9 (w.heap.size + 1) 47 #[.int .i64 r, .int .i64 m, .int .i64 d, .int .i64 cl, .int .i64 dr, .int .i64 ev]) (by kernel_rfl) inferInstance (fun vx _ => ?_)
          refine wpAnyH_on (i := 0) (d := 64) (v := ?_) rfl rfl (by kernel_rfl) (by kernel_rfl) (by kernel_rfl) (fun _ _ _ h => h) (by kernel_rfl) ⟨prev_bel _ _, inferInstance⟩ ?_ ?_
          rotate_left
          · rintro uu ⟨pu, r1⟩
            go_simp
            try (with_reducible rfl)
          try simp only [List.set]
          refine wpAnyH_on (i := 1) (d := 65) (v := ?_) rfl rfl (by kernel_rfl) (by kernel_rfl) (by kernel_rfl) (fun _ _ _ h => h) (by kernel_rfl) ⟨prev_bel _ _, inferInstance⟩ ?_ ?_
          rotate_left
          · rintro uu ⟨pu, r1⟩
            go_simp
            try (with_reducible rfl)
          try simp only [List.set]
          refine wpAnyH_on (i := 2) (d := 66) (v := ?_) rfl rfl (by kernel_rfl) (by kernel_rfl) (by kernel_rfl) (fun _ _ _ h => h) (by kernel_rfl) ⟨prev_bel _ _, inferInstance⟩ ?_ ?_
          rotate_left
          · rintro uu ⟨pu, r1⟩
            go_simp
            try (with_reducible rfl)
          try simp only [List.set]
          refine wpAnyH_on (i := 3) (d := 67) (v := ?_) rfl rfl (by kernel_rfl) (by kernel_rfl) (by kernel_rfl) (fun _ _ _ h => h) (by kernel_rfl) ⟨prev_bel _ _, inferInstance⟩ ?_ ?_
          rotate_left
          · rintro uu ⟨pu, r1⟩
            go_simp
            try (with_reducible rfl)
          try simp only [List.set]
          refine wpAnyH_on (i := 4) (d := 68) (v := ?_) rfl rfl (by kernel_rfl) (by kernel_rfl) (by kernel_rfl) (fun _ _ _ h => h) (by kernel_rfl) ⟨prev_bel _ _, inferInstance⟩ ?_ ?_
          rotate_left
          · rintro uu ⟨pu, r1⟩
            go_simp
            try (with_reducible rfl)
          try simp only [List.set]
          refine wpAnyH_on (i := 5) (d := 69) (v := ?_) rfl rfl (by kernel_rfl) (by kernel_rfl) (by kernel_rfl) (fun _ _ _ h => h) (by kernel_rfl) ⟨prev_bel _ _, inferInstance⟩ ?_ ?_
          rotate_left
          · rintro uu ⟨pu, r1⟩
            go_simp
            try (with_reducible rfl)
          try simp only [List.set]
          refine wpAnyH_on (i := 6) (d := 70) (v := ?_) rfl rfl (by kernel_rfl) (by kernel_rfl) (by kernel_rfl) (fun _ _ _ h => h) (by kernel_rfl) ⟨prev_bel _ _, inferInstance⟩ ?_ ?_
          rotate_left
          · rintro uu ⟨pu, r1⟩
            go_simp
            try (with_reducible rfl)
          try simp only [List.set]
          refine wpAnyH_on (i := 7) (d := 71) (v := ?_) rfl rfl (by kernel_rfl) (by kernel_rfl) (by kernel_rfl) (fun _ _ _ h => h) (by kernel_rfl) ⟨prev_bel _ _, inferInstance⟩ ?_ ?_
          rotate_left
          · rintro uu ⟨pu, r1⟩
            go_simp
            try (with_reducible rfl)
          try simp only [List.set]
          refine wpAnyH_on (i := 9) (d := 73) (v := ?_) rfl rfl (by kernel_rfl) (by kernel_rfl) (by kernel_rfl) (fun _ _ _ h => h) (by kernel_rfl) ⟨prev_bel _ _, inferInstance⟩ ?_ ?_
          rotate_left
          · rintro uu ⟨pu, r1⟩
            go_simp
            try (with_reducible rfl)
          try simp only [List.set]
          refine wpAnyH_on (i := 10) (d := 74) (v := ?_) rfl rfl (by kernel_rfl) (by kernel_rfl) (by kernel_rfl) (fun _ _ _ h => h) (by kernel_rfl) ⟨prev_bel _ _, inferInstance⟩ ?_ ?_
          rotate_left
          · rintro uu ⟨pu, r1⟩
            go_simp
            try (with_reducible rfl)
          try simp only [List.set]
          refine wpAnyH_on (i := 11) (d := 75) (v := ?_) rfl rfl (by kernel_rfl) (by kernel_rfl) (by kernel_rfl) (fun _ _ _ h => h) (by kernel_rfl) ⟨prev_bel _ _, inferInstance⟩ ?_ ?_
          rotate_left
          · rintro uu ⟨pu, r1⟩
            go_simp
            try (with_reducible rfl)
          try simp only [List.set]
          refine wpAnyH_on (i := 13) (d := 77) (v := ?_) rfl rfl (by kernel_rfl) (by kernel_rfl) (by kernel_rfl) (fun _ _ _ h => h) (by kernel_rfl) ⟨prev_bel _ _, inferInstance⟩ ?_ ?_
          rotate_left
          · rintro uu ⟨pu, r1⟩
            go_simp
            try (with_reducible rfl)
          try simp only [List.set]
          refine wpAnyH_on (i := 14) (d := 78) (v := ?_) rfl rfl (by kernel_rfl) (by kernel_rfl) (by kernel_rfl) (fun _ _ _ h => h) (by kernel_rfl) ⟨prev_bel _ _, inferInstance⟩ ?_ ?_
          rotate_left
          · rintro uu ⟨pu, r1⟩
            go_simp
            try (with_reducible rfl)
          try simp only [List.set]
          refine wpAnyH_on (i := 15) (d := 79) (v := ?_) rfl rfl (by kernel_rfl) (by kernel_rfl) (by kernel_rfl) (fun _ _ _ h => h) (by kernel_rfl) ⟨prev_bel _ _, inferInstance⟩ ?_ ?_
          rotate_left
          · rintro uu ⟨pu, r1⟩
            go_simp
            try (with_reducible rfl)
          try simp only [List.set]
          refine wpAnyH_on (i := 16) (d := 80) (v := ?_) rfl rfl (by kernel_rfl) (by kernel_rfl) (by kernel_rfl) (fun _ _ _ h => h) (by kernel_rfl) ⟨prev_bel _ _, inferInstance⟩ ?_ ?_
          rotate_left
          · rintro uu ⟨pu, r1⟩
            go_simp
            try (with_reducible rfl)
          try simp only [List.set]
          refine wpAnyH_on (i := 17) (d := 81) (v := ?_) rfl rfl (by kernel_rfl) (by kernel_rfl) (by kernel_rfl) (fun _ _ _ h => h) (by kernel_rfl) ⟨prev_bel _ _, inferInstance⟩ ?_ ?_
          rotate_left
          · rintro uu ⟨pu, r1⟩
            go_simp
            try (with_reducible rfl)
          try simp only [List.set]
          refine wpAnyH_on (i := 18) (d := 82) (v := ?_) rfl rfl (by kernel_rfl) (by kernel_rfl) (by kernel_rfl) (fun _ _ _ h => h) (by kernel_rfl) ⟨prev_bel _ _, inferInstance⟩ ?_ ?_
          rotate_left
          · rintro uu ⟨pu, r1⟩
            go_simp
            try (with_reducible rfl)
          try simp only [List.set]
          refine wpAnyH_on (i := 19) (d := 83) (v := ?_) rfl rfl (by kernel_rfl) (by kernel_rfl) (by kernel_rfl) (fun _ _ _ h => h) (by kernel_rfl) ⟨prev_bel _ _, inferInstance⟩ ?_ ?_
          rotate_left
          · rintro uu ⟨pu, r1⟩
            go_simp
            try (with_reducible rfl)
          try simp only [List.set]
          refine wpAnyH_on (i := 20) (d := 84) (v := ?_) rfl rfl (by kernel_rfl) (by kernel_rfl) (by kernel_rfl) (fun _ _ _ h => h) (by kernel_rfl) ⟨prev_bel _ _, inferInstance⟩ ?_ ?_
          rotate_left
          · rintro uu ⟨pu, r1⟩
            go_simp
            try (with_reducible rfl)
          try simp only [List.set]
          refine wpAnyH_on (i := 21) (d := 85) (v := ?_) rfl rfl (by kernel_rfl) (by kernel_rfl) (by kernel_rfl) (fun _ _ _ h => h) (by kernel_rfl) ⟨prev_bel _ _, inferInstance⟩ ?_ ?_
          rotate_left
          · rintro uu ⟨pu, r1⟩
            go_simp
            try (with_reducible rfl)
          try simp only [List.set]
          refine wpAnyH_ready (rs := [8, 12]) (by kernel_rfl) (by simp) ?_
          refine AllReadyH.cons rfl (fun K hK => ?_) (AllReadyH.cons rfl (fun K hK => ?_) AllReadyH.nil)
          · go_simp
            refine hK.out _ _ ⟨prev_bel w _, inferInstance⟩ (fun hHeld => ?_)
            clear hHeld hK K
            try dsimp only [Act.put, List.setIfInBounds_toArray, List.set_cons_zero, List.set_cons_succ]
            refine wpAnyH_ready (rs := [12]) (by kernel_rfl) (by simp) ?_
            refine AllReadyH.cons rfl (fun K hK => ?_) AllReadyH.nil
            go_simp
            refine hK.out _ _ ⟨prev_bel w _, inferInstance⟩ (fun hHeld => ?_)
            clear hHeld hK K
            try dsimp only [Act.put, List.setIfInBounds_toArray, List.set_cons_zero, List.set_cons_succ]
            refine wpAnyH_ready (rs := [22]) (by kernel_rfl) (by simp) ?_
            refine AllReadyH.cons rfl (fun K hK => ?_) AllReadyH.nil
            go_simp
            (with_reducible refine (op_cell).mono ?_)
            rintro e vx ⟨rfl, _⟩
            dsimp only
            refine hK.out _ _ ⟨prev_bel w _, inferInstance⟩ (fun hHeld => ?_)
            clear hHeld hK K
            try dsimp only [Act.put, List.setIfInBounds_toArray, List.set_cons_zero, List.set_cons_succ]
            refine wpAnyH_on (i := 23) (d := 63) (v := ?_) rfl rfl (by kernel_rfl) (by kernel_rfl) (by kernel_rfl) (fun _ _ _ h => h) (by kernel_rfl) ⟨prev_bel _ _, inferInstance⟩ ?_ ?_
            rotate_left
            · rintro uu ⟨pu, r1⟩
              go_simp
              try (with_reducible rfl)
            try simp only [List.set]
            refine wpAnyH_on (i := 24) (d := 87) (v := ?_) rfl rfl (by kernel_rfl) (by kernel_rfl) (by kernel_rfl) (fun _ _ _ h => h) (by kernel_rfl) ⟨prev_bel _ _, inferInstance⟩ ?_ ?_
            rotate_left
            · rintro uu ⟨pu, r1⟩
              go_simp
              try (with_reducible rfl)
            try simp only [List.set]
            refine wpAnyH_on (i := 25) (d := 88) (v := ?_) rfl rfl (by kernel_rfl) (by kernel_rfl) (by kernel_rfl) (fun _ _ _ h => h) (by kernel_rfl) ⟨prev_bel _ _, inferInstance⟩ ?_ ?_
            rotate_left
            · rintro uu ⟨pu, r1⟩
              go_simp
              try (with_reducible rfl)
            try simp only [List.set]
            refine wpAnyH_on (i := 26) (d := 89) (v := ?_) rfl rfl (by kernel_rfl) (by kernel_rfl) (by kernel_rfl) (fun _ _ _ h => h) (by kernel_rfl) ⟨prev_bel _ _, inferInstance⟩ ?_ ?_
            rotate_left
            · rintro uu ⟨pu, r1⟩
              go_simp
              try (with_reducible rfl)
            try simp only [List.set]
            refine wpAnyH_ready (rs := [27]) (by kernel_rfl) (by simp) ?_
            refine AllReadyH.cons rfl (fun K hK => ?_) AllReadyH.nil
            have hcg := (oP.at (w' := vx)).cell (mix_at (f := fP) HX.out)
            have hfg := (oP.at (w' := vx)).frozen j
            go_simp
            obtain ⟨W1, hW1⟩ : ∃ W1 : World, W1 = vx.setCell ⟨pg', j, none⟩ (.int .i64 (hyP m d cl R x y z)) := ⟨_, rfl⟩
            rw [← hW1]
            have S1 : ∀ b, b < vx.heap.size → b ≠ pg' → W1.heap[b]? = vx.heap[b]? := fun b _ hb => by rw [hW1]; exact Below.heap_setCell vx ⟨pg', j, none⟩ _ b hb
            have oP1 : Own W1 pg' 45 ((mix fP xs j).set j (hyP m d cl R x y z)) := by rw [hW1]; exact (oP.at (w' := vx)).set_ j _
            have C1 := (CC.at (w' := vx)).nought' (w' := W1) (HPK.out j) (X := (mix fP xs j).set j (hyP m d cl R x y z)) S1 oP1 (by simp)
            have B1 : Below w.heap.size w W1 := by rw [hW1]; exact (bel w vx).setCell (p := ⟨pg', j, none⟩) gP _
            have kS1 : Bx W1 T 70 #[.slice (some ⟨G1, 0, none⟩) n n, .slice (some ⟨G2, 0, none⟩) n n] := ⟨(S1 _ (Bx.blk (w := vx) (g := T)).lt ((oP.at (w' := vx)).ne_blk (Bx.blk (w := vx) (g := T)) (by decide)).symm).trans Bx.blk⟩
            have kH1 : Bx W1 (w.heap.size + 1) 47 #[.int .i64 r, .int .i64 m, .int .i64 d, .int .i64 cl, .int .i64 dr, .int .i64 ev] := ⟨(S1 _ (Bx.blk (w := vx) (g := w.heap.size + 1)).lt ((oP.at (w' := vx)).ne_blk (Bx.blk (w := vx) (g := w.heap.size + 1)) (by decide)).symm).trans Bx.blk⟩
            have kR1 : Bx W1 (w.heap.size + 1 + 1) 70 #[.slice none 0 0, .slice none 0 0] := ⟨(S1 _ (Bx.blk (w := vx) (g := w.heap.size + 1 + 1)).lt ((oP.at (w' := vx)).ne_blk (Bx.blk (w := vx) (g := w.heap.size + 1 + 1)) (by decide)).symm).trans Bx.blk⟩
            have pW1 : Prev W1 w := ⟨B1⟩
            refine hK.out _ _ ⟨⟨B1⟩, kH1⟩ (fun hHeld => ?_)
            clear hHeld hK K hW1 S1 oP1 hcg hfg
            try dsimp only [Act.put, List.setIfInBounds_toArray, List.set_cons_zero, List.set_cons_succ]
            refine wpAnyH_on (i := 28) (d := 90) (v := ?_) rfl rfl (by kernel_rfl) (by kernel_rfl) (by kernel_rfl) (fun _ _ _ h => h) (by kernel_rfl) ⟨prev_bel _ _, inferInstance⟩ ?_ ?_
            rotate_left
            · rintro uu ⟨pu, r1⟩
              go_simp
              try (with_reducible rfl)
            try simp only [List.set]
            refine wpAnyH_ready (rs := [29]) (by kernel_rfl) (by simp) ?_
            refine AllReadyH.cons rfl (fun K hK => ?_) AllReadyH.nil
            have oQ1 := (C1.r.el _ (List.mem_of_getElem? (HQK.out j))).2.1
            simp only at oQ1
            have hcg := oQ1.cell (mix_at (f := fV) HY.out)
            have hfg := oQ1.frozen j
            go_simp
            obtain ⟨W2, hW2⟩ : ∃ W2 : World, W2 = W1.setCell ⟨qg', j, none⟩ (.int .i64 (hyV m d cl x y z)) := ⟨_, rfl⟩
            rw [← hW2]
            have S2 : ∀ b, b < W1.heap.size → b ≠ qg' → W2.heap[b]? = W1.heap[b]? := fun b _ hb => by rw [hW2]; exact Below.heap_setCell W1 ⟨qg', j, none⟩ _ b hb
            have oQ2 : Own W2 qg' 45 ((mix fV ys j).set j (hyV m d cl x y z)) := by rw [hW2]; exact oQ1.set_ j _
            have C2 := Lib.hid (C1.nought (w' := W2) (HQK.out j) (X := (mix fV ys j).set j (hyV m d cl x y z)) S2 oQ2 (by simp))
            rw [HPS.out j _ E1.out, HQS.out j _ E2.out] at C2
            have B2 : Below w.heap.size w W2 := by rw [hW2]; exact B1.setCell (p := ⟨qg', j, none⟩) gQ _
            have kS2 : Bx W2 T 70 #[.slice (some ⟨G1, 0, none⟩) n n, .slice (some ⟨G2, 0, none⟩) n n] := ⟨(S2 _ kS1.blk.lt (oQ1.ne_blk kS1.blk (by decide)).symm).trans kS1.blk⟩
            have kH2 : Bx W2 (w.heap.size + 1) 47 #[.int .i64 r, .int .i64 m, .int .i64 d, .int .i64 cl, .int .i64 dr, .int .i64 ev] := ⟨(S2 _ kH1.blk.lt (oQ1.ne_blk kH1.blk (by decide)).symm).trans kH1.blk⟩
            have kR2 : Bx W2 (w.heap.size + 1 + 1) 70 #[.slice none 0 0, .slice none 0 0] := ⟨(S2 _ kR1.blk.lt (oQ1.ne_blk kR1.blk (by decide)).symm).trans kR1.blk⟩
            have pW2 : Prev W2 w := ⟨B2⟩
            refine hK.out _ _ ⟨⟨B2⟩, kH2⟩ (fun hHeld => ?_)
            clear hHeld hK K hW2 S2 oQ2 oQ1 hcg hfg C1 kS1 kH1 kR1
            try dsimp only [Act.put, List.setIfInBounds_toArray, List.set_cons_zero, List.set_cons_succ]
            refine wpAnyH_done (by kernel_rfl) ?_ _
            go_wp2_with fail
            go_roundw
            case rel => exact ⟨j + 1, by omega, by go_num, C2.out, kS2, kH2, kR2, ⟨B2⟩⟩
            case measure => simp [intOf]; omega
          · go_simp
            refine hK.out _ _ ⟨prev_bel w _, inferInstance⟩ (fun hHeld => ?_)
            clear hHeld hK K
            try dsimp only [Act.put, List.setIfInBounds_toArray, List.set_cons_zero, List.set_cons_succ]
            refine wpAnyH_ready (rs := [8]) (by kernel_rfl) (by simp) ?_
            refine AllReadyH.cons rfl (fun K hK => ?_) AllReadyH.nil
            go_simp
            refine hK.out _ _ ⟨prev_bel w _, inferInstance⟩ (fun hHeld => ?_)
            clear hHeld hK K
            try dsimp only [Act.put, List.setIfInBounds_toArray, List.set_cons_zero, List.set_cons_succ]
            refine wpAnyH_ready (rs := [22]) (by kernel_rfl) (by simp) ?_
            refine AllReadyH.cons rfl (fun K hK => ?_) AllReadyH.nil
            go_simp
            (with_reducible refine (op_cell).mono ?_)
            rintro e vx ⟨rfl, _⟩
            dsimp only
            refine hK.out _ _ ⟨prev_bel w _, inferInstance⟩ (fun hHeld => ?_)
            clear hHeld hK K
            try dsimp only [Act.put, List.setIfInBounds_toArray, List.set_cons_zero, List.set_cons_succ]
            refine wpAnyH_on (i := 23) (d := 63) (v := ?_) rfl rfl (by kernel_rfl) (by kernel_rfl) (by kernel_rfl) (fun _ _ _ h => h) (by kernel_rfl) ⟨prev_bel _ _, inferInstance⟩ ?_ ?_
            rotate_left
            · rintro uu ⟨pu, r1⟩
              go_simp
              try (with_reducible rfl)
            try simp only [List.set]
            refine wpAnyH_on (i := 24) (d := 87) (v := ?_) rfl rfl (by kernel_rfl) (by kernel_rfl) (by kernel_rfl) (fun _ _ _ h => h) (by kernel_rfl) ⟨prev_bel _ _, inferInstance⟩ ?_ ?_
            rotate_left
            · rintro uu ⟨pu, r1⟩
              go_simp
              try (with_reducible rfl)
            try simp only [List.set]
            refine wpAnyH_on (i := 25) (d := 88) (v := ?_) rfl rfl (by kernel_rfl) (by kernel_rfl) (by kernel_rfl) (fun _ _ _ h => h) (by kernel_rfl) ⟨prev_bel _ _, inferInstance⟩ ?_ ?_
            rotate_left
            · rintro uu ⟨pu, r1⟩
              go_simp
              try (with_reducible rfl)
            try simp only [List.set]
            refine wpAnyH_on (i := 26) (d := 89) (v := ?_) rfl rfl (by kernel_rfl) (by kernel_rfl) (by kernel_rfl) (fun _ _ _ h => h) (by kernel_rfl) ⟨prev_bel _ _, inferInstance⟩ ?_ ?_
            rotate_left
            · rintro uu ⟨pu, r1⟩
              go_simp
              try (with_reducible rfl)
            try simp only [List.set]
            refine wpAnyH_ready (rs := [27]) (by kernel_rfl) (by simp) ?_
            refine AllReadyH.cons rfl (fun K hK => ?_) AllReadyH.nil
            have hcg := (oP.at (w' := vx)).cell (mix_at (f := fP) HX.out)
            have hfg := (oP.at (w' := vx)).frozen j
            go_simp
            obtain ⟨W1, hW1⟩ : ∃ W1 : World, W1 = vx.setCell ⟨pg', j, none⟩ (.int .i64 (hyP m d cl R x y z)) := ⟨_, rfl⟩
            rw [← hW1]
            have S1 : ∀ b, b < vx.heap.size → b ≠ pg' → W1.heap[b]? = vx.heap[b]? := fun b _ hb => by rw [hW1]; exact Below.heap_setCell vx ⟨pg', j, none⟩ _ b hb
            have oP1 : Own W1 pg' 45 ((mix fP xs j).set j (hyP m d cl R x y z)) := by rw [hW1]; exact (oP.at (w' := vx)).set_ j _
            have C1 := (CC.at (w' := vx)).nought' (w' := W1) (HPK.out j) (X := (mix fP xs j).set j (hyP m d cl R x y z)) S1 oP1 (by simp)
            have B1 : Below w.heap.size w W1 := by rw [hW1]; exact (bel w vx).setCell (p := ⟨pg', j, none⟩) gP _
            have kS1 : Bx W1 T 70 #[.slice (some ⟨G1, 0, none⟩) n n, .slice (some ⟨G2, 0, none⟩) n n] := ⟨(S1 _ (Bx.blk (w := vx) (g := T)).lt ((oP.at (w' := vx)).ne_blk (Bx.blk (w := vx) (g := T)) (by decide)).symm).trans Bx.blk⟩
            have kH1 : Bx W1 (w.heap.size + 1) 47 #[.int .i64 r, .int .i64 m, .int .i64 d, .int .i64 cl, .int .i64 dr, .int .i64 ev] := ⟨(S1 _ (Bx.blk (w := vx) (g := w.heap.size + 1)).lt ((oP.at (w' := vx)).ne_blk (Bx.blk (w := vx) (g := w.heap.size + 1)) (by decide)).symm).trans Bx.blk⟩
            have kR1 : Bx W1 (w.heap.size + 1 + 1) 70 #[.slice none 0 0, .slice none 0 0] := ⟨(S1 _ (Bx.blk (w := vx) (g := w.heap.size + 1 + 1)).lt ((oP.at (w' := vx)).ne_blk (Bx.blk (w := vx) (g := w.heap.size + 1 + 1)) (by decide)).symm).trans Bx.blk⟩
            have pW1 : Prev W1 w := ⟨B1⟩
            refine hK.out _ _ ⟨⟨B1⟩, kH1⟩ (fun hHeld => ?_)
            clear hHeld hK K hW1 S1 oP1 hcg hfg
            try dsimp only [Act.put, List.setIfInBounds_toArray, List.set_cons_zero, List.set_cons_succ]
            refine wpAnyH_on (i := 28) (d := 90) (v := ?_) rfl rfl (by kernel_rfl) (by kernel_rfl) (by kernel_rfl) (fun _ _ _ h => h) (by kernel_rfl) ⟨prev_bel _ _, inferInstance⟩ ?_ ?_
            rotate_left
            · rintro uu ⟨pu, r1⟩
              go_simp
              try (with_reducible rfl)
            try simp only [List.set]
            refine wpAnyH_ready (rs := [29]) (by kernel_rfl) (by simp) ?_
            refine AllReadyH.cons rfl (fun K hK => ?_) AllReadyH.nil
            have oQ1 := (C1.r.el _ (List.mem_of_getElem? (HQK.out j))).2.1
            simp only at oQ1
            have hcg := oQ1.cell (mix_at (f := fV) HY.out)
            have hfg := oQ1.frozen j
            go_simp
            obtain ⟨W2, hW2⟩ : ∃ W2 : World, W2 = W1.setCell ⟨qg', j, none⟩ (.int .i64 (hyV m d cl x y z)) := ⟨_, rfl⟩
            rw [← hW2]
            have S2 : ∀ b, b < W1.heap.size → b ≠ qg' → W2.heap[b]? = W1.heap[b]? := fun b _ hb => by rw [hW2]; exact Below.heap_setCell W1 ⟨qg', j, none⟩ _ b hb
            have oQ2 : Own W2 qg' 45 ((mix fV ys j).set j (hyV m d cl x y z)) := by rw [hW2]; exact oQ1.set_ j _
            have C2 := Lib.hid (C1.nought (w' := W2) (HQK.out j) (X := (mix fV ys j).set j (hyV m d cl x y z)) S2 oQ2 (by simp))
            rw [HPS.out j _ E1.out, HQS.out j _ E2.out] at C2
            have B2 : Below w.heap.size w W2 := by rw [hW2]; exact B1.setCell (p := ⟨qg', j, none⟩) gQ _
            have kS2 : Bx W2 T 70 #[.slice (some ⟨G1, 0, none⟩) n n, .slice (some ⟨G2, 0, none⟩) n n] := ⟨(S2 _ kS1.blk.lt (oQ1.ne_blk kS1.blk (by decide)).symm).trans kS1.blk⟩
            have kH2 : Bx W2 (w.heap.size + 1) 47 #[.int .i64 r, .int .i64 m, .int .i64 d, .int .i64 cl, .int .i64 dr, .int .i64 ev] := ⟨(S2 _ kH1.blk.lt (oQ1.ne_blk kH1.blk (by decide)).symm).trans kH1.blk⟩
            have kR2 : Bx W2 (w.heap.size + 1 + 1) 70 #[.slice none 0 0, .slice none 0 0] := ⟨(S2 _ kR1.blk.lt (oQ1.ne_blk kR1.blk (by decide)).symm).trans kR1.blk⟩
            have pW2 : Prev W2 w := ⟨B2⟩
            refine hK.out _ _ ⟨⟨B2⟩, kH2⟩ (fun hHeld => ?_)
            clear hHeld hK K hW2 S2 oQ2 oQ1 hcg hfg C1 kS1 kH1 kR1
            try dsimp only [Act.put, List.setIfInBounds_toArray, List.set_cons_zero, List.set_cons_succ]
            refine wpAnyH_done (by kernel_rfl) ?_ _
            go_wp2_with fail
            go_roundw
            case rel => exact ⟨j + 1, by omega, by go_num, C2.out, kS2, kH2, kR2, ⟨B2⟩⟩
            case measure => simp [intOf]; omega
        · obtain rfl : j = N := by omega
          go_wp2_with fail
          go_roundw
          case rel => exact ⟨k + 1, PJ j, QJ j, by omega, by go_num, CC, UPN, UVN, kS, kH, kR, hp⟩
          case measure => simp [intOf]; omega
    · obtain rfl : k = n := by omega
      go_wp2_with fail
      have k3 := Blk.set2 (Bx.blk (w := wr) (g := w.heap.size + 1 + 1)) (.slice (some ⟨G1, 0, none⟩) k k) (.slice (some ⟨G2, 0, none⟩) k k)
      have B3 := bset2 (bel w wr) (show w.heap.size ≤ w.heap.size + 1 + 1 by omega) (.slice (some ⟨G1, 0, none⟩) k k) (.slice (some ⟨G2, 0, none⟩) k k)
      have C3 := CC.farT (Bx.blk (w := wr) (g := w.heap.size + 1 + 1)) (by decide) (by decide) (by decide) (same2 wr (w.heap.size + 1 + 1) (.slice (some ⟨G1, 0, none⟩) k k) (.slice (some ⟨G2, 0, none⟩) k k))
      obtain ⟨r0, r1⟩ := box2 k3
      refine bodyPost_ret (v := .tuple #[.agg #[.slice (some ⟨G1, 0, none⟩) k k, .slice (some ⟨G2, 0, none⟩) k k], .int .i64 0]) (by simp [results, Try.results37, go_sem, r0, r1]) rfl ?_
      exact ⟨G1, ps', G2, qs', rfl, C3, UP, UV, ⟨B3⟩⟩
end

end Go.Proofs.Ytphcffcecncngaa
