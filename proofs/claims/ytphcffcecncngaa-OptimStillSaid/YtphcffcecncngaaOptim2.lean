/- Lists of tensors: valid, alike, same; athanorlaw24's right, alike. -/
import Derived.Test.YtphcffcecncngaaOptimRef
import Derived.Test.YtphcffcecncngaaFresh
namespace Go.Proofs.Ytphcffcecncngaa
open Go.RowKit

def validB (ts : List Tn) : Bool := ts.all fun t => tRightB t.zs t.xs
def zsE (p : Tn × Tn) : Bool := decide (p.1.zs = p.2.zs)
def zxE (p : Tn × Tn) : Bool := decide (p.1.zs = p.2.zs) && decide (p.1.xs = p.2.xs)
def shapesB (ts us : List Tn) : Bool := (ts.zip us).all zsE
/-- Are both valid, and of the same shapes? -/
def alikeTB (ts us : List Tn) : Bool := decide (ts.length = us.length) && validB ts && validB us && shapesB ts us
def cellsB (ts us : List Tn) : Bool := (ts.zip us).all zxE
def sameB (ts us : List Tn) : Bool := decide (ts.length = us.length) && cellsB ts us
theorem all_step {α : Type} {f : α → Bool} {l : List α} {k : Nat} {x : α} (h : l[k]? = some x) (hk : (l.take k).all f = true) : (l.take (k + 1)).all f = f x := by
  rw [List.take_add_one, h]
  simp [hk]
theorem all_no {α : Type} {f : α → Bool} {l : List α} {k : Nat} {x : α} (h : l[k]? = some x) (hf : f x = false) : l.all f = false := by
  rw [List.all_eq_false]
  exact ⟨x, List.mem_of_getElem? h, by simp [hf]⟩
theorem all_full {α : Type} {f : α → Bool} {l : List α} {k : Nat} (hl : l.length ≤ k) (hk : (l.take k).all f = true) : l.all f = true := by
  rwa [List.take_of_length_le hl] at hk
theorem zipT_at {α β : Type} {l : List α} {m : List β} {k : Nat} {x : α} {y : β} (h : l[k]? = some x) (h' : m[k]? = some y) : (l.zip m)[k]? = some (x, y) := by
  rw [List.getElem?_zip_eq_some]; exact ⟨h, h'⟩
theorem validB_at {ts : List Tn} {k : Nat} {t : Tn} (h : validB ts = true) (ht : ts[k]? = some t) : tRightB t.zs t.xs = true := List.all_eq_true.1 h t (List.mem_of_getElem? ht)
/-- Lists that may be gone through. -/
abbrev Mo (ts : List Tn) : Prop := ∀ t ∈ ts, t.zs.length ≤ 1000000 ∧ t.xs.length ≤ 1000000
section
variable {w : World} {A B : Option Addr} {n m c d : Nat} {ts us : List Tn}
set_option maxRecDepth 100000 in
set_option maxHeartbeats 2000000 in
theorem op_valid [a : Ts w A n ts] (hn : n ≤ 1000000) (hz : Hid (Mo ts)) : Calls Try.prog 74 #[.slice A n c] w (RetV w (.bool (validB ts))) := by
  have CB := @cell_bx
  have CP := @cell_prev
  have HL := Lib.hid a.len
  go_enter Try.func74, Try.ntmps74
  go_wp2_with fail
  go_loopw [7] (fun i wr => ∃ k : Nat, k ≤ n ∧ i = .int .i64 k ∧ Hid (validB (ts.take k) = true) ∧ Prev wr w) (fun i _ => n - (intOf i).toNat)
  case atStart => exact ⟨0, Nat.zero_le _, rfl, Lib.hid rfl, prev_bel _ _⟩
  case round =>
    obtain ⟨k, hk, rfl, HV, hp⟩ := hrel
    by_cases hlt : k < n
    · obtain ⟨b, o, A1, c1, z1, B1, d1, x1, rfl, ob, q0, q1, s1, t1, -, -, ht⟩ := a.get hlt
      obtain ⟨l1, l2⟩ := hz.out _ (List.mem_of_getElem? ht.out)
      simp only at l1 l2
      rcases hr : tRightB z1 x1 with _ | _
      · have HN : Hid (validB ts = false) := Lib.hid (all_no ht.out hr)
        go_wp2_with (first | (go_at_call 82; (try first | (with_reducible refine gen_boxK3 (fun u _ _ _ _ => ?_)) | (with_reducible refine gen_boxK2 (fun u _ _ _ => ?_)) | (with_reducible refine gen_boxK (fun u _ _ => ?_))); (with_reducible refine (aT_right (by omega)).mono ?_); rintro e u ⟨rfl, _⟩))
        go_ret
        exact ⟨by rw [HN.out]; rfl, prev_bel _ _⟩
      · have HV' : Hid (validB (ts.take (k + 1)) = true) := Lib.hid (by rw [validB, all_step ht.out HV.out]; exact hr)
        go_wp2_with (first | (go_at_call 82; (try first | (with_reducible refine gen_boxK3 (fun u _ _ _ _ => ?_)) | (with_reducible refine gen_boxK2 (fun u _ _ _ => ?_)) | (with_reducible refine gen_boxK (fun u _ _ => ?_))); (with_reducible refine (aT_right (by omega)).mono ?_); rintro e u ⟨rfl, _⟩))
        go_roundw
        case rel => exact ⟨k + 1, by omega, by go_num, HV', prev_bel _ _⟩
        case measure => simp [intOf]; omega
    · have HT : Hid (validB ts = true) := Lib.hid (all_full (by rw [← HL.out]; omega) HV.out)
      go_wp2_with fail
      go_ret
      exact ⟨by rw [HT.out]; rfl, prev_bel _ _⟩
set_option maxRecDepth 100000 in
set_option maxHeartbeats 4000000 in
theorem op_alike [a : Ts w A n ts] [b : Ts w B m us] (hn : n ≤ 1000000) (hm : m ≤ 1000000) (hz : Hid (Mo ts)) (hz' : Hid (Mo us)) : Calls Try.prog 65 #[.slice A n c, .slice B m d] w (RetV w (.bool (alikeTB ts us))) := by
  have CB := @cell_bx
  have CP := @cell_prev
  have HL := Lib.hid a.len
  have HL' := Lib.hid b.len
  by_cases hnm : n = m
  rotate_left
  · have HN : Hid (alikeTB ts us = false) := Lib.hid (by rw [alikeTB, decide_eq_false (by rw [← HL.out, ← HL'.out]; exact hnm)]; rfl)
    have e : ((n : Int) != (m : Int)) = true := by rw [bne_iff_ne]; omega
    clear hnm
    go_enter Try.func65, Try.ntmps65
    go_wp2_with fail
    go_ret
    exact ⟨by rw [HN.out]; rfl, prev_bel _ _⟩
  subst hnm
  rcases h1 : validB ts with _ | _
  · have HN : Hid (alikeTB ts us = false) := Lib.hid (by rw [alikeTB, h1]; simp)
    go_enter Try.func65, Try.ntmps65
    go_wp2_with (first | (go_at_call 74; (try first | (with_reducible refine gen_boxK3 (fun u _ _ _ _ => ?_)) | (with_reducible refine gen_boxK2 (fun u _ _ _ => ?_)) | (with_reducible refine gen_boxK (fun u _ _ => ?_))); (with_reducible refine (op_valid (by omega) hz).mono ?_); rintro e u ⟨rfl, _⟩) | (go_at_call 74; (try first | (with_reducible refine gen_boxK3 (fun u _ _ _ _ => ?_)) | (with_reducible refine gen_boxK2 (fun u _ _ _ => ?_)) | (with_reducible refine gen_boxK (fun u _ _ => ?_))); (with_reducible refine (op_valid (by omega) hz').mono ?_); rintro e u ⟨rfl, _⟩))
    go_ret
    exact ⟨by rw [HN.out]; rfl, prev_bel _ _⟩
  rcases h2 : validB us with _ | _
  · have HN : Hid (alikeTB ts us = false) := Lib.hid (by rw [alikeTB, h2]; simp)
    go_enter Try.func65, Try.ntmps65
    go_wp2_with (first | (go_at_call 74; (try first | (with_reducible refine gen_boxK3 (fun u _ _ _ _ => ?_)) | (with_reducible refine gen_boxK2 (fun u _ _ _ => ?_)) | (with_reducible refine gen_boxK (fun u _ _ => ?_))); (with_reducible refine (op_valid (by omega) hz).mono ?_); rintro e u ⟨rfl, _⟩) | (go_at_call 74; (try first | (with_reducible refine gen_boxK3 (fun u _ _ _ _ => ?_)) | (with_reducible refine gen_boxK2 (fun u _ _ _ => ?_)) | (with_reducible refine gen_boxK (fun u _ _ => ?_))); (with_reducible refine (op_valid (by omega) hz').mono ?_); rintro e u ⟨rfl, _⟩))
    go_ret
    exact ⟨by rw [HN.out]; rfl, prev_bel _ _⟩
  have HS : Hid (alikeTB ts us = shapesB ts us) := Lib.hid (by rw [alikeTB, decide_eq_true (by rw [← HL.out, ← HL'.out]), h1, h2]; simp)
  go_enter Try.func65, Try.ntmps65
  go_wp2_with (first | (go_at_call 74; (try first | (with_reducible refine gen_boxK3 (fun u _ _ _ _ => ?_)) | (with_reducible refine gen_boxK2 (fun u _ _ _ => ?_)) | (with_reducible refine gen_boxK (fun u _ _ => ?_))); (with_reducible refine (op_valid (by omega) hz).mono ?_); rintro e u ⟨rfl, _⟩) | (go_at_call 74; (try first | (with_reducible refine gen_boxK3 (fun u _ _ _ _ => ?_)) | (with_reducible refine gen_boxK2 (fun u _ _ _ => ?_)) | (with_reducible refine gen_boxK (fun u _ _ => ?_))); (with_reducible refine (op_valid (by omega) hz').mono ?_); rintro e u ⟨rfl, _⟩))
  obtain ⟨v, rfl⟩ : ∃ v : World, v = u := ⟨_, rfl⟩
  go_loopw [23] (fun i wr => ∃ k : Nat, k ≤ n ∧ i = .int .i64 k ∧ Hid (((ts.zip us).take k).all zsE = true) ∧ Prev wr v) (fun i _ => n - (intOf i).toNat)
  case atStart => exact ⟨0, Nat.zero_le _, rfl, Lib.hid rfl, prev_bel _ _⟩
  case round =>
    obtain ⟨k, hk, rfl, HV, hp⟩ := hrel
    by_cases hlt : k < n
    · obtain ⟨b1, o1, A1, c1, z1, B1, d1, x1, rfl, ob, q0, q1, s1, t1, -, -, ht⟩ := a.get hlt
      obtain ⟨b2, o2, A2, c2, z2, B2, d2, x2, rfl, ob2, q2, q3, s2, t2, -, -, ht2⟩ := b.get hlt
      obtain ⟨l1, -⟩ := hz.out _ (List.mem_of_getElem? ht.out)
      obtain ⟨l2, -⟩ := hz'.out _ (List.mem_of_getElem? ht2.out)
      simp only at l1 l2
      rcases hr : decide (z1 = z2) with _ | _
      · have HN : Hid (shapesB ts us = false) := Lib.hid (all_no (f := zsE) (zipT_at ht.out ht2.out) hr)
        go_wp2_with fail
        refine wp_region_up0 (by kernel_rfl) (fun ux _ => ?_)
        refine wpAnyH_on (i := 0) (d := 26) (v := ?_) rfl rfl (by kernel_rfl) (by kernel_rfl) (by kernel_rfl) (fun _ _ _ h => h) (by kernel_rfl) (prev_bel _ _) ?_ ?_
        rotate_left
        · intro uu (pu : Prev uu _)
          go_simp
          try (with_reducible rfl)
        try simp only [List.set]
        refine wpAnyH_on (i := 1) (d := 27) (v := ?_) rfl rfl (by kernel_rfl) (by kernel_rfl) (by kernel_rfl) (fun _ _ _ h => h) (by kernel_rfl) (prev_bel _ _) ?_ ?_
        rotate_left
        · intro uu (pu : Prev uu _)
          go_simp
          try (with_reducible rfl)
        try simp only [List.set]
        refine wpAnyH_on (i := 2) (d := 28) (v := ?_) rfl rfl (by kernel_rfl) (by kernel_rfl) (by kernel_rfl) (fun _ _ _ h => h) (by kernel_rfl) (prev_bel _ _) ?_ ?_
        rotate_left
        · intro uu (pu : Prev uu _)
          go_simp
          try (with_reducible rfl)
        try simp only [List.set]
        refine wpAnyH_on (i := 3) (d := 29) (v := ?_) rfl rfl (by kernel_rfl) (by kernel_rfl) (by kernel_rfl) (fun _ _ _ h => h) (by kernel_rfl) (prev_bel _ _) ?_ ?_
        rotate_left
        · intro uu (pu : Prev uu _)
          go_simp
          try (with_reducible rfl)
        try simp only [List.set]
        refine wpAnyH_on (i := 4) (d := 30) (v := ?_) rfl rfl (by kernel_rfl) (by kernel_rfl) (by kernel_rfl) (fun _ _ _ h => h) (by kernel_rfl) (prev_bel _ _) ?_ ?_
        rotate_left
        · intro uu (pu : Prev uu _)
          go_simp
          try (with_reducible rfl)
        try simp only [List.set]
        refine wpAnyH_on (i := 5) (d := 31) (v := ?_) rfl rfl (by kernel_rfl) (by kernel_rfl) (by kernel_rfl) (fun _ _ _ h => h) (by kernel_rfl) (prev_bel _ _) ?_ ?_
        rotate_left
        · intro uu (pu : Prev uu _)
          go_simp
          try (with_reducible rfl)
        try simp only [List.set]
        refine wpAnyH_on (i := 6) (d := 32) (v := ?_) rfl rfl (by kernel_rfl) (by kernel_rfl) (by kernel_rfl) (fun _ _ _ h => h) (by kernel_rfl) (prev_bel _ _) ?_ ?_
        rotate_left
        · intro uu (pu : Prev uu _)
          go_simp
          try (with_reducible rfl)
        try simp only [List.set]
        refine wpAnyH_on (i := 7) (d := 33) (v := ?_) rfl rfl (by kernel_rfl) (by kernel_rfl) (by kernel_rfl) (fun _ _ _ h => h) (by kernel_rfl) (prev_bel _ _) ?_ ?_
        rotate_left
        · intro uu (pu : Prev uu _)
          go_simp
          try (with_reducible rfl)
        try simp only [List.set]
        refine wpAnyH_on (i := 8) (d := 34) (v := ?_) rfl rfl (by kernel_rfl) (by kernel_rfl) (by kernel_rfl) (fun _ _ _ h => h) (by kernel_rfl) (prev_bel _ _) ?_ ?_
        rotate_left
        · intro uu (pu : Prev uu _)
          go_simp
          try (with_reducible rfl)
        try simp only [List.set]
        refine wpAnyH_on (i := 9) (d := 35) (v := ?_) rfl rfl (by kernel_rfl) (by kernel_rfl) (by kernel_rfl) (fun _ _ _ h => h) (by kernel_rfl) (prev_bel _ _) ?_ ?_
        rotate_left
        · intro uu (pu : Prev uu _)
          go_simp
          try (with_reducible rfl)
        try simp only [List.set]
        refine wpAnyH_ready (rs := [10]) (by kernel_rfl) (by simp) ?_
        refine AllReadyH.cons rfl (fun K hK => ?_) AllReadyH.nil
        go_simp
        (with_reducible refine (aS_equal (by omega) (by omega)).mono ?_)
        rintro e ux ⟨rfl, _⟩
        dsimp only
        refine hK.out _ _ (prev_bel _ _) (fun hHeld => ?_)
        clear hHeld hK K
        try dsimp only [Act.put, List.setIfInBounds_toArray, List.set_cons_zero, List.set_cons_succ]
        refine wpAnyH_on (i := 11) (d := 37) (v := ?_) rfl rfl (by kernel_rfl) (by kernel_rfl) (by kernel_rfl) (fun _ _ _ h => h) (by kernel_rfl) (prev_bel _ _) ?_ ?_
        rotate_left
        · intro uu (pu : Prev uu _)
          go_simp
          try (with_reducible rfl)
        try simp only [List.set]
        refine wpAnyH_done (by kernel_rfl) ?_ _
        go_wp2_with fail
        go_ret
        exact ⟨by rw [HS.out, HN.out]; rfl, prev_bel _ _⟩
      · have HV' : Hid (((ts.zip us).take (k + 1)).all zsE = true) := Lib.hid ((all_step (zipT_at ht.out ht2.out) HV.out).trans hr)
        go_wp2_with fail
        refine wp_region_up0 (by kernel_rfl) (fun ux _ => ?_)
        refine wpAnyH_on (i := 0) (d := 26) (v := ?_) rfl rfl (by kernel_rfl) (by kernel_rfl) (by kernel_rfl) (fun _ _ _ h => h) (by kernel_rfl) (prev_bel _ _) ?_ ?_
        rotate_left
        · intro uu (pu : Prev uu _)
          go_simp
          try (with_reducible rfl)
        try simp only [List.set]
        refine wpAnyH_on (i := 1) (d := 27) (v := ?_) rfl rfl (by kernel_rfl) (by kernel_rfl) (by kernel_rfl) (fun _ _ _ h => h) (by kernel_rfl) (prev_bel _ _) ?_ ?_
        rotate_left
        · intro uu (pu : Prev uu _)
          go_simp
          try (with_reducible rfl)
        try simp only [List.set]
        refine wpAnyH_on (i := 2) (d := 28) (v := ?_) rfl rfl (by kernel_rfl) (by kernel_rfl) (by kernel_rfl) (fun _ _ _ h => h) (by kernel_rfl) (prev_bel _ _) ?_ ?_
        rotate_left
        · intro uu (pu : Prev uu _)
          go_simp
          try (with_reducible rfl)
        try simp only [List.set]
        refine wpAnyH_on (i := 3) (d := 29) (v := ?_) rfl rfl (by kernel_rfl) (by kernel_rfl) (by kernel_rfl) (fun _ _ _ h => h) (by kernel_rfl) (prev_bel _ _) ?_ ?_
        rotate_left
        · intro uu (pu : Prev uu _)
          go_simp
          try (with_reducible rfl)
        try simp only [List.set]
        refine wpAnyH_on (i := 4) (d := 30) (v := ?_) rfl rfl (by kernel_rfl) (by kernel_rfl) (by kernel_rfl) (fun _ _ _ h => h) (by kernel_rfl) (prev_bel _ _) ?_ ?_
        rotate_left
        · intro uu (pu : Prev uu _)
          go_simp
          try (with_reducible rfl)
        try simp only [List.set]
        refine wpAnyH_on (i := 5) (d := 31) (v := ?_) rfl rfl (by kernel_rfl) (by kernel_rfl) (by kernel_rfl) (fun _ _ _ h => h) (by kernel_rfl) (prev_bel _ _) ?_ ?_
        rotate_left
        · intro uu (pu : Prev uu _)
          go_simp
          try (with_reducible rfl)
        try simp only [List.set]
        refine wpAnyH_on (i := 6) (d := 32) (v := ?_) rfl rfl (by kernel_rfl) (by kernel_rfl) (by kernel_rfl) (fun _ _ _ h => h) (by kernel_rfl) (prev_bel _ _) ?_ ?_
        rotate_left
        · intro uu (pu : Prev uu _)
          go_simp
          try (with_reducible rfl)
        try simp only [List.set]
        refine wpAnyH_on (i := 7) (d := 33) (v := ?_) rfl rfl (by kernel_rfl) (by kernel_rfl) (by kernel_rfl) (fun _ _ _ h => h) (by kernel_rfl) (prev_bel _ _) ?_ ?_
        rotate_left
        · intro uu (pu : Prev uu _)
          go_simp
          try (with_reducible rfl)
        try simp only [List.set]
        refine wpAnyH_on (i := 8) (d := 34) (v := ?_) rfl rfl (by kernel_rfl) (by kernel_rfl) (by kernel_rfl) (fun _ _ _ h => h) (by kernel_rfl) (prev_bel _ _) ?_ ?_
        rotate_left
        · intro uu (pu : Prev uu _)
          go_simp
          try (with_reducible rfl)
        try simp only [List.set]
        refine wpAnyH_on (i := 9) (d := 35) (v := ?_) rfl rfl (by kernel_rfl) (by kernel_rfl) (by kernel_rfl) (fun _ _ _ h => h) (by kernel_rfl) (prev_bel _ _) ?_ ?_
        rotate_left
        · intro uu (pu : Prev uu _)
          go_simp
          try (with_reducible rfl)
        try simp only [List.set]
        refine wpAnyH_ready (rs := [10]) (by kernel_rfl) (by simp) ?_
        refine AllReadyH.cons rfl (fun K hK => ?_) AllReadyH.nil
        go_simp
        (with_reducible refine (aS_equal (by omega) (by omega)).mono ?_)
        rintro e ux ⟨rfl, _⟩
        dsimp only
        refine hK.out _ _ (prev_bel _ _) (fun hHeld => ?_)
        clear hHeld hK K
        try dsimp only [Act.put, List.setIfInBounds_toArray, List.set_cons_zero, List.set_cons_succ]
        refine wpAnyH_on (i := 11) (d := 37) (v := ?_) rfl rfl (by kernel_rfl) (by kernel_rfl) (by kernel_rfl) (fun _ _ _ h => h) (by kernel_rfl) (prev_bel _ _) ?_ ?_
        rotate_left
        · intro uu (pu : Prev uu _)
          go_simp
          try (with_reducible rfl)
        try simp only [List.set]
        refine wpAnyH_done (by kernel_rfl) ?_ _
        go_wp2_with fail
        go_roundw
        case rel => exact ⟨k + 1, by omega, by go_num, HV', prev_bel _ _⟩
        case measure => simp [intOf]; omega
    · have HT : Hid (shapesB ts us = true) := Lib.hid (all_full (by rw [List.length_zip, ← HL.out]; omega) HV.out)
      go_wp2_with fail
      go_ret
      exact ⟨by rw [HS.out, HT.out]; rfl, prev_bel _ _⟩
set_option maxRecDepth 100000 in
set_option maxHeartbeats 4000000 in
theorem op_same [a : Ts w A n ts] [b : Ts w B m us] (hn : n ≤ 1000000) (hm : m ≤ 1000000) (hz : Hid (Mo ts)) (hz' : Hid (Mo us)) : Calls Try.prog 72 #[.slice A n c, .slice B m d] w (RetV w (.bool (sameB ts us))) := by
  have CB := @cell_bx
  have CP := @cell_prev
  have HL := Lib.hid a.len
  have HL' := Lib.hid b.len
  by_cases hnm : n = m
  rotate_left
  · have HN : Hid (sameB ts us = false) := Lib.hid (by rw [sameB, decide_eq_false (by rw [← HL.out, ← HL'.out]; exact hnm)]; rfl)
    have e : ((n : Int) != (m : Int)) = true := by rw [bne_iff_ne]; omega
    clear hnm
    go_enter Try.func72, Try.ntmps72
    go_wp2_with fail
    go_ret
    exact ⟨by rw [HN.out]; rfl, prev_bel _ _⟩
  subst hnm
  have HS : Hid (sameB ts us = cellsB ts us) := Lib.hid (by rw [sameB, decide_eq_true (by rw [← HL.out, ← HL'.out])]; simp)
  go_enter Try.func72, Try.ntmps72
  go_wp2_with fail
  go_loopw [13] (fun i wr => ∃ k : Nat, k ≤ n ∧ i = .int .i64 k ∧ Hid (((ts.zip us).take k).all zxE = true) ∧ Prev wr w) (fun i _ => n - (intOf i).toNat)
  case atStart => exact ⟨0, Nat.zero_le _, rfl, Lib.hid rfl, prev_bel _ _⟩
  case round =>
    obtain ⟨k, hk, rfl, HV, hp⟩ := hrel
    by_cases hlt : k < n
    · obtain ⟨b1, o1, A1, c1, z1, B1, d1, x1, rfl, ob, q0, q1, s1, t1, -, -, ht⟩ := a.get hlt
      obtain ⟨b2, o2, A2, c2, z2, B2, d2, x2, rfl, ob2, q2, q3, s2, t2, -, -, ht2⟩ := b.get hlt
      obtain ⟨l1, l1'⟩ := hz.out _ (List.mem_of_getElem? ht.out)
      obtain ⟨l2, l2'⟩ := hz'.out _ (List.mem_of_getElem? ht2.out)
      simp only at l1 l1' l2 l2'
      rcases hr : (decide (z1 = z2) && decide (x1 = x2)) with _ | _
      · have HN : Hid (cellsB ts us = false) := Lib.hid (all_no (f := zxE) (zipT_at ht.out ht2.out) hr)
        go_wp2_with fail
        refine wp_region_up0 (by kernel_rfl) (fun ux _ => ?_)
        refine wpAnyH_on (i := 0) (d := 16) (v := ?_) rfl rfl (by kernel_rfl) (by kernel_rfl) (by kernel_rfl) (fun _ _ _ h => h) (by kernel_rfl) (prev_bel _ _) ?_ ?_
        rotate_left
        · intro uu (pu : Prev uu _)
          go_simp
          try (with_reducible rfl)
        try simp only [List.set]
        refine wpAnyH_on (i := 1) (d := 17) (v := ?_) rfl rfl (by kernel_rfl) (by kernel_rfl) (by kernel_rfl) (fun _ _ _ h => h) (by kernel_rfl) (prev_bel _ _) ?_ ?_
        rotate_left
        · intro uu (pu : Prev uu _)
          go_simp
          try (with_reducible rfl)
        try simp only [List.set]
        refine wpAnyH_on (i := 2) (d := 18) (v := ?_) rfl rfl (by kernel_rfl) (by kernel_rfl) (by kernel_rfl) (fun _ _ _ h => h) (by kernel_rfl) (prev_bel _ _) ?_ ?_
        rotate_left
        · intro uu (pu : Prev uu _)
          go_simp
          try (with_reducible rfl)
        try simp only [List.set]
        refine wpAnyH_on (i := 3) (d := 19) (v := ?_) rfl rfl (by kernel_rfl) (by kernel_rfl) (by kernel_rfl) (fun _ _ _ h => h) (by kernel_rfl) (prev_bel _ _) ?_ ?_
        rotate_left
        · intro uu (pu : Prev uu _)
          go_simp
          try (with_reducible rfl)
        try simp only [List.set]
        refine wpAnyH_on (i := 4) (d := 20) (v := ?_) rfl rfl (by kernel_rfl) (by kernel_rfl) (by kernel_rfl) (fun _ _ _ h => h) (by kernel_rfl) (prev_bel _ _) ?_ ?_
        rotate_left
        · intro uu (pu : Prev uu _)
          go_simp
          try (with_reducible rfl)
        try simp only [List.set]
        refine wpAnyH_on (i := 5) (d := 21) (v := ?_) rfl rfl (by kernel_rfl) (by kernel_rfl) (by kernel_rfl) (fun _ _ _ h => h) (by kernel_rfl) (prev_bel _ _) ?_ ?_
        rotate_left
        · intro uu (pu : Prev uu _)
          go_simp
          try (with_reducible rfl)
        try simp only [List.set]
        refine wpAnyH_on (i := 6) (d := 22) (v := ?_) rfl rfl (by kernel_rfl) (by kernel_rfl) (by kernel_rfl) (fun _ _ _ h => h) (by kernel_rfl) (prev_bel _ _) ?_ ?_
        rotate_left
        · intro uu (pu : Prev uu _)
          go_simp
          try (with_reducible rfl)
        try simp only [List.set]
        refine wpAnyH_on (i := 7) (d := 23) (v := ?_) rfl rfl (by kernel_rfl) (by kernel_rfl) (by kernel_rfl) (fun _ _ _ h => h) (by kernel_rfl) (prev_bel _ _) ?_ ?_
        rotate_left
        · intro uu (pu : Prev uu _)
          go_simp
          try (with_reducible rfl)
        try simp only [List.set]
        refine wpAnyH_ready (rs := [8]) (by kernel_rfl) (by simp) ?_
        refine AllReadyH.cons rfl (fun K hK => ?_) AllReadyH.nil
        go_simp
        (with_reducible refine (aT_equal (by omega) (by omega) (by omega)).mono ?_)
        rintro e ux ⟨rfl, _⟩
        dsimp only
        refine hK.out _ _ (prev_bel _ _) (fun hHeld => ?_)
        clear hHeld hK K
        try dsimp only [Act.put, List.setIfInBounds_toArray, List.set_cons_zero, List.set_cons_succ]
        refine wpAnyH_on (i := 9) (d := 25) (v := ?_) rfl rfl (by kernel_rfl) (by kernel_rfl) (by kernel_rfl) (fun _ _ _ h => h) (by kernel_rfl) (prev_bel _ _) ?_ ?_
        rotate_left
        · intro uu (pu : Prev uu _)
          go_simp
          try (with_reducible rfl)
        try simp only [List.set]
        refine wpAnyH_done (by kernel_rfl) ?_ _
        go_wp2_with fail
        go_ret
        exact ⟨by rw [HS.out, HN.out]; rfl, prev_bel _ _⟩
      · have HV' : Hid (((ts.zip us).take (k + 1)).all zxE = true) := Lib.hid ((all_step (zipT_at ht.out ht2.out) HV.out).trans hr)
        go_wp2_with fail
        refine wp_region_up0 (by kernel_rfl) (fun ux _ => ?_)
        refine wpAnyH_on (i := 0) (d := 16) (v := ?_) rfl rfl (by kernel_rfl) (by kernel_rfl) (by kernel_rfl) (fun _ _ _ h => h) (by kernel_rfl) (prev_bel _ _) ?_ ?_
        rotate_left
        · intro uu (pu : Prev uu _)
          go_simp
          try (with_reducible rfl)
        try simp only [List.set]
        refine wpAnyH_on (i := 1) (d := 17) (v := ?_) rfl rfl (by kernel_rfl) (by kernel_rfl) (by kernel_rfl) (fun _ _ _ h => h) (by kernel_rfl) (prev_bel _ _) ?_ ?_
        rotate_left
        · intro uu (pu : Prev uu _)
          go_simp
          try (with_reducible rfl)
        try simp only [List.set]
        refine wpAnyH_on (i := 2) (d := 18) (v := ?_) rfl rfl (by kernel_rfl) (by kernel_rfl) (by kernel_rfl) (fun _ _ _ h => h) (by kernel_rfl) (prev_bel _ _) ?_ ?_
        rotate_left
        · intro uu (pu : Prev uu _)
          go_simp
          try (with_reducible rfl)
        try simp only [List.set]
        refine wpAnyH_on (i := 3) (d := 19) (v := ?_) rfl rfl (by kernel_rfl) (by kernel_rfl) (by kernel_rfl) (fun _ _ _ h => h) (by kernel_rfl) (prev_bel _ _) ?_ ?_
        rotate_left
        · intro uu (pu : Prev uu _)
          go_simp
          try (with_reducible rfl)
        try simp only [List.set]
        refine wpAnyH_on (i := 4) (d := 20) (v := ?_) rfl rfl (by kernel_rfl) (by kernel_rfl) (by kernel_rfl) (fun _ _ _ h => h) (by kernel_rfl) (prev_bel _ _) ?_ ?_
        rotate_left
        · intro uu (pu : Prev uu _)
          go_simp
          try (with_reducible rfl)
        try simp only [List.set]
        refine wpAnyH_on (i := 5) (d := 21) (v := ?_) rfl rfl (by kernel_rfl) (by kernel_rfl) (by kernel_rfl) (fun _ _ _ h => h) (by kernel_rfl) (prev_bel _ _) ?_ ?_
        rotate_left
        · intro uu (pu : Prev uu _)
          go_simp
          try (with_reducible rfl)
        try simp only [List.set]
        refine wpAnyH_on (i := 6) (d := 22) (v := ?_) rfl rfl (by kernel_rfl) (by kernel_rfl) (by kernel_rfl) (fun _ _ _ h => h) (by kernel_rfl) (prev_bel _ _) ?_ ?_
        rotate_left
        · intro uu (pu : Prev uu _)
          go_simp
          try (with_reducible rfl)
        try simp only [List.set]
        refine wpAnyH_on (i := 7) (d := 23) (v := ?_) rfl rfl (by kernel_rfl) (by kernel_rfl) (by kernel_rfl) (fun _ _ _ h => h) (by kernel_rfl) (prev_bel _ _) ?_ ?_
        rotate_left
        · intro uu (pu : Prev uu _)
          go_simp
          try (with_reducible rfl)
        try simp only [List.set]
        refine wpAnyH_ready (rs := [8]) (by kernel_rfl) (by simp) ?_
        refine AllReadyH.cons rfl (fun K hK => ?_) AllReadyH.nil
        go_simp
        (with_reducible refine (aT_equal (by omega) (by omega) (by omega)).mono ?_)
        rintro e ux ⟨rfl, _⟩
        dsimp only
        refine hK.out _ _ (prev_bel _ _) (fun hHeld => ?_)
        clear hHeld hK K
        try dsimp only [Act.put, List.setIfInBounds_toArray, List.set_cons_zero, List.set_cons_succ]
        refine wpAnyH_on (i := 9) (d := 25) (v := ?_) rfl rfl (by kernel_rfl) (by kernel_rfl) (by kernel_rfl) (fun _ _ _ h => h) (by kernel_rfl) (prev_bel _ _) ?_ ?_
        rotate_left
        · intro uu (pu : Prev uu _)
          go_simp
          try (with_reducible rfl)
        try simp only [List.set]
        refine wpAnyH_done (by kernel_rfl) ?_ _
        go_wp2_with fail
        go_roundw
        case rel => exact ⟨k + 1, by omega, by go_num, HV', prev_bel _ _⟩
        case measure => simp [intOf]; omega
    · have HT : Hid (cellsB ts us = true) := Lib.hid (all_full (by rw [List.length_zip, ← HL.out]; omega) HV.out)
      go_wp2_with fail
      go_ret
      exact ⟨by rw [HS.out, HT.out]; rfl, prev_bel _ _⟩
end

end Go.Proofs.Ytphcffcecncngaa
