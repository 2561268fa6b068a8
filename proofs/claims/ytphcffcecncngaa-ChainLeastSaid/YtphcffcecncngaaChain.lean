/- chain.Chain: Right, Nodes, Total, check, kept, single, step. -/
import Derived.Test.YtphcffcecncngaaAuto
import Derived.Test.YtphcffcecncngaaChainMath
import Derived.Lib.MinMax
namespace Go.Proofs.Ytphcffcecncngaa
open Go.RowKit

def wB (z : Int) : Bool := decide (1 ≤ z) && decide (z ≤ 65536)
def Ch.okB (c : Ch) : Bool := decide (1 ≤ c.n) && decide (c.n ≤ 64) && decide (c.W.length = c.n + 1) && c.W.all wB && c.K.all costB
theorem Ch.ok_of {c : Ch} (h : c.okB = true) : c.Ok := by
  simp only [Ch.okB, Bool.and_eq_true, decide_eq_true_eq, List.all_eq_true, wB, costB] at h
  obtain ⟨⟨⟨⟨h1, h2⟩, h3⟩, h4⟩, h5⟩ := h
  exact ⟨h1, h2, h3, fun z hz => (h4 z hz).1, fun z hz => (h4 z hz).2, fun z hz => (h5 z hz).1, fun z hz => (h5 z hz).2⟩
theorem all_take {α : Type} {f : α → Bool} {l : List α} {k : Nat} {x : α} (h : (l.take k).all f = true) (hx : l[k]? = some x) (hf : f x = true) : (l.take (k + 1)).all f = true := by
  rw [List.take_add_one, hx, Option.toList_some, List.all_append, h]
  simp [hf]
theorem all_end {α : Type} {f : α → Bool} {l : List α} {k : Nat} (h : (l.take k).all f = true) (hk : l.length ≤ k) : l.all f = true := by
  rwa [List.take_of_length_le hk] at h
theorem all_bad {α : Type} {f : α → Bool} {l : List α} {k : Nat} {x : α} (hx : l[k]? = some x) (hf : f x = false) : l.all f = false := by
  rw [List.all_eq_false]
  exact ⟨x, List.mem_of_getElem? hx, by simp [hf]⟩
section
variable {w : World} {A B : Option Addr} {n m p q : Nat} {c : Ch}
theorem a_safe {z : Int} : Calls Try.prog 60 #[.int .i64 z] w (RetV w (.bool (costB z))) := (safe_right z w).mono fun _ _ ⟨he, hw⟩ => ⟨he, hw ▸ prev_bel _ _⟩
set_option maxRecDepth 100000 in
set_option maxHeartbeats 4000000 in
theorem ch_right [a : Sl w A n c.W] [b : Sl w B m c.K] : Calls Try.prog 22 #[.agg #[.slice A n p, .slice B m q]] w (RetV w (.bool c.okB)) := by
  have CB := @cell_bx
  have CP := @cell_prev
  have HL := Lib.hid a.len
  have HL' : Hid (m = c.n) := Lib.hid b.len
  by_cases h1 : 1 ≤ m
  rotate_left
  · have HN : Hid (c.okB = false) := Lib.hid (by unfold Ch.okB; rw [← HL'.out, decide_eq_false h1]; rfl)
    go_enter Try.func22, Try.ntmps22
    go_wp2_with fail
    go_ret
    exact ⟨by rw [HN.out]; rfl, prev_bel _ _⟩
  by_cases h2 : m ≤ 64
  rotate_left
  · have HN : Hid (c.okB = false) := Lib.hid (by unfold Ch.okB; rw [← HL'.out, decide_eq_false h2]; simp)
    go_enter Try.func22, Try.ntmps22
    go_wp2_with fail
    go_ret
    exact ⟨by rw [HN.out]; rfl, prev_bel _ _⟩
  by_cases h3 : n = m + 1
  rotate_left
  · have HN : Hid (c.okB = false) := Lib.hid (by unfold Ch.okB; rw [← HL'.out, ← HL.out, decide_eq_false h3]; simp)
    have e : ((n : Int) != (m : Int) + 1) = true := by rw [bne_iff_ne]; omega
    clear h3
    go_enter Try.func22, Try.ntmps22
    go_wp2_with fail
    go_ret
    exact ⟨by rw [HN.out]; rfl, prev_bel _ _⟩
  subst h3
  have HS : Hid (c.okB = (c.W.all wB && c.K.all costB)) := Lib.hid (by
    unfold Ch.okB
    rw [← HL'.out, ← HL.out, decide_eq_true h1, decide_eq_true h2, decide_eq_true rfl]
    simp)
  go_enter Try.func22, Try.ntmps22
  go_wp2_with fail
  go_loopw [28] (fun i wr => ∃ k : Nat, k ≤ m + 1 ∧ i = .int .i64 k ∧ Hid ((c.W.take k).all wB = true) ∧ Bx wr w.heap.size 24 #[.slice A (m + 1) p, .slice B m q] ∧ Prev wr w) (fun i _ => m + 1 - (intOf i).toNat)
  case atStart => exact ⟨0, Nat.zero_le _, rfl, Lib.hid rfl, inferInstance, prev_bel _ _⟩
  case round =>
    obtain ⟨k, hk, rfl, HV, hx, hp⟩ := hrel
    by_cases hlt : k < m + 1
    · obtain ⟨b1, o1, z, rfl, ob1, v1, e1⟩ := a.get hlt
      by_cases hz1 : 1 ≤ z
      rotate_left
      · have HN : Hid (c.W.all wB = false) := Lib.hid (all_bad e1.out (by simp [wB]; omega))
        go_wp2_with fail
        go_ret
        exact ⟨by rw [HS.out, HN.out]; rfl, prev_bel _ _⟩
      by_cases hz2 : z ≤ 65536
      rotate_left
      · have HN : Hid (c.W.all wB = false) := Lib.hid (all_bad e1.out (by simp [wB]; omega))
        go_wp2_with fail
        go_ret
        exact ⟨by rw [HS.out, HN.out]; rfl, prev_bel _ _⟩
      have HV2 := Lib.hid (all_take HV.out e1.out (by simp [wB]; omega))
      clear e1
      go_wp2_with fail
      go_roundw
      case rel => exact ⟨k + 1, by omega, by go_num, HV2, inferInstance, prev_bel _ _⟩
      case measure => simp [intOf]; omega
    · have HW : Hid (c.okB = c.K.all costB) := Lib.hid (by rw [HS.out, all_end HV.out (by rw [← HL.out]; omega), Bool.true_and])
      obtain ⟨v, rfl⟩ : ∃ v : World, v = wr := ⟨_, rfl⟩
      go_wp2_with fail
      go_loopw [42] (fun i wr => ∃ k : Nat, k ≤ m ∧ i = .int .i64 k ∧ Hid ((c.K.take k).all costB = true) ∧ Prev wr v) (fun i _ => m - (intOf i).toNat)
      case atStart => exact ⟨0, Nat.zero_le _, rfl, Lib.hid rfl, prev_bel _ _⟩
      case round =>
        obtain ⟨k, hk, rfl, HV, hp⟩ := hrel
        by_cases hlt : k < m
        · obtain ⟨b1, o1, z, rfl, ob1, v1, e1⟩ := b.get hlt
          rcases hz : costB z with _ | _
          · have HN : Hid (c.K.all costB = false) := Lib.hid (all_bad e1.out hz)
            go_wp2_with (first | (go_at_call 60; (try first | (with_reducible refine gen_boxK3 (fun u _ _ _ _ => ?_)) | (with_reducible refine gen_boxK2 (fun u _ _ _ => ?_)) | (with_reducible refine gen_boxK (fun u _ _ => ?_))); (with_reducible refine (a_safe).mono ?_); rintro e u ⟨rfl, _⟩))
            go_ret
            exact ⟨by rw [HW.out, HN.out]; rfl, prev_bel _ _⟩
          have HV2 := Lib.hid (all_take HV.out e1.out hz)
          clear e1
          go_wp2_with (first | (go_at_call 60; (try first | (with_reducible refine gen_boxK3 (fun u _ _ _ _ => ?_)) | (with_reducible refine gen_boxK2 (fun u _ _ _ => ?_)) | (with_reducible refine gen_boxK (fun u _ _ => ?_))); (with_reducible refine (a_safe).mono ?_); rintro e u ⟨rfl, _⟩))
          go_roundw
          case rel => exact ⟨k + 1, by omega, by go_num, HV2, prev_bel _ _⟩
          case measure => simp [intOf]; omega
        · have HX : Hid (c.okB = true) := Lib.hid (by rw [HW.out]; exact all_end HV.out (by show c.n ≤ k; rw [← HL'.out]; omega))
          go_wp2_with fail
          go_ret
          exact ⟨by rw [HX.out]; rfl, prev_bel _ _⟩
theorem Ch.w_of {i : Nat} {z : Int} (h : c.W[i]? = some z) : c.w i = z := by rw [Ch.w, List.getD_eq_getElem?_getD, h]; rfl
theorem Ch.k_of {i : Nat} {z : Int} (h : c.K[i]? = some z) : c.k i = z := by rw [Ch.k, List.getD_eq_getElem?_getD, h]; rfl
set_option maxRecDepth 100000 in
set_option maxHeartbeats 4000000 in
theorem ch_nodes [a : Sl w A n c.W] [b : Sl w B m c.K] : Calls Try.prog 23 #[.agg #[.slice A n p, .slice B m q]] w (RetV w (.int .i64 (if c.okB then (m : Int) else 0))) := by
  have CB := @cell_bx
  have CP := @cell_prev
  rcases h : c.okB with _ | _
  · go_enter Try.func23, Try.ntmps23
    go_wp2_with (first | (go_at_call 22; (try first | (with_reducible refine gen_boxK3 (fun u _ _ _ _ => ?_)) | (with_reducible refine gen_boxK2 (fun u _ _ _ => ?_)) | (with_reducible refine gen_boxK (fun u _ _ => ?_))); (with_reducible refine (ch_right).mono ?_); rintro e u ⟨rfl, _⟩))
    go_ret
    exact ⟨rfl, prev_bel _ _⟩
  · go_enter Try.func23, Try.ntmps23
    go_wp2_with (first | (go_at_call 22; (try first | (with_reducible refine gen_boxK3 (fun u _ _ _ _ => ?_)) | (with_reducible refine gen_boxK2 (fun u _ _ _ => ?_)) | (with_reducible refine gen_boxK (fun u _ _ => ?_))); (with_reducible refine (ch_right).mono ?_); rintro e u ⟨rfl, _⟩))
    go_ret
    exact ⟨rfl, prev_bel _ _⟩
/-- What Total returns. -/
def Ch.totR (c : Ch) : Int := if c.okB then c.cs 0 c.n else 0
set_option maxRecDepth 100000 in
set_option maxHeartbeats 4000000 in
theorem ch_total [a : Sl w A n c.W] [b : Sl w B m c.K] : Calls Try.prog 24 #[.agg #[.slice A n p, .slice B m q]] w (RetV w (.int .i64 c.totR)) := by
  have CB := @cell_bx
  have CP := @cell_prev
  rcases h : c.okB with _ | _
  · have HT : Hid (c.totR = 0) := Lib.hid (by rw [Ch.totR, h]; rfl)
    go_enter Try.func24, Try.ntmps24
    go_wp2_with (first | (go_at_call 22; (try first | (with_reducible refine gen_boxK3 (fun u _ _ _ _ => ?_)) | (with_reducible refine gen_boxK2 (fun u _ _ _ => ?_)) | (with_reducible refine gen_boxK (fun u _ _ => ?_))); (with_reducible refine (ch_right).mono ?_); rintro e u ⟨rfl, _⟩))
    go_ret
    exact ⟨by rw [HT.out]; rfl, prev_bel _ _⟩
  · have hk := Ch.ok_of h
    have HL' : Hid (m = c.n) := Lib.hid b.len
    have hm : m ≤ 64 := by rw [HL'.out]; exact hk.n2
    have HT : Hid (c.totR = c.cs 0 m) := Lib.hid (by rw [Ch.totR, h, HL'.out]; rfl)
    have HS : Hid (∀ j : Nat, j ≤ 64 → 0 ≤ c.cs 0 j ∧ c.cs 0 j ≤ 70368744177664) := Lib.hid fun j hj => ⟨hk.cs_0 0 j, by have := hk.cs_2 0 j; omega⟩
    have HK : Hid (∀ j, c.cs 0 (j + 1) = c.cs 0 j + c.k j) := Lib.hid fun j => by rw [Ch.cs, Nat.zero_add]
    have HZ : Hid (∀ j, 0 ≤ c.k j ∧ c.k j ≤ 1099511627776) := Lib.hid fun j => ⟨hk.k_0 j, hk.k_2 j⟩
    clear hk
    go_enter Try.func24, Try.ntmps24
    go_wp2_with (first | (go_at_call 22; (try first | (with_reducible refine gen_boxK3 (fun u _ _ _ _ => ?_)) | (with_reducible refine gen_boxK2 (fun u _ _ _ => ?_)) | (with_reducible refine gen_boxK (fun u _ _ => ?_))); (with_reducible refine (ch_right).mono ?_); rintro e u ⟨rfl, _⟩))
    go_loopw [3, 12] (fun s i wr => ∃ (k : Nat) (S : Int), k ≤ m ∧ i = .int .i64 k ∧ s = .int .i64 S ∧ Hid (c.cs 0 k = S) ∧ Prev wr u) (fun _ i _ => m - (intOf i).toNat)
    case atStart => exact ⟨0, 0, Nat.zero_le _, rfl, rfl, Lib.hid rfl, prev_bel _ _⟩
    case round =>
      obtain ⟨k, S, hk, rfl, rfl, HV, hp⟩ := hrel
      by_cases hlt : k < m
      · obtain ⟨b1, o1, z, rfl, ob1, v1, e1⟩ := b.get hlt
        obtain ⟨s1, s2⟩ := HS.out k (by omega)
        rw [HV.out] at s1 s2
        have HN : Hid (c.cs 0 (k + 1) = S + z) := Lib.hid (by rw [HK.out, HV.out, Ch.k_of e1.out])
        obtain ⟨z1, z2⟩ := HZ.out k
        rw [Ch.k_of e1.out] at z1 z2
        have hw : IntKind.i64.wrap (S + z) = S + z := by rw [IntKind.wrap_i64]; omega
        clear e1
        go_wp2_with fail
        go_roundw
        case rel => exact ⟨k + 1, S + z, by omega, by go_num, rfl, HN, prev_bel _ _⟩
        case measure => simp [intOf]; omega
      · have HX : Hid (c.totR = S) := Lib.hid (by rw [HT.out, ← HV.out, show k = m from by omega])
        go_wp2_with fail
        go_ret
        exact ⟨by rw [HX.out]; rfl, prev_bel _ _⟩
/-- The error of arguments. -/
def Ch.checkE (c : Ch) (cap : Int) : Int := if c.okB then (if cap < 0 ∨ 4096 < cap then 11 else 0) else 10
set_option maxRecDepth 100000 in
set_option maxHeartbeats 4000000 in
theorem ch_check [a : Sl w A n c.W] [b : Sl w B m c.K] {cap : Int} : Calls Try.prog 49 #[.agg #[.slice A n p, .slice B m q], .int .i64 cap] w (RetV w (.int .i64 (c.checkE cap))) := by
  have CB := @cell_bx
  have CP := @cell_prev
  rcases h : c.okB with _ | _
  · have HT : Hid (c.checkE cap = 10) := Lib.hid (by rw [Ch.checkE, h]; rfl)
    go_enter Try.func49, Try.ntmps49
    go_wp2_with (first | (go_at_call 22; (try first | (with_reducible refine gen_boxK3 (fun u _ _ _ _ => ?_)) | (with_reducible refine gen_boxK2 (fun u _ _ _ => ?_)) | (with_reducible refine gen_boxK (fun u _ _ => ?_))); (with_reducible refine (ch_right).mono ?_); rintro e u ⟨rfl, _⟩))
    go_ret
    exact ⟨by rw [HT.out]; rfl, prev_bel _ _⟩
  by_cases h1 : cap < 0
  · have HT : Hid (c.checkE cap = 11) := Lib.hid (by rw [Ch.checkE, h, if_pos rfl, if_pos (.inl h1)])
    go_enter Try.func49, Try.ntmps49
    go_wp2_with (first | (go_at_call 22; (try first | (with_reducible refine gen_boxK3 (fun u _ _ _ _ => ?_)) | (with_reducible refine gen_boxK2 (fun u _ _ _ => ?_)) | (with_reducible refine gen_boxK (fun u _ _ => ?_))); (with_reducible refine (ch_right).mono ?_); rintro e u ⟨rfl, _⟩))
    go_ret
    exact ⟨by rw [HT.out]; rfl, prev_bel _ _⟩
  by_cases h2 : 4096 < cap
  · have HT : Hid (c.checkE cap = 11) := Lib.hid (by rw [Ch.checkE, h, if_pos rfl, if_pos (.inr h2)])
    go_enter Try.func49, Try.ntmps49
    go_wp2_with (first | (go_at_call 22; (try first | (with_reducible refine gen_boxK3 (fun u _ _ _ _ => ?_)) | (with_reducible refine gen_boxK2 (fun u _ _ _ => ?_)) | (with_reducible refine gen_boxK (fun u _ _ => ?_))); (with_reducible refine (ch_right).mono ?_); rintro e u ⟨rfl, _⟩))
    go_ret
    exact ⟨by rw [HT.out]; rfl, prev_bel _ _⟩
  · have HT : Hid (c.checkE cap = 0) := Lib.hid (by rw [Ch.checkE, h, if_pos rfl, if_neg (by omega)])
    go_enter Try.func49, Try.ntmps49
    go_wp2_with (first | (go_at_call 22; (try first | (with_reducible refine gen_boxK3 (fun u _ _ _ _ => ?_)) | (with_reducible refine gen_boxK2 (fun u _ _ _ => ?_)) | (with_reducible refine gen_boxK (fun u _ _ => ?_))); (with_reducible refine (ch_right).mono ?_); rintro e u ⟨rfl, _⟩))
    go_ret
    exact ⟨by rw [HT.out]; rfl, prev_bel _ _⟩
set_option maxRecDepth 100000 in
set_option maxHeartbeats 4000000 in
theorem ch_kept [a : Sl w A n c.W] {l : Nat} (hl : l < n) : Calls Try.prog 84 #[.agg #[.slice A n p, .slice B m q], .int .i64 l] w (RetV w (.int .i64 (c.kept l))) := by
  have CB := @cell_bx
  have CP := @cell_prev
  by_cases h0 : l = 0
  · subst h0
    have HT : Hid (c.kept 0 = 0) := Lib.hid (by rw [Ch.kept, if_pos rfl])
    go_enter Try.func84, Try.ntmps84
    go_wp2_with fail
    go_ret
    exact ⟨by rw [HT.out]; rfl, prev_bel _ _⟩
  · obtain ⟨b1, o1, z, rfl, ob1, v1, e1⟩ := a.get hl
    have HT : Hid (c.kept l = z) := Lib.hid (by rw [Ch.kept, if_neg h0, Ch.w_of e1.out])
    clear e1
    go_enter Try.func84, Try.ntmps84
    go_wp2_with fail
    go_ret
    exact ⟨by rw [HT.out]; rfl, prev_bel _ _⟩
theorem Sl.at_w [a : Sl w A n c.W] {l : Nat} (hl : l < n) : ∃ b off, A = some ⟨b, off, none⟩ ∧ Old b w ∧ w.cell? ⟨b, off + l, none⟩ = some (.int .i64 (c.w l)) := by
  obtain ⟨b1, o1, z, rfl, ob1, v1, e1⟩ := a.get hl
  rw [← Ch.w_of e1.out] at v1
  exact ⟨b1, o1, rfl, ob1, v1⟩
theorem Sl.at_k [a : Sl w A n c.K] {l : Nat} (hl : l < n) : ∃ b off, A = some ⟨b, off, none⟩ ∧ Old b w ∧ w.cell? ⟨b, off + l, none⟩ = some (.int .i64 (c.k l)) := by
  obtain ⟨b1, o1, z, rfl, ob1, v1, e1⟩ := a.get hl
  rw [← Ch.k_of e1.out] at v1
  exact ⟨b1, o1, rfl, ob1, v1⟩
set_option maxRecDepth 100000 in
set_option maxHeartbeats 4000000 in
theorem ch_single [a : Sl w A n c.W] (h : Hid c.Ok) {l r : Nat} (hl : l < n) (hr : r < n) : Calls Try.prog 58 #[.agg #[.slice A n p, .slice B m q], .agg #[.int .i64 l, .int .i64 r]] w (RetV w (.int .i64 (c.single l r))) := by
  have CB := @cell_bx
  have CP := @cell_prev
  have a1 := h.out.w_0 r
  have a2 := h.out.w_2 r
  have a3 := h.out.kept_0 l
  have a4 := h.out.kept_2 l
  have HT : Hid (c.single l r = c.w r + c.kept l) := Lib.hid rfl
  have hw : IntKind.i64.wrap (c.w r + c.kept l) = c.w r + c.kept l := by rw [IntKind.wrap_i64]; omega
  clear a1 a2 a3 a4
  obtain ⟨b1, o1, rfl, ob1, v1⟩ := Sl.at_w (c := c) (w := w) (A := A) hr
  go_enter Try.func58, Try.ntmps58
  go_wp2_with fail
  refine wp_region_up0 (by kernel_rfl) (fun ux _ => ?_)
  refine wpAnyH_on (i := 0) (d := 5) (v := ?_) rfl rfl (by kernel_rfl) (by kernel_rfl) (by kernel_rfl) (fun _ _ _ h => h) (by kernel_rfl) (prev_bel _ _) ?_ ?_
  rotate_left
  · intro uu (pu : Prev uu _)
    go_simp
    try (with_reducible rfl)
  try simp only [List.set]
  refine wpAnyH_on (i := 1) (d := 6) (v := ?_) rfl rfl (by kernel_rfl) (by kernel_rfl) (by kernel_rfl) (fun _ _ _ h => h) (by kernel_rfl) (prev_bel _ _) ?_ ?_
  rotate_left
  · intro uu (pu : Prev uu _)
    go_simp
    try (with_reducible rfl)
  try simp only [List.set]
  refine wpAnyH_on (i := 2) (d := 7) (v := ?_) rfl rfl (by kernel_rfl) (by kernel_rfl) (by kernel_rfl) (fun _ _ _ h => h) (by kernel_rfl) (prev_bel _ _) ?_ ?_
  rotate_left
  · intro uu (pu : Prev uu _)
    go_simp
    try (with_reducible rfl)
  try simp only [List.set]
  refine wpAnyH_on (i := 3) (d := 8) (v := ?_) rfl rfl (by kernel_rfl) (by kernel_rfl) (by kernel_rfl) (fun _ _ _ h => h) (by kernel_rfl) (prev_bel _ _) ?_ ?_
  rotate_left
  · intro uu (pu : Prev uu _)
    go_simp
    try (with_reducible rfl)
  try simp only [List.set]
  refine wpAnyH_on (i := 4) (d := 9) (v := ?_) rfl rfl (by kernel_rfl) (by kernel_rfl) (by kernel_rfl) (fun _ _ _ h => h) (by kernel_rfl) (prev_bel _ _) ?_ ?_
  rotate_left
  · intro uu (pu : Prev uu _)
    go_simp
    try (with_reducible rfl)
  try simp only [List.set]
  refine wpAnyH_on (i := 5) (d := 10) (v := ?_) rfl rfl (by kernel_rfl) (by kernel_rfl) (by kernel_rfl) (fun _ _ _ h => h) (by kernel_rfl) (prev_bel _ _) ?_ ?_
  rotate_left
  · intro uu (pu : Prev uu _)
    go_simp
    try (with_reducible rfl)
  try simp only [List.set]
  refine wpAnyH_on (i := 6) (d := 11) (v := ?_) rfl rfl (by kernel_rfl) (by kernel_rfl) (by kernel_rfl) (fun _ _ _ h => h) (by kernel_rfl) (prev_bel _ _) ?_ ?_
  rotate_left
  · intro uu (pu : Prev uu _)
    go_simp
    try (with_reducible rfl)
  try simp only [List.set]
  refine wpAnyH_on (i := 7) (d := 12) (v := ?_) rfl rfl (by kernel_rfl) (by kernel_rfl) (by kernel_rfl) (fun _ _ _ h => h) (by kernel_rfl) (prev_bel _ _) ?_ ?_
  rotate_left
  · intro uu (pu : Prev uu _)
    go_simp
    try (with_reducible rfl)
  try simp only [List.set]
  refine wpAnyH_on (i := 8) (d := 13) (v := ?_) rfl rfl (by kernel_rfl) (by kernel_rfl) (by kernel_rfl) (fun _ _ _ h => h) (by kernel_rfl) (prev_bel _ _) ?_ ?_
  rotate_left
  · intro uu (pu : Prev uu _)
    go_simp
    try (with_reducible rfl)
  try simp only [List.set]
  refine wpAnyH_ready (rs := [9]) (by kernel_rfl) (by simp) ?_
  refine AllReadyH.cons rfl (fun K hK => ?_) AllReadyH.nil
  go_simp
  (with_reducible refine (ch_kept (by omega)).mono ?_)
  rintro e ux ⟨rfl, _⟩
  dsimp only
  refine hK.out _ _ (prev_bel _ _) (fun hHeld => ?_)
  clear hHeld hK K
  try dsimp only [Act.put, List.setIfInBounds_toArray, List.set_cons_zero, List.set_cons_succ]
  refine wpAnyH_on (i := 10) (d := 15) (v := ?_) rfl rfl (by kernel_rfl) (by kernel_rfl) (by kernel_rfl) (fun _ _ _ h => h) (by kernel_rfl) (prev_bel _ _) ?_ ?_
  rotate_left
  · intro uu (pu : Prev uu _)
    go_simp
    try (with_reducible rfl)
  try simp only [List.set]
  refine wpAnyH_on (i := 11) (d := 4) (v := ?_) rfl rfl (by kernel_rfl) (by kernel_rfl) (by kernel_rfl) (fun _ _ _ h => h) (by kernel_rfl) (prev_bel _ _) ?_ ?_
  rotate_left
  · intro uu (pu : Prev uu _)
    go_simp
    try (with_reducible rfl)
  try simp only [List.set]
  refine wpAnyH_done (by kernel_rfl) ?_ _
  go_wp2_with fail
  go_ret
  exact ⟨by rw [HT.out]; rfl, prev_bel _ _⟩
set_option maxRecDepth 100000 in
set_option maxHeartbeats 4000000 in
theorem ch_step [a : Sl w A n c.W] [b : Sl w B m c.K] (h : Hid c.Ok) {l r k : Nat} (hl : l < k) (hk : k < r) (hr : r ≤ m) : Calls Try.prog 59 #[.agg #[.slice A n p, .slice B m q], .agg #[.int .i64 l, .int .i64 r], .int .i64 k] w (RetV w (.int .i64 (c.step l r k))) := by
  have CB := @cell_bx
  have CP := @cell_prev
  have a1 := h.out.w_0 r
  have a2 := h.out.w_2 r
  have a3 := h.out.w_0 k
  have a4 := h.out.w_2 k
  have a5 := h.out.w_0 (k - 1)
  have a6 := h.out.w_2 (k - 1)
  have hm : m = c.n := b.len
  have hn : n = c.n + 1 := a.len.trans h.out.len
  have h64 := h.out.n2
  rw [← hm] at hn h64
  obtain ⟨j, rfl⟩ : ∃ j, k = j + 1 := ⟨k - 1, by omega⟩
  rw [Nat.add_sub_cancel] at a5 a6
  obtain ⟨b1, o1, hA, ob1, v1⟩ := Sl.at_w (c := c) (w := w) (A := A) (n := n) (l := r) (by omega)
  obtain ⟨b2, o2, hA2, ob2, v2⟩ := Sl.at_w (c := c) (w := w) (A := A) (n := n) (l := j + 1) (by omega)
  obtain ⟨b3, o3, hA3, ob3, v3⟩ := Sl.at_w (c := c) (w := w) (A := A) (n := n) (l := j) (by omega)
  rw [hA] at hA2 hA3
  injection hA2 with hA2; injection hA2 with hA2 hA2'; subst hA2 hA2'
  injection hA3 with hA3; injection hA3 with hA3 hA3'; subst hA3 hA3'
  subst hA
  clear ob2 ob3
  have hsub : IntKind.i64.wrap (((j + 1 : Nat) : Int) - 1) = ((j : Nat) : Int) := by rw [IntKind.wrap_i64]; omega
  have w1 : IntKind.i64.wrap (c.w (j + 1) + c.w j) = c.w (j + 1) + c.w j := by rw [IntKind.wrap_i64]; omega
  have w2 : IntKind.i64.wrap (c.w (j + 1) + c.w r) = c.w (j + 1) + c.w r := by rw [IntKind.wrap_i64]; omega
  have w3 : IntKind.i64.wrap (c.w (j + 1) + c.w j + c.w r) = c.w (j + 1) + c.w j + c.w r := by rw [IntKind.wrap_i64]; omega
  have HM := Lib.hid hm
  have HT : Hid (c.step l r (j + 1) = c.w (j + 1) + (if j = l then 0 else c.w j) + (if r = m then 0 else c.w r)) := Lib.hid (by rw [Ch.step, Nat.add_sub_cancel, hm])
  clear hm
  by_cases e1 : j = l
  · by_cases e2 : r = m
    · have HX : Hid (c.step l r (j + 1) = c.w (j + 1)) := Lib.hid (by rw [HT.out, if_pos e1, if_pos e2]; omega)
      have t1 : ((j : Int) != (l : Int)) = false := by simp; omega
      have t2 : ((r : Int) != (m : Int)) = false := by simp; omega
      clear e1 e2 a1 a2 a3 a4 a5 a6 HT
      go_enter Try.func59, Try.ntmps59
      go_wp2_with fail
      go_ret
      exact ⟨by rw [HX.out]; rfl, prev_bel _ _⟩
    · have HX : Hid (c.step l r (j + 1) = c.w (j + 1) + c.w r) := Lib.hid (by rw [HT.out, if_pos e1, if_neg e2]; omega)
      have t1 : ((j : Int) != (l : Int)) = false := by simp; omega
      have t2 : ((r : Int) != (m : Int)) = true := by rw [bne_iff_ne]; omega
      clear e1 e2 a1 a2 a3 a4 a5 a6 HT
      go_enter Try.func59, Try.ntmps59
      go_wp2_with fail
      go_ret
      exact ⟨by rw [HX.out]; rfl, prev_bel _ _⟩
  · by_cases e2 : r = m
    · have HX : Hid (c.step l r (j + 1) = c.w (j + 1) + c.w j) := Lib.hid (by rw [HT.out, if_neg e1, if_pos e2]; omega)
      have t1 : ((j : Int) != (l : Int)) = true := by rw [bne_iff_ne]; omega
      have t2 : ((r : Int) != (m : Int)) = false := by simp; omega
      clear e1 e2 a1 a2 a3 a4 a5 a6 HT
      go_enter Try.func59, Try.ntmps59
      go_wp2_with fail
      go_ret
      exact ⟨by rw [HX.out]; rfl, prev_bel _ _⟩
    · have HX : Hid (c.step l r (j + 1) = c.w (j + 1) + c.w j + c.w r) := Lib.hid (by rw [HT.out, if_neg e1, if_neg e2])
      have t1 : ((j : Int) != (l : Int)) = true := by rw [bne_iff_ne]; omega
      have t2 : ((r : Int) != (m : Int)) = true := by rw [bne_iff_ne]; omega
      clear e1 e2 a1 a2 a3 a4 a5 a6 HT
      go_enter Try.func59, Try.ntmps59
      go_wp2_with fail
      go_ret
      exact ⟨by rw [HX.out]; rfl, prev_bel _ _⟩
end

end Go.Proofs.Ytphcffcecncngaa
