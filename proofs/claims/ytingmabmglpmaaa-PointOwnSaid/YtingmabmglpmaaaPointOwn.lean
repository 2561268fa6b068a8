/- The walk of the statement PointOwn. -/
import Derived.Test.YtingmabmglpmaaaPointGoes
import Derived.Test.YtingmabmglpmaaaPoint6
import Derived.Test.YtingmabmglpmaaaAppendT
import Derived.Test.YtingmabmglpmaaaAppendA
import Derived.Deep.DeepCutAuto
namespace Go.Proofs.Ytingmabmglpmaaa
open Go.RowKit

section
variable {w w' : World} {A B C D : Option Addr} {n m c d c' d' g g' : Nat} {zs xs : List Int} {us ts : List Tn} {t : Tn}
set_option maxHeartbeats 1000000 in
theorem a05_sameT [a : Sl w A n zs] [b : Sl w B m xs] [a' : Sl w C n zs] [b' : Sl w D m xs] (hn : n ≤ 1000000) (hm : m ≤ 1000000) : Calls Try.prog 38 #[.agg #[.slice A n c, .slice B m d], .agg #[.slice C n c', .slice D m d']] w (RetV w (.bool true)) := by
  have CB := @cell_bx
  have CP := @cell_prev
  go_enter Try.func38, Try.ntmps38
  go_wp2_with (first | (go_at_call 17; (try first | (with_reducible refine gen_boxK3 (fun u _ _ _ _ => ?_)) | (with_reducible refine gen_boxK2 (fun u _ _ _ => ?_)) | (with_reducible refine gen_boxK (fun u _ _ => ?_))); (with_reducible refine (a03_sameT (by omega) (by omega)).mono ?_); rintro e u ⟨rfl, _⟩))
  go_loopw [24] (fun i wr => ∃ k : Nat, k ≤ m ∧ i = .int .i64 k ∧ Prev wr u) (fun i _ => m - (intOf i).toNat)
  case atStart => exact ⟨0, Nat.zero_le _, rfl, prev_bel _ _⟩
  case round =>
    obtain ⟨k, hk, rfl, hp⟩ := hrel
    by_cases hlt : k < m
    · obtain ⟨b1, o1, x, rfl, ob1, cx, hx⟩ := b.get hlt
      obtain ⟨b2, o2, y, rfl, ob2, cy, hy⟩ := b'.get hlt
      obtain rfl : x = y := by have h1 := hx.out; rw [hy.out] at h1; injection h1 with h1; exact h1.symm
      clear hx hy
      go_wp2_with fail
      refine wp_region_up0 (by kernel_rfl) (fun vx _ => ?_)
      refine wpAnyH_on (i := 0) (d := 27) (v := ?_) rfl rfl (by kernel_rfl) (by kernel_rfl) (by kernel_rfl) (fun _ _ _ h => h) (by kernel_rfl) (prev_bel _ _) ?_ ?_
      rotate_left
      · intro uu (pu : Prev uu _)
        go_simp
        try (with_reducible rfl)
      try simp only [List.set]
      refine wpAnyH_on (i := 1) (d := 28) (v := ?_) rfl rfl (by kernel_rfl) (by kernel_rfl) (by kernel_rfl) (fun _ _ _ h => h) (by kernel_rfl) (prev_bel _ _) ?_ ?_
      rotate_left
      · intro uu (pu : Prev uu _)
        go_simp
        try (with_reducible rfl)
      try simp only [List.set]
      refine wpAnyH_on (i := 2) (d := 29) (v := ?_) rfl rfl (by kernel_rfl) (by kernel_rfl) (by kernel_rfl) (fun _ _ _ h => h) (by kernel_rfl) (prev_bel _ _) ?_ ?_
      rotate_left
      · intro uu (pu : Prev uu _)
        go_simp
        try (with_reducible rfl)
      try simp only [List.set]
      refine wpAnyH_on (i := 3) (d := 30) (v := ?_) rfl rfl (by kernel_rfl) (by kernel_rfl) (by kernel_rfl) (fun _ _ _ h => h) (by kernel_rfl) (prev_bel _ _) ?_ ?_
      rotate_left
      · intro uu (pu : Prev uu _)
        go_simp
        try (with_reducible rfl)
      try simp only [List.set]
      refine wpAnyH_on (i := 4) (d := 31) (v := ?_) rfl rfl (by kernel_rfl) (by kernel_rfl) (by kernel_rfl) (fun _ _ _ h => h) (by kernel_rfl) (prev_bel _ _) ?_ ?_
      rotate_left
      · intro uu (pu : Prev uu _)
        go_simp
        try (with_reducible rfl)
      try simp only [List.set]
      refine wpAnyH_on (i := 5) (d := 32) (v := ?_) rfl rfl (by kernel_rfl) (by kernel_rfl) (by kernel_rfl) (fun _ _ _ h => h) (by kernel_rfl) (prev_bel _ _) ?_ ?_
      rotate_left
      · intro uu (pu : Prev uu _)
        go_simp
        try (with_reducible rfl)
      try simp only [List.set]
      refine wpAnyH_on (i := 6) (d := 33) (v := ?_) rfl rfl (by kernel_rfl) (by kernel_rfl) (by kernel_rfl) (fun _ _ _ h => h) (by kernel_rfl) (prev_bel _ _) ?_ ?_
      rotate_left
      · intro uu (pu : Prev uu _)
        go_simp
        try (with_reducible rfl)
      try simp only [List.set]
      refine wpAnyH_on (i := 7) (d := 34) (v := ?_) rfl rfl (by kernel_rfl) (by kernel_rfl) (by kernel_rfl) (fun _ _ _ h => h) (by kernel_rfl) (prev_bel _ _) ?_ ?_
      rotate_left
      · intro uu (pu : Prev uu _)
        go_simp
        try (with_reducible rfl)
      try simp only [List.set]
      refine wpAnyH_on (i := 8) (d := 35) (v := ?_) rfl rfl (by kernel_rfl) (by kernel_rfl) (by kernel_rfl) (fun _ _ _ h => h) (by kernel_rfl) (prev_bel _ _) ?_ ?_
      rotate_left
      · intro uu (pu : Prev uu _)
        go_simp
        try (with_reducible rfl)
      try simp only [List.set]
      refine wpAnyH_on (i := 9) (d := 36) (v := ?_) rfl rfl (by kernel_rfl) (by kernel_rfl) (by kernel_rfl) (fun _ _ _ h => h) (by kernel_rfl) (prev_bel _ _) ?_ ?_
      rotate_left
      · intro uu (pu : Prev uu _)
        go_simp
        try (with_reducible rfl)
      try simp only [List.set]
      refine wpAnyH_on (i := 10) (d := 37) (v := ?_) rfl rfl (by kernel_rfl) (by kernel_rfl) (by kernel_rfl) (fun _ _ _ h => h) (by kernel_rfl) (prev_bel _ _) ?_ ?_
      rotate_left
      · intro uu (pu : Prev uu _)
        go_simp
        try (with_reducible rfl)
      try simp only [List.set]
      refine wpAnyH_done (by kernel_rfl) ?_ _
      go_wp2_with fail
      go_roundw
      case rel => exact ⟨k + 1, by omega, by go_num, prev_bel _ _⟩
      case measure => simp [intOf]; omega
    · go_wp2_with fail
      go_ret
      exact ⟨rfl, prev_bel _ _⟩

/-- The rows of t are the call's own. -/
def TO (w : World) (B : Nat) (t : Tn) : Prop := OwnA w B 3 t.A t.c t.zs ∧ OwnA w B 38 t.B t.d t.xs
theorem TO.at {b : Nat} (h : TO w b t) [l : Later w w'] : TO w' b t := ⟨h.1.at, h.2.at⟩
theorem TO.te {b : Nat} (h : TO w b t) (bd : ∀ z ∈ t.xs, I64 z) : TE w t := ⟨h.1.rd, h.2.rd, h.2.len_le, bd⟩
theorem ownA_ne {b b' : Nat} {E : TypeId} (h : OwnA w b E A c zs) (ho : OwnT w b' B d us) (hE : E ≠ 26) : ∀ ad, A = some ad → ∀ ad', B = some ad' → ad'.block ≠ ad.block := by
  intro ad e ad' e' hb
  rcases h.form with ⟨rfl, _, _⟩ | ⟨g, cur, rfl, hB, hg, _⟩
  · cases e
  · injection e with e; subst e
    rcases ho.2 with ⟨hv, _⟩ | ⟨g2, cap, cur2, hv, hB2, hg2, _⟩
    · injection hv with hv; rw [hv] at e'; cases e'
    · injection hv with hv; rw [hv] at e'; injection e' with e'; subst e'
      simp only at hb
      subst hb
      rw [hg] at hg2
      injection hg2 with hg2; injection hg2 with _ h2 _
      exact hE h2
/-- A write into a row of tensors alone. -/
theorem TO.same {b b' : Nat} (h : TO w b t) (ho : OwnT w b' A c us) (hk : ∀ k, k < w.heap.size → (∀ ad, A = some ad → ad.block ≠ k) → w'.heap[k]? = w.heap[k]?) : TO w' b t :=
  ⟨h.1.same fun ad e => hk _ (h.1.lt ad e) fun ad' e' => ownA_ne h.1 ho (by decide) ad e ad' e', h.2.same fun ad e => hk _ (h.2.lt ad e) fun ad' e' => ownA_ne h.2 ho (by decide) ad e ad' e'⟩
theorem alike_snoc {n t : Tn} (h : ∀ (j : Nat) (a b : Tn), us[j]? = some a → ts[j]? = some b → a.zs = b.zs ∧ a.xs = b.xs) (ht : ts[us.length]? = some t) (e : n.zs = t.zs ∧ n.xs = t.xs) : ∀ (j : Nat) (a b : Tn), (us ++ [n])[j]? = some a → ts[j]? = some b → a.zs = b.zs ∧ a.xs = b.xs := by
  intro j a b ha hb
  by_cases hj : j < us.length
  · rw [List.getElem?_append_left hj] at ha
    exact h j a b ha hb
  · have := (List.getElem?_eq_some_iff.1 ha).1
    have hj' : j = us.length := by simp at this; omega
    subst hj'
    rw [List.getElem?_append_right (Nat.le_refl _)] at ha
    simp at ha; subst ha
    rw [ht] at hb
    injection hb with hb; subst hb
    exact e
theorem OwnT.lt {b : Nat} (h : OwnT w b A c us) : ∀ ad, A = some ad → ad.block < w.heap.size := by
  intro ad e
  rcases h.2 with ⟨hv, _⟩ | ⟨g2, cap, cur2, hv, hB2, hg2, _⟩
  · injection hv with hv; rw [hv] at e; cases e
  · injection hv with hv; rw [hv] at e; injection e with e; subst e
    exact (Array.getElem?_eq_some_iff.1 hg2).1
theorem OwnT.nil (w : World) (b : Nat) : OwnT w b none 0 [] := World.ownsRow_nil w b 26 2
end

set_option maxRecDepth 100000 in
set_option maxHeartbeats 8000000 in
theorem pointOwn_calls (kind kk : Int) (A B C : Option Addr) (c d e' : Nat) (ts : List Tn) (zg xg : List Int) (w : World) (hk : I64 kk) (h : TensW w A c ts) (iB : IntsIn w B d zg) (iC : IntsIn w C e' xg) (lB : zg.length ≤ reach8) (lC : xg.length ≤ reach8) :
    Calls Try.prog 10 #[.agg #[.int .i64 kind, .int .i64 kk, .slice A ts.length c, .slice B zg.length d, .slice C xg.length e']] w (LawTrue w) := by
  obtain ⟨N, hN⟩ : ∃ N, ts.length = N := ⟨_, rfl⟩
  have hn := h.len
  rw [hN]
  have a : Ts w A N ts := ⟨h.rd, hN.symm⟩
  have HN := Lib.hid hN
  clear hN
  have sB : Sl w B zg.length zg := ⟨iB.rd, rfl⟩
  have sC : Sl w C xg.length xg := ⟨iC.rd, rfl⟩
  have ig : I6s xg := iC.i6
  have lg : Le xg.length e' := ⟨iC.2.1⟩
  have ik : I6 kk := ⟨hk⟩
  unfold reach8 at lB lC
  have HB : Hid (∀ t ∈ ts ++ [(⟨B, d, zg, C, e', xg⟩ : Tn)], t.zs.length ≤ 17592186043904 ∧ t.xs.length ≤ 17592186043904) := Lib.hid fun t ht => by
    simp at ht
    rcases ht with ht | rfl
    · exact h.big t ht
    · exact ⟨lB, lC⟩
  have HE : Hid (∀ t ∈ ts ++ [(⟨B, d, zg, C, e', xg⟩ : Tn)], TE w t) := Lib.hid fun t ht => by
    simp at ht
    rcases ht with ht | rfl
    · exact h.rd.elems t ht
    · exact ⟨iB.rd, iC.rd, iC.2.1, fun z hz => wf_bounds (iC.2.2.2 z hz)⟩
  clear h hk iB iC
  obtain ⟨W0, hW0⟩ : ∃ W0, W0 = w.alloc (.cells #[.int .i64 kind, .int .i64 kk, .slice A N c, .slice B zg.length d, .slice C xg.length e'] 64) := ⟨_, rfl⟩
  have pW0 : Prev W0 w := hW0 ▸ Prev.alloc _ _
  have bW0 : Bx W0 w.heap.size 64 #[.int .i64 kind, .int .i64 kk, .slice A N c, .slice B zg.length d, .slice C xg.length e'] := hW0 ▸ Bx.new
  obtain ⟨sm, hsm⟩ : ∃ sm, decide (sumT (ts ++ [(⟨B, d, zg, C, e', xg⟩ : Tn)]) ≤ 800) = sm := ⟨_, rfl⟩
  have CB := @cell_bx
  have CP := @cell_prev
  go_enter Try.func10, Try.ntmps10
  go_upto_region 1 with fail
  rw [← hW0]
  clear hW0
  go_cut [24] (fun s wx => s = .bool (!sm) ∧ Prev wx W0)
  case first =>
    refine wp_region_up W0 (by kernel_rfl) (fun ux _ => ?_)
    refine wpAnyH_on (i := 1) (d := 16) (v := ?_) rfl rfl (by kernel_rfl) (by kernel_rfl) (by kernel_rfl) (fun _ _ _ h => h) (by kernel_rfl) (prev_bel _ _) ?_ ?_
    rotate_left
    · intro uu (pu : Prev uu _)
      go_simp
      try (with_reducible rfl)
    try simp only [List.set]
    refine wpAnyH_on (i := 2) (d := 17) (v := ?_) rfl rfl (by kernel_rfl) (by kernel_rfl) (by kernel_rfl) (fun _ _ _ h => h) (by kernel_rfl) (prev_bel _ _) ?_ ?_
    rotate_left
    · intro uu (pu : Prev uu _)
      go_simp
      try (with_reducible rfl)
    try simp only [List.set]
    refine wpAnyH_on (i := 4) (d := 19) (v := ?_) rfl rfl (by kernel_rfl) (by kernel_rfl) (by kernel_rfl) (fun _ _ _ h => h) (by kernel_rfl) (prev_bel _ _) ?_ ?_
    rotate_left
    · intro uu (pu : Prev uu _)
      go_simp
      try (with_reducible rfl)
    try simp only [List.set]
    refine wpAnyH_on (i := 5) (d := 20) (v := ?_) rfl rfl (by kernel_rfl) (by kernel_rfl) (by kernel_rfl) (fun _ _ _ h => h) (by kernel_rfl) (prev_bel _ _) ?_ ?_
    rotate_left
    · intro uu (pu : Prev uu _)
      go_simp
      try (with_reducible rfl)
    try simp only [List.set]
    refine wpAnyH_ready (rs := [0, 6]) (by kernel_rfl) (by simp) ?_
    refine AllReadyH.cons rfl (fun K hK => ?_) (AllReadyH.cons rfl (fun K hK => ?_) AllReadyH.nil)
    · go_simp
      refine hK.out _ _ (prev_bel W0 _) (fun hHeld => ?_)
      clear hHeld hK K
      try dsimp only [Act.put, List.setIfInBounds_toArray, List.set_cons_zero, List.set_cons_succ]
      refine gen_boxH (fun ux _ _ => ?_)
      refine wpAnyH_ready (rs := [3, 6]) (by kernel_rfl) (by simp) ?_
      refine AllReadyH.cons rfl (fun K hK => ?_) (AllReadyH.cons rfl (fun K hK => ?_) AllReadyH.nil)
      · refine step_appendT0 (by kernel_rfl) _ _ _ rfl Try.underlying27 rfl rfl ?_ ?_
        · (have := HN.out; omega)
        intro A3 c3 w3 ho3 _
        replace ho3 := ho3.more (B' := (World.heap W0).size) later_size
        refine hK.out _ _ (prev_bel W0 _) (fun hHeld => ?_)
        clear hHeld hK K
        try dsimp only [Act.put, List.setIfInBounds_toArray, List.set_cons_zero, List.set_cons_succ]
        refine wpAnyH_ready (rs := [6]) (by kernel_rfl) (by simp) ?_
        refine AllReadyH.cons rfl (fun K hK => ?_) AllReadyH.nil
        go_simp
        refine hK.out _ _ (prev_bel W0 _) (fun hHeld => ?_)
        clear hHeld hK K
        try dsimp only [Act.put, List.setIfInBounds_toArray, List.set_cons_zero, List.set_cons_succ]
        refine gen_boxH (fun ux _ _ => ?_)
        refine wpAnyH_ready (rs := [7]) (by kernel_rfl) (by simp) ?_
        refine AllReadyH.cons rfl (fun K hK => ?_) AllReadyH.nil
        refine step_appendT (B := (World.heap W0).size) (by kernel_rfl) _ _ _ rfl Try.underlying27 HN.out.symm rfl (ho3.at) rfl ?_ (later_size (w := W0)) ?_
        · (simp; omega)
        intro A7 c7 w7 ho7 hb3 hx3
        have : Prev w7 W0 := ⟨(bel W0 _).trans hb3⟩
        have HX3 := Lib.hid hx3
        clear hb3 hx3
        refine hK.out _ _ (prev_bel W0 _) (fun hHeld => ?_)
        clear hHeld hK K
        try dsimp only [Act.put, List.setIfInBounds_toArray, List.set_cons_zero, List.set_cons_succ]
        have tz : Ts w7 A7 (ts.length + 1) (ts ++ [_]) := ⟨ho7.trd fun t ht => (HE.out t ht).below (bel w w7), by simp⟩
        refine wpAnyH_ready (rs := [8]) (by kernel_rfl) (by simp) ?_
        refine AllReadyH.cons rfl (fun K hK => ?_) AllReadyH.nil
        go_simp
        (with_reducible refine (a05_small (by simp; omega) HB).mono ?_)
        rintro e ux ⟨rfl, _⟩
        dsimp only
        refine hK.out _ _ (prev_bel W0 _) (fun hHeld => ?_)
        clear hHeld hK K
        try dsimp only [Act.put, List.setIfInBounds_toArray, List.set_cons_zero, List.set_cons_succ]
        refine wpAnyH_on (i := 9) (d := 24) (v := ?_) rfl rfl (by kernel_rfl) (by kernel_rfl) (by kernel_rfl) (fun _ _ _ h => h) (by kernel_rfl) (prev_bel _ _) ?_ ?_
        rotate_left
        · intro uu (pu : Prev uu _)
          go_simp
          try (with_reducible rfl)
        try simp only [List.set]
        refine wpAnyH_done (by kernel_rfl) ?_ _
        go_wp2_with fail
        go_meet
        exact ⟨rfl, prev_bel _ _⟩
      · go_simp
        refine hK.out _ _ (prev_bel W0 _) (fun hHeld => ?_)
        clear hHeld hK K
        try dsimp only [Act.put, List.setIfInBounds_toArray, List.set_cons_zero, List.set_cons_succ]
        refine gen_boxH (fun ux _ _ => ?_)
        refine wpAnyH_ready (rs := [3]) (by kernel_rfl) (by simp) ?_
        refine AllReadyH.cons rfl (fun K hK => ?_) AllReadyH.nil
        refine step_appendT0 (by kernel_rfl) _ _ _ rfl Try.underlying27 rfl rfl ?_ ?_
        · (have := HN.out; omega)
        intro A3 c3 w3 ho3 _
        replace ho3 := ho3.more (B' := (World.heap W0).size) later_size
        refine hK.out _ _ (prev_bel W0 _) (fun hHeld => ?_)
        clear hHeld hK K
        try dsimp only [Act.put, List.setIfInBounds_toArray, List.set_cons_zero, List.set_cons_succ]
        refine wpAnyH_ready (rs := [7]) (by kernel_rfl) (by simp) ?_
        refine AllReadyH.cons rfl (fun K hK => ?_) AllReadyH.nil
        refine step_appendT (B := (World.heap W0).size) (by kernel_rfl) _ _ _ rfl Try.underlying27 HN.out.symm rfl (ho3.at) rfl ?_ (later_size (w := W0)) ?_
        · (simp; omega)
        intro A7 c7 w7 ho7 hb3 hx3
        have : Prev w7 W0 := ⟨(bel W0 _).trans hb3⟩
        have HX3 := Lib.hid hx3
        clear hb3 hx3
        refine hK.out _ _ (prev_bel W0 _) (fun hHeld => ?_)
        clear hHeld hK K
        try dsimp only [Act.put, List.setIfInBounds_toArray, List.set_cons_zero, List.set_cons_succ]
        have tz : Ts w7 A7 (ts.length + 1) (ts ++ [_]) := ⟨ho7.trd fun t ht => (HE.out t ht).below (bel w w7), by simp⟩
        refine wpAnyH_ready (rs := [8]) (by kernel_rfl) (by simp) ?_
        refine AllReadyH.cons rfl (fun K hK => ?_) AllReadyH.nil
        go_simp
        (with_reducible refine (a05_small (by simp; omega) HB).mono ?_)
        rintro e ux ⟨rfl, _⟩
        dsimp only
        refine hK.out _ _ (prev_bel W0 _) (fun hHeld => ?_)
        clear hHeld hK K
        try dsimp only [Act.put, List.setIfInBounds_toArray, List.set_cons_zero, List.set_cons_succ]
        refine wpAnyH_on (i := 9) (d := 24) (v := ?_) rfl rfl (by kernel_rfl) (by kernel_rfl) (by kernel_rfl) (fun _ _ _ h => h) (by kernel_rfl) (prev_bel _ _) ?_ ?_
        rotate_left
        · intro uu (pu : Prev uu _)
          go_simp
          try (with_reducible rfl)
        try simp only [List.set]
        refine wpAnyH_done (by kernel_rfl) ?_ _
        go_wp2_with fail
        go_meet
        exact ⟨rfl, prev_bel _ _⟩
    · go_simp
      refine hK.out _ _ (prev_bel W0 _) (fun hHeld => ?_)
      clear hHeld hK K
      try dsimp only [Act.put, List.setIfInBounds_toArray, List.set_cons_zero, List.set_cons_succ]
      refine gen_boxH (fun ux _ _ => ?_)
      refine wpAnyH_ready (rs := [0]) (by kernel_rfl) (by simp) ?_
      refine AllReadyH.cons rfl (fun K hK => ?_) AllReadyH.nil
      go_simp
      refine hK.out _ _ (prev_bel W0 _) (fun hHeld => ?_)
      clear hHeld hK K
      try dsimp only [Act.put, List.setIfInBounds_toArray, List.set_cons_zero, List.set_cons_succ]
      refine gen_boxH (fun ux _ _ => ?_)
      refine wpAnyH_ready (rs := [3]) (by kernel_rfl) (by simp) ?_
      refine AllReadyH.cons rfl (fun K hK => ?_) AllReadyH.nil
      refine step_appendT0 (by kernel_rfl) _ _ _ rfl Try.underlying27 rfl rfl ?_ ?_
      · (have := HN.out; omega)
      intro A3 c3 w3 ho3 _
      replace ho3 := ho3.more (B' := (World.heap W0).size) later_size
      refine hK.out _ _ (prev_bel W0 _) (fun hHeld => ?_)
      clear hHeld hK K
      try dsimp only [Act.put, List.setIfInBounds_toArray, List.set_cons_zero, List.set_cons_succ]
      refine wpAnyH_ready (rs := [7]) (by kernel_rfl) (by simp) ?_
      refine AllReadyH.cons rfl (fun K hK => ?_) AllReadyH.nil
      refine step_appendT (B := (World.heap W0).size) (by kernel_rfl) _ _ _ rfl Try.underlying27 HN.out.symm rfl (ho3.at) rfl ?_ (later_size (w := W0)) ?_
      · (simp; omega)
      intro A7 c7 w7 ho7 hb3 hx3
      have : Prev w7 W0 := ⟨(bel W0 _).trans hb3⟩
      have HX3 := Lib.hid hx3
      clear hb3 hx3
      refine hK.out _ _ (prev_bel W0 _) (fun hHeld => ?_)
      clear hHeld hK K
      try dsimp only [Act.put, List.setIfInBounds_toArray, List.set_cons_zero, List.set_cons_succ]
      have tz : Ts w7 A7 (ts.length + 1) (ts ++ [_]) := ⟨ho7.trd fun t ht => (HE.out t ht).below (bel w w7), by simp⟩
      refine wpAnyH_ready (rs := [8]) (by kernel_rfl) (by simp) ?_
      refine AllReadyH.cons rfl (fun K hK => ?_) AllReadyH.nil
      go_simp
      (with_reducible refine (a05_small (by simp; omega) HB).mono ?_)
      rintro e ux ⟨rfl, _⟩
      dsimp only
      refine hK.out _ _ (prev_bel W0 _) (fun hHeld => ?_)
      clear hHeld hK K
      try dsimp only [Act.put, List.setIfInBounds_toArray, List.set_cons_zero, List.set_cons_succ]
      refine wpAnyH_on (i := 9) (d := 24) (v := ?_) rfl rfl (by kernel_rfl) (by kernel_rfl) (by kernel_rfl) (fun _ _ _ h => h) (by kernel_rfl) (prev_bel _ _) ?_ ?_
      rotate_left
      · intro uu (pu : Prev uu _)
        go_simp
        try (with_reducible rfl)
      try simp only [List.set]
      refine wpAnyH_done (by kernel_rfl) ?_ _
      go_wp2_with fail
      go_meet
      exact ⟨rfl, prev_bel _ _⟩
  case rest =>
    obtain ⟨hs, pX⟩ := hcut
    rcases sm with _ | _
    · replace hs : _ = Value.bool true := hs
      subst hs
      go_wp2_with (first | (go_at_call 29; (try first | (with_reducible refine gen_boxK3 (fun u _ _ _ _ => ?_)) | (with_reducible refine gen_boxK2 (fun u _ _ _ => ?_)) | (with_reducible refine gen_boxK (fun u _ _ => ?_))); (with_reducible refine (a05_awake).mono ?_); rintro e u ⟨rfl, _⟩))
      go_ret
      exact ⟨rfl, bel w _⟩
    replace hs : _ = Value.bool false := hs
    subst hs
    have hsum : sumT (ts ++ [(⟨B, d, zg, C, e', xg⟩ : Tn)]) ≤ 800 := by simpa using hsm
    have hx : Hid (∀ t ∈ ts, t.xs.length ≤ 1000000) := Lib.hid fun t ht => by have := sumT_mem (ts := ts ++ [(⟨B, d, zg, C, e', xg⟩ : Tn)]) (t := t) (by simp [ht]); omega
    have hz : Hid (∀ t ∈ ts, t.zs.length ≤ 1000000) := Lib.hid fun t ht => by have := sumT_mem (ts := ts ++ [(⟨B, d, zg, C, e', xg⟩ : Tn)]) (t := t) (by simp [ht]); omega
    have hzg : zg.length ≤ 1000000 := by have := sumT_mem (ts := ts ++ [(⟨B, d, zg, C, e', xg⟩ : Tn)]) (t := ⟨B, d, zg, C, e', xg⟩) (by simp); simp only at this; omega
    clear hsum hsm
    have hNN : N * 48 ≤ 140737488351232 := by rw [← HN.out]; exact hn
    go_wp2_with fail
    go_loopw [3, 29] (fun s i wr => ∃ (A' : Option Addr) (c' : Nat) (us : List Tn), us.length ≤ N ∧ i = .int .i64 us.length ∧ s = .slice A' us.length c' ∧ OwnT wr W0.heap.size A' c' us ∧ Hid (∀ (j : Nat) (a b : Tn), us[j]? = some a → ts[j]? = some b → a.zs = b.zs ∧ a.xs = b.xs) ∧ Hid (∀ t ∈ us, TO wr W0.heap.size t) ∧ Prev wr W0) (fun _ i _ => N - (intOf i).toNat)
    case atStart => exact ⟨none, 0, [], Nat.zero_le _, rfl, rfl, OwnT.nil _ _, Lib.hid (by simp), Lib.hid (by simp), prev_bel _ _⟩
    case round =>
      obtain ⟨A', c', us, hk, rfl, rfl, ho, HU, HT, hp⟩ := hrel
      by_cases hlt : us.length < N
      · obtain ⟨b, o, A1, c1, z1, B1, d1, x1, rfl, ob, q0, q1, s1, t1, ld, ib, ht⟩ := a.get hlt
        have lz := hz.out _ (List.mem_of_getElem? ht.out)
        have lx := hx.out _ (List.mem_of_getElem? ht.out)
        simp only at lz lx
        go_wp2_with fail
        refine wp_region_upR W0 (fun w9 => Bx w9 wr.heap.size 26 #[.slice A1 z1.length c1, .slice B1 x1.length d1]) (by kernel_rfl) inferInstance (fun vy _ => ?_)
        refine wpAnyH_on (i := 0) (d := 33) (v := ?_) rfl rfl (by kernel_rfl) (by kernel_rfl) (by kernel_rfl) (fun _ _ _ h => h) (by kernel_rfl) ⟨prev_bel _ _, inferInstance⟩ ?_ ?_
        rotate_left
        · rintro uu ⟨pu, r1⟩
          go_simp
          try (with_reducible rfl)
        try simp only [List.set]
        refine wpAnyH_on (i := 2) (d := 35) (v := ?_) rfl rfl (by kernel_rfl) (by kernel_rfl) (by kernel_rfl) (fun _ _ _ h => h) (by kernel_rfl) ⟨prev_bel _ _, inferInstance⟩ ?_ ?_
        rotate_left
        · rintro uu ⟨pu, r1⟩
          go_simp
          try (with_reducible rfl)
        try simp only [List.set]
        refine wpAnyH_on (i := 3) (d := 36) (v := ?_) rfl rfl (by kernel_rfl) (by kernel_rfl) (by kernel_rfl) (fun _ _ _ h => h) (by kernel_rfl) ⟨prev_bel _ _, inferInstance⟩ ?_ ?_
        rotate_left
        · rintro uu ⟨pu, r1⟩
          go_simp
          try (with_reducible rfl)
        try simp only [List.set]
        refine wpAnyH_on (i := 6) (d := 39) (v := ?_) rfl rfl (by kernel_rfl) (by kernel_rfl) (by kernel_rfl) (fun _ _ _ h => h) (by kernel_rfl) ⟨prev_bel _ _, inferInstance⟩ ?_ ?_
        rotate_left
        · rintro uu ⟨pu, r1⟩
          go_simp
          try (with_reducible rfl)
        try simp only [List.set]
        refine wpAnyH_on (i := 7) (d := 40) (v := ?_) rfl rfl (by kernel_rfl) (by kernel_rfl) (by kernel_rfl) (fun _ _ _ h => h) (by kernel_rfl) ⟨prev_bel _ _, inferInstance⟩ ?_ ?_
        rotate_left
        · rintro uu ⟨pu, r1⟩
          go_simp
          try (with_reducible rfl)
        try simp only [List.set]
        refine wpAnyH_ready (rs := [1, 5]) (by kernel_rfl) (by simp) ?_
        refine AllReadyH.cons rfl (fun K hK => ?_) (AllReadyH.cons rfl (fun K hK => ?_) AllReadyH.nil)
        · go_simp
          refine hK.out _ _ ⟨prev_bel W0 _, inferInstance⟩ (fun hHeld => ?_)
          clear hHeld hK K
          try dsimp only [Act.put, List.setIfInBounds_toArray, List.set_cons_zero, List.set_cons_succ]
          refine gen_boxH (fun vy _ _ => ?_)
          refine wpAnyH_ready (rs := [4, 5]) (by kernel_rfl) (by simp) ?_
          refine AllReadyH.cons rfl (fun K hK => ?_) (AllReadyH.cons rfl (fun K hK => ?_) AllReadyH.nil)
          · refine step_appendE (by kernel_rfl) _ _ _ rfl (E := 3) Try.underlying23 (by kernel_rfl) rfl rfl ?_ ?_
            · omega
            intro A4 c4 w4 ho4 _
            refine hK.out _ _ ⟨prev_bel W0 _, inferInstance⟩ (fun hHeld => ?_)
            clear hHeld hK K
            try dsimp only [Act.put, List.setIfInBounds_toArray, List.set_cons_zero, List.set_cons_succ]
            have s4 : Sl w4 A4 z1.length z1 := ⟨ho4.rd, rfl⟩
            refine wpAnyH_ready (rs := [5]) (by kernel_rfl) (by simp) ?_
            refine AllReadyH.cons rfl (fun K hK => ?_) AllReadyH.nil
            go_simp
            refine hK.out _ _ ⟨prev_bel W0 _, inferInstance⟩ (fun hHeld => ?_)
            clear hHeld hK K
            try dsimp only [Act.put, List.setIfInBounds_toArray, List.set_cons_zero, List.set_cons_succ]
            refine gen_boxH (fun vy _ _ => ?_)
            refine wpAnyH_ready (rs := [8]) (by kernel_rfl) (by simp) ?_
            refine AllReadyH.cons rfl (fun K hK => ?_) AllReadyH.nil
            refine step_appendE (by kernel_rfl) _ _ _ rfl (E := 38) Try.underlying24 (by kernel_rfl) rfl rfl ?_ ?_
            · omega
            intro A8 c8 w8 ho8 _
            refine hK.out _ _ ⟨prev_bel W0 _, inferInstance⟩ (fun hHeld => ?_)
            clear hHeld hK K
            try dsimp only [Act.put, List.setIfInBounds_toArray, List.set_cons_zero, List.set_cons_succ]
            have s8 : Sl w8 A8 x1.length x1 := ⟨ho8.rd, rfl⟩
            have l8 : Le x1.length c8 := ⟨ho8.len_le⟩
            refine wpAnyH_on (i := 9) (d := 42) (v := ?_) rfl rfl (by kernel_rfl) (by kernel_rfl) (by kernel_rfl) (fun _ _ _ h => h) (by kernel_rfl) ⟨prev_bel _ _, inferInstance⟩ ?_ ?_
            rotate_left
            · rintro uu ⟨pu, r1⟩
              go_simp
              try (with_reducible rfl)
            try simp only [List.set]
            refine wpAnyH_ready (rs := [10]) (by kernel_rfl) (by simp) ?_
            refine AllReadyH.cons rfl (fun K hK => ?_) AllReadyH.nil
            go_simp
            refine hK.out _ _ ⟨prev_bel W0 _, inferInstance⟩ (fun hHeld => ?_)
            clear hHeld hK K
            try dsimp only [Act.put, List.setIfInBounds_toArray, List.set_cons_zero, List.set_cons_succ]
            refine gen_boxH (fun vy _ _ => ?_)
            refine wpAnyH_ready (rs := [11]) (by kernel_rfl) (by simp) ?_
            refine AllReadyH.cons rfl (fun K hK => ?_) AllReadyH.nil
            refine step_appendT (B := (World.heap W0).size) (by kernel_rfl) _ _ _ rfl Try.underlying27 rfl rfl (ho.at) rfl ?_ (later_size (w := W0)) ?_
            · (first | (simp; omega) | omega)
            intro A11 c11 w11 ho11 hb3 hx3
            have : Prev w11 W0 := ⟨(bel W0 _).trans hb3⟩
            have HX3 := Lib.hid hx3
            clear hb3 hx3
            have hR := (show Bx w11 wr.heap.size 26 #[.slice A1 z1.length c1, .slice B1 x1.length d1] from ⟨(HX3.out _ (Bx.blk (g := wr.heap.size)).lt (fun ad e => Nat.ne_of_lt (ho.lt ad e))).trans (Bx.blk (g := wr.heap.size))⟩)
            refine hK.out _ _ ⟨prev_bel W0 _, inferInstance⟩ (fun hHeld => ?_)
            clear hHeld hK K
            try dsimp only [Act.put, List.setIfInBounds_toArray, List.set_cons_zero, List.set_cons_succ]
            refine wpAnyH_on (i := 12) (d := 3) (v := ?_) rfl rfl (by kernel_rfl) (by kernel_rfl) (by kernel_rfl) (fun _ _ _ h => h) (by kernel_rfl) ⟨prev_bel _ _, inferInstance⟩ ?_ ?_
            rotate_left
            · rintro uu ⟨pu, r1⟩
              go_simp
              try (with_reducible rfl)
            try simp only [List.set]
            refine wpAnyH_done (by kernel_rfl) ?_ _
            go_wp2_with fail
            go_roundw
            case rel => exact ⟨A11, c11, us ++ [⟨A4, c4, z1, A8, c8, x1⟩], by simp; omega, by simp, by simp, ho11, Lib.hid (alike_snoc HU.out ht.out ⟨rfl, rfl⟩), Lib.hid (fun t h => (List.mem_append.1 h).elim (fun h => TO.same (HT.out t h).at (ho.at) HX3.out) (fun h => by rw [List.mem_singleton.1 h]; exact TO.same ⟨(ho4.more later_size).at, (ho8.more later_size).at⟩ (ho.at) HX3.out)), prev_bel _ _⟩
            case measure => simp [intOf]; omega
          · go_simp
            refine hK.out _ _ ⟨prev_bel W0 _, inferInstance⟩ (fun hHeld => ?_)
            clear hHeld hK K
            try dsimp only [Act.put, List.setIfInBounds_toArray, List.set_cons_zero, List.set_cons_succ]
            refine gen_boxH (fun vy _ _ => ?_)
            refine wpAnyH_ready (rs := [4]) (by kernel_rfl) (by simp) ?_
            refine AllReadyH.cons rfl (fun K hK => ?_) AllReadyH.nil
            refine step_appendE (by kernel_rfl) _ _ _ rfl (E := 3) Try.underlying23 (by kernel_rfl) rfl rfl ?_ ?_
            · omega
            intro A4 c4 w4 ho4 _
            refine hK.out _ _ ⟨prev_bel W0 _, inferInstance⟩ (fun hHeld => ?_)
            clear hHeld hK K
            try dsimp only [Act.put, List.setIfInBounds_toArray, List.set_cons_zero, List.set_cons_succ]
            have s4 : Sl w4 A4 z1.length z1 := ⟨ho4.rd, rfl⟩
            refine wpAnyH_ready (rs := [8]) (by kernel_rfl) (by simp) ?_
            refine AllReadyH.cons rfl (fun K hK => ?_) AllReadyH.nil
            refine step_appendE (by kernel_rfl) _ _ _ rfl (E := 38) Try.underlying24 (by kernel_rfl) rfl rfl ?_ ?_
            · omega
            intro A8 c8 w8 ho8 _
            refine hK.out _ _ ⟨prev_bel W0 _, inferInstance⟩ (fun hHeld => ?_)
            clear hHeld hK K
            try dsimp only [Act.put, List.setIfInBounds_toArray, List.set_cons_zero, List.set_cons_succ]
            have s8 : Sl w8 A8 x1.length x1 := ⟨ho8.rd, rfl⟩
            have l8 : Le x1.length c8 := ⟨ho8.len_le⟩
            refine wpAnyH_on (i := 9) (d := 42) (v := ?_) rfl rfl (by kernel_rfl) (by kernel_rfl) (by kernel_rfl) (fun _ _ _ h => h) (by kernel_rfl) ⟨prev_bel _ _, inferInstance⟩ ?_ ?_
            rotate_left
            · rintro uu ⟨pu, r1⟩
              go_simp
              try (with_reducible rfl)
            try simp only [List.set]
            refine wpAnyH_ready (rs := [10]) (by kernel_rfl) (by simp) ?_
            refine AllReadyH.cons rfl (fun K hK => ?_) AllReadyH.nil
            go_simp
            refine hK.out _ _ ⟨prev_bel W0 _, inferInstance⟩ (fun hHeld => ?_)
            clear hHeld hK K
            try dsimp only [Act.put, List.setIfInBounds_toArray, List.set_cons_zero, List.set_cons_succ]
            refine gen_boxH (fun vy _ _ => ?_)
            refine wpAnyH_ready (rs := [11]) (by kernel_rfl) (by simp) ?_
            refine AllReadyH.cons rfl (fun K hK => ?_) AllReadyH.nil
            refine step_appendT (B := (World.heap W0).size) (by kernel_rfl) _ _ _ rfl Try.underlying27 rfl rfl (ho.at) rfl ?_ (later_size (w := W0)) ?_
            · (first | (simp; omega) | omega)
            intro A11 c11 w11 ho11 hb3 hx3
            have : Prev w11 W0 := ⟨(bel W0 _).trans hb3⟩
            have HX3 := Lib.hid hx3
            clear hb3 hx3
            have hR := (show Bx w11 wr.heap.size 26 #[.slice A1 z1.length c1, .slice B1 x1.length d1] from ⟨(HX3.out _ (Bx.blk (g := wr.heap.size)).lt (fun ad e => Nat.ne_of_lt (ho.lt ad e))).trans (Bx.blk (g := wr.heap.size))⟩)
            refine hK.out _ _ ⟨prev_bel W0 _, inferInstance⟩ (fun hHeld => ?_)
            clear hHeld hK K
            try dsimp only [Act.put, List.setIfInBounds_toArray, List.set_cons_zero, List.set_cons_succ]
            refine wpAnyH_on (i := 12) (d := 3) (v := ?_) rfl rfl (by kernel_rfl) (by kernel_rfl) (by kernel_rfl) (fun _ _ _ h => h) (by kernel_rfl) ⟨prev_bel _ _, inferInstance⟩ ?_ ?_
            rotate_left
            · rintro uu ⟨pu, r1⟩
              go_simp
              try (with_reducible rfl)
            try simp only [List.set]
            refine wpAnyH_done (by kernel_rfl) ?_ _
            go_wp2_with fail
            go_roundw
            case rel => exact ⟨A11, c11, us ++ [⟨A4, c4, z1, A8, c8, x1⟩], by simp; omega, by simp, by simp, ho11, Lib.hid (alike_snoc HU.out ht.out ⟨rfl, rfl⟩), Lib.hid (fun t h => (List.mem_append.1 h).elim (fun h => TO.same (HT.out t h).at (ho.at) HX3.out) (fun h => by rw [List.mem_singleton.1 h]; exact TO.same ⟨(ho4.more later_size).at, (ho8.more later_size).at⟩ (ho.at) HX3.out)), prev_bel _ _⟩
            case measure => simp [intOf]; omega
        · go_simp
          refine hK.out _ _ ⟨prev_bel W0 _, inferInstance⟩ (fun hHeld => ?_)
          clear hHeld hK K
          try dsimp only [Act.put, List.setIfInBounds_toArray, List.set_cons_zero, List.set_cons_succ]
          refine gen_boxH (fun vy _ _ => ?_)
          refine wpAnyH_ready (rs := [1]) (by kernel_rfl) (by simp) ?_
          refine AllReadyH.cons rfl (fun K hK => ?_) AllReadyH.nil
          go_simp
          refine hK.out _ _ ⟨prev_bel W0 _, inferInstance⟩ (fun hHeld => ?_)
          clear hHeld hK K
          try dsimp only [Act.put, List.setIfInBounds_toArray, List.set_cons_zero, List.set_cons_succ]
          refine gen_boxH (fun vy _ _ => ?_)
          refine wpAnyH_ready (rs := [4]) (by kernel_rfl) (by simp) ?_
          refine AllReadyH.cons rfl (fun K hK => ?_) AllReadyH.nil
          refine step_appendE (by kernel_rfl) _ _ _ rfl (E := 3) Try.underlying23 (by kernel_rfl) rfl rfl ?_ ?_
          · omega
          intro A4 c4 w4 ho4 _
          refine hK.out _ _ ⟨prev_bel W0 _, inferInstance⟩ (fun hHeld => ?_)
          clear hHeld hK K
          try dsimp only [Act.put, List.setIfInBounds_toArray, List.set_cons_zero, List.set_cons_succ]
          have s4 : Sl w4 A4 z1.length z1 := ⟨ho4.rd, rfl⟩
          refine wpAnyH_ready (rs := [8]) (by kernel_rfl) (by simp) ?_
          refine AllReadyH.cons rfl (fun K hK => ?_) AllReadyH.nil
          refine step_appendE (by kernel_rfl) _ _ _ rfl (E := 38) Try.underlying24 (by kernel_rfl) rfl rfl ?_ ?_
          · omega
          intro A8 c8 w8 ho8 _
          refine hK.out _ _ ⟨prev_bel W0 _, inferInstance⟩ (fun hHeld => ?_)
          clear hHeld hK K
          try dsimp only [Act.put, List.setIfInBounds_toArray, List.set_cons_zero, List.set_cons_succ]
          have s8 : Sl w8 A8 x1.length x1 := ⟨ho8.rd, rfl⟩
          have l8 : Le x1.length c8 := ⟨ho8.len_le⟩
          refine wpAnyH_on (i := 9) (d := 42) (v := ?_) rfl rfl (by kernel_rfl) (by kernel_rfl) (by kernel_rfl) (fun _ _ _ h => h) (by kernel_rfl) ⟨prev_bel _ _, inferInstance⟩ ?_ ?_
          rotate_left
          · rintro uu ⟨pu, r1⟩
            go_simp
            try (with_reducible rfl)
          try simp only [List.set]
          refine wpAnyH_ready (rs := [10]) (by kernel_rfl) (by simp) ?_
          refine AllReadyH.cons rfl (fun K hK => ?_) AllReadyH.nil
          go_simp
          refine hK.out _ _ ⟨prev_bel W0 _, inferInstance⟩ (fun hHeld => ?_)
          clear hHeld hK K
          try dsimp only [Act.put, List.setIfInBounds_toArray, List.set_cons_zero, List.set_cons_succ]
          refine gen_boxH (fun vy _ _ => ?_)
          refine wpAnyH_ready (rs := [11]) (by kernel_rfl) (by simp) ?_
          refine AllReadyH.cons rfl (fun K hK => ?_) AllReadyH.nil
          refine step_appendT (B := (World.heap W0).size) (by kernel_rfl) _ _ _ rfl Try.underlying27 rfl rfl (ho.at) rfl ?_ (later_size (w := W0)) ?_
          · (first | (simp; omega) | omega)
          intro A11 c11 w11 ho11 hb3 hx3
          have : Prev w11 W0 := ⟨(bel W0 _).trans hb3⟩
          have HX3 := Lib.hid hx3
          clear hb3 hx3
          have hR := (show Bx w11 wr.heap.size 26 #[.slice A1 z1.length c1, .slice B1 x1.length d1] from ⟨(HX3.out _ (Bx.blk (g := wr.heap.size)).lt (fun ad e => Nat.ne_of_lt (ho.lt ad e))).trans (Bx.blk (g := wr.heap.size))⟩)
          refine hK.out _ _ ⟨prev_bel W0 _, inferInstance⟩ (fun hHeld => ?_)
          clear hHeld hK K
          try dsimp only [Act.put, List.setIfInBounds_toArray, List.set_cons_zero, List.set_cons_succ]
          refine wpAnyH_on (i := 12) (d := 3) (v := ?_) rfl rfl (by kernel_rfl) (by kernel_rfl) (by kernel_rfl) (fun _ _ _ h => h) (by kernel_rfl) ⟨prev_bel _ _, inferInstance⟩ ?_ ?_
          rotate_left
          · rintro uu ⟨pu, r1⟩
            go_simp
            try (with_reducible rfl)
          try simp only [List.set]
          refine wpAnyH_done (by kernel_rfl) ?_ _
          go_wp2_with fail
          go_roundw
          case rel => exact ⟨A11, c11, us ++ [⟨A4, c4, z1, A8, c8, x1⟩], by simp; omega, by simp, by simp, ho11, Lib.hid (alike_snoc HU.out ht.out ⟨rfl, rfl⟩), Lib.hid (fun t h => (List.mem_append.1 h).elim (fun h => TO.same (HT.out t h).at (ho.at) HX3.out) (fun h => by rw [List.mem_singleton.1 h]; exact TO.same ⟨(ho4.more later_size).at, (ho8.more later_size).at⟩ (ho.at) HX3.out)), prev_bel _ _⟩
          case measure => simp [intOf]; omega
      · have tu : Ts wr A' us.length us := ⟨ho.trd fun t ht => (HT.out t ht).te (by
          obtain ⟨j, hj⟩ := List.mem_iff_getElem?.1 ht
          have hjl := (List.getElem?_eq_some_iff.1 hj).1
          obtain ⟨b, hb⟩ : ∃ b, ts[j]? = some b := ⟨_, List.getElem?_eq_getElem (by rw [HN.out]; omega)⟩
          rw [(HU.out j t b hj hb).2]
          exact (HE.out b (by simp [List.mem_of_getElem? hb])).2.2.2), rfl⟩
        obtain ⟨wL, rfl⟩ : ∃ wL : World, wL = wr := ⟨_, rfl⟩
        clear ho HT
        obtain ⟨E, hE⟩ : ∃ E, goodE kind ts = E := ⟨_, rfl⟩
        by_cases h0 : E = 0
        rotate_left
        · have e0 : (E != 0) = true := by simp [h0]
          clear h0
          go_wp2_with (first | (go_at_call 30; (try first | (with_reducible refine gen_boxK3 (fun u _ _ _ _ => ?_)) | (with_reducible refine gen_boxK2 (fun u _ _ _ => ?_)) | (with_reducible refine gen_boxK (fun u _ _ => ?_))); (with_reducible refine (pt_go_no hz hE e0).mono ?_); rintro e u ⟨A', c', B', d', rfl, _, _, hd', _⟩) | (go_at_call 35; (try first | (with_reducible refine gen_boxK3 (fun u _ _ _ _ => ?_)) | (with_reducible refine gen_boxK2 (fun u _ _ _ => ?_)) | (with_reducible refine gen_boxK (fun u _ _ => ?_))); (with_reducible refine (pt_back_no hzg hz hE e0).mono ?_); rintro e u ⟨rfl, _⟩))
          refine wp_loop_rounds 1 ?_
          rw [rounds_succ]
          go_wp2_with fail
          refine wp_loop_rounds 1 ?_
          rw [rounds_succ]
          go_wp2_with fail
          go_loopw [111] (fun i wr => ∃ k : Nat, k ≤ N ∧ i = .int .i64 k ∧ Prev wr wL) (fun i _ => N - (intOf i).toNat)
          case atStart => exact ⟨0, Nat.zero_le _, rfl, prev_bel _ _⟩
          case round =>
            obtain ⟨k, hk2, rfl, hp⟩ := hrel
            by_cases hlt2 : k < N
            · obtain ⟨b, o, A1, c1, z1, B1, d1, x1, rfl, ob, q0, q1, s1, t1, ld, ib, ht⟩ := a.get hlt2
              have hku : k < us.length := by omega
              obtain ⟨b2, o2, A2, c2, z2, B2, d2, x2, rfl, ob2, q2, q3, s2, t2, ld2, ib2, ht2⟩ := tu.get hku
              obtain ⟨ez, ex⟩ := HU.out k _ _ ht2.out ht.out
              simp only at ez ex
              subst ez ex
              have lz := hz.out _ (List.mem_of_getElem? ht.out)
              have lx := hx.out _ (List.mem_of_getElem? ht.out)
              simp only at lz lx
              clear ht ht2
              go_wp2_with fail
              refine wp_region_up0 (by kernel_rfl) (fun vz _ => ?_)
              refine wpAnyH_on (i := 0) (d := 116) (v := ?_) rfl rfl (by kernel_rfl) (by kernel_rfl) (by kernel_rfl) (fun _ _ _ h => h) (by kernel_rfl) (prev_bel _ _) ?_ ?_
              rotate_left
              · intro uu (pu : Prev uu _)
                go_simp
                try (with_reducible rfl)
              try simp only [List.set]
              refine wpAnyH_on (i := 1) (d := 117) (v := ?_) rfl rfl (by kernel_rfl) (by kernel_rfl) (by kernel_rfl) (fun _ _ _ h => h) (by kernel_rfl) (prev_bel _ _) ?_ ?_
              rotate_left
              · intro uu (pu : Prev uu _)
                go_simp
                try (with_reducible rfl)
              try simp only [List.set]
              refine wpAnyH_on (i := 2) (d := 118) (v := ?_) rfl rfl (by kernel_rfl) (by kernel_rfl) (by kernel_rfl) (fun _ _ _ h => h) (by kernel_rfl) (prev_bel _ _) ?_ ?_
              rotate_left
              · intro uu (pu : Prev uu _)
                go_simp
                try (with_reducible rfl)
              try simp only [List.set]
              refine wpAnyH_on (i := 3) (d := 119) (v := ?_) rfl rfl (by kernel_rfl) (by kernel_rfl) (by kernel_rfl) (fun _ _ _ h => h) (by kernel_rfl) (prev_bel _ _) ?_ ?_
              rotate_left
              · intro uu (pu : Prev uu _)
                go_simp
                try (with_reducible rfl)
              try simp only [List.set]
              refine wpAnyH_on (i := 4) (d := 120) (v := ?_) rfl rfl (by kernel_rfl) (by kernel_rfl) (by kernel_rfl) (fun _ _ _ h => h) (by kernel_rfl) (prev_bel _ _) ?_ ?_
              rotate_left
              · intro uu (pu : Prev uu _)
                go_simp
                try (with_reducible rfl)
              try simp only [List.set]
              refine wpAnyH_ready (rs := [5]) (by kernel_rfl) (by simp) ?_
              refine AllReadyH.cons rfl (fun K hK => ?_) AllReadyH.nil
              go_simp
              (with_reducible refine (a05_sameT (by omega) (by omega)).mono ?_)
              rintro e vz ⟨rfl, _⟩
              dsimp only
              refine hK.out _ _ (prev_bel _ _) (fun hHeld => ?_)
              clear hHeld hK K
              try dsimp only [Act.put, List.setIfInBounds_toArray, List.set_cons_zero, List.set_cons_succ]
              refine wpAnyH_on (i := 6) (d := 122) (v := ?_) rfl rfl (by kernel_rfl) (by kernel_rfl) (by kernel_rfl) (fun _ _ _ h => h) (by kernel_rfl) (prev_bel _ _) ?_ ?_
              rotate_left
              · intro uu (pu : Prev uu _)
                go_simp
                try (with_reducible rfl)
              try simp only [List.set]
              refine wpAnyH_done (by kernel_rfl) ?_ _
              go_wp2_with fail
              go_roundw
              case rel => exact ⟨k + 1, by omega, by go_num, prev_bel _ _⟩
              case measure => simp [intOf]; omega
            · go_wp2_with (first | (go_at_call 29; (try first | (with_reducible refine gen_boxK3 (fun u _ _ _ _ => ?_)) | (with_reducible refine gen_boxK2 (fun u _ _ _ => ?_)) | (with_reducible refine gen_boxK (fun u _ _ => ?_))); (with_reducible refine (a05_awake).mono ?_); rintro e u ⟨rfl, _⟩))
              go_ret
              exact ⟨rfl, bel w _⟩
        subst h0
        obtain ⟨hn1, hn2, -, hall⟩ := good_nat hE
        rw [HN.out] at hn1 hn2
        obtain ⟨t0, ht0⟩ : ∃ t0, ts[0]? = some t0 := ⟨_, List.getElem?_eq_getElem (by rw [HN.out]; omega)⟩
        have HX0 : Hid (xs0 ts = t0.xs) := Lib.hid (by simp [xs0, ht0])
        have lx := (right_len (hall _ (List.mem_of_getElem? ht0)).1).1
        obtain ⟨X, HX⟩ : ∃ X : List Int, Hid (X = goL kind kk ts (xs0 ts).length) := ⟨_, Lib.hid rfl⟩
        obtain ⟨Z, HZ⟩ : ∃ Z : List Int, Hid (Z = zs0 ts) := ⟨_, Lib.hid rfl⟩
        have lX : X.length ≤ 65536 := by rw [HX.out, goL_length, HX0.out]; exact lx
        clear hall ht0
        go_wp2_with fail
        refine (pt_go_own hz hE HZ HX).mono ?_
        rintro e u1 ⟨g, g', rfl, hg', oS, oX, pu1⟩
        have nx : u1.heap.size ≠ g' := by have := oX.lt; omega
        have lg' := oX.lt
        go_wp2_with fail
        refine gen_boxK (fun v pv kv => ?_)
        have lv := later_size (w := u1) (w' := v)
        have lw := later_size (w := wL) (w' := v)
        rcases hback : (tRightB zg xg && decide (zg = zs0 ts)) with _ | _
        · refine (pt_back_shape hzg hz hE hback).mono ?_
          rintro e v2 ⟨rfl, pv2⟩
          clear hback
          go_wp2_with fail
          go_loopw [71] (fun i wq => ∃ (k : Nat) (L : List Int), k ≤ (X).length ∧ i = .int .i64 k ∧ L.length = (X).length ∧ Own wq g' 38 L ∧ Off [g'] v2 wq ∧ Prev wq wL) (fun i _ => (X).length - (intOf i).toNat)
          case atStart => exact ⟨0, X, Nat.zero_le _, rfl, rfl, oX.at, Off.refl _ _, prev_bel _ _⟩
          case round =>
            obtain ⟨k, L, hk, rfl, hL, hO, hoff, hp⟩ := hrel
            have hBx : Bx wr _ _ _ := ⟨hoff.blk (Bx.blk (w := v2) (g := u1.heap.size)) (by simpa using nx)⟩
            by_cases hlt : k < (X).length
            · obtain ⟨y, hy⟩ : ∃ y, L[k]? = some y := ⟨_, List.getElem?_eq_getElem (by omega)⟩
              have hcg := hO.cell hy
              have hfg := hO.frozen k
              have HL := Lib.hid hL
              clear hy hL
              go_wp2_with fail
              go_roundw
              case rel => exact ⟨k + 1, L.set k _, by omega, by go_num, by rw [List.length_set, HL.out], hO.set_ k _, hoff.set_ (by simp) k _, ⟨(bel wL wr).setCell (p := ⟨g', k, none⟩) hg' _⟩⟩
              case measure => simp [intOf]; omega
            · clear hL
              go_wp2_with fail
              refine wp_loop_rounds 1 ?_
              rw [rounds_succ]
              go_wp2_with fail
              go_loopw [111] (fun i wr => ∃ k : Nat, k ≤ N ∧ i = .int .i64 k ∧ Prev wr wL) (fun i _ => N - (intOf i).toNat)
              case atStart => exact ⟨0, Nat.zero_le _, rfl, prev_bel _ _⟩
              case round =>
                obtain ⟨k, hk2, rfl, hp⟩ := hrel
                by_cases hlt2 : k < N
                · obtain ⟨b, o, A1, c1, z1, B1, d1, x1, rfl, ob, q0, q1, s1, t1, ld, ib, ht⟩ := a.get hlt2
                  have hku : k < us.length := by omega
                  obtain ⟨b2, o2, A2, c2, z2, B2, d2, x2, rfl, ob2, q2, q3, s2, t2, ld2, ib2, ht2⟩ := tu.get hku
                  obtain ⟨ez, ex⟩ := HU.out k _ _ ht2.out ht.out
                  simp only at ez ex
                  subst ez ex
                  have lz := hz.out _ (List.mem_of_getElem? ht.out)
                  have lx := hx.out _ (List.mem_of_getElem? ht.out)
                  simp only at lz lx
                  clear ht ht2
                  go_wp2_with fail
                  refine wp_region_up0 (by kernel_rfl) (fun vz _ => ?_)
                  refine wpAnyH_on (i := 0) (d := 116) (v := ?_) rfl rfl (by kernel_rfl) (by kernel_rfl) (by kernel_rfl) (fun _ _ _ h => h) (by kernel_rfl) (prev_bel _ _) ?_ ?_
                  rotate_left
                  · intro uu (pu : Prev uu _)
                    go_simp
                    try (with_reducible rfl)
                  try simp only [List.set]
                  refine wpAnyH_on (i := 1) (d := 117) (v := ?_) rfl rfl (by kernel_rfl) (by kernel_rfl) (by kernel_rfl) (fun _ _ _ h => h) (by kernel_rfl) (prev_bel _ _) ?_ ?_
                  rotate_left
                  · intro uu (pu : Prev uu _)
                    go_simp
                    try (with_reducible rfl)
                  try simp only [List.set]
                  refine wpAnyH_on (i := 2) (d := 118) (v := ?_) rfl rfl (by kernel_rfl) (by kernel_rfl) (by kernel_rfl) (fun _ _ _ h => h) (by kernel_rfl) (prev_bel _ _) ?_ ?_
                  rotate_left
                  · intro uu (pu : Prev uu _)
                    go_simp
                    try (with_reducible rfl)
                  try simp only [List.set]
                  refine wpAnyH_on (i := 3) (d := 119) (v := ?_) rfl rfl (by kernel_rfl) (by kernel_rfl) (by kernel_rfl) (fun _ _ _ h => h) (by kernel_rfl) (prev_bel _ _) ?_ ?_
                  rotate_left
                  · intro uu (pu : Prev uu _)
                    go_simp
                    try (with_reducible rfl)
                  try simp only [List.set]
                  refine wpAnyH_on (i := 4) (d := 120) (v := ?_) rfl rfl (by kernel_rfl) (by kernel_rfl) (by kernel_rfl) (fun _ _ _ h => h) (by kernel_rfl) (prev_bel _ _) ?_ ?_
                  rotate_left
                  · intro uu (pu : Prev uu _)
                    go_simp
                    try (with_reducible rfl)
                  try simp only [List.set]
                  refine wpAnyH_ready (rs := [5]) (by kernel_rfl) (by simp) ?_
                  refine AllReadyH.cons rfl (fun K hK => ?_) AllReadyH.nil
                  go_simp
                  (with_reducible refine (a05_sameT (by omega) (by omega)).mono ?_)
                  rintro e vz ⟨rfl, _⟩
                  dsimp only
                  refine hK.out _ _ (prev_bel _ _) (fun hHeld => ?_)
                  clear hHeld hK K
                  try dsimp only [Act.put, List.setIfInBounds_toArray, List.set_cons_zero, List.set_cons_succ]
                  refine wpAnyH_on (i := 6) (d := 122) (v := ?_) rfl rfl (by kernel_rfl) (by kernel_rfl) (by kernel_rfl) (fun _ _ _ h => h) (by kernel_rfl) (prev_bel _ _) ?_ ?_
                  rotate_left
                  · intro uu (pu : Prev uu _)
                    go_simp
                    try (with_reducible rfl)
                  try simp only [List.set]
                  refine wpAnyH_done (by kernel_rfl) ?_ _
                  go_wp2_with fail
                  go_roundw
                  case rel => exact ⟨k + 1, by omega, by go_num, prev_bel _ _⟩
                  case measure => simp [intOf]; omega
                · go_wp2_with (first | (go_at_call 29; (try first | (with_reducible refine gen_boxK3 (fun u _ _ _ _ => ?_)) | (with_reducible refine gen_boxK2 (fun u _ _ _ => ?_)) | (with_reducible refine gen_boxK (fun u _ _ => ?_))); (with_reducible refine (a05_awake).mono ?_); rintro e u ⟨rfl, _⟩))
                  go_ret
                  exact ⟨rfl, bel w _⟩
        · obtain ⟨hr, hs⟩ : tRightB zg xg = true ∧ zg = zs0 ts := by simpa using hback
          have HS := Lib.hid hs
          obtain ⟨Y, HY⟩ : ∃ Y : List Int, Hid (Y = bkX kind kk ts xg (xs0 ts).length) := ⟨_, Lib.hid rfl⟩
          have lY : Y.length ≤ 65536 := by rw [HY.out, bkX_length, HX0.out]; exact lx
          clear hs hback
          rcases (by omega : N = 1 ∨ N = 2) with rfl | rfl
          · refine (pt_back_one hzg hz hE hr HS.out (Lib.hid HS.out) HY).mono ?_
            rintro e v2 ⟨G, g1, g1', rfl, hg1', kG, oS1, oX1, pv2⟩
            have n1 : g1' ≠ g' := by omega
            have l1 : wL.heap.size ≤ g1' := by omega
            clear hr
            go_wp2_with fail
            go_loopw [71] (fun i wq => ∃ (k : Nat) (L : List Int), k ≤ (X).length ∧ i = .int .i64 k ∧ L.length = (X).length ∧ Own wq g' 38 L ∧ Off [g'] v2 wq ∧ Prev wq wL) (fun i _ => (X).length - (intOf i).toNat)
            case atStart => exact ⟨0, X, Nat.zero_le _, rfl, rfl, oX.at, Off.refl _ _, prev_bel _ _⟩
            case round =>
              obtain ⟨k, L, hk, rfl, hL, hO, hoff, hp⟩ := hrel
              have hBx : Bx wr _ _ _ := ⟨hoff.blk (Bx.blk (w := v2) (g := u1.heap.size)) (by simpa using nx)⟩
              by_cases hlt : k < (X).length
              · obtain ⟨y, hy⟩ : ∃ y, L[k]? = some y := ⟨_, List.getElem?_eq_getElem (by omega)⟩
                have hcg := hO.cell hy
                have hfg := hO.frozen k
                have HL := Lib.hid hL
                clear hy hL
                go_wp2_with fail
                go_roundw
                case rel => exact ⟨k + 1, L.set k _, by omega, by go_num, by rw [List.length_set, HL.out], hO.set_ k _, hoff.set_ (by simp) k _, ⟨(bel wL wr).setCell (p := ⟨g', k, none⟩) hg' _⟩⟩
                case measure => simp [intOf]; omega
              · clear hL
                obtain ⟨wo, rfl⟩ : ∃ wo : World, wo = wr := ⟨_, rfl⟩
                have nG : G ≠ g' := fun e => (oX.at (w' := v2)).ne_blk kG.blk (by decide) e.symm
                have nG1 : G ≠ g1' := fun e => oX1.ne_blk kG.blk (by decide) e.symm
                have kG2 : Bx wo G 26 _ := ⟨hoff.blk kG.blk (by simpa using nG)⟩
                have oX2 := hoff.own oX1 (by simpa using n1)
                clear hO hoff hBx
                go_wp2_with fail
                refine wp_loop_rounds 2 ?_
                rw [rounds_succ]
                go_wp2_with fail
                go_loopw [93] (fun i wq => ∃ (k : Nat) (L : List Int), k ≤ (Y).length ∧ i = .int .i64 k ∧ L.length = (Y).length ∧ Own wq g1' 38 L ∧ Off [g1'] wo wq ∧ Prev wq wL) (fun i _ => (Y).length - (intOf i).toNat)
                case atStart => exact ⟨0, Y, Nat.zero_le _, rfl, rfl, oX2, Off.refl _ _, prev_bel _ _⟩
                case round =>
                  obtain ⟨k, L, hk, rfl, hL, hO, hoff, hp⟩ := hrel
                  have hBx : Bx wr _ _ _ := ⟨hoff.blk kG2.blk (by simpa using nG1)⟩
                  by_cases hlt : k < (Y).length
                  · obtain ⟨y, hy⟩ : ∃ y, L[k]? = some y := ⟨_, List.getElem?_eq_getElem (by omega)⟩
                    have hcg := hO.cell hy
                    have hfg := hO.frozen k
                    have HL := Lib.hid hL
                    clear hy hL
                    go_wp2_with fail
                    go_roundw
                    case rel => exact ⟨k + 1, L.set k _, by omega, by go_num, by rw [List.length_set, HL.out], hO.set_ k _, hoff.set_ (by simp) k _, ⟨(bel wL wr).setCell (p := ⟨g1', k, none⟩) l1 _⟩⟩
                    case measure => simp [intOf]; omega
                  · clear hL
                    go_wp2_with fail
                    rw [rounds_succ]
                    go_wp2_with fail
                    go_loopw [111] (fun i wr => ∃ k : Nat, k ≤ 1 ∧ i = .int .i64 k ∧ Prev wr wL) (fun i _ => 1 - (intOf i).toNat)
                    case atStart => exact ⟨0, Nat.zero_le _, rfl, prev_bel _ _⟩
                    case round =>
                      obtain ⟨k, hk2, rfl, hp⟩ := hrel
                      by_cases hlt2 : k < 1
                      · obtain ⟨b, o, A1, c1, z1, B1, d1, x1, rfl, ob, q0, q1, s1, t1, ld, ib, ht⟩ := a.get hlt2
                        have hku : k < us.length := by omega
                        obtain ⟨b2, o2, A2, c2, z2, B2, d2, x2, rfl, ob2, q2, q3, s2, t2, ld2, ib2, ht2⟩ := tu.get hku
                        obtain ⟨ez, ex⟩ := HU.out k _ _ ht2.out ht.out
                        simp only at ez ex
                        subst ez ex
                        have lz := hz.out _ (List.mem_of_getElem? ht.out)
                        have lx := hx.out _ (List.mem_of_getElem? ht.out)
                        simp only at lz lx
                        clear ht ht2
                        go_wp2_with fail
                        refine wp_region_up0 (by kernel_rfl) (fun vz _ => ?_)
                        refine wpAnyH_on (i := 0) (d := 116) (v := ?_) rfl rfl (by kernel_rfl) (by kernel_rfl) (by kernel_rfl) (fun _ _ _ h => h) (by kernel_rfl) (prev_bel _ _) ?_ ?_
                        rotate_left
                        · intro uu (pu : Prev uu _)
                          go_simp
                          try (with_reducible rfl)
                        try simp only [List.set]
                        refine wpAnyH_on (i := 1) (d := 117) (v := ?_) rfl rfl (by kernel_rfl) (by kernel_rfl) (by kernel_rfl) (fun _ _ _ h => h) (by kernel_rfl) (prev_bel _ _) ?_ ?_
                        rotate_left
                        · intro uu (pu : Prev uu _)
                          go_simp
                          try (with_reducible rfl)
                        try simp only [List.set]
                        refine wpAnyH_on (i := 2) (d := 118) (v := ?_) rfl rfl (by kernel_rfl) (by kernel_rfl) (by kernel_rfl) (fun _ _ _ h => h) (by kernel_rfl) (prev_bel _ _) ?_ ?_
                        rotate_left
                        · intro uu (pu : Prev uu _)
                          go_simp
                          try (with_reducible rfl)
                        try simp only [List.set]
                        refine wpAnyH_on (i := 3) (d := 119) (v := ?_) rfl rfl (by kernel_rfl) (by kernel_rfl) (by kernel_rfl) (fun _ _ _ h => h) (by kernel_rfl) (prev_bel _ _) ?_ ?_
                        rotate_left
                        · intro uu (pu : Prev uu _)
                          go_simp
                          try (with_reducible rfl)
                        try simp only [List.set]
                        refine wpAnyH_on (i := 4) (d := 120) (v := ?_) rfl rfl (by kernel_rfl) (by kernel_rfl) (by kernel_rfl) (fun _ _ _ h => h) (by kernel_rfl) (prev_bel _ _) ?_ ?_
                        rotate_left
                        · intro uu (pu : Prev uu _)
                          go_simp
                          try (with_reducible rfl)
                        try simp only [List.set]
                        refine wpAnyH_ready (rs := [5]) (by kernel_rfl) (by simp) ?_
                        refine AllReadyH.cons rfl (fun K hK => ?_) AllReadyH.nil
                        go_simp
                        (with_reducible refine (a05_sameT (by omega) (by omega)).mono ?_)
                        rintro e vz ⟨rfl, _⟩
                        dsimp only
                        refine hK.out _ _ (prev_bel _ _) (fun hHeld => ?_)
                        clear hHeld hK K
                        try dsimp only [Act.put, List.setIfInBounds_toArray, List.set_cons_zero, List.set_cons_succ]
                        refine wpAnyH_on (i := 6) (d := 122) (v := ?_) rfl rfl (by kernel_rfl) (by kernel_rfl) (by kernel_rfl) (fun _ _ _ h => h) (by kernel_rfl) (prev_bel _ _) ?_ ?_
                        rotate_left
                        · intro uu (pu : Prev uu _)
                          go_simp
                          try (with_reducible rfl)
                        try simp only [List.set]
                        refine wpAnyH_done (by kernel_rfl) ?_ _
                        go_wp2_with fail
                        go_roundw
                        case rel => exact ⟨k + 1, by omega, by go_num, prev_bel _ _⟩
                        case measure => simp [intOf]; omega
                      · go_wp2_with (first | (go_at_call 29; (try first | (with_reducible refine gen_boxK3 (fun u _ _ _ _ => ?_)) | (with_reducible refine gen_boxK2 (fun u _ _ _ => ?_)) | (with_reducible refine gen_boxK (fun u _ _ => ?_))); (with_reducible refine (a05_awake).mono ?_); rintro e u ⟨rfl, _⟩))
                        go_ret
                        exact ⟨rfl, bel w _⟩
          · obtain ⟨Y2, HY2⟩ : ∃ Y : List Int, Hid (Y = bkY kind ts xg (xs0 ts).length) := ⟨_, Lib.hid rfl⟩
            have lY2 : Y2.length ≤ 65536 := by rw [HY2.out, bkY_length, HX0.out]; exact lx
            refine (pt_back_two hzg hz hE hr HS.out (Lib.hid HS.out) HY HY2).mono ?_
            rintro e v2 ⟨G, g1, g1', g2, g2', rfl, hg1', hg2', hne, kG, oS1, oX1, oS2, oY1, pv2⟩
            have n1 : g1' ≠ g' := by omega
            have n2 : g2' ≠ g' := by omega
            have n3 : g2' ≠ g1' := fun e => hne e.symm
            have l1 : wL.heap.size ≤ g1' := by omega
            have l2 : wL.heap.size ≤ g2' := by omega
            clear hr
            go_wp2_with fail
            go_loopw [71] (fun i wq => ∃ (k : Nat) (L : List Int), k ≤ (X).length ∧ i = .int .i64 k ∧ L.length = (X).length ∧ Own wq g' 38 L ∧ Off [g'] v2 wq ∧ Prev wq wL) (fun i _ => (X).length - (intOf i).toNat)
            case atStart => exact ⟨0, X, Nat.zero_le _, rfl, rfl, oX.at, Off.refl _ _, prev_bel _ _⟩
            case round =>
              obtain ⟨k, L, hk, rfl, hL, hO, hoff, hp⟩ := hrel
              have hBx : Bx wr _ _ _ := ⟨hoff.blk (Bx.blk (w := v2) (g := u1.heap.size)) (by simpa using nx)⟩
              by_cases hlt : k < (X).length
              · obtain ⟨y, hy⟩ : ∃ y, L[k]? = some y := ⟨_, List.getElem?_eq_getElem (by omega)⟩
                have hcg := hO.cell hy
                have hfg := hO.frozen k
                have HL := Lib.hid hL
                clear hy hL
                go_wp2_with fail
                go_roundw
                case rel => exact ⟨k + 1, L.set k _, by omega, by go_num, by rw [List.length_set, HL.out], hO.set_ k _, hoff.set_ (by simp) k _, ⟨(bel wL wr).setCell (p := ⟨g', k, none⟩) hg' _⟩⟩
                case measure => simp [intOf]; omega
              · clear hL
                obtain ⟨wo, rfl⟩ : ∃ wo : World, wo = wr := ⟨_, rfl⟩
                have nG : G ≠ g' := fun e => (oX.at (w' := v2)).ne_blk kG.blk (by decide) e.symm
                have nG1 : G ≠ g1' := fun e => oX1.ne_blk kG.blk (by decide) e.symm
                have kG2 : Bx wo G 26 _ := ⟨hoff.blk kG.blk (by simpa using nG)⟩
                have oX2 := hoff.own oX1 (by simpa using n1)
                have nG2 : G ≠ g2' := fun e => oY1.ne_blk kG.blk (by decide) e.symm
                have oY2 := hoff.own oY1 (by simpa using n2)
                clear hO hoff hBx
                go_wp2_with fail
                refine wp_loop_rounds 3 ?_
                rw [rounds_succ]
                go_wp2_with fail
                go_loopw [93] (fun i wq => ∃ (k : Nat) (L : List Int), k ≤ (Y).length ∧ i = .int .i64 k ∧ L.length = (Y).length ∧ Own wq g1' 38 L ∧ Off [g1'] wo wq ∧ Prev wq wL) (fun i _ => (Y).length - (intOf i).toNat)
                case atStart => exact ⟨0, Y, Nat.zero_le _, rfl, rfl, oX2, Off.refl _ _, prev_bel _ _⟩
                case round =>
                  obtain ⟨k, L, hk, rfl, hL, hO, hoff, hp⟩ := hrel
                  have hBx : Bx wr _ _ _ := ⟨hoff.blk kG2.blk (by simpa using nG1)⟩
                  by_cases hlt : k < (Y).length
                  · obtain ⟨y, hy⟩ : ∃ y, L[k]? = some y := ⟨_, List.getElem?_eq_getElem (by omega)⟩
                    have hcg := hO.cell hy
                    have hfg := hO.frozen k
                    have HL := Lib.hid hL
                    clear hy hL
                    go_wp2_with fail
                    go_roundw
                    case rel => exact ⟨k + 1, L.set k _, by omega, by go_num, by rw [List.length_set, HL.out], hO.set_ k _, hoff.set_ (by simp) k _, ⟨(bel wL wr).setCell (p := ⟨g1', k, none⟩) l1 _⟩⟩
                    case measure => simp [intOf]; omega
                  · clear hL
                    obtain ⟨wi, rfl⟩ : ∃ wi : World, wi = wr := ⟨_, rfl⟩
                    have kG3 : Bx wi G 26 _ := ⟨hoff.blk kG2.blk (by simpa using nG1)⟩
                    have oY3 := hoff.own oY2 (by simpa using n3)
                    clear hO hoff hBx
                    go_wp2_with fail
                    rw [rounds_succ]
                    go_wp2_with fail
                    go_loopw [93] (fun i wq => ∃ (k : Nat) (L : List Int), k ≤ (Y2).length ∧ i = .int .i64 k ∧ L.length = (Y2).length ∧ Own wq g2' 38 L ∧ Off [g2'] wi wq ∧ Prev wq wL) (fun i _ => (Y2).length - (intOf i).toNat)
                    case atStart => exact ⟨0, Y2, Nat.zero_le _, rfl, rfl, oY3, Off.refl _ _, prev_bel _ _⟩
                    case round =>
                      obtain ⟨k, L, hk, rfl, hL, hO, hoff, hp⟩ := hrel
                      have hBx : Bx wr _ _ _ := ⟨hoff.blk kG3.blk (by simpa using nG2)⟩
                      by_cases hlt : k < (Y2).length
                      · obtain ⟨y, hy⟩ : ∃ y, L[k]? = some y := ⟨_, List.getElem?_eq_getElem (by omega)⟩
                        have hcg := hO.cell hy
                        have hfg := hO.frozen k
                        have HL := Lib.hid hL
                        clear hy hL
                        go_wp2_with fail
                        go_roundw
                        case rel => exact ⟨k + 1, L.set k _, by omega, by go_num, by rw [List.length_set, HL.out], hO.set_ k _, hoff.set_ (by simp) k _, ⟨(bel wL wr).setCell (p := ⟨g2', k, none⟩) l2 _⟩⟩
                        case measure => simp [intOf]; omega
                      · clear hL
                        go_wp2_with fail
                        rw [rounds_succ]
                        go_wp2_with fail
                        go_loopw [111] (fun i wr => ∃ k : Nat, k ≤ 2 ∧ i = .int .i64 k ∧ Prev wr wL) (fun i _ => 2 - (intOf i).toNat)
                        case atStart => exact ⟨0, Nat.zero_le _, rfl, prev_bel _ _⟩
                        case round =>
                          obtain ⟨k, hk2, rfl, hp⟩ := hrel
                          by_cases hlt2 : k < 2
                          · obtain ⟨b, o, A1, c1, z1, B1, d1, x1, rfl, ob, q0, q1, s1, t1, ld, ib, ht⟩ := a.get hlt2
                            have hku : k < us.length := by omega
                            obtain ⟨b2, o2, A2, c2, z2, B2, d2, x2, rfl, ob2, q2, q3, s2, t2, ld2, ib2, ht2⟩ := tu.get hku
                            obtain ⟨ez, ex⟩ := HU.out k _ _ ht2.out ht.out
                            simp only at ez ex
                            subst ez ex
                            have lz := hz.out _ (List.mem_of_getElem? ht.out)
                            have lx := hx.out _ (List.mem_of_getElem? ht.out)
                            simp only at lz lx
                            clear ht ht2
                            go_wp2_with fail
                            refine wp_region_up0 (by kernel_rfl) (fun vz _ => ?_)
                            refine wpAnyH_on (i := 0) (d := 116) (v := ?_) rfl rfl (by kernel_rfl) (by kernel_rfl) (by kernel_rfl) (fun _ _ _ h => h) (by kernel_rfl) (prev_bel _ _) ?_ ?_
                            rotate_left
                            · intro uu (pu : Prev uu _)
                              go_simp
                              try (with_reducible rfl)
                            try simp only [List.set]
                            refine wpAnyH_on (i := 1) (d := 117) (v := ?_) rfl rfl (by kernel_rfl) (by kernel_rfl) (by kernel_rfl) (fun _ _ _ h => h) (by kernel_rfl) (prev_bel _ _) ?_ ?_
                            rotate_left
                            · intro uu (pu : Prev uu _)
                              go_simp
                              try (with_reducible rfl)
                            try simp only [List.set]
                            refine wpAnyH_on (i := 2) (d := 118) (v := ?_) rfl rfl (by kernel_rfl) (by kernel_rfl) (by kernel_rfl) (fun _ _ _ h => h) (by kernel_rfl) (prev_bel _ _) ?_ ?_
                            rotate_left
                            · intro uu (pu : Prev uu _)
                              go_simp
                              try (with_reducible rfl)
                            try simp only [List.set]
                            refine wpAnyH_on (i := 3) (d := 119) (v := ?_) rfl rfl (by kernel_rfl) (by kernel_rfl) (by kernel_rfl) (fun _ _ _ h => h) (by kernel_rfl) (prev_bel _ _) ?_ ?_
                            rotate_left
                            · intro uu (pu : Prev uu _)
                              go_simp
                              try (with_reducible rfl)
                            try simp only [List.set]
                            refine wpAnyH_on (i := 4) (d := 120) (v := ?_) rfl rfl (by kernel_rfl) (by kernel_rfl) (by kernel_rfl) (fun _ _ _ h => h) (by kernel_rfl) (prev_bel _ _) ?_ ?_
                            rotate_left
                            · intro uu (pu : Prev uu _)
                              go_simp
                              try (with_reducible rfl)
                            try simp only [List.set]
                            refine wpAnyH_ready (rs := [5]) (by kernel_rfl) (by simp) ?_
                            refine AllReadyH.cons rfl (fun K hK => ?_) AllReadyH.nil
                            go_simp
                            (with_reducible refine (a05_sameT (by omega) (by omega)).mono ?_)
                            rintro e vz ⟨rfl, _⟩
                            dsimp only
                            refine hK.out _ _ (prev_bel _ _) (fun hHeld => ?_)
                            clear hHeld hK K
                            try dsimp only [Act.put, List.setIfInBounds_toArray, List.set_cons_zero, List.set_cons_succ]
                            refine wpAnyH_on (i := 6) (d := 122) (v := ?_) rfl rfl (by kernel_rfl) (by kernel_rfl) (by kernel_rfl) (fun _ _ _ h => h) (by kernel_rfl) (prev_bel _ _) ?_ ?_
                            rotate_left
                            · intro uu (pu : Prev uu _)
                              go_simp
                              try (with_reducible rfl)
                            try simp only [List.set]
                            refine wpAnyH_done (by kernel_rfl) ?_ _
                            go_wp2_with fail
                            go_roundw
                            case rel => exact ⟨k + 1, by omega, by go_num, prev_bel _ _⟩
                            case measure => simp [intOf]; omega
                          · go_wp2_with (first | (go_at_call 29; (try first | (with_reducible refine gen_boxK3 (fun u _ _ _ _ => ?_)) | (with_reducible refine gen_boxK2 (fun u _ _ _ => ?_)) | (with_reducible refine gen_boxK (fun u _ _ => ?_))); (with_reducible refine (a05_awake).mono ?_); rintro e u ⟨rfl, _⟩))
                            go_ret
                            exact ⟨rfl, bel w _⟩

end Go.Proofs.Ytingmabmglpmaaa
