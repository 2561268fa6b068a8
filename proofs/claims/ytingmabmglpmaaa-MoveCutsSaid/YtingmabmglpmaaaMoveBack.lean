/- move.JoinBack. -/
import Derived.Test.YtingmabmglpmaaaMoveJoin
import Derived.Test.YtingmabmglpmaaaAppendT
import Derived.Test.YtingmabmglpmaaaMisc
namespace Go.Proofs.Ytingmabmglpmaaa
open Go.RowKit

/-- A row of tensors that is being filled. -/
def tcz (ps : List Tn) (n : Nat) : Array Value := (tc ps ++ List.replicate ((n - ps.length) * 2) (Value.slice none 0 0)).toArray
theorem made_tens (n : Nat) : madeCells #[Value.slice none 0 0, Value.slice none 0 0] (n * 2) = tcz [] n := by
  apply Array.ext'
  simp only [madeCells, Array.toList_map, Array.toList_range, tcz, tc, List.flatMap_nil, List.nil_append, List.length_nil, Nat.sub_zero]
  apply List.ext_getElem
  · simp
  · intro i h1 h2
    simp only [List.getElem_map, List.getElem_range, List.getElem_replicate]
    rcases Nat.mod_two_eq_zero_or_one i with h | h <;> simp [h]
theorem make_tensN (n : Nat) (hn : n ≤ 1000000) (W : World) : (Instr.makeSlice 27 (.int .i64 (n : Int)) (.int .i64 (n : Int))).run Try.prog W = .ok (.slice (some ⟨W.heap.size, 0, none⟩) n n) (W.alloc (.cells (tcz [] n) 26)) := by
  have hinfo : (Try.prog.info? 26).map (fun i => (i.zero, i.size, i.bytes)) = some (some (.agg #[.slice none 0 0, .slice none 0 0]), 2, 48) := by kernel_rfl
  obtain ⟨i, hi, hzz⟩ := Option.map_eq_some_iff.1 hinfo
  simp only [Prod.mk.injEq] at hzz
  obtain ⟨hz, hs, hb⟩ := hzz
  have := run_makeSlice (P := Try.prog) W 27 26 i _ Try.underlying27 hi hz .i64 .i64 n n (by omega) (Int.le_refl _) (by rw [hs]; simp; omega) (by rw [hb]; omega) (by omega)
  rw [hs] at this
  rw [← made_tens]
  simpa [Value.cells] using this
theorem tcz_size (ps : List Tn) {n : Nat} (h : ps.length ≤ n) : (tcz ps n).size = n * 2 := by
  simp [tcz, tc_length]; omega
theorem tcz_set (ps : List Tn) {n : Nat} (h : ps.length < n) (t : Tn) : ((tcz ps n).setIfInBounds (ps.length * 2) (.slice t.A t.zs.length t.c)).setIfInBounds (ps.length * 2 + 1) (.slice t.B t.xs.length t.d) = tcz (ps ++ [t]) n := by
  have e : (n - ps.length) * 2 = (n - (ps ++ [t]).length) * 2 + 1 + 1 := by simp; omega
  unfold tcz
  rw [e, List.replicate_succ, List.replicate_succ, List.setIfInBounds_toArray, List.setIfInBounds_toArray, List.set_append_right _ _ (by rw [tc_length]; exact Nat.le_refl _), tc_length, Nat.sub_self, List.set_cons_zero,
    List.set_append_right _ _ (by rw [tc_length]; omega), tc_length, Nat.add_sub_cancel_left, List.set_cons_succ, List.set_cons_zero, tc_append]
  simp [tc]
/-- Block G is such a row; what its tensors' slices read as lies behind it. -/
structure PB (w : World) (G n : Nat) (ps : List Tn) : Prop where
  blk : Blk w G 26 (tcz ps n)
  el : ∀ t ∈ ps, Sl w t.A t.zs.length t.zs ∧ Sl w t.B t.xs.length t.xs ∧ Fre (G + 1) t.A ∧ Fre (G + 1) t.B ∧ t.xs.length ≤ t.d ∧ ∀ z ∈ t.xs, I64 z
section
variable {w w' : World} {G n : Nat} {ps : List Tn} {t : Tn}
theorem PB.at [l : Later w w'] (h : PB w G n ps) : PB w' G n ps :=
  ⟨h.blk.at, fun t ht => by
    obtain ⟨a, b, r⟩ := h.el t ht
    exact ⟨⟨a.rd.at, rfl⟩, ⟨b.rd.at, rfl⟩, r⟩⟩
theorem PB.push (h : PB w G n ps) (hl : ps.length < n) (a : Sl w t.A t.zs.length t.zs) (b : Sl w t.B t.xs.length t.xs) (fa : Fre (G + 1) t.A) (fb : Fre (G + 1) t.B) (ld : t.xs.length ≤ t.d) (bd : ∀ z ∈ t.xs, I64 z) :
    PB ((w.setCell ⟨G, ps.length * 2, none⟩ (.slice t.A t.zs.length t.c)).setCell ⟨G, ps.length * 2 + 1, none⟩ (.slice t.B t.xs.length t.d)) G n (ps ++ [t]) := by
  have far : ∀ {A : Option Addr} {zs : List Int}, Sl w A zs.length zs → Fre (G + 1) A → Sl ((w.setCell ⟨G, ps.length * 2, none⟩ (.slice t.A t.zs.length t.c)).setCell ⟨G, ps.length * 2 + 1, none⟩ (.slice t.B t.xs.length t.d)) A zs.length zs :=
    fun s f => (s.setCell (p := ⟨G, ps.length * 2, none⟩) f (Nat.lt_succ_self G) _).setCell (p := ⟨G, ps.length * 2 + 1, none⟩) f (Nat.lt_succ_self G) _
  refine ⟨by rw [← tcz_set ps hl t]; exact (h.blk.set_ _ _).set_ _ _, fun u hu => ?_⟩
  rcases List.mem_append.1 hu with hu | hu
  · obtain ⟨x, y, f1, f2, r⟩ := h.el u hu
    exact ⟨far x f1, far y f2, f1, f2, r⟩
  · rw [List.mem_singleton.1 hu]
    exact ⟨far a fa, far b fb, fa, fb, ld, bd⟩
theorem PB.ts (h : PB w G n ps) (hn : ps.length = n) : Ts w (some ⟨G, 0, none⟩) n ps :=
  ⟨fun j t hj => by
    obtain ⟨a0, a1⟩ := tc_at hj
    have e : tcz ps n = (tc ps).toArray := by simp [tcz, hn]
    have b := h.blk
    rw [e] at b
    obtain ⟨s, x, _, _, le, bd⟩ := h.el t (List.mem_of_getElem? hj)
    exact ⟨G, 0, rfl, tin_of b (by rw [Nat.zero_add]; simpa using a0) (by rw [Nat.zero_add]; simpa using a1) s.rd x.rd le bd⟩, hn.symm⟩
theorem PB.cells (h : PB w G n ps) (hl : ps.length < n) : w.cell? ⟨G, ps.length * 2, none⟩ = some (.slice none 0 0) ∧ w.cell? ⟨G, ps.length * 2 + 1, none⟩ = some (.slice none 0 0) := by
  have key : ∀ j, ps.length * 2 ≤ j → j < n * 2 → (tcz ps n)[j]? = some (.slice none 0 0) := by
    intro j h1 h2
    simp only [tcz, List.getElem?_toArray]
    rw [List.getElem?_append_right (by rw [tc_length]; exact h1), List.getElem?_replicate, if_pos (by rw [tc_length]; omega)]
  exact ⟨(h.blk.cell _).trans (key _ (by omega) (by omega)), (h.blk.cell _).trans (key _ (by omega) (by omega))⟩
end

/-- What goes back to each. -/
structure PSpec (nn P I Z : Nat) (us : List Tn) (xg : List Int) (ps : List Tn) : Prop where
  el : ∀ (j : Nat) (p t : Tn), ps[j]? = some p → us[j]? = some t → p.zs = t.zs ∧ p.xs = cutCells (Z * I) (fromN nn us j * I) (zN nn t * I) xg P
theorem PSpec.push {nn P I Z : Nat} {us ps : List Tn} {xg : List Int} {p t : Tn} (h : PSpec nn P I Z us xg ps) (ht : us[ps.length]? = some t) (h1 : p.zs = t.zs) (h2 : p.xs = cutCells (Z * I) (fromN nn us ps.length * I) (zN nn t * I) xg P) : PSpec nn P I Z us xg (ps ++ [p]) :=
  ⟨fun j a b ha hb => by
    by_cases hj : j < ps.length
    · rw [List.getElem?_append_left hj] at ha
      exact h.el j a b ha hb
    · have := (List.getElem?_eq_some_iff.1 ha).1
      have hj' : j = ps.length := by simp at this; omega
      subst hj'
      rw [List.getElem?_append_right (Nat.le_refl _)] at ha
      simp at ha; subst ha
      rw [ht] at hb
      injection hb with hb; subst hb
      exact ⟨h1, h2⟩⟩
/-- The cut of one part. -/
theorem cut_part {nn P I Z F zt : Nat} {S xg z1 : List Int} (h : JW nn P I Z S) (hr : tRightB S xg = true) (hF : F + zt ≤ Z) (h1 : 1 ≤ zt) (hs : S.set nn (zt : Int) = z1) :
    tcutE S xg nn (F : Int) ((F : Int) + zt) = 0 ∧ tcS S xg nn (F : Int) ((F : Int) + zt) = z1 ∧ tcX S xg nn (F : Int) ((F : Int) + zt) = cutCells (Z * I) (F * I) (zt * I) xg P := by
  have hc : cutE S nn (F : Int) ((F : Int) + zt) = 0 := by
    have hg : S.getD nn 0 = (Z : Int) := by rw [List.getD_eq_getElem?_getD, h.at_]; rfl
    have := h.lt
    rw [cutE, if_pos h.right, if_pos]
    rw [Int.toNat_natCast, hg]
    simp only [Bool.and_eq_true, decide_eq_true_eq]
    omega
  have ht : tcutE S xg nn (F : Int) ((F : Int) + zt) = 0 := by rw [tcutE, if_pos hr, hc]
  refine ⟨ht, ?_, ?_⟩
  · rw [tcS, if_pos ht, cutV, if_pos hc, Int.toNat_natCast, show (F : Int) + zt - F = (zt : Int) from by omega, hs]
  · rw [tcX, if_pos ht, Int.toNat_natCast, prodL_drop h.at_, h.behind, h.ahead, show (F : Int) + zt - F = (zt : Int) from by omega, ← Int.natCast_mul, ← Int.natCast_mul, ← Int.natCast_mul]
    rfl
/-- Tensors in a row of the call's own. -/
def RetP (w : World) (n nn P I Z : Nat) (us : List Tn) (xg : List Int) (e : Ending) (w' : World) : Prop :=
  ∃ G ps, e = .returned (.tuple #[.slice (some ⟨G, 0, none⟩) n n, .int .i64 0]) ∧ Ts w' (some ⟨G, 0, none⟩) n ps ∧ Hid (PSpec nn P I Z us xg ps) ∧ Prev w' w

section
variable {w : World} {A B C D : Option Addr} {n m c d p q e' n' m' c' d' : Nat} {zs xs ts ys zg xg : List Int} {side : Int} {us : List Tn}
set_option maxRecDepth 100000 in
set_option maxHeartbeats 2000000 in
theorem mv_joinback_no [a : Ts w A n us] [lc : Le n c] [Sl w B p zg] [Sl w C q xg] (hn : n ≤ 1000000) (_hp : p ≤ 1000000) (hz : Hid (∀ t ∈ us, t.zs.length ≤ 1000000)) {E : Int} (hE : Hid (jnE side us = E)) (h0 : (E != 0) = true) :
    Calls Try.prog 15 #[.int .i64 side, .agg #[.slice B p d, .slice C q e'], .slice A n c] w (RetN w E) := by
  have CB := @cell_bx
  have hS : Hid (([] : List Int) = if E = 0 then jnS side us else []) := Lib.hid (by rw [if_neg (by simpa using h0)])
  go_enter Try.func15, Try.ntmps15
  go_wp2_with (first | (go_at_call 41; (try first | (with_reducible refine gen_boxK3 (fun u _ _ _ _ => ?_)) | (with_reducible refine gen_boxK2 (fun u _ _ _ => ?_)) | (with_reducible refine gen_boxK (fun u _ _ => ?_))); (with_reducible refine (mv_joined (by omega) hz hE hS).mono ?_); rintro e u ⟨A', c', rfl, sA, lA, fA, _⟩))
  go_ret2
  exact ⟨rfl, prev_bel _ _⟩
set_option maxRecDepth 100000 in
set_option maxHeartbeats 2000000 in
theorem mv_joinback_shape [a : Ts w A n us] [lc : Le n c] [sG : Sl w B p zg] [xG : Sl w C q xg] (hn : n ≤ 1000000) (hp : p ≤ 1000000) (hz : Hid (∀ t ∈ us, t.zs.length ≤ 1000000)) {S : List Int} (hE : Hid (jnE side us = 0)) (hS : Hid (S = jnS side us)) (hSl : S.length ≤ 1000000) (h : (tRightB zg xg && decide (zg = S)) = false) :
    Calls Try.prog 15 #[.int .i64 side, .agg #[.slice B p d, .slice C q e'], .slice A n c] w (RetN w 20) := by
  have CB := @cell_bx
  have CP := @cell_prev
  have hS' : Hid (S = if (0 : Int) = 0 then jnS side us else []) := Lib.hid (by rw [if_pos rfl]; exact hS.out)
  rcases hr : tRightB zg xg with _ | _
  · clear h
    go_enter Try.func15, Try.ntmps15
    go_wp2_with (first | (go_at_call 41; (try first | (with_reducible refine gen_boxK3 (fun u _ _ _ _ => ?_)) | (with_reducible refine gen_boxK2 (fun u _ _ _ => ?_)) | (with_reducible refine gen_boxK (fun u _ _ => ?_))); (with_reducible refine (mv_joined (by omega) hz hE hS').mono ?_); rintro e u ⟨A', c', rfl, sA, lA, fA, _⟩) | (go_at_call 43; (try first | (with_reducible refine gen_boxK3 (fun u _ _ _ _ => ?_)) | (with_reducible refine gen_boxK2 (fun u _ _ _ => ?_)) | (with_reducible refine gen_boxK (fun u _ _ => ?_))); (with_reducible refine (aT_right (by omega)).mono ?_); rintro e u ⟨rfl, _⟩))
    go_ret2
    exact ⟨rfl, prev_bel _ _⟩
  · have hs : decide (zg = S) = false := by simpa [hr] using h
    clear h
    go_enter Try.func15, Try.ntmps15
    go_wp2_with (first | (go_at_call 41; (try first | (with_reducible refine gen_boxK3 (fun u _ _ _ _ => ?_)) | (with_reducible refine gen_boxK2 (fun u _ _ _ => ?_)) | (with_reducible refine gen_boxK (fun u _ _ => ?_))); (with_reducible refine (mv_joined (by omega) hz hE hS').mono ?_); rintro e u ⟨A', c', rfl, sA, lA, fA, _⟩) | (go_at_call 43; (try first | (with_reducible refine gen_boxK3 (fun u _ _ _ _ => ?_)) | (with_reducible refine gen_boxK2 (fun u _ _ _ => ?_)) | (with_reducible refine gen_boxK (fun u _ _ => ?_))); (with_reducible refine (aT_right (by omega)).mono ?_); rintro e u ⟨rfl, _⟩) | (go_at_call 32; (try first | (with_reducible refine gen_boxK3 (fun u _ _ _ _ => ?_)) | (with_reducible refine gen_boxK2 (fun u _ _ _ => ?_)) | (with_reducible refine gen_boxK (fun u _ _ => ?_))); (with_reducible refine (aS_equal (by omega) (by omega)).mono ?_); rintro e u ⟨rfl, _⟩))
    go_ret2
    exact ⟨rfl, prev_bel _ _⟩
set_option maxRecDepth 100000 in
set_option maxHeartbeats 8000000 in
theorem mv_joinback_yes [a : Ts w A n us] [lc : Le n c] {nn P I Z : Nat} {S : List Int} [sG : Sl w B p S] [xG : Sl w C q xg] [ld : Le q e'] [iG : I6s xg] (hn : n ≤ 1000000) (hz : Hid (∀ t ∈ us, t.zs.length ≤ 1000000)) (hE : Hid (jnE nn us = 0)) (HJW : Hid (JW nn P I Z S)) (hS : Hid (S = jnS nn us)) (hr : tRightB S xg = true)
    (hall : Hid (∀ t ∈ us, tRightB t.zs t.xs = true ∧ JW nn P I (zN nn t) t.zs ∧ S.set nn (zN nn t : Int) = t.zs)) (hF : Hid (fromN nn us us.length = Z)) :
    Calls Try.prog 15 #[.int .i64 nn, .agg #[.slice B p d, .slice C q e'], .slice A n c] w (RetP w n nn P I Z us xg) := by
  have CB := @cell_bx
  have CP := @cell_prev
  have FP := @frozen_prev
  have hS' : Hid (S = if (0 : Int) = 0 then jnS nn us else []) := Lib.hid (by rw [if_pos rfl]; exact hS.out)
  have hp4 : p ≤ 4 := by rw [sG.len]; exact ((rightB_iff S).1 HJW.out.right).2.1
  have hS4 : S.length ≤ 4 := ((rightB_iff S).1 HJW.out.right).2.1
  have hZ6 : Z ≤ 65536 := by
    have h1 := HJW.out.small
    have h2 : Z * 1 ≤ Z * I := Nat.mul_le_mul_left _ HJW.out.i1
    have h3 : 1 * (Z * I) ≤ P * (Z * I) := Nat.mul_le_mul_right _ HJW.out.p1
    omega
  have hmk := make_tensN n hn
  go_enter Try.func15, Try.ntmps15
  go_wp2_with (first | (go_at_call 41; (try first | (with_reducible refine gen_boxK3 (fun u _ _ _ _ => ?_)) | (with_reducible refine gen_boxK2 (fun u _ _ _ => ?_)) | (with_reducible refine gen_boxK (fun u _ _ => ?_))); (with_reducible refine (mv_joined (by omega) hz hE hS').mono ?_); rintro e u ⟨A', c', rfl, sA, lA, fA, _⟩) | (go_at_call 43; (try first | (with_reducible refine gen_boxK3 (fun u _ _ _ _ => ?_)) | (with_reducible refine gen_boxK2 (fun u _ _ _ => ?_)) | (with_reducible refine gen_boxK (fun u _ _ => ?_))); (with_reducible refine (aT_right (by omega)).mono ?_); rintro e u ⟨rfl, _⟩) | (go_at_call 32; (try first | (with_reducible refine gen_boxK3 (fun u _ _ _ _ => ?_)) | (with_reducible refine gen_boxK2 (fun u _ _ _ => ?_)) | (with_reducible refine gen_boxK (fun u _ _ => ?_))); (with_reducible refine (aS_equalT (by omega) (by omega)).mono ?_); rintro e u ⟨rfl, _⟩))
  clear hmk
  obtain ⟨v, rfl⟩ : ∃ v : World, v = u := ⟨_, rfl⟩
  have hr' := Lib.hid hr
  clear hr
  go_loopw [11, 39] (fun f i wr => ∃ ps : List Tn, ps.length ≤ n ∧ i = .int .i64 ps.length ∧ f = .int .i64 (fromN nn us ps.length) ∧ PB wr v.heap.size n ps ∧ Hid (PSpec nn P I Z us xg ps) ∧ Prev wr v) (fun _ i _ => n - (intOf i).toNat)
  case atStart => exact ⟨[], Nat.zero_le _, rfl, rfl, ⟨Blk.new _ _ _, fun t ht => by cases ht⟩, Lib.hid ⟨fun j p t hp => by simp at hp⟩, prev_bel _ _⟩
  case round =>
    obtain ⟨ps, hk, rfl, rfl, hPB, hSpec, hp⟩ := hrel
    by_cases hlt : ps.length < n
    · obtain ⟨b, o, A1, c1, z1, B1, d1, x1, rfl, ob, q0, q1, s1, t1, hd1, i1, ht⟩ := a.get hlt
      obtain ⟨hrt, hjw, hset⟩ := hall.out _ (List.mem_of_getElem? ht.out)
      have hfs := fromN_succ (n := nn) ht.out
      have hfl := fromN_le (n := nn) us (ps.length + 1)
      rw [hF.out, hfs] at hfl
      generalize hzt : zN nn ⟨A1, c1, z1, B1, d1, x1⟩ = zt at *
      generalize hFF : fromN nn us ps.length = F at *
      simp only at hjw hset
      have hzt1 := hjw.z1
      have hnn := hjw.lt
      obtain ⟨HJ, HSS, HXX⟩ := cut_part HJW.out hr'.out hfl hzt1 hset
      have HJ := Lib.hid HJ
      have HSS := Lib.hid HSS
      have HXX := Lib.hid HXX
      obtain ⟨b2, o2, z, rfl, ob2, cz, hz2⟩ := s1.get hnn
      obtain rfl : z = (zt : Int) := by have h1 := hz2.out; rw [hjw.at_] at h1; injection h1 with h1; exact h1.symm
      obtain ⟨g0, g1⟩ := hPB.cells hlt
      have f0 := hPB.blk.frozen (ps.length * 2)
      have f1 := hPB.blk.frozen (ps.length * 2 + 1)
      have oG : Old v.heap.size wr := ⟨hPB.blk.lt⟩
      have HFS := Lib.hid hfs
      have HZT := Lib.hid hzt
      have HFF := Lib.hid hFF
      have HT := Lib.hid ht
      clear hjw hset hfs hzt hFF hrt
      obtain ⟨X, hX⟩ : ∃ X, cutCells (Z * I) (F * I) (zt * I) xg P = X := ⟨_, rfl⟩
      rw [hX] at HXX
      have HX := Lib.hid hX
      clear hX
      go_wp2_with (first | (go_at_call 25; (try first | (with_reducible refine gen_boxK3 (fun u _ _ _ _ => ?_)) | (with_reducible refine gen_boxK2 (fun u _ _ _ => ?_)) | (with_reducible refine gen_boxK (fun u _ _ => ?_))); (with_reducible refine (aT_cut (by omega) HJ HSS HXX).mono ?_); rintro e u ⟨A', c', B', d', rfl, sA, sX, lA, lX, fA, fX, _⟩))
      have hbd : ∀ z ∈ X, I64 z := fun z hz => iG.bd z (cutCells_mem (by rw [HX.out]; exact hz))
      have hpu := (hPB.at (w' := u)).push (t := ⟨A', c', z1, B', d', X⟩) hlt sA sX (fA.less (Nat.lt_of_lt_of_le oG.lt later_size)) (fX.less (Nat.lt_of_lt_of_le oG.lt later_size)) lX.le hbd
      go_roundw
      case rel => exact ⟨ps ++ [⟨A', c', z1, B', d', X⟩], by simp; omega, by simp, by simp only [List.length_append, List.length_cons, List.length_nil, Nat.zero_add, HFS.out]; simp, hpu, Lib.hid (hSpec.out.push HT.out.out rfl (by rw [HFF.out, HZT.out, HX.out])), ⟨((bel v u).setCell (p := ⟨v.heap.size, ps.length * 2, none⟩) (Nat.le_refl _) _).setCell (p := ⟨v.heap.size, ps.length * 2 + 1, none⟩) (Nat.le_refl _) _⟩⟩
      case measure => simp [intOf]; omega
    · go_wp2_with fail
      go_ret2
      exact ⟨v.heap.size, ps, rfl, hPB.ts (by omega), hSpec, prev_bel _ _⟩
end

end Go.Proofs.Ytingmabmglpmaaa
