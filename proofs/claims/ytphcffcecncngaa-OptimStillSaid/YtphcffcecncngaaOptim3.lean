/- optim.Begin, Step, Mean. -/
import Derived.Test.YtphcffcecncngaaCopies
import Derived.Deep.DeepCutAuto
namespace Go.Proofs.Ytphcffcecncngaa
open Go.RowKit

/-- The first j of a list told anew. -/
def mix (f : Nat → Int) (xs : List Int) (j : Nat) : List Int := (List.range xs.length).map fun i => if i < j then f i else xs.getD i 0
section
variable {f : Nat → Int} {xs : List Int} {j : Nat}
theorem mix_len : (mix f xs j).length = xs.length := by simp [mix]
theorem mix_get {i : Nat} (hi : i < xs.length) : (mix f xs j)[i]? = some (if i < j then f i else xs.getD i 0) := by
  simp [mix, hi]
theorem mix_zero : mix f xs 0 = xs := by
  apply List.ext_getElem?
  intro i
  by_cases hi : i < xs.length
  · rw [mix_get hi, if_neg (by omega), List.getElem?_eq_getElem hi, List.getD_eq_getElem?_getD, List.getElem?_eq_getElem hi]; rfl
  · rw [List.getElem?_eq_none (by rw [mix_len]; omega), List.getElem?_eq_none (by omega)]
theorem mix_at {z : Int} (hz : xs[j]? = some z) : (mix f xs j)[j]? = some z := by
  have hj := (List.getElem?_eq_some_iff.1 hz).1
  rw [mix_get hj, if_neg (by omega), List.getD_eq_getElem?_getD, hz]; rfl
theorem mix_set : (mix f xs j).set j (f j) = mix f xs (j + 1) := by
  apply List.ext_getElem?
  intro i
  rw [List.getElem?_set, mix_len]
  by_cases hi : i < xs.length
  · by_cases e : j = i
    · subst e; rw [if_pos rfl, if_pos hi, mix_get hi, if_pos (by omega)]
    · rw [if_neg e, mix_get hi, mix_get hi]
      congr 1
      by_cases h2 : i < j
      · rw [if_pos h2, if_pos (by omega)]
      · rw [if_neg h2, if_neg (by omega)]
  · rw [List.getElem?_eq_none (by rw [mix_len]; omega), List.getElem?_eq_none (by rw [mix_len]; omega)]
    split
    · rw [if_neg (by omega)]
    · rfl
theorem mix_full {z : Int} {i : Nat} (h : xs.length ≤ j) (hz : (mix f xs j)[i]? = some z) : z = f i := by
  have hi := (List.getElem?_eq_some_iff.1 hz).1
  rw [mix_len] at hi
  rw [mix_get hi, if_pos (by omega)] at hz
  injection hz with hz; exact hz.symm
end
/-- The first k rows told anew: row j holds f j t. -/
structure Upd (f : Nat → Tn → List Int) (k : Nat) (ts : List Tn) (qs : List Cp) : Prop where
  len : qs.length = ts.length
  at_ : ∀ (j : Nat) (q : Cp) (t : Tn), qs[j]? = some q → ts[j]? = some t → q.zs = t.zs ∧ q.xs = if j < k then f j t else t.xs
section
variable {f : Nat → Tn → List Int} {k : Nat} {ts : List Tn} {qs : List Cp}
theorem CPs.upd (h : CPs ts qs) : Upd f 0 ts qs := ⟨h.len, fun j q t hq ht => by
  obtain ⟨a, b⟩ := h.at hq ht
  exact ⟨a, by rw [if_neg (by omega)]; exact b⟩⟩
theorem Upd.step (h : Upd f k ts qs) {q : Cp} {t : Tn} (hq : qs[k]? = some q) (ht : ts[k]? = some t) {X : List Int} (hX : X = f k t) : Upd f (k + 1) ts (qs.set k { q with xs := X }) :=
  ⟨by rw [List.length_set]; exact h.len, fun j q' t' hq' ht' => by
    rw [List.getElem?_set] at hq'
    by_cases e : k = j
    · subst e
      rw [if_pos rfl, if_pos (List.getElem?_eq_some_iff.1 hq).1] at hq'
      injection hq' with hq'; subst hq'
      rw [ht] at ht'; injection ht' with ht'; subst ht'
      exact ⟨(h.at_ k q t hq ht).1, by rw [if_pos (by omega)]; exact hX⟩
    · rw [if_neg e] at hq'
      obtain ⟨a, b⟩ := h.at_ j q' t' hq' ht'
      refine ⟨a, b.trans ?_⟩
      by_cases h2 : j < k
      · rw [if_pos h2, if_pos (by omega)]
      · rw [if_neg h2, if_neg (by omega)]⟩
theorem Upd.get (h : Upd f k ts qs) {j : Nat} {t : Tn} (ht : ts[j]? = some t) : ∃ q, qs[j]? = some q ∧ q.zs = t.zs ∧ q.xs = if j < k then f j t else t.xs := by
  have hj := (List.getElem?_eq_some_iff.1 ht).1
  obtain ⟨q, hq⟩ : ∃ q, qs[j]? = some q := ⟨_, List.getElem?_eq_getElem (by rw [h.len]; exact hj)⟩
  exact ⟨q, hq, h.at_ j q t hq ht⟩
end
/-- A row of noughts. -/
def noughts (_ : Nat) (t : Tn) : List Int := List.replicate t.xs.length 0
/-- No state, but an error. -/
def RetS0 (w : World) (E : Int) (e : Ending) (w' : World) : Prop := e = .returned (.tuple #[.agg #[.slice none 0 0, .slice none 0 0], .int .i64 E]) ∧ Prev w' w
/-- A state in memory of the call's own: rows told by f and g of those of ts and us. -/
def RetS2 (w : World) (ts us : List Tn) (n : Nat) (f g : Nat → Tn → List Int) (e : Ending) (w' : World) : Prop :=
  ∃ G1 ps G2 qs, e = .returned (.tuple #[.agg #[.slice (some ⟨G1, 0, none⟩) n n, .slice (some ⟨G2, 0, none⟩) n n], .int .i64 0]) ∧ CB2 w' w.heap.size G1 n ps G2 n qs ∧ Hid (Upd f n ts ps) ∧ Hid (Upd g n us qs) ∧ Prev w' w
theorem CB2.nought {w w' : World} {lo G1 n G2 m : Nat} {ps qs : List Cp} (h : CB2 w lo G1 n ps G2 m qs) {k : Nat} {q : Cp} (hq : qs[k]? = some q) {X : List Int} (hsame : ∀ b, b < w.heap.size → b ≠ q.g' → w'.heap[b]? = w.heap[b]?) (hnew : Own w' q.g' 45 X) (hl : X.length = q.xs.length) :
    CB2 w' lo G1 n ps G2 m (qs.set k { q with xs := X }) :=
  ⟨h.l.farF (h.r.el q (List.mem_of_getElem? hq)).2.1 (fun p hp => h.ne p hp q (List.mem_of_getElem? hq)) hsame, h.r.upd hq hsame hnew hl, fun p hp r hr => by
    rcases List.mem_or_eq_of_mem_set hr with hr | rfl
    · exact h.ne p hp r hr
    · exact h.ne p hp q (List.mem_of_getElem? hq)⟩
theorem CB2.nought' {w w' : World} {lo G1 n G2 m : Nat} {ps qs : List Cp} (h : CB2 w lo G1 n ps G2 m qs) {k : Nat} {q : Cp} (hq : ps[k]? = some q) {X : List Int} (hsame : ∀ b, b < w.heap.size → b ≠ q.g' → w'.heap[b]? = w.heap[b]?) (hnew : Own w' q.g' 45 X) (hl : X.length = q.xs.length) :
    CB2 w' lo G1 n (ps.set k { q with xs := X }) G2 m qs :=
  ⟨h.l.upd hq hsame hnew hl, h.r.farF (h.l.el q (List.mem_of_getElem? hq)).2.1 (fun p hp => (h.ne q (List.mem_of_getElem? hq) p hp).symm) hsame, fun p hp r hr => by
    rcases List.mem_or_eq_of_mem_set hp with hp | rfl
    · exact h.ne p hp r hr
    · exact h.ne q (List.mem_of_getElem? hq) r hr⟩
theorem CB2.at {w w' : World} {lo G1 n G2 m : Nat} {ps qs : List Cp} [l : Later w w'] (h : CB2 w lo G1 n ps G2 m qs) : CB2 w' lo G1 n ps G2 m qs := ⟨h.l.at, h.r.at, h.ne⟩
theorem CB2.farT {w w' : World} {lo G1 n G2 m : Nat} {ps qs : List Cp} (h : CB2 w lo G1 n ps G2 m qs) {k : Nat} {T : TypeId} {cs : Array Value} (ho : Blk w k T cs) (h1 : T ≠ 65) (h2 : T ≠ 3) (h3 : T ≠ 45) (hsame : ∀ b, b < w.heap.size → b ≠ k → w'.heap[b]? = w.heap[b]?) : CB2 w' lo G1 n ps G2 m qs :=
  ⟨h.l.farT ho h1 h2 h3 hsame, h.r.farT ho h1 h2 h3 hsame, h.ne⟩
theorem same2 (w : World) (g : Nat) (v0 v1 : Value) : ∀ b, b < w.heap.size → b ≠ g → ((w.setCell ⟨g, 0, none⟩ v0).setCell ⟨g, 1, none⟩ v1).heap[b]? = w.heap[b]? :=
  fun b _ hb => (Below.heap_setCell _ ⟨g, 1, none⟩ _ b hb).trans (Below.heap_setCell _ ⟨g, 0, none⟩ _ b hb)
section
variable {w : World} {A B C : Option Addr} {n m c d : Nat} {ts us gs : List Tn}
set_option maxRecDepth 100000 in
set_option maxHeartbeats 4000000 in
theorem op_begin_no [a : Ts w A n ts] (hn : n ≤ 1000000) (hz : Hid (Mo ts)) (h : validB ts = false) : Calls Try.prog 41 #[.slice A n c] w (RetS0 w 20) := by
  have CB := @cell_bx
  have CP := @cell_prev
  have FB := @frozen_bx
  go_enter Try.func41, Try.ntmps41
  go_wp2_with (first | (go_at_call 74; (try first | (with_reducible refine gen_boxK3 (fun u _ _ _ _ => ?_)) | (with_reducible refine gen_boxK2 (fun u _ _ _ => ?_)) | (with_reducible refine gen_boxK (fun u _ _ => ?_))); (with_reducible refine (op_valid (by omega) hz).mono ?_); rintro e u ⟨rfl, _⟩))
  have k3 := Blk.set2 (Bx.blk (w := u) (g := w.heap.size)) (.slice none 0 0) (.slice none 0 0)
  have B3 := bset2 (bel w u) (Nat.le_refl _) (.slice none 0 0) (.slice none 0 0)
  obtain ⟨r0, r1⟩ := box2 k3
  refine bodyPost_ret (v := .tuple #[.agg #[.slice none 0 0, .slice none 0 0], .int .i64 20]) (by simp [results, Try.results41, go_sem, r0, r1]) rfl ?_
  exact ⟨rfl, ⟨B3⟩⟩
set_option maxRecDepth 100000 in
set_option maxHeartbeats 4000000 in
theorem op_begin_yes [a : Ts w A n ts] (hn : n ≤ 1000000) (hz : Hid (Mo ts)) (h : validB ts = true) : Calls Try.prog 41 #[.slice A n c] w (RetS2 w ts ts n (fun _ t => t.xs) noughts) := by
  have CB := @cell_bx
  have CP := @cell_prev
  have FB := @frozen_bx
  have HL := Lib.hid a.len
  have HV := Lib.hid h
  go_enter Try.func41, Try.ntmps41
  go_wp2_with (first | (go_at_call 74; (try first | (with_reducible refine gen_boxK3 (fun u _ _ _ _ => ?_)) | (with_reducible refine gen_boxK2 (fun u _ _ _ => ?_)) | (with_reducible refine gen_boxK (fun u _ _ => ?_))); (with_reducible refine (op_valid (by omega) hz).mono ?_); rintro e u ⟨rfl, _⟩) | (go_at_call 66; (try first | (with_reducible refine gen_boxK3 (fun u _ _ _ _ => ?_)) | (with_reducible refine gen_boxK2 (fun u _ _ _ => ?_)) | (with_reducible refine gen_boxK (fun u _ _ => ?_))); (with_reducible refine ((fun (_ : CBk _ _ _ _ _) => op_copies (by omega)) c1 hz).mono ?_); rintro e u ⟨G2, qs, rfl, c2, H2, pw2⟩) | (go_at_call 66; (try first | (with_reducible refine gen_boxK3 (fun u _ _ _ _ => ?_)) | (with_reducible refine gen_boxK2 (fun u _ _ _ => ?_)) | (with_reducible refine gen_boxK (fun u _ _ => ?_))); (with_reducible refine (op_copies (by omega) hz).mono ?_); rintro e u ⟨G1, ps, rfl, c1, H1, pw1⟩))
  have NE : ∀ p ∈ ps, ∀ q ∈ qs, p.g' ≠ q.g' := fun p hp q hq => Nat.ne_of_lt (Nat.lt_of_lt_of_le (c1.old hp).2 (c2.el q hq).2.2.2)
  obtain ⟨va, hva⟩ : ∃ va : World, va = u.alloc (.cells #[.slice (some ⟨G1, 0, none⟩) n n, .slice (some ⟨G2, 0, none⟩) n n] 70) := ⟨_, rfl⟩
  have pva : Prev va u := by rw [hva]; infer_instance
  have kva : Bx va u.heap.size 70 #[.slice (some ⟨G1, 0, none⟩) n n, .slice (some ⟨G2, 0, none⟩) n n] := by rw [hva]; infer_instance
  rw [← hva]
  clear hva
  have hBW : w.heap.size < u.heap.size := (Bx.blk (w := u) (g := w.heap.size)).lt
  have CC : CB2 va w.heap.size G1 n ps G2 n qs := ⟨((c1.less (lo' := w.heap.size) later_size).at (w' := va)), ((c2.less (lo' := w.heap.size) later_size).at (w' := va)), NE⟩
  have HU : Hid (Upd noughts 0 ts qs) := Lib.hid H2.out.upd
  have HUP : Hid (Upd (fun _ t => t.xs) n ts ps) := Lib.hid ⟨H1.out.len, fun j q t hq ht => by
    obtain ⟨a1, a2⟩ := H1.out.at hq ht
    exact ⟨a1, by rw [a2]; split <;> rfl⟩⟩
  clear c1 c2 H1 H2 NE h
  go_loopw [19] (fun i wr => ∃ (k : Nat) (qs' : List Cp), k ≤ n ∧ i = .int .i64 k ∧ CB2 wr w.heap.size G1 n ps G2 n qs' ∧ Hid (Upd noughts k ts qs') ∧ Bx wr u.heap.size 70 #[.slice (some ⟨G1, 0, none⟩) n n, .slice (some ⟨G2, 0, none⟩) n n] ∧ Bx wr w.heap.size 70 #[.slice none 0 0, .slice none 0 0] ∧ Prev wr w) (fun i _ => n - (intOf i).toNat)
  case atStart => exact ⟨0, qs, Nat.zero_le _, rfl, CC, HU, kva, inferInstance, prev_bel _ _⟩
  case round =>
    clear CC HU kva pva
    obtain ⟨k, qs', hk, rfl, CC, HU, kS, kR, hp⟩ := hrel
    have hql := HU.out.len.trans HL.out.symm
    by_cases hlt : k < n
    · obtain ⟨t, ht⟩ : ∃ t, ts[k]? = some t := ⟨_, List.getElem?_eq_getElem (by rw [← HL.out]; exact hlt)⟩
      obtain ⟨q, hq, hqz, hqx⟩ := HU.out.get ht
      rw [if_neg (Nat.lt_irrefl k)] at hqx
      obtain ⟨hl1, hl2⟩ := hz.out t (List.mem_of_getElem? ht)
      have hpos : 0 < q.xs.length := by have := (right_len (validB_at HV.out ht)).2.1; rw [hqx]; exact this
      have hql2 : q.xs.length ≤ 1000000 := by rw [hqx]; exact hl2
      obtain ⟨q0, q1⟩ := (CC.r.len hql).get hq
      have oG : Old G2 wr := ⟨CC.r.blk.lt⟩
      have HQ := Lib.hid hq
      have HT := Lib.hid ht
      have HQX : Hid (List.replicate q.xs.length 0 = noughts k t) := Lib.hid (by rw [hqx]; rfl)
      have oQ := (CC.r.el q (List.mem_of_getElem? hq)).2.1
      have hgw := (CC.r.el q (List.mem_of_getElem? hq)).2.2.2
      obtain ⟨qz, hqz'⟩ : ∃ N, q.zs.length = N := ⟨_, rfl⟩
      rw [hqz'] at q0
      obtain ⟨qn, hqn⟩ : ∃ N, q.xs.length = N := ⟨_, rfl⟩
      rw [hqn] at q1 hpos hql2
      obtain ⟨qg, hqg⟩ : ∃ N, q.g = N := ⟨_, rfl⟩
      rw [hqg] at q0
      obtain ⟨qg', hqg'⟩ : ∃ N, q.g' = N := ⟨_, rfl⟩
      rw [hqg'] at q1 oQ hgw
      have HQN := Lib.hid hqn
      have HQG := Lib.hid hqg'
      clear hq ht hqz hqx hl1 hl2 hqz' hqn hqg hqg' hql
      obtain ⟨wa, hwa⟩ : ∃ wa : World, wa = wr.alloc (.cells #[.slice (some ⟨qg, 0, none⟩) qz qz, .slice (some ⟨qg', 0, none⟩) qn qn] 65) := ⟨_, rfl⟩
      have pwa : Prev wa wr := by rw [hwa]; infer_instance
      have hcl := fun ty => run_clear_own (P := Try.prog) 63 45 ty Try.underlying63 (by kernel_rfl) (oQ.at (w' := wa)) (by rw [HQN.out]; exact hpos) qn
      have offW := setCells_off (bs := [qg']) (g := qg') (by simp) (List.replicate qn (.int .i64 0)) 0 (Off.refl [qg'] wa)
      have oQW := (oQ.at (w' := wa)).clear
      have belW := setCells_below (n := w.heap.size) (g := qg') hgw (List.replicate qn (.int .i64 0)) 0 (bel w wa)
      rw [HQN.out] at oQW hcl
      obtain ⟨W, hW⟩ : ∃ W, W = wa.setCells qg' 0 (List.replicate qn (.int .i64 0)) := ⟨_, rfl⟩
      rw [← hW] at offW oQW belW
      have hcl' := hcl 0
      rw [← hW, hwa] at hcl'
      have CW := Lib.hid ((CC.at (w' := wa)).nought (w' := W) (X := List.replicate qn 0) HQ.out (fun b hb hne => offW.same b hb (by rw [HQG.out] at hne; simpa using hne)) (by rw [HQG.out]; exact oQW) (by simp [HQN.out]))
      have UW := Lib.hid (HU.out.step HQ.out HT.out (X := List.replicate qn 0) (by rw [← HQX.out, HQN.out]))
      have kSW := Lib.hid (offW.blk (kS.blk.at (w' := wa)) (by have := (oQ.at (w' := wa)).ne_blk (kS.blk.at (w' := wa)) (by decide); simpa using this.symm))
      have kRW := Lib.hid (offW.blk (kR.blk.at (w' := wa)) (by have := (oQ.at (w' := wa)).ne_blk (kR.blk.at (w' := wa)) (by decide); simpa using this.symm))
      clear hcl offW oQW hW hwa oQ CC HU
      go_wp2_with fail
      go_roundw
      case rel => exact ⟨k + 1, _, by omega, by go_num, CW.out, UW, ⟨kSW.out⟩, ⟨kRW.out⟩, ⟨belW⟩⟩
      case measure => simp [intOf]; omega
    · obtain rfl : k = n := by omega
      go_wp2_with fail
      have k3 := Blk.set2 (Bx.blk (w := wr) (g := w.heap.size)) (.slice (some ⟨G1, 0, none⟩) k k) (.slice (some ⟨G2, 0, none⟩) k k)
      have B3 := bset2 (bel w wr) (Nat.le_refl _) (.slice (some ⟨G1, 0, none⟩) k k) (.slice (some ⟨G2, 0, none⟩) k k)
      have C3 := CC.farT (Bx.blk (w := wr) (g := w.heap.size)) (by decide) (by decide) (by decide) (same2 wr w.heap.size (.slice (some ⟨G1, 0, none⟩) k k) (.slice (some ⟨G2, 0, none⟩) k k))
      obtain ⟨r0, r1⟩ := box2 k3
      refine bodyPost_ret (v := .tuple #[.agg #[.slice (some ⟨G1, 0, none⟩) k k, .slice (some ⟨G2, 0, none⟩) k k], .int .i64 0]) (by simp [results, Try.results41, go_sem, r0, r1]) rfl ?_
      exact ⟨G1, ps, G2, qs', rfl, C3, HUP, HU, ⟨B3⟩⟩
end

end Go.Proofs.Ytphcffcecncngaa
