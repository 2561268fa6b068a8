/- optim.copies, Norm; the State's Right, Copy, Equal. -/
import Derived.Test.YtphcffcecncngaaOptim2
import Derived.Test.YtphcffcecncngaaTcz
namespace Go.Proofs.Ytphcffcecncngaa
open Go.RowKit

/-- Copies of tensors. -/
structure CPs (ts : List Tn) (ps : List Cp) : Prop where
  zs : ps.map Cp.zs = ts.map Tn.zs
  xs : ps.map Cp.xs = ts.map Tn.xs
theorem CPs.len {ts : List Tn} {ps : List Cp} (h : CPs ts ps) : ps.length = ts.length := by
  have := congrArg List.length h.zs
  simpa using this
theorem CPs.push {ts : List Tn} {ps : List Cp} {k : Nat} {t : Tn} {p : Cp} (h : CPs (ts.take k) ps) (ht : ts[k]? = some t) (h1 : p.zs = t.zs) (h2 : p.xs = t.xs) : CPs (ts.take (k + 1)) (ps ++ [p]) := by
  rw [List.take_add_one, ht]
  exact ⟨by simp [h.zs, h1], by simp [h.xs, h2]⟩
theorem CPs.at {ts : List Tn} {ps : List Cp} (h : CPs ts ps) {j : Nat} {p : Cp} {t : Tn} (hp : ps[j]? = some p) (ht : ts[j]? = some t) : p.zs = t.zs ∧ p.xs = t.xs := by
  have h1 := congrArg (fun l => l[j]?) h.zs
  have h2 := congrArg (fun l => l[j]?) h.xs
  simp [List.getElem?_map, hp, ht] at h1 h2
  exact ⟨h1, h2⟩
theorem CPs.bd {ts : List Tn} {ps : List Cp} (h : CPs ts ps) (hb : ∀ t ∈ ts, ∀ z ∈ t.xs, I64 z) : ∀ p ∈ ps, ∀ z ∈ p.xs, I64 z := by
  intro p hp
  have : p.xs ∈ ts.map Tn.xs := by rw [← h.xs]; exact List.mem_map_of_mem hp
  obtain ⟨t, ht, e⟩ := List.mem_map.1 this
  rw [← e]
  exact hb t ht
theorem TRd.bd {w : World} {A : Option Addr} {ts : List Tn} (h : TRd w A ts) : ∀ t ∈ ts, ∀ z ∈ t.xs, I64 z := fun t ht => (h.elems t ht).2.2.2
/-- Tensors in a row of the call's own, each with rows of its own. -/
def RetCp (w : World) (ts : List Tn) (n : Nat) (e : Ending) (w' : World) : Prop :=
  ∃ G ps, e = .returned (.slice (some ⟨G, 0, none⟩) n n) ∧ CBk w' w.heap.size G n ps ∧ Hid (CPs ts ps) ∧ Prev w' w
section
variable {w : World} {A B : Option Addr} {n m c d : Nat} {ts us : List Tn}
set_option maxRecDepth 100000 in
set_option maxHeartbeats 4000000 in
theorem op_copies [a : Ts w A n ts] (hn : n ≤ 1000000) (hz : Hid (Mo ts)) : Calls Try.prog 66 #[.slice A n c] w (RetCp w ts n) := by
  have CB := @cell_bx
  have CP := @cell_prev
  have FP := @frozen_prev
  have HL := Lib.hid a.len
  have hmk := make_tensN n hn
  go_enter Try.func66, Try.ntmps66
  go_wp2_with fail
  clear hmk
  go_loopw [11] (fun i wr => ∃ ps : List Cp, ps.length ≤ n ∧ i = .int .i64 ps.length ∧ CBk wr w.heap.size w.heap.size n ps ∧ Hid (CPs (ts.take ps.length) ps) ∧ Prev wr w) (fun i _ => n - (intOf i).toNat)
  case atStart => exact ⟨[], Nat.zero_le _, rfl, CBk.nil, Lib.hid ⟨rfl, rfl⟩, prev_bel _ _⟩
  case round =>
    obtain ⟨ps, hk, rfl, hCB, HC, hp⟩ := hrel
    by_cases hlt : ps.length < n
    · obtain ⟨b, o, A1, c1, z1, B1, d1, x1, rfl, ob, q0, q1, s1, t1, hd1, i1, ht⟩ := a.get hlt
      obtain ⟨l1, l2⟩ := hz.out _ (List.mem_of_getElem? ht.out)
      simp only at l1 l2
      obtain ⟨g0, g1⟩ := hCB.cells hlt
      have f0 := hCB.blk.frozen (ps.length * 2)
      have f1 := hCB.blk.frozen (ps.length * 2 + 1)
      have oG : Old w.heap.size wr := ⟨hCB.blk.lt⟩
      have hws := hCB.blk.lt
      go_wp2_with (first | (go_at_call 83; (try first | (with_reducible refine gen_boxK3 (fun u _ _ _ _ => ?_)) | (with_reducible refine gen_boxK2 (fun u _ _ _ => ?_)) | (with_reducible refine gen_boxK (fun u _ _ => ?_))); (with_reducible refine (aT_copy (by omega) (by omega)).mono ?_); rintro e u ⟨g, g', rfl, hg, hg', oS, oX, _⟩))
      have hgr : wr.heap.size ≤ g := Nat.le_trans later_size hg
      have hgr' : wr.heap.size ≤ g' := Nat.le_trans later_size hg'
      have hpu := (hCB.at (w' := u)).push (p := ⟨g, z1, g', x1⟩) hlt oS oX (Nat.le_trans (Nat.le_of_lt hws) hgr) (Nat.le_trans (Nat.le_of_lt hws) hgr') (fun q hq => by have := (hCB.old hq).2; simp only; omega)
      have HCn := Lib.hid (HC.out.push (p := ⟨g, z1, g', x1⟩) ht.out rfl rfl)
      go_roundw
      case rel => exact ⟨ps ++ [⟨g, z1, g', x1⟩], by simp; omega, by simp, hpu, by rw [List.length_append]; exact HCn, ⟨((bel w u).setCell (p := ⟨w.heap.size, ps.length * 2, none⟩) (Nat.le_refl _) _).setCell (p := ⟨w.heap.size, ps.length * 2 + 1, none⟩) (Nat.le_refl _) _⟩⟩
      case measure => simp [intOf]; omega
    · have HF : Hid (CPs ts ps) := Lib.hid (by
        have := HC.out
        rwa [List.take_of_length_le (by rw [← HL.out]; omega)] at this)
      go_wp2_with fail
      go_ret
      exact ⟨_, ps, rfl, hCB, HF, prev_bel _ _⟩
/-- The sum of the absolute values of all cells. -/
def normI (ts : List Tn) : Int := fsum ((ts.flatMap Tn.xs).map fabs)
theorem normI_zero {ts : List Tn} {k j : Nat} {xs : List Int} {z : Int} (hz : xs[j]? = some z) :
    fadd (fsum (((ts.take k).flatMap Tn.xs ++ xs.take j).map fabs)) (fabs z) = fsum (((ts.take k).flatMap Tn.xs ++ xs.take (j + 1)).map fabs) := by
  rw [take_at hz, ← List.append_assoc, List.map_append (l₂ := [z]), List.map_cons, List.map_nil, fsum_snoc]
theorem normI_next {ts : List Tn} {k : Nat} {t : Tn} (ht : ts[k]? = some t) : (ts.take k).flatMap Tn.xs ++ t.xs.take t.xs.length = (ts.take (k + 1)).flatMap Tn.xs := by
  rw [take_at ht, List.flatMap_append, List.take_length]; simp
instance I6.abs {x : Int} [a : I6 x] : I6 (fabs x) := ⟨fabs_bd a.bd⟩
instance I6.sum {xs : List Int} : I6 (fsum xs) := ⟨fsum_bd _⟩
theorem aF_abs {x : Int} [a : I6 x] : Calls Try.prog 44 #[.int .i64 x] w (RetV w (.int .i64 (fabs x))) := retSame (fix_abs x w a.bd)
set_option maxRecDepth 100000 in
set_option maxHeartbeats 4000000 in
theorem op_norm [a : Ts w A n ts] (hn : n ≤ 1000000) (hz : Hid (Mo ts)) : Calls Try.prog 45 #[.slice A n c] w (RetV w (.int .i64 (normI ts))) := by
  have CB := @cell_bx
  have CP := @cell_prev
  have HL := Lib.hid a.len
  go_enter Try.func45, Try.ntmps45
  go_wp2_with fail
  go_loopw [3, 10] (fun s i wr => ∃ (k : Nat) (S : Int), k ≤ n ∧ i = .int .i64 k ∧ s = .int .i64 S ∧ Hid (fsum (((ts.take k).flatMap Tn.xs).map fabs) = S) ∧ Prev wr w) (fun _ i _ => n - (intOf i).toNat)
  case atStart => exact ⟨0, 0, Nat.zero_le _, rfl, rfl, Lib.hid rfl, prev_bel _ _⟩
  case round =>
    obtain ⟨k, S, hk, rfl, rfl, HS, hp⟩ := hrel
    by_cases hlt : k < n
    · obtain ⟨b, o, A1, c1, z1, B1, d1, x1, rfl, ob, q0, q1, s1, t1, hd1, i1, ht⟩ := a.get hlt
      obtain ⟨l1, l2⟩ := hz.out _ (List.mem_of_getElem? ht.out)
      simp only at l1 l2
      have HN := Lib.hid (normI_next ht.out)
      have HT0 : Hid (fsum (((ts.take k).flatMap Tn.xs ++ x1.take 0).map fabs) = S) := Lib.hid (by simpa using HS.out)
      go_wp2_with fail
      go_loopw [3, 17] (fun s i wr' => ∃ (j : Nat) (T : Int), j ≤ x1.length ∧ i = .int .i64 j ∧ s = .int .i64 T ∧ Hid (fsum (((ts.take k).flatMap Tn.xs ++ x1.take j).map fabs) = T) ∧ Prev wr' wr) (fun _ i _ => x1.length - (intOf i).toNat)
      case atStart => exact ⟨0, S, Nat.zero_le _, rfl, rfl, HT0, prev_bel _ _⟩
      case round =>
        obtain ⟨j, T, hj, rfl, rfl, HT, hp'⟩ := hrel
        have iT : I6 T := ⟨by rw [← HT.out]; exact fsum_bd _⟩
        by_cases hlt2 : j < x1.length
        · obtain ⟨b2, o2, z, rfl, ob2, cz, hz2⟩ := t1.get hlt2
          have iz : I6 z := i1.at hz2.out
          have HS' : Hid (fsum (((ts.take k).flatMap Tn.xs ++ x1.take (j + 1)).map fabs) = fadd T (fabs z)) := Lib.hid (by rw [← HT.out]; exact (normI_zero hz2.out).symm)
          go_wp2_with (first | (go_at_call 44; (try first | (with_reducible refine gen_boxK3 (fun u _ _ _ _ => ?_)) | (with_reducible refine gen_boxK2 (fun u _ _ _ => ?_)) | (with_reducible refine gen_boxK (fun u _ _ => ?_))); (with_reducible refine (aF_abs).mono ?_); rintro e u ⟨rfl, _⟩) | (go_at_call 67; (try first | (with_reducible refine gen_boxK3 (fun u _ _ _ _ => ?_)) | (with_reducible refine gen_boxK2 (fun u _ _ _ => ?_)) | (with_reducible refine gen_boxK (fun u _ _ => ?_))); (with_reducible refine (aF_add).mono ?_); rintro e u ⟨rfl, _⟩))
          go_roundw
          case rel => exact ⟨j + 1, _, by omega, by go_num, rfl, HS', prev_bel _ _⟩
          case measure => simp [intOf]; omega
        · have HJ : Hid (fsum (((ts.take (k + 1)).flatMap Tn.xs).map fabs) = T) := Lib.hid (by rw [← HT.out, ← HN.out, show j = x1.length from by omega])
          go_wp2_with fail
          go_roundw
          case rel => exact ⟨k + 1, T, by omega, by go_num, rfl, HJ, prev_bel _ _⟩
          case measure => simp [intOf]; omega
    · have HT : Hid (normI ts = S) := Lib.hid (by rw [← HS.out, List.take_of_length_le (by rw [← HL.out]; omega)]; rfl)
      go_wp2_with fail
      go_ret
      exact ⟨by rw [HT.out]; rfl, prev_bel _ _⟩
set_option maxRecDepth 100000 in
set_option maxHeartbeats 4000000 in
theorem op_sright [a : Ts w A n ts] [b : Ts w B m us] (hn : n ≤ 1000000) (hm : m ≤ 1000000) (hz : Hid (Mo ts)) (hz' : Hid (Mo us)) : Calls Try.prog 39 #[.agg #[.slice A n c, .slice B m d]] w (RetV w (.bool (alikeTB ts us))) := by
  have CB := @cell_bx
  have CP := @cell_prev
  go_enter Try.func39, Try.ntmps39
  go_wp2_with (first | (go_at_call 65; (try first | (with_reducible refine gen_boxK3 (fun u _ _ _ _ => ?_)) | (with_reducible refine gen_boxK2 (fun u _ _ _ => ?_)) | (with_reducible refine gen_boxK (fun u _ _ => ?_))); (with_reducible refine (op_alike (by omega) (by omega) hz hz').mono ?_); rintro e u ⟨rfl, _⟩))
  go_ret
  exact ⟨rfl, prev_bel _ _⟩
set_option maxRecDepth 100000 in
set_option maxHeartbeats 4000000 in
theorem op_sequal {C D : Option Addr} {n' m' c' d' : Nat} {ts' us' : List Tn} [a : Ts w A n ts] [b : Ts w B m us] [a' : Ts w C n' ts'] [b' : Ts w D m' us'] (hn : n ≤ 1000000) (hm : m ≤ 1000000) (hn' : n' ≤ 1000000) (hm' : m' ≤ 1000000) (hz : Hid (Mo ts)) (hz' : Hid (Mo us)) (hy : Hid (Mo ts')) (hy' : Hid (Mo us')) :
    Calls Try.prog 38 #[.agg #[.slice A n c, .slice B m d], .agg #[.slice C n' c', .slice D m' d']] w (RetV w (.bool (sameB ts ts' && sameB us us'))) := by
  have CB := @cell_bx
  have CP := @cell_prev
  rcases h1 : sameB ts ts' with _ | _
  · go_enter Try.func38, Try.ntmps38
    go_wp2_with (first | (go_at_call 72; (try first | (with_reducible refine gen_boxK3 (fun u _ _ _ _ => ?_)) | (with_reducible refine gen_boxK2 (fun u _ _ _ => ?_)) | (with_reducible refine gen_boxK (fun u _ _ => ?_))); (with_reducible refine (op_same (by omega) (by omega) hz hy).mono ?_); rintro e u ⟨rfl, _⟩))
    go_ret
    exact ⟨rfl, prev_bel _ _⟩
  · go_enter Try.func38, Try.ntmps38
    go_wp2_with (first | (go_at_call 72; (try first | (with_reducible refine gen_boxK3 (fun u _ _ _ _ => ?_)) | (with_reducible refine gen_boxK2 (fun u _ _ _ => ?_)) | (with_reducible refine gen_boxK (fun u _ _ => ?_))); (with_reducible refine (op_same (by omega) (by omega) hz hy).mono ?_); rintro e u ⟨rfl, _⟩) | (go_at_call 72; (try first | (with_reducible refine gen_boxK3 (fun u _ _ _ _ => ?_)) | (with_reducible refine gen_boxK2 (fun u _ _ _ => ?_)) | (with_reducible refine gen_boxK (fun u _ _ => ?_))); (with_reducible refine (op_same (by omega) (by omega) hz' hy').mono ?_); rintro e u ⟨rfl, _⟩))
    go_ret
    exact ⟨rfl, prev_bel _ _⟩
/-- Two rows of tensors of the call's own that share nothing. -/
structure CB2 (w : World) (lo G1 n : Nat) (ps : List Cp) (G2 m : Nat) (qs : List Cp) : Prop where
  l : CBk w lo G1 n ps
  r : CBk w lo G2 m qs
  ne : ∀ p ∈ ps, ∀ q ∈ qs, p.g' ≠ q.g'
/-- A state in memory of the call's own. -/
def RetSC (w : World) (ts us : List Tn) (n m : Nat) (e : Ending) (w' : World) : Prop :=
  ∃ G1 ps G2 qs, e = .returned (.agg #[.slice (some ⟨G1, 0, none⟩) n n, .slice (some ⟨G2, 0, none⟩) m m]) ∧ CB2 w' w.heap.size G1 n ps G2 m qs ∧ Hid (CPs ts ps) ∧ Hid (CPs us qs) ∧ Prev w' w
set_option maxRecDepth 100000 in
set_option maxHeartbeats 4000000 in
theorem op_scopy [a : Ts w A n ts] [b : Ts w B m us] (hn : n ≤ 1000000) (hm : m ≤ 1000000) (hz : Hid (Mo ts)) (hz' : Hid (Mo us)) : Calls Try.prog 36 #[.agg #[.slice A n c, .slice B m d]] w (RetSC w ts us n m) := by
  have CB := @cell_bx
  have CP := @cell_prev
  have FB := @frozen_bx
  go_enter Try.func36, Try.ntmps36
  go_wp2_with fail
  refine wp_region_upR w (fun w9 => Bx w9 w.heap.size 70 #[.slice A n c, .slice B m d]) (by kernel_rfl) inferInstance (fun ux _ => ?_)
  refine wpAnyH_on (i := 0) (d := 3) (v := ?_) rfl rfl (by kernel_rfl) (by kernel_rfl) (by kernel_rfl) (fun _ _ _ h => h) (by kernel_rfl) ⟨prev_bel _ _, inferInstance⟩ ?_ ?_
  rotate_left
  · rintro uu ⟨pu, r1⟩
    go_simp
    try (with_reducible rfl)
  try simp only [List.set]
  refine wpAnyH_on (i := 1) (d := 4) (v := ?_) rfl rfl (by kernel_rfl) (by kernel_rfl) (by kernel_rfl) (fun _ _ _ h => h) (by kernel_rfl) ⟨prev_bel _ _, inferInstance⟩ ?_ ?_
  rotate_left
  · rintro uu ⟨pu, r1⟩
    go_simp
    try (with_reducible rfl)
  try simp only [List.set]
  refine wpAnyH_on (i := 3) (d := 6) (v := ?_) rfl rfl (by kernel_rfl) (by kernel_rfl) (by kernel_rfl) (fun _ _ _ h => h) (by kernel_rfl) ⟨prev_bel _ _, inferInstance⟩ ?_ ?_
  rotate_left
  · rintro uu ⟨pu, r1⟩
    go_simp
    try (with_reducible rfl)
  try simp only [List.set]
  refine wpAnyH_on (i := 4) (d := 7) (v := ?_) rfl rfl (by kernel_rfl) (by kernel_rfl) (by kernel_rfl) (fun _ _ _ h => h) (by kernel_rfl) ⟨prev_bel _ _, inferInstance⟩ ?_ ?_
  rotate_left
  · rintro uu ⟨pu, r1⟩
    go_simp
    try (with_reducible rfl)
  try simp only [List.set]
  refine wpAnyH_ready (rs := [2]) (by kernel_rfl) (by simp) ?_
  refine AllReadyH.cons rfl (fun K hK => ?_) AllReadyH.nil
  go_simp
  (with_reducible refine (op_copies (by omega) hz).mono ?_)
  rintro e ux ⟨G1, ps, rfl, c1, H1, _⟩
  dsimp only
  refine hK.out _ _ ⟨prev_bel w _, inferInstance⟩ (fun hHeld => ?_)
  clear hHeld hK K
  try dsimp only [Act.put, List.setIfInBounds_toArray, List.set_cons_zero, List.set_cons_succ]
  refine wpAnyH_ready (rs := [5]) (by kernel_rfl) (by simp) ?_
  refine AllReadyH.cons rfl (fun K hK => ?_) AllReadyH.nil
  obtain ⟨ua, rfl⟩ : ∃ ua : World, ua = ux := ⟨_, rfl⟩
  go_simp
  (with_reducible refine (op_copies (by omega) hz').mono ?_)
  rintro e ux ⟨G2, qs, rfl, c2, H2, _⟩
  dsimp only
  refine hK.out _ _ ⟨prev_bel w _, inferInstance⟩ (fun hHeld => ?_)
  clear hHeld hK K
  try dsimp only [Act.put, List.setIfInBounds_toArray, List.set_cons_zero, List.set_cons_succ]
  refine wpAnyH_on (i := 6) (d := 9) (v := ?_) rfl rfl (by kernel_rfl) (by kernel_rfl) (by kernel_rfl) (fun _ _ _ h => h) (by kernel_rfl) ⟨prev_bel _ _, inferInstance⟩ ?_ ?_
  rotate_left
  · rintro uu ⟨pu, r1⟩
    go_simp
    try (with_reducible rfl)
  try simp only [List.set]
  refine wpAnyH_ready (rs := [7]) (by kernel_rfl) (by simp) ?_
  refine AllReadyH.cons rfl (fun K hK => ?_) AllReadyH.nil
  have sz : (World.heap w).size ≤ (World.heap ua).size := later_size
  go_simp
  obtain ⟨u8, hu8⟩ : ∃ W : World, W = (ux.setCell ⟨w.heap.size + 1, 0, none⟩ (.slice (some ⟨G1, 0, none⟩) n n)).setCell ⟨w.heap.size + 1, 1, none⟩ (.slice (some ⟨G2, 0, none⟩) m m) := ⟨_, rfl⟩
  rw [← hu8]
  have Bu8 : Below (World.heap w).size w u8 := by rw [hu8]; exact bset2 (bel w ux) (Nat.le_succ _) _ _
  have Su8 : ∀ b, b < ux.heap.size → b ≠ w.heap.size + 1 → (World.heap u8)[b]? = ux.heap[b]? := fun b _ hb => by rw [hu8]; exact (Below.heap_setCell _ ⟨w.heap.size + 1, 1, none⟩ _ b hb).trans (Below.heap_setCell _ ⟨w.heap.size + 1, 0, none⟩ _ b hb)
  have Ku8 : Bx u8 (w.heap.size + 1) _ #[.slice (some ⟨G1, 0, none⟩) n n, .slice (some ⟨G2, 0, none⟩) m m] := ⟨by rw [hu8]; exact Blk.set2 (Bx.blk (w := ux) (g := w.heap.size + 1)) _ _⟩
  have q1 := ((c1.less (lo' := w.heap.size) later_size).at (w' := ux)).farT (Bx.blk (w := ux) (g := w.heap.size + 1)) (by decide) (by decide) (by decide) Su8
  have q2 := (c2.less (lo' := w.heap.size) sz).farT (Bx.blk (w := ux) (g := w.heap.size + 1)) (by decide) (by decide) (by decide) Su8
  have K7 : Bx u8 w.heap.size 70 #[.slice A n c, .slice B m d] := ⟨(Su8 _ (Bx.blk (w := ux) (g := w.heap.size)).lt (by simp)).trans (Bx.blk (w := ux))⟩
  have NE : ∀ p ∈ ps, ∀ q ∈ qs, p.g' ≠ q.g' := fun p hp q hq => Nat.ne_of_lt (Nat.lt_of_lt_of_le (c1.old hp).2 (c2.el q hq).2.2.2)
  refine hK.out _ _ ⟨⟨Bu8⟩, K7⟩ (fun hHeld => ?_)
  clear hHeld hK K hu8
  try dsimp only [Act.put, List.setIfInBounds_toArray, List.set_cons_zero, List.set_cons_succ]
  refine wpAnyH_done (by kernel_rfl) ?_ _
  go_wp2_with fail
  refine bodyPost_ret (v := .agg #[.slice (some ⟨G1, 0, none⟩) n n, .slice (some ⟨G2, 0, none⟩) m m]) (by simp [results, Try.results36, go_sem, CB]) rfl ?_
  exact ⟨G1, ps, G2, qs, rfl, ⟨q1, q2, NE⟩, H1, H2, ⟨Bu8⟩⟩
end

end Go.Proofs.Ytphcffcecncngaa
