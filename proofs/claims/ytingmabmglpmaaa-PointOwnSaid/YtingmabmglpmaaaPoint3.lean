/- point.Go. -/
import Derived.Test.YtingmabmglpmaaaPoint2
import Derived.Test.YtingmabmglpmaaaDenseMath
namespace Go.Proofs.Ytingmabmglpmaaa
open Go.RowKit

def xs0 (ts : List Tn) : List Int := (ts[0]?.map (·.xs)).getD []
/-- The first m cells of the answer. -/
def goL (kind k : Int) (ts : List Tn) (m : Nat) : List Int := (List.range m).map fun i => cellF kind k ((xs0 ts).getD i 0) (sec ts i)
theorem goL_length (kind k : Int) (ts : List Tn) (m : Nat) : (goL kind k ts m).length = m := by simp [goL]
theorem goL_succ (kind k : Int) (ts : List Tn) (m : Nat) : goL kind k ts (m + 1) = goL kind k ts m ++ [cellF kind k ((xs0 ts).getD m 0) (sec ts m)] := by simp [goL, List.range_succ]
/-- What 'no error' says. -/
theorem good_nat {kind : Int} {ts : List Tn} (h : goodE kind ts = 0) : 1 ≤ ts.length ∧ ts.length ≤ 2 ∧ (ts.length : Int) = insN kind ∧ ∀ t ∈ ts, tRightB t.zs t.xs = true ∧ t.zs = zs0 ts := by
  unfold goodE at h
  split at h
  · omega
  · split at h
    · split at h
      · rename_i h0 h1 h2
        rw [List.all_eq_true] at h2
        refine ⟨?_, ?_, h1, fun t ht => ?_⟩
        · rcases insN_cases kind with h | h | h <;> omega
        · rcases insN_cases kind with h | h | h <;> omega
        · have := h2 t ht
          simpa [okT] using this
      · omega
    · omega
theorem right_len {zs xs : List Int} (h : tRightB zs xs = true) : xs.length ≤ 65536 ∧ 1 ≤ xs.length ∧ zs.length ≤ 4 := by
  obtain ⟨h1, h2⟩ := (tRightB_iff _ _).1 h
  obtain ⟨n, hn, h3, h4⟩ := rightB_size h1
  obtain ⟨_, h5, _, _⟩ := (rightB_iff _).1 h1
  omega
theorem same_len {zs xs ys : List Int} (h : tRightB zs xs = true) (h' : tRightB zs ys = true) : xs.length = ys.length := by
  have h1 := ((tRightB_iff _ _).1 h).2
  have h2 := ((tRightB_iff _ _).1 h').2
  omega
theorem xs0_len {kind : Int} {ts : List Tn} (h : goodE kind ts = 0) {t : Tn} (ht : t ∈ ts) : t.xs.length = (xs0 ts).length := by
  obtain ⟨h1, -, -, hall⟩ := good_nat h
  obtain ⟨t0, ht0⟩ : ∃ t0, ts[0]? = some t0 := ⟨_, List.getElem?_eq_getElem (by omega)⟩
  have a := hall t ht
  have b := hall t0 (List.mem_of_getElem? ht0)
  have e : xs0 ts = t0.xs := by simp [xs0, ht0]
  rw [e]
  exact same_len (a.2 ▸ a.1) (b.2 ▸ b.1)
theorem sec_i6 {w : World} {A : Option Addr} {ts : List Tn} (h : TRd w A ts) (i : Nat) : I6 (sec ts i) := by
  unfold sec
  cases e : ts[1]? with
  | none => exact (inferInstance : I6 0)
  | some t =>
    simp only [Option.map_some, Option.getD_some, List.getD_eq_getElem?_getD]
    cases e2 : t.xs[i]? with
    | none => exact (inferInstance : I6 0)
    | some z =>
      obtain ⟨_, _, _, k⟩ := h 1 t e
      exact ⟨k.bd z (List.mem_of_getElem? e2)⟩

section
variable {w : World} {A : Option Addr} {n c : Nat} {ts : List Tn} {kind kk : Int}
set_option maxRecDepth 100000 in
set_option maxHeartbeats 2000000 in
theorem pt_go_no [a : Ts w A n ts] (hz : Hid (∀ t ∈ ts, t.zs.length ≤ 1000000)) {E : Int} (hE : goodE kind ts = E) (h0 : (E != 0) = true) : Calls Try.prog 30 #[.int .i64 kind, .int .i64 kk, .slice A n c] w (RetTS w [] [] E) := by
  have CB := @cell_bx
  have FB := @frozen_bx
  go_enter Try.func30, Try.ntmps30
  go_wp2_with (first | (go_at_call 51; (try first | (with_reducible refine gen_boxK3 (fun u _ _ _ _ => ?_)) | (with_reducible refine gen_boxK2 (fun u _ _ _ => ?_)) | (with_reducible refine gen_boxK (fun u _ _ => ?_))); (with_reducible refine (pt_agree hz).mono ?_); rintro e u ⟨rfl, _⟩))
  have kR : Bx u w.heap.size 26 #[.slice none 0 0, .slice none 0 0] := inferInstance
  have k3 := kR.blk.set2 (.slice none 0 0) (.slice none 0 0)
  have B3 := bset2 (bel w u) (p := w.heap.size) (Nat.le_refl _) (.slice none 0 0) (.slice none 0 0)
  obtain ⟨r0, r1⟩ := box2 k3
  refine bodyPost_ret (v := .tuple #[.agg #[.slice none 0 0, .slice none 0 0], .int .i64 E]) (by simp [results, Try.results30, go_sem, r0, r1]) rfl ?_
  exact ⟨none, 0, none, 0, rfl, Sl.empty, Sl.empty, Nat.le_refl _, ⟨B3⟩⟩

set_option maxRecDepth 100000 in
set_option maxHeartbeats 4000000 in
theorem pt_go_yes [a : Ts w A n ts] [I6 kk] (hz : Hid (∀ t ∈ ts, t.zs.length ≤ 1000000)) (hE : goodE kind ts = 0) {Z X : List Int} (hZ : Hid (Z = zs0 ts)) (hX : Hid (X = goL kind kk ts (xs0 ts).length)) : Calls Try.prog 30 #[.int .i64 kind, .int .i64 kk, .slice A n c] w (RetTS w Z X 0) := by
  have CB := @cell_bx
  have FB := @frozen_bx
  have CP := @cell_prev
  obtain ⟨hn1, hn2, -, hall⟩ := good_nat hE
  rw [← a.len] at hn1 hn2
  obtain ⟨b, o, A0, c0, z0, B0, d0, x0, rfl, ob, q0, q1, s0, t0, hd0, i0, ht0⟩ := a.get (k := 0) hn1
  simp only [Nat.zero_mul, Nat.add_zero] at q0 q1
  have hr0 := (hall _ (List.mem_of_getElem? ht0.out)).1
  obtain ⟨lx, lx1, lz⟩ := right_len hr0
  simp only at lx lx1 lz
  have HX0 : Hid (xs0 ts = x0) := Lib.hid (by simp [xs0, ht0.out])
  have HZ0 : Hid (zs0 ts = z0) := Lib.hid (by simp [zs0, ht0.out])
  have HS : Hid (∀ i, i < x0.length → ∀ t, ts[1]? = some t → i < t.xs.length) := Lib.hid fun i hi t ht => by
    rw [xs0_len hE (List.mem_of_getElem? ht), HX0.out]; exact hi
  have HI := Lib.hid fun i => sec_i6 a.rd i
  clear hall hr0
  go_enter Try.func30, Try.ntmps30
  go_wp2_with (first | (go_at_call 51; (try first | (with_reducible refine gen_boxK3 (fun u _ _ _ _ => ?_)) | (with_reducible refine gen_boxK2 (fun u _ _ _ => ?_)) | (with_reducible refine gen_boxK (fun u _ _ => ?_))); (with_reducible refine (pt_agree hz).mono ?_); rintro e u ⟨rfl, _⟩))
  refine (aT_copy (by omega) (by omega)).mono ?_
  rintro e w1 ⟨g, g', rfl, hg, hg', oS, oX, pw1⟩
  go_wp2_with fail
  have n1 : w1.heap.size ≠ g' := by have := oX.lt; omega
  have n2 : g ≠ g' := oS.ne_blk (cs := ints x0) oX (by decide)
  go_loopw [28] (fun i wr => ∃ k : Nat, k ≤ x0.length ∧ i = .int .i64 k ∧ Own wr g' 38 (upTo (goL kind kk ts) x0 k) ∧ Own wr g 3 z0 ∧ Bx wr w1.heap.size 26 #[.slice (some ⟨g, 0, none⟩) z0.length z0.length, .slice (some ⟨g', 0, none⟩) x0.length x0.length] ∧ Prev wr u) (fun i _ => x0.length - (intOf i).toNat)
  case atStart => exact ⟨0, Nat.zero_le _, rfl, by simpa [upTo, goL] using oX.at, oS.at, inferInstance, prev_bel _ _⟩
  case round =>
    obtain ⟨k, hk, rfl, hO, hS, hB, hp⟩ := hrel
    by_cases hlt : k < x0.length
    · obtain ⟨b2, o2, x, rfl, ob2, cx, hx⟩ := t0.get hlt
      have ix : I6 x := I6s.at hx.out
      have iy := HI.out k
      have hat := upTo_at (f := goL kind kk ts) (goL_length kind kk ts k) hx.out
      have HOS := Lib.hid (upTo_set (f := goL kind kk ts) (z := cellF kind kk x (sec ts k)) (goL_length kind kk ts k) (by rw [goL_succ, HX0.out, List.getD_eq_getElem?_getD, hx.out]; rfl) hx.out)
      have HSk := Lib.hid (HS.out k hlt)
      go_wp2_with fail
      refine wp_region_upR u (fun w9 => Bx w9 w1.heap.size 26 #[.slice (some ⟨g, 0, none⟩) z0.length z0.length, .slice (some ⟨g', 0, none⟩) x0.length x0.length]) (by kernel_rfl) inferInstance (fun ux _ => ?_)
      refine wpAnyH_on (i := 0) (d := 33) (v := ?_) rfl rfl (by kernel_rfl) (by kernel_rfl) (by kernel_rfl) (fun _ _ _ h => h) (by kernel_rfl) ⟨prev_bel _ _, inferInstance⟩ ?_ ?_
      rotate_left
      · rintro uu ⟨pu, r1⟩
        go_simp
        try (with_reducible rfl)
      try simp only [List.set]
      refine wpAnyH_on (i := 1) (d := 34) (v := ?_) rfl rfl (by kernel_rfl) (by kernel_rfl) (by kernel_rfl) (fun _ _ _ h => h) (by kernel_rfl) ⟨prev_bel _ _, inferInstance⟩ ?_ ?_
      rotate_left
      · rintro uu ⟨pu, r1⟩
        go_simp
        try (with_reducible rfl)
      try simp only [List.set]
      refine wpAnyH_on (i := 2) (d := 35) (v := ?_) rfl rfl (by kernel_rfl) (by kernel_rfl) (by kernel_rfl) (fun _ _ _ h => h) (by kernel_rfl) ⟨prev_bel _ _, inferInstance⟩ ?_ ?_
      rotate_left
      · rintro uu ⟨pu, r1⟩
        go_simp
        try (with_reducible rfl)
      try simp only [List.set]
      refine wpAnyH_on (i := 3) (d := 36) (v := ?_) rfl rfl (by kernel_rfl) (by kernel_rfl) (by kernel_rfl) (fun _ _ _ h => h) (by kernel_rfl) ⟨prev_bel _ _, inferInstance⟩ ?_ ?_
      rotate_left
      · rintro uu ⟨pu, r1⟩
        go_simp
        try (with_reducible rfl)
      try simp only [List.set]
      refine wpAnyH_on (i := 4) (d := 37) (v := ?_) rfl rfl (by kernel_rfl) (by kernel_rfl) (by kernel_rfl) (fun _ _ _ h => h) (by kernel_rfl) ⟨prev_bel _ _, inferInstance⟩ ?_ ?_
      rotate_left
      · rintro uu ⟨pu, r1⟩
        go_simp
        try (with_reducible rfl)
      try simp only [List.set]
      refine wpAnyH_on (i := 5) (d := 38) (v := ?_) rfl rfl (by kernel_rfl) (by kernel_rfl) (by kernel_rfl) (fun _ _ _ h => h) (by kernel_rfl) ⟨prev_bel _ _, inferInstance⟩ ?_ ?_
      rotate_left
      · rintro uu ⟨pu, r1⟩
        go_simp
        try (with_reducible rfl)
      try simp only [List.set]
      refine wpAnyH_on (i := 6) (d := 39) (v := ?_) rfl rfl (by kernel_rfl) (by kernel_rfl) (by kernel_rfl) (fun _ _ _ h => h) (by kernel_rfl) ⟨prev_bel _ _, inferInstance⟩ ?_ ?_
      rotate_left
      · rintro uu ⟨pu, r1⟩
        go_simp
        try (with_reducible rfl)
      try simp only [List.set]
      refine wpAnyH_on (i := 7) (d := 40) (v := ?_) rfl rfl (by kernel_rfl) (by kernel_rfl) (by kernel_rfl) (fun _ _ _ h => h) (by kernel_rfl) ⟨prev_bel _ _, inferInstance⟩ ?_ ?_
      rotate_left
      · rintro uu ⟨pu, r1⟩
        go_simp
        try (with_reducible rfl)
      try simp only [List.set]
      refine wpAnyH_ready (rs := [8]) (by kernel_rfl) (by simp) ?_
      refine AllReadyH.cons rfl (fun K hK => ?_) AllReadyH.nil
      go_simp
      (with_reducible refine (pt_second hn2 HSk).mono ?_)
      rintro e ux ⟨rfl, _⟩
      dsimp only
      refine hK.out _ _ ⟨prev_bel u _, inferInstance⟩ (fun hHeld => ?_)
      clear hHeld hK K
      try dsimp only [Act.put, List.setIfInBounds_toArray, List.set_cons_zero, List.set_cons_succ]
      refine wpAnyH_ready (rs := [9]) (by kernel_rfl) (by simp) ?_
      refine AllReadyH.cons rfl (fun K hK => ?_) AllReadyH.nil
      go_simp
      (with_reducible refine (pt_cell).mono ?_)
      rintro e ux ⟨rfl, _⟩
      dsimp only
      refine hK.out _ _ ⟨prev_bel u _, inferInstance⟩ (fun hHeld => ?_)
      clear hHeld hK K
      try dsimp only [Act.put, List.setIfInBounds_toArray, List.set_cons_zero, List.set_cons_succ]
      refine wpAnyH_on (i := 10) (d := 43) (v := ?_) rfl rfl (by kernel_rfl) (by kernel_rfl) (by kernel_rfl) (fun _ _ _ h => h) (by kernel_rfl) ⟨prev_bel _ _, inferInstance⟩ ?_ ?_
      rotate_left
      · rintro uu ⟨pu, r1⟩
        go_simp
        try (with_reducible rfl)
      try simp only [List.set]
      refine wpAnyH_ready (rs := [11]) (by kernel_rfl) (by simp) ?_
      refine AllReadyH.cons rfl (fun K hK => ?_) AllReadyH.nil
      have hcg := ((hO).at (w' := ux)).cell hat
      have hfg := ((hO).at (w' := ux)).frozen k
      go_simp
      refine hK.out _ _ ⟨⟨(bel u ux).setCell (p := ⟨g', k, none⟩) hg' _⟩, ⟨(Bx.blk (w := ux)).far n1 _⟩⟩ (fun hHeld => ?_)
      clear hHeld hK K hcg hfg
      try dsimp only [Act.put, List.setIfInBounds_toArray, List.set_cons_zero, List.set_cons_succ]
      refine wpAnyH_done (by kernel_rfl) ?_ _
      go_wp2_with fail
      go_roundw
      case rel =>
        have o2 := (hO.at (w' := ux)).set_ k (cellF kind kk x (sec ts k))
        rw [HOS.out] at o2
        exact ⟨k + 1, by omega, by go_num, o2, (hS.at (w' := ux)).far n2 _, ⟨(Bx.blk (w := ux)).far n1 _⟩, ⟨(bel u ux).setCell (p := ⟨g', k, none⟩) hg' _⟩⟩
      case measure => simp [intOf]; omega
    · rw [upTo_all hlt] at hO
      obtain rfl : k = x0.length := by omega
      have HO := Lib.hid hO
      clear hO
      have kR : Bx wr w.heap.size 26 #[.slice none 0 0, .slice none 0 0] := inferInstance
      have l1 := hS.ne_blk kR.blk (by decide)
      have l2 := HO.out.ne_blk kR.blk (by decide)
      go_wp2_with fail
      have k3 := kR.blk.set2 (.slice (some ⟨g, 0, none⟩) z0.length z0.length) (.slice (some ⟨g', 0, none⟩) x0.length x0.length)
      have B3 := bset2 (bel w wr) (p := w.heap.size) (Nat.le_refl _) (.slice (some ⟨g, 0, none⟩) z0.length z0.length) (.slice (some ⟨g', 0, none⟩) x0.length x0.length)
      have o3 := hS.far2 l1 (.slice (some ⟨g, 0, none⟩) z0.length z0.length) (.slice (some ⟨g', 0, none⟩) x0.length x0.length)
      have o4 := HO.out.far2 l2 (.slice (some ⟨g, 0, none⟩) z0.length z0.length) (.slice (some ⟨g', 0, none⟩) x0.length x0.length)
      obtain ⟨r0, r1⟩ := box2 k3
      refine bodyPost_ret (v := .tuple #[.agg #[.slice (some ⟨g, 0, none⟩) z0.length z0.length, .slice (some ⟨g', 0, none⟩) x0.length x0.length], .int .i64 0]) (by simp [results, Try.results30, go_sem, r0, r1]) rfl ?_
      rw [hX.out, hZ.out, HX0.out, HZ0.out]
      exact ⟨_, _, _, _, by rw [goL_length], ⟨o3.rd, rfl⟩, ⟨o4.rd, rfl⟩, by rw [goL_length]; exact Nat.le_refl _, ⟨B3⟩⟩
end

end Go.Proofs.Ytingmabmglpmaaa
