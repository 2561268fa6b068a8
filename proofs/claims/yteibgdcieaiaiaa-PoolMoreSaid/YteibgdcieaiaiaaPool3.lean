/- pool.Go. -/
import Derived.Test.YteibgdcieaiaiaaPool2
import Derived.Test.YteibgdcieaiaiaaFixDiv
import Derived.Test.YteibgdcieaiaiaaDenseMath
namespace Go.Proofs.Yteibgdcieaiaiaa
open Go.RowKit

instance I6.fint {n : Int} : I6 (fint n) := ⟨fint_bd n⟩
instance I6.fsum {l : List Int} : I6 (fsum l) := ⟨fsum_bd l⟩
instance I6.div {x y : Int} [a : I6 x] [b : I6 y] : I6 (fdiv x y) := ⟨fdiv_bd a.bd b.bd⟩
theorem I6s.part {xs : List Int} (h : I6s xs) (F W : Nat) : I6s ((xs.drop F).take W) := ⟨fun z hz => h.bd z (List.mem_of_mem_drop (List.mem_of_mem_take hz))⟩
section
variable {w : World} {A B : Option Addr} {n m c d : Nat} {zs xs : List Int}
theorem aF_sum [a : Sl w A n xs] [i : I6s xs] (hn : n ≤ 1000000) : Calls Try.prog 64 #[.slice A n c] w (RetV w (.int .i64 (fsum xs))) := by
  obtain ⟨a, rfl⟩ := a
  exact retSame (fix_sum A c xs w hn i.hid a)
theorem aF_int {n : Int} : Calls Try.prog 66 #[.int .i64 n] w (RetV w (.int .i64 (fint n))) := retSame (fix_int n w)
theorem aF_div {x y : Int} [a : I6 x] [b : I6 y] : Calls Try.prog 65 #[.int .i64 x, .int .i64 y] w (RetV w (.int .i64 (fdiv x y))) := retBel (fix_div x y w a.bd b.bd)
/-- A tensor that is made: two rows of the call's own. -/
def RetMO (w : World) (zs xs : List Int) (n m : Nat) (e : Ending) (w' : World) : Prop :=
  ∃ g g', e = .returned (.tuple #[.agg #[.slice (some ⟨g, 0, none⟩) n n, .slice (some ⟨g', 0, none⟩) m m], .int .i64 0]) ∧ w.heap.size ≤ g ∧ w.heap.size ≤ g' ∧ Own w' g 3 zs ∧ Own w' g' 56 xs ∧ Prev w' w
theorem aT_makeO [a : Sl w A n zs] (hn : n ≤ 1000000) {fill : Int} (hr : rightB zs = true) (hp : Hid (prodL zs = (m : Int))) : Calls Try.prog 30 #[.slice A n c, .int .i64 fill] w (RetMO w zs (List.replicate m fill) n m) := by
  obtain ⟨a, rfl⟩ := a
  exact (t_make_row A c zs fill m w hn a (Lib.hid hr) hp).mono fun _ _ ⟨g, g', he, h1, h2, o1, o2, hb⟩ => ⟨g, g', by rw [he, List.length_replicate], h1, h2, o1, o2, ⟨hb⟩⟩
end
section
variable {w : World} {A B : Option Addr} {n m c d : Nat} {zs xs : List Int}
set_option maxRecDepth 100000 in
set_option maxHeartbeats 2000000 in
theorem pl_go_no [a : Sl w A n zs] [b : Sl w B m xs] (hn : n ≤ 1000000) {kind W S : Int} {E : Int} (hE : Hid (agE kind zs xs W S = E)) (h0 : (E != 0) = true) :
    Calls Try.prog 36 #[.int .i64 kind, .agg #[.slice A n c, .slice B m d], .int .i64 W, .int .i64 S] w (RetTA w [] [] E) := by
  have CB := @cell_bx
  have CP := @cell_prev
  have FB := @frozen_bx
  have hV : Hid (agV kind zs xs W S = []) := Lib.hid (by rw [agV, hE.out, if_neg (by simpa using h0)])
  go_enter Try.func36, Try.ntmps36
  go_wp2_with (first | (go_at_call 62; (try first | (with_reducible refine gen_boxK3 (fun u _ _ _ _ => ?_)) | (with_reducible refine gen_boxK2 (fun u _ _ _ => ?_)) | (with_reducible refine gen_boxK (fun u _ _ => ?_))); (with_reducible refine (pl_agree (by omega) hE hV).mono ?_); rintro e u ⟨A', c', rfl, sJ, lJ, fJ, _⟩))
  have kR : Bx u (w.heap.size + 1) 34 #[.slice none 0 0, .slice none 0 0] := inferInstance
  have k3 := kR.blk.set2 (.slice none 0 0) (.slice none 0 0)
  have B3 := bset2 (bel w u) (p := w.heap.size + 1) (by omega) (.slice none 0 0) (.slice none 0 0)
  obtain ⟨r0, r1⟩ := box2 k3
  refine bodyPost_ret (v := .tuple #[.agg #[.slice none 0 0, .slice none 0 0], .int .i64 E]) (by simp [results, Try.results36, go_sem, r0, r1]) rfl ?_
  exact ⟨none, 0, none, 0, rfl, Sl.empty, Sl.empty, ⟨Nat.le_refl _⟩, ⟨Nat.le_refl _⟩, Fre.none, Fre.none, ⟨B3⟩⟩
theorem pl_bestH [a : Sl w A n zs] (hn : n ≤ 1000000) {b : Nat} (hb : Hid (bestI zs = (b : Int))) : Calls Try.prog 44 #[.slice A n c] w (RetV w (.int .i64 b)) := retV_of (pl_best hn) (by rw [hb.out])
theorem cell_part {b off F : Nat} [s : Sl w (some ⟨b, off, none⟩) m xs] {k : Nat} {z : Int} (h : xs[F + k]? = some z) : w.cell? ⟨b, off + F + k, none⟩ = some (.int .i64 z) := by
  rw [Nat.add_assoc]; exact s.rd.all h
set_option maxRecDepth 100000 in
set_option maxHeartbeats 4000000 in
theorem pl_go_yes [a : Sl w A n zs] [b : Sl w B m xs] [i6 : I6s xs] [ld : Le m d] (hn : n ≤ 1000000) {kind : Int} {R Z nn W S : Nat} {V X : List Int} (hr : tRightB zs xs = true) (hk : kind = 1 ∨ kind = 2) (HP : Hid (PW zs V R Z nn W S)) (hX : Hid (X = poolL (poolV kind W) xs Z nn S W (R * nn))) :
    Calls Try.prog 36 #[.int .i64 kind, .agg #[.slice A n c, .slice B m d], .int .i64 W, .int .i64 S] w (RetTA w V X 0) := by
  have CB := @cell_bx
  have CP := @cell_prev
  have FB := @frozen_bx
  have FP := @frozen_prev
  have hE : Hid (agE kind zs xs W S = 0) := Lib.hid (by rw [agE, if_neg (by omega), if_pos hr, HP.out.none])
  have hV : Hid (agV kind zs xs W S = V) := Lib.hid (by rw [agV, hE.out, if_pos rfl, HP.out.pl])
  have hVr := HP.out.vright
  have hVl : V.length = zs.length := by rw [HP.out.v, List.length_set]
  obtain ⟨M, hM⟩ : ∃ M, R * nn = M := ⟨_, rfl⟩
  have hVS : Hid (prodL V = (M : Int)) := Lib.hid (by rw [HP.out.vsize, hM])
  have hxl : xs.length = R * Z := by have h1 := ((tRightB_iff _ _).1 hr).2; rw [HP.out.size] at h1; omega
  have hM6 : M ≤ 65536 := by
    have := Nat.mul_le_mul_left R HP.out.nZ
    have := HP.out.small
    omega
  have hm6 : m ≤ 65536 := by rw [b.len, hxl]; exact HP.out.small
  have hm1 : 0 < m := by rw [b.len, hxl]; exact Nat.mul_pos HP.out.R1 (Nat.le_trans HP.out.n1 HP.out.nZ)
  have han := a.len
  obtain ⟨k, hk0⟩ : ∃ k, zs.length - 1 = k := ⟨_, rfl⟩
  have hkz : k < zs.length := by have := HP.out.len; omega
  have hZk : Hid (zs[k]? = some (Z : Int)) := Lib.hid (by rw [← hk0]; exact HP.out.at_)
  have hVk : Hid (V[k]? = some (nn : Int)) := Lib.hid (by rw [HP.out.v, hk0, List.getElem?_set_self hkz])
  have mk : IntKind.i64.wrap ((V.length : Int) - 1) = (k : Int) := by rw [hVl, show (zs.length : Int) - 1 = (k : Int) from by omega]; exact IntWalk.i64_in _ (by omega)
  have hn1 := HP.out.n1
  have hn2 : nn ≤ 1024 := Nat.le_trans HP.out.nZ HP.out.Z2
  have hW1 := HP.out.W1
  have hkV : k < V.length := by omega
  have hV6 : V.length ≤ 1000000 := by rw [hVl, ← a.len]; exact hn
  have HXL := Lib.hid hxl
  have HM := Lib.hid hM
  have hmd := ld.le
  have hkn : k < n := by rw [a.len]; exact hkz
  obtain ⟨bz, oz, z, rfl, obz, cz, hz⟩ := a.get hkn
  obtain rfl : z = (Z : Int) := by have h1 := hz.out; rw [hZk.out] at h1; injection h1 with h1; exact h1.symm
  obtain ⟨bx, ox, x0, rfl, obx, -, -⟩ := b.get hm1
  have hk2 : k < 1000000 := by omega
  clear hz hk0 hxl hM hVl hkz han
  go_enter Try.func36, Try.ntmps36
  go_wp2_with (first | (go_at_call 62; (try first | (with_reducible refine gen_boxK3 (fun u _ _ _ _ => ?_)) | (with_reducible refine gen_boxK2 (fun u _ _ _ => ?_)) | (with_reducible refine gen_boxK (fun u _ _ => ?_))); (with_reducible refine (pl_agree (by omega) hE hV).mono ?_); rintro e u ⟨A', c', rfl, sJ, lJ, fJ, _⟩))
  obtain ⟨bs, os, zn, rfl, obs, cs, hzs⟩ := sJ.get hkV
  obtain rfl : zn = (nn : Int) := by have h1 := hzs.out; rw [hVk.out] at h1; injection h1 with h1; exact h1.symm
  clear hzs
  obtain ⟨ua, rfl⟩ : ∃ ua : World, ua = u := ⟨_, rfl⟩
  go_wp2_with (first | (go_at_call 30; (try first | (with_reducible refine gen_boxK3 (fun u _ _ _ _ => ?_)) | (with_reducible refine gen_boxK2 (fun u _ _ _ => ?_)) | (with_reducible refine gen_boxK (fun u _ _ => ?_))); (with_reducible refine (aT_makeO (by omega) hVr hVS).mono ?_); rintro e u ⟨g, g', rfl, hg, hg', oS, oX, pw1⟩))
  obtain ⟨w1, rfl⟩ : ∃ w1 : World, w1 = u := ⟨_, rfl⟩
  refine wp_region_up0 (by kernel_rfl) (fun u7 _ => ?_)
  refine wpAnyH_on (i := 0) (d := 38) (v := ?_) rfl rfl (by kernel_rfl) (by kernel_rfl) (by kernel_rfl) (fun _ _ _ h => h) (by kernel_rfl) (prev_bel _ _) ?_ ?_
  rotate_left
  · intro uu (pu : Prev uu _)
    go_simp
    try (with_reducible rfl)
  try simp only [List.set]
  refine wpAnyH_on (i := 1) (d := 39) (v := ?_) rfl rfl (by kernel_rfl) (by kernel_rfl) (by kernel_rfl) (fun _ _ _ h => h) (by kernel_rfl) (prev_bel _ _) ?_ ?_
  rotate_left
  · intro uu (pu : Prev uu _)
    go_simp
    try (with_reducible rfl)
  try simp only [List.set]
  refine wpAnyH_on (i := 2) (d := 40) (v := ?_) rfl rfl (by kernel_rfl) (by kernel_rfl) (by kernel_rfl) (fun _ _ _ h => h) (by kernel_rfl) (prev_bel _ _) ?_ ?_
  rotate_left
  · intro uu (pu : Prev uu _)
    go_simp
    try (with_reducible rfl)
  try simp only [List.set]
  refine wpAnyH_on (i := 3) (d := 41) (v := ?_) rfl rfl (by kernel_rfl) (by kernel_rfl) (by kernel_rfl) (fun _ _ _ h => h) (by kernel_rfl) (prev_bel _ _) ?_ ?_
  rotate_left
  · intro uu (pu : Prev uu _)
    go_simp
    try (with_reducible rfl)
  try simp only [List.set]
  refine wpAnyH_on (i := 4) (d := 42) (v := ?_) rfl rfl (by kernel_rfl) (by kernel_rfl) (by kernel_rfl) (fun _ _ _ h => h) (by kernel_rfl) (prev_bel _ _) ?_ ?_
  rotate_left
  · intro uu (pu : Prev uu _)
    go_simp
    try (with_reducible rfl)
  try simp only [List.set]
  refine wpAnyH_on (i := 5) (d := 43) (v := ?_) rfl rfl (by kernel_rfl) (by kernel_rfl) (by kernel_rfl) (fun _ _ _ h => h) (by kernel_rfl) (prev_bel _ _) ?_ ?_
  rotate_left
  · intro uu (pu : Prev uu _)
    go_simp
    try (with_reducible rfl)
  try simp only [List.set]
  refine wpAnyH_on (i := 6) (d := 44) (v := ?_) rfl rfl (by kernel_rfl) (by kernel_rfl) (by kernel_rfl) (fun _ _ _ h => h) (by kernel_rfl) (prev_bel _ _) ?_ ?_
  rotate_left
  · intro uu (pu : Prev uu _)
    go_simp
    try (with_reducible rfl)
  try simp only [List.set]
  refine wpAnyH_on (i := 7) (d := 45) (v := ?_) rfl rfl (by kernel_rfl) (by kernel_rfl) (by kernel_rfl) (fun _ _ _ h => h) (by kernel_rfl) (prev_bel _ _) ?_ ?_
  rotate_left
  · intro uu (pu : Prev uu _)
    go_simp
    try (with_reducible rfl)
  try simp only [List.set]
  refine wpAnyH_on (i := 8) (d := 46) (v := ?_) rfl rfl (by kernel_rfl) (by kernel_rfl) (by kernel_rfl) (fun _ _ _ h => h) (by kernel_rfl) (prev_bel _ _) ?_ ?_
  rotate_left
  · intro uu (pu : Prev uu _)
    go_simp
    try (with_reducible rfl)
  try simp only [List.set]
  refine wpAnyH_on (i := 9) (d := 47) (v := ?_) rfl rfl (by kernel_rfl) (by kernel_rfl) (by kernel_rfl) (fun _ _ _ h => h) (by kernel_rfl) (prev_bel _ _) ?_ ?_
  rotate_left
  · intro uu (pu : Prev uu _)
    go_simp
    try (with_reducible rfl)
  try simp only [List.set]
  refine wpAnyH_on (i := 10) (d := 48) (v := ?_) rfl rfl (by kernel_rfl) (by kernel_rfl) (by kernel_rfl) (fun _ _ _ h => h) (by kernel_rfl) (prev_bel _ _) ?_ ?_
  rotate_left
  · intro uu (pu : Prev uu _)
    go_simp
    try (with_reducible rfl)
  try simp only [List.set]
  refine wpAnyH_on (i := 11) (d := 49) (v := ?_) rfl rfl (by kernel_rfl) (by kernel_rfl) (by kernel_rfl) (fun _ _ _ h => h) (by kernel_rfl) (prev_bel _ _) ?_ ?_
  rotate_left
  · intro uu (pu : Prev uu _)
    go_simp
    try (with_reducible rfl)
  try simp only [List.set]
  refine wpAnyH_on (i := 12) (d := 50) (v := ?_) rfl rfl (by kernel_rfl) (by kernel_rfl) (by kernel_rfl) (fun _ _ _ h => h) (by kernel_rfl) (prev_bel _ _) ?_ ?_
  rotate_left
  · intro uu (pu : Prev uu _)
    go_simp
    try (with_reducible rfl)
  try simp only [List.set]
  refine wpAnyH_on (i := 13) (d := 13) (v := ?_) rfl rfl (by kernel_rfl) (by kernel_rfl) (by kernel_rfl) (fun _ _ _ h => h) (by kernel_rfl) (prev_bel _ _) ?_ ?_
  rotate_left
  · intro uu (pu : Prev uu _)
    go_simp
    try (with_reducible rfl)
  try simp only [List.set]
  refine wpAnyH_on (i := 14) (d := 14) (v := ?_) rfl rfl (by kernel_rfl) (by kernel_rfl) (by kernel_rfl) (fun _ _ _ h => h) (by kernel_rfl) (prev_bel _ _) ?_ ?_
  rotate_left
  · intro uu (pu : Prev uu _)
    go_simp
    try (with_reducible rfl)
  try simp only [List.set]
  refine wpAnyH_done (by kernel_rfl) ?_ _
  go_wp2_with fail
  have n1 : w1.heap.size ≠ g' := by have := oX.lt; omega
  have n2 : g ≠ g' := oS.ne_blk (cs := ints (List.replicate M 0)) oX (by decide)
  have hfL := fun k => poolL_length (poolV kind W) xs Z nn S W k
  have hfS := fun k => poolL_succ (poolV kind W) xs Z nn S W k
  clear CP
  have CP := @cell_prev
  go_loopw [54] (fun i wr => ∃ k : Nat, k ≤ M ∧ i = .int .i64 k ∧ Own wr g' 56 (upTo (poolL (poolV kind W) xs Z nn S W) (List.replicate M 0) k) ∧ Own wr g 3 V ∧ Bx wr w1.heap.size 34 #[.slice (some ⟨g, 0, none⟩) V.length V.length, .slice (some ⟨g', 0, none⟩) M M] ∧ Prev wr ua) (fun i _ => M - (intOf i).toNat)
  case atStart => exact ⟨0, Nat.zero_le _, rfl, by simpa [upTo, poolL] using oX.at, oS.at, inferInstance, prev_bel _ _⟩
  case round =>
    obtain ⟨i, hi, rfl, hO, hS, hB, hp⟩ := hrel
    by_cases hlt : i < M
    · obtain ⟨F, hF⟩ : ∃ F, Hid (i / nn * Z + i % nn * S = F) := ⟨_, Lib.hid rfl⟩
      have hFW : F + W ≤ m := by
        have := (HP.out.win (i := i) (by rw [HM.out]; exact hlt)).2.2.2
        rw [hF.out, ← HXL.out, ← b.len] at this
        exact this
      have hat : (upTo (poolL (poolV kind W) xs Z nn S W) (List.replicate M 0) i)[i]? = some 0 := upTo_at (hfL i) (by simp [hlt])
      obtain ⟨L, HL⟩ : ∃ L, Hid ((xs.drop F).take W = L) := ⟨_, Lib.hid rfl⟩
      have HOS := Lib.hid (upTo_set (f := poolL (poolV kind W) xs Z nn S W) (ys := List.replicate M 0) (k := i) (z := poolV kind W L) (hfL i) (by rw [hfS, hF.out, HL.out]) (by simp [hlt] : (List.replicate M (0 : Int))[i]? = some 0))
      have sP : Sl w (some ⟨bx, ox + F, none⟩) W L := by rw [← HL.out]; exact b.part hFW
      have iL : I6s L := by rw [← HL.out]; exact i6.part F W
      have hLl : L.length = W := sP.len.symm
      have hW6 : W ≤ 1000000 := by omega
      rcases hk with rfl | rfl
      · obtain ⟨bb, hb, hbl, hbm⟩ := bestI_mxL (l := L) (by rintro rfl; simp at hLl; omega)
        have HB := Lib.hid hb
        have cbb : w.cell? ⟨bx, ox + F + bb, none⟩ = some (.int .i64 (mxL L)) := sP.rd.all hbm
        have hbW : bb < W := by omega
        have hPV : poolV 1 W L = mxL L := by simp [poolV]
        rw [hPV] at HOS
        clear hb hbl hbm hLl hPV
        go_wp2_with (first | (go_at_call 63; (try first | (with_reducible refine gen_boxK3 (fun u _ _ _ _ => ?_)) | (with_reducible refine gen_boxK2 (fun u _ _ _ => ?_)) | (with_reducible refine gen_boxK (fun u _ _ => ?_))); (with_reducible refine (pl_window (by omega) (by omega) hF (by omega) (by omega) (by omega) hW1 hFW).mono ?_); rintro e u ⟨rfl, _⟩))
        refine wp_region_upR ua (fun w9 => Bx w9 w1.heap.size 34 #[.slice (some ⟨g, 0, none⟩) V.length V.length, .slice (some ⟨g', 0, none⟩) M M]) (by kernel_rfl) inferInstance (fun vx _ => ?_)
        refine wpAnyH_on (i := 0) (d := 67) (v := ?_) rfl rfl (by kernel_rfl) (by kernel_rfl) (by kernel_rfl) (fun _ _ _ h => h) (by kernel_rfl) ⟨prev_bel _ _, inferInstance⟩ ?_ ?_
        rotate_left
        · rintro uu ⟨pu, r1⟩
          go_simp
          try (with_reducible rfl)
        try simp only [List.set]
        refine wpAnyH_on (i := 1) (d := 68) (v := ?_) rfl rfl (by kernel_rfl) (by kernel_rfl) (by kernel_rfl) (fun _ _ _ h => h) (by kernel_rfl) ⟨prev_bel _ _, inferInstance⟩ ?_ ?_
        rotate_left
        · rintro uu ⟨pu, r1⟩
          go_simp
          try (with_reducible rfl)
        try simp only [List.set]
        refine wpAnyH_on (i := 2) (d := 69) (v := ?_) rfl rfl (by kernel_rfl) (by kernel_rfl) (by kernel_rfl) (fun _ _ _ h => h) (by kernel_rfl) ⟨prev_bel _ _, inferInstance⟩ ?_ ?_
        rotate_left
        · rintro uu ⟨pu, r1⟩
          go_simp
          try (with_reducible rfl)
        try simp only [List.set]
        refine wpAnyH_on (i := 3) (d := 70) (v := ?_) rfl rfl (by kernel_rfl) (by kernel_rfl) (by kernel_rfl) (fun _ _ _ h => h) (by kernel_rfl) ⟨prev_bel _ _, inferInstance⟩ ?_ ?_
        rotate_left
        · rintro uu ⟨pu, r1⟩
          go_simp
          try (with_reducible rfl)
        try simp only [List.set]
        refine wpAnyH_on (i := 4) (d := 71) (v := ?_) rfl rfl (by kernel_rfl) (by kernel_rfl) (by kernel_rfl) (fun _ _ _ h => h) (by kernel_rfl) ⟨prev_bel _ _, inferInstance⟩ ?_ ?_
        rotate_left
        · rintro uu ⟨pu, r1⟩
          go_simp
          try (with_reducible rfl)
        try simp only [List.set]
        refine wpAnyH_ready (rs := [5]) (by kernel_rfl) (by simp) ?_
        refine AllReadyH.cons rfl (fun K hK => ?_) AllReadyH.nil
        go_simp
        (with_reducible refine (pl_bestH (by omega) HB).mono ?_)
        rintro e vx ⟨rfl, _⟩
        dsimp only
        refine hK.out _ _ ⟨prev_bel ua _, inferInstance⟩ (fun hHeld => ?_)
        clear hHeld hK K
        try dsimp only [Act.put, List.setIfInBounds_toArray, List.set_cons_zero, List.set_cons_succ]
        refine wpAnyH_on (i := 6) (d := 73) (v := ?_) rfl rfl (by kernel_rfl) (by kernel_rfl) (by kernel_rfl) (fun _ _ _ h => h) (by kernel_rfl) ⟨prev_bel _ _, inferInstance⟩ ?_ ?_
        rotate_left
        · rintro uu ⟨pu, r1⟩
          go_simp
          try (with_reducible rfl)
        try simp only [List.set]
        refine wpAnyH_on (i := 7) (d := 74) (v := ?_) rfl rfl (by kernel_rfl) (by kernel_rfl) (by kernel_rfl) (fun _ _ _ h => h) (by kernel_rfl) ⟨prev_bel _ _, inferInstance⟩ ?_ ?_
        rotate_left
        · rintro uu ⟨pu, r1⟩
          go_simp
          try (with_reducible rfl)
        try simp only [List.set]
        refine wpAnyH_on (i := 8) (d := 75) (v := ?_) rfl rfl (by kernel_rfl) (by kernel_rfl) (by kernel_rfl) (fun _ _ _ h => h) (by kernel_rfl) ⟨prev_bel _ _, inferInstance⟩ ?_ ?_
        rotate_left
        · rintro uu ⟨pu, r1⟩
          go_simp
          try (with_reducible rfl)
        try simp only [List.set]
        refine wpAnyH_ready (rs := [9]) (by kernel_rfl) (by simp) ?_
        refine AllReadyH.cons rfl (fun K hK => ?_) AllReadyH.nil
        have hcg := ((hO).at (w' := vx)).cell hat
        have hfg := ((hO).at (w' := vx)).frozen i
        go_simp
        refine hK.out _ _ ⟨⟨(bel ua vx).setCell (p := ⟨g', i, none⟩) hg' _⟩, ⟨(Bx.blk (w := vx)).far n1 _⟩⟩ (fun hHeld => ?_)
        clear hHeld hK K hcg hfg
        try dsimp only [Act.put, List.setIfInBounds_toArray, List.set_cons_zero, List.set_cons_succ]
        refine wpAnyH_done (by kernel_rfl) ?_ _
        go_wp2_with fail
        go_roundw
        case rel =>
          have o2 := (hO.at (w' := vx)).set_ i (mxL L)
          rw [HOS.out] at o2
          exact ⟨i + 1, by omega, by go_num, o2, (hS.at (w' := vx)).far n2 _, ⟨(Bx.blk (w := vx)).far n1 _⟩, ⟨(bel ua vx).setCell (p := ⟨g', i, none⟩) hg' _⟩⟩
        case measure => simp [intOf]; omega
      · have hPV : poolV 2 W L = fdiv (fsum L) (fint W) := by simp [poolV]
        rw [hPV] at HOS
        clear hLl hPV
        go_wp2_with (first | (go_at_call 63; (try first | (with_reducible refine gen_boxK3 (fun u _ _ _ _ => ?_)) | (with_reducible refine gen_boxK2 (fun u _ _ _ => ?_)) | (with_reducible refine gen_boxK (fun u _ _ => ?_))); (with_reducible refine (pl_window (by omega) (by omega) hF (by omega) (by omega) (by omega) hW1 hFW).mono ?_); rintro e u ⟨rfl, _⟩))
        refine wp_region_upR ua (fun w9 => Bx w9 w1.heap.size 34 #[.slice (some ⟨g, 0, none⟩) V.length V.length, .slice (some ⟨g', 0, none⟩) M M]) (by kernel_rfl) inferInstance (fun vx _ => ?_)
        refine wpAnyH_on (i := 0) (d := 76) (v := ?_) rfl rfl (by kernel_rfl) (by kernel_rfl) (by kernel_rfl) (fun _ _ _ h => h) (by kernel_rfl) ⟨prev_bel _ _, inferInstance⟩ ?_ ?_
        rotate_left
        · rintro uu ⟨pu, r1⟩
          go_simp
          try (with_reducible rfl)
        try simp only [List.set]
        refine wpAnyH_on (i := 1) (d := 77) (v := ?_) rfl rfl (by kernel_rfl) (by kernel_rfl) (by kernel_rfl) (fun _ _ _ h => h) (by kernel_rfl) ⟨prev_bel _ _, inferInstance⟩ ?_ ?_
        rotate_left
        · rintro uu ⟨pu, r1⟩
          go_simp
          try (with_reducible rfl)
        try simp only [List.set]
        refine wpAnyH_on (i := 2) (d := 78) (v := ?_) rfl rfl (by kernel_rfl) (by kernel_rfl) (by kernel_rfl) (fun _ _ _ h => h) (by kernel_rfl) ⟨prev_bel _ _, inferInstance⟩ ?_ ?_
        rotate_left
        · rintro uu ⟨pu, r1⟩
          go_simp
          try (with_reducible rfl)
        try simp only [List.set]
        refine wpAnyH_on (i := 3) (d := 79) (v := ?_) rfl rfl (by kernel_rfl) (by kernel_rfl) (by kernel_rfl) (fun _ _ _ h => h) (by kernel_rfl) ⟨prev_bel _ _, inferInstance⟩ ?_ ?_
        rotate_left
        · rintro uu ⟨pu, r1⟩
          go_simp
          try (with_reducible rfl)
        try simp only [List.set]
        refine wpAnyH_on (i := 5) (d := 81) (v := ?_) rfl rfl (by kernel_rfl) (by kernel_rfl) (by kernel_rfl) (fun _ _ _ h => h) (by kernel_rfl) ⟨prev_bel _ _, inferInstance⟩ ?_ ?_
        rotate_left
        · rintro uu ⟨pu, r1⟩
          go_simp
          try (with_reducible rfl)
        try simp only [List.set]
        refine wpAnyH_ready (rs := [4]) (by kernel_rfl) (by simp) ?_
        refine AllReadyH.cons rfl (fun K hK => ?_) AllReadyH.nil
        go_simp
        (with_reducible refine (aF_sum (by omega)).mono ?_)
        rintro e vx ⟨rfl, _⟩
        dsimp only
        refine hK.out _ _ ⟨prev_bel ua _, inferInstance⟩ (fun hHeld => ?_)
        clear hHeld hK K
        try dsimp only [Act.put, List.setIfInBounds_toArray, List.set_cons_zero, List.set_cons_succ]
        refine wpAnyH_ready (rs := [6]) (by kernel_rfl) (by simp) ?_
        refine AllReadyH.cons rfl (fun K hK => ?_) AllReadyH.nil
        go_simp
        (with_reducible refine (aF_int).mono ?_)
        rintro e vx ⟨rfl, _⟩
        dsimp only
        refine hK.out _ _ ⟨prev_bel ua _, inferInstance⟩ (fun hHeld => ?_)
        clear hHeld hK K
        try dsimp only [Act.put, List.setIfInBounds_toArray, List.set_cons_zero, List.set_cons_succ]
        refine wpAnyH_ready (rs := [7]) (by kernel_rfl) (by simp) ?_
        refine AllReadyH.cons rfl (fun K hK => ?_) AllReadyH.nil
        go_simp
        (with_reducible refine (aF_div).mono ?_)
        rintro e vx ⟨rfl, _⟩
        dsimp only
        refine hK.out _ _ ⟨prev_bel ua _, inferInstance⟩ (fun hHeld => ?_)
        clear hHeld hK K
        try dsimp only [Act.put, List.setIfInBounds_toArray, List.set_cons_zero, List.set_cons_succ]
        refine wpAnyH_on (i := 8) (d := 84) (v := ?_) rfl rfl (by kernel_rfl) (by kernel_rfl) (by kernel_rfl) (fun _ _ _ h => h) (by kernel_rfl) ⟨prev_bel _ _, inferInstance⟩ ?_ ?_
        rotate_left
        · rintro uu ⟨pu, r1⟩
          go_simp
          try (with_reducible rfl)
        try simp only [List.set]
        refine wpAnyH_ready (rs := [9]) (by kernel_rfl) (by simp) ?_
        refine AllReadyH.cons rfl (fun K hK => ?_) AllReadyH.nil
        have hcg := ((hO).at (w' := vx)).cell hat
        have hfg := ((hO).at (w' := vx)).frozen i
        go_simp
        refine hK.out _ _ ⟨⟨(bel ua vx).setCell (p := ⟨g', i, none⟩) hg' _⟩, ⟨(Bx.blk (w := vx)).far n1 _⟩⟩ (fun hHeld => ?_)
        clear hHeld hK K hcg hfg
        try dsimp only [Act.put, List.setIfInBounds_toArray, List.set_cons_zero, List.set_cons_succ]
        refine wpAnyH_done (by kernel_rfl) ?_ _
        go_wp2_with fail
        go_roundw
        case rel =>
          have o2 := (hO.at (w' := vx)).set_ i (fdiv (fsum L) (fint W))
          rw [HOS.out] at o2
          exact ⟨i + 1, by omega, by go_num, o2, (hS.at (w' := vx)).far n2 _, ⟨(Bx.blk (w := vx)).far n1 _⟩, ⟨(bel ua vx).setCell (p := ⟨g', i, none⟩) hg' _⟩⟩
        case measure => simp [intOf]; omega
    · rw [upTo_all (by simpa using hlt)] at hO
      obtain rfl : i = M := by omega
      have HO := Lib.hid hO
      clear hO
      have kR : Bx wr (w.heap.size + 1) 34 #[.slice none 0 0, .slice none 0 0] := inferInstance
      have l1 := hS.ne_blk kR.blk (by decide)
      have l2 := HO.out.ne_blk kR.blk (by decide)
      go_wp2_with fail
      have k3 := kR.blk.set2 (.slice (some ⟨g, 0, none⟩) V.length V.length) (.slice (some ⟨g', 0, none⟩) i i)
      have B3 := bset2 (bel w wr) (p := w.heap.size + 1) (by omega) (.slice (some ⟨g, 0, none⟩) V.length V.length) (.slice (some ⟨g', 0, none⟩) i i)
      have o3 := hS.far2 l1 (.slice (some ⟨g, 0, none⟩) V.length V.length) (.slice (some ⟨g', 0, none⟩) i i)
      have o4 := HO.out.far2 l2 (.slice (some ⟨g, 0, none⟩) V.length V.length) (.slice (some ⟨g', 0, none⟩) i i)
      obtain ⟨r0, r1⟩ := box2 k3
      refine bodyPost_ret (v := .tuple #[.agg #[.slice (some ⟨g, 0, none⟩) V.length V.length, .slice (some ⟨g', 0, none⟩) i i], .int .i64 0]) (by simp [results, Try.results36, go_sem, r0, r1]) rfl ?_
      have hgw : w.heap.size ≤ g := Nat.le_trans (later_size (w := w) (w' := ua)) hg
      have hgw' : w.heap.size ≤ g' := Nat.le_trans (later_size (w := w) (w' := ua)) hg'
      rw [hX.out, HM.out]
      exact ⟨_, _, _, _, by rw [poolL_length], ⟨o3.rd, rfl⟩, ⟨o4.rd, rfl⟩, ⟨Nat.le_refl _⟩, ⟨by rw [poolL_length]; exact Nat.le_refl _⟩, ⟨fun ad e => by injection e with e; subst e; exact hgw⟩, ⟨fun ad e => by injection e with e; subst e; exact hgw'⟩, ⟨B3⟩⟩
end

end Go.Proofs.Yteibgdcieaiaiaa
