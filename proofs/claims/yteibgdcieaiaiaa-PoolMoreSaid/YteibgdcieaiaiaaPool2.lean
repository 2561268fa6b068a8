/- The walks of package pool: window, Shape, agree. -/
import Derived.Test.YteibgdcieaiaiaaPool
import Derived.Test.YteibgdcieaiaiaaPoolMath2
namespace Go.Proofs.Yteibgdcieaiaiaa
open Go.RowKit

/-- A part of a slice that is not nil. -/
theorem slice_at {P : Program} (t : TypeId) (ht : P.underlying t = some (.slice (P.elem t))) (hs : (P.info? (P.elem t)).map (·.size) = some 1) (b off m d lo hi : Nat) (i j : Int) (ei : i = (lo : Int)) (ej : j = (hi : Int)) (h1 : lo ≤ hi) (h2 : hi ≤ m) (h3 : m ≤ d) (h4 : lo < d) :
    ∀ w, (Instr.slice t (.slice (some ⟨b, off, none⟩) m d) (some (.int .i64 i)) (some (.int .i64 j)) none).run P w = .ok (.slice (some ⟨b, off + lo, none⟩) (hi - lo) (d - lo)) w := by
  subst ei ej
  intro w
  rw [run_slice_lh w t _ m d ht .i64 .i64 lo hi (by omega) (by omega) (by omega), sizeOf_one hs]
  have hne : d ≠ lo := by omega
  by_cases h0 : lo = 0
  · subst h0; simp [Result.andThen, sliced, Addr.add, hne]
  · simp [Result.andThen, sliced, Addr.add, hne, h0]

section
variable {w : World} {A B : Option Addr} {n m c d b off : Nat} {zs xs : List Int}
theorem Sl.part (h : Sl w (some ⟨b, off, none⟩) m xs) {F W : Nat} (hF : F + W ≤ m) : Sl w (some ⟨b, off + F, none⟩) W ((xs.drop F).take W) := by
  refine ⟨fun j z hj => ?_, by have := h.len; simp; omega⟩
  rw [List.getElem?_take] at hj
  split at hj
  · rw [List.getElem?_drop] at hj
    obtain ⟨b', off', e, hb, hc⟩ := h.rd _ z hj
    injection e with e; injection e with e1 e2; subst e1; subst e2
    exact ⟨b, off + F, rfl, hb, by rw [Nat.add_assoc]; exact hc⟩
  · cases hj
set_option maxRecDepth 100000 in
set_option maxHeartbeats 2000000 in
theorem pl_window {P Z N W S F : Nat} (hm : m ≤ 65536) (hd : m ≤ d) (hF : Hid (P / N * Z + P % N * S = F)) (hN : 1 ≤ N) (hN2 : N ≤ 1024) (hP : P ≤ 65536) (hW : 1 ≤ W) (hFW : F + W ≤ m) :
    Calls Try.prog 63 #[.slice (some ⟨b, off, none⟩) m d, .int .i64 P, .int .i64 Z, .int .i64 N, .int .i64 W, .int .i64 S] w (RetV w (.slice (some ⟨b, off + F, none⟩) W (d - F))) := by
  obtain ⟨q, hq⟩ : ∃ q, P / N = q := ⟨_, rfl⟩
  obtain ⟨r, hr⟩ : ∃ r, P % N = r := ⟨_, rfl⟩
  have hF2 := hF.out
  rw [hq, hr] at hF2
  obtain ⟨x, hx⟩ : ∃ x, q * Z = x := ⟨_, rfl⟩
  obtain ⟨y, hy⟩ : ∃ y, r * S = y := ⟨_, rfl⟩
  rw [hx, hy] at hF2
  have hrN : r < N := hr ▸ Nat.mod_lt _ hN
  have hqP : q ≤ P := hq ▸ Nat.div_le_self _ _
  have hxm : x ≤ 65536 := by omega
  have hym : y ≤ 65536 := by omega
  have m1 : (P : Int) / (N : Int) = (q : Int) := by rw [← Int.natCast_ediv, hq]
  have m0 : ¬ N = 0 := by omega
  have m1' : IntKind.i64.wrap (q : Int) = (q : Int) := IntWalk.i64_in _ (by omega)
  have m2 : (P : Int).tmod (N : Int) = (r : Int) := by rw [Int.tmod_eq_emod_of_nonneg (by omega), ← Int.natCast_emod, hr]
  have m3 : IntKind.i64.wrap ((q : Int) * (Z : Int)) = (x : Int) := by rw [← Int.natCast_mul, hx]; exact IntWalk.i64_in _ (by omega)
  have m4 : IntKind.i64.wrap ((r : Int) * (S : Int)) = (y : Int) := by rw [← Int.natCast_mul, hy]; exact IntWalk.i64_in _ (by omega)
  have m5 : IntKind.i64.wrap ((x : Int) + (y : Int)) = (F : Int) := by rw [← Int.natCast_add, hF2]; exact IntWalk.i64_in _ (by omega)
  have hsl := slice_at (P := Try.prog) 32 (by kernel_rfl) (by kernel_rfl) b off m d F (F + W) (F : Int) ((F : Int) + (W : Int)) rfl (by omega) (by omega) hFW hd (by omega)
  rw [Nat.add_sub_cancel_left] at hsl
  clear hq hr hx hy hF2
  go_enter Try.func63, Try.ntmps63
  go_wp2_with fail
  refine wp_region_up0 (by kernel_rfl) (fun ux _ => ?_)
  refine wpAnyH_on (i := 0) (d := 14) (v := ?_) rfl rfl (by kernel_rfl) (by kernel_rfl) (by kernel_rfl) (fun _ _ _ h => h) (by kernel_rfl) (prev_bel _ _) ?_ ?_
  rotate_left
  · intro uu (pu : Prev uu _)
    go_simp
    try (with_reducible rfl)
  try simp only [List.set]
  refine wpAnyH_on (i := 1) (d := 15) (v := ?_) rfl rfl (by kernel_rfl) (by kernel_rfl) (by kernel_rfl) (fun _ _ _ h => h) (by kernel_rfl) (prev_bel _ _) ?_ ?_
  rotate_left
  · intro uu (pu : Prev uu _)
    go_simp
    try (with_reducible rfl)
  try simp only [List.set]
  refine wpAnyH_on (i := 2) (d := 16) (v := ?_) rfl rfl (by kernel_rfl) (by kernel_rfl) (by kernel_rfl) (fun _ _ _ h => h) (by kernel_rfl) (prev_bel _ _) ?_ ?_
  rotate_left
  · intro uu (pu : Prev uu _)
    go_simp
    try (with_reducible rfl)
  try simp only [List.set]
  refine wpAnyH_on (i := 3) (d := 17) (v := ?_) rfl rfl (by kernel_rfl) (by kernel_rfl) (by kernel_rfl) (fun _ _ _ h => h) (by kernel_rfl) (prev_bel _ _) ?_ ?_
  rotate_left
  · intro uu (pu : Prev uu _)
    go_simp
    try (with_reducible rfl)
  try simp only [List.set]
  refine wpAnyH_on (i := 4) (d := 18) (v := ?_) rfl rfl (by kernel_rfl) (by kernel_rfl) (by kernel_rfl) (fun _ _ _ h => h) (by kernel_rfl) (prev_bel _ _) ?_ ?_
  rotate_left
  · intro uu (pu : Prev uu _)
    go_simp
    try (with_reducible rfl)
  try simp only [List.set]
  refine wpAnyH_on (i := 5) (d := 19) (v := ?_) rfl rfl (by kernel_rfl) (by kernel_rfl) (by kernel_rfl) (fun _ _ _ h => h) (by kernel_rfl) (prev_bel _ _) ?_ ?_
  rotate_left
  · intro uu (pu : Prev uu _)
    go_simp
    try (with_reducible rfl)
  try simp only [List.set]
  refine wpAnyH_on (i := 6) (d := 20) (v := ?_) rfl rfl (by kernel_rfl) (by kernel_rfl) (by kernel_rfl) (fun _ _ _ h => h) (by kernel_rfl) (prev_bel _ _) ?_ ?_
  rotate_left
  · intro uu (pu : Prev uu _)
    go_simp
    try (with_reducible rfl)
  try simp only [List.set]
  refine wpAnyH_on (i := 7) (d := 21) (v := ?_) rfl rfl (by kernel_rfl) (by kernel_rfl) (by kernel_rfl) (fun _ _ _ h => h) (by kernel_rfl) (prev_bel _ _) ?_ ?_
  rotate_left
  · intro uu (pu : Prev uu _)
    go_simp
    try (with_reducible rfl)
  try simp only [List.set]
  refine wpAnyH_on (i := 8) (d := 22) (v := ?_) rfl rfl (by kernel_rfl) (by kernel_rfl) (by kernel_rfl) (fun _ _ _ h => h) (by kernel_rfl) (prev_bel _ _) ?_ ?_
  rotate_left
  · intro uu (pu : Prev uu _)
    go_simp
    try (with_reducible rfl)
  try simp only [List.set]
  refine wpAnyH_on (i := 9) (d := 23) (v := ?_) rfl rfl (by kernel_rfl) (by kernel_rfl) (by kernel_rfl) (fun _ _ _ h => h) (by kernel_rfl) (prev_bel _ _) ?_ ?_
  rotate_left
  · intro uu (pu : Prev uu _)
    go_simp
    try (with_reducible rfl)
  try simp only [List.set]
  refine wpAnyH_on (i := 10) (d := 24) (v := ?_) rfl rfl (by kernel_rfl) (by kernel_rfl) (by kernel_rfl) (fun _ _ _ h => h) (by kernel_rfl) (prev_bel _ _) ?_ ?_
  rotate_left
  · intro uu (pu : Prev uu _)
    go_simp
    try (with_reducible rfl)
  try simp only [List.set]
  refine wpAnyH_on (i := 11) (d := 13) (v := ?_) rfl rfl (by kernel_rfl) (by kernel_rfl) (by kernel_rfl) (fun _ _ _ h => h) (by kernel_rfl) (prev_bel _ _) ?_ ?_
  rotate_left
  · intro uu (pu : Prev uu _)
    go_simp
    try (with_reducible rfl)
  try simp only [List.set]
  refine wpAnyH_done (by kernel_rfl) ?_ _
  go_wp2_with fail
  go_ret
  exact ⟨rfl, prev_bel _ _⟩

theorem aS_right [a : Sl w A n zs] (hn : n ≤ 1000000) : Calls Try.prog 46 #[.slice A n c] w (RetV w (.bool (rightB zs))) := by
  obtain ⟨a, rfl⟩ := a
  exact (sh_right A c zs w hn a).mono fun _ _ ⟨he, hb⟩ => ⟨he, ⟨hb⟩⟩
theorem aS_window {a b c : Int} : Calls Try.prog 47 #[.int .i64 a, .int .i64 b, .int .i64 c] w (RetV w (.tuple #[.int .i64 (winV a b c), .int .i64 (winE a b c)])) := retSame (sh_window a b c w)
def RetCo (w : World) (zs : List Int) (e : Ending) (w' : World) : Prop :=
  ∃ g, e = .returned (.slice (some ⟨g, 0, none⟩) zs.length zs.length) ∧ w.heap.size ≤ g ∧ Own w' g 3 zs ∧ Prev w' w
theorem aS_copyO [a : Sl w A n zs] (hn : n ≤ 1000000) : Calls Try.prog 59 #[.slice A n c] w (RetCo w zs) := by
  obtain ⟨a, rfl⟩ := a
  exact (sh_copy A c zs w hn a).mono fun _ _ ⟨g, he, hg, ho, hb⟩ => ⟨g, he, hg, ho, ⟨hb⟩⟩
theorem aS_plshape [a : Sl w A n zs] (hn : n ≤ 1000000) {W S : Int} {V : List Int} {E : Int} (hE : Hid (plE zs W S = E)) (hV : Hid (plV zs W S = V)) :
    Calls Try.prog 33 #[.slice A n c, .int .i64 W, .int .i64 S] w (RetSA w V E) := by
  obtain ⟨a, rfl⟩ := a
  have a : Sl w A zs.length zs := ⟨a, rfl⟩
  have CP := @cell_prev
  rcases hr : rightB zs with _ | _
  · obtain rfl : E = 20 := by rw [← hE.out, plE, hr]; rfl
    obtain rfl : V = [] := by rw [← hV.out, plV, hr]; rfl
    go_enter Try.func33, Try.ntmps33
    go_wp2_with (first | (go_at_call 46; (try first | (with_reducible refine gen_boxK3 (fun u _ _ _ _ => ?_)) | (with_reducible refine gen_boxK2 (fun u _ _ _ => ?_)) | (with_reducible refine gen_boxK (fun u _ _ => ?_))); (with_reducible refine (aS_right (by omega)).mono ?_); rintro e u ⟨rfl, _⟩))
    go_ret2
    exact ⟨none, 0, rfl, Sl.empty, ⟨Nat.le_refl _⟩, Fre.none, prev_bel _ _⟩
  · obtain ⟨r1, r4, -, -⟩ := (rightB_iff zs).1 hr
    obtain ⟨bz, oz, z, rfl, obz, cz, hz⟩ := a.get (k := zs.length - 1) (by omega)
    have hl : lastD zs = z := by rw [lastD, List.getD_eq_getElem?_getD, hz.out]; rfl
    have m1 : ((zs.length : Int) - 1) = ((zs.length - 1 : Nat) : Int) := by omega
    obtain ⟨k, hk⟩ : ∃ k, zs.length - 1 = k := ⟨_, rfl⟩
    rw [hk] at m1 cz
    have hkl : k < zs.length := by omega
    rcases ho : winOk z W S with _ | _
    · have he : winE z W S = 11 := by simp [winE, ho]
      obtain rfl : E = 11 := by rw [← hE.out, plE, if_pos hr, hl, he]
      obtain rfl : V = [] := by rw [← hV.out, plV, hl, ho]; simp
      clear hl hk
      go_enter Try.func33, Try.ntmps33
      go_wp2_with (first | (go_at_call 46; (try first | (with_reducible refine gen_boxK3 (fun u _ _ _ _ => ?_)) | (with_reducible refine gen_boxK2 (fun u _ _ _ => ?_)) | (with_reducible refine gen_boxK (fun u _ _ => ?_))); (with_reducible refine (aS_right (by omega)).mono ?_); rintro e u ⟨rfl, _⟩) | (go_at_call 47; (try first | (with_reducible refine gen_boxK3 (fun u _ _ _ _ => ?_)) | (with_reducible refine gen_boxK2 (fun u _ _ _ => ?_)) | (with_reducible refine gen_boxK (fun u _ _ => ?_))); (with_reducible refine (aS_window).mono ?_); rintro e u ⟨rfl, _⟩))
      go_ret2
      exact ⟨none, 0, rfl, Sl.empty, ⟨Nat.le_refl _⟩, Fre.none, prev_bel _ _⟩
    · have he : winE z W S = 0 := by simp [winE, ho]
      obtain ⟨v, hv⟩ : ∃ v, winV z W S = v := ⟨_, rfl⟩
      obtain rfl : E = 0 := by rw [← hE.out, plE, if_pos hr, hl, he]
      have HVV : Hid (zs.set k v = V) := Lib.hid (by rw [← hV.out, plV, hl, ho, hr, hk, hv]; rfl)
      clear hl hk
      go_enter Try.func33, Try.ntmps33
      go_wp2_with (first | (go_at_call 46; (try first | (with_reducible refine gen_boxK3 (fun u _ _ _ _ => ?_)) | (with_reducible refine gen_boxK2 (fun u _ _ _ => ?_)) | (with_reducible refine gen_boxK (fun u _ _ => ?_))); (with_reducible refine (aS_right (by omega)).mono ?_); rintro e u ⟨rfl, _⟩) | (go_at_call 47; (try first | (with_reducible refine gen_boxK3 (fun u _ _ _ _ => ?_)) | (with_reducible refine gen_boxK2 (fun u _ _ _ => ?_)) | (with_reducible refine gen_boxK (fun u _ _ => ?_))); (with_reducible refine (aS_window).mono ?_); rintro e u ⟨rfl, _⟩))
      refine (aS_copyO (by omega)).mono ?_
      rintro e w1 ⟨g, rfl, hg, oS, _⟩
      have hcg := oS.cell (List.getElem?_eq_getElem hkl)
      have hfg := oS.frozen k
      go_wp2_with fail
      go_ret2
      have hgw : w.heap.size ≤ g := Nat.le_trans (later_size (w := w) (w' := u)) hg
      have o2 := oS.set_ k v
      rw [HVV.out] at o2
      have hlen : V.length = zs.length := by rw [← HVV.out, List.length_set]
      rw [← hlen]
      exact ⟨_, _, rfl, ⟨o2.rd, rfl⟩, ⟨Nat.le_refl _⟩, ⟨fun ad e => by injection e with e; subst e; exact hgw⟩, ⟨(bel w w1).setCell (p := ⟨g, k, none⟩) hgw _⟩⟩
/-- The error of a kind, a tensor, a width and a step. -/
def agE (kind : Int) (zs xs : List Int) (W S : Int) : Int := if kind ≠ 1 ∧ kind ≠ 2 then 21 else if tRightB zs xs then plE zs W S else 20
def agV (kind : Int) (zs xs : List Int) (W S : Int) : List Int := if agE kind zs xs W S = 0 then plV zs W S else []
theorem plV_no {zs : List Int} {W S : Int} (h : ¬ plE zs W S = 0) : plV zs W S = [] := by
  unfold plE at h
  unfold plV
  split at h
  · rename_i hr
    unfold winE at h
    split at h
    · omega
    · rename_i ho; simp [ho]
  · rename_i hr
    simp [hr]
theorem pl_agree [a : Sl w A n zs] [b : Sl w B m xs] (hn : n ≤ 1000000) {kind W S : Int} {V : List Int} {E : Int} (hE : Hid (agE kind zs xs W S = E)) (hV : Hid (agV kind zs xs W S = V)) :
    Calls Try.prog 62 #[.int .i64 kind, .agg #[.slice A n c, .slice B m d], .int .i64 W, .int .i64 S] w (RetSA w V E) := by
  have CB := @cell_bx
  by_cases hk : kind ≠ 1 ∧ kind ≠ 2
  · obtain rfl : E = 21 := by rw [← hE.out, agE, if_pos hk]
    obtain rfl : V = [] := by rw [← hV.out, agV, hE.out]; simp
    have k1 : (kind != 1) = true := by simpa using hk.1
    have k2 : (kind != 2) = true := by simpa using hk.2
    clear hk
    go_enter Try.func62, Try.ntmps62
    go_wp2_with fail
    go_ret2
    exact ⟨none, 0, rfl, Sl.empty, ⟨Nat.le_refl _⟩, Fre.none, prev_bel _ _⟩
  · have HK := Lib.hid hk
    rcases hr : tRightB zs xs with _ | _
    · obtain rfl : E = 20 := by rw [← hE.out, agE, if_neg hk, hr]; rfl
      obtain rfl : V = [] := by rw [← hV.out, agV, hE.out]; simp
      have hk2 : kind = 1 ∨ kind = 2 := by omega
      clear hk
      rcases hk2 with rfl | rfl
      · go_enter Try.func62, Try.ntmps62
        go_wp2_with (first | (go_at_call 50; (try first | (with_reducible refine gen_boxK3 (fun u _ _ _ _ => ?_)) | (with_reducible refine gen_boxK2 (fun u _ _ _ => ?_)) | (with_reducible refine gen_boxK (fun u _ _ => ?_))); (with_reducible refine (aT_right (by omega)).mono ?_); rintro e u ⟨rfl, _⟩))
        go_ret2
        exact ⟨none, 0, rfl, Sl.empty, ⟨Nat.le_refl _⟩, Fre.none, prev_bel _ _⟩
      · go_enter Try.func62, Try.ntmps62
        go_wp2_with (first | (go_at_call 50; (try first | (with_reducible refine gen_boxK3 (fun u _ _ _ _ => ?_)) | (with_reducible refine gen_boxK2 (fun u _ _ _ => ?_)) | (with_reducible refine gen_boxK (fun u _ _ => ?_))); (with_reducible refine (aT_right (by omega)).mono ?_); rintro e u ⟨rfl, _⟩))
        go_ret2
        exact ⟨none, 0, rfl, Sl.empty, ⟨Nat.le_refl _⟩, Fre.none, prev_bel _ _⟩
    · have h1 : Hid (plE zs W S = E) := Lib.hid (by rw [← hE.out, agE, if_neg hk, hr]; rfl)
      have h2 : Hid (plV zs W S = V) := Lib.hid (by
        rw [← hV.out, agV, hE.out]
        split
        · rfl
        · rename_i h0; exact plV_no (by rw [h1.out]; exact h0))
      have hk2 : kind = 1 ∨ kind = 2 := by omega
      clear hk
      rcases hk2 with rfl | rfl
      · go_enter Try.func62, Try.ntmps62
        go_wp2_with (first | (go_at_call 50; (try first | (with_reducible refine gen_boxK3 (fun u _ _ _ _ => ?_)) | (with_reducible refine gen_boxK2 (fun u _ _ _ => ?_)) | (with_reducible refine gen_boxK (fun u _ _ => ?_))); (with_reducible refine (aT_right (by omega)).mono ?_); rintro e u ⟨rfl, _⟩) | (go_at_call 33; (try first | (with_reducible refine gen_boxK3 (fun u _ _ _ _ => ?_)) | (with_reducible refine gen_boxK2 (fun u _ _ _ => ?_)) | (with_reducible refine gen_boxK (fun u _ _ => ?_))); (with_reducible refine (aS_plshape (by omega) h1 h2).mono ?_); rintro e u ⟨A', c', rfl, sJ, lJ, fJ, _⟩))
        go_ret2
        exact ⟨A', c', rfl, sJ, lJ, fJ.less later_size, prev_bel _ _⟩
      · go_enter Try.func62, Try.ntmps62
        go_wp2_with (first | (go_at_call 50; (try first | (with_reducible refine gen_boxK3 (fun u _ _ _ _ => ?_)) | (with_reducible refine gen_boxK2 (fun u _ _ _ => ?_)) | (with_reducible refine gen_boxK (fun u _ _ => ?_))); (with_reducible refine (aT_right (by omega)).mono ?_); rintro e u ⟨rfl, _⟩) | (go_at_call 33; (try first | (with_reducible refine gen_boxK3 (fun u _ _ _ _ => ?_)) | (with_reducible refine gen_boxK2 (fun u _ _ _ => ?_)) | (with_reducible refine gen_boxK (fun u _ _ => ?_))); (with_reducible refine (aS_plshape (by omega) h1 h2).mono ?_); rintro e u ⟨A', c', rfl, sJ, lJ, fJ, _⟩))
        go_ret2
        exact ⟨A', c', rfl, sJ, lJ, fJ.less later_size, prev_bel _ _⟩
end

end Go.Proofs.Yteibgdcieaiaiaa
