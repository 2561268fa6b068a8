/- The walk of conv.Shape where the shapes belong together. -/
import Derived.Test.YteibgdcieaiaiaaConvShape
namespace Go.Proofs.Yteibgdcieaiaiaa
open Go.RowKit

section
variable {w : World} {A B : Option Addr} {n m c d : Nat} {ws xs : List Int}
set_option maxRecDepth 100000 in
set_option maxHeartbeats 8000000 in
theorem cv_shape_ok [a : Sl w A n ws] [b : Sl w B m xs] [ld : Le m d] {S E : Int} {V : List Int} (hpre : cvPre ws xs = true) (hE : Hid (cvE ws xs S = E)) (hV : Hid (cvV ws xs S = V)) :
    Calls Try.prog 16 #[.slice A n c, .slice B m d, .int .i64 S] w (RetSA w V E) := by
  have CP := @cell_prev
  obtain ⟨a, rfl⟩ := a
  have a : Sl w A ws.length ws := ⟨a, rfl⟩
  obtain ⟨b, rfl⟩ := b
  have b : Sl w B xs.length xs := ⟨b, rfl⟩
  have hp := hpre
  simp only [cvPre, Bool.and_eq_true, decide_eq_true_eq] at hp
  obtain ⟨⟨⟨⟨⟨h1, h2⟩, h3⟩, h4⟩, h5⟩, h6⟩ := hp
  have H1 := Lib.hid h1
  have H2 := Lib.hid h2
  have d1 : decide ((xs.length : Int) < 2) = false := by simp; omega
  have d2 : decide (3 < (xs.length : Int)) = false := by simp; omega
  have y1 : IntKind.i64.wrap ((xs.length : Int) + 1) = (xs.length : Int) + 1 := IntWalk.i64_in _ (by omega)
  have d3 : ((ws.length : Int) != (xs.length : Int) + 1) = false := by simp; omega
  have hlen : 3 ≤ ws.length ∧ ws.length ≤ 4 := by omega
  have x1 : (1 : Int) < (ws.length : Int) := by omega
  have x2 : 0 < xs.length := by omega
  obtain ⟨M1, hM1⟩ : ∃ M1, xs.length - 1 = M1 := ⟨_, rfl⟩
  have hM2 : M1 + 2 = ws.length ∧ M1 ≤ 2 ∧ M1 + 1 = xs.length := by omega
  have HM2 := Lib.hid hM2
  obtain ⟨ba, oa, z0, rfl, oba, ca0, hz0⟩ := a.get (k := 0) (by omega)
  obtain ⟨z1, hz1⟩ : ∃ z, ws[1]? = some z := ⟨_, List.getElem?_eq_getElem (by omega)⟩
  have ca1 := a.rd.all hz1
  obtain ⟨bb, ob, x0, rfl, obb, cb0, hx0⟩ := b.get (k := 0) (by omega)
  simp only [Nat.add_zero] at ca0 cb0
  have g0 : ws.getD 0 0 = z0 := by rw [List.getD_eq_getElem?_getD, hz0.out]; rfl
  obtain rfl : z1 = x0 := by
    have g1 : ws.getD 1 0 = z1 := by rw [List.getD_eq_getElem?_getD, hz1]; rfl
    have g2 : xs.getD 0 0 = x0 := by rw [List.getD_eq_getElem?_getD, hx0.out]; rfl
    rw [← g1, h6, g2]
  have d4 : (z1 != z1) = false := by simp
  have hld := ld.le
  have l1 := slice_lo (P := Try.prog) 23 (by kernel_rfl) (by kernel_rfl) bb ob xs.length d 1 (by omega) (by omega)
  rw [hM1] at l1
  simp only [Int.cast_ofNat_Int] at l1
  have HV0 : Hid (cvV0 ws xs S = z0 :: cvWins ws xs S M1) := Lib.hid (by rw [cvV0, g0, hM1])
  have HP := Lib.hid hpre
  have HM1 := Lib.hid hM1
  clear g0 hz0 hx0 hpre h1 h2 hz1 h5 h6 hM1 hM2
  go_enter Try.func16, Try.ntmps16
  go_wp2_with (first | (go_at_call 46; (try first | (with_reducible refine gen_boxK3 (fun u _ _ _ _ => ?_)) | (with_reducible refine gen_boxK2 (fun u _ _ _ => ?_)) | (with_reducible refine gen_boxK (fun u _ _ => ?_))); (with_reducible refine (aS_rightN (by omega) H1).mono ?_); rintro e u ⟨rfl, _⟩) | (go_at_call 46; (try first | (with_reducible refine gen_boxK3 (fun u _ _ _ _ => ?_)) | (with_reducible refine gen_boxK2 (fun u _ _ _ => ?_)) | (with_reducible refine gen_boxK (fun u _ _ => ?_))); (with_reducible refine (aS_rightN (by omega) H2).mono ?_); rintro e u ⟨rfl, _⟩))
  refine wp_region_up0 (by kernel_rfl) (fun u3 _ => ?_)
  refine wpAnyH_on (i := 0) (d := 21) (v := ?_) rfl rfl (by kernel_rfl) (by kernel_rfl) (by kernel_rfl) (fun _ _ _ h => h) (by kernel_rfl) (prev_bel _ _) ?_ ?_
  rotate_left
  · intro uu (pu : Prev uu _)
    go_simp
    try (with_reducible rfl)
  try simp only [List.set]
  refine wpAnyH_on (i := 1) (d := 22) (v := ?_) rfl rfl (by kernel_rfl) (by kernel_rfl) (by kernel_rfl) (fun _ _ _ h => h) (by kernel_rfl) (prev_bel _ _) ?_ ?_
  rotate_left
  · intro uu (pu : Prev uu _)
    go_simp
    try (with_reducible rfl)
  try simp only [List.set]
  refine wpAnyH_on (i := 2) (d := 23) (v := ?_) rfl rfl (by kernel_rfl) (by kernel_rfl) (by kernel_rfl) (fun _ _ _ h => h) (by kernel_rfl) (prev_bel _ _) ?_ ?_
  rotate_left
  · intro uu (pu : Prev uu _)
    go_simp
    try (with_reducible rfl)
  try simp only [List.set]
  refine wpAnyH_on (i := 3) (d := 24) (v := ?_) rfl rfl (by kernel_rfl) (by kernel_rfl) (by kernel_rfl) (fun _ _ _ h => h) (by kernel_rfl) (prev_bel _ _) ?_ ?_
  rotate_left
  · intro uu (pu : Prev uu _)
    go_simp
    try (with_reducible rfl)
  try simp only [List.set]
  refine wpAnyH_on (i := 4) (d := 25) (v := ?_) rfl rfl (by kernel_rfl) (by kernel_rfl) (by kernel_rfl) (fun _ _ _ h => h) (by kernel_rfl) (prev_bel _ _) ?_ ?_
  rotate_left
  · intro uu (pu : Prev uu _)
    go_simp
    try (with_reducible rfl)
  try simp only [List.set]
  refine wpAnyH_on (i := 5) (d := 26) (v := ?_) rfl rfl (by kernel_rfl) (by kernel_rfl) (by kernel_rfl) (fun _ _ _ h => h) (by kernel_rfl) (prev_bel _ _) ?_ ?_
  rotate_left
  · intro uu (pu : Prev uu _)
    go_simp
    try (with_reducible rfl)
  try simp only [List.set]
  refine wpAnyH_on (i := 6) (d := 27) (v := ?_) rfl rfl (by kernel_rfl) (by kernel_rfl) (by kernel_rfl) (fun _ _ _ h => h) (by kernel_rfl) (prev_bel _ _) ?_ ?_
  rotate_left
  · intro uu (pu : Prev uu _)
    go_simp
    try (with_reducible rfl)
  try simp only [List.set]
  refine wpAnyH_on (i := 7) (d := 28) (v := ?_) rfl rfl (by kernel_rfl) (by kernel_rfl) (by kernel_rfl) (fun _ _ _ h => h) (by kernel_rfl) (prev_bel _ _) ?_ ?_
  rotate_left
  · intro uu (pu : Prev uu _)
    go_simp
    try (with_reducible rfl)
  try simp only [List.set]
  refine wpAnyH_on (i := 8) (d := 29) (v := ?_) rfl rfl (by kernel_rfl) (by kernel_rfl) (by kernel_rfl) (fun _ _ _ h => h) (by kernel_rfl) (prev_bel _ _) ?_ ?_
  rotate_left
  · intro uu (pu : Prev uu _)
    go_simp
    try (with_reducible rfl)
  try simp only [List.set]
  refine wpAnyH_on (i := 9) (d := 30) (v := ?_) rfl rfl (by kernel_rfl) (by kernel_rfl) (by kernel_rfl) (fun _ _ _ h => h) (by kernel_rfl) (prev_bel _ _) ?_ ?_
  rotate_left
  · intro uu (pu : Prev uu _)
    go_simp
    try (with_reducible rfl)
  try simp only [List.set]
  refine wpAnyH_on (i := 10) (d := 31) (v := ?_) rfl rfl (by kernel_rfl) (by kernel_rfl) (by kernel_rfl) (fun _ _ _ h => h) (by kernel_rfl) (prev_bel _ _) ?_ ?_
  rotate_left
  · intro uu (pu : Prev uu _)
    go_simp
    try (with_reducible rfl)
  try simp only [List.set]
  refine wpAnyH_on (i := 11) (d := 32) (v := ?_) rfl rfl (by kernel_rfl) (by kernel_rfl) (by kernel_rfl) (fun _ _ _ h => h) (by kernel_rfl) (prev_bel _ _) ?_ ?_
  rotate_left
  · intro uu (pu : Prev uu _)
    go_simp
    try (with_reducible rfl)
  try simp only [List.set]
  refine wpAnyH_on (i := 12) (d := 33) (v := ?_) rfl rfl (by kernel_rfl) (by kernel_rfl) (by kernel_rfl) (fun _ _ _ h => h) (by kernel_rfl) (prev_bel _ _) ?_ ?_
  rotate_left
  · intro uu (pu : Prev uu _)
    go_simp
    try (with_reducible rfl)
  try simp only [List.set]
  refine wpAnyH_on (i := 13) (d := 34) (v := ?_) rfl rfl (by kernel_rfl) (by kernel_rfl) (by kernel_rfl) (fun _ _ _ h => h) (by kernel_rfl) (prev_bel _ _) ?_ ?_
  rotate_left
  · intro uu (pu : Prev uu _)
    go_simp
    try (with_reducible rfl)
  try simp only [List.set]
  refine wpAnyH_on (i := 14) (d := 35) (v := ?_) rfl rfl (by kernel_rfl) (by kernel_rfl) (by kernel_rfl) (fun _ _ _ h => h) (by kernel_rfl) (prev_bel _ _) ?_ ?_
  rotate_left
  · intro uu (pu : Prev uu _)
    go_simp
    try (with_reducible rfl)
  try simp only [List.set]
  refine wpAnyH_on (i := 15) (d := 36) (v := ?_) rfl rfl (by kernel_rfl) (by kernel_rfl) (by kernel_rfl) (fun _ _ _ h => h) (by kernel_rfl) (prev_bel _ _) ?_ ?_
  rotate_left
  · intro uu (pu : Prev uu _)
    go_simp
    try (with_reducible rfl)
  try simp only [List.set]
  refine wpAnyH_on (i := 16) (d := 37) (v := ?_) rfl rfl (by kernel_rfl) (by kernel_rfl) (by kernel_rfl) (fun _ _ _ h => h) (by kernel_rfl) (prev_bel _ _) ?_ ?_
  rotate_left
  · intro uu (pu : Prev uu _)
    go_simp
    try (with_reducible rfl)
  try simp only [List.set]
  refine wpAnyH_on (i := 17) (d := 38) (v := ?_) rfl rfl (by kernel_rfl) (by kernel_rfl) (by kernel_rfl) (fun _ _ _ h => h) (by kernel_rfl) (prev_bel _ _) ?_ ?_
  rotate_left
  · intro uu (pu : Prev uu _)
    go_simp
    try (with_reducible rfl)
  try simp only [List.set]
  refine wpAnyH_on (i := 18) (d := 39) (v := ?_) rfl rfl (by kernel_rfl) (by kernel_rfl) (by kernel_rfl) (fun _ _ _ h => h) (by kernel_rfl) (prev_bel _ _) ?_ ?_
  rotate_left
  · intro uu (pu : Prev uu _)
    go_simp
    try (with_reducible rfl)
  try simp only [List.set]
  refine wpAnyH_on (i := 19) (d := 40) (v := ?_) rfl rfl (by kernel_rfl) (by kernel_rfl) (by kernel_rfl) (fun _ _ _ h => h) (by kernel_rfl) (prev_bel _ _) ?_ ?_
  rotate_left
  · intro uu (pu : Prev uu _)
    go_simp
    try (with_reducible rfl)
  try simp only [List.set]
  refine wpAnyH_on (i := 20) (d := 41) (v := ?_) rfl rfl (by kernel_rfl) (by kernel_rfl) (by kernel_rfl) (fun _ _ _ h => h) (by kernel_rfl) (prev_bel _ _) ?_ ?_
  rotate_left
  · intro uu (pu : Prev uu _)
    go_simp
    try (with_reducible rfl)
  try simp only [List.set]
  refine wpAnyH_on (i := 21) (d := 42) (v := ?_) rfl rfl (by kernel_rfl) (by kernel_rfl) (by kernel_rfl) (fun _ _ _ h => h) (by kernel_rfl) (prev_bel _ _) ?_ ?_
  rotate_left
  · intro uu (pu : Prev uu _)
    go_simp
    try (with_reducible rfl)
  try simp only [List.set]
  refine wpAnyH_on (i := 22) (d := 43) (v := ?_) rfl rfl (by kernel_rfl) (by kernel_rfl) (by kernel_rfl) (fun _ _ _ h => h) (by kernel_rfl) (prev_bel _ _) ?_ ?_
  rotate_left
  · intro uu (pu : Prev uu _)
    go_simp
    try (with_reducible rfl)
  try simp only [List.set]
  refine wpAnyH_on (i := 23) (d := 44) (v := ?_) rfl rfl (by kernel_rfl) (by kernel_rfl) (by kernel_rfl) (fun _ _ _ h => h) (by kernel_rfl) (prev_bel _ _) ?_ ?_
  rotate_left
  · intro uu (pu : Prev uu _)
    go_simp
    try (with_reducible rfl)
  try simp only [List.set]
  refine wpAnyH_on (i := 24) (d := 45) (v := ?_) rfl rfl (by kernel_rfl) (by kernel_rfl) (by kernel_rfl) (fun _ _ _ h => h) (by kernel_rfl) (prev_bel _ _) ?_ ?_
  rotate_left
  · intro uu (pu : Prev uu _)
    go_simp
    try (with_reducible rfl)
  try simp only [List.set]
  refine wpAnyH_done (by kernel_rfl) ?_ _
  go_upto_region 6 with fail
  obtain ⟨v, hv⟩ : ∃ v : World, v = u3.alloc (.cells #[.int .i64 z0] 3) := ⟨_, rfl⟩
  have pv : Prev v u3 := hv ▸ Prev.alloc _ _
  have ho : OwnA v u3.heap.size 3 (some ⟨u3.heap.size, 0, none⟩) 1 [z0] := by rw [hv]; exact OwnA.of_own (zs := [z0]) (Own.new u3 3 [z0]) (Nat.le_refl _) (by simp)
  rw [← hv]
  clear hv
  obtain ⟨A0, hA0⟩ : ∃ A0, (some ⟨u3.heap.size, 0, none⟩ : Option Addr) = A0 := ⟨_, rfl⟩
  rw [hA0] at ho ⊢
  clear hA0
  go_wp2_with fail
  go_loopw [8, 53] (fun p q wr => ∃ (k : Nat) (A' : Option Addr) (c' : Nat) (L : List Int), k ≤ M1 ∧ q = .int .i64 k ∧ p = .slice A' L.length c' ∧ Hid (L = z0 :: cvWins ws xs S k) ∧ L.length ≤ 10 ∧ Hid (∀ i, i < k → cvWin ws xs S i = true) ∧ OwnA wr u3.heap.size 3 A' c' L ∧ Prev wr u3) (fun _ q _ => M1 - (intOf q).toNat)
  case atStart => exact ⟨0, A0, 1, [z0], Nat.zero_le _, rfl, rfl, Lib.hid rfl, by simp, Lib.hid fun i hi => by omega, ho, prev_bel _ _⟩
  case round =>
    clear ho
    obtain ⟨k, A', c', L, hk, rfl, rfl, HL, hL, HW, hown, hp⟩ := hrel
    by_cases hlt : k < M1
    · obtain ⟨x, hx⟩ : ∃ x, xs[1 + k]? = some x := ⟨_, List.getElem?_eq_getElem (by have := HM2.out; omega)⟩
      obtain ⟨y, hy⟩ : ∃ y, ws[k + 2]? = some y := ⟨_, List.getElem?_eq_getElem (by have := HM2.out; omega)⟩
      have cx := b.rd.all hx
      have cy := a.rd.all hy
      rw [← Nat.add_assoc] at cx
      have hk2 : k + 2 < ws.length := by have := HM2.out; omega
      have gx : xs.getD (k + 1) 0 = x := by rw [List.getD_eq_getElem?_getD, Nat.add_comm k 1, hx]; rfl
      have gy : ws.getD (k + 2) 0 = y := by rw [List.getD_eq_getElem?_getD, hy]; rfl
      obtain ⟨q, hq⟩ : ∃ q, winV x y S = q := ⟨_, rfl⟩
      have HQ := Lib.hid hq
      rcases hw : winOk x y S with _ | _
      · have HE : Hid (winE x y S = 11) := Lib.hid (by simp [winE, hw])
        have e1 : cvE ws xs S = 11 := by rw [cvE, HP.out, cvAll_no (i := k) (by rw [HM1.out]; exact hlt) (by rw [cvWin, gx, gy]; exact hw)]; rfl
        obtain rfl : E = 11 := by rw [← hE.out, e1]
        obtain rfl : V = [] := by rw [← hV.out, cvV, e1]; rfl
        clear hx hy gx gy hq e1 hw
        go_wp2_with (first | (go_at_call 47; (try first | (with_reducible refine gen_boxK3 (fun u _ _ _ _ => ?_)) | (with_reducible refine gen_boxK2 (fun u _ _ _ => ?_)) | (with_reducible refine gen_boxK (fun u _ _ => ?_))); (with_reducible refine (aS_windowN HQ HE).mono ?_); rintro e u ⟨rfl, _⟩))
        go_ret2
        exact ⟨none, 0, rfl, Sl.empty, ⟨Nat.le_refl _⟩, Fre.none, prev_bel _ _⟩
      · have HE : Hid (winE x y S = 0) := Lib.hid (by simp [winE, hw])
        have HW2 : Hid (∀ i, i < k + 1 → cvWin ws xs S i = true) := Lib.hid fun i hi => by
          by_cases h : i = k
          · subst h; rw [cvWin, gx, gy]; exact hw
          · exact HW.out i (by omega)
        have HN : Hid (L ++ [q] = z0 :: cvWins ws xs S (k + 1)) := Lib.hid (by rw [cvWins_succ, gx, gy, hq, HL.out]; rfl)
        clear hx hy gx gy hq hw
        go_wp2_with (first | (first | (go_at_call 47; (try first | (with_reducible refine gen_boxK3 (fun u _ _ _ _ => ?_)) | (with_reducible refine gen_boxK2 (fun u _ _ _ => ?_)) | (with_reducible refine gen_boxK (fun u _ _ => ?_))); (with_reducible refine (aS_windowN HQ HE).mono ?_); rintro e u ⟨rfl, _⟩)) | (at_builtin; refine wpList_pushI rfl _ _ _ rfl 3 Try.underlying23 (by kernel_rfl) u3.heap.size A' c' L rfl hown.at q rfl (by omega) later_size ?_; intro A3 c3 w3 ho3 hb3 _ _))
        have : Prev w3 u3 := ⟨(bel u3 _).trans hb3⟩
        go_roundw
        case rel => exact ⟨k + 1, A3, c3, L ++ [q], by omega, by go_num, by simp, HN, by have := congrArg List.length HN.out; rw [List.length_cons, cvWins_len] at this; have := HM2.out; omega, HW2, ho3, prev_bel _ _⟩
        case measure => simp [intOf]; omega
    · obtain rfl : M1 = k := by omega
      have hall : cvAll ws xs S = true := cvAll_yes (by rw [HM1.out]; exact HW.out)
      have sL : Sl wr A' L.length L := ⟨hown.rd, rfl⟩
      have hL0 : cvV0 ws xs S = L := by rw [HV0.out, HL.out]
      rcases hr : rightB L with _ | _
      · have HR := Lib.hid hr
        have e1 : cvE ws xs S = 20 := by rw [cvE, HP.out, hall, hL0, hr]; rfl
        obtain rfl : E = 20 := by rw [← hE.out, e1]
        obtain rfl : V = [] := by rw [← hV.out, cvV, e1]; rfl
        clear hr e1 hL0 hall
        go_wp2_with (first | (go_at_call 46; (try first | (with_reducible refine gen_boxK3 (fun u _ _ _ _ => ?_)) | (with_reducible refine gen_boxK2 (fun u _ _ _ => ?_)) | (with_reducible refine gen_boxK (fun u _ _ => ?_))); (with_reducible refine (aS_rightN (by omega) HR).mono ?_); rintro e u ⟨rfl, _⟩))
        go_ret2
        exact ⟨none, 0, rfl, Sl.empty, ⟨Nat.le_refl _⟩, Fre.none, prev_bel _ _⟩
      · have HR := Lib.hid hr
        have e1 : cvE ws xs S = 0 := by rw [cvE, HP.out, hall, hL0, hr]; rfl
        obtain rfl : E = 0 := by rw [← hE.out, e1]
        obtain rfl : L = V := by rw [← hV.out, cvV, e1, hL0]; rfl
        clear hr e1 hL0 hall
        go_wp2_with (first | (go_at_call 46; (try first | (with_reducible refine gen_boxK3 (fun u _ _ _ _ => ?_)) | (with_reducible refine gen_boxK2 (fun u _ _ _ => ?_)) | (with_reducible refine gen_boxK (fun u _ _ => ?_))); (with_reducible refine (aS_rightN (by omega) HR).mono ?_); rintro e u ⟨rfl, _⟩))
        go_ret2
        exact ⟨A', c', rfl, inferInstance, ⟨hown.len_le⟩, ⟨fun ad e => Nat.le_trans (later_size (w := w) (w' := u3)) (hown.fresh ad e)⟩, prev_bel _ _⟩
theorem cv_shape [a : Sl w A n ws] [b : Sl w B m xs] [ld : Le m d] (hn : n ≤ 1000000) (hm : m ≤ 1000000) {S E : Int} {V : List Int} (hE : Hid (cvE ws xs S = E)) (hV : Hid (cvV ws xs S = V)) :
    Calls Try.prog 16 #[.slice A n c, .slice B m d, .int .i64 S] w (RetSA w V E) := by
  rcases hp : cvPre ws xs with _ | _
  · obtain ⟨e1, e2⟩ := cvE_pre (S := S) hp
    obtain rfl : E = 20 := by rw [← hE.out, e1]
    obtain rfl : V = [] := by rw [← hV.out, e2]
    exact cv_shape_pre hn hm hp
  · exact cv_shape_ok hp hE hV
end

end Go.Proofs.Yteibgdcieaiaiaa
