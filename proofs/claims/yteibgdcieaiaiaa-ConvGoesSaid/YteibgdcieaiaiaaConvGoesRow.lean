/- ConvGoes: for every input the statement returns true, and each argument reads afterwards as it read before. No condition. -/
import Derived.Test.YteibgdcieaiaiaaLaw07b
import Derived.Test.YteibgdcieaiaiaaLaw07d
import Derived.Test.YteibgdcieaiaiaaRef07b
import Derived.Test.YteibgdcieaiaiaaRows
import Derived.Test.YteibgdcieaiaiaaOpen

namespace Go.Proofs.Yteibgdcieaiaiaa
open Go.RowKit

theorem cvV_len (ws xs : List Int) (S : Int) : (cvV ws xs S).length ≤ xs.length + 1 := by
  unfold cvV
  split
  · rw [cvV0, List.length_cons, cvWins_len]; omega
  · simp
set_option maxRecDepth 100000 in
set_option maxHeartbeats 4000000 in
theorem convShapes_calls (A B : Option Addr) (c d : Nat) (ws xs : List Int) (S : Int) (w : World) (iA : IntsIn w A c ws) (iB : IntsIn w B d xs) :
    Calls Try.prog 3 #[.slice A ws.length c, .slice B xs.length d, .int .i64 S] w (LawTrue w) := by
  have a : Sl w A ws.length ws := ⟨iA.rd, rfl⟩
  have b : Sl w B xs.length xs := ⟨iB.rd, rfl⟩
  have ld : Le xs.length d := ⟨iB.2.1⟩
  clear iA iB
  have CP := @cell_prev
  rcases hs : (decide (ws.length ≤ 9) && decide (xs.length ≤ 9)) with _ | _
  · go_enter Try.func3, Try.ntmps3
    go_wp2_with (first | (go_at_call 14; (try first | (with_reducible refine gen_boxK3 (fun u _ _ _ _ => ?_)) | (with_reducible refine gen_boxK2 (fun u _ _ _ => ?_)) | (with_reducible refine gen_boxK (fun u _ _ => ?_))); (with_reducible refine (a07_fewH hs).mono ?_); rintro e u ⟨rfl, _⟩) | (go_at_call 15; (try first | (with_reducible refine gen_boxK3 (fun u _ _ _ _ => ?_)) | (with_reducible refine gen_boxK2 (fun u _ _ _ => ?_)) | (with_reducible refine gen_boxK (fun u _ _ => ?_))); (with_reducible refine (a07_awake).mono ?_); rintro e u ⟨rfl, _⟩))
    go_ret
    exact ⟨rfl, bel w _⟩
  have hs' := hs
  simp only [Bool.and_eq_true, decide_eq_true_eq] at hs'
  obtain ⟨hl1, hl2⟩ := hs'
  obtain ⟨V, hV⟩ : ∃ V, cvV ws xs S = V := ⟨_, rfl⟩
  obtain ⟨E, hE⟩ : ∃ E, cvE ws xs S = E := ⟨_, rfl⟩
  have hVl : V.length ≤ 10 := by have := cvV_len ws xs S; rw [hV] at this; omega
  have HV := Lib.hid hV
  have HE := Lib.hid hE
  clear hV hE
  go_enter Try.func3, Try.ntmps3
  go_wp2_with (first | (go_at_call 14; (try first | (with_reducible refine gen_boxK3 (fun u _ _ _ _ => ?_)) | (with_reducible refine gen_boxK2 (fun u _ _ _ => ?_)) | (with_reducible refine gen_boxK (fun u _ _ => ?_))); (with_reducible refine (a07_fewH hs).mono ?_); rintro e u ⟨rfl, _⟩) | (go_at_call 16; (try first | (with_reducible refine gen_boxK3 (fun u _ _ _ _ => ?_)) | (with_reducible refine gen_boxK2 (fun u _ _ _ => ?_)) | (with_reducible refine gen_boxK (fun u _ _ => ?_))); (with_reducible refine (cv_shape (by omega) (by omega) HE HV).mono ?_); rintro e u ⟨A', c', rfl, sJ, lJ, fJ, _⟩) | (go_at_call 17; (try first | (with_reducible refine gen_boxK3 (fun u _ _ _ _ => ?_)) | (with_reducible refine gen_boxK2 (fun u _ _ _ => ?_)) | (with_reducible refine gen_boxK (fun u _ _ => ?_))); (with_reducible refine (a07_told (by omega) (by omega) HE HV).mono ?_); rintro e u ⟨A', c', rfl, sJ, lJ, fJ, _⟩) | (go_at_call 18; (try first | (with_reducible refine gen_boxK3 (fun u _ _ _ _ => ?_)) | (with_reducible refine gen_boxK2 (fun u _ _ _ => ?_)) | (with_reducible refine gen_boxK (fun u _ _ => ?_))); (with_reducible refine (a03_sameT (by omega) (by omega)).mono ?_); rintro e u ⟨rfl, _⟩) | (go_at_call 15; (try first | (with_reducible refine gen_boxK3 (fun u _ _ _ _ => ?_)) | (with_reducible refine gen_boxK2 (fun u _ _ _ => ?_)) | (with_reducible refine gen_boxK (fun u _ _ => ?_))); (with_reducible refine (a07_awake).mono ?_); rintro e u ⟨rfl, _⟩))
  go_ret
  exact ⟨rfl, bel w _⟩

end Go.Proofs.Yteibgdcieaiaiaa

namespace Go.Proofs.Yteibgdcieaiaiaa
open Go.RowKit

/-- The step down: 1, if there is one side. -/
def dnS (f : CF) (ws : List Int) : Nat := if ws.length = 3 then 1 else f.S
section
variable {f : CF} {ws xs V : List Int} {S : Int}
theorem CFof.winD (h : CFof f ws xs V S) : winV (f.H : Int) (f.K : Int) ((dnS f ws : Nat) : Int) = (f.M : Int) := by
  have := h.winH
  unfold dnS
  split
  · rename_i e; rw [if_pos e] at this; exact this
  · rename_i e; rw [if_neg e] at this; exact this
theorem CFof.down (h : CFof f ws xs V S) : ∀ i, i < f.M → i * dnS f ws = i * f.S := by
  intro i hi
  rcases h.is with ⟨-, e, -, -, -, hM⟩ | ⟨-, e, -⟩
  · obtain rfl : i = 0 := by omega
    simp
  · rw [dnS, if_neg (by rw [e]; simp)]
variable {w : World} {A B G : Option Addr} {n m q c d e : Nat}
theorem r7_of [a : Sl w A n ws] [b : Sl w B m xs] (hf : Hid (CFof f ws xs V S)) : Calls Try.prog 24 #[.slice A n c, .slice B m d, .int .i64 S] w (RetV w (plnV f.O f.C f.K f.L f.H f.W (dnS f ws : Nat) f.S)) := by
  have hs := hf.out.s
  rcases hf.out.is with ⟨e1, e2, -, h1, h2, -⟩ | ⟨e1, e2, -⟩
  · subst e1 e2 hs
    obtain rfl : n = 3 := a.len
    obtain rfl : m = 2 := b.len
    rw [show dnS f [(f.O : Int), (f.C : Int), (f.L : Int)] = 1 from by simp [dnS], h1, h2]
    exact r7_of_line
  · subst e1 e2 hs
    obtain rfl : n = 4 := a.len
    obtain rfl : m = 3 := b.len
    rw [show dnS f [(f.O : Int), (f.C : Int), (f.K : Int), (f.L : Int)] = f.S from by simp [dnS]]
    exact r7_of_plane
theorem tRightB_len {zs xs : List Int} (h : tRightB zs xs = true) {k : Nat} (hk : prodL zs = (k : Int)) : xs.length = k := by
  have := ((tRightB_iff _ _).1 h).2
  omega
variable {xw xx xg : List Int}
theorem r7_goes {X : List Int} {zw zx : List Int} [sw : Sl w A n xw] [sx : Sl w B m xx] [iw : I6s xw] [ix : I6s xx] (hf : Hid (CFof f zw zx V S)) (h1 : tRightB zw xw = true) (h2 : tRightB zx xx = true) (hX : Hid (X = goFold xw xx (f.O * (f.M * f.N)) f.all)) :
    Calls Try.prog 23 #[plnV f.O f.C f.K f.L f.H f.W (dnS f zw : Nat) f.S, .int .i64 0, .slice A n c, .slice B m d, .slice none 0 0] w (RetS w X) := by
  rw [hX.out]
  exact r7_run_go (gs := []) (Lib.hid hf.out.ok) (sw.len.trans (tRightB_len h1 hf.out.w)) (sx.len.trans (tRightB_len h2 hf.out.x)) (Lib.hid hf.out.winD) (Lib.hid hf.out.winW) (Lib.hid hf.out.down)
theorem a07_sameT {E F : Option Addr} {p f : Nat} {zs us : List Int} [a : Sl w A n zs] [b : Sl w B m us] [a' : Sl w E p zs] [b' : Sl w F q us] (hn : n ≤ 1000000) (hm : m ≤ 1000000) (hp : p ≤ 1000000) (hq : q ≤ 1000000) :
    Calls Try.prog 22 #[.agg #[.slice A n c, .slice B m d], .slice E p e, .slice F q f] w (RetV w (.bool true)) := retV_of (a07_same hn hm hp hq) (by simp)
end
theorem goE7_parts {zw xw zx xx : List Int} {S : Int} (h : goE7 zw xw zx xx S = 0) : tRightB zw xw = true ∧ tRightB zx xx = true ∧ cvE zw zx S = 0 := by
  rcases h1 : tRightB zw xw with _ | _
  · rw [goE7, h1] at h; simp at h
  · rcases h2 : tRightB zx xx with _ | _
    · rw [goE7, h1, h2] at h; simp at h
    · rw [goE7, h1, h2] at h
      exact ⟨rfl, rfl, h⟩
set_option maxRecDepth 100000 in
set_option maxHeartbeats 8000000 in
theorem convGoes_calls (A B C D F G : Option Addr) (c d c' d' e e' : Nat) (zw xw zx xx zg xg : List Int) (S : Int) (w : World) (iA : IntsIn w A c zw) (iB : IntsIn w B d xw) (iC : IntsIn w C c' zx) (iD : IntsIn w D d' xx) :
    Calls Try.prog 4 #[.agg #[.slice A zw.length c, .slice B xw.length d, .slice C zx.length c', .slice D xx.length d', .slice F zg.length e, .slice G xg.length e', .int .i64 S]] w (LawTrue w) := by
  have a : Sl w A zw.length zw := ⟨iA.rd, rfl⟩
  have b : Sl w B xw.length xw := ⟨iB.rd, rfl⟩
  have a' : Sl w C zx.length zx := ⟨iC.rd, rfl⟩
  have b' : Sl w D xx.length xx := ⟨iD.rd, rfl⟩
  have i6 : I6s xw := iB.i6
  have i6' : I6s xx := iD.i6
  have lc : Le zw.length c := ⟨iA.2.1⟩
  have lx : Le zx.length c' := ⟨iC.2.1⟩
  clear iA iB iC iD
  have CB := @cell_bx
  have CP := @cell_prev
  rcases hs : ((decide (zw.length ≤ 9) && decide (zx.length ≤ 9)) && decide (zg.length ≤ 9) && decide (xw.length ≤ 200) && decide (xx.length ≤ 200) && decide (xg.length ≤ 400)) with _ | _
  · go_enter Try.func4, Try.ntmps4
    go_wp2_with (first | (go_at_call 19; (try first | (with_reducible refine gen_boxK3 (fun u _ _ _ _ => ?_)) | (with_reducible refine gen_boxK2 (fun u _ _ _ => ?_)) | (with_reducible refine gen_boxK (fun u _ _ => ?_))); (with_reducible refine (a07_small).mono ?_); rintro e u ⟨rfl, _⟩) | (go_at_call 15; (try first | (with_reducible refine gen_boxK3 (fun u _ _ _ _ => ?_)) | (with_reducible refine gen_boxK2 (fun u _ _ _ => ?_)) | (with_reducible refine gen_boxK (fun u _ _ => ?_))); (with_reducible refine (a07_awake).mono ?_); rintro e u ⟨rfl, _⟩))
    go_ret
    exact ⟨rfl, bel w _⟩
  have hs' := hs
  simp only [Bool.and_eq_true, decide_eq_true_eq, and_assoc] at hs'
  obtain ⟨hl1, hl2, hl3, hl4, hl5, hl6⟩ := hs'
  obtain ⟨E, hE⟩ : ∃ E, goE7 zw xw zx xx S = E := ⟨_, rfl⟩
  by_cases h0 : E = 0
  rotate_left
  · have e0 : (E != 0) = true := by simpa using h0
    have HE := Lib.hid hE
    clear h0 hE
    go_enter Try.func4, Try.ntmps4
    go_wp2_with (first | (go_at_call 19; (try first | (with_reducible refine gen_boxK3 (fun u _ _ _ _ => ?_)) | (with_reducible refine gen_boxK2 (fun u _ _ _ => ?_)) | (with_reducible refine gen_boxK (fun u _ _ => ?_))); (with_reducible refine (a07_small).mono ?_); rintro e u ⟨rfl, _⟩) | (go_at_call 20; (try first | (with_reducible refine gen_boxK3 (fun u _ _ _ _ => ?_)) | (with_reducible refine gen_boxK2 (fun u _ _ _ => ?_)) | (with_reducible refine gen_boxK (fun u _ _ => ?_))); (with_reducible refine (cv_go_no (by omega) (by omega) HE e0).mono ?_); rintro e u ⟨A', c', B', d', rfl, sA, sX, lA, lX, fA, fX, _⟩) | (go_at_call 21; (try first | (with_reducible refine gen_boxK3 (fun u _ _ _ _ => ?_)) | (with_reducible refine gen_boxK2 (fun u _ _ _ => ?_)) | (with_reducible refine gen_boxK (fun u _ _ => ?_))); (with_reducible refine (a07_refused (by omega) (by omega) HE).mono ?_); rintro e u ⟨rfl, _⟩) | (go_at_call 15; (try first | (with_reducible refine gen_boxK3 (fun u _ _ _ _ => ?_)) | (with_reducible refine gen_boxK2 (fun u _ _ _ => ?_)) | (with_reducible refine gen_boxK (fun u _ _ => ?_))); (with_reducible refine (a07_awake).mono ?_); rintro e u ⟨rfl, _⟩))
    go_ret
    exact ⟨rfl, bel w _⟩
  subst h0
  have HE := Lib.hid hE
  obtain ⟨h1, h2, hE7⟩ := goE7_parts hE
  obtain ⟨V, hV⟩ : ∃ V, cvV zw zx S = V := ⟨_, rfl⟩
  obtain ⟨f, hf⟩ := cv_nats hE7
  rw [hV] at hf
  have hVl : V.length ≤ 10 := by have := cvV_len zw zx S; rw [hV] at this; omega
  have HF := Lib.hid hf
  have HV := Lib.hid hV
  have HE7 := Lib.hid hE7
  obtain ⟨X, hX⟩ : ∃ X, X = goFold xw xx (f.O * (f.M * f.N)) f.all := ⟨_, rfl⟩
  have hXl : X.length ≤ 65536 := by rw [hX, goFold_len]; exact hf.ok.oy
  have HX := Lib.hid hX
  clear hE hV hf hE7 hX
  go_enter Try.func4, Try.ntmps4
  go_upto_region 8 with (first | (go_at_call 19; (try first | (with_reducible refine gen_boxK3 (fun u _ _ _ _ => ?_)) | (with_reducible refine gen_boxK2 (fun u _ _ _ => ?_)) | (with_reducible refine gen_boxK (fun u _ _ => ?_))); (with_reducible refine (a07_small).mono ?_); rintro e u ⟨rfl, _⟩) | (go_at_call 20; (try first | (with_reducible refine gen_boxK3 (fun u _ _ _ _ => ?_)) | (with_reducible refine gen_boxK2 (fun u _ _ _ => ?_)) | (with_reducible refine gen_boxK (fun u _ _ => ?_))); (with_reducible refine (cv_go_yes (by omega) (by omega) h1 h2 HE7 HV HF HX).mono ?_); rintro e u ⟨A', c', B', d', rfl, sA, sX, lA, lX, fA, fX, _⟩) | (go_at_call 21; (try first | (with_reducible refine gen_boxK3 (fun u _ _ _ _ => ?_)) | (with_reducible refine gen_boxK2 (fun u _ _ _ => ?_)) | (with_reducible refine gen_boxK (fun u _ _ => ?_))); (with_reducible refine (a07_refused (by omega) (by omega) HE).mono ?_); rintro e u ⟨rfl, _⟩) | (go_at_call 17; (try first | (with_reducible refine gen_boxK3 (fun u _ _ _ _ => ?_)) | (with_reducible refine gen_boxK2 (fun u _ _ _ => ?_)) | (with_reducible refine gen_boxK (fun u _ _ => ?_))); (with_reducible refine (a07_told (by omega) (by omega) HE7 HV).mono ?_); rintro e u ⟨A', c', rfl, sJ, lJ, fJ, _⟩))
  obtain ⟨v, rfl⟩ : ∃ v : World, v = u := ⟨_, rfl⟩
  refine wp_region_up v (by kernel_rfl) (fun ux _ => ?_)
  refine wpAnyH_on (i := 0) (d := 50) (v := ?_) rfl rfl (by kernel_rfl) (by kernel_rfl) (by kernel_rfl) (fun _ _ _ h => h) (by kernel_rfl) (prev_bel _ _) ?_ ?_
  rotate_left
  · intro uu (pu : Prev uu _)
    go_simp
    try (with_reducible rfl)
  try simp only [List.set]
  refine wpAnyH_on (i := 1) (d := 51) (v := ?_) rfl rfl (by kernel_rfl) (by kernel_rfl) (by kernel_rfl) (fun _ _ _ h => h) (by kernel_rfl) (prev_bel _ _) ?_ ?_
  rotate_left
  · intro uu (pu : Prev uu _)
    go_simp
    try (with_reducible rfl)
  try simp only [List.set]
  refine wpAnyH_on (i := 2) (d := 52) (v := ?_) rfl rfl (by kernel_rfl) (by kernel_rfl) (by kernel_rfl) (fun _ _ _ h => h) (by kernel_rfl) (prev_bel _ _) ?_ ?_
  rotate_left
  · intro uu (pu : Prev uu _)
    go_simp
    try (with_reducible rfl)
  try simp only [List.set]
  refine wpAnyH_on (i := 3) (d := 53) (v := ?_) rfl rfl (by kernel_rfl) (by kernel_rfl) (by kernel_rfl) (fun _ _ _ h => h) (by kernel_rfl) (prev_bel _ _) ?_ ?_
  rotate_left
  · intro uu (pu : Prev uu _)
    go_simp
    try (with_reducible rfl)
  try simp only [List.set]
  refine wpAnyH_on (i := 4) (d := 54) (v := ?_) rfl rfl (by kernel_rfl) (by kernel_rfl) (by kernel_rfl) (fun _ _ _ h => h) (by kernel_rfl) (prev_bel _ _) ?_ ?_
  rotate_left
  · intro uu (pu : Prev uu _)
    go_simp
    try (with_reducible rfl)
  try simp only [List.set]
  refine wpAnyH_on (i := 5) (d := 55) (v := ?_) rfl rfl (by kernel_rfl) (by kernel_rfl) (by kernel_rfl) (fun _ _ _ h => h) (by kernel_rfl) (prev_bel _ _) ?_ ?_
  rotate_left
  · intro uu (pu : Prev uu _)
    go_simp
    try (with_reducible rfl)
  try simp only [List.set]
  refine wpAnyH_on (i := 6) (d := 56) (v := ?_) rfl rfl (by kernel_rfl) (by kernel_rfl) (by kernel_rfl) (fun _ _ _ h => h) (by kernel_rfl) (prev_bel _ _) ?_ ?_
  rotate_left
  · intro uu (pu : Prev uu _)
    go_simp
    try (with_reducible rfl)
  try simp only [List.set]
  refine wpAnyH_on (i := 7) (d := 57) (v := ?_) rfl rfl (by kernel_rfl) (by kernel_rfl) (by kernel_rfl) (fun _ _ _ h => h) (by kernel_rfl) (prev_bel _ _) ?_ ?_
  rotate_left
  · intro uu (pu : Prev uu _)
    go_simp
    try (with_reducible rfl)
  try simp only [List.set]
  refine wpAnyH_on (i := 8) (d := 58) (v := ?_) rfl rfl (by kernel_rfl) (by kernel_rfl) (by kernel_rfl) (fun _ _ _ h => h) (by kernel_rfl) (prev_bel _ _) ?_ ?_
  rotate_left
  · intro uu (pu : Prev uu _)
    go_simp
    try (with_reducible rfl)
  try simp only [List.set]
  refine wpAnyH_on (i := 9) (d := 59) (v := ?_) rfl rfl (by kernel_rfl) (by kernel_rfl) (by kernel_rfl) (fun _ _ _ h => h) (by kernel_rfl) (prev_bel _ _) ?_ ?_
  rotate_left
  · intro uu (pu : Prev uu _)
    go_simp
    try (with_reducible rfl)
  try simp only [List.set]
  refine wpAnyH_on (i := 10) (d := 60) (v := ?_) rfl rfl (by kernel_rfl) (by kernel_rfl) (by kernel_rfl) (fun _ _ _ h => h) (by kernel_rfl) (prev_bel _ _) ?_ ?_
  rotate_left
  · intro uu (pu : Prev uu _)
    go_simp
    try (with_reducible rfl)
  try simp only [List.set]
  refine wpAnyH_on (i := 11) (d := 61) (v := ?_) rfl rfl (by kernel_rfl) (by kernel_rfl) (by kernel_rfl) (fun _ _ _ h => h) (by kernel_rfl) (prev_bel _ _) ?_ ?_
  rotate_left
  · intro uu (pu : Prev uu _)
    go_simp
    try (with_reducible rfl)
  try simp only [List.set]
  refine wpAnyH_on (i := 12) (d := 62) (v := ?_) rfl rfl (by kernel_rfl) (by kernel_rfl) (by kernel_rfl) (fun _ _ _ h => h) (by kernel_rfl) (prev_bel _ _) ?_ ?_
  rotate_left
  · intro uu (pu : Prev uu _)
    go_simp
    try (with_reducible rfl)
  try simp only [List.set]
  refine wpAnyH_on (i := 14) (d := 64) (v := ?_) rfl rfl (by kernel_rfl) (by kernel_rfl) (by kernel_rfl) (fun _ _ _ h => h) (by kernel_rfl) (prev_bel _ _) ?_ ?_
  rotate_left
  · intro uu (pu : Prev uu _)
    go_simp
    try (with_reducible rfl)
  try simp only [List.set]
  refine wpAnyH_on (i := 15) (d := 65) (v := ?_) rfl rfl (by kernel_rfl) (by kernel_rfl) (by kernel_rfl) (fun _ _ _ h => h) (by kernel_rfl) (prev_bel _ _) ?_ ?_
  rotate_left
  · intro uu (pu : Prev uu _)
    go_simp
    try (with_reducible rfl)
  try simp only [List.set]
  refine wpAnyH_on (i := 17) (d := 67) (v := ?_) rfl rfl (by kernel_rfl) (by kernel_rfl) (by kernel_rfl) (fun _ _ _ h => h) (by kernel_rfl) (prev_bel _ _) ?_ ?_
  rotate_left
  · intro uu (pu : Prev uu _)
    go_simp
    try (with_reducible rfl)
  try simp only [List.set]
  refine wpAnyH_on (i := 18) (d := 68) (v := ?_) rfl rfl (by kernel_rfl) (by kernel_rfl) (by kernel_rfl) (fun _ _ _ h => h) (by kernel_rfl) (prev_bel _ _) ?_ ?_
  rotate_left
  · intro uu (pu : Prev uu _)
    go_simp
    try (with_reducible rfl)
  try simp only [List.set]
  refine wpAnyH_ready (rs := [13]) (by kernel_rfl) (by simp) ?_
  refine AllReadyH.cons rfl (fun K hK => ?_) AllReadyH.nil
  go_simp
  (with_reducible refine (r7_of HF).mono ?_)
  rintro e ux ⟨rfl, _⟩
  dsimp only
  refine hK.out _ _ (prev_bel v _) (fun hHeld => ?_)
  clear hHeld hK K
  try dsimp only [Act.put, List.setIfInBounds_toArray, List.set_cons_zero, List.set_cons_succ]
  refine wpAnyH_ready (rs := [16]) (by kernel_rfl) (by simp) ?_
  refine AllReadyH.cons rfl (fun K hK => ?_) AllReadyH.nil
  go_simp
  (with_reducible refine (a07_cells (by omega)).mono ?_)
  rintro e ux ⟨C1, e1, rfl, s1, l1, _⟩
  dsimp only
  refine hK.out _ _ (prev_bel v _) (fun hHeld => ?_)
  clear hHeld hK K
  try dsimp only [Act.put, List.setIfInBounds_toArray, List.set_cons_zero, List.set_cons_succ]
  refine wpAnyH_ready (rs := [19]) (by kernel_rfl) (by simp) ?_
  refine AllReadyH.cons rfl (fun K hK => ?_) AllReadyH.nil
  go_simp
  (with_reducible refine (a07_cells (by omega)).mono ?_)
  rintro e ux ⟨C2, e2, rfl, s2, l2, _⟩
  dsimp only
  refine hK.out _ _ (prev_bel v _) (fun hHeld => ?_)
  clear hHeld hK K
  try dsimp only [Act.put, List.setIfInBounds_toArray, List.set_cons_zero, List.set_cons_succ]
  refine wpAnyH_ready (rs := [20]) (by kernel_rfl) (by simp) ?_
  refine AllReadyH.cons rfl (fun K hK => ?_) AllReadyH.nil
  go_simp
  (with_reducible refine (r7_goes HF h1 h2 HX).mono ?_)
  rintro e ux ⟨R', r', rfl, sR, _⟩
  dsimp only
  refine hK.out _ _ (prev_bel v _) (fun hHeld => ?_)
  clear hHeld hK K
  try dsimp only [Act.put, List.setIfInBounds_toArray, List.set_cons_zero, List.set_cons_succ]
  refine wpAnyH_ready (rs := [21]) (by kernel_rfl) (by simp) ?_
  refine AllReadyH.cons rfl (fun K hK => ?_) AllReadyH.nil
  go_simp
  (with_reducible refine (a07_sameT (by omega) (by omega) (by omega) (by omega)).mono ?_)
  rintro e ux ⟨rfl, _⟩
  dsimp only
  refine hK.out _ _ (prev_bel v _) (fun hHeld => ?_)
  clear hHeld hK K
  try dsimp only [Act.put, List.setIfInBounds_toArray, List.set_cons_zero, List.set_cons_succ]
  refine wpAnyH_on (i := 22) (d := 72) (v := ?_) rfl rfl (by kernel_rfl) (by kernel_rfl) (by kernel_rfl) (fun _ _ _ h => h) (by kernel_rfl) (prev_bel _ _) ?_ ?_
  rotate_left
  · intro uu (pu : Prev uu _)
    go_simp
    try (with_reducible rfl)
  try simp only [List.set]
  refine wpAnyH_on (i := 23) (d := 73) (v := ?_) rfl rfl (by kernel_rfl) (by kernel_rfl) (by kernel_rfl) (fun _ _ _ h => h) (by kernel_rfl) (prev_bel _ _) ?_ ?_
  rotate_left
  · intro uu (pu : Prev uu _)
    go_simp
    try (with_reducible rfl)
  try simp only [List.set]
  refine wpAnyH_ready (rs := [24]) (by kernel_rfl) (by simp) ?_
  refine AllReadyH.cons rfl (fun K hK => ?_) AllReadyH.nil
  go_simp
  (with_reducible refine (a07_awake).mono ?_)
  rintro e ux ⟨rfl, _⟩
  dsimp only
  refine hK.out _ _ (prev_bel v _) (fun hHeld => ?_)
  clear hHeld hK K
  try dsimp only [Act.put, List.setIfInBounds_toArray, List.set_cons_zero, List.set_cons_succ]
  refine wpAnyH_on (i := 25) (d := 75) (v := ?_) rfl rfl (by kernel_rfl) (by kernel_rfl) (by kernel_rfl) (fun _ _ _ h => h) (by kernel_rfl) (prev_bel _ _) ?_ ?_
  rotate_left
  · intro uu (pu : Prev uu _)
    go_simp
    try (with_reducible rfl)
  try simp only [List.set]
  refine wpAnyH_on (i := 26) (d := 2) (v := ?_) rfl rfl (by kernel_rfl) (by kernel_rfl) (by kernel_rfl) (fun _ _ _ h => h) (by kernel_rfl) (prev_bel _ _) ?_ ?_
  rotate_left
  · intro uu (pu : Prev uu _)
    go_simp
    try (with_reducible rfl)
  try simp only [List.set]
  refine wpAnyH_done (by kernel_rfl) ?_ _
  go_wp2_with fail
  go_ret
  exact ⟨rfl, bel w _⟩

end Go.Proofs.Yteibgdcieaiaiaa

namespace Go.Proofs.Yteibgdcieaiaiaa
open Go.ChangeShapes Go.WideShapes Go.ChangeAt Go.RowKit

set_option maxRecDepth 100000 in
theorem convGoes_lifted (os : Os) (started : os.Started) (H : Type) (enc : TypeId × Value → H) :
    ReturnsInHanded {} Try.checked os 4 .any (Rows.convGoesSpec.pre6 enc Try.prog Try.f4 Rows.convGoesRow.domain false) (Rows.convGoesSpec.post enc Try.prog Try.f4 false true false false) := by
  refine returnsInHanded_of_change (C := Try.checked) ownKnob_none started (by kernel_rfl) Try.func4
    (ChangeSpec.witness6 (enc := enc) (C := Try.checked) false ⟨#[], #[.agg #[.slice none 0 0, .slice none 0 0, .slice none 0 0, .slice none 0 0, .slice none 0 0, .slice none 0 0, .int .i64 0]], []⟩ 8 (by kernel_rfl) (by kernel_rfl) (by kernel_rfl) (by kernel_rfl)) ?_
  intro W base args ds gs before hval0 hW _ _
  have hval : ∀ (j : Nat) t v, Try.f4.params[j]? = some t → args[j]? = some v → Value.okWide Try.prog W .any base t v := hval0
  have hW' := hW
  obtain ⟨p, q, hA0, hV, rfl, _, _⟩ := hW
  have hA : DataW.TrodAll enc Try.prog W 0 (fun _ => true) true Try.f4.params.toList args.toList ds p := hA0
  rw [Try.params4] at hA hval
  have hAll := hA
  obtain ⟨v0, vs0, d0, ds0, p0, q0, hargs, rfl, rfl, h0, r0⟩ := trodAll_cons hA
  obtain ⟨rfl, rfl, rfl⟩ := trodAll_nil r0
  obtain rfl : args = #[v0] := by cases args; simp_all
  obtain ⟨rfl, rfl⟩ := trodVars_none hV
  obtain ⟨cs0, rfl, hsz0⟩ := okWide_struct Try.underlying36 (hval 0 36 v0 rfl rfl)
  obtain ⟨q0a, q0b, q0c, q0d, q0e, q0f, q0g, rfl⟩ := arr7 (hsz0.trans (by kernel_rfl))
  obtain ⟨fuel0, hf0⟩ := h0
  replace hf0 : DataW.trod enc Try.prog W 0 (fun _ => true) true fuel0 36 [q0a, q0b, q0c, q0d, q0e, q0f, q0g] = some _ := hf0
  obtain ⟨_, _, hf0_0⟩ := fld Try.underlying36 hf0 0 _ rfl
  replace hf0_0 : DataW.trod enc Try.prog W 0 (fun _ => true) true _ 34 [q0a, q0b] = some _ := hf0_0
  obtain ⟨_, _, hf0_0_0⟩ := fld Try.underlying34 hf0_0 0 _ rfl
  replace hf0_0_0 : DataW.trod enc Try.prog W 0 (fun _ => true) true _ 23 [q0a] = some _ := hf0_0_0
  obtain ⟨A0a, c0a, z0a, rfl, w0a⟩ := trod_ints Try.underlying23 Try.underlying3 (by kernel_rfl) hf0_0_0
  obtain ⟨_, _, hf0_0_1⟩ := fld Try.underlying34 hf0_0 1 _ rfl
  replace hf0_0_1 : DataW.trod enc Try.prog W 0 (fun _ => true) true _ 32 [q0b] = some _ := hf0_0_1
  obtain ⟨A0b, c0b, z0b, rfl, w0b⟩ := trod_ints Try.underlying32 Try.underlying56 (by kernel_rfl) hf0_0_1
  obtain ⟨_, _, hf0_1⟩ := fld Try.underlying36 hf0 1 _ rfl
  replace hf0_1 : DataW.trod enc Try.prog W 0 (fun _ => true) true _ 34 [q0c, q0d] = some _ := hf0_1
  obtain ⟨_, _, hf0_1_0⟩ := fld Try.underlying34 hf0_1 0 _ rfl
  replace hf0_1_0 : DataW.trod enc Try.prog W 0 (fun _ => true) true _ 23 [q0c] = some _ := hf0_1_0
  obtain ⟨A0c, c0c, z0c, rfl, w0c⟩ := trod_ints Try.underlying23 Try.underlying3 (by kernel_rfl) hf0_1_0
  obtain ⟨_, _, hf0_1_1⟩ := fld Try.underlying34 hf0_1 1 _ rfl
  replace hf0_1_1 : DataW.trod enc Try.prog W 0 (fun _ => true) true _ 32 [q0d] = some _ := hf0_1_1
  obtain ⟨A0d, c0d, z0d, rfl, w0d⟩ := trod_ints Try.underlying32 Try.underlying56 (by kernel_rfl) hf0_1_1
  obtain ⟨_, _, hf0_2⟩ := fld Try.underlying36 hf0 2 _ rfl
  replace hf0_2 : DataW.trod enc Try.prog W 0 (fun _ => true) true _ 34 [q0e, q0f] = some _ := hf0_2
  obtain ⟨_, _, hf0_2_0⟩ := fld Try.underlying34 hf0_2 0 _ rfl
  replace hf0_2_0 : DataW.trod enc Try.prog W 0 (fun _ => true) true _ 23 [q0e] = some _ := hf0_2_0
  obtain ⟨A0e, c0e, z0e, rfl, w0e⟩ := trod_ints Try.underlying23 Try.underlying3 (by kernel_rfl) hf0_2_0
  obtain ⟨_, _, hf0_2_1⟩ := fld Try.underlying34 hf0_2 1 _ rfl
  replace hf0_2_1 : DataW.trod enc Try.prog W 0 (fun _ => true) true _ 32 [q0f] = some _ := hf0_2_1
  obtain ⟨A0f, c0f, z0f, rfl, w0f⟩ := trod_ints Try.underlying32 Try.underlying56 (by kernel_rfl) hf0_2_1
  obtain ⟨_, _, hf0_3⟩ := fld Try.underlying36 hf0 3 _ rfl
  replace hf0_3 : DataW.trod enc Try.prog W 0 (fun _ => true) true _ 3 [q0g] = some _ := hf0_3
  obtain ⟨a0g, rfl, w0g⟩ := trod_int1 Try.underlying3 hf0_3
  clear hA0 hval0
  refine (convGoes_calls A0a A0b A0c A0d A0e A0f c0a c0b c0c c0d c0e c0f z0a z0b z0c z0d z0e z0f a0g W w0a w0b w0c w0d).mono fun e W' ⟨he, bel⟩ => ?_
  subst he
  exact ⟨_, rfl, _, _, _, [], _, [], hW', trodAll_mk1 (shut_bool Try.underlying4 _), trodAll_below laidOut_all (by decide +kernel) hAll bel, rfl, bel.frame _, fun h => by cases h⟩

theorem convGoes_holds : Rows.ConvGoesSaid :=
  OpenClaim.holds_of_wide 4 Try.f4 rfl rfl rfl rfl rfl rfl rfl ⟨rfl, rfl, rfl, rfl, rfl⟩ rfl rfl rfl rfl rfl (by kernel_rfl) Try.func4 (by kernel_rfl)
    (of_decide_eq_true (by kernel_rfl)) (by unfold Func.isWrapper; first | (rw [if_pos (by decide +kernel)]; kernel_rfl) | (rw [if_neg (by decide +kernel)]; exact ⟨rfl, rfl⟩))
    (fun os started H enc _ => convGoes_lifted os started H enc)

end Go.Proofs.Yteibgdcieaiaiaa
