/- ConvBacks: for every input the statement returns true, and each argument reads afterwards as it read before. No condition. -/
import Derived.Test.YteibgdcieaiaiaaLaw07b
import Derived.Test.YteibgdcieaiaiaaLaw07d
import Derived.Test.YteibgdcieaiaiaaRef07b
import Derived.Test.YteibgdcieaiaiaaRef07
import Derived.Test.YteibgdcieaiaiaaRows
import Derived.Test.YteibgdcieaiaiaaOpen

namespace Go.Proofs.Yteibgdcieaiaiaa
open Go.RowKit

theorem cvV_len (ws xs : List Int) (S : Int) : (cvV ws xs S).length ≤ xs.length + 1 := by
  unfold cvV
  split
  · rw [cvV0, List.length_cons, cvWins_len]; omega
  · simp
set_option maxRecDepth 100000 in
set_option maxHeartbeats 4000000 in
theorem convShapes_calls (A B : Option Addr) (c d : Nat) (ws xs : List Int) (S : Int) (w : World) (iA : IntsIn w A c ws) (iB : IntsIn w B d xs) :
    Calls Try.prog 3 #[.slice A ws.length c, .slice B xs.length d, .int .i64 S] w (LawTrue w) := by
  have a : Sl w A ws.length ws := ⟨iA.rd, rfl⟩
  have b : Sl w B xs.length xs := ⟨iB.rd, rfl⟩
  have ld : Le xs.length d := ⟨iB.2.1⟩
  clear iA iB
  have CP := @cell_prev
  rcases hs : (decide (ws.length ≤ 9) && decide (xs.length ≤ 9)) with _ | _
  · go_enter Try.func3, Try.ntmps3
    go_wp2_with (first | (go_at_call 14; (try first | (with_reducible refine gen_boxK3 (fun u _ _ _ _ => ?_)) | (with_reducible refine gen_boxK2 (fun u _ _ _ => ?_)) | (with_reducible refine gen_boxK (fun u _ _ => ?_))); (with_reducible refine (a07_fewH hs).mono ?_); rintro e u ⟨rfl, _⟩) | (go_at_call 15; (try first | (with_reducible refine gen_boxK3 (fun u _ _ _ _ => ?_)) | (with_reducible refine gen_boxK2 (fun u _ _ _ => ?_)) | (with_reducible refine gen_boxK (fun u _ _ => ?_))); (with_reducible refine (a07_awake).mono ?_); rintro e u ⟨rfl, _⟩))
    go_ret
    exact ⟨rfl, bel w _⟩
  have hs' := hs
  simp only [Bool.and_eq_true, decide_eq_true_eq] at hs'
  obtain ⟨hl1, hl2⟩ := hs'
  obtain ⟨V, hV⟩ : ∃ V, cvV ws xs S = V := ⟨_, rfl⟩
  obtain ⟨E, hE⟩ : ∃ E, cvE ws xs S = E := ⟨_, rfl⟩
  have hVl : V.length ≤ 10 := by have := cvV_len ws xs S; rw [hV] at this; omega
  have HV := Lib.hid hV
  have HE := Lib.hid hE
  clear hV hE
  go_enter Try.func3, Try.ntmps3
  go_wp2_with (first | (go_at_call 14; (try first | (with_reducible refine gen_boxK3 (fun u _ _ _ _ => ?_)) | (with_reducible refine gen_boxK2 (fun u _ _ _ => ?_)) | (with_reducible refine gen_boxK (fun u _ _ => ?_))); (with_reducible refine (a07_fewH hs).mono ?_); rintro e u ⟨rfl, _⟩) | (go_at_call 16; (try first | (with_reducible refine gen_boxK3 (fun u _ _ _ _ => ?_)) | (with_reducible refine gen_boxK2 (fun u _ _ _ => ?_)) | (with_reducible refine gen_boxK (fun u _ _ => ?_))); (with_reducible refine (cv_shape (by omega) (by omega) HE HV).mono ?_); rintro e u ⟨A', c', rfl, sJ, lJ, fJ, _⟩) | (go_at_call 17; (try first | (with_reducible refine gen_boxK3 (fun u _ _ _ _ => ?_)) | (with_reducible refine gen_boxK2 (fun u _ _ _ => ?_)) | (with_reducible refine gen_boxK (fun u _ _ => ?_))); (with_reducible refine (a07_told (by omega) (by omega) HE HV).mono ?_); rintro e u ⟨A', c', rfl, sJ, lJ, fJ, _⟩) | (go_at_call 18; (try first | (with_reducible refine gen_boxK3 (fun u _ _ _ _ => ?_)) | (with_reducible refine gen_boxK2 (fun u _ _ _ => ?_)) | (with_reducible refine gen_boxK (fun u _ _ => ?_))); (with_reducible refine (a03_sameT (by omega) (by omega)).mono ?_); rintro e u ⟨rfl, _⟩) | (go_at_call 15; (try first | (with_reducible refine gen_boxK3 (fun u _ _ _ _ => ?_)) | (with_reducible refine gen_boxK2 (fun u _ _ _ => ?_)) | (with_reducible refine gen_boxK (fun u _ _ => ?_))); (with_reducible refine (a07_awake).mono ?_); rintro e u ⟨rfl, _⟩))
  go_ret
  exact ⟨rfl, bel w _⟩

end Go.Proofs.Yteibgdcieaiaiaa

namespace Go.Proofs.Yteibgdcieaiaiaa
open Go.RowKit

/-- The step down: 1, if there is one side. -/
def dnS (f : CF) (ws : List Int) : Nat := if ws.length = 3 then 1 else f.S
section
variable {f : CF} {ws xs V : List Int} {S : Int}
theorem CFof.winD (h : CFof f ws xs V S) : winV (f.H : Int) (f.K : Int) ((dnS f ws : Nat) : Int) = (f.M : Int) := by
  have := h.winH
  unfold dnS
  split
  · rename_i e; rw [if_pos e] at this; exact this
  · rename_i e; rw [if_neg e] at this; exact this
theorem CFof.down (h : CFof f ws xs V S) : ∀ i, i < f.M → i * dnS f ws = i * f.S := by
  intro i hi
  rcases h.is with ⟨-, e, -, -, -, hM⟩ | ⟨-, e, -⟩
  · obtain rfl : i = 0 := by omega
    simp
  · rw [dnS, if_neg (by rw [e]; simp)]
variable {w : World} {A B G : Option Addr} {n m q c d e : Nat}
theorem r7_of [a : Sl w A n ws] [b : Sl w B m xs] (hf : Hid (CFof f ws xs V S)) : Calls Try.prog 24 #[.slice A n c, .slice B m d, .int .i64 S] w (RetV w (plnV f.O f.C f.K f.L f.H f.W (dnS f ws : Nat) f.S)) := by
  have hs := hf.out.s
  rcases hf.out.is with ⟨e1, e2, -, h1, h2, -⟩ | ⟨e1, e2, -⟩
  · subst e1 e2 hs
    obtain rfl : n = 3 := a.len
    obtain rfl : m = 2 := b.len
    rw [show dnS f [(f.O : Int), (f.C : Int), (f.L : Int)] = 1 from by simp [dnS], h1, h2]
    exact r7_of_line
  · subst e1 e2 hs
    obtain rfl : n = 4 := a.len
    obtain rfl : m = 3 := b.len
    rw [show dnS f [(f.O : Int), (f.C : Int), (f.K : Int), (f.L : Int)] = f.S from by simp [dnS]]
    exact r7_of_plane
theorem tRightB_len {zs xs : List Int} (h : tRightB zs xs = true) {k : Nat} (hk : prodL zs = (k : Int)) : xs.length = k := by
  have := ((tRightB_iff _ _).1 h).2
  omega
variable {xw xx xg : List Int}
theorem r7_goes {X : List Int} {zw zx : List Int} [sw : Sl w A n xw] [sx : Sl w B m xx] [iw : I6s xw] [ix : I6s xx] (hf : Hid (CFof f zw zx V S)) (h1 : tRightB zw xw = true) (h2 : tRightB zx xx = true) (hX : Hid (X = goFold xw xx (f.O * (f.M * f.N)) f.all)) :
    Calls Try.prog 23 #[plnV f.O f.C f.K f.L f.H f.W (dnS f zw : Nat) f.S, .int .i64 0, .slice A n c, .slice B m d, .slice none 0 0] w (RetS w X) := by
  rw [hX.out]
  exact r7_run_go (gs := []) (Lib.hid hf.out.ok) (sw.len.trans (tRightB_len h1 hf.out.w)) (sx.len.trans (tRightB_len h2 hf.out.x)) (Lib.hid hf.out.winD) (Lib.hid hf.out.winW) (Lib.hid hf.out.down)
theorem a07_sameT {E F : Option Addr} {p f : Nat} {zs us : List Int} [a : Sl w A n zs] [b : Sl w B m us] [a' : Sl w E p zs] [b' : Sl w F q us] (hn : n ≤ 1000000) (hm : m ≤ 1000000) (hp : p ≤ 1000000) (hq : q ≤ 1000000) :
    Calls Try.prog 22 #[.agg #[.slice A n c, .slice B m d], .slice E p e, .slice F q f] w (RetV w (.bool true)) := retV_of (a07_same hn hm hp hq) (by simp)
end
theorem goE7_parts {zw xw zx xx : List Int} {S : Int} (h : goE7 zw xw zx xx S = 0) : tRightB zw xw = true ∧ tRightB zx xx = true ∧ cvE zw zx S = 0 := by
  rcases h1 : tRightB zw xw with _ | _
  · rw [goE7, h1] at h; simp at h
  · rcases h2 : tRightB zx xx with _ | _
    · rw [goE7, h1, h2] at h; simp at h
    · rw [goE7, h1, h2] at h
      exact ⟨rfl, rfl, h⟩
set_option maxRecDepth 100000 in
set_option maxHeartbeats 8000000 in
theorem convGoes_calls (A B C D F G : Option Addr) (c d c' d' e e' : Nat) (zw xw zx xx zg xg : List Int) (S : Int) (w : World) (iA : IntsIn w A c zw) (iB : IntsIn w B d xw) (iC : IntsIn w C c' zx) (iD : IntsIn w D d' xx) :
    Calls Try.prog 4 #[.agg #[.slice A zw.length c, .slice B xw.length d, .slice C zx.length c', .slice D xx.length d', .slice F zg.length e, .slice G xg.length e', .int .i64 S]] w (LawTrue w) := by
  have a : Sl w A zw.length zw := ⟨iA.rd, rfl⟩
  have b : Sl w B xw.length xw := ⟨iB.rd, rfl⟩
  have a' : Sl w C zx.length zx := ⟨iC.rd, rfl⟩
  have b' : Sl w D xx.length xx := ⟨iD.rd, rfl⟩
  have i6 : I6s xw := iB.i6
  have i6' : I6s xx := iD.i6
  have lc : Le zw.length c := ⟨iA.2.1⟩
  have lx : Le zx.length c' := ⟨iC.2.1⟩
  clear iA iB iC iD
  have CB := @cell_bx
  have CP := @cell_prev
  rcases hs : ((decide (zw.length ≤ 9) && decide (zx.length ≤ 9)) && decide (zg.length ≤ 9) && decide (xw.length ≤ 200) && decide (xx.length ≤ 200) && decide (xg.length ≤ 400)) with _ | _
  · go_enter Try.func4, Try.ntmps4
    go_wp2_with (first | (go_at_call 19; (try first | (with_reducible refine gen_boxK3 (fun u _ _ _ _ => ?_)) | (with_reducible refine gen_boxK2 (fun u _ _ _ => ?_)) | (with_reducible refine gen_boxK (fun u _ _ => ?_))); (with_reducible refine (a07_small).mono ?_); rintro e u ⟨rfl, _⟩) | (go_at_call 15; (try first | (with_reducible refine gen_boxK3 (fun u _ _ _ _ => ?_)) | (with_reducible refine gen_boxK2 (fun u _ _ _ => ?_)) | (with_reducible refine gen_boxK (fun u _ _ => ?_))); (with_reducible refine (a07_awake).mono ?_); rintro e u ⟨rfl, _⟩))
    go_ret
    exact ⟨rfl, bel w _⟩
  have hs' := hs
  simp only [Bool.and_eq_true, decide_eq_true_eq, and_assoc] at hs'
  obtain ⟨hl1, hl2, hl3, hl4, hl5, hl6⟩ := hs'
  obtain ⟨E, hE⟩ : ∃ E, goE7 zw xw zx xx S = E := ⟨_, rfl⟩
  by_cases h0 : E = 0
  rotate_left
  · have e0 : (E != 0) = true := by simpa using h0
    have HE := Lib.hid hE
    clear h0 hE
    go_enter Try.func4, Try.ntmps4
    go_wp2_with (first | (go_at_call 19; (try first | (with_reducible refine gen_boxK3 (fun u _ _ _ _ => ?_)) | (with_reducible refine gen_boxK2 (fun u _ _ _ => ?_)) | (with_reducible refine gen_boxK (fun u _ _ => ?_))); (with_reducible refine (a07_small).mono ?_); rintro e u ⟨rfl, _⟩) | (go_at_call 20; (try first | (with_reducible refine gen_boxK3 (fun u _ _ _ _ => ?_)) | (with_reducible refine gen_boxK2 (fun u _ _ _ => ?_)) | (with_reducible refine gen_boxK (fun u _ _ => ?_))); (with_reducible refine (cv_go_no (by omega) (by omega) HE e0).mono ?_); rintro e u ⟨A', c', B', d', rfl, sA, sX, lA, lX, fA, fX, _⟩) | (go_at_call 21; (try first | (with_reducible refine gen_boxK3 (fun u _ _ _ _ => ?_)) | (with_reducible refine gen_boxK2 (fun u _ _ _ => ?_)) | (with_reducible refine gen_boxK (fun u _ _ => ?_))); (with_reducible refine (a07_refused (by omega) (by omega) HE).mono ?_); rintro e u ⟨rfl, _⟩) | (go_at_call 15; (try first | (with_reducible refine gen_boxK3 (fun u _ _ _ _ => ?_)) | (with_reducible refine gen_boxK2 (fun u _ _ _ => ?_)) | (with_reducible refine gen_boxK (fun u _ _ => ?_))); (with_reducible refine (a07_awake).mono ?_); rintro e u ⟨rfl, _⟩))
    go_ret
    exact ⟨rfl, bel w _⟩
  subst h0
  have HE := Lib.hid hE
  obtain ⟨h1, h2, hE7⟩ := goE7_parts hE
  obtain ⟨V, hV⟩ : ∃ V, cvV zw zx S = V := ⟨_, rfl⟩
  obtain ⟨f, hf⟩ := cv_nats hE7
  rw [hV] at hf
  have hVl : V.length ≤ 10 := by have := cvV_len zw zx S; rw [hV] at this; omega
  have HF := Lib.hid hf
  have HV := Lib.hid hV
  have HE7 := Lib.hid hE7
  obtain ⟨X, hX⟩ : ∃ X, X = goFold xw xx (f.O * (f.M * f.N)) f.all := ⟨_, rfl⟩
  have hXl : X.length ≤ 65536 := by rw [hX, goFold_len]; exact hf.ok.oy
  have HX := Lib.hid hX
  clear hE hV hf hE7 hX
  go_enter Try.func4, Try.ntmps4
  go_upto_region 8 with (first | (go_at_call 19; (try first | (with_reducible refine gen_boxK3 (fun u _ _ _ _ => ?_)) | (with_reducible refine gen_boxK2 (fun u _ _ _ => ?_)) | (with_reducible refine gen_boxK (fun u _ _ => ?_))); (with_reducible refine (a07_small).mono ?_); rintro e u ⟨rfl, _⟩) | (go_at_call 20; (try first | (with_reducible refine gen_boxK3 (fun u _ _ _ _ => ?_)) | (with_reducible refine gen_boxK2 (fun u _ _ _ => ?_)) | (with_reducible refine gen_boxK (fun u _ _ => ?_))); (with_reducible refine (cv_go_yes (by omega) (by omega) h1 h2 HE7 HV HF HX).mono ?_); rintro e u ⟨A', c', B', d', rfl, sA, sX, lA, lX, fA, fX, _⟩) | (go_at_call 21; (try first | (with_reducible refine gen_boxK3 (fun u _ _ _ _ => ?_)) | (with_reducible refine gen_boxK2 (fun u _ _ _ => ?_)) | (with_reducible refine gen_boxK (fun u _ _ => ?_))); (with_reducible refine (a07_refused (by omega) (by omega) HE).mono ?_); rintro e u ⟨rfl, _⟩) | (go_at_call 17; (try first | (with_reducible refine gen_boxK3 (fun u _ _ _ _ => ?_)) | (with_reducible refine gen_boxK2 (fun u _ _ _ => ?_)) | (with_reducible refine gen_boxK (fun u _ _ => ?_))); (with_reducible refine (a07_told (by omega) (by omega) HE7 HV).mono ?_); rintro e u ⟨A', c', rfl, sJ, lJ, fJ, _⟩))
  obtain ⟨v, rfl⟩ : ∃ v : World, v = u := ⟨_, rfl⟩
  refine wp_region_up v (by kernel_rfl) (fun ux _ => ?_)
  refine wpAnyH_on (i := 0) (d := 50) (v := ?_) rfl rfl (by kernel_rfl) (by kernel_rfl) (by kernel_rfl) (fun _ _ _ h => h) (by kernel_rfl) (prev_bel _ _) ?_ ?_
  rotate_left
  · intro uu (pu : Prev uu _)
    go_simp
    try (with_reducible rfl)
  try simp only [List.set]
  refine wpAnyH_on (i := 1) (d := 51) (v := ?_) rfl rfl (by kernel_rfl) (by kernel_rfl) (by kernel_rfl) (fun _ _ _ h => h) (by kernel_rfl) (prev_bel _ _) ?_ ?_
  rotate_left
  · intro uu (pu : Prev uu _)
    go_simp
    try (with_reducible rfl)
  try simp only [List.set]
  refine wpAnyH_on (i := 2) (d := 52) (v := ?_) rfl rfl (by kernel_rfl) (by kernel_rfl) (by kernel_rfl) (fun _ _ _ h => h) (by kernel_rfl) (prev_bel _ _) ?_ ?_
  rotate_left
  · intro uu (pu : Prev uu _)
    go_simp
    try (with_reducible rfl)
  try simp only [List.set]
  refine wpAnyH_on (i := 3) (d := 53) (v := ?_) rfl rfl (by kernel_rfl) (by kernel_rfl) (by kernel_rfl) (fun _ _ _ h => h) (by kernel_rfl) (prev_bel _ _) ?_ ?_
  rotate_left
  · intro uu (pu : Prev uu _)
    go_simp
    try (with_reducible rfl)
  try simp only [List.set]
  refine wpAnyH_on (i := 4) (d := 54) (v := ?_) rfl rfl (by kernel_rfl) (by kernel_rfl) (by kernel_rfl) (fun _ _ _ h => h) (by kernel_rfl) (prev_bel _ _) ?_ ?_
  rotate_left
  · intro uu (pu : Prev uu _)
    go_simp
    try (with_reducible rfl)
  try simp only [List.set]
  refine wpAnyH_on (i := 5) (d := 55) (v := ?_) rfl rfl (by kernel_rfl) (by kernel_rfl) (by kernel_rfl) (fun _ _ _ h => h) (by kernel_rfl) (prev_bel _ _) ?_ ?_
  rotate_left
  · intro uu (pu : Prev uu _)
    go_simp
    try (with_reducible rfl)
  try simp only [List.set]
  refine wpAnyH_on (i := 6) (d := 56) (v := ?_) rfl rfl (by kernel_rfl) (by kernel_rfl) (by kernel_rfl) (fun _ _ _ h => h) (by kernel_rfl) (prev_bel _ _) ?_ ?_
  rotate_left
  · intro uu (pu : Prev uu _)
    go_simp
    try (with_reducible rfl)
  try simp only [List.set]
  refine wpAnyH_on (i := 7) (d := 57) (v := ?_) rfl rfl (by kernel_rfl) (by kernel_rfl) (by kernel_rfl) (fun _ _ _ h => h) (by kernel_rfl) (prev_bel _ _) ?_ ?_
  rotate_left
  · intro uu (pu : Prev uu _)
    go_simp
    try (with_reducible rfl)
  try simp only [List.set]
  refine wpAnyH_on (i := 8) (d := 58) (v := ?_) rfl rfl (by kernel_rfl) (by kernel_rfl) (by kernel_rfl) (fun _ _ _ h => h) (by kernel_rfl) (prev_bel _ _) ?_ ?_
  rotate_left
  · intro uu (pu : Prev uu _)
    go_simp
    try (with_reducible rfl)
  try simp only [List.set]
  refine wpAnyH_on (i := 9) (d := 59) (v := ?_) rfl rfl (by kernel_rfl) (by kernel_rfl) (by kernel_rfl) (fun _ _ _ h => h) (by kernel_rfl) (prev_bel _ _) ?_ ?_
  rotate_left
  · intro uu (pu : Prev uu _)
    go_simp
    try (with_reducible rfl)
  try simp only [List.set]
  refine wpAnyH_on (i := 10) (d := 60) (v := ?_) rfl rfl (by kernel_rfl) (by kernel_rfl) (by kernel_rfl) (fun _ _ _ h => h) (by kernel_rfl) (prev_bel _ _) ?_ ?_
  rotate_left
  · intro uu (pu : Prev uu _)
    go_simp
    try (with_reducible rfl)
  try simp only [List.set]
  refine wpAnyH_on (i := 11) (d := 61) (v := ?_) rfl rfl (by kernel_rfl) (by kernel_rfl) (by kernel_rfl) (fun _ _ _ h => h) (by kernel_rfl) (prev_bel _ _) ?_ ?_
  rotate_left
  · intro uu (pu : Prev uu _)
    go_simp
    try (with_reducible rfl)
  try simp only [List.set]
  refine wpAnyH_on (i := 12) (d := 62) (v := ?_) rfl rfl (by kernel_rfl) (by kernel_rfl) (by kernel_rfl) (fun _ _ _ h => h) (by kernel_rfl) (prev_bel _ _) ?_ ?_
  rotate_left
  · intro uu (pu : Prev uu _)
    go_simp
    try (with_reducible rfl)
  try simp only [List.set]
  refine wpAnyH_on (i := 14) (d := 64) (v := ?_) rfl rfl (by kernel_rfl) (by kernel_rfl) (by kernel_rfl) (fun _ _ _ h => h) (by kernel_rfl) (prev_bel _ _) ?_ ?_
  rotate_left
  · intro uu (pu : Prev uu _)
    go_simp
    try (with_reducible rfl)
  try simp only [List.set]
  refine wpAnyH_on (i := 15) (d := 65) (v := ?_) rfl rfl (by kernel_rfl) (by kernel_rfl) (by kernel_rfl) (fun _ _ _ h => h) (by kernel_rfl) (prev_bel _ _) ?_ ?_
  rotate_left
  · intro uu (pu : Prev uu _)
    go_simp
    try (with_reducible rfl)
  try simp only [List.set]
  refine wpAnyH_on (i := 17) (d := 67) (v := ?_) rfl rfl (by kernel_rfl) (by kernel_rfl) (by kernel_rfl) (fun _ _ _ h => h) (by kernel_rfl) (prev_bel _ _) ?_ ?_
  rotate_left
  · intro uu (pu : Prev uu _)
    go_simp
    try (with_reducible rfl)
  try simp only [List.set]
  refine wpAnyH_on (i := 18) (d := 68) (v := ?_) rfl rfl (by kernel_rfl) (by kernel_rfl) (by kernel_rfl) (fun _ _ _ h => h) (by kernel_rfl) (prev_bel _ _) ?_ ?_
  rotate_left
  · intro uu (pu : Prev uu _)
    go_simp
    try (with_reducible rfl)
  try simp only [List.set]
  refine wpAnyH_ready (rs := [13]) (by kernel_rfl) (by simp) ?_
  refine AllReadyH.cons rfl (fun K hK => ?_) AllReadyH.nil
  go_simp
  (with_reducible refine (r7_of HF).mono ?_)
  rintro e ux ⟨rfl, _⟩
  dsimp only
  refine hK.out _ _ (prev_bel v _) (fun hHeld => ?_)
  clear hHeld hK K
  try dsimp only [Act.put, List.setIfInBounds_toArray, List.set_cons_zero, List.set_cons_succ]
  refine wpAnyH_ready (rs := [16]) (by kernel_rfl) (by simp) ?_
  refine AllReadyH.cons rfl (fun K hK => ?_) AllReadyH.nil
  go_simp
  (with_reducible refine (a07_cells (by omega)).mono ?_)
  rintro e ux ⟨C1, e1, rfl, s1, l1, _⟩
  dsimp only
  refine hK.out _ _ (prev_bel v _) (fun hHeld => ?_)
  clear hHeld hK K
  try dsimp only [Act.put, List.setIfInBounds_toArray, List.set_cons_zero, List.set_cons_succ]
  refine wpAnyH_ready (rs := [19]) (by kernel_rfl) (by simp) ?_
  refine AllReadyH.cons rfl (fun K hK => ?_) AllReadyH.nil
  go_simp
  (with_reducible refine (a07_cells (by omega)).mono ?_)
  rintro e ux ⟨C2, e2, rfl, s2, l2, _⟩
  dsimp only
  refine hK.out _ _ (prev_bel v _) (fun hHeld => ?_)
  clear hHeld hK K
  try dsimp only [Act.put, List.setIfInBounds_toArray, List.set_cons_zero, List.set_cons_succ]
  refine wpAnyH_ready (rs := [20]) (by kernel_rfl) (by simp) ?_
  refine AllReadyH.cons rfl (fun K hK => ?_) AllReadyH.nil
  go_simp
  (with_reducible refine (r7_goes HF h1 h2 HX).mono ?_)
  rintro e ux ⟨R', r', rfl, sR, _⟩
  dsimp only
  refine hK.out _ _ (prev_bel v _) (fun hHeld => ?_)
  clear hHeld hK K
  try dsimp only [Act.put, List.setIfInBounds_toArray, List.set_cons_zero, List.set_cons_succ]
  refine wpAnyH_ready (rs := [21]) (by kernel_rfl) (by simp) ?_
  refine AllReadyH.cons rfl (fun K hK => ?_) AllReadyH.nil
  go_simp
  (with_reducible refine (a07_sameT (by omega) (by omega) (by omega) (by omega)).mono ?_)
  rintro e ux ⟨rfl, _⟩
  dsimp only
  refine hK.out _ _ (prev_bel v _) (fun hHeld => ?_)
  clear hHeld hK K
  try dsimp only [Act.put, List.setIfInBounds_toArray, List.set_cons_zero, List.set_cons_succ]
  refine wpAnyH_on (i := 22) (d := 72) (v := ?_) rfl rfl (by kernel_rfl) (by kernel_rfl) (by kernel_rfl) (fun _ _ _ h => h) (by kernel_rfl) (prev_bel _ _) ?_ ?_
  rotate_left
  · intro uu (pu : Prev uu _)
    go_simp
    try (with_reducible rfl)
  try simp only [List.set]
  refine wpAnyH_on (i := 23) (d := 73) (v := ?_) rfl rfl (by kernel_rfl) (by kernel_rfl) (by kernel_rfl) (fun _ _ _ h => h) (by kernel_rfl) (prev_bel _ _) ?_ ?_
  rotate_left
  · intro uu (pu : Prev uu _)
    go_simp
    try (with_reducible rfl)
  try simp only [List.set]
  refine wpAnyH_ready (rs := [24]) (by kernel_rfl) (by simp) ?_
  refine AllReadyH.cons rfl (fun K hK => ?_) AllReadyH.nil
  go_simp
  (with_reducible refine (a07_awake).mono ?_)
  rintro e ux ⟨rfl, _⟩
  dsimp only
  refine hK.out _ _ (prev_bel v _) (fun hHeld => ?_)
  clear hHeld hK K
  try dsimp only [Act.put, List.setIfInBounds_toArray, List.set_cons_zero, List.set_cons_succ]
  refine wpAnyH_on (i := 25) (d := 75) (v := ?_) rfl rfl (by kernel_rfl) (by kernel_rfl) (by kernel_rfl) (fun _ _ _ h => h) (by kernel_rfl) (prev_bel _ _) ?_ ?_
  rotate_left
  · intro uu (pu : Prev uu _)
    go_simp
    try (with_reducible rfl)
  try simp only [List.set]
  refine wpAnyH_on (i := 26) (d := 2) (v := ?_) rfl rfl (by kernel_rfl) (by kernel_rfl) (by kernel_rfl) (fun _ _ _ h => h) (by kernel_rfl) (prev_bel _ _) ?_ ?_
  rotate_left
  · intro uu (pu : Prev uu _)
    go_simp
    try (with_reducible rfl)
  try simp only [List.set]
  refine wpAnyH_done (by kernel_rfl) ?_ _
  go_wp2_with fail
  go_ret
  exact ⟨rfl, bel w _⟩

end Go.Proofs.Yteibgdcieaiaiaa

namespace Go.Proofs.Yteibgdcieaiaiaa
open Go.RowKit

section
variable {w : World} {A B G : Option Addr} {n m q c d e : Nat}
set_option maxRecDepth 100000 in
set_option maxHeartbeats 8000000 in
theorem r7_run_bw {f : CF} {D : Nat} {ws xs gs : List Int} [sw : Sl w A n ws] [sx : Sl w B m xs] [sg : Sl w G q gs] (hf : Hid (CFok f)) (hn : n = f.O * (f.C * (f.K * f.L))) (hm : m = f.C * (f.H * f.W)) [ix : I6s xs] [ig : I6s gs] (hq : q = f.O * (f.M * f.N))
    (HM : Hid (winV (f.H : Int) (f.K : Int) (D : Int) = (f.M : Int))) (HN : Hid (winV (f.W : Int) (f.L : Int) (f.S : Int) = (f.N : Int))) (HD : Hid (∀ i, i < f.M → i * D = i * f.S)) :
    Calls Try.prog 23 #[plnV f.O f.C f.K f.L f.H f.W D f.S, .int .i64 1, .slice A n c, .slice B m d, .slice G q e] w (RetS w (bwFold gs xs n f.all)) := by
  have CB := @cell_bx
  have CP := @cell_prev
  have FP := @frozen_prev
  have ow := hf.out.ow
  have ox := hf.out.ox
  have oy := hf.out.oy
  obtain ⟨NZ, hNZ⟩ : ∃ NZ, f.O * (f.M * f.N) = NZ := ⟨_, rfl⟩
  have hNZ6 : NZ ≤ 65536 := by omega
  have hlw : ws.length = n := sw.len.symm
  have hlx : xs.length = m := sx.len.symm
  have hlg : gs.length = q := sg.len.symm
  obtain ⟨bw, fw, _, rfl, obw, -, -⟩ := sw.get (k := 0) (by rw [hn]; exact Nat.mul_pos hf.out.o1 (Nat.mul_pos hf.out.c1 (Nat.mul_pos hf.out.k1 hf.out.l1)))
  have hm0 : 0 < m := by rw [hm]; have h1 := frm_lt hf.out (i := 0) (j := 0) (q := 0) (t := 0) (u := 0) hf.out.m1 hf.out.n1 hf.out.c1 hf.out.k1 hf.out.l1; omega
  obtain ⟨bx, fx, _, rfl, obx, -, -⟩ := sx.get (k := 0) hm0
  have HN6 := Lib.hid hn
  have HM6 := Lib.hid hm
  have HNZ := Lib.hid hNZ
  have hn6 : n ≤ 65536 := by omega
  have hm6 : m ≤ 65536 := by omega
  have HLW := Lib.hid hlw
  have HLX := Lib.hid hlx
  have HLG := Lib.hid hlg
  obtain ⟨Q1, hQ1⟩ : ∃ Q1, f.O * f.M = Q1 := ⟨_, rfl⟩
  obtain ⟨Q2, hQ2⟩ : ∃ Q2, Q1 * f.N = Q2 := ⟨_, rfl⟩
  have hq2 : Q2 ≤ 65536 := by rw [← hQ2, ← hQ1, Nat.mul_assoc]; exact oy
  have hq1 : Q1 ≤ Q2 := by rw [← hQ2]; exact Nat.le_mul_of_pos_right _ hf.out.n1
  have z1 : (f.O : Int) * (f.M : Int) = (Q1 : Int) := by rw [← hQ1, Int.natCast_mul]
  have z2 : (Q1 : Int) * (f.N : Int) = (Q2 : Int) := by rw [← hQ2, Int.natCast_mul]
  have HQ6 := Lib.hid hq; clear hq
  have HQ2 : Hid (Q2 = f.O * (f.M * f.N)) := Lib.hid (by rw [← hQ2, ← hQ1, Nat.mul_assoc])
  clear hQ1 hQ2 hn hm hNZ hlw hlx hlg
  have bO : f.O ≤ 65536 ∧ f.M ≤ 65536 ∧ f.N ≤ 65536 := by
    have e1 : f.O * 1 ≤ f.O * (f.M * f.N) := Nat.mul_le_mul_left _ (Nat.mul_pos hf.out.m1 hf.out.n1)
    have e2 : 1 * (f.M * f.N) ≤ f.O * (f.M * f.N) := Nat.mul_le_mul_right _ hf.out.o1
    have e3 : f.M * 1 ≤ f.M * f.N := Nat.mul_le_mul_left _ hf.out.n1
    have e4 : 1 * f.N ≤ f.M * f.N := Nat.mul_le_mul_right _ hf.out.m1
    omega
  have bC : f.C ≤ 65536 ∧ f.K ≤ 65536 ∧ f.L ≤ 65536 := by
    have e1 : 1 * (f.C * (f.K * f.L)) ≤ f.O * (f.C * (f.K * f.L)) := Nat.mul_le_mul_right _ hf.out.o1
    have e2 : f.C * 1 ≤ f.C * (f.K * f.L) := Nat.mul_le_mul_left _ (Nat.mul_pos hf.out.k1 hf.out.l1)
    have e3 : 1 * (f.K * f.L) ≤ f.C * (f.K * f.L) := Nat.mul_le_mul_right _ hf.out.c1
    have e4 : f.K * 1 ≤ f.K * f.L := Nat.mul_le_mul_left _ hf.out.l1
    have e5 : 1 * f.L ≤ f.K * f.L := Nat.mul_le_mul_right _ hf.out.k1
    omega
  clear ow ox oy
  unfold plnV
  go_enter Try.func23, Try.ntmps23
  go_upto_region 1 with fail
  obtain ⟨wb, hwb⟩ : ∃ wb : World, wb = w.alloc (.cells #[.int .i64 f.O, .int .i64 f.C, .int .i64 f.K, .int .i64 f.L, .int .i64 f.H, .int .i64 f.W, .int .i64 D, .int .i64 f.S] 45) := ⟨_, rfl⟩
  have kB : Bx wb w.heap.size 45 #[.int .i64 f.O, .int .i64 f.C, .int .i64 f.K, .int .i64 f.L, .int .i64 f.H, .int .i64 f.W, .int .i64 D, .int .i64 f.S] := by rw [hwb]; exact Bx.new
  have pB : Prev wb w := hwb ▸ Prev.alloc _ _
  rw [← hwb]
  clear hwb
  go_cut [11, 12] (fun p e wx => p = .int .i64 f.M ∧ e = .int .i64 f.N ∧ Prev wx wb)
  case first =>
    refine wp_region_up wb (by kernel_rfl) (fun ux _ => ?_)
    refine wpAnyH_on (i := 0) (d := 24) (v := ?_) rfl rfl (by kernel_rfl) (by kernel_rfl) (by kernel_rfl) (fun _ _ _ h => h) (by kernel_rfl) (prev_bel _ _) ?_ ?_
    rotate_left
    · intro uu (pu : Prev uu _)
      go_simp
      try (with_reducible rfl)
    try simp only [List.set]
    refine wpAnyH_on (i := 1) (d := 25) (v := ?_) rfl rfl (by kernel_rfl) (by kernel_rfl) (by kernel_rfl) (fun _ _ _ h => h) (by kernel_rfl) (prev_bel _ _) ?_ ?_
    rotate_left
    · intro uu (pu : Prev uu _)
      go_simp
      try (with_reducible rfl)
    try simp only [List.set]
    refine wpAnyH_on (i := 2) (d := 26) (v := ?_) rfl rfl (by kernel_rfl) (by kernel_rfl) (by kernel_rfl) (fun _ _ _ h => h) (by kernel_rfl) (prev_bel _ _) ?_ ?_
    rotate_left
    · intro uu (pu : Prev uu _)
      go_simp
      try (with_reducible rfl)
    try simp only [List.set]
    refine wpAnyH_on (i := 3) (d := 27) (v := ?_) rfl rfl (by kernel_rfl) (by kernel_rfl) (by kernel_rfl) (fun _ _ _ h => h) (by kernel_rfl) (prev_bel _ _) ?_ ?_
    rotate_left
    · intro uu (pu : Prev uu _)
      go_simp
      try (with_reducible rfl)
    try simp only [List.set]
    refine wpAnyH_on (i := 4) (d := 28) (v := ?_) rfl rfl (by kernel_rfl) (by kernel_rfl) (by kernel_rfl) (fun _ _ _ h => h) (by kernel_rfl) (prev_bel _ _) ?_ ?_
    rotate_left
    · intro uu (pu : Prev uu _)
      go_simp
      try (with_reducible rfl)
    try simp only [List.set]
    refine wpAnyH_on (i := 5) (d := 29) (v := ?_) rfl rfl (by kernel_rfl) (by kernel_rfl) (by kernel_rfl) (fun _ _ _ h => h) (by kernel_rfl) (prev_bel _ _) ?_ ?_
    rotate_left
    · intro uu (pu : Prev uu _)
      go_simp
      try (with_reducible rfl)
    try simp only [List.set]
    refine wpAnyH_on (i := 7) (d := 31) (v := ?_) rfl rfl (by kernel_rfl) (by kernel_rfl) (by kernel_rfl) (fun _ _ _ h => h) (by kernel_rfl) (prev_bel _ _) ?_ ?_
    rotate_left
    · intro uu (pu : Prev uu _)
      go_simp
      try (with_reducible rfl)
    try simp only [List.set]
    refine wpAnyH_on (i := 8) (d := 32) (v := ?_) rfl rfl (by kernel_rfl) (by kernel_rfl) (by kernel_rfl) (fun _ _ _ h => h) (by kernel_rfl) (prev_bel _ _) ?_ ?_
    rotate_left
    · intro uu (pu : Prev uu _)
      go_simp
      try (with_reducible rfl)
    try simp only [List.set]
    refine wpAnyH_on (i := 9) (d := 33) (v := ?_) rfl rfl (by kernel_rfl) (by kernel_rfl) (by kernel_rfl) (fun _ _ _ h => h) (by kernel_rfl) (prev_bel _ _) ?_ ?_
    rotate_left
    · intro uu (pu : Prev uu _)
      go_simp
      try (with_reducible rfl)
    try simp only [List.set]
    refine wpAnyH_on (i := 10) (d := 34) (v := ?_) rfl rfl (by kernel_rfl) (by kernel_rfl) (by kernel_rfl) (fun _ _ _ h => h) (by kernel_rfl) (prev_bel _ _) ?_ ?_
    rotate_left
    · intro uu (pu : Prev uu _)
      go_simp
      try (with_reducible rfl)
    try simp only [List.set]
    refine wpAnyH_on (i := 11) (d := 35) (v := ?_) rfl rfl (by kernel_rfl) (by kernel_rfl) (by kernel_rfl) (fun _ _ _ h => h) (by kernel_rfl) (prev_bel _ _) ?_ ?_
    rotate_left
    · intro uu (pu : Prev uu _)
      go_simp
      try (with_reducible rfl)
    try simp only [List.set]
    refine wpAnyH_on (i := 12) (d := 36) (v := ?_) rfl rfl (by kernel_rfl) (by kernel_rfl) (by kernel_rfl) (fun _ _ _ h => h) (by kernel_rfl) (prev_bel _ _) ?_ ?_
    rotate_left
    · intro uu (pu : Prev uu _)
      go_simp
      try (with_reducible rfl)
    try simp only [List.set]
    refine wpAnyH_ready (rs := [6]) (by kernel_rfl) (by simp) ?_
    refine AllReadyH.cons rfl (fun K hK => ?_) AllReadyH.nil
    go_simp
    (with_reducible refine (r7_windowH HM).mono ?_)
    rintro e ux ⟨rfl, _⟩
    dsimp only
    refine hK.out _ _ (prev_bel wb _) (fun hHeld => ?_)
    clear hHeld hK K
    try dsimp only [Act.put, List.setIfInBounds_toArray, List.set_cons_zero, List.set_cons_succ]
    refine wpAnyH_ready (rs := [13]) (by kernel_rfl) (by simp) ?_
    refine AllReadyH.cons rfl (fun K hK => ?_) AllReadyH.nil
    go_simp
    (with_reducible refine (r7_windowH HN).mono ?_)
    rintro e ux ⟨rfl, _⟩
    dsimp only
    refine hK.out _ _ (prev_bel wb _) (fun hHeld => ?_)
    clear hHeld hK K
    try dsimp only [Act.put, List.setIfInBounds_toArray, List.set_cons_zero, List.set_cons_succ]
    refine wpAnyH_on (i := 14) (d := 11) (v := ?_) rfl rfl (by kernel_rfl) (by kernel_rfl) (by kernel_rfl) (fun _ _ _ h => h) (by kernel_rfl) (prev_bel _ _) ?_ ?_
    rotate_left
    · intro uu (pu : Prev uu _)
      go_simp
      try (with_reducible rfl)
    try simp only [List.set]
    refine wpAnyH_on (i := 15) (d := 12) (v := ?_) rfl rfl (by kernel_rfl) (by kernel_rfl) (by kernel_rfl) (fun _ _ _ h => h) (by kernel_rfl) (prev_bel _ _) ?_ ?_
    rotate_left
    · intro uu (pu : Prev uu _)
      go_simp
      try (with_reducible rfl)
    try simp only [List.set]
    refine wpAnyH_done (by kernel_rfl) ?_ _
    go_wp2_with fail
    go_meet
    exact ⟨rfl, rfl, prev_bel _ _⟩
  case rest =>
    obtain ⟨rfl, rfl, pv⟩ := hcut
    rename World => v
    have hmk := fun W => run_make_row' (P := Try.prog) 42 2 (.int .i64 0) 8 Try.underlying42 (by kernel_rfl) rfl .i64 .i64 n (by omega) (by omega) W
    rw [ints_made] at hmk
    go_wp2_with fail
    clear hmk
    have hO0 : Own (v.alloc (.cells (ints (List.replicate n 0)) 2)) v.heap.size 2 (bwFold gs xs n []) := Own.new _ _ _
    go_loopw [15] (fun o wr => ∃ p : Nat, p ≤ f.O ∧ o = .int .i64 p ∧ Own wr v.heap.size 2 (bwFold gs xs n (f.pT p)) ∧ Prev wr v) (fun o _ => f.O - (intOf o).toNat)
    case atStart => exact ⟨0, Nat.zero_le _, rfl, hO0, prev_bel _ _⟩
    case round =>
      obtain ⟨p, hp, rfl, hO, hpv⟩ := hrel
      clear hO0
      by_cases hlp : p < f.O
      · go_wp2_with fail
        go_loopw [16] (fun o wr => ∃ i : Nat, i ≤ f.M ∧ o = .int .i64 i ∧ Own wr v.heap.size 2 (bwFold gs xs n (f.pT p ++ f.iT p i)) ∧ Prev wr v) (fun o _ => f.M - (intOf o).toNat)
        case atStart => exact ⟨0, Nat.zero_le _, rfl, by rw [show f.iT p 0 = [] from rfl, List.append_nil]; exact hO, prev_bel _ _⟩
        case round =>
          clear hO
          obtain ⟨i, hi, rfl, hO, hpv⟩ := hrel
          by_cases hli : i < f.M
          · go_wp2_with fail
            go_loopw [17] (fun o wr => ∃ j : Nat, j ≤ f.N ∧ o = .int .i64 j ∧ Own wr v.heap.size 2 (bwFold gs xs n (f.pT p ++ (f.iT p i ++ f.jT p i j))) ∧ Prev wr v) (fun o _ => f.N - (intOf o).toNat)
            case atStart => exact ⟨0, Nat.zero_le _, rfl, by rw [show f.jT p i 0 = [] from rfl, List.append_nil]; exact hO, prev_bel _ _⟩
            case round =>
              clear hO
              obtain ⟨j, hj, rfl, hO, hpv⟩ := hrel
              by_cases hlj : j < f.N
              · obtain ⟨A1, A2, PL, m1, m2, m3, HPL, bPL, bA⟩ := r7_place hf.out hlp hli hlj
                rw [← HQ2.out] at bPL
                go_wp2_with fail
                go_loopw [19] (fun o wr => ∃ k : Nat, k ≤ f.C ∧ o = .int .i64 k ∧ Own wr v.heap.size 2 (bwFold gs xs n (f.pT p ++ (f.iT p i ++ (f.jT p i j ++ f.qT p i j k)))) ∧ Prev wr v) (fun o _ => f.C - (intOf o).toNat)
                case atStart => exact ⟨0, Nat.zero_le _, rfl, by rw [show f.qT p i j 0 = [] from rfl, List.append_nil]; exact hO, prev_bel _ _⟩
                case round =>
                  clear hO
                  obtain ⟨k, hk, rfl, hO, hpv⟩ := hrel
                  by_cases hlk : k < f.C
                  · go_wp2_with fail
                    go_loopw [20] (fun o wr => ∃ t : Nat, t ≤ f.K ∧ o = .int .i64 t ∧ Own wr v.heap.size 2 (bwFold gs xs n (f.pT p ++ (f.iT p i ++ (f.jT p i j ++ (f.qT p i j k ++ f.tT p i j k t))))) ∧ Prev wr v) (fun o _ => f.K - (intOf o).toNat)
                    case atStart => exact ⟨0, Nat.zero_le _, rfl, by rw [show f.tT p i j k 0 = [] from rfl, List.append_nil]; exact hO, prev_bel _ _⟩
                    case round =>
                      clear hO
                      obtain ⟨t, ht, rfl, hO, hpv⟩ := hrel
                      by_cases hlt : t < f.K
                      · go_wp2_with fail
                        go_loopw [21] (fun o wr => ∃ s : Nat, s ≤ f.L ∧ o = .int .i64 s ∧ Own wr v.heap.size 2 (bwFold gs xs n (f.pT p ++ (f.iT p i ++ (f.jT p i j ++ (f.qT p i j k ++ (f.tT p i j k t ++ f.uT p i j k t s)))))) ∧ Prev wr v) (fun o _ => f.L - (intOf o).toNat)
                        case atStart => exact ⟨0, Nat.zero_le _, rfl, by rw [show f.uT p i j k t 0 = [] from rfl, List.append_nil]; exact hO, prev_bel _ _⟩
                        case round =>
                          clear hO
                          obtain ⟨s, hs, rfl, hO, hpv⟩ := hrel
                          by_cases hls : s < f.L
                          · obtain ⟨D1, X1, X2, WT, m4, m5, m6, m7, HWT, bWT, bX⟩ := r7_wt hf.out hlp hlk hlt hls
                            obtain ⟨Y1, Y2, Y3, Y4, FR, m8, m9, m10, m11, m12, HFR, bFR, bY⟩ := r7_frm hf.out (HD.out i hli) hli hlj hlk hlt hls
                            rw [← HN6.out] at bWT
                            rw [← HM6.out] at bFR
                            obtain ⟨PR, hPR⟩ : ∃ PR, f.pT p ++ (f.iT p i ++ (f.jT p i j ++ (f.qT p i j k ++ (f.tT p i j k t ++ f.uT p i j k t s)))) = PR := ⟨_, rfl⟩
                            rw [hPR] at hO
                            have HNX : Hid (f.pT p ++ (f.iT p i ++ (f.jT p i j ++ (f.qT p i j k ++ (f.tT p i j k t ++ f.uT p i j k t (s + 1))))) = PR ++ [(PL, WT, FR)]) := Lib.hid (by rw [← hPR, uT_succ, CF.tri, HPL.out, HWT.out, HFR.out]; simp only [List.append_assoc])
                            clear hPR
                            have bP2 : PL < q := by have := HQ2.out; have := HQ6.out; omega
                            obtain ⟨bg, fg, _, rfl, obg, -, -⟩ := sg.get (k := PL) bP2
                            obtain ⟨y, hy⟩ : ∃ y, gs[PL]? = some y := ⟨_, List.getElem?_eq_getElem (by rw [HLG.out]; omega)⟩
                            obtain ⟨z, hz⟩ : ∃ z, xs[FR]? = some z := ⟨_, List.getElem?_eq_getElem (by rw [HLX.out]; omega)⟩
                            obtain ⟨o, ho⟩ : ∃ o, (bwFold gs xs n PR)[WT]? = some o := ⟨_, List.getElem?_eq_getElem (by rw [bwFold_len]; omega)⟩
                            have cy := (sg).rd.all hy
                            have cz := (sx).rd.all hz
                            have iy : I6 y := I6s.at hy
                            have iz : I6 z := I6s.at hz
                            have io : I6 o := ⟨bwFold_bd o (List.mem_of_getElem? ho)⟩
                            have hcg0 := hO.cell ho
                            have hfg0 := hO.frozen WT
                            have og : Old v.heap.size wr := ⟨hO.lt⟩
                            have HST := Lib.hid (bwFold_at hy hz ho)
                            have HO := Lib.hid ho
                            clear hy hz ho
                            go_wp2_with fail
                            refine wp_region_up v (by kernel_rfl) (fun vx _ => ?_)
                            refine wpAnyH_on (i := 0) (d := 155) (v := ?_) rfl rfl (by kernel_rfl) (by kernel_rfl) (by kernel_rfl) (fun _ _ _ h => h) (by kernel_rfl) (prev_bel _ _) ?_ ?_
                            rotate_left
                            · intro uu (pu : Prev uu _)
                              go_simp
                              try (with_reducible rfl)
                            try simp only [List.set]
                            refine wpAnyH_on (i := 1) (d := 156) (v := ?_) rfl rfl (by kernel_rfl) (by kernel_rfl) (by kernel_rfl) (fun _ _ _ h => h) (by kernel_rfl) (prev_bel _ _) ?_ ?_
                            rotate_left
                            · intro uu (pu : Prev uu _)
                              go_simp
                              try (with_reducible rfl)
                            try simp only [List.set]
                            refine wpAnyH_on (i := 2) (d := 157) (v := ?_) rfl rfl (by kernel_rfl) (by kernel_rfl) (by kernel_rfl) (fun _ _ _ h => h) (by kernel_rfl) (prev_bel _ _) ?_ ?_
                            rotate_left
                            · intro uu (pu : Prev uu _)
                              go_simp
                              try (with_reducible rfl)
                            try simp only [List.set]
                            refine wpAnyH_on (i := 3) (d := 158) (v := ?_) rfl rfl (by kernel_rfl) (by kernel_rfl) (by kernel_rfl) (fun _ _ _ h => h) (by kernel_rfl) (prev_bel _ _) ?_ ?_
                            rotate_left
                            · intro uu (pu : Prev uu _)
                              go_simp
                              try (with_reducible rfl)
                            try simp only [List.set]
                            refine wpAnyH_on (i := 4) (d := 159) (v := ?_) rfl rfl (by kernel_rfl) (by kernel_rfl) (by kernel_rfl) (fun _ _ _ h => h) (by kernel_rfl) (prev_bel _ _) ?_ ?_
                            rotate_left
                            · intro uu (pu : Prev uu _)
                              go_simp
                              try (with_reducible rfl)
                            try simp only [List.set]
                            refine wpAnyH_on (i := 6) (d := 161) (v := ?_) rfl rfl (by kernel_rfl) (by kernel_rfl) (by kernel_rfl) (fun _ _ _ h => h) (by kernel_rfl) (prev_bel _ _) ?_ ?_
                            rotate_left
                            · intro uu (pu : Prev uu _)
                              go_simp
                              try (with_reducible rfl)
                            try simp only [List.set]
                            refine wpAnyH_on (i := 7) (d := 162) (v := ?_) rfl rfl (by kernel_rfl) (by kernel_rfl) (by kernel_rfl) (fun _ _ _ h => h) (by kernel_rfl) (prev_bel _ _) ?_ ?_
                            rotate_left
                            · intro uu (pu : Prev uu _)
                              go_simp
                              try (with_reducible rfl)
                            try simp only [List.set]
                            refine wpAnyH_on (i := 8) (d := 163) (v := ?_) rfl rfl (by kernel_rfl) (by kernel_rfl) (by kernel_rfl) (fun _ _ _ h => h) (by kernel_rfl) (prev_bel _ _) ?_ ?_
                            rotate_left
                            · intro uu (pu : Prev uu _)
                              go_simp
                              try (with_reducible rfl)
                            try simp only [List.set]
                            refine wpAnyH_on (i := 9) (d := 164) (v := ?_) rfl rfl (by kernel_rfl) (by kernel_rfl) (by kernel_rfl) (fun _ _ _ h => h) (by kernel_rfl) (prev_bel _ _) ?_ ?_
                            rotate_left
                            · intro uu (pu : Prev uu _)
                              go_simp
                              try (with_reducible rfl)
                            try simp only [List.set]
                            refine wpAnyH_on (i := 10) (d := 165) (v := ?_) rfl rfl (by kernel_rfl) (by kernel_rfl) (by kernel_rfl) (fun _ _ _ h => h) (by kernel_rfl) (prev_bel _ _) ?_ ?_
                            rotate_left
                            · intro uu (pu : Prev uu _)
                              go_simp
                              try (with_reducible rfl)
                            try simp only [List.set]
                            refine wpAnyH_on (i := 11) (d := 166) (v := ?_) rfl rfl (by kernel_rfl) (by kernel_rfl) (by kernel_rfl) (fun _ _ _ h => h) (by kernel_rfl) (prev_bel _ _) ?_ ?_
                            rotate_left
                            · intro uu (pu : Prev uu _)
                              go_simp
                              try (with_reducible rfl)
                            try simp only [List.set]
                            refine wpAnyH_on (i := 12) (d := 167) (v := ?_) rfl rfl (by kernel_rfl) (by kernel_rfl) (by kernel_rfl) (fun _ _ _ h => h) (by kernel_rfl) (prev_bel _ _) ?_ ?_
                            rotate_left
                            · intro uu (pu : Prev uu _)
                              go_simp
                              try (with_reducible rfl)
                            try simp only [List.set]
                            refine wpAnyH_on (i := 13) (d := 168) (v := ?_) rfl rfl (by kernel_rfl) (by kernel_rfl) (by kernel_rfl) (fun _ _ _ h => h) (by kernel_rfl) (prev_bel _ _) ?_ ?_
                            rotate_left
                            · intro uu (pu : Prev uu _)
                              go_simp
                              try (with_reducible rfl)
                            try simp only [List.set]
                            refine wpAnyH_ready (rs := [5, 14]) (by kernel_rfl) (by simp) ?_
                            refine AllReadyH.cons rfl (fun K hK => ?_) (AllReadyH.cons rfl (fun K hK => ?_) AllReadyH.nil)
                            · go_simp
                              refine hK.out _ _ (prev_bel v _) (fun hHeld => ?_)
                              clear hHeld hK K
                              try dsimp only [Act.put, List.setIfInBounds_toArray, List.set_cons_zero, List.set_cons_succ]
                              refine wpAnyH_ready (rs := [14]) (by kernel_rfl) (by simp) ?_
                              refine AllReadyH.cons rfl (fun K hK => ?_) AllReadyH.nil
                              go_simp
                              (with_reducible refine (a1_mul).mono ?_)
                              rintro e vx ⟨rfl, _⟩
                              dsimp only
                              refine hK.out _ _ (prev_bel v _) (fun hHeld => ?_)
                              clear hHeld hK K
                              try dsimp only [Act.put, List.setIfInBounds_toArray, List.set_cons_zero, List.set_cons_succ]
                              refine wpAnyH_ready (rs := [15]) (by kernel_rfl) (by simp) ?_
                              refine AllReadyH.cons rfl (fun K hK => ?_) AllReadyH.nil
                              go_simp
                              (with_reducible refine (a1_add).mono ?_)
                              rintro e vx ⟨rfl, _⟩
                              dsimp only
                              refine hK.out _ _ (prev_bel v _) (fun hHeld => ?_)
                              clear hHeld hK K
                              try dsimp only [Act.put, List.setIfInBounds_toArray, List.set_cons_zero, List.set_cons_succ]
                              refine wpAnyH_on (i := 16) (d := 171) (v := ?_) rfl rfl (by kernel_rfl) (by kernel_rfl) (by kernel_rfl) (fun _ _ _ h => h) (by kernel_rfl) (prev_bel _ _) ?_ ?_
                              rotate_left
                              · intro uu (pu : Prev uu _)
                                go_simp
                                try (with_reducible rfl)
                              try simp only [List.set]
                              refine wpAnyH_ready (rs := [17]) (by kernel_rfl) (by simp) ?_
                              refine AllReadyH.cons rfl (fun K hK => ?_) AllReadyH.nil
                              have hcg := ((hO).at (w' := vx)).cell HO.out
                              have hfg := ((hO).at (w' := vx)).frozen WT
                              go_simp
                              refine hK.out _ _ ⟨(bel v vx).setCell (p := ⟨v.heap.size, WT, none⟩) (Nat.le_refl _) _⟩ (fun hHeld => ?_)
                              clear hHeld hK K hcg hfg
                              try dsimp only [Act.put, List.setIfInBounds_toArray, List.set_cons_zero, List.set_cons_succ]
                              refine wpAnyH_done (by kernel_rfl) ?_ _
                              go_wp2_with fail
                              go_roundw
                              case rel => exact ⟨s + 1, by omega, by go_num, by rw [HNX.out, ← HST.out]; exact (hO.at (w' := vx)).set_ WT _, ⟨(bel v vx).setCell (p := ⟨v.heap.size, WT, none⟩) (Nat.le_refl _) _⟩⟩
                              case measure => simp [intOf]; omega
                            · go_simp
                              (with_reducible refine (a1_mul).mono ?_)
                              rintro e vx ⟨rfl, _⟩
                              dsimp only
                              refine hK.out _ _ (prev_bel v _) (fun hHeld => ?_)
                              clear hHeld hK K
                              try dsimp only [Act.put, List.setIfInBounds_toArray, List.set_cons_zero, List.set_cons_succ]
                              refine wpAnyH_ready (rs := [5]) (by kernel_rfl) (by simp) ?_
                              refine AllReadyH.cons rfl (fun K hK => ?_) AllReadyH.nil
                              go_simp
                              refine hK.out _ _ (prev_bel v _) (fun hHeld => ?_)
                              clear hHeld hK K
                              try dsimp only [Act.put, List.setIfInBounds_toArray, List.set_cons_zero, List.set_cons_succ]
                              refine wpAnyH_ready (rs := [15]) (by kernel_rfl) (by simp) ?_
                              refine AllReadyH.cons rfl (fun K hK => ?_) AllReadyH.nil
                              go_simp
                              (with_reducible refine (a1_add).mono ?_)
                              rintro e vx ⟨rfl, _⟩
                              dsimp only
                              refine hK.out _ _ (prev_bel v _) (fun hHeld => ?_)
                              clear hHeld hK K
                              try dsimp only [Act.put, List.setIfInBounds_toArray, List.set_cons_zero, List.set_cons_succ]
                              refine wpAnyH_on (i := 16) (d := 171) (v := ?_) rfl rfl (by kernel_rfl) (by kernel_rfl) (by kernel_rfl) (fun _ _ _ h => h) (by kernel_rfl) (prev_bel _ _) ?_ ?_
                              rotate_left
                              · intro uu (pu : Prev uu _)
                                go_simp
                                try (with_reducible rfl)
                              try simp only [List.set]
                              refine wpAnyH_ready (rs := [17]) (by kernel_rfl) (by simp) ?_
                              refine AllReadyH.cons rfl (fun K hK => ?_) AllReadyH.nil
                              have hcg := ((hO).at (w' := vx)).cell HO.out
                              have hfg := ((hO).at (w' := vx)).frozen WT
                              go_simp
                              refine hK.out _ _ ⟨(bel v vx).setCell (p := ⟨v.heap.size, WT, none⟩) (Nat.le_refl _) _⟩ (fun hHeld => ?_)
                              clear hHeld hK K hcg hfg
                              try dsimp only [Act.put, List.setIfInBounds_toArray, List.set_cons_zero, List.set_cons_succ]
                              refine wpAnyH_done (by kernel_rfl) ?_ _
                              go_wp2_with fail
                              go_roundw
                              case rel => exact ⟨s + 1, by omega, by go_num, by rw [HNX.out, ← HST.out]; exact (hO.at (w' := vx)).set_ WT _, ⟨(bel v vx).setCell (p := ⟨v.heap.size, WT, none⟩) (Nat.le_refl _) _⟩⟩
                              case measure => simp [intOf]; omega
                          · obtain rfl : s = f.L := by omega
                            go_wp2_with fail
                            go_roundw
                            case rel => exact ⟨t + 1, by omega, by go_num, by rw [tT_succ]; exact hO, prev_bel _ _⟩
                            case measure => simp [intOf]; omega
                      · obtain rfl : t = f.K := by omega
                        go_wp2_with fail
                        go_roundw
                        case rel => exact ⟨k + 1, by omega, by go_num, by rw [qT_succ]; exact hO, prev_bel _ _⟩
                        case measure => simp [intOf]; omega
                  · obtain rfl : k = f.C := by omega
                    go_wp2_with fail
                    go_roundw
                    case rel => exact ⟨j + 1, by omega, by go_num, by rw [jT_succ]; exact hO, prev_bel _ _⟩
                    case measure => simp [intOf]; omega
              · obtain rfl : j = f.N := by omega
                go_wp2_with fail
                go_roundw
                case rel => exact ⟨i + 1, by omega, by go_num, by rw [iT_succ]; exact hO, prev_bel _ _⟩
                case measure => simp [intOf]; omega
          · obtain rfl : i = f.M := by omega
            go_wp2_with fail
            go_roundw
            case rel => exact ⟨p + 1, by omega, by go_num, by rw [pT_succ]; exact hO, prev_bel _ _⟩
            case measure => simp [intOf]; omega
      · obtain rfl : p = f.O := by omega
        go_wp2_with fail
        go_ret
        exact ⟨_, _, by rw [bwFold_len]; rfl, ⟨hO.rd, rfl⟩, prev_bel _ _⟩
end

end Go.Proofs.Yteibgdcieaiaiaa

namespace Go.Proofs.Yteibgdcieaiaiaa
open Go.RowKit

section
variable {w : World} {A B G : Option Addr} {n m q c d e : Nat}
set_option maxRecDepth 100000 in
set_option maxHeartbeats 8000000 in
theorem r7_run_bx {f : CF} {D : Nat} {ws xs gs : List Int} [sw : Sl w A n ws] [sx : Sl w B m xs] [sg : Sl w G q gs] (hf : Hid (CFok f)) (hn : n = f.O * (f.C * (f.K * f.L))) (hm : m = f.C * (f.H * f.W)) [iw : I6s ws] [ig : I6s gs] (hq : q = f.O * (f.M * f.N))
    (HM : Hid (winV (f.H : Int) (f.K : Int) (D : Int) = (f.M : Int))) (HN : Hid (winV (f.W : Int) (f.L : Int) (f.S : Int) = (f.N : Int))) (HD : Hid (∀ i, i < f.M → i * D = i * f.S)) :
    Calls Try.prog 23 #[plnV f.O f.C f.K f.L f.H f.W D f.S, .int .i64 2, .slice A n c, .slice B m d, .slice G q e] w (RetS w (bxFold gs ws m f.all)) := by
  have CB := @cell_bx
  have CP := @cell_prev
  have FP := @frozen_prev
  have ow := hf.out.ow
  have ox := hf.out.ox
  have oy := hf.out.oy
  obtain ⟨NZ, hNZ⟩ : ∃ NZ, f.O * (f.M * f.N) = NZ := ⟨_, rfl⟩
  have hNZ6 : NZ ≤ 65536 := by omega
  have hlw : ws.length = n := sw.len.symm
  have hlx : xs.length = m := sx.len.symm
  have hlg : gs.length = q := sg.len.symm
  obtain ⟨bw, fw, _, rfl, obw, -, -⟩ := sw.get (k := 0) (by rw [hn]; exact Nat.mul_pos hf.out.o1 (Nat.mul_pos hf.out.c1 (Nat.mul_pos hf.out.k1 hf.out.l1)))
  have hm0 : 0 < m := by rw [hm]; have h1 := frm_lt hf.out (i := 0) (j := 0) (q := 0) (t := 0) (u := 0) hf.out.m1 hf.out.n1 hf.out.c1 hf.out.k1 hf.out.l1; omega
  obtain ⟨bx, fx, _, rfl, obx, -, -⟩ := sx.get (k := 0) hm0
  have HN6 := Lib.hid hn
  have HM6 := Lib.hid hm
  have HNZ := Lib.hid hNZ
  have hn6 : n ≤ 65536 := by omega
  have hm6 : m ≤ 65536 := by omega
  have HLW := Lib.hid hlw
  have HLX := Lib.hid hlx
  have HLG := Lib.hid hlg
  obtain ⟨Q1, hQ1⟩ : ∃ Q1, f.O * f.M = Q1 := ⟨_, rfl⟩
  obtain ⟨Q2, hQ2⟩ : ∃ Q2, Q1 * f.N = Q2 := ⟨_, rfl⟩
  have hq2 : Q2 ≤ 65536 := by rw [← hQ2, ← hQ1, Nat.mul_assoc]; exact oy
  have hq1 : Q1 ≤ Q2 := by rw [← hQ2]; exact Nat.le_mul_of_pos_right _ hf.out.n1
  have z1 : (f.O : Int) * (f.M : Int) = (Q1 : Int) := by rw [← hQ1, Int.natCast_mul]
  have z2 : (Q1 : Int) * (f.N : Int) = (Q2 : Int) := by rw [← hQ2, Int.natCast_mul]
  have HQ6 := Lib.hid hq; clear hq
  have HQ2 : Hid (Q2 = f.O * (f.M * f.N)) := Lib.hid (by rw [← hQ2, ← hQ1, Nat.mul_assoc])
  clear hQ1 hQ2 hn hm hNZ hlw hlx hlg
  have bO : f.O ≤ 65536 ∧ f.M ≤ 65536 ∧ f.N ≤ 65536 := by
    have e1 : f.O * 1 ≤ f.O * (f.M * f.N) := Nat.mul_le_mul_left _ (Nat.mul_pos hf.out.m1 hf.out.n1)
    have e2 : 1 * (f.M * f.N) ≤ f.O * (f.M * f.N) := Nat.mul_le_mul_right _ hf.out.o1
    have e3 : f.M * 1 ≤ f.M * f.N := Nat.mul_le_mul_left _ hf.out.n1
    have e4 : 1 * f.N ≤ f.M * f.N := Nat.mul_le_mul_right _ hf.out.m1
    omega
  have bC : f.C ≤ 65536 ∧ f.K ≤ 65536 ∧ f.L ≤ 65536 := by
    have e1 : 1 * (f.C * (f.K * f.L)) ≤ f.O * (f.C * (f.K * f.L)) := Nat.mul_le_mul_right _ hf.out.o1
    have e2 : f.C * 1 ≤ f.C * (f.K * f.L) := Nat.mul_le_mul_left _ (Nat.mul_pos hf.out.k1 hf.out.l1)
    have e3 : 1 * (f.K * f.L) ≤ f.C * (f.K * f.L) := Nat.mul_le_mul_right _ hf.out.c1
    have e4 : f.K * 1 ≤ f.K * f.L := Nat.mul_le_mul_left _ hf.out.l1
    have e5 : 1 * f.L ≤ f.K * f.L := Nat.mul_le_mul_right _ hf.out.k1
    omega
  clear ow ox oy
  unfold plnV
  go_enter Try.func23, Try.ntmps23
  go_upto_region 1 with fail
  obtain ⟨wb, hwb⟩ : ∃ wb : World, wb = w.alloc (.cells #[.int .i64 f.O, .int .i64 f.C, .int .i64 f.K, .int .i64 f.L, .int .i64 f.H, .int .i64 f.W, .int .i64 D, .int .i64 f.S] 45) := ⟨_, rfl⟩
  have kB : Bx wb w.heap.size 45 #[.int .i64 f.O, .int .i64 f.C, .int .i64 f.K, .int .i64 f.L, .int .i64 f.H, .int .i64 f.W, .int .i64 D, .int .i64 f.S] := by rw [hwb]; exact Bx.new
  have pB : Prev wb w := hwb ▸ Prev.alloc _ _
  rw [← hwb]
  clear hwb
  go_cut [11, 12] (fun p e wx => p = .int .i64 f.M ∧ e = .int .i64 f.N ∧ Prev wx wb)
  case first =>
    refine wp_region_up wb (by kernel_rfl) (fun ux _ => ?_)
    refine wpAnyH_on (i := 0) (d := 24) (v := ?_) rfl rfl (by kernel_rfl) (by kernel_rfl) (by kernel_rfl) (fun _ _ _ h => h) (by kernel_rfl) (prev_bel _ _) ?_ ?_
    rotate_left
    · intro uu (pu : Prev uu _)
      go_simp
      try (with_reducible rfl)
    try simp only [List.set]
    refine wpAnyH_on (i := 1) (d := 25) (v := ?_) rfl rfl (by kernel_rfl) (by kernel_rfl) (by kernel_rfl) (fun _ _ _ h => h) (by kernel_rfl) (prev_bel _ _) ?_ ?_
    rotate_left
    · intro uu (pu : Prev uu _)
      go_simp
      try (with_reducible rfl)
    try simp only [List.set]
    refine wpAnyH_on (i := 2) (d := 26) (v := ?_) rfl rfl (by kernel_rfl) (by kernel_rfl) (by kernel_rfl) (fun _ _ _ h => h) (by kernel_rfl) (prev_bel _ _) ?_ ?_
    rotate_left
    · intro uu (pu : Prev uu _)
      go_simp
      try (with_reducible rfl)
    try simp only [List.set]
    refine wpAnyH_on (i := 3) (d := 27) (v := ?_) rfl rfl (by kernel_rfl) (by kernel_rfl) (by kernel_rfl) (fun _ _ _ h => h) (by kernel_rfl) (prev_bel _ _) ?_ ?_
    rotate_left
    · intro uu (pu : Prev uu _)
      go_simp
      try (with_reducible rfl)
    try simp only [List.set]
    refine wpAnyH_on (i := 4) (d := 28) (v := ?_) rfl rfl (by kernel_rfl) (by kernel_rfl) (by kernel_rfl) (fun _ _ _ h => h) (by kernel_rfl) (prev_bel _ _) ?_ ?_
    rotate_left
    · intro uu (pu : Prev uu _)
      go_simp
      try (with_reducible rfl)
    try simp only [List.set]
    refine wpAnyH_on (i := 5) (d := 29) (v := ?_) rfl rfl (by kernel_rfl) (by kernel_rfl) (by kernel_rfl) (fun _ _ _ h => h) (by kernel_rfl) (prev_bel _ _) ?_ ?_
    rotate_left
    · intro uu (pu : Prev uu _)
      go_simp
      try (with_reducible rfl)
    try simp only [List.set]
    refine wpAnyH_on (i := 7) (d := 31) (v := ?_) rfl rfl (by kernel_rfl) (by kernel_rfl) (by kernel_rfl) (fun _ _ _ h => h) (by kernel_rfl) (prev_bel _ _) ?_ ?_
    rotate_left
    · intro uu (pu : Prev uu _)
      go_simp
      try (with_reducible rfl)
    try simp only [List.set]
    refine wpAnyH_on (i := 8) (d := 32) (v := ?_) rfl rfl (by kernel_rfl) (by kernel_rfl) (by kernel_rfl) (fun _ _ _ h => h) (by kernel_rfl) (prev_bel _ _) ?_ ?_
    rotate_left
    · intro uu (pu : Prev uu _)
      go_simp
      try (with_reducible rfl)
    try simp only [List.set]
    refine wpAnyH_on (i := 9) (d := 33) (v := ?_) rfl rfl (by kernel_rfl) (by kernel_rfl) (by kernel_rfl) (fun _ _ _ h => h) (by kernel_rfl) (prev_bel _ _) ?_ ?_
    rotate_left
    · intro uu (pu : Prev uu _)
      go_simp
      try (with_reducible rfl)
    try simp only [List.set]
    refine wpAnyH_on (i := 10) (d := 34) (v := ?_) rfl rfl (by kernel_rfl) (by kernel_rfl) (by kernel_rfl) (fun _ _ _ h => h) (by kernel_rfl) (prev_bel _ _) ?_ ?_
    rotate_left
    · intro uu (pu : Prev uu _)
      go_simp
      try (with_reducible rfl)
    try simp only [List.set]
    refine wpAnyH_on (i := 11) (d := 35) (v := ?_) rfl rfl (by kernel_rfl) (by kernel_rfl) (by kernel_rfl) (fun _ _ _ h => h) (by kernel_rfl) (prev_bel _ _) ?_ ?_
    rotate_left
    · intro uu (pu : Prev uu _)
      go_simp
      try (with_reducible rfl)
    try simp only [List.set]
    refine wpAnyH_on (i := 12) (d := 36) (v := ?_) rfl rfl (by kernel_rfl) (by kernel_rfl) (by kernel_rfl) (fun _ _ _ h => h) (by kernel_rfl) (prev_bel _ _) ?_ ?_
    rotate_left
    · intro uu (pu : Prev uu _)
      go_simp
      try (with_reducible rfl)
    try simp only [List.set]
    refine wpAnyH_ready (rs := [6]) (by kernel_rfl) (by simp) ?_
    refine AllReadyH.cons rfl (fun K hK => ?_) AllReadyH.nil
    go_simp
    (with_reducible refine (r7_windowH HM).mono ?_)
    rintro e ux ⟨rfl, _⟩
    dsimp only
    refine hK.out _ _ (prev_bel wb _) (fun hHeld => ?_)
    clear hHeld hK K
    try dsimp only [Act.put, List.setIfInBounds_toArray, List.set_cons_zero, List.set_cons_succ]
    refine wpAnyH_ready (rs := [13]) (by kernel_rfl) (by simp) ?_
    refine AllReadyH.cons rfl (fun K hK => ?_) AllReadyH.nil
    go_simp
    (with_reducible refine (r7_windowH HN).mono ?_)
    rintro e ux ⟨rfl, _⟩
    dsimp only
    refine hK.out _ _ (prev_bel wb _) (fun hHeld => ?_)
    clear hHeld hK K
    try dsimp only [Act.put, List.setIfInBounds_toArray, List.set_cons_zero, List.set_cons_succ]
    refine wpAnyH_on (i := 14) (d := 11) (v := ?_) rfl rfl (by kernel_rfl) (by kernel_rfl) (by kernel_rfl) (fun _ _ _ h => h) (by kernel_rfl) (prev_bel _ _) ?_ ?_
    rotate_left
    · intro uu (pu : Prev uu _)
      go_simp
      try (with_reducible rfl)
    try simp only [List.set]
    refine wpAnyH_on (i := 15) (d := 12) (v := ?_) rfl rfl (by kernel_rfl) (by kernel_rfl) (by kernel_rfl) (fun _ _ _ h => h) (by kernel_rfl) (prev_bel _ _) ?_ ?_
    rotate_left
    · intro uu (pu : Prev uu _)
      go_simp
      try (with_reducible rfl)
    try simp only [List.set]
    refine wpAnyH_done (by kernel_rfl) ?_ _
    go_wp2_with fail
    go_meet
    exact ⟨rfl, rfl, prev_bel _ _⟩
  case rest =>
    obtain ⟨rfl, rfl, pv⟩ := hcut
    rename World => v
    have hmk := fun W => run_make_row' (P := Try.prog) 42 2 (.int .i64 0) 8 Try.underlying42 (by kernel_rfl) rfl .i64 .i64 m (by omega) (by omega) W
    rw [ints_made] at hmk
    go_wp2_with fail
    clear hmk
    have hO0 : Own (v.alloc (.cells (ints (List.replicate m 0)) 2)) v.heap.size 2 (bxFold gs ws m []) := Own.new _ _ _
    go_loopw [15] (fun o wr => ∃ p : Nat, p ≤ f.O ∧ o = .int .i64 p ∧ Own wr v.heap.size 2 (bxFold gs ws m (f.pT p)) ∧ Prev wr v) (fun o _ => f.O - (intOf o).toNat)
    case atStart => exact ⟨0, Nat.zero_le _, rfl, hO0, prev_bel _ _⟩
    case round =>
      obtain ⟨p, hp, rfl, hO, hpv⟩ := hrel
      clear hO0
      by_cases hlp : p < f.O
      · go_wp2_with fail
        go_loopw [16] (fun o wr => ∃ i : Nat, i ≤ f.M ∧ o = .int .i64 i ∧ Own wr v.heap.size 2 (bxFold gs ws m (f.pT p ++ f.iT p i)) ∧ Prev wr v) (fun o _ => f.M - (intOf o).toNat)
        case atStart => exact ⟨0, Nat.zero_le _, rfl, by rw [show f.iT p 0 = [] from rfl, List.append_nil]; exact hO, prev_bel _ _⟩
        case round =>
          clear hO
          obtain ⟨i, hi, rfl, hO, hpv⟩ := hrel
          by_cases hli : i < f.M
          · go_wp2_with fail
            go_loopw [17] (fun o wr => ∃ j : Nat, j ≤ f.N ∧ o = .int .i64 j ∧ Own wr v.heap.size 2 (bxFold gs ws m (f.pT p ++ (f.iT p i ++ f.jT p i j))) ∧ Prev wr v) (fun o _ => f.N - (intOf o).toNat)
            case atStart => exact ⟨0, Nat.zero_le _, rfl, by rw [show f.jT p i 0 = [] from rfl, List.append_nil]; exact hO, prev_bel _ _⟩
            case round =>
              clear hO
              obtain ⟨j, hj, rfl, hO, hpv⟩ := hrel
              by_cases hlj : j < f.N
              · obtain ⟨A1, A2, PL, m1, m2, m3, HPL, bPL, bA⟩ := r7_place hf.out hlp hli hlj
                rw [← HQ2.out] at bPL
                go_wp2_with fail
                go_loopw [19] (fun o wr => ∃ k : Nat, k ≤ f.C ∧ o = .int .i64 k ∧ Own wr v.heap.size 2 (bxFold gs ws m (f.pT p ++ (f.iT p i ++ (f.jT p i j ++ f.qT p i j k)))) ∧ Prev wr v) (fun o _ => f.C - (intOf o).toNat)
                case atStart => exact ⟨0, Nat.zero_le _, rfl, by rw [show f.qT p i j 0 = [] from rfl, List.append_nil]; exact hO, prev_bel _ _⟩
                case round =>
                  clear hO
                  obtain ⟨k, hk, rfl, hO, hpv⟩ := hrel
                  by_cases hlk : k < f.C
                  · go_wp2_with fail
                    go_loopw [20] (fun o wr => ∃ t : Nat, t ≤ f.K ∧ o = .int .i64 t ∧ Own wr v.heap.size 2 (bxFold gs ws m (f.pT p ++ (f.iT p i ++ (f.jT p i j ++ (f.qT p i j k ++ f.tT p i j k t))))) ∧ Prev wr v) (fun o _ => f.K - (intOf o).toNat)
                    case atStart => exact ⟨0, Nat.zero_le _, rfl, by rw [show f.tT p i j k 0 = [] from rfl, List.append_nil]; exact hO, prev_bel _ _⟩
                    case round =>
                      clear hO
                      obtain ⟨t, ht, rfl, hO, hpv⟩ := hrel
                      by_cases hlt : t < f.K
                      · go_wp2_with fail
                        go_loopw [21] (fun o wr => ∃ s : Nat, s ≤ f.L ∧ o = .int .i64 s ∧ Own wr v.heap.size 2 (bxFold gs ws m (f.pT p ++ (f.iT p i ++ (f.jT p i j ++ (f.qT p i j k ++ (f.tT p i j k t ++ f.uT p i j k t s)))))) ∧ Prev wr v) (fun o _ => f.L - (intOf o).toNat)
                        case atStart => exact ⟨0, Nat.zero_le _, rfl, by rw [show f.uT p i j k t 0 = [] from rfl, List.append_nil]; exact hO, prev_bel _ _⟩
                        case round =>
                          clear hO
                          obtain ⟨s, hs, rfl, hO, hpv⟩ := hrel
                          by_cases hls : s < f.L
                          · obtain ⟨D1, X1, X2, WT, m4, m5, m6, m7, HWT, bWT, bX⟩ := r7_wt hf.out hlp hlk hlt hls
                            obtain ⟨Y1, Y2, Y3, Y4, FR, m8, m9, m10, m11, m12, HFR, bFR, bY⟩ := r7_frm hf.out (HD.out i hli) hli hlj hlk hlt hls
                            rw [← HN6.out] at bWT
                            rw [← HM6.out] at bFR
                            obtain ⟨PR, hPR⟩ : ∃ PR, f.pT p ++ (f.iT p i ++ (f.jT p i j ++ (f.qT p i j k ++ (f.tT p i j k t ++ f.uT p i j k t s)))) = PR := ⟨_, rfl⟩
                            rw [hPR] at hO
                            have HNX : Hid (f.pT p ++ (f.iT p i ++ (f.jT p i j ++ (f.qT p i j k ++ (f.tT p i j k t ++ f.uT p i j k t (s + 1))))) = PR ++ [(PL, WT, FR)]) := Lib.hid (by rw [← hPR, uT_succ, CF.tri, HPL.out, HWT.out, HFR.out]; simp only [List.append_assoc])
                            clear hPR
                            have bP2 : PL < q := by have := HQ2.out; have := HQ6.out; omega
                            obtain ⟨bg, fg, _, rfl, obg, -, -⟩ := sg.get (k := PL) bP2
                            obtain ⟨y, hy⟩ : ∃ y, gs[PL]? = some y := ⟨_, List.getElem?_eq_getElem (by rw [HLG.out]; omega)⟩
                            obtain ⟨z, hz⟩ : ∃ z, ws[WT]? = some z := ⟨_, List.getElem?_eq_getElem (by rw [HLW.out]; omega)⟩
                            obtain ⟨o, ho⟩ : ∃ o, (bxFold gs ws m PR)[FR]? = some o := ⟨_, List.getElem?_eq_getElem (by rw [bxFold_len]; omega)⟩
                            have cy := (sg).rd.all hy
                            have cz := (sw).rd.all hz
                            have iy : I6 y := I6s.at hy
                            have iz : I6 z := I6s.at hz
                            have io : I6 o := ⟨bxFold_bd o (List.mem_of_getElem? ho)⟩
                            have hcg0 := hO.cell ho
                            have hfg0 := hO.frozen FR
                            have og : Old v.heap.size wr := ⟨hO.lt⟩
                            have HST := Lib.hid (bxFold_at hy hz ho)
                            have HO := Lib.hid ho
                            clear hy hz ho
                            go_wp2_with fail
                            refine wp_region_up v (by kernel_rfl) (fun vx _ => ?_)
                            refine wpAnyH_on (i := 0) (d := 174) (v := ?_) rfl rfl (by kernel_rfl) (by kernel_rfl) (by kernel_rfl) (fun _ _ _ h => h) (by kernel_rfl) (prev_bel _ _) ?_ ?_
                            rotate_left
                            · intro uu (pu : Prev uu _)
                              go_simp
                              try (with_reducible rfl)
                            try simp only [List.set]
                            refine wpAnyH_on (i := 1) (d := 175) (v := ?_) rfl rfl (by kernel_rfl) (by kernel_rfl) (by kernel_rfl) (fun _ _ _ h => h) (by kernel_rfl) (prev_bel _ _) ?_ ?_
                            rotate_left
                            · intro uu (pu : Prev uu _)
                              go_simp
                              try (with_reducible rfl)
                            try simp only [List.set]
                            refine wpAnyH_on (i := 2) (d := 176) (v := ?_) rfl rfl (by kernel_rfl) (by kernel_rfl) (by kernel_rfl) (fun _ _ _ h => h) (by kernel_rfl) (prev_bel _ _) ?_ ?_
                            rotate_left
                            · intro uu (pu : Prev uu _)
                              go_simp
                              try (with_reducible rfl)
                            try simp only [List.set]
                            refine wpAnyH_on (i := 3) (d := 177) (v := ?_) rfl rfl (by kernel_rfl) (by kernel_rfl) (by kernel_rfl) (fun _ _ _ h => h) (by kernel_rfl) (prev_bel _ _) ?_ ?_
                            rotate_left
                            · intro uu (pu : Prev uu _)
                              go_simp
                              try (with_reducible rfl)
                            try simp only [List.set]
                            refine wpAnyH_on (i := 4) (d := 178) (v := ?_) rfl rfl (by kernel_rfl) (by kernel_rfl) (by kernel_rfl) (fun _ _ _ h => h) (by kernel_rfl) (prev_bel _ _) ?_ ?_
                            rotate_left
                            · intro uu (pu : Prev uu _)
                              go_simp
                              try (with_reducible rfl)
                            try simp only [List.set]
                            refine wpAnyH_on (i := 6) (d := 180) (v := ?_) rfl rfl (by kernel_rfl) (by kernel_rfl) (by kernel_rfl) (fun _ _ _ h => h) (by kernel_rfl) (prev_bel _ _) ?_ ?_
                            rotate_left
                            · intro uu (pu : Prev uu _)
                              go_simp
                              try (with_reducible rfl)
                            try simp only [List.set]
                            refine wpAnyH_on (i := 7) (d := 181) (v := ?_) rfl rfl (by kernel_rfl) (by kernel_rfl) (by kernel_rfl) (fun _ _ _ h => h) (by kernel_rfl) (prev_bel _ _) ?_ ?_
                            rotate_left
                            · intro uu (pu : Prev uu _)
                              go_simp
                              try (with_reducible rfl)
                            try simp only [List.set]
                            refine wpAnyH_on (i := 8) (d := 182) (v := ?_) rfl rfl (by kernel_rfl) (by kernel_rfl) (by kernel_rfl) (fun _ _ _ h => h) (by kernel_rfl) (prev_bel _ _) ?_ ?_
                            rotate_left
                            · intro uu (pu : Prev uu _)
                              go_simp
                              try (with_reducible rfl)
                            try simp only [List.set]
                            refine wpAnyH_on (i := 9) (d := 183) (v := ?_) rfl rfl (by kernel_rfl) (by kernel_rfl) (by kernel_rfl) (fun _ _ _ h => h) (by kernel_rfl) (prev_bel _ _) ?_ ?_
                            rotate_left
                            · intro uu (pu : Prev uu _)
                              go_simp
                              try (with_reducible rfl)
                            try simp only [List.set]
                            refine wpAnyH_on (i := 10) (d := 184) (v := ?_) rfl rfl (by kernel_rfl) (by kernel_rfl) (by kernel_rfl) (fun _ _ _ h => h) (by kernel_rfl) (prev_bel _ _) ?_ ?_
                            rotate_left
                            · intro uu (pu : Prev uu _)
                              go_simp
                              try (with_reducible rfl)
                            try simp only [List.set]
                            refine wpAnyH_on (i := 11) (d := 185) (v := ?_) rfl rfl (by kernel_rfl) (by kernel_rfl) (by kernel_rfl) (fun _ _ _ h => h) (by kernel_rfl) (prev_bel _ _) ?_ ?_
                            rotate_left
                            · intro uu (pu : Prev uu _)
                              go_simp
                              try (with_reducible rfl)
                            try simp only [List.set]
                            refine wpAnyH_on (i := 12) (d := 186) (v := ?_) rfl rfl (by kernel_rfl) (by kernel_rfl) (by kernel_rfl) (fun _ _ _ h => h) (by kernel_rfl) (prev_bel _ _) ?_ ?_
                            rotate_left
                            · intro uu (pu : Prev uu _)
                              go_simp
                              try (with_reducible rfl)
                            try simp only [List.set]
                            refine wpAnyH_on (i := 13) (d := 187) (v := ?_) rfl rfl (by kernel_rfl) (by kernel_rfl) (by kernel_rfl) (fun _ _ _ h => h) (by kernel_rfl) (prev_bel _ _) ?_ ?_
                            rotate_left
                            · intro uu (pu : Prev uu _)
                              go_simp
                              try (with_reducible rfl)
                            try simp only [List.set]
                            refine wpAnyH_ready (rs := [5, 14]) (by kernel_rfl) (by simp) ?_
                            refine AllReadyH.cons rfl (fun K hK => ?_) (AllReadyH.cons rfl (fun K hK => ?_) AllReadyH.nil)
                            · go_simp
                              refine hK.out _ _ (prev_bel v _) (fun hHeld => ?_)
                              clear hHeld hK K
                              try dsimp only [Act.put, List.setIfInBounds_toArray, List.set_cons_zero, List.set_cons_succ]
                              refine wpAnyH_ready (rs := [14]) (by kernel_rfl) (by simp) ?_
                              refine AllReadyH.cons rfl (fun K hK => ?_) AllReadyH.nil
                              go_simp
                              (with_reducible refine (a1_mul).mono ?_)
                              rintro e vx ⟨rfl, _⟩
                              dsimp only
                              refine hK.out _ _ (prev_bel v _) (fun hHeld => ?_)
                              clear hHeld hK K
                              try dsimp only [Act.put, List.setIfInBounds_toArray, List.set_cons_zero, List.set_cons_succ]
                              refine wpAnyH_ready (rs := [15]) (by kernel_rfl) (by simp) ?_
                              refine AllReadyH.cons rfl (fun K hK => ?_) AllReadyH.nil
                              go_simp
                              (with_reducible refine (a1_add).mono ?_)
                              rintro e vx ⟨rfl, _⟩
                              dsimp only
                              refine hK.out _ _ (prev_bel v _) (fun hHeld => ?_)
                              clear hHeld hK K
                              try dsimp only [Act.put, List.setIfInBounds_toArray, List.set_cons_zero, List.set_cons_succ]
                              refine wpAnyH_on (i := 16) (d := 190) (v := ?_) rfl rfl (by kernel_rfl) (by kernel_rfl) (by kernel_rfl) (fun _ _ _ h => h) (by kernel_rfl) (prev_bel _ _) ?_ ?_
                              rotate_left
                              · intro uu (pu : Prev uu _)
                                go_simp
                                try (with_reducible rfl)
                              try simp only [List.set]
                              refine wpAnyH_ready (rs := [17]) (by kernel_rfl) (by simp) ?_
                              refine AllReadyH.cons rfl (fun K hK => ?_) AllReadyH.nil
                              have hcg := ((hO).at (w' := vx)).cell HO.out
                              have hfg := ((hO).at (w' := vx)).frozen FR
                              go_simp
                              refine hK.out _ _ ⟨(bel v vx).setCell (p := ⟨v.heap.size, FR, none⟩) (Nat.le_refl _) _⟩ (fun hHeld => ?_)
                              clear hHeld hK K hcg hfg
                              try dsimp only [Act.put, List.setIfInBounds_toArray, List.set_cons_zero, List.set_cons_succ]
                              refine wpAnyH_done (by kernel_rfl) ?_ _
                              go_wp2_with fail
                              go_roundw
                              case rel => exact ⟨s + 1, by omega, by go_num, by rw [HNX.out, ← HST.out]; exact (hO.at (w' := vx)).set_ FR _, ⟨(bel v vx).setCell (p := ⟨v.heap.size, FR, none⟩) (Nat.le_refl _) _⟩⟩
                              case measure => simp [intOf]; omega
                            · go_simp
                              (with_reducible refine (a1_mul).mono ?_)
                              rintro e vx ⟨rfl, _⟩
                              dsimp only
                              refine hK.out _ _ (prev_bel v _) (fun hHeld => ?_)
                              clear hHeld hK K
                              try dsimp only [Act.put, List.setIfInBounds_toArray, List.set_cons_zero, List.set_cons_succ]
                              refine wpAnyH_ready (rs := [5]) (by kernel_rfl) (by simp) ?_
                              refine AllReadyH.cons rfl (fun K hK => ?_) AllReadyH.nil
                              go_simp
                              refine hK.out _ _ (prev_bel v _) (fun hHeld => ?_)
                              clear hHeld hK K
                              try dsimp only [Act.put, List.setIfInBounds_toArray, List.set_cons_zero, List.set_cons_succ]
                              refine wpAnyH_ready (rs := [15]) (by kernel_rfl) (by simp) ?_
                              refine AllReadyH.cons rfl (fun K hK => ?_) AllReadyH.nil
                              go_simp
                              (with_reducible refine (a1_add).mono ?_)
                              rintro e vx ⟨rfl, _⟩
                              dsimp only
                              refine hK.out _ _ (prev_bel v _) (fun hHeld => ?_)
                              clear hHeld hK K
                              try dsimp only [Act.put, List.setIfInBounds_toArray, List.set_cons_zero, List.set_cons_succ]
                              refine wpAnyH_on (i := 16) (d := 190) (v := ?_) rfl rfl (by kernel_rfl) (by kernel_rfl) (by kernel_rfl) (fun _ _ _ h => h) (by kernel_rfl) (prev_bel _ _) ?_ ?_
                              rotate_left
                              · intro uu (pu : Prev uu _)
                                go_simp
                                try (with_reducible rfl)
                              try simp only [List.set]
                              refine wpAnyH_ready (rs := [17]) (by kernel_rfl) (by simp) ?_
                              refine AllReadyH.cons rfl (fun K hK => ?_) AllReadyH.nil
                              have hcg := ((hO).at (w' := vx)).cell HO.out
                              have hfg := ((hO).at (w' := vx)).frozen FR
                              go_simp
                              refine hK.out _ _ ⟨(bel v vx).setCell (p := ⟨v.heap.size, FR, none⟩) (Nat.le_refl _) _⟩ (fun hHeld => ?_)
                              clear hHeld hK K hcg hfg
                              try dsimp only [Act.put, List.setIfInBounds_toArray, List.set_cons_zero, List.set_cons_succ]
                              refine wpAnyH_done (by kernel_rfl) ?_ _
                              go_wp2_with fail
                              go_roundw
                              case rel => exact ⟨s + 1, by omega, by go_num, by rw [HNX.out, ← HST.out]; exact (hO.at (w' := vx)).set_ FR _, ⟨(bel v vx).setCell (p := ⟨v.heap.size, FR, none⟩) (Nat.le_refl _) _⟩⟩
                              case measure => simp [intOf]; omega
                          · obtain rfl : s = f.L := by omega
                            go_wp2_with fail
                            go_roundw
                            case rel => exact ⟨t + 1, by omega, by go_num, by rw [tT_succ]; exact hO, prev_bel _ _⟩
                            case measure => simp [intOf]; omega
                      · obtain rfl : t = f.K := by omega
                        go_wp2_with fail
                        go_roundw
                        case rel => exact ⟨k + 1, by omega, by go_num, by rw [qT_succ]; exact hO, prev_bel _ _⟩
                        case measure => simp [intOf]; omega
                  · obtain rfl : k = f.C := by omega
                    go_wp2_with fail
                    go_roundw
                    case rel => exact ⟨j + 1, by omega, by go_num, by rw [jT_succ]; exact hO, prev_bel _ _⟩
                    case measure => simp [intOf]; omega
              · obtain rfl : j = f.N := by omega
                go_wp2_with fail
                go_roundw
                case rel => exact ⟨i + 1, by omega, by go_num, by rw [iT_succ]; exact hO, prev_bel _ _⟩
                case measure => simp [intOf]; omega
          · obtain rfl : i = f.M := by omega
            go_wp2_with fail
            go_roundw
            case rel => exact ⟨p + 1, by omega, by go_num, by rw [pT_succ]; exact hO, prev_bel _ _⟩
            case measure => simp [intOf]; omega
      · obtain rfl : p = f.O := by omega
        go_wp2_with fail
        go_ret
        exact ⟨_, _, by rw [bxFold_len]; rfl, ⟨hO.rd, rfl⟩, prev_bel _ _⟩
end

end Go.Proofs.Yteibgdcieaiaiaa

namespace Go.Proofs.Yteibgdcieaiaiaa
open Go.RowKit

section
variable {w : World} {A B G : Option Addr} {n m q c d e : Nat} {f : CF} {V : List Int} {S : Int} {xw xx xg : List Int}
theorem r7_ofU {zw zx : List Int} [a : Sl w A n zw] [b : Sl w B m zx] (hf : Hid (CFof f zw zx V S)) : Calls Try.prog 24 #[.slice A n c, .slice B m d, .int .i64 S] w (RetV w (.agg #[.int .i64 (f.O : Int), .int .i64 (f.C : Int), .int .i64 (f.K : Int), .int .i64 (f.L : Int), .int .i64 (f.H : Int), .int .i64 (f.W : Int), .int .i64 ((dnS f zw : Nat) : Int), .int .i64 (f.S : Int)])) := r7_of hf
theorem r7_backW {X : List Int} {zw zx : List Int} [sw : Sl w A n xw] [sx : Sl w B m xx] [sg : Sl w G q xg] [ix : I6s xx] [ig : I6s xg] (hf : Hid (CFof f zw zx V S)) (h1 : tRightB zw xw = true) (h2 : tRightB zx xx = true) (h3 : tRightB V xg = true) (hX : Hid (X = bwFold xg xx xw.length f.all)) :
    Calls Try.prog 23 #[.agg #[.int .i64 (f.O : Int), .int .i64 (f.C : Int), .int .i64 (f.K : Int), .int .i64 (f.L : Int), .int .i64 (f.H : Int), .int .i64 (f.W : Int), .int .i64 ((dnS f zw : Nat) : Int), .int .i64 (f.S : Int)], .int .i64 1, .slice A n c, .slice B m d, .slice G q e] w (RetS w X) := by
  rw [hX.out, ← sw.len]
  exact r7_run_bw (Lib.hid hf.out.ok) (sw.len.trans (tRightB_len h1 hf.out.w)) (sx.len.trans (tRightB_len h2 hf.out.x)) (sg.len.trans (tRightB_len h3 hf.out.v)) (Lib.hid hf.out.winD) (Lib.hid hf.out.winW) (Lib.hid hf.out.down)
theorem r7_backX {X : List Int} {zw zx : List Int} [sw : Sl w A n xw] [sx : Sl w B m xx] [sg : Sl w G q xg] [iw : I6s xw] [ig : I6s xg] (hf : Hid (CFof f zw zx V S)) (h1 : tRightB zw xw = true) (h2 : tRightB zx xx = true) (h3 : tRightB V xg = true) (hX : Hid (X = bxFold xg xw xx.length f.all)) :
    Calls Try.prog 23 #[.agg #[.int .i64 (f.O : Int), .int .i64 (f.C : Int), .int .i64 (f.K : Int), .int .i64 (f.L : Int), .int .i64 (f.H : Int), .int .i64 (f.W : Int), .int .i64 ((dnS f zw : Nat) : Int), .int .i64 (f.S : Int)], .int .i64 2, .slice A n c, .slice B m d, .slice G q e] w (RetS w X) := by
  rw [hX.out, ← sx.len]
  exact r7_run_bx (Lib.hid hf.out.ok) (sw.len.trans (tRightB_len h1 hf.out.w)) (sx.len.trans (tRightB_len h2 hf.out.x)) (sg.len.trans (tRightB_len h3 hf.out.v)) (Lib.hid hf.out.winD) (Lib.hid hf.out.winW) (Lib.hid hf.out.down)
end

set_option maxRecDepth 100000 in
set_option maxHeartbeats 20000000 in
theorem convBacks_calls (A B C D F G : Option Addr) (c d c' d' e e' : Nat) (zw xw zx xx zg xg : List Int) (S : Int) (w : World) (iA : IntsIn w A c zw) (iB : IntsIn w B d xw) (iC : IntsIn w C c' zx) (iD : IntsIn w D d' xx) (iF : IntsIn w F e zg) (iG : IntsIn w G e' xg) :
    Calls Try.prog 5 #[.agg #[.slice A zw.length c, .slice B xw.length d, .slice C zx.length c', .slice D xx.length d', .slice F zg.length e, .slice G xg.length e', .int .i64 S]] w (LawTrue w) := by
  have a : Sl w A zw.length zw := ⟨iA.rd, rfl⟩
  have b : Sl w B xw.length xw := ⟨iB.rd, rfl⟩
  have a' : Sl w C zx.length zx := ⟨iC.rd, rfl⟩
  have b' : Sl w D xx.length xx := ⟨iD.rd, rfl⟩
  have ag : Sl w F zg.length zg := ⟨iF.rd, rfl⟩
  have bg : Sl w G xg.length xg := ⟨iG.rd, rfl⟩
  have i6 : I6s xw := iB.i6
  have i6' : I6s xx := iD.i6
  have i6g : I6s xg := iG.i6
  have lc : Le zw.length c := ⟨iA.2.1⟩
  have lx : Le zx.length c' := ⟨iC.2.1⟩
  clear iA iB iC iD iF iG
  have CB := @cell_bx
  have CP := @cell_prev
  rcases hs : ((decide (zw.length ≤ 9) && decide (zx.length ≤ 9)) && decide (zg.length ≤ 9) && decide (xw.length ≤ 200) && decide (xx.length ≤ 200) && decide (xg.length ≤ 400)) with _ | _
  · go_enter Try.func5, Try.ntmps5
    go_wp2_with (first | (go_at_call 19; (try first | (with_reducible refine gen_boxK3 (fun u _ _ _ _ => ?_)) | (with_reducible refine gen_boxK2 (fun u _ _ _ => ?_)) | (with_reducible refine gen_boxK (fun u _ _ => ?_))); (with_reducible refine (a07_small).mono ?_); rintro e u ⟨rfl, _⟩) | (go_at_call 15; (try first | (with_reducible refine gen_boxK3 (fun u _ _ _ _ => ?_)) | (with_reducible refine gen_boxK2 (fun u _ _ _ => ?_)) | (with_reducible refine gen_boxK (fun u _ _ => ?_))); (with_reducible refine (a07_awake).mono ?_); rintro e u ⟨rfl, _⟩))
    go_ret
    exact ⟨rfl, bel w _⟩
  have hs' := hs
  simp only [Bool.and_eq_true, decide_eq_true_eq, and_assoc] at hs'
  obtain ⟨hl1, hl2, hl3, hl4, hl5, hl6⟩ := hs'
  obtain ⟨V, hV⟩ : ∃ V, cvV zw zx S = V := ⟨_, rfl⟩
  obtain ⟨E, hE⟩ : ∃ E, goE7 zw xw zx xx S = E := ⟨_, rfl⟩
  have hVl : V.length ≤ 10 := by have := cvV_len zw zx S; rw [hV] at this; omega
  have HV := Lib.hid hV
  have HE := Lib.hid hE
  by_cases h0 : E = 0
  rotate_left
  · have e0 : (E != 0) = true := by simpa using h0
    have e1 : (E == 0) = false := by simpa using h0
    obtain ⟨E7, hE7⟩ : ∃ E7, cvE zw zx S = E7 := ⟨_, rfl⟩
    have HE7 := Lib.hid hE7
    clear h0 hE hV hE7
    go_enter Try.func5, Try.ntmps5
    go_wp2_with (first | (go_at_call 19; (try first | (with_reducible refine gen_boxK3 (fun u _ _ _ _ => ?_)) | (with_reducible refine gen_boxK2 (fun u _ _ _ => ?_)) | (with_reducible refine gen_boxK (fun u _ _ => ?_))); (with_reducible refine (a07_small).mono ?_); rintro e u ⟨rfl, _⟩) | (go_at_call 26; (try first | (with_reducible refine gen_boxK3 (fun u _ _ _ _ => ?_)) | (with_reducible refine gen_boxK2 (fun u _ _ _ => ?_)) | (with_reducible refine gen_boxK (fun u _ _ => ?_))); (with_reducible refine (cv_back_no (by omega) (by omega) HE e0).mono ?_); rintro e u ⟨A', c', B', d', C', c1', D', d1', rfl, sA, sX, sC, sD, _⟩) | (go_at_call 21; (try first | (with_reducible refine gen_boxK3 (fun u _ _ _ _ => ?_)) | (with_reducible refine gen_boxK2 (fun u _ _ _ => ?_)) | (with_reducible refine gen_boxK (fun u _ _ => ?_))); (with_reducible refine (a07_refused (by omega) (by omega) HE).mono ?_); rintro e u ⟨rfl, _⟩) | (go_at_call 17; (try first | (with_reducible refine gen_boxK3 (fun u _ _ _ _ => ?_)) | (with_reducible refine gen_boxK2 (fun u _ _ _ => ?_)) | (with_reducible refine gen_boxK (fun u _ _ => ?_))); (with_reducible refine (a07_told (by omega) (by omega) HE7 HV).mono ?_); rintro e u ⟨A', c', rfl, sJ, lJ, fJ, _⟩) | (go_at_call 15; (try first | (with_reducible refine gen_boxK3 (fun u _ _ _ _ => ?_)) | (with_reducible refine gen_boxK2 (fun u _ _ _ => ?_)) | (with_reducible refine gen_boxK (fun u _ _ => ?_))); (with_reducible refine (a07_awake).mono ?_); rintro e u ⟨rfl, _⟩))
    go_ret
    exact ⟨rfl, bel w _⟩
  subst h0
  obtain ⟨h1, h2, hE7⟩ := goE7_parts hE
  have HE7 := Lib.hid hE7
  rcases h3 : tRightB zg xg with _ | _
  · have hno : (tRightB zg xg && decide (zg = V)) = false := by rw [h3]; rfl
    have HNO := Lib.hid hno
    clear hE hV hE7 hno
    go_enter Try.func5, Try.ntmps5
    go_wp2_with (first | (go_at_call 19; (try first | (with_reducible refine gen_boxK3 (fun u _ _ _ _ => ?_)) | (with_reducible refine gen_boxK2 (fun u _ _ _ => ?_)) | (with_reducible refine gen_boxK (fun u _ _ => ?_))); (with_reducible refine (a07_small).mono ?_); rintro e u ⟨rfl, _⟩) | (go_at_call 26; (try first | (with_reducible refine gen_boxK3 (fun u _ _ _ _ => ?_)) | (with_reducible refine gen_boxK2 (fun u _ _ _ => ?_)) | (with_reducible refine gen_boxK (fun u _ _ => ?_))); (with_reducible refine (cv_back_shape (by omega) (by omega) (by omega) HE HV (by omega) HNO.out).mono ?_); rintro e u ⟨A', c', B', d', C', c1', D', d1', rfl, sA, sX, sC, sD, _⟩) | (go_at_call 21; (try first | (with_reducible refine gen_boxK3 (fun u _ _ _ _ => ?_)) | (with_reducible refine gen_boxK2 (fun u _ _ _ => ?_)) | (with_reducible refine gen_boxK (fun u _ _ => ?_))); (with_reducible refine (a07_refused (by omega) (by omega) HE).mono ?_); rintro e u ⟨rfl, _⟩) | (go_at_call 17; (try first | (with_reducible refine gen_boxK3 (fun u _ _ _ _ => ?_)) | (with_reducible refine gen_boxK2 (fun u _ _ _ => ?_)) | (with_reducible refine gen_boxK (fun u _ _ => ?_))); (with_reducible refine (a07_told (by omega) (by omega) HE7 HV).mono ?_); rintro e u ⟨A', c', rfl, sJ, lJ, fJ, _⟩) | (go_at_call 27; (try first | (with_reducible refine gen_boxK3 (fun u _ _ _ _ => ?_)) | (with_reducible refine gen_boxK2 (fun u _ _ _ => ?_)) | (with_reducible refine gen_boxK (fun u _ _ => ?_))); (with_reducible refine (a07_right (by omega)).mono ?_); rintro e u ⟨rfl, _⟩) | (go_at_call 15; (try first | (with_reducible refine gen_boxK3 (fun u _ _ _ _ => ?_)) | (with_reducible refine gen_boxK2 (fun u _ _ _ => ?_)) | (with_reducible refine gen_boxK (fun u _ _ => ?_))); (with_reducible refine (a07_awake).mono ?_); rintro e u ⟨rfl, _⟩))
    go_ret
    exact ⟨rfl, bel w _⟩
  by_cases h4 : zg = V
  rotate_left
  · have hno : (tRightB zg xg && decide (zg = V)) = false := by rw [decide_eq_false h4]; simp
    have HNO := Lib.hid hno
    have HS : Hid (decide (zg = V) = false) := Lib.hid (decide_eq_false h4)
    clear hE hV hE7 hno h4
    go_enter Try.func5, Try.ntmps5
    go_wp2_with (first | (go_at_call 19; (try first | (with_reducible refine gen_boxK3 (fun u _ _ _ _ => ?_)) | (with_reducible refine gen_boxK2 (fun u _ _ _ => ?_)) | (with_reducible refine gen_boxK (fun u _ _ => ?_))); (with_reducible refine (a07_small).mono ?_); rintro e u ⟨rfl, _⟩) | (go_at_call 26; (try first | (with_reducible refine gen_boxK3 (fun u _ _ _ _ => ?_)) | (with_reducible refine gen_boxK2 (fun u _ _ _ => ?_)) | (with_reducible refine gen_boxK (fun u _ _ => ?_))); (with_reducible refine (cv_back_shape (by omega) (by omega) (by omega) HE HV (by omega) HNO.out).mono ?_); rintro e u ⟨A', c', B', d', C', c1', D', d1', rfl, sA, sX, sC, sD, _⟩) | (go_at_call 21; (try first | (with_reducible refine gen_boxK3 (fun u _ _ _ _ => ?_)) | (with_reducible refine gen_boxK2 (fun u _ _ _ => ?_)) | (with_reducible refine gen_boxK (fun u _ _ => ?_))); (with_reducible refine (a07_refused (by omega) (by omega) HE).mono ?_); rintro e u ⟨rfl, _⟩) | (go_at_call 17; (try first | (with_reducible refine gen_boxK3 (fun u _ _ _ _ => ?_)) | (with_reducible refine gen_boxK2 (fun u _ _ _ => ?_)) | (with_reducible refine gen_boxK (fun u _ _ => ?_))); (with_reducible refine (a07_told (by omega) (by omega) HE7 HV).mono ?_); rintro e u ⟨A', c', rfl, sJ, lJ, fJ, _⟩) | (go_at_call 27; (try first | (with_reducible refine gen_boxK3 (fun u _ _ _ _ => ?_)) | (with_reducible refine gen_boxK2 (fun u _ _ _ => ?_)) | (with_reducible refine gen_boxK (fun u _ _ => ?_))); (with_reducible refine (a07_right (by omega)).mono ?_); rintro e u ⟨rfl, _⟩) | (go_at_call 18; (try first | (with_reducible refine gen_boxK3 (fun u _ _ _ _ => ?_)) | (with_reducible refine gen_boxK2 (fun u _ _ _ => ?_)) | (with_reducible refine gen_boxK (fun u _ _ => ?_))); (with_reducible refine (a03_sameH (by omega) (by omega) HS).mono ?_); rintro e u ⟨rfl, _⟩) | (go_at_call 15; (try first | (with_reducible refine gen_boxK3 (fun u _ _ _ _ => ?_)) | (with_reducible refine gen_boxK2 (fun u _ _ _ => ?_)) | (with_reducible refine gen_boxK (fun u _ _ => ?_))); (with_reducible refine (a07_awake).mono ?_); rintro e u ⟨rfl, _⟩))
    go_ret
    exact ⟨rfl, bel w _⟩
  subst h4
  obtain ⟨f, hf⟩ := cv_nats hE7
  rw [hV] at hf
  have HF := Lib.hid hf
  obtain ⟨X, hX⟩ : ∃ X, X = bwFold xg xx xw.length f.all := ⟨_, rfl⟩
  obtain ⟨Y, hY⟩ : ∃ Y, Y = bxFold xg xw xx.length f.all := ⟨_, rfl⟩
  have hXl : X.length ≤ 65536 := by rw [hX, bwFold_len]; omega
  have hYl : Y.length ≤ 65536 := by rw [hY, bxFold_len]; omega
  have HX := Lib.hid hX
  have HY := Lib.hid hY
  clear hE hV hf hE7 hX hY
  go_enter Try.func5, Try.ntmps5
  go_upto_region 11 with (first | (go_at_call 19; (try first | (with_reducible refine gen_boxK3 (fun u _ _ _ _ => ?_)) | (with_reducible refine gen_boxK2 (fun u _ _ _ => ?_)) | (with_reducible refine gen_boxK (fun u _ _ => ?_))); (with_reducible refine (a07_small).mono ?_); rintro e u ⟨rfl, _⟩) | (go_at_call 26; (try first | (with_reducible refine gen_boxK3 (fun u _ _ _ _ => ?_)) | (with_reducible refine gen_boxK2 (fun u _ _ _ => ?_)) | (with_reducible refine gen_boxK (fun u _ _ => ?_))); (with_reducible refine (cv_back_yes (by omega) (by omega) (by omega) h1 h2 HE7 HV h3 HF HX HY).mono ?_); rintro e u ⟨A', c', B', d', C', c1', D', d1', rfl, sA, sX, sC, sD, _⟩) | (go_at_call 21; (try first | (with_reducible refine gen_boxK3 (fun u _ _ _ _ => ?_)) | (with_reducible refine gen_boxK2 (fun u _ _ _ => ?_)) | (with_reducible refine gen_boxK (fun u _ _ => ?_))); (with_reducible refine (a07_refused (by omega) (by omega) HE).mono ?_); rintro e u ⟨rfl, _⟩) | (go_at_call 17; (try first | (with_reducible refine gen_boxK3 (fun u _ _ _ _ => ?_)) | (with_reducible refine gen_boxK2 (fun u _ _ _ => ?_)) | (with_reducible refine gen_boxK (fun u _ _ => ?_))); (with_reducible refine (a07_told (by omega) (by omega) HE7 HV).mono ?_); rintro e u ⟨A', c', rfl, sJ, lJ, fJ, _⟩) | (go_at_call 27; (try first | (with_reducible refine gen_boxK3 (fun u _ _ _ _ => ?_)) | (with_reducible refine gen_boxK2 (fun u _ _ _ => ?_)) | (with_reducible refine gen_boxK (fun u _ _ => ?_))); (with_reducible refine (a07_right (by omega)).mono ?_); rintro e u ⟨rfl, _⟩) | (go_at_call 18; (try first | (with_reducible refine gen_boxK3 (fun u _ _ _ _ => ?_)) | (with_reducible refine gen_boxK2 (fun u _ _ _ => ?_)) | (with_reducible refine gen_boxK (fun u _ _ => ?_))); (with_reducible refine (a03_sameT (by omega) (by omega)).mono ?_); rintro e u ⟨rfl, _⟩) | (go_at_call 24; (try first | (with_reducible refine gen_boxK3 (fun u _ _ _ _ => ?_)) | (with_reducible refine gen_boxK2 (fun u _ _ _ => ?_)) | (with_reducible refine gen_boxK (fun u _ _ => ?_))); (with_reducible refine (r7_ofU HF).mono ?_); rintro e u ⟨rfl, _⟩))
  obtain ⟨v, rfl⟩ : ∃ v : World, v = u := ⟨_, rfl⟩
  refine wp_region_upR v (fun w9 => Bx w9 v.heap.size 45 #[.int .i64 (f.O : Int), .int .i64 (f.C : Int), .int .i64 (f.K : Int), .int .i64 (f.L : Int), .int .i64 (f.H : Int), .int .i64 (f.W : Int), .int .i64 ((dnS f zw : Nat) : Int), .int .i64 (f.S : Int)]) (by kernel_rfl) inferInstance (fun ux _ => ?_)
  refine wpAnyH_on (i := 0) (d := 86) (v := ?_) rfl rfl (by kernel_rfl) (by kernel_rfl) (by kernel_rfl) (fun _ _ _ h => h) (by kernel_rfl) ⟨prev_bel _ _, inferInstance⟩ ?_ ?_
  rotate_left
  · rintro uu ⟨pu, r1⟩
    go_simp
    try (with_reducible rfl)
  try simp only [List.set]
  refine wpAnyH_on (i := 1) (d := 87) (v := ?_) rfl rfl (by kernel_rfl) (by kernel_rfl) (by kernel_rfl) (fun _ _ _ h => h) (by kernel_rfl) ⟨prev_bel _ _, inferInstance⟩ ?_ ?_
  rotate_left
  · rintro uu ⟨pu, r1⟩
    go_simp
    try (with_reducible rfl)
  try simp only [List.set]
  refine wpAnyH_on (i := 2) (d := 88) (v := ?_) rfl rfl (by kernel_rfl) (by kernel_rfl) (by kernel_rfl) (fun _ _ _ h => h) (by kernel_rfl) ⟨prev_bel _ _, inferInstance⟩ ?_ ?_
  rotate_left
  · rintro uu ⟨pu, r1⟩
    go_simp
    try (with_reducible rfl)
  try simp only [List.set]
  refine wpAnyH_on (i := 3) (d := 89) (v := ?_) rfl rfl (by kernel_rfl) (by kernel_rfl) (by kernel_rfl) (fun _ _ _ h => h) (by kernel_rfl) ⟨prev_bel _ _, inferInstance⟩ ?_ ?_
  rotate_left
  · rintro uu ⟨pu, r1⟩
    go_simp
    try (with_reducible rfl)
  try simp only [List.set]
  refine wpAnyH_on (i := 4) (d := 90) (v := ?_) rfl rfl (by kernel_rfl) (by kernel_rfl) (by kernel_rfl) (fun _ _ _ h => h) (by kernel_rfl) ⟨prev_bel _ _, inferInstance⟩ ?_ ?_
  rotate_left
  · rintro uu ⟨pu, r1⟩
    go_simp
    try (with_reducible rfl)
  try simp only [List.set]
  refine wpAnyH_on (i := 5) (d := 91) (v := ?_) rfl rfl (by kernel_rfl) (by kernel_rfl) (by kernel_rfl) (fun _ _ _ h => h) (by kernel_rfl) ⟨prev_bel _ _, inferInstance⟩ ?_ ?_
  rotate_left
  · rintro uu ⟨pu, r1⟩
    go_simp
    try (with_reducible rfl)
  try simp only [List.set]
  refine wpAnyH_on (i := 6) (d := 92) (v := ?_) rfl rfl (by kernel_rfl) (by kernel_rfl) (by kernel_rfl) (fun _ _ _ h => h) (by kernel_rfl) ⟨prev_bel _ _, inferInstance⟩ ?_ ?_
  rotate_left
  · rintro uu ⟨pu, r1⟩
    go_simp
    try (with_reducible rfl)
  try simp only [List.set]
  refine wpAnyH_on (i := 7) (d := 93) (v := ?_) rfl rfl (by kernel_rfl) (by kernel_rfl) (by kernel_rfl) (fun _ _ _ h => h) (by kernel_rfl) ⟨prev_bel _ _, inferInstance⟩ ?_ ?_
  rotate_left
  · rintro uu ⟨pu, r1⟩
    go_simp
    try (with_reducible rfl)
  try simp only [List.set]
  refine wpAnyH_on (i := 8) (d := 94) (v := ?_) rfl rfl (by kernel_rfl) (by kernel_rfl) (by kernel_rfl) (fun _ _ _ h => h) (by kernel_rfl) ⟨prev_bel _ _, inferInstance⟩ ?_ ?_
  rotate_left
  · rintro uu ⟨pu, r1⟩
    go_simp
    try (with_reducible rfl)
  try simp only [List.set]
  refine wpAnyH_on (i := 9) (d := 95) (v := ?_) rfl rfl (by kernel_rfl) (by kernel_rfl) (by kernel_rfl) (fun _ _ _ h => h) (by kernel_rfl) ⟨prev_bel _ _, inferInstance⟩ ?_ ?_
  rotate_left
  · rintro uu ⟨pu, r1⟩
    go_simp
    try (with_reducible rfl)
  try simp only [List.set]
  refine wpAnyH_on (i := 10) (d := 96) (v := ?_) rfl rfl (by kernel_rfl) (by kernel_rfl) (by kernel_rfl) (fun _ _ _ h => h) (by kernel_rfl) ⟨prev_bel _ _, inferInstance⟩ ?_ ?_
  rotate_left
  · rintro uu ⟨pu, r1⟩
    go_simp
    try (with_reducible rfl)
  try simp only [List.set]
  refine wpAnyH_on (i := 12) (d := 98) (v := ?_) rfl rfl (by kernel_rfl) (by kernel_rfl) (by kernel_rfl) (fun _ _ _ h => h) (by kernel_rfl) ⟨prev_bel _ _, inferInstance⟩ ?_ ?_
  rotate_left
  · rintro uu ⟨pu, r1⟩
    go_simp
    try (with_reducible rfl)
  try simp only [List.set]
  refine wpAnyH_on (i := 13) (d := 99) (v := ?_) rfl rfl (by kernel_rfl) (by kernel_rfl) (by kernel_rfl) (fun _ _ _ h => h) (by kernel_rfl) ⟨prev_bel _ _, inferInstance⟩ ?_ ?_
  rotate_left
  · rintro uu ⟨pu, r1⟩
    go_simp
    try (with_reducible rfl)
  try simp only [List.set]
  refine wpAnyH_on (i := 15) (d := 101) (v := ?_) rfl rfl (by kernel_rfl) (by kernel_rfl) (by kernel_rfl) (fun _ _ _ h => h) (by kernel_rfl) ⟨prev_bel _ _, inferInstance⟩ ?_ ?_
  rotate_left
  · rintro uu ⟨pu, r1⟩
    go_simp
    try (with_reducible rfl)
  try simp only [List.set]
  refine wpAnyH_on (i := 16) (d := 102) (v := ?_) rfl rfl (by kernel_rfl) (by kernel_rfl) (by kernel_rfl) (fun _ _ _ h => h) (by kernel_rfl) ⟨prev_bel _ _, inferInstance⟩ ?_ ?_
  rotate_left
  · rintro uu ⟨pu, r1⟩
    go_simp
    try (with_reducible rfl)
  try simp only [List.set]
  refine wpAnyH_ready (rs := [11]) (by kernel_rfl) (by simp) ?_
  refine AllReadyH.cons rfl (fun K hK => ?_) AllReadyH.nil
  go_simp
  (with_reducible refine (a07_cells (by omega)).mono ?_)
  rintro e ux ⟨C1, e1, rfl, s1, l1, _⟩
  dsimp only
  refine hK.out _ _ ⟨prev_bel v _, inferInstance⟩ (fun hHeld => ?_)
  clear hHeld hK K
  try dsimp only [Act.put, List.setIfInBounds_toArray, List.set_cons_zero, List.set_cons_succ]
  refine wpAnyH_ready (rs := [14]) (by kernel_rfl) (by simp) ?_
  refine AllReadyH.cons rfl (fun K hK => ?_) AllReadyH.nil
  go_simp
  (with_reducible refine (a07_cells (by omega)).mono ?_)
  rintro e ux ⟨C2, e2, rfl, s2, l2, _⟩
  dsimp only
  refine hK.out _ _ ⟨prev_bel v _, inferInstance⟩ (fun hHeld => ?_)
  clear hHeld hK K
  try dsimp only [Act.put, List.setIfInBounds_toArray, List.set_cons_zero, List.set_cons_succ]
  refine wpAnyH_ready (rs := [17]) (by kernel_rfl) (by simp) ?_
  refine AllReadyH.cons rfl (fun K hK => ?_) AllReadyH.nil
  go_simp
  (with_reducible refine (a07_cells (by omega)).mono ?_)
  rintro e ux ⟨C3, e3, rfl, s3, l3, _⟩
  dsimp only
  refine hK.out _ _ ⟨prev_bel v _, inferInstance⟩ (fun hHeld => ?_)
  clear hHeld hK K
  try dsimp only [Act.put, List.setIfInBounds_toArray, List.set_cons_zero, List.set_cons_succ]
  refine wpAnyH_ready (rs := [18]) (by kernel_rfl) (by simp) ?_
  refine AllReadyH.cons rfl (fun K hK => ?_) AllReadyH.nil
  go_simp
  (with_reducible refine (r7_backW HF h1 h2 h3 HX).mono ?_)
  rintro e ux ⟨R1, r1, rfl, sR, _⟩
  dsimp only
  refine hK.out _ _ ⟨prev_bel v _, inferInstance⟩ (fun hHeld => ?_)
  clear hHeld hK K
  try dsimp only [Act.put, List.setIfInBounds_toArray, List.set_cons_zero, List.set_cons_succ]
  refine wpAnyH_ready (rs := [19]) (by kernel_rfl) (by simp) ?_
  refine AllReadyH.cons rfl (fun K hK => ?_) AllReadyH.nil
  go_simp
  (with_reducible refine (a07_sameT (by omega) (by omega) (by omega) (by omega)).mono ?_)
  rintro e ux ⟨rfl, _⟩
  dsimp only
  refine hK.out _ _ ⟨prev_bel v _, inferInstance⟩ (fun hHeld => ?_)
  clear hHeld hK K
  try dsimp only [Act.put, List.setIfInBounds_toArray, List.set_cons_zero, List.set_cons_succ]
  refine wpAnyH_on (i := 20) (d := 106) (v := ?_) rfl rfl (by kernel_rfl) (by kernel_rfl) (by kernel_rfl) (fun _ _ _ h => h) (by kernel_rfl) ⟨prev_bel _ _, inferInstance⟩ ?_ ?_
  rotate_left
  · rintro uu ⟨pu, r1⟩
    go_simp
    try (with_reducible rfl)
  try simp only [List.set]
  refine wpAnyH_on (i := 21) (d := 107) (v := ?_) rfl rfl (by kernel_rfl) (by kernel_rfl) (by kernel_rfl) (fun _ _ _ h => h) (by kernel_rfl) ⟨prev_bel _ _, inferInstance⟩ ?_ ?_
  rotate_left
  · rintro uu ⟨pu, r1⟩
    go_simp
    try (with_reducible rfl)
  try simp only [List.set]
  refine wpAnyH_on (i := 22) (d := 108) (v := ?_) rfl rfl (by kernel_rfl) (by kernel_rfl) (by kernel_rfl) (fun _ _ _ h => h) (by kernel_rfl) ⟨prev_bel _ _, inferInstance⟩ ?_ ?_
  rotate_left
  · rintro uu ⟨pu, r1⟩
    go_simp
    try (with_reducible rfl)
  try simp only [List.set]
  refine wpAnyH_on (i := 23) (d := 109) (v := ?_) rfl rfl (by kernel_rfl) (by kernel_rfl) (by kernel_rfl) (fun _ _ _ h => h) (by kernel_rfl) ⟨prev_bel _ _, inferInstance⟩ ?_ ?_
  rotate_left
  · rintro uu ⟨pu, r1⟩
    go_simp
    try (with_reducible rfl)
  try simp only [List.set]
  refine wpAnyH_on (i := 24) (d := 110) (v := ?_) rfl rfl (by kernel_rfl) (by kernel_rfl) (by kernel_rfl) (fun _ _ _ h => h) (by kernel_rfl) ⟨prev_bel _ _, inferInstance⟩ ?_ ?_
  rotate_left
  · rintro uu ⟨pu, r1⟩
    go_simp
    try (with_reducible rfl)
  try simp only [List.set]
  refine wpAnyH_on (i := 25) (d := 111) (v := ?_) rfl rfl (by kernel_rfl) (by kernel_rfl) (by kernel_rfl) (fun _ _ _ h => h) (by kernel_rfl) ⟨prev_bel _ _, inferInstance⟩ ?_ ?_
  rotate_left
  · rintro uu ⟨pu, r1⟩
    go_simp
    try (with_reducible rfl)
  try simp only [List.set]
  refine wpAnyH_on (i := 26) (d := 112) (v := ?_) rfl rfl (by kernel_rfl) (by kernel_rfl) (by kernel_rfl) (fun _ _ _ h => h) (by kernel_rfl) ⟨prev_bel _ _, inferInstance⟩ ?_ ?_
  rotate_left
  · rintro uu ⟨pu, r1⟩
    go_simp
    try (with_reducible rfl)
  try simp only [List.set]
  refine wpAnyH_on (i := 27) (d := 113) (v := ?_) rfl rfl (by kernel_rfl) (by kernel_rfl) (by kernel_rfl) (fun _ _ _ h => h) (by kernel_rfl) ⟨prev_bel _ _, inferInstance⟩ ?_ ?_
  rotate_left
  · rintro uu ⟨pu, r1⟩
    go_simp
    try (with_reducible rfl)
  try simp only [List.set]
  refine wpAnyH_on (i := 28) (d := 114) (v := ?_) rfl rfl (by kernel_rfl) (by kernel_rfl) (by kernel_rfl) (fun _ _ _ h => h) (by kernel_rfl) ⟨prev_bel _ _, inferInstance⟩ ?_ ?_
  rotate_left
  · rintro uu ⟨pu, r1⟩
    go_simp
    try (with_reducible rfl)
  try simp only [List.set]
  refine wpAnyH_on (i := 29) (d := 115) (v := ?_) rfl rfl (by kernel_rfl) (by kernel_rfl) (by kernel_rfl) (fun _ _ _ h => h) (by kernel_rfl) ⟨prev_bel _ _, inferInstance⟩ ?_ ?_
  rotate_left
  · rintro uu ⟨pu, r1⟩
    go_simp
    try (with_reducible rfl)
  try simp only [List.set]
  refine wpAnyH_on (i := 31) (d := 117) (v := ?_) rfl rfl (by kernel_rfl) (by kernel_rfl) (by kernel_rfl) (fun _ _ _ h => h) (by kernel_rfl) ⟨prev_bel _ _, inferInstance⟩ ?_ ?_
  rotate_left
  · rintro uu ⟨pu, r1⟩
    go_simp
    try (with_reducible rfl)
  try simp only [List.set]
  refine wpAnyH_on (i := 32) (d := 118) (v := ?_) rfl rfl (by kernel_rfl) (by kernel_rfl) (by kernel_rfl) (fun _ _ _ h => h) (by kernel_rfl) ⟨prev_bel _ _, inferInstance⟩ ?_ ?_
  rotate_left
  · rintro uu ⟨pu, r1⟩
    go_simp
    try (with_reducible rfl)
  try simp only [List.set]
  refine wpAnyH_on (i := 34) (d := 120) (v := ?_) rfl rfl (by kernel_rfl) (by kernel_rfl) (by kernel_rfl) (fun _ _ _ h => h) (by kernel_rfl) ⟨prev_bel _ _, inferInstance⟩ ?_ ?_
  rotate_left
  · rintro uu ⟨pu, r1⟩
    go_simp
    try (with_reducible rfl)
  try simp only [List.set]
  refine wpAnyH_on (i := 35) (d := 121) (v := ?_) rfl rfl (by kernel_rfl) (by kernel_rfl) (by kernel_rfl) (fun _ _ _ h => h) (by kernel_rfl) ⟨prev_bel _ _, inferInstance⟩ ?_ ?_
  rotate_left
  · rintro uu ⟨pu, r1⟩
    go_simp
    try (with_reducible rfl)
  try simp only [List.set]
  refine wpAnyH_ready (rs := [30]) (by kernel_rfl) (by simp) ?_
  refine AllReadyH.cons rfl (fun K hK => ?_) AllReadyH.nil
  go_simp
  (with_reducible refine (a07_cells (by omega)).mono ?_)
  rintro e ux ⟨C4, e4, rfl, s4, l4, _⟩
  dsimp only
  refine hK.out _ _ ⟨prev_bel v _, inferInstance⟩ (fun hHeld => ?_)
  clear hHeld hK K
  try dsimp only [Act.put, List.setIfInBounds_toArray, List.set_cons_zero, List.set_cons_succ]
  refine wpAnyH_ready (rs := [33]) (by kernel_rfl) (by simp) ?_
  refine AllReadyH.cons rfl (fun K hK => ?_) AllReadyH.nil
  go_simp
  (with_reducible refine (a07_cells (by omega)).mono ?_)
  rintro e ux ⟨C5, e5, rfl, s5, l5, _⟩
  dsimp only
  refine hK.out _ _ ⟨prev_bel v _, inferInstance⟩ (fun hHeld => ?_)
  clear hHeld hK K
  try dsimp only [Act.put, List.setIfInBounds_toArray, List.set_cons_zero, List.set_cons_succ]
  refine wpAnyH_ready (rs := [36]) (by kernel_rfl) (by simp) ?_
  refine AllReadyH.cons rfl (fun K hK => ?_) AllReadyH.nil
  go_simp
  (with_reducible refine (a07_cells (by omega)).mono ?_)
  rintro e ux ⟨C6, e6, rfl, s6, l6, _⟩
  dsimp only
  refine hK.out _ _ ⟨prev_bel v _, inferInstance⟩ (fun hHeld => ?_)
  clear hHeld hK K
  try dsimp only [Act.put, List.setIfInBounds_toArray, List.set_cons_zero, List.set_cons_succ]
  refine wpAnyH_ready (rs := [37]) (by kernel_rfl) (by simp) ?_
  refine AllReadyH.cons rfl (fun K hK => ?_) AllReadyH.nil
  go_simp
  (with_reducible refine (r7_backX HF h1 h2 h3 HY).mono ?_)
  rintro e ux ⟨R2, r2, rfl, sR2, _⟩
  dsimp only
  refine hK.out _ _ ⟨prev_bel v _, inferInstance⟩ (fun hHeld => ?_)
  clear hHeld hK K
  try dsimp only [Act.put, List.setIfInBounds_toArray, List.set_cons_zero, List.set_cons_succ]
  refine wpAnyH_ready (rs := [38]) (by kernel_rfl) (by simp) ?_
  refine AllReadyH.cons rfl (fun K hK => ?_) AllReadyH.nil
  go_simp
  (with_reducible refine (a07_sameT (by omega) (by omega) (by omega) (by omega)).mono ?_)
  rintro e ux ⟨rfl, _⟩
  dsimp only
  refine hK.out _ _ ⟨prev_bel v _, inferInstance⟩ (fun hHeld => ?_)
  clear hHeld hK K
  try dsimp only [Act.put, List.setIfInBounds_toArray, List.set_cons_zero, List.set_cons_succ]
  refine wpAnyH_on (i := 39) (d := 125) (v := ?_) rfl rfl (by kernel_rfl) (by kernel_rfl) (by kernel_rfl) (fun _ _ _ h => h) (by kernel_rfl) ⟨prev_bel _ _, inferInstance⟩ ?_ ?_
  rotate_left
  · rintro uu ⟨pu, r1⟩
    go_simp
    try (with_reducible rfl)
  try simp only [List.set]
  refine wpAnyH_on (i := 40) (d := 126) (v := ?_) rfl rfl (by kernel_rfl) (by kernel_rfl) (by kernel_rfl) (fun _ _ _ h => h) (by kernel_rfl) ⟨prev_bel _ _, inferInstance⟩ ?_ ?_
  rotate_left
  · rintro uu ⟨pu, r1⟩
    go_simp
    try (with_reducible rfl)
  try simp only [List.set]
  refine wpAnyH_ready (rs := [41]) (by kernel_rfl) (by simp) ?_
  refine AllReadyH.cons rfl (fun K hK => ?_) AllReadyH.nil
  go_simp
  (with_reducible refine (a07_awake).mono ?_)
  rintro e ux ⟨rfl, _⟩
  dsimp only
  refine hK.out _ _ ⟨prev_bel v _, inferInstance⟩ (fun hHeld => ?_)
  clear hHeld hK K
  try dsimp only [Act.put, List.setIfInBounds_toArray, List.set_cons_zero, List.set_cons_succ]
  refine wpAnyH_on (i := 42) (d := 128) (v := ?_) rfl rfl (by kernel_rfl) (by kernel_rfl) (by kernel_rfl) (fun _ _ _ h => h) (by kernel_rfl) ⟨prev_bel _ _, inferInstance⟩ ?_ ?_
  rotate_left
  · rintro uu ⟨pu, r1⟩
    go_simp
    try (with_reducible rfl)
  try simp only [List.set]
  refine wpAnyH_on (i := 43) (d := 2) (v := ?_) rfl rfl (by kernel_rfl) (by kernel_rfl) (by kernel_rfl) (fun _ _ _ h => h) (by kernel_rfl) ⟨prev_bel _ _, inferInstance⟩ ?_ ?_
  rotate_left
  · rintro uu ⟨pu, r1⟩
    go_simp
    try (with_reducible rfl)
  try simp only [List.set]
  refine wpAnyH_done (by kernel_rfl) ?_ _
  go_wp2_with fail
  go_ret
  exact ⟨rfl, bel w _⟩

end Go.Proofs.Yteibgdcieaiaiaa

namespace Go.Proofs.Yteibgdcieaiaiaa
open Go.ChangeShapes Go.WideShapes Go.ChangeAt Go.RowKit

set_option maxRecDepth 100000 in
theorem convBacks_lifted (os : Os) (started : os.Started) (H : Type) (enc : TypeId × Value → H) :
    ReturnsInHanded {} Try.checked os 5 .any (Rows.convBacksSpec.pre6 enc Try.prog Try.f5 Rows.convBacksRow.domain false) (Rows.convBacksSpec.post enc Try.prog Try.f5 false true false false) := by
  refine returnsInHanded_of_change (C := Try.checked) ownKnob_none started (by kernel_rfl) Try.func5
    (ChangeSpec.witness6 (enc := enc) (C := Try.checked) false ⟨#[], #[.agg #[.slice none 0 0, .slice none 0 0, .slice none 0 0, .slice none 0 0, .slice none 0 0, .slice none 0 0, .int .i64 0]], []⟩ 8 (by kernel_rfl) (by kernel_rfl) (by kernel_rfl) (by kernel_rfl)) ?_
  intro W base args ds gs before hval0 hW _ _
  have hval : ∀ (j : Nat) t v, Try.f5.params[j]? = some t → args[j]? = some v → Value.okWide Try.prog W .any base t v := hval0
  have hW' := hW
  obtain ⟨p, q, hA0, hV, rfl, _, _⟩ := hW
  have hA : DataW.TrodAll enc Try.prog W 0 (fun _ => true) true Try.f5.params.toList args.toList ds p := hA0
  rw [Try.params5] at hA hval
  have hAll := hA
  obtain ⟨v0, vs0, d0, ds0, p0, q0, hargs, rfl, rfl, h0, r0⟩ := trodAll_cons hA
  obtain ⟨rfl, rfl, rfl⟩ := trodAll_nil r0
  obtain rfl : args = #[v0] := by cases args; simp_all
  obtain ⟨rfl, rfl⟩ := trodVars_none hV
  obtain ⟨cs0, rfl, hsz0⟩ := okWide_struct Try.underlying36 (hval 0 36 v0 rfl rfl)
  obtain ⟨q0a, q0b, q0c, q0d, q0e, q0f, q0g, rfl⟩ := arr7 (hsz0.trans (by kernel_rfl))
  obtain ⟨fuel0, hf0⟩ := h0
  replace hf0 : DataW.trod enc Try.prog W 0 (fun _ => true) true fuel0 36 [q0a, q0b, q0c, q0d, q0e, q0f, q0g] = some _ := hf0
  obtain ⟨_, _, hf0_0⟩ := fld Try.underlying36 hf0 0 _ rfl
  replace hf0_0 : DataW.trod enc Try.prog W 0 (fun _ => true) true _ 34 [q0a, q0b] = some _ := hf0_0
  obtain ⟨_, _, hf0_0_0⟩ := fld Try.underlying34 hf0_0 0 _ rfl
  replace hf0_0_0 : DataW.trod enc Try.prog W 0 (fun _ => true) true _ 23 [q0a] = some _ := hf0_0_0
  obtain ⟨A0a, c0a, z0a, rfl, w0a⟩ := trod_ints Try.underlying23 Try.underlying3 (by kernel_rfl) hf0_0_0
  obtain ⟨_, _, hf0_0_1⟩ := fld Try.underlying34 hf0_0 1 _ rfl
  replace hf0_0_1 : DataW.trod enc Try.prog W 0 (fun _ => true) true _ 32 [q0b] = some _ := hf0_0_1
  obtain ⟨A0b, c0b, z0b, rfl, w0b⟩ := trod_ints Try.underlying32 Try.underlying56 (by kernel_rfl) hf0_0_1
  obtain ⟨_, _, hf0_1⟩ := fld Try.underlying36 hf0 1 _ rfl
  replace hf0_1 : DataW.trod enc Try.prog W 0 (fun _ => true) true _ 34 [q0c, q0d] = some _ := hf0_1
  obtain ⟨_, _, hf0_1_0⟩ := fld Try.underlying34 hf0_1 0 _ rfl
  replace hf0_1_0 : DataW.trod enc Try.prog W 0 (fun _ => true) true _ 23 [q0c] = some _ := hf0_1_0
  obtain ⟨A0c, c0c, z0c, rfl, w0c⟩ := trod_ints Try.underlying23 Try.underlying3 (by kernel_rfl) hf0_1_0
  obtain ⟨_, _, hf0_1_1⟩ := fld Try.underlying34 hf0_1 1 _ rfl
  replace hf0_1_1 : DataW.trod enc Try.prog W 0 (fun _ => true) true _ 32 [q0d] = some _ := hf0_1_1
  obtain ⟨A0d, c0d, z0d, rfl, w0d⟩ := trod_ints Try.underlying32 Try.underlying56 (by kernel_rfl) hf0_1_1
  obtain ⟨_, _, hf0_2⟩ := fld Try.underlying36 hf0 2 _ rfl
  replace hf0_2 : DataW.trod enc Try.prog W 0 (fun _ => true) true _ 34 [q0e, q0f] = some _ := hf0_2
  obtain ⟨_, _, hf0_2_0⟩ := fld Try.underlying34 hf0_2 0 _ rfl
  replace hf0_2_0 : DataW.trod enc Try.prog W 0 (fun _ => true) true _ 23 [q0e] = some _ := hf0_2_0
  obtain ⟨A0e, c0e, z0e, rfl, w0e⟩ := trod_ints Try.underlying23 Try.underlying3 (by kernel_rfl) hf0_2_0
  obtain ⟨_, _, hf0_2_1⟩ := fld Try.underlying34 hf0_2 1 _ rfl
  replace hf0_2_1 : DataW.trod enc Try.prog W 0 (fun _ => true) true _ 32 [q0f] = some _ := hf0_2_1
  obtain ⟨A0f, c0f, z0f, rfl, w0f⟩ := trod_ints Try.underlying32 Try.underlying56 (by kernel_rfl) hf0_2_1
  obtain ⟨_, _, hf0_3⟩ := fld Try.underlying36 hf0 3 _ rfl
  replace hf0_3 : DataW.trod enc Try.prog W 0 (fun _ => true) true _ 3 [q0g] = some _ := hf0_3
  obtain ⟨a0g, rfl, w0g⟩ := trod_int1 Try.underlying3 hf0_3
  clear hA0 hval0
  refine (convBacks_calls A0a A0b A0c A0d A0e A0f c0a c0b c0c c0d c0e c0f z0a z0b z0c z0d z0e z0f a0g W w0a w0b w0c w0d w0e w0f).mono fun e W' ⟨he, bel⟩ => ?_
  subst he
  exact ⟨_, rfl, _, _, _, [], _, [], hW', trodAll_mk1 (shut_bool Try.underlying4 _), trodAll_below laidOut_all (by decide +kernel) hAll bel, rfl, bel.frame _, fun h => by cases h⟩

theorem convBacks_holds : Rows.ConvBacksSaid :=
  OpenClaim.holds_of_wide 5 Try.f5 rfl rfl rfl rfl rfl rfl rfl ⟨rfl, rfl, rfl, rfl, rfl⟩ rfl rfl rfl rfl rfl (by kernel_rfl) Try.func5 (by kernel_rfl)
    (of_decide_eq_true (by kernel_rfl)) (by unfold Func.isWrapper; first | (rw [if_pos (by decide +kernel)]; kernel_rfl) | (rw [if_neg (by decide +kernel)]; exact ⟨rfl, rfl⟩))
    (fun os started H enc _ => convBacks_lifted os started H enc)

end Go.Proofs.Yteibgdcieaiaiaa
