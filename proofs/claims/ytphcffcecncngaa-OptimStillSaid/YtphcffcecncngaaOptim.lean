/- Hypers: the program's Right, At, cell; the reference's. -/
import Derived.Test.YtphcffcecncngaaI6
import Derived.Test.YtphcffcecncngaaFixDiv
import Derived.Test.YtphcffcecncngaaRef01Div
import Derived.Test.YtphcffcecncngaaMisc
namespace Go.Proofs.Ytphcffcecncngaa
open Go.RowKit

/-- May hypers be? -/
def hyB (r m d cl dr ev : Int) : Bool := decide (0 ≤ r) && decide (0 ≤ m) && decide (0 ≤ d) && decide (0 ≤ cl) && decide (0 ≤ dr) && decide (0 ≤ ev) && decide (ev ≤ 1024)
/-- The rate behind k drops. -/
def hyR (r dr : Int) : Nat → Int
  | 0 => r
  | k + 1 => fmul (hyR r dr k) dr
/-- The rate of a step. -/
def hyAt (r dr ev step : Int) : Int := hyR r dr (step / ev).toNat
/-- What comes back, its clip, its decay. -/
def hyG (d cl p g : Int) : Int := fadd (if cl = 0 then g else fclamp g (fneg cl) cl) (fmul d p)
def hyV (m d cl p v g : Int) : Int := fadd (fmul m v) (hyG d cl p g)
def hyP (m d cl rate p v g : Int) : Int := fsub p (fmul rate (hyV m d cl p v g))
theorem hyR_bd {r dr : Int} (h : I64 r) (hd : I64 dr) : ∀ k, I64 (hyR r dr k)
  | 0 => h
  | k + 1 => fmul_bd (hyR_bd h hd k) hd
instance I6.sub {x y : Int} : I6 (fsub x y) := ⟨fsub_bd _ _⟩
instance I6.hyG {d cl p g : Int} : I6 (hyG d cl p g) := ⟨fadd_bd _ _⟩
instance I6.hyV {m d cl p v g : Int} : I6 (hyV m d cl p v g) := ⟨fadd_bd _ _⟩
instance I6.hyP {m d cl rate p v g : Int} : I6 (hyP m d cl rate p v g) := ⟨fsub_bd _ _⟩
theorem fclamp_bd {x l h : Int} (a : I64 x) (b : I64 l) (c : I64 h) : I64 (fclamp x l h) := by
  unfold fclamp; split
  · exact c
  · split
    · exact b
    · exact a
instance I6.clamp {x l h : Int} [a : I6 x] [b : I6 l] [c : I6 h] : I6 (fclamp x l h) := ⟨fclamp_bd a.bd b.bd c.bd⟩
instance I6.hyR {r dr : Int} [a : I6 r] [b : I6 dr] {k : Nat} : I6 (hyR r dr k) := ⟨hyR_bd a.bd b.bd k⟩
theorem aF_sub {w : World} {x y : Int} [a : I6 x] [b : I6 y] : Calls Try.prog 107 #[.int .i64 x, .int .i64 y] w (RetV w (.int .i64 (fsub x y))) := retSame (fix_sub x y w a.bd b.bd)
theorem idx5 {v0 v1 v2 v3 v4 : Value} (W : World) : (Instr.index 121 (.agg #[v0, v1, v2, v3, v4]) (.int .i64 0)).run Try.prog W = .ok v0 W ∧ (Instr.index 121 (.agg #[v0, v1, v2, v3, v4]) (.int .i64 1)).run Try.prog W = .ok v1 W ∧ (Instr.index 121 (.agg #[v0, v1, v2, v3, v4]) (.int .i64 2)).run Try.prog W = .ok v2 W ∧ (Instr.index 121 (.agg #[v0, v1, v2, v3, v4]) (.int .i64 3)).run Try.prog W = .ok v3 W ∧ (Instr.index 121 (.agg #[v0, v1, v2, v3, v4]) (.int .i64 4)).run Try.prog W = .ok v4 W := by
  refine ⟨?_, ?_, ?_, ?_, ?_⟩ <;> simp [Instr.index, run_underlying Try.underlying121, asIntOf, go_sem]
section
variable {w : World} {r m d cl dr ev : Int}
set_option maxRecDepth 100000 in
set_option maxHeartbeats 4000000 in
theorem op_hright : Calls Try.prog 29 #[.agg #[.int .i64 r, .int .i64 m, .int .i64 d, .int .i64 cl, .int .i64 dr, .int .i64 ev]] w (RetV w (.bool (hyB r m d cl dr ev))) := by
  have CB := @cell_bx
  have CP := @cell_prev
  have ix := fun W => idx5 (v0 := .int .i64 r) (v1 := .int .i64 m) (v2 := .int .i64 d) (v3 := .int .i64 cl) (v4 := .int .i64 dr) W
  have i0 := fun W => (ix W).1
  have i1 := fun W => (ix W).2.1
  have i2 := fun W => (ix W).2.2.1
  have i3 := fun W => (ix W).2.2.2.1
  have i4 := fun W => (ix W).2.2.2.2
  clear ix
  go_enter Try.func29, Try.ntmps29
  go_wp2_with fail
  go_loop [16] (fun i => ∃ k : Nat, k ≤ 5 ∧ i = .int .i64 k ∧ (0 < k → 0 ≤ r) ∧ (1 < k → 0 ≤ m) ∧ (2 < k → 0 ≤ d) ∧ (3 < k → 0 ≤ cl) ∧ (4 < k → 0 ≤ dr)) (fun i => 5 - (intOf i).toNat)
  case atStart => exact ⟨0, by omega, rfl, by omega, by omega, by omega, by omega, by omega⟩
  case round =>
    obtain ⟨k, hk, rfl, a0, a1, a2, a3, a4⟩ := hrel
    match k, hk with
    | 0, _ =>
      by_cases h : r < 0
      · have HB : Hid (hyB r m d cl dr ev = false) := Lib.hid (by simp [hyB]; omega)
        go_wp2_with fail
        go_ret
        exact ⟨by rw [HB.out]; rfl, prev_bel _ _⟩
      · go_wp2_with fail
        go_round
        case rel => exact ⟨1, by omega, rfl, by omega, by omega, by omega, by omega, by omega⟩
        case measure => simp [intOf]
    | 1, _ =>
      by_cases h : m < 0
      · have HB : Hid (hyB r m d cl dr ev = false) := Lib.hid (by simp [hyB]; omega)
        go_wp2_with fail
        go_ret
        exact ⟨by rw [HB.out]; rfl, prev_bel _ _⟩
      · go_wp2_with fail
        go_round
        case rel => exact ⟨2, by omega, rfl, by omega, by omega, by omega, by omega, by omega⟩
        case measure => simp [intOf]
    | 2, _ =>
      by_cases h : d < 0
      · have HB : Hid (hyB r m d cl dr ev = false) := Lib.hid (by simp [hyB]; omega)
        go_wp2_with fail
        go_ret
        exact ⟨by rw [HB.out]; rfl, prev_bel _ _⟩
      · go_wp2_with fail
        go_round
        case rel => exact ⟨3, by omega, rfl, by omega, by omega, by omega, by omega, by omega⟩
        case measure => simp [intOf]
    | 3, _ =>
      by_cases h : cl < 0
      · have HB : Hid (hyB r m d cl dr ev = false) := Lib.hid (by simp [hyB]; omega)
        go_wp2_with fail
        go_ret
        exact ⟨by rw [HB.out]; rfl, prev_bel _ _⟩
      · go_wp2_with fail
        go_round
        case rel => exact ⟨4, by omega, rfl, by omega, by omega, by omega, by omega, by omega⟩
        case measure => simp [intOf]
    | 4, _ =>
      by_cases h : dr < 0
      · have HB : Hid (hyB r m d cl dr ev = false) := Lib.hid (by simp [hyB]; omega)
        go_wp2_with fail
        go_ret
        exact ⟨by rw [HB.out]; rfl, prev_bel _ _⟩
      · go_wp2_with fail
        go_round
        case rel => exact ⟨5, by omega, rfl, by omega, by omega, by omega, by omega, by omega⟩
        case measure => simp [intOf]
    | 5, _ =>
      have b0 := a0 (by omega)
      have b1 := a1 (by omega)
      have b2 := a2 (by omega)
      have b3 := a3 (by omega)
      have b4 := a4 (by omega)
      clear a0 a1 a2 a3 a4
      by_cases h : ev < 0
      · have HB : Hid (hyB r m d cl dr ev = false) := Lib.hid (by simp [hyB]; omega)
        go_wp2_with fail
        go_ret
        exact ⟨by rw [HB.out]; rfl, prev_bel _ _⟩
      · by_cases h' : 1024 < ev
        · have HB : Hid (hyB r m d cl dr ev = false) := Lib.hid (by simp [hyB]; omega)
          have e : decide (ev ≤ 1024) = false := by simp; omega
          clear h'
          go_wp2_with fail
          go_ret
          exact ⟨by rw [HB.out]; rfl, prev_bel _ _⟩
        · have HB : Hid (hyB r m d cl dr ev = true) := Lib.hid (by simp [hyB]; omega)
          have e : decide (ev ≤ 1024) = true := by simp; omega
          clear h'
          go_wp2_with fail
          go_ret
          exact ⟨by rw [HB.out]; rfl, prev_bel _ _⟩
    | k + 6, h => omega
set_option maxRecDepth 100000 in
set_option maxHeartbeats 4000000 in
theorem op_at [ir : I6 r] [id : I6 dr] {st E R : Int} (hE : Hid ((if hyB r m d cl dr ev && decide (0 ≤ st) && decide (st ≤ 1024) then 0 else 11) = E)) (hR : Hid ((if hyB r m d cl dr ev && decide (0 ≤ st) && decide (st ≤ 1024) then hyAt r dr ev st else 0) = R)) :
    Calls Try.prog 26 #[.agg #[.int .i64 r, .int .i64 m, .int .i64 d, .int .i64 cl, .int .i64 dr, .int .i64 ev], .int .i64 st] w (RetV w (.tuple #[.int .i64 R, .int .i64 E])) := by
  have CB := @cell_bx
  have CP := @cell_prev
  have hE := hE.out
  have hR := hR.out
  rcases hb : hyB r m d cl dr ev with _ | _
  · rw [hb] at hE hR
    simp at hE hR
    subst hE hR
    go_enter Try.func26, Try.ntmps26
    go_wp2_with (first | (go_at_call 29; (try first | (with_reducible refine gen_boxK3 (fun u _ _ _ _ => ?_)) | (with_reducible refine gen_boxK2 (fun u _ _ _ => ?_)) | (with_reducible refine gen_boxK (fun u _ _ => ?_))); (with_reducible refine (op_hright).mono ?_); rintro e u ⟨rfl, _⟩))
    go_ret2
    exact ⟨rfl, prev_bel _ _⟩
  by_cases h0 : st < 0
  · rw [if_neg (by simp; omega)] at hE hR
    subst hE hR
    go_enter Try.func26, Try.ntmps26
    go_wp2_with (first | (go_at_call 29; (try first | (with_reducible refine gen_boxK3 (fun u _ _ _ _ => ?_)) | (with_reducible refine gen_boxK2 (fun u _ _ _ => ?_)) | (with_reducible refine gen_boxK (fun u _ _ => ?_))); (with_reducible refine (op_hright).mono ?_); rintro e u ⟨rfl, _⟩))
    go_ret2
    exact ⟨rfl, prev_bel _ _⟩
  by_cases h1 : 1024 < st
  · rw [if_neg (by simp; omega)] at hE hR
    subst hE hR
    go_enter Try.func26, Try.ntmps26
    go_wp2_with (first | (go_at_call 29; (try first | (with_reducible refine gen_boxK3 (fun u _ _ _ _ => ?_)) | (with_reducible refine gen_boxK2 (fun u _ _ _ => ?_)) | (with_reducible refine gen_boxK (fun u _ _ => ?_))); (with_reducible refine (op_hright).mono ?_); rintro e u ⟨rfl, _⟩))
    go_ret2
    exact ⟨rfl, prev_bel _ _⟩
  rw [if_pos (by simp [hb]; omega)] at hE hR
  subst hE
  have hev : 0 ≤ ev ∧ ev ≤ 1024 := by simp [hyB] at hb; omega
  by_cases he : ev = 0
  · subst he
    have HR : Hid (R = r) := Lib.hid (by rw [← hR, hyAt]; simp [hyR])
    clear hR
    go_enter Try.func26, Try.ntmps26
    go_wp2_with (first | (go_at_call 29; (try first | (with_reducible refine gen_boxK3 (fun u _ _ _ _ => ?_)) | (with_reducible refine gen_boxK2 (fun u _ _ _ => ?_)) | (with_reducible refine gen_boxK (fun u _ _ => ?_))); (with_reducible refine (op_hright).mono ?_); rintro e u ⟨rfl, _⟩))
    go_ret2
    exact ⟨by rw [HR.out]; rfl, prev_bel _ _⟩
  obtain ⟨q, hq⟩ : ∃ q : Nat, (q : Int) = st / ev := ⟨(st / ev).toNat, by have := Int.ediv_nonneg (a := st) (b := ev) (by omega) (by omega); omega⟩
  have hqd : st.tdiv ev = (q : Int) := by rw [Int.tdiv_eq_ediv_of_nonneg (by omega), hq]
  have hq2 : q ≤ 1024 := by
    have := Int.ediv_le_self (a := st) ev (by omega)
    omega
  have e0 : (ev == 0) = false := by simpa using he
  have HR : Hid (R = hyR r dr q) := Lib.hid (by rw [← hR, hyAt, ← hq, Int.toNat_natCast])
  have wq : IntKind.i64.wrap (q : Int) = (q : Int) := IntWalk.i64_in _ (by omega)
  clear hR hq
  go_enter Try.func26, Try.ntmps26
  go_wp2_with (first | (go_at_call 29; (try first | (with_reducible refine gen_boxK3 (fun u _ _ _ _ => ?_)) | (with_reducible refine gen_boxK2 (fun u _ _ _ => ?_)) | (with_reducible refine gen_boxK (fun u _ _ => ?_))); (with_reducible refine (op_hright).mono ?_); rintro e u ⟨rfl, _⟩))
  clear e0 hqd
  obtain ⟨v, rfl⟩ : ∃ v : World, v = u := ⟨_, rfl⟩
  go_loopw [6, 28] (fun x i wr => ∃ k : Nat, k ≤ q ∧ i = .int .i64 k ∧ x = .int .i64 (hyR r dr k) ∧ Prev wr v) (fun _ i _ => q - (intOf i).toNat)
  case atStart => exact ⟨0, Nat.zero_le _, rfl, rfl, prev_bel _ _⟩
  case round =>
    obtain ⟨k, hk, rfl, rfl, hp⟩ := hrel
    by_cases hlt : k < q
    · have HS : Hid (fmul (hyR r dr k) dr = hyR r dr (k + 1)) := Lib.hid rfl
      go_wp2_with (first | (go_at_call 61; (try first | (with_reducible refine gen_boxK3 (fun u _ _ _ _ => ?_)) | (with_reducible refine gen_boxK2 (fun u _ _ _ => ?_)) | (with_reducible refine gen_boxK (fun u _ _ => ?_))); (with_reducible refine (aF_mul).mono ?_); rintro e u ⟨rfl, _⟩))
      go_roundw
      case rel => exact ⟨k + 1, by omega, by go_num, by rw [HS.out], prev_bel _ _⟩
      case measure => simp [intOf]; omega
    · have HQ : Hid (hyR r dr k = R) := Lib.hid (by rw [HR.out, show k = q from by omega])
      go_wp2_with fail
      go_ret2
      exact ⟨by rw [HQ.out]; rfl, prev_bel _ _⟩
set_option maxRecDepth 100000 in
set_option maxHeartbeats 4000000 in
theorem op_cell [i1 : I6 m] [i2 : I6 d] [i3 : I6 cl] {p v g rt : Int} [i4 : I6 p] [i5 : I6 v] [i6 : I6 g] [i7 : I6 rt] :
    Calls Try.prog 71 #[.agg #[.int .i64 r, .int .i64 m, .int .i64 d, .int .i64 cl, .int .i64 dr, .int .i64 ev], .int .i64 p, .int .i64 v, .int .i64 g, .int .i64 rt] w (RetV w (.tuple #[.int .i64 (hyP m d cl rt p v g), .int .i64 (hyV m d cl p v g)])) := by
  have CB := @cell_bx
  have CP := @cell_prev
  by_cases h0 : cl = 0
  · have HG : Hid (hyV m d cl p v g = fadd (fmul m v) (fadd g (fmul d p))) := Lib.hid (by rw [hyV, hyG, if_pos h0])
    have HP : Hid (hyP m d cl rt p v g = fsub p (fmul rt (fadd (fmul m v) (fadd g (fmul d p))))) := Lib.hid (by rw [hyP, hyV, hyG, if_pos h0])
    have e0 : (cl == 0) = true := by simpa using h0
    clear h0
    go_enter Try.func71, Try.ntmps71
    go_wp2_with (first | (go_at_call 61; (try first | (with_reducible refine gen_boxK3 (fun u _ _ _ _ => ?_)) | (with_reducible refine gen_boxK2 (fun u _ _ _ => ?_)) | (with_reducible refine gen_boxK (fun u _ _ => ?_))); (with_reducible refine (aF_mul).mono ?_); rintro e u ⟨rfl, _⟩) | (go_at_call 67; (try first | (with_reducible refine gen_boxK3 (fun u _ _ _ _ => ?_)) | (with_reducible refine gen_boxK2 (fun u _ _ _ => ?_)) | (with_reducible refine gen_boxK (fun u _ _ => ?_))); (with_reducible refine (aF_add).mono ?_); rintro e u ⟨rfl, _⟩) | (go_at_call 107; (try first | (with_reducible refine gen_boxK3 (fun u _ _ _ _ => ?_)) | (with_reducible refine gen_boxK2 (fun u _ _ _ => ?_)) | (with_reducible refine gen_boxK (fun u _ _ => ?_))); (with_reducible refine (aF_sub).mono ?_); rintro e u ⟨rfl, _⟩))
    go_ret2
    exact ⟨by rw [HG.out, HP.out]; rfl, prev_bel _ _⟩
  · have HG : Hid (hyV m d cl p v g = fadd (fmul m v) (fadd (fclamp g (fneg cl) cl) (fmul d p))) := Lib.hid (by rw [hyV, hyG, if_neg h0])
    have HP : Hid (hyP m d cl rt p v g = fsub p (fmul rt (fadd (fmul m v) (fadd (fclamp g (fneg cl) cl) (fmul d p))))) := Lib.hid (by rw [hyP, hyV, hyG, if_neg h0])
    have e0 : (cl == 0) = false := by simpa using h0
    clear h0
    go_enter Try.func71, Try.ntmps71
    go_wp2_with fail
    refine wp_region_up0 (by kernel_rfl) (fun ux _ => ?_)
    refine wpAnyH_on (i := 0) (d := 15) (v := ?_) rfl rfl (by kernel_rfl) (by kernel_rfl) (by kernel_rfl) (fun _ _ _ h => h) (by kernel_rfl) (prev_bel _ _) ?_ ?_
    rotate_left
    · intro uu (pu : Prev uu _)
      go_simp
      try (with_reducible rfl)
    try simp only [List.set]
    refine wpAnyH_on (i := 1) (d := 16) (v := ?_) rfl rfl (by kernel_rfl) (by kernel_rfl) (by kernel_rfl) (fun _ _ _ h => h) (by kernel_rfl) (prev_bel _ _) ?_ ?_
    rotate_left
    · intro uu (pu : Prev uu _)
      go_simp
      try (with_reducible rfl)
    try simp only [List.set]
    refine wpAnyH_on (i := 2) (d := 17) (v := ?_) rfl rfl (by kernel_rfl) (by kernel_rfl) (by kernel_rfl) (fun _ _ _ h => h) (by kernel_rfl) (prev_bel _ _) ?_ ?_
    rotate_left
    · intro uu (pu : Prev uu _)
      go_simp
      try (with_reducible rfl)
    try simp only [List.set]
    refine wpAnyH_on (i := 4) (d := 19) (v := ?_) rfl rfl (by kernel_rfl) (by kernel_rfl) (by kernel_rfl) (fun _ _ _ h => h) (by kernel_rfl) (prev_bel _ _) ?_ ?_
    rotate_left
    · intro uu (pu : Prev uu _)
      go_simp
      try (with_reducible rfl)
    try simp only [List.set]
    refine wpAnyH_on (i := 5) (d := 20) (v := ?_) rfl rfl (by kernel_rfl) (by kernel_rfl) (by kernel_rfl) (fun _ _ _ h => h) (by kernel_rfl) (prev_bel _ _) ?_ ?_
    rotate_left
    · intro uu (pu : Prev uu _)
      go_simp
      try (with_reducible rfl)
    try simp only [List.set]
    refine wpAnyH_ready (rs := [3]) (by kernel_rfl) (by simp) ?_
    refine AllReadyH.cons rfl (fun K hK => ?_) AllReadyH.nil
    go_simp
    (with_reducible refine (aF_neg).mono ?_)
    rintro e ux ⟨rfl, _⟩
    dsimp only
    refine hK.out _ _ (prev_bel _ _) (fun hHeld => ?_)
    clear hHeld hK K
    try dsimp only [Act.put, List.setIfInBounds_toArray, List.set_cons_zero, List.set_cons_succ]
    refine wpAnyH_ready (rs := [6]) (by kernel_rfl) (by simp) ?_
    refine AllReadyH.cons rfl (fun K hK => ?_) AllReadyH.nil
    go_simp
    (with_reducible refine (aF_clamp).mono ?_)
    rintro e ux ⟨rfl, _⟩
    dsimp only
    refine hK.out _ _ (prev_bel _ _) (fun hHeld => ?_)
    clear hHeld hK K
    try dsimp only [Act.put, List.setIfInBounds_toArray, List.set_cons_zero, List.set_cons_succ]
    refine wpAnyH_on (i := 7) (d := 3) (v := ?_) rfl rfl (by kernel_rfl) (by kernel_rfl) (by kernel_rfl) (fun _ _ _ h => h) (by kernel_rfl) (prev_bel _ _) ?_ ?_
    rotate_left
    · intro uu (pu : Prev uu _)
      go_simp
      try (with_reducible rfl)
    try simp only [List.set]
    refine wpAnyH_done (by kernel_rfl) ?_ _
    go_wp2_with (first | (go_at_call 61; (try first | (with_reducible refine gen_boxK3 (fun u _ _ _ _ => ?_)) | (with_reducible refine gen_boxK2 (fun u _ _ _ => ?_)) | (with_reducible refine gen_boxK (fun u _ _ => ?_))); (with_reducible refine (aF_mul).mono ?_); rintro e u ⟨rfl, _⟩) | (go_at_call 67; (try first | (with_reducible refine gen_boxK3 (fun u _ _ _ _ => ?_)) | (with_reducible refine gen_boxK2 (fun u _ _ _ => ?_)) | (with_reducible refine gen_boxK (fun u _ _ => ?_))); (with_reducible refine (aF_add).mono ?_); rintro e u ⟨rfl, _⟩) | (go_at_call 107; (try first | (with_reducible refine gen_boxK3 (fun u _ _ _ _ => ?_)) | (with_reducible refine gen_boxK2 (fun u _ _ _ => ?_)) | (with_reducible refine gen_boxK (fun u _ _ => ?_))); (with_reducible refine (aF_sub).mono ?_); rintro e u ⟨rfl, _⟩))
    go_ret2
    exact ⟨by rw [HG.out, HP.out]; rfl, prev_bel _ _⟩
end

end Go.Proofs.Ytphcffcecncngaa
