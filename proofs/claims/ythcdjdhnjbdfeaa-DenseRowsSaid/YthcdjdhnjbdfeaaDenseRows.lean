/- The walk of the statement DenseRows. -/
import Derived.Test.YthcdjdhnjbdfeaaLaw06Auto
import Derived.Test.YthcdjdhnjbdfeaaDense5
import Derived.IntWalk
namespace Go.Proofs.Ythcdjdhnjbdfeaa
open Go.RowKit

section
variable {w : World} {A B : Option Addr} {n m c d : Nat} {xs : List Int}
theorem a06_row {M N : Nat} {i : Int} [a : Sl w A 2 [(M : Int), (N : Int)]] [b : Sl w B m xs] (hd : m ≤ d) (hf : flatB [(M : Int), (N : Int)] xs = true) {L : List Int} (hL : Hid (L = if 0 ≤ i ∧ i < M then rowL N xs i.toNat else [])) :
    Calls Try.prog 46 #[.agg #[.slice A 2 c, .slice B m d], .int .i64 i] w (RetS w L) := by
  by_cases h : 0 ≤ i ∧ i < M
  · obtain ⟨k, rfl⟩ : ∃ k : Nat, i = (k : Int) := ⟨i.toNat, by omega⟩
    exact a06_row_yes hd hf (by omega) (Lib.hid (by rw [hL.out, if_pos h]; rfl))
  · obtain rfl : L = [] := by rw [hL.out, if_neg h]
    exact a06_row_no (by omega) (by simp; omega)
theorem a06_col {M N : Nat} {i : Int} [a : Sl w A 2 [(M : Int), (N : Int)]] [b : Sl w B m xs] (hd : m ≤ d) (hf : flatB [(M : Int), (N : Int)] xs = true) {L : List Int} (hL : Hid (L = if 0 ≤ i ∧ i < N then colL xs N i.toNat M else [])) :
    Calls Try.prog 47 #[.agg #[.slice A 2 c, .slice B m d], .int .i64 i] w (RetS w L) := by
  by_cases h : 0 ≤ i ∧ i < N
  · obtain ⟨k, rfl⟩ : ∃ k : Nat, i = (k : Int) := ⟨i.toNat, by omega⟩
    exact a06_col_yes hd hf (by omega) (Lib.hid (by rw [hL.out, if_pos h]; rfl))
  · obtain rfl : L = [] := by rw [hL.out, if_neg h]
    exact a06_col_no (by omega) (by simp; omega)
end

set_option maxRecDepth 100000 in
set_option maxHeartbeats 4000000 in
theorem denseRows_calls (A B : Option Addr) (c d : Nat) (zs xs : List Int) (i j : Int) (w : World) (i1 : IntsIn w A c zs) (i2 : IntsIn w B d xs) (hi : I64 i) (hj : I64 j) :
    Calls Try.prog 10 #[.agg #[.slice A zs.length c, .slice B xs.length d], .int .i64 i, .int .i64 j] w (LawTrue w) := by
  have hd := i2.2.1
  have s1 : Sl w A zs.length zs := ⟨i1.rd, rfl⟩
  have sx : Sl w B xs.length xs := ⟨i2.rd, rfl⟩
  clear i1 i2
  have CB := @cell_bx
  by_cases l1 : 400 < xs.length
  · go_enter Try.func10, Try.ntmps10
    go_wp2_with (first | (go_at_call 33; (try first | (with_reducible refine gen_boxK3 (fun u _ _ _ _ => ?_)) | (with_reducible refine gen_boxK2 (fun u _ _ _ => ?_)) | (with_reducible refine gen_boxK (fun u _ _ => ?_))); (with_reducible refine (a06_awake).mono ?_); rintro e u ⟨rfl, _⟩))
    go_ret
    exact ⟨rfl, bel w _⟩
  by_cases l2 : 9 < zs.length
  · go_enter Try.func10, Try.ntmps10
    go_wp2_with (first | (go_at_call 33; (try first | (with_reducible refine gen_boxK3 (fun u _ _ _ _ => ?_)) | (with_reducible refine gen_boxK2 (fun u _ _ _ => ?_)) | (with_reducible refine gen_boxK (fun u _ _ => ?_))); (with_reducible refine (a06_awake).mono ?_); rintro e u ⟨rfl, _⟩))
    go_ret
    exact ⟨rfl, bel w _⟩
  rcases hr : tRightB zs xs with _ | _
  · have hf : flatB zs xs = false := by simp [flatB, hr]
    go_enter Try.func10, Try.ntmps10
    go_wp2_with fail
    refine wp_region_up0 (by kernel_rfl) (fun ux _ => ?_)
    refine wpAnyH_on (i := 0) (d := 24) (v := ?_) rfl rfl (by kernel_rfl) (by kernel_rfl) (by kernel_rfl) (fun _ _ _ h => h) (by kernel_rfl) (prev_bel _ _) ?_ ?_
    rotate_left
    · intro uu (pu : Prev uu _)
      go_simp
      try (with_reducible rfl)
    simp only [List.set]
    refine wpAnyH_on (i := 1) (d := 25) (v := ?_) rfl rfl (by kernel_rfl) (by kernel_rfl) (by kernel_rfl) (fun _ _ _ h => h) (by kernel_rfl) (prev_bel _ _) ?_ ?_
    rotate_left
    · intro uu (pu : Prev uu _)
      go_simp
      try (with_reducible rfl)
    simp only [List.set]
    refine wpAnyH_on (i := 3) (d := 27) (v := ?_) rfl rfl (by kernel_rfl) (by kernel_rfl) (by kernel_rfl) (fun _ _ _ h => h) (by kernel_rfl) (prev_bel _ _) ?_ ?_
    rotate_left
    · intro uu (pu : Prev uu _)
      go_simp
      try (with_reducible rfl)
    simp only [List.set]
    refine wpAnyH_on (i := 4) (d := 28) (v := ?_) rfl rfl (by kernel_rfl) (by kernel_rfl) (by kernel_rfl) (fun _ _ _ h => h) (by kernel_rfl) (prev_bel _ _) ?_ ?_
    rotate_left
    · intro uu (pu : Prev uu _)
      go_simp
      try (with_reducible rfl)
    simp only [List.set]
    refine wpAnyH_ready (rs := [2]) (by kernel_rfl) (by simp) ?_
    refine AllReadyH.cons rfl (fun K hK => ?_) AllReadyH.nil
    go_simp
    (with_reducible refine (a06_row_no (by omega) (.inl hf)).mono ?_)
    rintro e ux ⟨A', c', rfl, _, _⟩
    dsimp only
    refine hK.out _ _ (prev_bel _ _) (fun hHeld => ?_)
    clear hHeld hK K
    try dsimp only [Act.put, List.setIfInBounds_toArray, List.set_cons_zero, List.set_cons_succ]
    refine wpAnyH_ready (rs := [5]) (by kernel_rfl) (by simp) ?_
    refine AllReadyH.cons rfl (fun K hK => ?_) AllReadyH.nil
    go_simp
    (with_reducible refine (a06_col_no (by omega) (.inl hf)).mono ?_)
    rintro e ux ⟨A', c', rfl, _, _⟩
    dsimp only
    refine hK.out _ _ (prev_bel _ _) (fun hHeld => ?_)
    clear hHeld hK K
    try dsimp only [Act.put, List.setIfInBounds_toArray, List.set_cons_zero, List.set_cons_succ]
    refine wpAnyH_on (i := 6) (d := 7) (v := ?_) rfl rfl (by kernel_rfl) (by kernel_rfl) (by kernel_rfl) (fun _ _ _ h => h) (by kernel_rfl) (prev_bel _ _) ?_ ?_
    rotate_left
    · intro uu (pu : Prev uu _)
      go_simp
      try (with_reducible rfl)
    simp only [List.set]
    refine wpAnyH_on (i := 7) (d := 8) (v := ?_) rfl rfl (by kernel_rfl) (by kernel_rfl) (by kernel_rfl) (fun _ _ _ h => h) (by kernel_rfl) (prev_bel _ _) ?_ ?_
    rotate_left
    · intro uu (pu : Prev uu _)
      go_simp
      try (with_reducible rfl)
    simp only [List.set]
    refine wpAnyH_done (by kernel_rfl) ?_ _
    go_wp2_with (first | (go_at_call 40; (try first | (with_reducible refine gen_boxK3 (fun u _ _ _ _ => ?_)) | (with_reducible refine gen_boxK2 (fun u _ _ _ => ?_)) | (with_reducible refine gen_boxK (fun u _ _ => ?_))); (with_reducible refine (a06_right (by omega)).mono ?_); rintro e u ⟨rfl, _⟩) | (go_at_call 33; (try first | (with_reducible refine gen_boxK3 (fun u _ _ _ _ => ?_)) | (with_reducible refine gen_boxK2 (fun u _ _ _ => ?_)) | (with_reducible refine gen_boxK (fun u _ _ => ?_))); (with_reducible refine (a06_awake).mono ?_); rintro e u ⟨rfl, _⟩))
    go_ret
    exact ⟨rfl, bel w _⟩
  by_cases l3 : zs.length = 2
  rotate_left
  · have hf : flatB zs xs = false := by simp [flatB, l3]
    have e0 : ((zs.length : Int) != 2) = true := by simp; omega
    clear l3
    go_enter Try.func10, Try.ntmps10
    go_wp2_with fail
    refine wp_region_up0 (by kernel_rfl) (fun ux _ => ?_)
    refine wpAnyH_on (i := 0) (d := 24) (v := ?_) rfl rfl (by kernel_rfl) (by kernel_rfl) (by kernel_rfl) (fun _ _ _ h => h) (by kernel_rfl) (prev_bel _ _) ?_ ?_
    rotate_left
    · intro uu (pu : Prev uu _)
      go_simp
      try (with_reducible rfl)
    simp only [List.set]
    refine wpAnyH_on (i := 1) (d := 25) (v := ?_) rfl rfl (by kernel_rfl) (by kernel_rfl) (by kernel_rfl) (fun _ _ _ h => h) (by kernel_rfl) (prev_bel _ _) ?_ ?_
    rotate_left
    · intro uu (pu : Prev uu _)
      go_simp
      try (with_reducible rfl)
    simp only [List.set]
    refine wpAnyH_on (i := 3) (d := 27) (v := ?_) rfl rfl (by kernel_rfl) (by kernel_rfl) (by kernel_rfl) (fun _ _ _ h => h) (by kernel_rfl) (prev_bel _ _) ?_ ?_
    rotate_left
    · intro uu (pu : Prev uu _)
      go_simp
      try (with_reducible rfl)
    simp only [List.set]
    refine wpAnyH_on (i := 4) (d := 28) (v := ?_) rfl rfl (by kernel_rfl) (by kernel_rfl) (by kernel_rfl) (fun _ _ _ h => h) (by kernel_rfl) (prev_bel _ _) ?_ ?_
    rotate_left
    · intro uu (pu : Prev uu _)
      go_simp
      try (with_reducible rfl)
    simp only [List.set]
    refine wpAnyH_ready (rs := [2]) (by kernel_rfl) (by simp) ?_
    refine AllReadyH.cons rfl (fun K hK => ?_) AllReadyH.nil
    go_simp
    (with_reducible refine (a06_row_no (by omega) (.inl hf)).mono ?_)
    rintro e ux ⟨A', c', rfl, _, _⟩
    dsimp only
    refine hK.out _ _ (prev_bel _ _) (fun hHeld => ?_)
    clear hHeld hK K
    try dsimp only [Act.put, List.setIfInBounds_toArray, List.set_cons_zero, List.set_cons_succ]
    refine wpAnyH_ready (rs := [5]) (by kernel_rfl) (by simp) ?_
    refine AllReadyH.cons rfl (fun K hK => ?_) AllReadyH.nil
    go_simp
    (with_reducible refine (a06_col_no (by omega) (.inl hf)).mono ?_)
    rintro e ux ⟨A', c', rfl, _, _⟩
    dsimp only
    refine hK.out _ _ (prev_bel _ _) (fun hHeld => ?_)
    clear hHeld hK K
    try dsimp only [Act.put, List.setIfInBounds_toArray, List.set_cons_zero, List.set_cons_succ]
    refine wpAnyH_on (i := 6) (d := 7) (v := ?_) rfl rfl (by kernel_rfl) (by kernel_rfl) (by kernel_rfl) (fun _ _ _ h => h) (by kernel_rfl) (prev_bel _ _) ?_ ?_
    rotate_left
    · intro uu (pu : Prev uu _)
      go_simp
      try (with_reducible rfl)
    simp only [List.set]
    refine wpAnyH_on (i := 7) (d := 8) (v := ?_) rfl rfl (by kernel_rfl) (by kernel_rfl) (by kernel_rfl) (fun _ _ _ h => h) (by kernel_rfl) (prev_bel _ _) ?_ ?_
    rotate_left
    · intro uu (pu : Prev uu _)
      go_simp
      try (with_reducible rfl)
    simp only [List.set]
    refine wpAnyH_done (by kernel_rfl) ?_ _
    go_wp2_with (first | (go_at_call 40; (try first | (with_reducible refine gen_boxK3 (fun u _ _ _ _ => ?_)) | (with_reducible refine gen_boxK2 (fun u _ _ _ => ?_)) | (with_reducible refine gen_boxK (fun u _ _ => ?_))); (with_reducible refine (a06_right (by omega)).mono ?_); rintro e u ⟨rfl, _⟩) | (go_at_call 33; (try first | (with_reducible refine gen_boxK3 (fun u _ _ _ _ => ?_)) | (with_reducible refine gen_boxK2 (fun u _ _ _ => ?_)) | (with_reducible refine gen_boxK (fun u _ _ => ?_))); (with_reducible refine (a06_awake).mono ?_); rintro e u ⟨rfl, _⟩))
    go_ret
    exact ⟨rfl, bel w _⟩
  have hf : flatB zs xs = true := by simp [flatB, hr, l3]
  obtain ⟨M, N, rfl, hx, hM1, hN1, hM, hN, hx6⟩ := flat_nats hf
  replace s1 : Sl w A 2 [(M : Int), (N : Int)] := s1
  have HX := Lib.hid hx
  have hNx : 0 < xs.length := by rw [hx]; exact Nat.mul_pos hM1 hN1
  clear hx l3 l2
  obtain ⟨b1, o1, x1, rfl, ob1, -, -⟩ := sx.get hNx
  obtain ⟨b0, o0, rfl⟩ : ∃ b0 o0, A = some ⟨b0, o0, none⟩ := by obtain ⟨b, o, e, -, -⟩ := s1.rd 0 (M : Int) rfl; exact ⟨b, o, e⟩
  have ob : Old b0 w := ⟨by obtain ⟨b, o, e, hb, -⟩ := s1.rd 0 (M : Int) rfl; injection e with e; injection e with e1 e2; subst e1; exact hb⟩
  have c0 : w.cell? ⟨b0, o0, none⟩ = some (.int .i64 M) := by simpa using s1.rd.all (k := 0) rfl
  have c1 : w.cell? ⟨b0, o0 + 1, none⟩ = some (.int .i64 N) := by simpa using s1.rd.all (k := 1) rfl
  have CP := @cell_prev
  obtain ⟨La, HLa⟩ : ∃ L : List Int, Hid (L = if 0 ≤ i ∧ i < M then rowL N xs i.toNat else []) := ⟨_, Lib.hid rfl⟩
  obtain ⟨Lb, HLb⟩ : ∃ L : List Int, Hid (L = if 0 ≤ j ∧ j < N then colL xs N j.toNat M else []) := ⟨_, Lib.hid rfl⟩
  by_cases i0 : i < 0
  · have e : La = [] := by rw [HLa.out, if_neg (by omega)]
    subst e
    go_enter Try.func10, Try.ntmps10
    go_wp2_with fail
    refine wp_region_up0 (by kernel_rfl) (fun ux _ => ?_)
    refine wpAnyH_on (i := 0) (d := 24) (v := ?_) rfl rfl (by kernel_rfl) (by kernel_rfl) (by kernel_rfl) (fun _ _ _ h => h) (by kernel_rfl) (prev_bel _ _) ?_ ?_
    rotate_left
    · intro uu (pu : Prev uu _)
      go_simp
      try (with_reducible rfl)
    simp only [List.set]
    refine wpAnyH_on (i := 1) (d := 25) (v := ?_) rfl rfl (by kernel_rfl) (by kernel_rfl) (by kernel_rfl) (fun _ _ _ h => h) (by kernel_rfl) (prev_bel _ _) ?_ ?_
    rotate_left
    · intro uu (pu : Prev uu _)
      go_simp
      try (with_reducible rfl)
    simp only [List.set]
    refine wpAnyH_on (i := 3) (d := 27) (v := ?_) rfl rfl (by kernel_rfl) (by kernel_rfl) (by kernel_rfl) (fun _ _ _ h => h) (by kernel_rfl) (prev_bel _ _) ?_ ?_
    rotate_left
    · intro uu (pu : Prev uu _)
      go_simp
      try (with_reducible rfl)
    simp only [List.set]
    refine wpAnyH_on (i := 4) (d := 28) (v := ?_) rfl rfl (by kernel_rfl) (by kernel_rfl) (by kernel_rfl) (fun _ _ _ h => h) (by kernel_rfl) (prev_bel _ _) ?_ ?_
    rotate_left
    · intro uu (pu : Prev uu _)
      go_simp
      try (with_reducible rfl)
    simp only [List.set]
    refine wpAnyH_ready (rs := [2]) (by kernel_rfl) (by simp) ?_
    refine AllReadyH.cons rfl (fun K hK => ?_) AllReadyH.nil
    go_simp
    (with_reducible refine (a06_row hd hf HLa).mono ?_)
    rintro e ux ⟨A', c', rfl, _, _⟩
    dsimp only
    refine hK.out _ _ (prev_bel _ _) (fun hHeld => ?_)
    clear hHeld hK K
    try dsimp only [Act.put, List.setIfInBounds_toArray, List.set_cons_zero, List.set_cons_succ]
    refine wpAnyH_ready (rs := [5]) (by kernel_rfl) (by simp) ?_
    refine AllReadyH.cons rfl (fun K hK => ?_) AllReadyH.nil
    go_simp
    (with_reducible refine (a06_col hd hf HLb).mono ?_)
    rintro e ux ⟨A', c', rfl, _, _⟩
    dsimp only
    refine hK.out _ _ (prev_bel _ _) (fun hHeld => ?_)
    clear hHeld hK K
    try dsimp only [Act.put, List.setIfInBounds_toArray, List.set_cons_zero, List.set_cons_succ]
    refine wpAnyH_on (i := 6) (d := 7) (v := ?_) rfl rfl (by kernel_rfl) (by kernel_rfl) (by kernel_rfl) (fun _ _ _ h => h) (by kernel_rfl) (prev_bel _ _) ?_ ?_
    rotate_left
    · intro uu (pu : Prev uu _)
      go_simp
      try (with_reducible rfl)
    simp only [List.set]
    refine wpAnyH_on (i := 7) (d := 8) (v := ?_) rfl rfl (by kernel_rfl) (by kernel_rfl) (by kernel_rfl) (fun _ _ _ h => h) (by kernel_rfl) (prev_bel _ _) ?_ ?_
    rotate_left
    · intro uu (pu : Prev uu _)
      go_simp
      try (with_reducible rfl)
    simp only [List.set]
    refine wpAnyH_done (by kernel_rfl) ?_ _
    rename_i A1 d1 sA _ _ B1 d2 sB _
    go_wp2_with (first | (go_at_call 40; (try first | (with_reducible refine gen_boxK3 (fun u _ _ _ _ => ?_)) | (with_reducible refine gen_boxK2 (fun u _ _ _ => ?_)) | (with_reducible refine gen_boxK (fun u _ _ => ?_))); (with_reducible refine (a06_right (by omega)).mono ?_); rintro e u ⟨rfl, _⟩))
    go_loopw [72] (fun i wr => i = .int .i64 0 ∧ Prev wr u) (fun _ _ => 0)
    case atStart => exact ⟨rfl, prev_bel _ _⟩
    case round =>
      obtain ⟨rfl, hp⟩ := hrel
      by_cases j0 : j < 0
      · have e : Lb = [] := by rw [HLb.out, if_neg (by omega)]
        subst e
        go_wp2_with (first | (go_at_call 33; (try first | (with_reducible refine gen_boxK3 (fun u _ _ _ _ => ?_)) | (with_reducible refine gen_boxK2 (fun u _ _ _ => ?_)) | (with_reducible refine gen_boxK (fun u _ _ => ?_))); (with_reducible refine (a06_awake).mono ?_); rintro e u ⟨rfl, _⟩))
        go_ret
        exact ⟨rfl, bel w _⟩
      by_cases j1 : (N : Int) ≤ j
      · have e : Lb = [] := by rw [HLb.out, if_neg (by omega)]
        subst e
        go_wp2_with (first | (go_at_call 33; (try first | (with_reducible refine gen_boxK3 (fun u _ _ _ _ => ?_)) | (with_reducible refine gen_boxK2 (fun u _ _ _ => ?_)) | (with_reducible refine gen_boxK (fun u _ _ => ?_))); (with_reducible refine (a06_awake).mono ?_); rintro e u ⟨rfl, _⟩))
        go_ret
        exact ⟨rfl, bel w _⟩
      obtain ⟨jn, rfl⟩ : ∃ jn : Nat, j = (jn : Int) := ⟨j.toNat, by omega⟩
      have hjn : jn < N := by omega
      have HB : Hid (Lb = colL xs N jn M) := Lib.hid (by rw [HLb.out, if_pos (by omega)]; rfl)
      have hlb : Lb.length = M := by rw [HB.out, colL_length]
      have e7 : ((Lb.length : Int) != (M : Int)) = false := by simp [hlb]
      clear hlb
      go_wp2_with fail
      go_loopw [117] (fun i wq => ∃ k : Nat, k ≤ Lb.length ∧ i = .int .i64 k ∧ Prev wq (wr)) (fun i _ => Lb.length - (intOf i).toNat)
      case atStart => exact ⟨0, Nat.zero_le _, rfl, prev_bel _ _⟩
      case round =>
        obtain ⟨k, hk, rfl, hp2⟩ := hrel
        by_cases hlk : k < Lb.length
        · obtain ⟨b2, o2, z, rfl, ob2, cz, hz⟩ := sB.get hlk
          have hkM : k < M := by rw [HB.out, colL_length] at hlk; exact hlk
          obtain ⟨S2, hS2⟩ : ∃ S, Hid (k * N = S) := ⟨_, Lib.hid rfl⟩
          obtain ⟨Z, hZ⟩ : ∃ Z, Hid (S2 + jn = Z) := ⟨_, Lib.hid rfl⟩
          have hZx : Z < xs.length := by
            rw [← hZ.out]
            rw [HX.out, ← hS2.out]
            calc k * N + jn < k * N + N := by omega
              _ = (k + 1) * N := by rw [Nat.succ_mul]
              _ ≤ M * N := Nat.mul_le_mul_right _ hkM
          obtain ⟨x, hx⟩ : ∃ x, xs[Z]? = some x := ⟨_, List.getElem?_eq_getElem hZx⟩
          obtain rfl : z = x := by
            have h1 := hz.out
            rw [HB.out, colL_at hkM (by rw [hS2.out, hZ.out]; exact hx)] at h1
            injection h1 with h1
            exact h1.symm
          have cx : w.cell? ⟨b1, o1 + Z, none⟩ = some (.int .i64 z) := sx.rd.all hx
          clear hx hz
          have m1 : IntKind.i64.wrap ((k : Int) * (N : Int)) = (S2 : Int) := by rw [show (k : Int) * (N : Int) = (S2 : Int) from by rw [← hS2.out]; simp]; exact IntWalk.i64_in _ (by have := hZ.out; omega)
          have m2 : IntKind.i64.wrap ((S2 : Int) + (jn : Int)) = (Z : Int) := by rw [show (S2 : Int) + (jn : Int) = (Z : Int) from by rw [← hZ.out]; simp]; exact IntWalk.i64_in _ (by omega)
          have HK : Hid (k + 1 ≤ Lb.length) := Lib.hid hlk
          go_wp2_with fail
          refine wp_region_up0 (by kernel_rfl) (fun ux _ => ?_)
          refine wpAnyH_on (i := 0) (d := 122) (v := ?_) rfl rfl (by kernel_rfl) (by kernel_rfl) (by kernel_rfl) (fun _ _ _ h => h) (by kernel_rfl) (prev_bel _ _) ?_ ?_
          rotate_left
          · intro uu (pu : Prev uu _)
            go_simp
            try (with_reducible rfl)
          simp only [List.set]
          refine wpAnyH_on (i := 1) (d := 123) (v := ?_) rfl rfl (by kernel_rfl) (by kernel_rfl) (by kernel_rfl) (fun _ _ _ h => h) (by kernel_rfl) (prev_bel _ _) ?_ ?_
          rotate_left
          · intro uu (pu : Prev uu _)
            go_simp
            try (with_reducible rfl)
          simp only [List.set]
          refine wpAnyH_on (i := 2) (d := 124) (v := ?_) rfl rfl (by kernel_rfl) (by kernel_rfl) (by kernel_rfl) (fun _ _ _ h => h) (by kernel_rfl) (prev_bel _ _) ?_ ?_
          rotate_left
          · intro uu (pu : Prev uu _)
            go_simp
            try (with_reducible rfl)
          simp only [List.set]
          refine wpAnyH_on (i := 3) (d := 125) (v := ?_) rfl rfl (by kernel_rfl) (by kernel_rfl) (by kernel_rfl) (fun _ _ _ h => h) (by kernel_rfl) (prev_bel _ _) ?_ ?_
          rotate_left
          · intro uu (pu : Prev uu _)
            go_simp
            try (with_reducible rfl)
          simp only [List.set]
          refine wpAnyH_on (i := 4) (d := 126) (v := ?_) rfl rfl (by kernel_rfl) (by kernel_rfl) (by kernel_rfl) (fun _ _ _ h => h) (by kernel_rfl) (prev_bel _ _) ?_ ?_
          rotate_left
          · intro uu (pu : Prev uu _)
            go_simp
            try (with_reducible rfl)
          simp only [List.set]
          refine wpAnyH_on (i := 5) (d := 127) (v := ?_) rfl rfl (by kernel_rfl) (by kernel_rfl) (by kernel_rfl) (fun _ _ _ h => h) (by kernel_rfl) (prev_bel _ _) ?_ ?_
          rotate_left
          · intro uu (pu : Prev uu _)
            go_simp
            try (with_reducible rfl)
          simp only [List.set]
          refine wpAnyH_on (i := 6) (d := 128) (v := ?_) rfl rfl (by kernel_rfl) (by kernel_rfl) (by kernel_rfl) (fun _ _ _ h => h) (by kernel_rfl) (prev_bel _ _) ?_ ?_
          rotate_left
          · intro uu (pu : Prev uu _)
            go_simp
            try (with_reducible rfl)
          simp only [List.set]
          refine wpAnyH_on (i := 7) (d := 129) (v := ?_) rfl rfl (by kernel_rfl) (by kernel_rfl) (by kernel_rfl) (fun _ _ _ h => h) (by kernel_rfl) (prev_bel _ _) ?_ ?_
          rotate_left
          · intro uu (pu : Prev uu _)
            go_simp
            try (with_reducible rfl)
          simp only [List.set]
          refine wpAnyH_on (i := 8) (d := 130) (v := ?_) rfl rfl (by kernel_rfl) (by kernel_rfl) (by kernel_rfl) (fun _ _ _ h => h) (by kernel_rfl) (prev_bel _ _) ?_ ?_
          rotate_left
          · intro uu (pu : Prev uu _)
            go_simp
            try (with_reducible rfl)
          simp only [List.set]
          refine wpAnyH_on (i := 9) (d := 131) (v := ?_) rfl rfl (by kernel_rfl) (by kernel_rfl) (by kernel_rfl) (fun _ _ _ h => h) (by kernel_rfl) (prev_bel _ _) ?_ ?_
          rotate_left
          · intro uu (pu : Prev uu _)
            go_simp
            try (with_reducible rfl)
          simp only [List.set]
          refine wpAnyH_on (i := 10) (d := 132) (v := ?_) rfl rfl (by kernel_rfl) (by kernel_rfl) (by kernel_rfl) (fun _ _ _ h => h) (by kernel_rfl) (prev_bel _ _) ?_ ?_
          rotate_left
          · intro uu (pu : Prev uu _)
            go_simp
            try (with_reducible rfl)
          simp only [List.set]
          refine wpAnyH_on (i := 11) (d := 133) (v := ?_) rfl rfl (by kernel_rfl) (by kernel_rfl) (by kernel_rfl) (fun _ _ _ h => h) (by kernel_rfl) (prev_bel _ _) ?_ ?_
          rotate_left
          · intro uu (pu : Prev uu _)
            go_simp
            try (with_reducible rfl)
          simp only [List.set]
          refine wpAnyH_on (i := 12) (d := 134) (v := ?_) rfl rfl (by kernel_rfl) (by kernel_rfl) (by kernel_rfl) (fun _ _ _ h => h) (by kernel_rfl) (prev_bel _ _) ?_ ?_
          rotate_left
          · intro uu (pu : Prev uu _)
            go_simp
            try (with_reducible rfl)
          simp only [List.set]
          refine wpAnyH_on (i := 13) (d := 135) (v := ?_) rfl rfl (by kernel_rfl) (by kernel_rfl) (by kernel_rfl) (fun _ _ _ h => h) (by kernel_rfl) (prev_bel _ _) ?_ ?_
          rotate_left
          · intro uu (pu : Prev uu _)
            go_simp
            try (with_reducible rfl)
          simp only [List.set]
          refine wpAnyH_done (by kernel_rfl) ?_ _
          go_wp2_with fail
          go_roundw
          case rel => exact ⟨k + 1, HK.out, by go_num, prev_bel _ _⟩
          case measure => simp [intOf]; omega
        · go_wp2_with (first | (go_at_call 33; (try first | (with_reducible refine gen_boxK3 (fun u _ _ _ _ => ?_)) | (with_reducible refine gen_boxK2 (fun u _ _ _ => ?_)) | (with_reducible refine gen_boxK (fun u _ _ => ?_))); (with_reducible refine (a06_awake).mono ?_); rintro e u ⟨rfl, _⟩))
          go_ret
          exact ⟨rfl, bel w _⟩
  by_cases i1 : (M : Int) ≤ i
  · have e : La = [] := by rw [HLa.out, if_neg (by omega)]
    subst e
    go_enter Try.func10, Try.ntmps10
    go_wp2_with fail
    refine wp_region_up0 (by kernel_rfl) (fun ux _ => ?_)
    refine wpAnyH_on (i := 0) (d := 24) (v := ?_) rfl rfl (by kernel_rfl) (by kernel_rfl) (by kernel_rfl) (fun _ _ _ h => h) (by kernel_rfl) (prev_bel _ _) ?_ ?_
    rotate_left
    · intro uu (pu : Prev uu _)
      go_simp
      try (with_reducible rfl)
    simp only [List.set]
    refine wpAnyH_on (i := 1) (d := 25) (v := ?_) rfl rfl (by kernel_rfl) (by kernel_rfl) (by kernel_rfl) (fun _ _ _ h => h) (by kernel_rfl) (prev_bel _ _) ?_ ?_
    rotate_left
    · intro uu (pu : Prev uu _)
      go_simp
      try (with_reducible rfl)
    simp only [List.set]
    refine wpAnyH_on (i := 3) (d := 27) (v := ?_) rfl rfl (by kernel_rfl) (by kernel_rfl) (by kernel_rfl) (fun _ _ _ h => h) (by kernel_rfl) (prev_bel _ _) ?_ ?_
    rotate_left
    · intro uu (pu : Prev uu _)
      go_simp
      try (with_reducible rfl)
    simp only [List.set]
    refine wpAnyH_on (i := 4) (d := 28) (v := ?_) rfl rfl (by kernel_rfl) (by kernel_rfl) (by kernel_rfl) (fun _ _ _ h => h) (by kernel_rfl) (prev_bel _ _) ?_ ?_
    rotate_left
    · intro uu (pu : Prev uu _)
      go_simp
      try (with_reducible rfl)
    simp only [List.set]
    refine wpAnyH_ready (rs := [2]) (by kernel_rfl) (by simp) ?_
    refine AllReadyH.cons rfl (fun K hK => ?_) AllReadyH.nil
    go_simp
    (with_reducible refine (a06_row hd hf HLa).mono ?_)
    rintro e ux ⟨A', c', rfl, _, _⟩
    dsimp only
    refine hK.out _ _ (prev_bel _ _) (fun hHeld => ?_)
    clear hHeld hK K
    try dsimp only [Act.put, List.setIfInBounds_toArray, List.set_cons_zero, List.set_cons_succ]
    refine wpAnyH_ready (rs := [5]) (by kernel_rfl) (by simp) ?_
    refine AllReadyH.cons rfl (fun K hK => ?_) AllReadyH.nil
    go_simp
    (with_reducible refine (a06_col hd hf HLb).mono ?_)
    rintro e ux ⟨A', c', rfl, _, _⟩
    dsimp only
    refine hK.out _ _ (prev_bel _ _) (fun hHeld => ?_)
    clear hHeld hK K
    try dsimp only [Act.put, List.setIfInBounds_toArray, List.set_cons_zero, List.set_cons_succ]
    refine wpAnyH_on (i := 6) (d := 7) (v := ?_) rfl rfl (by kernel_rfl) (by kernel_rfl) (by kernel_rfl) (fun _ _ _ h => h) (by kernel_rfl) (prev_bel _ _) ?_ ?_
    rotate_left
    · intro uu (pu : Prev uu _)
      go_simp
      try (with_reducible rfl)
    simp only [List.set]
    refine wpAnyH_on (i := 7) (d := 8) (v := ?_) rfl rfl (by kernel_rfl) (by kernel_rfl) (by kernel_rfl) (fun _ _ _ h => h) (by kernel_rfl) (prev_bel _ _) ?_ ?_
    rotate_left
    · intro uu (pu : Prev uu _)
      go_simp
      try (with_reducible rfl)
    simp only [List.set]
    refine wpAnyH_done (by kernel_rfl) ?_ _
    rename_i A1 d1 sA _ _ B1 d2 sB _
    go_wp2_with (first | (go_at_call 40; (try first | (with_reducible refine gen_boxK3 (fun u _ _ _ _ => ?_)) | (with_reducible refine gen_boxK2 (fun u _ _ _ => ?_)) | (with_reducible refine gen_boxK (fun u _ _ => ?_))); (with_reducible refine (a06_right (by omega)).mono ?_); rintro e u ⟨rfl, _⟩))
    go_loopw [72] (fun i wr => i = .int .i64 0 ∧ Prev wr u) (fun _ _ => 0)
    case atStart => exact ⟨rfl, prev_bel _ _⟩
    case round =>
      obtain ⟨rfl, hp⟩ := hrel
      by_cases j0 : j < 0
      · have e : Lb = [] := by rw [HLb.out, if_neg (by omega)]
        subst e
        go_wp2_with (first | (go_at_call 33; (try first | (with_reducible refine gen_boxK3 (fun u _ _ _ _ => ?_)) | (with_reducible refine gen_boxK2 (fun u _ _ _ => ?_)) | (with_reducible refine gen_boxK (fun u _ _ => ?_))); (with_reducible refine (a06_awake).mono ?_); rintro e u ⟨rfl, _⟩))
        go_ret
        exact ⟨rfl, bel w _⟩
      by_cases j1 : (N : Int) ≤ j
      · have e : Lb = [] := by rw [HLb.out, if_neg (by omega)]
        subst e
        go_wp2_with (first | (go_at_call 33; (try first | (with_reducible refine gen_boxK3 (fun u _ _ _ _ => ?_)) | (with_reducible refine gen_boxK2 (fun u _ _ _ => ?_)) | (with_reducible refine gen_boxK (fun u _ _ => ?_))); (with_reducible refine (a06_awake).mono ?_); rintro e u ⟨rfl, _⟩))
        go_ret
        exact ⟨rfl, bel w _⟩
      obtain ⟨jn, rfl⟩ : ∃ jn : Nat, j = (jn : Int) := ⟨j.toNat, by omega⟩
      have hjn : jn < N := by omega
      have HB : Hid (Lb = colL xs N jn M) := Lib.hid (by rw [HLb.out, if_pos (by omega)]; rfl)
      have hlb : Lb.length = M := by rw [HB.out, colL_length]
      have e7 : ((Lb.length : Int) != (M : Int)) = false := by simp [hlb]
      clear hlb
      go_wp2_with fail
      go_loopw [117] (fun i wq => ∃ k : Nat, k ≤ Lb.length ∧ i = .int .i64 k ∧ Prev wq (wr)) (fun i _ => Lb.length - (intOf i).toNat)
      case atStart => exact ⟨0, Nat.zero_le _, rfl, prev_bel _ _⟩
      case round =>
        obtain ⟨k, hk, rfl, hp2⟩ := hrel
        by_cases hlk : k < Lb.length
        · obtain ⟨b2, o2, z, rfl, ob2, cz, hz⟩ := sB.get hlk
          have hkM : k < M := by rw [HB.out, colL_length] at hlk; exact hlk
          obtain ⟨S2, hS2⟩ : ∃ S, Hid (k * N = S) := ⟨_, Lib.hid rfl⟩
          obtain ⟨Z, hZ⟩ : ∃ Z, Hid (S2 + jn = Z) := ⟨_, Lib.hid rfl⟩
          have hZx : Z < xs.length := by
            rw [← hZ.out]
            rw [HX.out, ← hS2.out]
            calc k * N + jn < k * N + N := by omega
              _ = (k + 1) * N := by rw [Nat.succ_mul]
              _ ≤ M * N := Nat.mul_le_mul_right _ hkM
          obtain ⟨x, hx⟩ : ∃ x, xs[Z]? = some x := ⟨_, List.getElem?_eq_getElem hZx⟩
          obtain rfl : z = x := by
            have h1 := hz.out
            rw [HB.out, colL_at hkM (by rw [hS2.out, hZ.out]; exact hx)] at h1
            injection h1 with h1
            exact h1.symm
          have cx : w.cell? ⟨b1, o1 + Z, none⟩ = some (.int .i64 z) := sx.rd.all hx
          clear hx hz
          have m1 : IntKind.i64.wrap ((k : Int) * (N : Int)) = (S2 : Int) := by rw [show (k : Int) * (N : Int) = (S2 : Int) from by rw [← hS2.out]; simp]; exact IntWalk.i64_in _ (by have := hZ.out; omega)
          have m2 : IntKind.i64.wrap ((S2 : Int) + (jn : Int)) = (Z : Int) := by rw [show (S2 : Int) + (jn : Int) = (Z : Int) from by rw [← hZ.out]; simp]; exact IntWalk.i64_in _ (by omega)
          have HK : Hid (k + 1 ≤ Lb.length) := Lib.hid hlk
          go_wp2_with fail
          refine wp_region_up0 (by kernel_rfl) (fun ux _ => ?_)
          refine wpAnyH_on (i := 0) (d := 122) (v := ?_) rfl rfl (by kernel_rfl) (by kernel_rfl) (by kernel_rfl) (fun _ _ _ h => h) (by kernel_rfl) (prev_bel _ _) ?_ ?_
          rotate_left
          · intro uu (pu : Prev uu _)
            go_simp
            try (with_reducible rfl)
          simp only [List.set]
          refine wpAnyH_on (i := 1) (d := 123) (v := ?_) rfl rfl (by kernel_rfl) (by kernel_rfl) (by kernel_rfl) (fun _ _ _ h => h) (by kernel_rfl) (prev_bel _ _) ?_ ?_
          rotate_left
          · intro uu (pu : Prev uu _)
            go_simp
            try (with_reducible rfl)
          simp only [List.set]
          refine wpAnyH_on (i := 2) (d := 124) (v := ?_) rfl rfl (by kernel_rfl) (by kernel_rfl) (by kernel_rfl) (fun _ _ _ h => h) (by kernel_rfl) (prev_bel _ _) ?_ ?_
          rotate_left
          · intro uu (pu : Prev uu _)
            go_simp
            try (with_reducible rfl)
          simp only [List.set]
          refine wpAnyH_on (i := 3) (d := 125) (v := ?_) rfl rfl (by kernel_rfl) (by kernel_rfl) (by kernel_rfl) (fun _ _ _ h => h) (by kernel_rfl) (prev_bel _ _) ?_ ?_
          rotate_left
          · intro uu (pu : Prev uu _)
            go_simp
            try (with_reducible rfl)
          simp only [List.set]
          refine wpAnyH_on (i := 4) (d := 126) (v := ?_) rfl rfl (by kernel_rfl) (by kernel_rfl) (by kernel_rfl) (fun _ _ _ h => h) (by kernel_rfl) (prev_bel _ _) ?_ ?_
          rotate_left
          · intro uu (pu : Prev uu _)
            go_simp
            try (with_reducible rfl)
          simp only [List.set]
          refine wpAnyH_on (i := 5) (d := 127) (v := ?_) rfl rfl (by kernel_rfl) (by kernel_rfl) (by kernel_rfl) (fun _ _ _ h => h) (by kernel_rfl) (prev_bel _ _) ?_ ?_
          rotate_left
          · intro uu (pu : Prev uu _)
            go_simp
            try (with_reducible rfl)
          simp only [List.set]
          refine wpAnyH_on (i := 6) (d := 128) (v := ?_) rfl rfl (by kernel_rfl) (by kernel_rfl) (by kernel_rfl) (fun _ _ _ h => h) (by kernel_rfl) (prev_bel _ _) ?_ ?_
          rotate_left
          · intro uu (pu : Prev uu _)
            go_simp
            try (with_reducible rfl)
          simp only [List.set]
          refine wpAnyH_on (i := 7) (d := 129) (v := ?_) rfl rfl (by kernel_rfl) (by kernel_rfl) (by kernel_rfl) (fun _ _ _ h => h) (by kernel_rfl) (prev_bel _ _) ?_ ?_
          rotate_left
          · intro uu (pu : Prev uu _)
            go_simp
            try (with_reducible rfl)
          simp only [List.set]
          refine wpAnyH_on (i := 8) (d := 130) (v := ?_) rfl rfl (by kernel_rfl) (by kernel_rfl) (by kernel_rfl) (fun _ _ _ h => h) (by kernel_rfl) (prev_bel _ _) ?_ ?_
          rotate_left
          · intro uu (pu : Prev uu _)
            go_simp
            try (with_reducible rfl)
          simp only [List.set]
          refine wpAnyH_on (i := 9) (d := 131) (v := ?_) rfl rfl (by kernel_rfl) (by kernel_rfl) (by kernel_rfl) (fun _ _ _ h => h) (by kernel_rfl) (prev_bel _ _) ?_ ?_
          rotate_left
          · intro uu (pu : Prev uu _)
            go_simp
            try (with_reducible rfl)
          simp only [List.set]
          refine wpAnyH_on (i := 10) (d := 132) (v := ?_) rfl rfl (by kernel_rfl) (by kernel_rfl) (by kernel_rfl) (fun _ _ _ h => h) (by kernel_rfl) (prev_bel _ _) ?_ ?_
          rotate_left
          · intro uu (pu : Prev uu _)
            go_simp
            try (with_reducible rfl)
          simp only [List.set]
          refine wpAnyH_on (i := 11) (d := 133) (v := ?_) rfl rfl (by kernel_rfl) (by kernel_rfl) (by kernel_rfl) (fun _ _ _ h => h) (by kernel_rfl) (prev_bel _ _) ?_ ?_
          rotate_left
          · intro uu (pu : Prev uu _)
            go_simp
            try (with_reducible rfl)
          simp only [List.set]
          refine wpAnyH_on (i := 12) (d := 134) (v := ?_) rfl rfl (by kernel_rfl) (by kernel_rfl) (by kernel_rfl) (fun _ _ _ h => h) (by kernel_rfl) (prev_bel _ _) ?_ ?_
          rotate_left
          · intro uu (pu : Prev uu _)
            go_simp
            try (with_reducible rfl)
          simp only [List.set]
          refine wpAnyH_on (i := 13) (d := 135) (v := ?_) rfl rfl (by kernel_rfl) (by kernel_rfl) (by kernel_rfl) (fun _ _ _ h => h) (by kernel_rfl) (prev_bel _ _) ?_ ?_
          rotate_left
          · intro uu (pu : Prev uu _)
            go_simp
            try (with_reducible rfl)
          simp only [List.set]
          refine wpAnyH_done (by kernel_rfl) ?_ _
          go_wp2_with fail
          go_roundw
          case rel => exact ⟨k + 1, HK.out, by go_num, prev_bel _ _⟩
          case measure => simp [intOf]; omega
        · go_wp2_with (first | (go_at_call 33; (try first | (with_reducible refine gen_boxK3 (fun u _ _ _ _ => ?_)) | (with_reducible refine gen_boxK2 (fun u _ _ _ => ?_)) | (with_reducible refine gen_boxK (fun u _ _ => ?_))); (with_reducible refine (a06_awake).mono ?_); rintro e u ⟨rfl, _⟩))
          go_ret
          exact ⟨rfl, bel w _⟩
  obtain ⟨p, rfl⟩ : ∃ p : Nat, i = (p : Int) := ⟨i.toNat, by omega⟩
  have hpM : p < M := by omega
  have HA : Hid (La = rowL N xs p) := Lib.hid (by rw [HLa.out, if_pos (by omega)]; rfl)
  have hla : La.length = N := by rw [HA.out]; exact rowL_length HX.out hpM
  have e6 : ((La.length : Int) != (N : Int)) = false := by simp [hla]
  have HLN := Lib.hid hla
  clear hla
  go_enter Try.func10, Try.ntmps10
  go_wp2_with fail
  refine wp_region_up0 (by kernel_rfl) (fun ux _ => ?_)
  refine wpAnyH_on (i := 0) (d := 24) (v := ?_) rfl rfl (by kernel_rfl) (by kernel_rfl) (by kernel_rfl) (fun _ _ _ h => h) (by kernel_rfl) (prev_bel _ _) ?_ ?_
  rotate_left
  · intro uu (pu : Prev uu _)
    go_simp
    try (with_reducible rfl)
  simp only [List.set]
  refine wpAnyH_on (i := 1) (d := 25) (v := ?_) rfl rfl (by kernel_rfl) (by kernel_rfl) (by kernel_rfl) (fun _ _ _ h => h) (by kernel_rfl) (prev_bel _ _) ?_ ?_
  rotate_left
  · intro uu (pu : Prev uu _)
    go_simp
    try (with_reducible rfl)
  simp only [List.set]
  refine wpAnyH_on (i := 3) (d := 27) (v := ?_) rfl rfl (by kernel_rfl) (by kernel_rfl) (by kernel_rfl) (fun _ _ _ h => h) (by kernel_rfl) (prev_bel _ _) ?_ ?_
  rotate_left
  · intro uu (pu : Prev uu _)
    go_simp
    try (with_reducible rfl)
  simp only [List.set]
  refine wpAnyH_on (i := 4) (d := 28) (v := ?_) rfl rfl (by kernel_rfl) (by kernel_rfl) (by kernel_rfl) (fun _ _ _ h => h) (by kernel_rfl) (prev_bel _ _) ?_ ?_
  rotate_left
  · intro uu (pu : Prev uu _)
    go_simp
    try (with_reducible rfl)
  simp only [List.set]
  refine wpAnyH_ready (rs := [2]) (by kernel_rfl) (by simp) ?_
  refine AllReadyH.cons rfl (fun K hK => ?_) AllReadyH.nil
  go_simp
  (with_reducible refine (a06_row hd hf HLa).mono ?_)
  rintro e ux ⟨A', c', rfl, _, _⟩
  dsimp only
  refine hK.out _ _ (prev_bel _ _) (fun hHeld => ?_)
  clear hHeld hK K
  try dsimp only [Act.put, List.setIfInBounds_toArray, List.set_cons_zero, List.set_cons_succ]
  refine wpAnyH_ready (rs := [5]) (by kernel_rfl) (by simp) ?_
  refine AllReadyH.cons rfl (fun K hK => ?_) AllReadyH.nil
  go_simp
  (with_reducible refine (a06_col hd hf HLb).mono ?_)
  rintro e ux ⟨A', c', rfl, _, _⟩
  dsimp only
  refine hK.out _ _ (prev_bel _ _) (fun hHeld => ?_)
  clear hHeld hK K
  try dsimp only [Act.put, List.setIfInBounds_toArray, List.set_cons_zero, List.set_cons_succ]
  refine wpAnyH_on (i := 6) (d := 7) (v := ?_) rfl rfl (by kernel_rfl) (by kernel_rfl) (by kernel_rfl) (fun _ _ _ h => h) (by kernel_rfl) (prev_bel _ _) ?_ ?_
  rotate_left
  · intro uu (pu : Prev uu _)
    go_simp
    try (with_reducible rfl)
  simp only [List.set]
  refine wpAnyH_on (i := 7) (d := 8) (v := ?_) rfl rfl (by kernel_rfl) (by kernel_rfl) (by kernel_rfl) (fun _ _ _ h => h) (by kernel_rfl) (prev_bel _ _) ?_ ?_
  rotate_left
  · intro uu (pu : Prev uu _)
    go_simp
    try (with_reducible rfl)
  simp only [List.set]
  refine wpAnyH_done (by kernel_rfl) ?_ _
  rename_i A1 d1 sA _ _ B1 d2 sB _
  go_wp2_with (first | (go_at_call 40; (try first | (with_reducible refine gen_boxK3 (fun u _ _ _ _ => ?_)) | (with_reducible refine gen_boxK2 (fun u _ _ _ => ?_)) | (with_reducible refine gen_boxK (fun u _ _ => ?_))); (with_reducible refine (a06_right (by omega)).mono ?_); rintro e u ⟨rfl, _⟩))
  go_loopw [72] (fun i wr => ∃ k : Nat, k ≤ La.length ∧ i = .int .i64 k ∧ Prev wr u) (fun i _ => La.length - (intOf i).toNat)
  case atStart => exact ⟨0, Nat.zero_le _, rfl, prev_bel _ _⟩
  case round =>
    obtain ⟨k, hk, rfl, hp⟩ := hrel
    by_cases hlk : k < La.length
    · obtain ⟨b2, o2, z, rfl, ob2, cz, hz⟩ := B1.get hlk
      have hkN : k < N := by rw [← HLN.out]; exact hlk
      obtain ⟨S2, hS2⟩ : ∃ S, Hid (p * N = S) := ⟨_, Lib.hid rfl⟩
      obtain ⟨Z, hZ⟩ : ∃ Z, Hid (S2 + k = Z) := ⟨_, Lib.hid rfl⟩
      have hZx : Z < xs.length := by
        rw [← hZ.out, HX.out, ← hS2.out]
        calc p * N + k < p * N + N := by omega
          _ = (p + 1) * N := by rw [Nat.succ_mul]
          _ ≤ M * N := Nat.mul_le_mul_right _ hpM
      obtain ⟨x, hx⟩ : ∃ x, xs[Z]? = some x := ⟨_, List.getElem?_eq_getElem hZx⟩
      obtain rfl : z = x := by
        have h1 := hz.out
        rw [HA.out, rowL_at hkN, hS2.out, hZ.out, hx] at h1
        injection h1 with h1
        exact h1.symm
      have cx : w.cell? ⟨b1, o1 + Z, none⟩ = some (.int .i64 z) := sx.rd.all hx
      clear hx hz
      have m1 : IntKind.i64.wrap ((p : Int) * (N : Int)) = (S2 : Int) := by rw [show (p : Int) * (N : Int) = (S2 : Int) from by rw [← hS2.out]; simp]; exact IntWalk.i64_in _ (by have := hZ.out; omega)
      have m2 : IntKind.i64.wrap ((S2 : Int) + (k : Int)) = (Z : Int) := by rw [show (S2 : Int) + (k : Int) = (Z : Int) from by rw [← hZ.out]; simp]; exact IntWalk.i64_in _ (by omega)
      have HK : Hid (k + 1 ≤ La.length) := Lib.hid hlk
      go_wp2_with fail
      refine wp_region_up0 (by kernel_rfl) (fun ux _ => ?_)
      refine wpAnyH_on (i := 0) (d := 77) (v := ?_) rfl rfl (by kernel_rfl) (by kernel_rfl) (by kernel_rfl) (fun _ _ _ h => h) (by kernel_rfl) (prev_bel _ _) ?_ ?_
      rotate_left
      · intro uu (pu : Prev uu _)
        go_simp
        try (with_reducible rfl)
      simp only [List.set]
      refine wpAnyH_on (i := 1) (d := 78) (v := ?_) rfl rfl (by kernel_rfl) (by kernel_rfl) (by kernel_rfl) (fun _ _ _ h => h) (by kernel_rfl) (prev_bel _ _) ?_ ?_
      rotate_left
      · intro uu (pu : Prev uu _)
        go_simp
        try (with_reducible rfl)
      simp only [List.set]
      refine wpAnyH_on (i := 2) (d := 79) (v := ?_) rfl rfl (by kernel_rfl) (by kernel_rfl) (by kernel_rfl) (fun _ _ _ h => h) (by kernel_rfl) (prev_bel _ _) ?_ ?_
      rotate_left
      · intro uu (pu : Prev uu _)
        go_simp
        try (with_reducible rfl)
      simp only [List.set]
      refine wpAnyH_on (i := 3) (d := 80) (v := ?_) rfl rfl (by kernel_rfl) (by kernel_rfl) (by kernel_rfl) (fun _ _ _ h => h) (by kernel_rfl) (prev_bel _ _) ?_ ?_
      rotate_left
      · intro uu (pu : Prev uu _)
        go_simp
        try (with_reducible rfl)
      simp only [List.set]
      refine wpAnyH_on (i := 4) (d := 81) (v := ?_) rfl rfl (by kernel_rfl) (by kernel_rfl) (by kernel_rfl) (fun _ _ _ h => h) (by kernel_rfl) (prev_bel _ _) ?_ ?_
      rotate_left
      · intro uu (pu : Prev uu _)
        go_simp
        try (with_reducible rfl)
      simp only [List.set]
      refine wpAnyH_on (i := 5) (d := 82) (v := ?_) rfl rfl (by kernel_rfl) (by kernel_rfl) (by kernel_rfl) (fun _ _ _ h => h) (by kernel_rfl) (prev_bel _ _) ?_ ?_
      rotate_left
      · intro uu (pu : Prev uu _)
        go_simp
        try (with_reducible rfl)
      simp only [List.set]
      refine wpAnyH_on (i := 6) (d := 83) (v := ?_) rfl rfl (by kernel_rfl) (by kernel_rfl) (by kernel_rfl) (fun _ _ _ h => h) (by kernel_rfl) (prev_bel _ _) ?_ ?_
      rotate_left
      · intro uu (pu : Prev uu _)
        go_simp
        try (with_reducible rfl)
      simp only [List.set]
      refine wpAnyH_on (i := 7) (d := 84) (v := ?_) rfl rfl (by kernel_rfl) (by kernel_rfl) (by kernel_rfl) (fun _ _ _ h => h) (by kernel_rfl) (prev_bel _ _) ?_ ?_
      rotate_left
      · intro uu (pu : Prev uu _)
        go_simp
        try (with_reducible rfl)
      simp only [List.set]
      refine wpAnyH_on (i := 8) (d := 85) (v := ?_) rfl rfl (by kernel_rfl) (by kernel_rfl) (by kernel_rfl) (fun _ _ _ h => h) (by kernel_rfl) (prev_bel _ _) ?_ ?_
      rotate_left
      · intro uu (pu : Prev uu _)
        go_simp
        try (with_reducible rfl)
      simp only [List.set]
      refine wpAnyH_on (i := 9) (d := 86) (v := ?_) rfl rfl (by kernel_rfl) (by kernel_rfl) (by kernel_rfl) (fun _ _ _ h => h) (by kernel_rfl) (prev_bel _ _) ?_ ?_
      rotate_left
      · intro uu (pu : Prev uu _)
        go_simp
        try (with_reducible rfl)
      simp only [List.set]
      refine wpAnyH_on (i := 10) (d := 87) (v := ?_) rfl rfl (by kernel_rfl) (by kernel_rfl) (by kernel_rfl) (fun _ _ _ h => h) (by kernel_rfl) (prev_bel _ _) ?_ ?_
      rotate_left
      · intro uu (pu : Prev uu _)
        go_simp
        try (with_reducible rfl)
      simp only [List.set]
      refine wpAnyH_on (i := 11) (d := 88) (v := ?_) rfl rfl (by kernel_rfl) (by kernel_rfl) (by kernel_rfl) (fun _ _ _ h => h) (by kernel_rfl) (prev_bel _ _) ?_ ?_
      rotate_left
      · intro uu (pu : Prev uu _)
        go_simp
        try (with_reducible rfl)
      simp only [List.set]
      refine wpAnyH_on (i := 12) (d := 89) (v := ?_) rfl rfl (by kernel_rfl) (by kernel_rfl) (by kernel_rfl) (fun _ _ _ h => h) (by kernel_rfl) (prev_bel _ _) ?_ ?_
      rotate_left
      · intro uu (pu : Prev uu _)
        go_simp
        try (with_reducible rfl)
      simp only [List.set]
      refine wpAnyH_on (i := 13) (d := 90) (v := ?_) rfl rfl (by kernel_rfl) (by kernel_rfl) (by kernel_rfl) (fun _ _ _ h => h) (by kernel_rfl) (prev_bel _ _) ?_ ?_
      rotate_left
      · intro uu (pu : Prev uu _)
        go_simp
        try (with_reducible rfl)
      simp only [List.set]
      refine wpAnyH_done (by kernel_rfl) ?_ _
      go_wp2_with fail
      go_roundw
      case rel => exact ⟨k + 1, HK.out, by go_num, prev_bel _ _⟩
      case measure => simp [intOf]; omega
    · clear e6
      by_cases j0 : j < 0
      · have e : Lb = [] := by rw [HLb.out, if_neg (by omega)]
        subst e
        go_wp2_with (first | (go_at_call 33; (try first | (with_reducible refine gen_boxK3 (fun u _ _ _ _ => ?_)) | (with_reducible refine gen_boxK2 (fun u _ _ _ => ?_)) | (with_reducible refine gen_boxK (fun u _ _ => ?_))); (with_reducible refine (a06_awake).mono ?_); rintro e u ⟨rfl, _⟩))
        go_ret
        exact ⟨rfl, bel w _⟩
      by_cases j1 : (N : Int) ≤ j
      · have e : Lb = [] := by rw [HLb.out, if_neg (by omega)]
        subst e
        go_wp2_with (first | (go_at_call 33; (try first | (with_reducible refine gen_boxK3 (fun u _ _ _ _ => ?_)) | (with_reducible refine gen_boxK2 (fun u _ _ _ => ?_)) | (with_reducible refine gen_boxK (fun u _ _ => ?_))); (with_reducible refine (a06_awake).mono ?_); rintro e u ⟨rfl, _⟩))
        go_ret
        exact ⟨rfl, bel w _⟩
      obtain ⟨jn, rfl⟩ : ∃ jn : Nat, j = (jn : Int) := ⟨j.toNat, by omega⟩
      have hjn : jn < N := by omega
      have HB : Hid (Lb = colL xs N jn M) := Lib.hid (by rw [HLb.out, if_pos (by omega)]; rfl)
      have hlb : Lb.length = M := by rw [HB.out, colL_length]
      have e7 : ((Lb.length : Int) != (M : Int)) = false := by simp [hlb]
      clear hlb
      go_wp2_with fail
      go_loopw [117] (fun i wq => ∃ k : Nat, k ≤ Lb.length ∧ i = .int .i64 k ∧ Prev wq (wr)) (fun i _ => Lb.length - (intOf i).toNat)
      case atStart => exact ⟨0, Nat.zero_le _, rfl, prev_bel _ _⟩
      case round =>
        obtain ⟨k, hk, rfl, hp2⟩ := hrel
        by_cases hlk : k < Lb.length
        · obtain ⟨b2, o2, z, rfl, ob2, cz, hz⟩ := sB.get hlk
          have hkM : k < M := by rw [HB.out, colL_length] at hlk; exact hlk
          obtain ⟨S2, hS2⟩ : ∃ S, Hid (k * N = S) := ⟨_, Lib.hid rfl⟩
          obtain ⟨Z, hZ⟩ : ∃ Z, Hid (S2 + jn = Z) := ⟨_, Lib.hid rfl⟩
          have hZx : Z < xs.length := by
            rw [← hZ.out]
            rw [HX.out, ← hS2.out]
            calc k * N + jn < k * N + N := by omega
              _ = (k + 1) * N := by rw [Nat.succ_mul]
              _ ≤ M * N := Nat.mul_le_mul_right _ hkM
          obtain ⟨x, hx⟩ : ∃ x, xs[Z]? = some x := ⟨_, List.getElem?_eq_getElem hZx⟩
          obtain rfl : z = x := by
            have h1 := hz.out
            rw [HB.out, colL_at hkM (by rw [hS2.out, hZ.out]; exact hx)] at h1
            injection h1 with h1
            exact h1.symm
          have cx : w.cell? ⟨b1, o1 + Z, none⟩ = some (.int .i64 z) := sx.rd.all hx
          clear hx hz
          have m1 : IntKind.i64.wrap ((k : Int) * (N : Int)) = (S2 : Int) := by rw [show (k : Int) * (N : Int) = (S2 : Int) from by rw [← hS2.out]; simp]; exact IntWalk.i64_in _ (by have := hZ.out; omega)
          have m2 : IntKind.i64.wrap ((S2 : Int) + (jn : Int)) = (Z : Int) := by rw [show (S2 : Int) + (jn : Int) = (Z : Int) from by rw [← hZ.out]; simp]; exact IntWalk.i64_in _ (by omega)
          have HK : Hid (k + 1 ≤ Lb.length) := Lib.hid hlk
          go_wp2_with fail
          refine wp_region_up0 (by kernel_rfl) (fun ux _ => ?_)
          refine wpAnyH_on (i := 0) (d := 122) (v := ?_) rfl rfl (by kernel_rfl) (by kernel_rfl) (by kernel_rfl) (fun _ _ _ h => h) (by kernel_rfl) (prev_bel _ _) ?_ ?_
          rotate_left
          · intro uu (pu : Prev uu _)
            go_simp
            try (with_reducible rfl)
          simp only [List.set]
          refine wpAnyH_on (i := 1) (d := 123) (v := ?_) rfl rfl (by kernel_rfl) (by kernel_rfl) (by kernel_rfl) (fun _ _ _ h => h) (by kernel_rfl) (prev_bel _ _) ?_ ?_
          rotate_left
          · intro uu (pu : Prev uu _)
            go_simp
            try (with_reducible rfl)
          simp only [List.set]
          refine wpAnyH_on (i := 2) (d := 124) (v := ?_) rfl rfl (by kernel_rfl) (by kernel_rfl) (by kernel_rfl) (fun _ _ _ h => h) (by kernel_rfl) (prev_bel _ _) ?_ ?_
          rotate_left
          · intro uu (pu : Prev uu _)
            go_simp
            try (with_reducible rfl)
          simp only [List.set]
          refine wpAnyH_on (i := 3) (d := 125) (v := ?_) rfl rfl (by kernel_rfl) (by kernel_rfl) (by kernel_rfl) (fun _ _ _ h => h) (by kernel_rfl) (prev_bel _ _) ?_ ?_
          rotate_left
          · intro uu (pu : Prev uu _)
            go_simp
            try (with_reducible rfl)
          simp only [List.set]
          refine wpAnyH_on (i := 4) (d := 126) (v := ?_) rfl rfl (by kernel_rfl) (by kernel_rfl) (by kernel_rfl) (fun _ _ _ h => h) (by kernel_rfl) (prev_bel _ _) ?_ ?_
          rotate_left
          · intro uu (pu : Prev uu _)
            go_simp
            try (with_reducible rfl)
          simp only [List.set]
          refine wpAnyH_on (i := 5) (d := 127) (v := ?_) rfl rfl (by kernel_rfl) (by kernel_rfl) (by kernel_rfl) (fun _ _ _ h => h) (by kernel_rfl) (prev_bel _ _) ?_ ?_
          rotate_left
          · intro uu (pu : Prev uu _)
            go_simp
            try (with_reducible rfl)
          simp only [List.set]
          refine wpAnyH_on (i := 6) (d := 128) (v := ?_) rfl rfl (by kernel_rfl) (by kernel_rfl) (by kernel_rfl) (fun _ _ _ h => h) (by kernel_rfl) (prev_bel _ _) ?_ ?_
          rotate_left
          · intro uu (pu : Prev uu _)
            go_simp
            try (with_reducible rfl)
          simp only [List.set]
          refine wpAnyH_on (i := 7) (d := 129) (v := ?_) rfl rfl (by kernel_rfl) (by kernel_rfl) (by kernel_rfl) (fun _ _ _ h => h) (by kernel_rfl) (prev_bel _ _) ?_ ?_
          rotate_left
          · intro uu (pu : Prev uu _)
            go_simp
            try (with_reducible rfl)
          simp only [List.set]
          refine wpAnyH_on (i := 8) (d := 130) (v := ?_) rfl rfl (by kernel_rfl) (by kernel_rfl) (by kernel_rfl) (fun _ _ _ h => h) (by kernel_rfl) (prev_bel _ _) ?_ ?_
          rotate_left
          · intro uu (pu : Prev uu _)
            go_simp
            try (with_reducible rfl)
          simp only [List.set]
          refine wpAnyH_on (i := 9) (d := 131) (v := ?_) rfl rfl (by kernel_rfl) (by kernel_rfl) (by kernel_rfl) (fun _ _ _ h => h) (by kernel_rfl) (prev_bel _ _) ?_ ?_
          rotate_left
          · intro uu (pu : Prev uu _)
            go_simp
            try (with_reducible rfl)
          simp only [List.set]
          refine wpAnyH_on (i := 10) (d := 132) (v := ?_) rfl rfl (by kernel_rfl) (by kernel_rfl) (by kernel_rfl) (fun _ _ _ h => h) (by kernel_rfl) (prev_bel _ _) ?_ ?_
          rotate_left
          · intro uu (pu : Prev uu _)
            go_simp
            try (with_reducible rfl)
          simp only [List.set]
          refine wpAnyH_on (i := 11) (d := 133) (v := ?_) rfl rfl (by kernel_rfl) (by kernel_rfl) (by kernel_rfl) (fun _ _ _ h => h) (by kernel_rfl) (prev_bel _ _) ?_ ?_
          rotate_left
          · intro uu (pu : Prev uu _)
            go_simp
            try (with_reducible rfl)
          simp only [List.set]
          refine wpAnyH_on (i := 12) (d := 134) (v := ?_) rfl rfl (by kernel_rfl) (by kernel_rfl) (by kernel_rfl) (fun _ _ _ h => h) (by kernel_rfl) (prev_bel _ _) ?_ ?_
          rotate_left
          · intro uu (pu : Prev uu _)
            go_simp
            try (with_reducible rfl)
          simp only [List.set]
          refine wpAnyH_on (i := 13) (d := 135) (v := ?_) rfl rfl (by kernel_rfl) (by kernel_rfl) (by kernel_rfl) (fun _ _ _ h => h) (by kernel_rfl) (prev_bel _ _) ?_ ?_
          rotate_left
          · intro uu (pu : Prev uu _)
            go_simp
            try (with_reducible rfl)
          simp only [List.set]
          refine wpAnyH_done (by kernel_rfl) ?_ _
          go_wp2_with fail
          go_roundw
          case rel => exact ⟨k + 1, HK.out, by go_num, prev_bel _ _⟩
          case measure => simp [intOf]; omega
        · go_wp2_with (first | (go_at_call 33; (try first | (with_reducible refine gen_boxK3 (fun u _ _ _ _ => ?_)) | (with_reducible refine gen_boxK2 (fun u _ _ _ => ?_)) | (with_reducible refine gen_boxK (fun u _ _ => ?_))); (with_reducible refine (a06_awake).mono ?_); rintro e u ⟨rfl, _⟩))
          go_ret
          exact ⟨rfl, bel w _⟩

end Go.Proofs.Ythcdjdhnjbdfeaa
