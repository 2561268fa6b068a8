/- dense.Row and dense.Column. -/
import Derived.Test.YthcdjdhnjbdfeaaCopyOwn
import Derived.Test.YthcdjdhnjbdfeaaDense4
namespace Go.Proofs.Ythcdjdhnjbdfeaa
open Go.RowKit

theorem flat_nats {zs xs : List Int} (h : flatB zs xs = true) :
    ∃ M N : Nat, zs = [(M : Int), (N : Int)] ∧ xs.length = M * N ∧ 1 ≤ M ∧ 1 ≤ N ∧ M ≤ 1024 ∧ N ≤ 1024 ∧ xs.length ≤ 65536 := by
  simp only [flatB, Bool.and_eq_true, decide_eq_true_eq] at h
  obtain ⟨h1, h2⟩ := h
  obtain ⟨z0, z1, rfl⟩ : ∃ z0 z1, zs = [z0, z1] := by
    match zs, h2 with
    | [z0, z1], _ => exact ⟨z0, z1, rfl⟩
  obtain ⟨g1, g2⟩ := (tRightB_iff _ _).1 h1
  obtain ⟨-, -, rin, rpr⟩ := (rightB_iff _).1 g1
  have a0 := inSides_mem rin (z := z0) (by simp)
  have a1 := inSides_mem rin (z := z1) (by simp)
  obtain ⟨M, rfl, hM⟩ := nat_of_pos a0.1
  obtain ⟨N, rfl, hN⟩ := nat_of_pos a1.1
  simp [prodL] at g2 rpr
  have e1 : xs.length = M * N := by exact_mod_cast g2
  have e2 : (M : Int) * N = ((M * N : Nat) : Int) := by simp
  exact ⟨M, N, rfl, e1, hM, hN, by omega, by omega, by omega⟩

/-- The first k cells of column j. -/
def colL (xs : List Int) (n j k : Nat) : List Int := (List.range k).map fun i => xs.getD (i * n + j) 0
theorem colL_length (xs : List Int) (n j k : Nat) : (colL xs n j k).length = k := by simp [colL]
theorem colL_succ {xs : List Int} {n j k : Nat} {z : Int} (h : xs[k * n + j]? = some z) : colL xs n j (k + 1) = colL xs n j k ++ [z] := by
  simp [colL, List.range_succ, h]
theorem colL_at {xs : List Int} {n j m k : Nat} {z : Int} (hk : k < m) (h : xs[k * n + j]? = some z) : (colL xs n j m)[k]? = some z := by
  simp [colL, List.getElem?_range hk, h]

section
variable {w : World} {A B : Option Addr} {n m c d : Nat} {zs xs : List Int}
theorem a06_flat [a : Sl w A n zs] [b : Sl w B m xs] (hn : n ≤ 1000000) : Calls Try.prog 68 #[.agg #[.slice A n c, .slice B m d]] w (RetV w (.bool (flatB zs xs))) := by
  obtain ⟨a, rfl⟩ := a
  obtain ⟨b, rfl⟩ := b
  exact retV (d_flat A B c d zs xs w hn a)
theorem a06_line {M N b off i S : Nat} [a : Sl w A 2 [(M : Int), (N : Int)]] (hd : xs.length ≤ d) (hM : M ≤ 1024) (hN : N ≤ 1024) (hN1 : 1 ≤ N) (hx : Hid (xs.length = M * N)) (hx6 : xs.length ≤ 65536) (hi : i < M) (hS : Hid (i * N = S)) :
    Calls Try.prog 65 #[.agg #[.slice A 2 c, .slice (some ⟨b, off, none⟩) xs.length d], .int .i64 i] w (RetV w (.slice (some ⟨b, off + S, none⟩) N N)) :=
  (d_line A b off c d M N i S xs w hd hM hN hN1 hx hx6 hi hS a.rd).mono fun _ _ ⟨he, hw⟩ => ⟨he, hw ▸ prev_bel _ _⟩

theorem retS_nil {e : Ending} {w' : World} (he : e = .returned (.slice none 0 0)) [l : Later w w'] : RetS w [] e w' := ⟨none, 0, he, Sl.empty, prev_bel _ _⟩

set_option maxHeartbeats 1000000 in
theorem a06_row_no [a : Sl w A n zs] [b : Sl w B m xs] (hn : n ≤ 1000000) {i : Int} (h : flatB zs xs = false ∨ i < 0 ∨ zs.getD 0 0 ≤ i) :
    Calls Try.prog 46 #[.agg #[.slice A n c, .slice B m d], .int .i64 i] w (RetS w []) := by
  have CB := @cell_bx
  have CP := @cell_prev
  rcases hf : flatB zs xs with _ | _
  · go_enter Try.func46, Try.ntmps46
    go_wp2_with (first | (go_at_call 68; (try first | (with_reducible refine gen_boxK3 (fun u _ _ _ _ => ?_)) | (with_reducible refine gen_boxK2 (fun u _ _ _ => ?_)) | (with_reducible refine gen_boxK (fun u _ _ => ?_))); (with_reducible refine (a06_flat (by omega)).mono ?_); rintro e u ⟨rfl, _⟩))
    go_ret
    exact retS_nil rfl
  · obtain ⟨M, N, rfl, -, -, -, hM, hN, -⟩ := flat_nats hf
    obtain ⟨b0, o0, rfl⟩ : ∃ b0 o0, A = some ⟨b0, o0, none⟩ := by obtain ⟨b, o, e, -, -⟩ := a.rd 0 (M : Int) rfl; exact ⟨b, o, e⟩
    obtain rfl := a.len
    have ob : Old b0 w := ⟨by obtain ⟨b, o, e, hb, -⟩ := a.rd 0 (M : Int) rfl; injection e with e; injection e with e1 e2; subst e1; exact hb⟩
    have c0 : w.cell? ⟨b0, o0, none⟩ = some (.int .i64 M) := by simpa using a.rd.all (k := 0) rfl
    by_cases h0 : i < 0
    · clear h c0
      go_enter Try.func46, Try.ntmps46
      go_wp2_with (first | (go_at_call 68; (try first | (with_reducible refine gen_boxK3 (fun u _ _ _ _ => ?_)) | (with_reducible refine gen_boxK2 (fun u _ _ _ => ?_)) | (with_reducible refine gen_boxK (fun u _ _ => ?_))); (with_reducible refine (a06_flat (by omega)).mono ?_); rintro e u ⟨rfl, _⟩))
      go_ret
      exact retS_nil rfl
    · have h1 : (M : Int) ≤ i := by simpa [hf, h0] using h
      clear h
      go_enter Try.func46, Try.ntmps46
      go_wp2_with (first | (go_at_call 68; (try first | (with_reducible refine gen_boxK3 (fun u _ _ _ _ => ?_)) | (with_reducible refine gen_boxK2 (fun u _ _ _ => ?_)) | (with_reducible refine gen_boxK (fun u _ _ => ?_))); (with_reducible refine (a06_flat (by omega)).mono ?_); rintro e u ⟨rfl, _⟩))
      go_ret
      exact retS_nil rfl

set_option maxHeartbeats 1000000 in
theorem a06_col_no [a : Sl w A n zs] [b : Sl w B m xs] (hn : n ≤ 1000000) {i : Int} (h : flatB zs xs = false ∨ i < 0 ∨ zs.getD 1 0 ≤ i) :
    Calls Try.prog 47 #[.agg #[.slice A n c, .slice B m d], .int .i64 i] w (RetS w []) := by
  have CB := @cell_bx
  have CP := @cell_prev
  rcases hf : flatB zs xs with _ | _
  · go_enter Try.func47, Try.ntmps47
    go_wp2_with (first | (go_at_call 68; (try first | (with_reducible refine gen_boxK3 (fun u _ _ _ _ => ?_)) | (with_reducible refine gen_boxK2 (fun u _ _ _ => ?_)) | (with_reducible refine gen_boxK (fun u _ _ => ?_))); (with_reducible refine (a06_flat (by omega)).mono ?_); rintro e u ⟨rfl, _⟩))
    go_ret
    exact retS_nil rfl
  · obtain ⟨M, N, rfl, -, -, -, hM, hN, -⟩ := flat_nats hf
    obtain ⟨b0, o0, rfl⟩ : ∃ b0 o0, A = some ⟨b0, o0, none⟩ := by obtain ⟨b, o, e, -, -⟩ := a.rd 0 (M : Int) rfl; exact ⟨b, o, e⟩
    obtain rfl := a.len
    have ob : Old b0 w := ⟨by obtain ⟨b, o, e, hb, -⟩ := a.rd 0 (M : Int) rfl; injection e with e; injection e with e1 e2; subst e1; exact hb⟩
    have c0 : w.cell? ⟨b0, o0 + 1, none⟩ = some (.int .i64 N) := by simpa using a.rd.all (k := 1) rfl
    by_cases h0 : i < 0
    · clear h c0
      go_enter Try.func47, Try.ntmps47
      go_wp2_with (first | (go_at_call 68; (try first | (with_reducible refine gen_boxK3 (fun u _ _ _ _ => ?_)) | (with_reducible refine gen_boxK2 (fun u _ _ _ => ?_)) | (with_reducible refine gen_boxK (fun u _ _ => ?_))); (with_reducible refine (a06_flat (by omega)).mono ?_); rintro e u ⟨rfl, _⟩))
      go_ret
      exact retS_nil rfl
    · have h1 : (N : Int) ≤ i := by simpa [hf, h0] using h
      clear h
      go_enter Try.func47, Try.ntmps47
      go_wp2_with (first | (go_at_call 68; (try first | (with_reducible refine gen_boxK3 (fun u _ _ _ _ => ?_)) | (with_reducible refine gen_boxK2 (fun u _ _ _ => ?_)) | (with_reducible refine gen_boxK (fun u _ _ => ?_))); (with_reducible refine (a06_flat (by omega)).mono ?_); rintro e u ⟨rfl, _⟩))
      go_ret
      exact retS_nil rfl

set_option maxRecDepth 100000 in
set_option maxHeartbeats 1000000 in
theorem a06_row_yes {M N i : Nat} [a : Sl w A 2 [(M : Int), (N : Int)]] [b : Sl w B m xs] (hd : m ≤ d) (hf : flatB [(M : Int), (N : Int)] xs = true) (hi : i < M) {L : List Int} (hL : Hid (L = rowL N xs i)) :
    Calls Try.prog 46 #[.agg #[.slice A 2 c, .slice B m d], .int .i64 i] w (RetS w L) := by
  have CB := @cell_bx
  have CP := @cell_prev
  obtain ⟨M', N', hMN, hx, hM1, hN1, hM, hN, hx6⟩ := flat_nats hf
  obtain ⟨rfl, rfl⟩ : M = M' ∧ N = N' := by simp at hMN; omega
  clear hMN
  obtain ⟨b, rfl⟩ := b
  have HX := Lib.hid hx
  have hlen : L.length = N := by rw [hL.out]; exact rowL_length hx hi
  have hNx : 0 < xs.length := by rw [hx]; exact Nat.mul_pos hM1 hN1
  clear hx
  obtain ⟨S, hS⟩ : ∃ S, Hid (i * N = S) := ⟨_, Lib.hid rfl⟩
  obtain ⟨b1, o1, x1, rfl, hb1, -, -⟩ := b.get hNx
  have hrow : Rd w (some ⟨b1, o1 + S, none⟩) L := by rw [hL.out, ← hS.out]; exact b.row N i
  have HLEN := Lib.hid hlen
  clear hlen
  obtain ⟨b0, o0, rfl⟩ : ∃ b0 o0, A = some ⟨b0, o0, none⟩ := by obtain ⟨b, o, e, -, -⟩ := a.rd 0 (M : Int) rfl; exact ⟨b, o, e⟩
  have ob : Old b0 w := ⟨by obtain ⟨b, o, e, hb, -⟩ := a.rd 0 (M : Int) rfl; injection e with e; injection e with e1 e2; subst e1; exact hb⟩
  have c0 : w.cell? ⟨b0, o0, none⟩ = some (.int .i64 M) := by simpa using a.rd.all (k := 0) rfl
  have c1 : w.cell? ⟨b0, o0 + 1, none⟩ = some (.int .i64 N) := by simpa using a.rd.all (k := 1) rfl
  have hmk := fun W => run_make_row' (P := Try.prog) 24 27 (.int .i64 0) 8 Try.underlying24 (by kernel_rfl) rfl .i64 .i64 N (by omega) (by omega) W
  rw [ints_made] at hmk
  have sX : Sl w (some ⟨b1, o1, none⟩) xs.length xs := ⟨b, rfl⟩
  go_enter Try.func46, Try.ntmps46
  go_wp2_with (first | (go_at_call 68; (try first | (with_reducible refine gen_boxK3 (fun u _ _ _ _ => ?_)) | (with_reducible refine gen_boxK2 (fun u _ _ _ => ?_)) | (with_reducible refine gen_boxK (fun u _ _ => ?_))); (with_reducible refine (a06_flat (by omega)).mono ?_); rintro e u ⟨rfl, _⟩))
  refine gen_boxK (fun v pv kv => ?_)
  have oG : Own v u.heap.size 27 (List.replicate N 0) := kv.blk
  refine (a06_line hd hM hN hN1 HX hx6 hi hS).mono ?_
  rintro e w2 ⟨rfl, _⟩
  have hcp := fun ty => run_copy_own (P := Try.prog) 24 24 ty 27 Try.underlying24 (by kernel_rfl) (oG.at (w' := w2)) (o := 0) (dLen := N) (dCap := N) (sLen := N) (sCap := N) (hrow.at (w' := w2)) (by rw [HLEN.out]; exact (Nat.min_self _).symm) (by rw [HLEN.out]; simp)
  go_wp2_with fail
  go_ret
  have e1 : over (List.replicate N 0) L 0 = L := by simp [over, HLEN.out]
  have o2 := (oG.at (w' := w2)).setRow (over (List.replicate N 0) L 0)
  rw [e1] at o2 ⊢
  exact ⟨some ⟨u.heap.size, 0, none⟩, N, by rw [HLEN.out]; rfl, ⟨o2.rd, rfl⟩, ⟨below_setRow (bel w w2) (bel w u).size _⟩⟩

set_option maxRecDepth 100000 in
set_option maxHeartbeats 1000000 in
theorem a06_col_yes {M N j : Nat} [a : Sl w A 2 [(M : Int), (N : Int)]] [b : Sl w B m xs] (hd : m ≤ d) (hf : flatB [(M : Int), (N : Int)] xs = true) (hj : j < N) {L : List Int} (hL : Hid (L = colL xs N j M)) :
    Calls Try.prog 47 #[.agg #[.slice A 2 c, .slice B m d], .int .i64 j] w (RetS w L) := by
  have CB := @cell_bx
  have CP := @cell_prev
  have FP := @frozen_prev
  obtain ⟨M', N', hMN, hx, hM1, hN1, hM, hN, hx6⟩ := flat_nats hf
  obtain ⟨rfl, rfl⟩ : M = M' ∧ N = N' := by simp at hMN; omega
  clear hMN
  obtain ⟨b, rfl⟩ := b
  have HX := Lib.hid hx
  have HLEN : Hid (L.length = M) := Lib.hid (by rw [hL.out]; exact colL_length _ _ _ _)
  have hNx : 0 < xs.length := by rw [hx]; exact Nat.mul_pos hM1 hN1
  clear hx
  obtain ⟨b1, o1, x1, rfl, hb1, -, -⟩ := b.get hNx
  obtain ⟨b0, o0, rfl⟩ : ∃ b0 o0, A = some ⟨b0, o0, none⟩ := by obtain ⟨b, o, e, -, -⟩ := a.rd 0 (M : Int) rfl; exact ⟨b, o, e⟩
  have ob : Old b0 w := ⟨by obtain ⟨b, o, e, hb, -⟩ := a.rd 0 (M : Int) rfl; injection e with e; injection e with e1 e2; subst e1; exact hb⟩
  have ob1 : Old b1 w := ⟨hb1⟩
  have c0 : w.cell? ⟨b0, o0, none⟩ = some (.int .i64 M) := by simpa using a.rd.all (k := 0) rfl
  have c1 : w.cell? ⟨b0, o0 + 1, none⟩ = some (.int .i64 N) := by simpa using a.rd.all (k := 1) rfl
  have hmk := fun W => run_make_row' (P := Try.prog) 24 27 (.int .i64 0) 8 Try.underlying24 (by kernel_rfl) rfl .i64 .i64 M (by omega) (by omega) W
  rw [ints_made] at hmk
  have sX : Sl w (some ⟨b1, o1, none⟩) xs.length xs := ⟨b, rfl⟩
  have e1 : decide ((j : Int) < 0) = false := by simp
  have e2 : decide (N ≤ j) = false := by simp; omega
  have e3 : decide ((N : Int) ≤ (j : Int)) = false := by simp; omega
  go_enter Try.func47, Try.ntmps47
  go_wp2_with (first | (go_at_call 68; (try first | (with_reducible refine gen_boxK3 (fun u _ _ _ _ => ?_)) | (with_reducible refine gen_boxK2 (fun u _ _ _ => ?_)) | (with_reducible refine gen_boxK (fun u _ _ => ?_))); (with_reducible refine (a06_flat (by omega)).mono ?_); rintro e u ⟨rfl, _⟩))
  clear hmk
  go_loopw [29] (fun i wr => ∃ k : Nat, k ≤ M ∧ i = .int .i64 k ∧ Own wr u.heap.size 27 (upTo (colL xs N j) (List.replicate M 0) k) ∧ Prev wr u) (fun i _ => M - (intOf i).toNat)
  case atStart => exact ⟨0, Nat.zero_le _, rfl, by simpa [upTo, colL] using Own.new u 27 (List.replicate M 0), prev_bel _ _⟩
  case round =>
    obtain ⟨k, hk, rfl, hO, hp⟩ := hrel
    by_cases hlt : k < M
    · obtain ⟨S, hS⟩ : ∃ S, Hid (k * N = S) := ⟨_, Lib.hid rfl⟩
      have hSj : S + j < xs.length := by
        rw [HX.out, ← hS.out]
        calc k * N + j < k * N + N := by omega
          _ = (k + 1) * N := by rw [Nat.succ_mul]
          _ ≤ M * N := Nat.mul_le_mul_right _ hlt
      obtain ⟨z, hz⟩ : ∃ z, xs[S + j]? = some z := ⟨_, List.getElem?_eq_getElem hSj⟩
      have cz : w.cell? ⟨b1, o1 + S + j, none⟩ = some (.int .i64 z) := by rw [Nat.add_assoc]; exact b.all hz
      have hky : (List.replicate M (0 : Int))[k]? = some 0 := by rw [List.getElem?_replicate, if_pos hlt]
      have hcg := hO.cell (upTo_at (colL_length xs N j k) hky)
      have hfg := hO.frozen k
      have HOS := Lib.hid (upTo_set (f := colL xs N j) (colL_length xs N j k) (colL_succ (by rw [hS.out]; exact hz)) hky)
      have og : Old u.heap.size wr := ⟨hO.lt⟩
      clear hz hky
      go_wp2_with fail
      refine (a06_line hd hM hN hN1 HX hx6 hlt hS).mono ?_
      rintro e w2 ⟨rfl, _⟩
      go_wp2_with fail
      go_roundw
      case rel =>
        have o2 := (hO.at (w' := w2)).set_ k z
        rw [HOS.out] at o2
        exact ⟨k + 1, by omega, by go_num, o2, ⟨(bel u w2).setCell (Nat.le_refl _) _⟩⟩
      case measure => simp [intOf]; omega
    · obtain rfl : k = M := by omega
      rw [upTo_all (by simp)] at hO
      go_wp2_with fail
      go_ret
      rw [← hL.out] at hO
      exact ⟨some ⟨u.heap.size, 0, none⟩, k, by rw [HLEN.out]; rfl, ⟨hO.rd, rfl⟩, prev_bel _ _⟩
end

end Go.Proofs.Ythcdjdhnjbdfeaa
