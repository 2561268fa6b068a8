/- Plain law of convolutions: all products in their order. -/
namespace Go.Proofs.Yteibgdcieaiaiaa

/-- The sides of a convolution: outs, ins, a kernel's height and width, those of what comes in, those of the answer, the step. -/
structure CF where
  O : Nat
  C : Nat
  K : Nat
  L : Nat
  H : Nat
  W : Nat
  M : Nat
  N : Nat
  S : Nat
/-- A product: the number of the answer's cell, of the kernel's, of the cell that comes in. -/
abbrev Tri := Nat × Nat × Nat
section
variable (f : CF)
def CF.place (p i j : Nat) : Nat := (p * f.M + i) * f.N + j
def CF.wt (p q t u : Nat) : Nat := (p * f.C + q) * (f.K * f.L) + t * f.L + u
def CF.frm (i j q t u : Nat) : Nat := q * (f.H * f.W) + (i * f.S * f.W + j * f.S) + t * f.W + u
def CF.tri (p i j q t u : Nat) : Tri := (f.place p i j, f.wt p q t u, f.frm i j q t u)
def CF.uT (p i j q t u : Nat) : List Tri := (List.range u).flatMap fun u => [f.tri p i j q t u]
def CF.tT (p i j q t : Nat) : List Tri := (List.range t).flatMap fun t => f.uT p i j q t f.L
def CF.qT (p i j q : Nat) : List Tri := (List.range q).flatMap fun q => f.tT p i j q f.K
def CF.cT (p i j : Nat) : List Tri := f.qT p i j f.C
def CF.jT (p i j : Nat) : List Tri := (List.range j).flatMap fun j => f.cT p i j
def CF.iT (p i : Nat) : List Tri := (List.range i).flatMap fun i => f.jT p i f.N
def CF.pT (p : Nat) : List Tri := (List.range p).flatMap fun p => f.iT p f.M
def CF.all : List Tri := f.pT f.O
end
theorem fm_succ {α : Type} (g : Nat → List α) (n : Nat) : (List.range (n + 1)).flatMap g = (List.range n).flatMap g ++ g n := by simp [List.range_succ]
theorem fm_zero {α : Type} (g : Nat → List α) : (List.range 0).flatMap g = [] := rfl
theorem fm_split {α : Type} (g : Nat → List α) {k n : Nat} (h : k < n) : ∃ r, (List.range n).flatMap g = (List.range k).flatMap g ++ (g k ++ r) := by
  induction n with
  | zero => omega
  | succ n ih =>
    by_cases hk : k = n
    · subst hk; exact ⟨[], by rw [fm_succ, List.append_nil]⟩
    · obtain ⟨r, hr⟩ := ih (by omega)
      exact ⟨r ++ g n, by rw [fm_succ, hr]; simp⟩
theorem fm_len {α : Type} (g : Nat → List α) (c : Nat) (h : ∀ k, (g k).length = c) : ∀ n, ((List.range n).flatMap g).length = n * c
  | 0 => by simp
  | n + 1 => by rw [fm_succ, List.length_append, fm_len g c h n, h, Nat.succ_mul]
section
variable {f : CF}
/-- All products are those ahead of a cell's round, and the ones from there on. -/
theorem cell_split {T pre0 post0 : List Tri} {p i j q t u : Nat} (hT : T = pre0 ++ (f.cT p i j ++ post0)) (hq : q < f.C) (ht : t < f.K) (hu : u < f.L) :
    ∃ post, T = (pre0 ++ (f.qT p i j q ++ (f.tT p i j q t ++ f.uT p i j q t u))) ++ f.tri p i j q t u :: post := by
  obtain ⟨r1, h1⟩ := fm_split (fun q => f.tT p i j q f.K) hq
  obtain ⟨r2, h2⟩ := fm_split (fun t => f.uT p i j q t f.L) ht
  obtain ⟨r3, h3⟩ := fm_split (fun u => [f.tri p i j q t u]) hu
  refine ⟨r3 ++ (r2 ++ (r1 ++ post0)), ?_⟩
  rw [hT, CF.cT, CF.qT, h1, CF.tT, h2, CF.uT, h3]
  simp [CF.qT, CF.tT, CF.uT]
theorem each_split {p i j : Nat} (hp : p < f.O) (hi : i < f.M) (hj : j < f.N) : ∃ post, f.all = (f.pT p ++ (f.iT p i ++ f.jT p i j)) ++ (f.cT p i j ++ post) := by
  obtain ⟨r1, h1⟩ := fm_split (fun p => f.iT p f.M) hp
  obtain ⟨r2, h2⟩ := fm_split (fun i => f.jT p i f.N) hi
  obtain ⟨r3, h3⟩ := fm_split (fun j => f.cT p i j) hj
  refine ⟨r3 ++ (r2 ++ r1), ?_⟩
  rw [CF.all, CF.pT, h1, CF.iT, h2, CF.jT, h3]
  simp [CF.pT, CF.iT, CF.jT]
theorem uT_succ (p i j q t u : Nat) : f.uT p i j q t (u + 1) = f.uT p i j q t u ++ [f.tri p i j q t u] := fm_succ _ _
theorem tT_succ (p i j q t : Nat) : f.tT p i j q (t + 1) = f.tT p i j q t ++ f.uT p i j q t f.L := fm_succ _ _
theorem qT_succ (p i j q : Nat) : f.qT p i j (q + 1) = f.qT p i j q ++ f.tT p i j q f.K := fm_succ _ _
theorem jT_succ (p i j : Nat) : f.jT p i (j + 1) = f.jT p i j ++ f.cT p i j := fm_succ _ _
theorem iT_succ (p i : Nat) : f.iT p (i + 1) = f.iT p i ++ f.jT p i f.N := fm_succ _ _
theorem pT_succ (p : Nat) : f.pT (p + 1) = f.pT p ++ f.iT p f.M := fm_succ _ _
theorem all_len : f.all.length = f.O * (f.M * (f.N * (f.C * (f.K * f.L)))) := by
  refine fm_len _ _ (fun p => fm_len _ _ (fun i => fm_len _ _ (fun j => ?_) _) _) _
  refine fm_len _ _ (fun q => fm_len _ _ (fun t => ?_) _) _
  rw [CF.uT, fm_len _ 1 (fun _ => rfl), Nat.mul_one]
end
/-- The windows fit. -/
structure CFok (f : CF) : Prop where
  h : ∀ i, i < f.M → i * f.S + f.K ≤ f.H
  w : ∀ j, j < f.N → j * f.S + f.L ≤ f.W
  ow : f.O * (f.C * (f.K * f.L)) ≤ 65536
  ox : f.C * (f.H * f.W) ≤ 65536
  oy : f.O * (f.M * f.N) ≤ 65536
  o1 : 1 ≤ f.O
  c1 : 1 ≤ f.C
  k1 : 1 ≤ f.K
  l1 : 1 ≤ f.L
  m1 : 1 ≤ f.M
  n1 : 1 ≤ f.N
  s2 : f.S ≤ 1024
section
variable {f : CF} {p i j q t u : Nat}
theorem lex_lt {a b A B : Nat} (ha : a < A) (hb : b < B) : a * B + b < A * B := by
  have : (a + 1) * B ≤ A * B := Nat.mul_le_mul_right _ ha
  rw [Nat.succ_mul] at this
  omega
theorem place_lt (hp : p < f.O) (hi : i < f.M) (hj : j < f.N) : f.place p i j < f.O * (f.M * f.N) := by
  rw [← Nat.mul_assoc]
  exact lex_lt (lex_lt hp hi) hj
theorem wt_lt (hp : p < f.O) (hq : q < f.C) (ht : t < f.K) (hu : u < f.L) : f.wt p q t u < f.O * (f.C * (f.K * f.L)) := by
  have h1 := lex_lt ht hu
  have h2 := lex_lt (lex_lt hp hq) h1
  rw [← Nat.mul_assoc]
  unfold CF.wt
  omega
theorem frm_lt (hf : CFok f) (hi : i < f.M) (hj : j < f.N) (hq : q < f.C) (ht : t < f.K) (hu : u < f.L) : f.frm i j q t u < f.C * (f.H * f.W) := by
  have h1 := hf.h i hi
  have h2 := hf.w j hj
  have h3 : (i * f.S + t) * f.W + (j * f.S + u) < f.H * f.W := lex_lt (by omega) (by omega)
  have h4 := lex_lt hq h3
  rw [Nat.add_mul] at h4
  unfold CF.frm
  omega
theorem mem_fm {α : Type} {g : Nat → List α} {n : Nat} {x : α} (h : x ∈ (List.range n).flatMap g) : ∃ k, k < n ∧ x ∈ g k := by
  obtain ⟨k, hk, hx⟩ := List.mem_flatMap.1 h
  exact ⟨k, List.mem_range.1 hk, hx⟩
theorem mem_all {x : Tri} (h : x ∈ f.all) : ∃ p i j q t u, p < f.O ∧ i < f.M ∧ j < f.N ∧ q < f.C ∧ t < f.K ∧ u < f.L ∧ x = f.tri p i j q t u := by
  obtain ⟨p, hp, h⟩ := mem_fm h
  obtain ⟨i, hi, h⟩ := mem_fm h
  obtain ⟨j, hj, h⟩ := mem_fm h
  obtain ⟨q, hq, h⟩ := mem_fm h
  obtain ⟨t, ht, h⟩ := mem_fm h
  obtain ⟨u, hu, h⟩ := mem_fm h
  exact ⟨p, i, j, q, t, u, hp, hi, hj, hq, ht, hu, by simpa using h⟩
theorem all_lt (hf : CFok f) {x : Tri} (h : x ∈ f.all) : x.1 < f.O * (f.M * f.N) ∧ x.2.1 < f.O * (f.C * (f.K * f.L)) ∧ x.2.2 < f.C * (f.H * f.W) := by
  obtain ⟨p, i, j, q, t, u, hp, hi, hj, hq, ht, hu, rfl⟩ := mem_all h
  exact ⟨place_lt hp hi hj, wt_lt hp hq ht hu, frm_lt hf hi hj hq ht hu⟩
end

end Go.Proofs.Yteibgdcieaiaiaa
