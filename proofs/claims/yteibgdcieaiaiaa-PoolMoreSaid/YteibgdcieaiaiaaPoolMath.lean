/- Plain law: the greatest of a list, and the first place where it stands. -/
namespace Go.Proofs.Yteibgdcieaiaiaa

/-- The place of the first greatest among the first k. -/
def bestTo (l : List Int) : Nat → Int
  | 0 => -1
  | k + 1 => if bestTo l k < 0 ∨ l.getD (bestTo l k).toNat 0 < l.getD k 0 then (k : Int) else bestTo l k
def bestI (l : List Int) : Int := bestTo l l.length
theorem bestTo_spec {l : List Int} : ∀ {k : Nat}, 0 < k → ∃ b : Nat, bestTo l k = (b : Int) ∧ b < k ∧ (∀ i, i < k → l.getD i 0 ≤ l.getD b 0) ∧ ∀ i, i < b → l.getD i 0 < l.getD b 0
  | 0, h => absurd h (by omega)
  | k + 1, _ => by
    unfold bestTo
    by_cases hk : k = 0
    · subst hk
      refine ⟨0, by simp [bestTo], by omega, fun i hi => ?_, fun i hi => by omega⟩
      obtain rfl : i = 0 := by omega
      exact Int.le_refl _
    · obtain ⟨b, e, hb, h1, h2⟩ := bestTo_spec (l := l) (k := k) (by omega)
      rw [e]
      simp only [Int.toNat_natCast]
      split
      · rename_i hc
        have hc : l.getD b 0 < l.getD k 0 := by
          rcases hc with hc | hc
          · omega
          · exact hc
        refine ⟨k, rfl, by omega, fun i hi => ?_, fun i hi => ?_⟩
        · by_cases hik : i = k
          · subst hik; exact Int.le_refl _
          · have := h1 i (by omega); omega
        · have := h1 i (by omega); omega
      · rename_i hc
        have hc : ¬ l.getD b 0 < l.getD k 0 := fun h => hc (.inr h)
        refine ⟨b, rfl, by omega, fun i hi => ?_, h2⟩
        by_cases hik : i = k
        · subst hik; omega
        · exact h1 i (by omega)
/-- The greatest. -/
def mxL : List Int → Int
  | [] => 0
  | x :: l => l.foldl max x
theorem foldl_max_spec (l : List Int) : ∀ x : Int, (l.foldl max x = x ∨ l.foldl max x ∈ l) ∧ x ≤ l.foldl max x ∧ ∀ y ∈ l, y ≤ l.foldl max x := by
  induction l with
  | nil => intro x; exact ⟨.inl rfl, Int.le_refl _, fun y hy => by cases hy⟩
  | cons a l ih =>
    intro x
    obtain ⟨h1, h2, h3⟩ := ih (max x a)
    simp only [List.foldl_cons]
    refine ⟨?_, by omega, fun y hy => ?_⟩
    · rcases h1 with h1 | h1
      · rcases Int.le_total x a with h | h
        · right; rw [h1]; rw [show max x a = a from by omega]; exact List.mem_cons_self
        · left; rw [h1]; omega
      · exact .inr (List.mem_cons_of_mem _ h1)
    · rcases List.mem_cons.1 hy with rfl | hy
      · omega
      · exact h3 y hy
theorem mxL_spec {l : List Int} (h : l ≠ []) : mxL l ∈ l ∧ ∀ y ∈ l, y ≤ mxL l := by
  cases l with
  | nil => exact absurd rfl h
  | cons x l =>
    obtain ⟨h1, h2, h3⟩ := foldl_max_spec l x
    refine ⟨?_, fun y hy => ?_⟩
    · rcases h1 with h1 | h1
      · show l.foldl max x ∈ x :: l; rw [h1]; exact List.mem_cons_self
      · exact List.mem_cons_of_mem _ h1
    · rcases List.mem_cons.1 hy with rfl | hy
      · exact h2
      · exact h3 y hy
theorem mxL_uniq {l : List Int} {m : Int} (h1 : m ∈ l) (h2 : ∀ y ∈ l, y ≤ m) : m = mxL l := by
  have hne : l ≠ [] := by rintro rfl; cases h1
  obtain ⟨g1, g2⟩ := mxL_spec hne
  have := h2 _ g1
  have := g2 _ h1
  omega
theorem bestI_mxL {l : List Int} (h : l ≠ []) : ∃ b : Nat, bestI l = (b : Int) ∧ b < l.length ∧ l[b]? = some (mxL l) := by
  obtain ⟨b, e, hb, h1, -⟩ := bestTo_spec (l := l) (k := l.length) (List.length_pos_iff.2 h)
  refine ⟨b, e, hb, ?_⟩
  have g : l.getD b 0 = l[b] := by simp [List.getD_eq_getElem?_getD, hb]
  have : l[b] = mxL l := mxL_uniq (List.getElem_mem hb) fun y hy => by
    obtain ⟨i, hi, rfl⟩ := List.mem_iff_getElem.1 hy
    have := h1 i hi
    rw [g] at this
    simpa [List.getD_eq_getElem?_getD, hi] using this
  rw [List.getElem?_eq_getElem hb, this]
theorem mxL_snoc {l : List Int} {x : Int} (h : l ≠ []) : mxL (l ++ [x]) = max (mxL l) x := by
  cases l with
  | nil => exact absurd rfl h
  | cons y l => simp [mxL, List.foldl_append]


/-- All windows, one behind the other; row by row. -/
def poolL (v : List Int → Int) (xs : List Int) (Z n step W m : Nat) : List Int := (List.range m).map fun i => v ((xs.drop (i / n * Z + i % n * step)).take W)
def poolRow (v : List Int → Int) (xs : List Int) (Z n step W r : Nat) : List Int := (List.range n).map fun j => v ((xs.drop (r * Z + j * step)).take W)
def poolR (v : List Int → Int) (xs : List Int) (Z n step W R : Nat) : List Int := (List.range R).flatMap fun r => poolRow v xs Z n step W r
theorem poolL_length (v : List Int → Int) (xs : List Int) (Z n step W m : Nat) : (poolL v xs Z n step W m).length = m := by simp [poolL]
theorem poolL_succ (v : List Int → Int) (xs : List Int) (Z n step W m : Nat) : poolL v xs Z n step W (m + 1) = poolL v xs Z n step W m ++ [v ((xs.drop (m / n * Z + m % n * step)).take W)] := by simp [poolL, List.range_succ]
theorem poolR_succ (v : List Int → Int) (xs : List Int) (Z n step W R : Nat) : poolR v xs Z n step W (R + 1) = poolR v xs Z n step W R ++ poolRow v xs Z n step W R := by simp [poolR, List.range_succ]
theorem poolL_rows {v : List Int → Int} {xs : List Int} {Z n step W : Nat} (hn : 0 < n) : ∀ R, poolL v xs Z n step W (R * n) = poolR v xs Z n step W R
  | 0 => by simp [poolL, poolR]
  | R + 1 => by
    rw [poolR_succ, ← poolL_rows hn R, Nat.succ_mul, poolL, List.range_add, List.map_append, List.map_map, poolL, poolRow]
    congr 1
    refine List.map_congr_left fun j hj => ?_
    have hj' := List.mem_range.1 hj
    simp only [Function.comp]
    rw [Nat.mul_comm R n, Nat.mul_add_div hn, Nat.mul_add_mod, Nat.div_eq_of_lt hj', Nat.mod_eq_of_lt hj', Nat.add_zero]
/-- A window of a row is a window of all. -/
theorem win_row {xs : List Int} {r Z a W : Nat} (h : a + W ≤ Z) : ((((xs.drop (r * Z)).take Z).drop a).take W) = (xs.drop (r * Z + a)).take W := by
  rw [List.drop_take, List.take_take, Nat.min_eq_left (by omega), List.drop_drop]

end Go.Proofs.Yteibgdcieaiaiaa
