/- Plain law: many tensors joined one behind the other, as two and two are. -/
import Derived.Test.YtphcffcecncngaaTens
import Derived.Test.YtphcffcecncngaaJoinMath
import Derived.Test.YtphcffcecncngaaTJoin
import Derived.Test.YtphcffcecncngaaSides
namespace Go.Proofs.Ytphcffcecncngaa

/-- The error, and the shape, of a join of s and the rest l. -/
def jdE (side : Int) : List Int → List Tn → Int
  | _, [] => 0
  | s, t :: l => if tRightB t.zs t.xs then (if joinE s t.zs side = 0 then jdE side (joinV s t.zs side) l else joinE s t.zs side) else 20
def jdS (side : Int) : List Int → List Tn → List Int
  | s, [] => s
  | s, t :: l => jdS side (joinV s t.zs side) l
def jnE (side : Int) : List Tn → Int
  | [] => 20
  | t :: l => if tRightB t.zs t.xs then (if l.isEmpty && !(decide (0 ≤ side) && decide (side < t.zs.length)) then 11 else jdE side t.zs l) else 20
theorem jnE_cons (side : Int) (t : Tn) (l : List Tn) : jnE side (t :: l) = if tRightB t.zs t.xs then (if l.isEmpty && !(decide (0 ≤ side) && decide (side < t.zs.length)) then 11 else jdE side t.zs l) else 20 := rfl
def jnS (side : Int) : List Tn → List Int
  | [] => []
  | t :: l => jdS side t.zs l

section
variable {n P I Z Z' : Nat} {s s' : List Int} {side : Int} {t : Tn} {l : List Tn}
/-- One step. -/
theorem JW.step (h : JW n P I Z s) (hs : side = (n : Int)) (hj : joinE s t.zs side = 0) : ∃ Z2, JW n P I Z2 t.zs ∧ JW n P I (Z + Z2) (joinV s t.zs side) ∧ joinV s t.zs side = s.set n ((Z : Int) + Z2) ∧ s.set n (Z2 : Int) = t.zs := by
  obtain ⟨n', P', Z1, Z2, I', e, r1, r2, hl, hn, g1, g2, z1, z2, p1, i1, eP, eI, eP', eI', -, -, ej, -, rj, es⟩ := join_nats hj
  obtain rfl : n = n' := by omega
  have a1 := h.ahead
  have a2 := h.behind
  have a3 := h.at_
  rw [eP] at a1; rw [eI] at a2; rw [g1] at a3
  obtain rfl : P' = P := by omega
  obtain rfl : I' = I := by omega
  obtain rfl : Z1 = Z := by injection a3 with a3; omega
  have ev : joinV s t.zs side = s.set n ((Z1 : Int) + Z2) := by rw [joinV, if_pos hj, hs, Int.toNat_natCast, ej]
  refine ⟨Z2, ⟨r2, by omega, g2, eP', eI', p1, i1, z2⟩, ?_, ev, es⟩
  rw [ev]
  exact ⟨rj, by simp; omega, by rw [List.getElem?_set_self hn]; simp, by rw [List.take_set_of_le (Nat.le_refl _)]; exact eP, by rw [List.drop_set_of_lt (by omega)]; exact eI, p1, i1, by omega⟩
/-- How many cells the rows of all have together. -/
def rowS (P : Nat) (l : List Tn) : Nat := (l.map fun t => t.xs.length / P).sum
theorem JW.row {xs : List Int} (h : JW n P I Z s) (hr : tRightB s xs = true) : xs.length / P = Z * I := by
  rw [h.cells hr, Nat.mul_div_cancel_left _ (by have := h.p1; omega)]
theorem set_same {s : List Int} {n : Nat} {z : Int} (h : s[n]? = some z) : s.set n z = s := by
  apply List.ext_getElem?
  intro i
  by_cases hi : i = n
  · subst hi; rw [List.getElem?_set_self (List.getElem?_eq_some_iff.1 h).1, h]
  · rw [List.getElem?_set_ne (by omega)]
/-- What a join that is not refused is made of. -/
theorem JW.all (hs : side = (n : Int)) : ∀ {l : List Tn} {Z : Nat} {s : List Int}, JW n P I Z s → jdE side s l = 0 → (∃ Z' : Nat, JW n P I Z' (jdS side s l) ∧ Z' * I = Z * I + rowS P l ∧ jdS side s l = s.set n (Z' : Int)) ∧ ∀ t ∈ l, tRightB t.zs t.xs = true ∧ ∃ Zt : Nat, JW n P I Zt t.zs ∧ s.set n (Zt : Int) = t.zs
  | [], Z, s, h, _ => ⟨⟨Z, h, by simp [rowS], (set_same h.at_).symm⟩, fun t ht => by cases ht⟩
  | t :: l, Z, s, h, he => by
    unfold jdE at he
    split at he
    · rename_i hr
      split at he
      · rename_i hj
        obtain ⟨Z2, w2, w, ev, es⟩ := h.step hs hj
        obtain ⟨⟨Z', h1, h3, h4⟩, h2⟩ := JW.all hs w he
        refine ⟨⟨Z', h1, ?_, ?_⟩, fun u hu => ?_⟩
        · rw [h3, Nat.add_mul, rowS, rowS, List.map_cons, List.sum_cons, w2.row hr]; omega
        · show jdS side (joinV s t.zs side) l = _
          rw [h4, ev, List.set_set]
        · rcases List.mem_cons.1 hu with rfl | hu
          · exact ⟨hr, Z2, w2, es⟩
          · obtain ⟨a, Zu, b, c⟩ := h2 u hu
            rw [ev, List.set_set] at c
            exact ⟨a, Zu, b, c⟩
      · rename_i hj; exact absurd he hj
    · omega
/-- The side of t. -/
def zN (n : Nat) (t : Tn) : Nat := (t.zs.getD n 0).toNat
theorem JW.zN {t : Tn} (h : JW n P I Z t.zs) : zN n t = Z := by
  unfold Go.Proofs.Ytphcffcecncngaa.zN
  rw [List.getD_eq_getElem?_getD, h.at_]; simp
/-- Where the k-th tensor begins. -/
def fromN (n : Nat) (ts : List Tn) (k : Nat) : Nat := ((ts.take k).map (zN n)).sum
theorem fromN_succ {ts : List Tn} {k : Nat} {t : Tn} (h : ts[k]? = some t) : fromN n ts (k + 1) = fromN n ts k + zN n t := by
  rw [fromN, take_at h]; simp [fromN]
theorem fromN_le (ts : List Tn) (k : Nat) : fromN n ts k ≤ fromN n ts ts.length := by
  have e : fromN n ts ts.length = fromN n ts k + ((ts.drop k).map (Go.Proofs.Ytphcffcecncngaa.zN n)).sum := by
    unfold fromN; rw [List.take_of_length_le (Nat.le_refl _), ← List.sum_append, ← List.map_append, List.take_append_drop]
  omega
theorem rowS_from {ts : List Tn} (h : ∀ t ∈ ts, tRightB t.zs t.xs = true ∧ ∃ Zt : Nat, JW n P I Zt t.zs) : rowS P ts = fromN n ts ts.length * I := by
  unfold fromN
  rw [List.take_of_length_le (Nat.le_refl _)]
  induction ts with
  | nil => simp [rowS]
  | cons t l ih =>
    obtain ⟨hr, Zt, hw⟩ := h t List.mem_cons_self
    have := ih fun u hu => h u (List.mem_cons_of_mem _ hu)
    rw [rowS, List.map_cons, List.sum_cons, List.map_cons, List.sum_cons, hw.row hr, hw.zN, Nat.add_mul]
    rw [rowS] at this
    omega
/-- A join of several that is not refused. -/
theorem jn_nats {ts : List Tn} (h : jnE side ts = 0) : ∃ n P I Z : Nat, side = (n : Int) ∧ JW n P I Z (jnS side ts) ∧ 0 < ts.length ∧ (∀ t ∈ ts, tRightB t.zs t.xs = true ∧ JW n P I (zN n t) t.zs ∧ (jnS side ts).set n (zN n t : Int) = t.zs) ∧ Z * I = rowS P ts ∧ fromN n ts ts.length = Z := by
  cases ts with
  | nil => simp [jnE] at h
  | cons t l =>
    rw [jnE_cons] at h
    split at h
    · rename_i hr
      have hrz := ((tRightB_iff _ _).1 hr).1
      split at h
      · omega
      · rename_i hc
        have : ∃ n : Nat, side = (n : Int) ∧ n < t.zs.length := by
          cases l with
          | nil =>
            simp at hc
            exact ⟨side.toNat, by omega, by omega⟩
          | cons u l =>
            unfold jdE at h
            split at h
            · split at h
              · rename_i hj
                obtain ⟨n', _, _, _, _, e, _, _, _, hn, _⟩ := join_nats hj
                exact ⟨n', e, hn⟩
              · rename_i hj; exact absurd h hj
            · omega
        obtain ⟨n, hs, hn⟩ := this
        obtain ⟨P, I, Z, hw⟩ := JW.of hrz hn
        obtain ⟨⟨Z', h1, h3, h4⟩, h2⟩ := hw.all hs h
        have hall : ∀ u ∈ t :: l, tRightB u.zs u.xs = true ∧ JW n P I (zN n u) u.zs ∧ (jnS side (t :: l)).set n (zN n u : Int) = u.zs := fun u hu => by
          rcases List.mem_cons.1 hu with rfl | hu
          · exact ⟨hr, by rw [hw.zN]; exact hw, by show (jdS side u.zs l).set n _ = _; rw [h4, List.set_set, hw.zN, set_same hw.at_]⟩
          · obtain ⟨a, Zu, b, c⟩ := h2 u hu
            exact ⟨a, by rw [b.zN]; exact b, by show (jdS side t.zs l).set n _ = _; rw [h4, List.set_set, b.zN, c]⟩
        have e1 : Z' * I = rowS P (t :: l) := by rw [h3, rowS, rowS, List.map_cons, List.sum_cons, hw.row hr]
        refine ⟨n, P, I, Z', hs, h1, by simp, hall, e1, ?_⟩
        rw [rowS_from fun u hu => ⟨(hall u hu).1, _, (hall u hu).2.1⟩] at e1
        exact (Nat.eq_of_mul_eq_mul_right hw.i1 e1).symm
    · omega
theorem rowS_take (P : Nat) (l : List Tn) (m : Nat) : rowS P (l.take m) ≤ rowS P l := by
  have e : rowS P l = rowS P (l.take m) + rowS P (l.drop m) := by unfold rowS; rw [← List.sum_append, ← List.map_append, List.take_append_drop]
  omega
end

/-- Row i of a list of P rows. -/
def mvRow (P i : Nat) (xs : List Int) : List Int := (xs.drop (i * (xs.length / P))).take (xs.length / P)
/-- The first m parts of row i of all lists; the first i rows. -/
def mvPart (P i : Nat) (ts : List Tn) (m : Nat) : List Int := (ts.take m).flatMap fun t => mvRow P i t.xs
def mvX (P : Nat) (ts : List Tn) (i : Nat) : List Int := (List.range i).flatMap fun j => mvPart P j ts ts.length
theorem mvX_succ (P : Nat) (ts : List Tn) (i : Nat) : mvX P ts (i + 1) = mvX P ts i ++ mvPart P i ts ts.length := by simp [mvX, List.range_succ]
theorem mvPart_succ {P i m : Nat} {ts : List Tn} {t : Tn} (h : ts[m]? = some t) : mvPart P i ts (m + 1) = mvPart P i ts m ++ mvRow P i t.xs := by
  rw [mvPart, take_at h]; simp [mvPart]
theorem mvRow_len (P i : Nat) (xs : List Int) : (mvRow P i xs).length ≤ xs.length / P := by simp [mvRow]; omega
theorem mvPart_len (P i : Nat) (ts : List Tn) (m : Nat) : (mvPart P i ts m).length ≤ rowS P ts := by
  refine Nat.le_trans ?_ (rowS_take P ts m)
  unfold mvPart rowS
  induction ts.take m with
  | nil => simp
  | cons t l ih =>
    simp only [List.flatMap_cons, List.length_append, List.map_cons, List.sum_cons]
    have := mvRow_len P i t.xs
    omega
theorem mvX_len (P : Nat) (ts : List Tn) (i : Nat) : (mvX P ts i).length ≤ i * rowS P ts := by
  induction i with
  | zero => simp [mvX]
  | succ i ih =>
    rw [mvX_succ, List.length_append, Nat.succ_mul]
    have := mvPart_len P i ts ts.length
    omega
theorem mvRow_mem {P i : Nat} {xs : List Int} {z : Int} (h : z ∈ mvRow P i xs) : z ∈ xs := List.mem_of_mem_drop (List.mem_of_mem_take h)
theorem mvX_mem {P i : Nat} {ts : List Tn} {z : Int} (h : z ∈ mvX P ts i) : ∃ t ∈ ts, z ∈ t.xs := by
  simp only [mvX, mvPart, List.mem_flatMap] at h
  obtain ⟨_, _, t, ht, hz⟩ := h
  exact ⟨t, List.mem_of_mem_take ht, mvRow_mem hz⟩

end Go.Proofs.Ytphcffcecncngaa
