/- Plain law: the parts of what comes back, joined again, are it. -/
import Derived.Test.YtingmabmglpmaaaMoveMath2
import Derived.Test.YtingmabmglpmaaaMoveBack
namespace Go.Proofs.Ytingmabmglpmaaa

section
variable {nn P I Z : Nat} {us ps : List Tn} {xg : List Int} {S : List Int} {side : Int}
theorem cutCells_block {row lo len i j : Nat} {xs : List Int} (h : i * row ≤ xs.length) (hl : lo + len ≤ row) (hj : j < i) : ((cutCells row lo len xs i).drop (j * len)).take len = (xs.drop (j * row + lo)).take len := by
  induction i with
  | zero => omega
  | succ i ih =>
    have e : (i + 1) * row = i * row + row := Nat.succ_mul i row
    have hc : (cutCells row lo len xs i).length = i * len := cutCells_length (by omega) hl
    rw [cutCells_succ]
    by_cases hji : j < i
    · have h1 : (j + 1) * len ≤ i * len := Nat.mul_le_mul_right _ hji
      rw [Nat.succ_mul] at h1
      rw [List.drop_append_of_le_length (by omega), List.take_append_of_le_length (by simp; omega), ih (by omega) hji]
    · obtain rfl : j = i := by omega
      rw [List.drop_append, List.drop_of_length_le (by omega), hc, Nat.sub_self, List.drop_zero, List.nil_append, List.take_of_length_le (by simp; omega)]
theorem jd_congr : ∀ {l l' : List Tn} {s : List Int}, l.length = l'.length → (∀ (j : Nat) (p t : Tn), l[j]? = some p → l'[j]? = some t → p.zs = t.zs ∧ tRightB p.zs p.xs = true ∧ tRightB t.zs t.xs = true) → jdE side s l = jdE side s l' ∧ jdS side s l = jdS side s l'
  | [], [], _, _, _ => ⟨rfl, rfl⟩
  | p :: l, t :: l', s, hl, h => by
    obtain ⟨e, r1, r2⟩ := h 0 p t rfl rfl
    have ih := fun s => jd_congr (l := l) (l' := l') (s := s) (by simpa using hl) fun j a b ha hb => h (j + 1) a b (by simpa using ha) (by simpa using hb)
    rw [e] at r1
    simp only [jdE, jdS, r1, r2, if_true, e]
    exact ⟨by rw [(ih (joinV s t.zs side)).1], (ih _).2⟩
  | [], _ :: _, _, hl, _ => by simp at hl
  | _ :: _, [], _, hl, _ => by simp at hl
theorem jn_congr {l l' : List Tn} (hl : l.length = l'.length) (h : ∀ (j : Nat) (p t : Tn), l[j]? = some p → l'[j]? = some t → p.zs = t.zs ∧ tRightB p.zs p.xs = true ∧ tRightB t.zs t.xs = true) : jnE side l = jnE side l' ∧ jnS side l = jnS side l' := by
  cases l with
  | nil => cases l' with
    | nil => exact ⟨rfl, rfl⟩
    | cons t l' => simp at hl
  | cons p l => cases l' with
    | nil => simp at hl
    | cons t l' =>
      obtain ⟨e, r1, r2⟩ := h 0 p t rfl rfl
      obtain ⟨h1, h2⟩ := jd_congr (side := side) (l := l) (l' := l') (s := p.zs) (by simpa using hl) fun j a b ha hb => h (j + 1) a b (by simpa using ha) (by simpa using hb)
      have he : l.isEmpty = l'.isEmpty := by
        cases l <;> cases l' <;> simp at hl <;> rfl
      rw [jnE_cons, jnE_cons, r1, r2, he, ← e, h1]
      exact ⟨rfl, by show jdS side p.zs l = jdS side t.zs l'; rw [h2, e]⟩
/-- All that joining the parts asks. -/
theorem PSpec.again (h : PSpec nn P I Z us xg ps) (hl : ps.length = us.length) (hE : jnE nn us = 0) (hjw : JW nn P I Z S) (hS : S = jnS nn us) (hr : tRightB S xg = true)
    (hall : ∀ t ∈ us, tRightB t.zs t.xs = true ∧ JW nn P I (zN nn t) t.zs ∧ S.set nn (zN nn t : Int) = t.zs) (hF : fromN nn us us.length = Z) :
    jnE nn ps = 0 ∧ jnS nn ps = S ∧ mvX P ps P = xg ∧ P * rowS P ps ≤ 65536 ∧ ∀ t ∈ ps, P * (t.xs.length / P) = t.xs.length ∧ t.xs.length ≤ 65536 := by
  have hxg := hjw.cells hr
  have el : ∀ (j : Nat) (p : Tn), ps[j]? = some p → ∃ t, us[j]? = some t ∧ p.zs = t.zs ∧ p.xs = cutCells (Z * I) (fromN nn us j * I) (zN nn t * I) xg P ∧ JW nn P I (zN nn t) t.zs ∧ tRightB t.zs t.xs = true ∧ fromN nn us j + zN nn t ≤ Z ∧ p.xs.length = P * (zN nn t * I) := by
    intro j p hp
    have hj := (List.getElem?_eq_some_iff.1 hp).1
    obtain ⟨t, ht⟩ : ∃ t, us[j]? = some t := ⟨_, List.getElem?_eq_getElem (by omega)⟩
    obtain ⟨a, b⟩ := h.el j p t hp ht
    obtain ⟨c, d, _⟩ := hall t (List.mem_of_getElem? ht)
    have hf := fromN_le (n := nn) us (j + 1)
    rw [fromN_succ ht, hF] at hf
    refine ⟨t, ht, a, b, d, c, hf, ?_⟩
    rw [b, cutCells_length (by omega) (by rw [← Nat.add_mul]; exact Nat.mul_le_mul_right _ hf)]
  have rt : ∀ (j : Nat) (p : Tn), ps[j]? = some p → tRightB p.zs p.xs = true := by
    intro j p hp
    obtain ⟨t, _, a, _, d, c, _, e⟩ := el j p hp
    rw [tRightB_iff, a, e, d.prod]
    exact ⟨d.right, rfl⟩
  have hdiv : ∀ t ∈ ps, P * (t.xs.length / P) = t.xs.length ∧ t.xs.length ≤ 65536 := by
    intro p hp
    obtain ⟨j, hj⟩ := List.mem_iff_getElem?.1 hp
    obtain ⟨t, _, a, _, d, c, _, e⟩ := el j p hj
    have := (a ▸ d : JW nn P I (zN nn t) p.zs).div (rt j p hj)
    exact this
  obtain ⟨g1, g2⟩ := jn_congr (side := nn) hl fun j p t hp ht => by
    obtain ⟨t', ht', a, _, _, c, _⟩ := el j p hp
    rw [ht] at ht'; injection ht' with ht'; subst ht'
    exact ⟨a, rt j p hp, c⟩
  have part : ∀ j, j < P → ∀ m, m ≤ ps.length → mvPart P j ps m = (xg.drop (j * (Z * I))).take (fromN nn us m * I) := by
    intro j hj m
    induction m with
    | zero => intro _; simp [mvPart, fromN]
    | succ m ih =>
      intro hm
      obtain ⟨p, hp⟩ : ∃ p, ps[m]? = some p := ⟨_, List.getElem?_eq_getElem (by omega)⟩
      obtain ⟨t, ht, a, b, d, c, hf, e⟩ := el m p hp
      have hq : p.xs.length / P = zN nn t * I := by rw [e, Nat.mul_div_cancel_left _ (by have := hjw.p1; omega)]
      rw [mvPart_succ hp, ih (by omega), mvRow, hq, b, cutCells_block (by omega) (by rw [← Nat.add_mul]; exact Nat.mul_le_mul_right _ hf) hj, fromN_succ ht, Nat.add_mul, List.take_add, List.drop_drop]
  have all : ∀ i, i ≤ P → mvX P ps i = xg.take (i * (Z * I)) := by
    intro i
    induction i with
    | zero => intro _; simp [mvX]
    | succ i ih =>
      intro hi
      rw [mvX_succ, ih (by omega), part i (by omega) _ (Nat.le_refl _), hl, hF, Nat.succ_mul, List.take_add]
  have hmv : mvX P ps P = xg := by rw [all P (Nat.le_refl _), ← hxg, List.take_of_length_le (Nat.le_refl _)]
  refine ⟨by rw [g1, hE], by rw [g2, ← hS], hmv, ?_, hdiv⟩
  have := mvX_length (ts := ps) (fun t ht => (hdiv t ht).1) (Nat.le_refl P)
  rw [hmv, hxg] at this
  rw [← this]
  exact hjw.small
end

end Go.Proofs.Ytingmabmglpmaaa
