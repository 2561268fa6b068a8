/- Plain facts on shapes: products of sides, and which sides are a shape. No program in sight. -/
namespace Go.Proofs.Ytphcffcecncngaa

/-- The product of all sides, from the first one on. -/
def prodL (zs : List Int) : Int := zs.foldl (· * ·) 1
/-- All sides are within the bounds. -/
def inSides (zs : List Int) : Bool := zs.all fun z => decide (1 ≤ z) && decide (z ≤ 1024)
/-- Which sides are a shape. -/
def rightB (zs : List Int) : Bool := decide (1 ≤ zs.length) && decide (zs.length ≤ 4) && inSides zs && decide (prodL zs ≤ 65536)

theorem prodL_snoc (l : List Int) (z : Int) : prodL (l ++ [z]) = prodL l * z := by simp [prodL]
theorem take_at {α : Type} {l : List α} {k : Nat} {z : α} (h : l[k]? = some z) : l.take (k + 1) = l.take k ++ [z] := by
  obtain ⟨hk, rfl⟩ := List.getElem?_eq_some_iff.1 h
  exact List.take_succ_eq_append_getElem hk
theorem inSides_snoc (l : List Int) (z : Int) : inSides (l ++ [z]) = (inSides l && (decide (1 ≤ z) && decide (z ≤ 1024))) := by simp [inSides]
theorem inSides_mem {l : List Int} (h : inSides l = true) {z : Int} (hz : z ∈ l) : 1 ≤ z ∧ z ≤ 1024 := by
  have := List.all_eq_true.1 h z hz
  simpa using this
theorem inSides_get {l : List Int} (h : inSides l = true) {k : Nat} {z : Int} (hk : l[k]? = some z) : 1 ≤ z ∧ z ≤ 1024 :=
  inSides_mem h (List.mem_of_getElem? hk)
theorem inSides_take {l : List Int} (h : inSides l = true) (k : Nat) : inSides (l.take k) = true :=
  List.all_eq_true.2 fun z hz => List.all_eq_true.1 h z (List.mem_of_mem_take hz)
theorem inSides_false {l : List Int} {k : Nat} {z : Int} (hk : l[k]? = some z) (h : ¬ (1 ≤ z ∧ z ≤ 1024)) : inSides l = false := by
  rcases hb : inSides l with _ | _
  · rfl
  · exact absurd (inSides_get hb hk) h
theorem rightB_sides {l : List Int} (h : inSides l = false) : rightB l = false := by simp [rightB, h]
theorem rightB_len {l : List Int} (h : ¬ (1 ≤ l.length ∧ l.length ≤ 4)) : rightB l = false := by
  simp [rightB]; omega
theorem rightB_prod {l : List Int} (h1 : 1 ≤ l.length) (h4 : l.length ≤ 4) (h : inSides l = true) : rightB l = decide (prodL l ≤ 65536) := by simp [rightB, h1, h4, h]
theorem mul_le_1024 {a b c : Int} (ha : 1 ≤ a) (hac : a ≤ c) (hb : 1 ≤ b) (hb2 : b ≤ 1024) : 1 ≤ a * b ∧ a * b ≤ c * 1024 := by
  have h1 : a * b ≤ c * b := Int.mul_le_mul_of_nonneg_right hac (by omega)
  have h2 : c * b ≤ c * 1024 := Int.mul_le_mul_of_nonneg_left hb2 (by omega)
  have h3 : 1 * 1 ≤ a * b := Int.mul_le_mul ha hb (by omega) (by omega)
  omega
theorem prodL_bd (l : List Int) (h : inSides l = true) : 1 ≤ prodL l ∧ prodL l ≤ 1024 ^ l.length := by
  have key : ∀ (m : List Int) (a c : Int), inSides m = true → 1 ≤ a → a ≤ c → 1 ≤ m.foldl (· * ·) a ∧ m.foldl (· * ·) a ≤ c * 1024 ^ m.length := by
    intro m
    induction m with
    | nil => intro a c _ h1 h2; simpa using ⟨h1, h2⟩
    | cons z m ih =>
      intro a c hm h1 h2
      have hz := inSides_mem hm (List.mem_cons_self)
      have hm' : inSides m = true := by simp [inSides] at hm ⊢; exact hm.2
      have hab := mul_le_1024 h1 h2 hz.1 hz.2
      have := ih (a * z) (c * 1024) hm' hab.1 hab.2
      simp only [List.foldl_cons, List.length_cons]
      refine ⟨this.1, ?_⟩
      have e : c * 1024 ^ (m.length + 1) = c * 1024 * 1024 ^ m.length := by
        rw [Int.pow_succ, Int.mul_comm (1024 ^ m.length) 1024, ← Int.mul_assoc]
      rw [e]; exact this.2
  have := key l 1 1 h (by omega) (by omega)
  simpa [prodL] using this
theorem prodL_bd4 (l : List Int) (h : inSides l = true) (h4 : l.length ≤ 4) : 1 ≤ prodL l ∧ prodL l ≤ 1099511627776 := by
  obtain ⟨h1, h2⟩ := prodL_bd l h
  refine ⟨h1, ?_⟩
  have : l.length = 0 ∨ l.length = 1 ∨ l.length = 2 ∨ l.length = 3 ∨ l.length = 4 := by omega
  rcases this with e | e | e | e | e <;> rw [e] at h2 <;> omega
theorem prodL_take_bd (l : List Int) (h : inSides l = true) (h4 : l.length ≤ 4) (k : Nat) : 1 ≤ prodL (l.take k) ∧ prodL (l.take k) ≤ 1099511627776 :=
  prodL_bd4 _ (inSides_take h k) (by simp; omega)
theorem rightB_iff (zs : List Int) : rightB zs = true ↔ 1 ≤ zs.length ∧ zs.length ≤ 4 ∧ inSides zs = true ∧ prodL zs ≤ 65536 := by
  simp [rightB, and_assoc]

/-- All are at least 1: then no prefix has a greater product than the whole. -/
theorem prodL_pos {l : List Int} (h : ∀ z ∈ l, 1 ≤ z) : 1 ≤ prodL l := by
  have key : ∀ (m : List Int) (a : Int), (∀ z ∈ m, 1 ≤ z) → 1 ≤ a → a ≤ m.foldl (· * ·) a := by
    intro m
    induction m with
    | nil => intro a _ _; exact Int.le_refl a
    | cons z m ih =>
      intro a hm ha
      have hz := hm z List.mem_cons_self
      have haz : a * 1 ≤ a * z := Int.mul_le_mul_of_nonneg_left hz (by omega)
      rw [Int.mul_one] at haz
      exact Int.le_trans haz (ih (a * z) (fun y hy => hm y (List.mem_cons_of_mem _ hy)) (by omega))
  exact key l 1 h (Int.le_refl 1)
theorem prodL_append (a b : List Int) : prodL (a ++ b) = prodL a * prodL b := by
  have key : ∀ (m : List Int) (x : Int), m.foldl (· * ·) x = x * m.foldl (· * ·) 1 := by
    intro m
    induction m with
    | nil => intro x; simp
    | cons z m ih => intro x; simp only [List.foldl_cons]; rw [ih (x * z), ih (1 * z)]; simp [Int.mul_assoc]
  simp only [prodL, List.foldl_append]
  rw [key]
theorem prodL_take_le {l : List Int} (h : ∀ z ∈ l, 1 ≤ z) (k : Nat) : prodL (l.take k) ≤ prodL l := by
  have h1 : 1 ≤ prodL (l.take k) := prodL_pos fun z hz => h z (List.mem_of_mem_take hz)
  have h2 : 1 ≤ prodL (l.drop k) := prodL_pos fun z hz => h z (List.mem_of_mem_drop hz)
  have e : prodL l = prodL (l.take k) * prodL (l.drop k) := by rw [← prodL_append, List.take_append_drop]
  rw [e]
  have : prodL (l.take k) * 1 ≤ prodL (l.take k) * prodL (l.drop k) := Int.mul_le_mul_of_nonneg_left h2 (by omega)
  rwa [Int.mul_one] at this

def sizeV (zs : List Int) : Int := if rightB zs then prodL zs else 0
def sizeE (zs : List Int) : Int := if rightB zs then 0 else 20

/-- A place's number, out of pairs of a side and an index. -/
def placeOf (l : List (Int × Int)) : Int := l.foldl (fun p q => p * q.1 + q.2) 0
def inPlace (l : List (Int × Int)) : Bool := l.all fun q => decide (0 ≤ q.2) && decide (q.2 < q.1)
theorem placeOf_snoc (l : List (Int × Int)) (z a : Int) : placeOf (l ++ [(z, a)]) = placeOf l * z + a := by simp [placeOf]
theorem inPlace_snoc (l : List (Int × Int)) (z a : Int) : inPlace (l ++ [(z, a)]) = (inPlace l && (decide (0 ≤ a) && decide (a < z))) := by simp [inPlace]
theorem zip_at {xs ys : List Int} {k : Nat} {x y : Int} (hx : xs[k]? = some x) (hy : ys[k]? = some y) : (xs.zip ys)[k]? = some (x, y) := by
  rw [List.getElem?_zip_eq_some]; exact ⟨hx, hy⟩
/-- The number of a place is below the product of the sides that were met. -/
theorem placeOf_bd (xs ys : List Int) (h : inPlace (xs.zip ys) = true) (k : Nat) (hk : k ≤ xs.length) (hl : xs.length = ys.length) : 0 ≤ placeOf ((xs.zip ys).take k) ∧ placeOf ((xs.zip ys).take k) < prodL (xs.take k) := by
  induction k with
  | zero => simp [placeOf, prodL]
  | succ k ih =>
    have hk' : k < xs.length := by omega
    obtain ⟨i1, i2⟩ := ih (by omega)
    have hx : xs[k]? = some xs[k] := List.getElem?_eq_getElem hk'
    have hy : ys[k]? = some (ys[k]'(by omega)) := List.getElem?_eq_getElem (by omega)
    have hz := zip_at hx hy
    have hm := List.all_eq_true.1 h _ (List.mem_of_getElem? hz)
    simp only [Bool.and_eq_true, decide_eq_true_eq] at hm
    rw [take_at hz, take_at hx, placeOf_snoc, prodL_snoc]
    generalize placeOf ((xs.zip ys).take k) = p at *
    generalize prodL (xs.take k) = q at *
    generalize xs[k] = x at *
    generalize ys[k]'(by omega) = y at *
    have h1 : p * x ≤ (q - 1) * x := Int.mul_le_mul_of_nonneg_right (by omega) (by omega)
    have h2 : 0 ≤ p * x := Int.mul_nonneg i1 (by omega)
    rw [Int.sub_mul, Int.one_mul] at h1
    omega
/-- The indices of a place. -/
def idx : List Int → Int → List Int
  | [], _ => []
  | z :: zs, p => (p / prodL zs) % z :: idx zs p
theorem idx_length (zs : List Int) (p : Int) : (idx zs p).length = zs.length := by induction zs <;> simp_all [idx]
theorem prodL_cons (z : Int) (zs : List Int) : prodL (z :: zs) = z * prodL zs := by
  have := prodL_append [z] zs
  simpa [prodL] using this
theorem drop_at {α : Type} {l : List α} {k : Nat} {z : α} (h : l[k]? = some z) : l.drop k = z :: l.drop (k + 1) := by
  obtain ⟨hk, rfl⟩ := List.getElem?_eq_some_iff.1 h
  exact List.drop_eq_getElem_cons hk
theorem inSides_drop {l : List Int} (h : inSides l = true) (k : Nat) : inSides (l.drop k) = true :=
  List.all_eq_true.2 fun z hz => List.all_eq_true.1 h z (List.mem_of_mem_drop hz)
theorem placeOf_cons (z a : Int) (l : List (Int × Int)) : ∀ p : Int, ((z, a) :: l).foldl (fun p q => p * q.1 + q.2) p = l.foldl (fun p q => p * q.1 + q.2) (p * z + a) := fun _ => rfl
theorem placeOf_acc (zs ats : List Int) (hl : zs.length = ats.length) (p : Int) : (zs.zip ats).foldl (fun p q => p * q.1 + q.2) p = p * prodL zs + placeOf (zs.zip ats) := by
  induction zs generalizing ats p with
  | nil => simp [placeOf, prodL]
  | cons z zs ih =>
    cases ats with
    | nil => simp at hl
    | cons a ats =>
      simp only [List.zip_cons_cons, placeOf, List.foldl_cons] at ih ⊢
      simp only [List.length_cons] at hl
      rw [ih ats (by omega), ih ats (by omega) (0 * z + a), prodL_cons, Int.zero_mul, Int.zero_add, Int.add_mul, Int.mul_assoc, Int.add_assoc]
theorem emod_mul' (p a b : Int) (ha : 0 < a) (hb : 0 < b): p % (a * b) = (p / a) % b * a + p % a := by
  have h1 := Int.emod_add_mul_ediv p a
  have h2 := Int.emod_add_mul_ediv (p / a) b
  have h3 := Int.emod_nonneg p (b := a) (by omega)
  have h4 := Int.emod_lt_of_pos p ha
  have h5 := Int.emod_nonneg (p/a) (b := b) (by omega)
  have h6 := Int.emod_lt_of_pos (p/a) hb
  generalize p % a = r at *
  generalize (p / a) % b = s at *
  generalize p / a / b = t at *
  have e : p = (s * a + r) + a * b * t := by
    rw [← h1, ← h2, Int.mul_add, Int.mul_comm s a, Int.mul_assoc]; omega
  rw [e, Int.add_mul_emod_self_left]
  refine Int.emod_eq_of_lt ?_ ?_
  · have := Int.mul_nonneg h5 (b := a) (by omega); omega
  · have : s * a ≤ (b - 1) * a := Int.mul_le_mul_of_nonneg_right (by omega) (by omega)
    rw [Int.sub_mul, Int.one_mul, Int.mul_comm b a] at this
    omega
/-- A number leads to its place and back. -/
theorem place_idx (zs : List Int) (h : ∀ z ∈ zs, 1 ≤ z) (p : Int) : placeOf (zs.zip (idx zs p)) = p % prodL zs ∧ inPlace (zs.zip (idx zs p)) = true := by
  induction zs with
  | nil =>
    refine ⟨?_, rfl⟩
    simp only [idx, placeOf, prodL, List.zip_nil_left, List.foldl_nil]; omega
  | cons z zs ih =>
    obtain ⟨i1, i2⟩ := ih fun y hy => h y (List.mem_cons_of_mem _ hy)
    have hz := h z List.mem_cons_self
    have hq : 1 ≤ prodL zs := prodL_pos fun y hy => h y (List.mem_cons_of_mem _ hy)
    constructor
    · simp only [idx, List.zip_cons_cons, placeOf, List.foldl_cons]
      rw [placeOf_acc _ _ (by rw [idx_length]), i1, prodL_cons, Int.zero_mul, Int.zero_add]
      rw [Int.mul_comm z (prodL zs), emod_mul' p _ _ (by omega) (by omega)]
    · simp only [idx, List.zip_cons_cons, inPlace, List.all_cons, Bool.and_eq_true, decide_eq_true_eq]
      exact ⟨⟨Int.emod_nonneg _ (by omega), Int.emod_lt_of_pos _ (by omega)⟩, i2⟩
theorem idx_place (zs ats : List Int) (hl : zs.length = ats.length) (h : inPlace (zs.zip ats) = true) : ∀ q : Int, 0 ≤ q → idx zs (q * prodL zs + placeOf (zs.zip ats)) = ats := by
  induction zs generalizing ats with
  | nil => intro q _; cases ats with
    | nil => rfl
    | cons a ats => simp at hl
  | cons z zs ih =>
    cases ats with
    | nil => simp at hl
    | cons a ats =>
      intro q hq
      simp only [List.length_cons] at hl
      simp only [List.zip_cons_cons, inPlace, List.all_cons, Bool.and_eq_true, decide_eq_true_eq] at h
      obtain ⟨⟨ha0, haz⟩, hr⟩ := h
      have hb := placeOf_bd zs ats hr zs.length (Nat.le_refl _) (by omega)
      rw [List.take_of_length_le (by simp; omega), List.take_of_length_le (Nat.le_refl _)] at hb
      have e : q * prodL (z :: zs) + placeOf ((z, a) :: zs.zip ats) = (q * z + a) * prodL zs + placeOf (zs.zip ats) := by
        simp only [placeOf, List.foldl_cons]
        rw [placeOf_acc _ _ (by omega), prodL_cons, Int.zero_mul, Int.zero_add, Int.add_mul, Int.mul_assoc]
        simp only [placeOf]; omega
      simp only [List.zip_cons_cons]
      rw [e]
      simp only [idx]
      rw [ih ats (by omega) hr (q * z + a) (by have := Int.mul_nonneg hq (b := z) (by omega); omega)]
      congr 1
      rw [Int.add_comm, Int.add_mul_ediv_right _ _ (by omega), Int.ediv_eq_zero_of_lt hb.1 hb.2, Int.zero_add, Int.add_comm, Int.add_mul_emod_self_right]
      exact Int.emod_eq_of_lt ha0 haz

end Go.Proofs.Ytphcffcecncngaa
