/- Chains, in plain Lean: the least cost of a part with m words, as the rule says it. -/
namespace Go.Proofs.Ytphcffcecncngaa

/-- A chain: the words of its places, the costs of its nodes. -/
structure Ch where
  W : List Int
  K : List Int
namespace Ch
def n (c : Ch) : Nat := c.K.length
def w (c : Ch) (i : Nat) : Int := c.W.getD i 0
def k (c : Ch) (i : Nat) : Int := c.K.getD i 0
def kept (c : Ch) (l : Nat) : Int := if l = 0 then 0 else c.w l
def single (c : Ch) (l r : Nat) : Int := c.w r + c.kept l
def own (c : Ch) (r : Nat) : Int := if r = c.n then c.k (r - 1) else 0
def step (c : Ch) (l r k : Nat) : Int := c.w k + (if k - 1 = l then 0 else c.w (k - 1)) + (if r = c.n then 0 else c.w r)
/-- What j steps forward need. -/
def nd (c : Ch) (l r : Nat) : Nat → Int
  | 0 => 0
  | j + 1 => max (c.nd l r j) (c.step l r (l + j + 1))
/-- What j steps forward cost. -/
def cs (c : Ch) (l : Nat) : Nat → Int
  | 0 => 0
  | j + 1 => c.cs l j + c.k (l + j)
/-- The least of the first j splits. -/
def pv (c : Ch) (V : Nat → Nat → Int → Int) (l r : Nat) (m : Int) : Nat → Int
  | 0 => 1152921504606846976
  | j + 1 => if c.nd l r (j + 1) ≤ m then min (c.pv V l r m j) (c.cs l (j + 1) + V (l + j + 1) r (m - c.w (l + j + 1)) + V l (l + j + 1) m) else c.pv V l r m j
def val (c : Ch) : Nat → Nat → Nat → Int → Int
  | 0, _, _, _ => 1152921504606846976
  | d + 1, l, r, m => if r = l + 1 then (if c.single l r ≤ m then c.own r else 1152921504606846976) else c.pv (c.val d) l r m (r - l - 1)
/-- The least cost of the part of nodes l + 1 to r with m words. -/
def V (c : Ch) (l r : Nat) (m : Int) : Int := c.val (r - l) l r m

/-- A chain that may be. -/
structure Ok (c : Ch) : Prop where
  n1 : 1 ≤ c.n
  n2 : c.n ≤ 64
  len : c.W.length = c.n + 1
  w1 : ∀ z ∈ c.W, 1 ≤ z
  w2 : ∀ z ∈ c.W, z ≤ 65536
  k1 : ∀ z ∈ c.K, 0 ≤ z
  k2 : ∀ z ∈ c.K, z ≤ 1099511627776

variable {c : Ch}
theorem pv_congr {V V' : Nat → Nat → Int → Int} {l r : Nat} {m : Int} : ∀ j, (∀ i, i < j → ∀ x, V (l + i + 1) r x = V' (l + i + 1) r x ∧ V l (l + i + 1) x = V' l (l + i + 1) x) → c.pv V l r m j = c.pv V' l r m j
  | 0, _ => rfl
  | j + 1, h => by
    have h1 := pv_congr (m := m) j fun i hi => h i (by omega)
    have h2 := h j (by omega)
    simp only [pv]
    rw [h1, (h2 _).1, (h2 _).2]
theorem val_eq : ∀ (d d' l r : Nat) (m : Int), l < r → r - l ≤ d → r - l ≤ d' → c.val d l r m = c.val d' l r m
  | 0, _, l, r, m, h, h1, _ => by omega
  | _ + 1, 0, l, r, m, h, _, h2 => by omega
  | d + 1, d' + 1, l, r, m, h, h1, h2 => by
    simp only [val]
    split
    · rfl
    · exact pv_congr _ fun i hi x => ⟨val_eq d d' _ _ x (by omega) (by omega) (by omega), val_eq d d' _ _ x (by omega) (by omega) (by omega)⟩
theorem val_V {d l r : Nat} {m : Int} (h : l < r) (hd : r - l ≤ d) : c.val d l r m = c.V l r m := val_eq _ _ _ _ _ h hd (Nat.le_refl _)
theorem V_one {l : Nat} {m : Int} : c.V l (l + 1) m = if c.single l (l + 1) ≤ m then c.own (l + 1) else 1152921504606846976 := by
  rw [V, show l + 1 - l = 0 + 1 from by omega, val, if_pos rfl]
theorem V_more {l r : Nat} {m : Int} (h : l + 1 < r) : c.V l r m = c.pv c.V l r m (r - l - 1) := by
  rw [V, show r - l = (r - l - 1) + 1 from by omega, val, if_neg (by omega)]
  exact pv_congr _ fun i hi x => ⟨val_V (by omega) (by omega), val_V (by omega) (by omega)⟩

theorem Ok.w_1 (h : c.Ok) {i : Nat} (hi : i ≤ c.n) : 1 ≤ c.w i := by
  rw [w, List.getD_eq_getElem?_getD, List.getElem?_eq_getElem (by rw [h.len]; omega)]
  exact h.w1 _ (List.getElem_mem _)
theorem Ok.w_2 (h : c.Ok) (i : Nat) : c.w i ≤ 65536 := by
  rw [w, List.getD_eq_getElem?_getD]
  rcases hi : c.W[i]? with _ | z
  · simp
  · exact h.w2 _ (List.mem_of_getElem? hi)
theorem Ok.w_0 (h : c.Ok) (i : Nat) : 0 ≤ c.w i := by
  rw [w, List.getD_eq_getElem?_getD]
  rcases hi : c.W[i]? with _ | z
  · simp
  · have := h.w1 _ (List.mem_of_getElem? hi); simp; omega
theorem Ok.k_0 (h : c.Ok) (i : Nat) : 0 ≤ c.k i := by
  rw [k, List.getD_eq_getElem?_getD]
  rcases hi : c.K[i]? with _ | z
  · simp
  · exact h.k1 _ (List.mem_of_getElem? hi)
theorem Ok.k_2 (h : c.Ok) (i : Nat) : c.k i ≤ 1099511627776 := by
  rw [k, List.getD_eq_getElem?_getD]
  rcases hi : c.K[i]? with _ | z
  · simp
  · exact h.k2 _ (List.mem_of_getElem? hi)
theorem Ok.kept_0 (h : c.Ok) (l : Nat) : 0 ≤ c.kept l := by
  unfold kept; split
  · omega
  · exact h.w_0 l
theorem Ok.kept_2 (h : c.Ok) (l : Nat) : c.kept l ≤ 65536 := by
  unfold kept; split
  · omega
  · exact h.w_2 l
theorem Ok.step_0 (h : c.Ok) (l r k : Nat) : c.w k ≤ c.step l r k := by
  have a := h.w_0 (k - 1); have b := h.w_0 r
  unfold step; split <;> split <;> omega
theorem Ok.step_2 (h : c.Ok) (l r k : Nat) : c.step l r k ≤ 196608 := by
  have a := h.w_2 (k - 1); have b := h.w_2 r; have d := h.w_2 k
  unfold step; split <;> split <;> omega
theorem nd_0 (l r : Nat) : ∀ j, 0 ≤ c.nd l r j
  | 0 => by simp [nd]
  | j + 1 => by have := nd_0 l r j; simp only [nd]; omega
theorem Ok.nd_2 (h : c.Ok) (l r : Nat) : ∀ j, c.nd l r j ≤ 196608
  | 0 => by simp [nd]
  | j + 1 => by have := h.nd_2 l r j; have := h.step_2 l r (l + j + 1); simp only [nd]; omega
theorem nd_mono {l r i j : Nat} (hij : i ≤ j) : c.nd l r i ≤ c.nd l r j := by
  induction hij with
  | refl => exact Int.le_refl _
  | step _ ih => simp only [nd]; omega
theorem nd_step {l r j : Nat} : c.step l r (l + j + 1) ≤ c.nd l r (j + 1) := by simp only [nd]; omega
theorem Ok.nd_w (h : c.Ok) {l r j : Nat} {m : Int} (hm : c.nd l r (j + 1) ≤ m) : c.w (l + j + 1) ≤ m := by
  have := h.step_0 l r (l + j + 1); have := nd_step (c := c) (l := l) (r := r) (j := j); omega
theorem Ok.cs_0 (h : c.Ok) (l : Nat) : ∀ j, 0 ≤ c.cs l j
  | 0 => by simp [cs]
  | j + 1 => by have := h.cs_0 l j; have := h.k_0 (l + j); simp only [cs]; omega
theorem Ok.cs_2 (h : c.Ok) (l : Nat) : ∀ j : Nat, c.cs l j ≤ 1099511627776 * (j : Int)
  | 0 => by simp [cs]
  | j + 1 => by have := h.cs_2 l j; have := h.k_2 (l + j); simp only [cs]; omega
/-- A cost that may be: there is no way, or it is moderate. -/
def Mod (x : Int) (s : Nat) : Prop := x = 1152921504606846976 ∨ 0 ≤ x ∧ x ≤ 70368744177664 * (2 * (s : Int) - 1)
theorem pv_le {V : Nat → Nat → Int → Int} {l r : Nat} {m : Int} : ∀ j, c.pv V l r m j ≤ 1152921504606846976
  | 0 => Int.le_refl _
  | j + 1 => by
    have := pv_le (V := V) (l := l) (r := r) (m := m) j
    simp only [pv]
    split <;> omega
theorem Ok.pv_mod (h : c.Ok) {V : Nat → Nat → Int → Int} {l r : Nat} {m : Int} (hr : r ≤ c.n) (hV : ∀ l' r' x, l' < r' → r' - l' < r - l → r' ≤ r → Mod (V l' r' x) (r' - l')) :
    ∀ j, j ≤ r - l - 1 → Mod (c.pv V l r m j) (r - l)
  | 0, _ => .inl rfl
  | j + 1, hj => by
    have ih := h.pv_mod (m := m) hr hV j (by omega)
    simp only [pv]
    split
    · have a := hV (l + j + 1) r (m - c.w (l + j + 1)) (by omega) (by omega) (by omega)
      have b := hV l (l + j + 1) m (by omega) (by omega) (by omega)
      have c0 := h.cs_0 l (j + 1)
      have c2 := h.cs_2 l (j + 1)
      have n2 := h.n2
      have e1 : ((r - (l + j + 1) : Nat) : Int) = (r : Int) - l - j - 1 := by omega
      have e2 : ((l + j + 1 - l : Nat) : Int) = (j : Int) + 1 := by omega
      have e3 : ((r - l : Nat) : Int) = (r : Int) - l := by omega
      unfold Mod at *
      rw [e1] at a
      rw [e2] at b
      rw [e3] at ih ⊢
      have hj64 : ((j + 1 : Nat) : Int) ≤ 64 := by omega
      rcases a with a | ⟨a1, a2⟩
      · rcases b with b | ⟨b1, b2⟩
        · rcases ih with ih | ⟨i1, i2⟩ <;> omega
        · rcases ih with ih | ⟨i1, i2⟩ <;> omega
      · rcases b with b | ⟨b1, b2⟩
        · rcases ih with ih | ⟨i1, i2⟩ <;> omega
        · rcases ih with ih | ⟨i1, i2⟩ <;> omega
    · exact ih
theorem Ok.V_mod (h : c.Ok) : ∀ (s l r : Nat) (m : Int), r - l ≤ s → l < r → r ≤ c.n → Mod (c.V l r m) (r - l)
  | 0, l, r, m, hs, hl, _ => by omega
  | s + 1, l, r, m, hs, hl, hr => by
    by_cases e : r = l + 1
    · subst e
      rw [V_one]
      split
      · refine .inr ?_
        have a := h.k_0 l; have b := h.k_2 l
        have : ((l + 1 - l : Nat) : Int) = 1 := by omega
        rw [this]
        unfold own
        split
        · simp only [Nat.add_sub_cancel]; omega
        · omega
      · exact .inl rfl
    · rw [V_more (by omega)]
      exact h.pv_mod hr (fun l' r' x h1 h2 h3 => h.V_mod s l' r' x (by omega) h1 (by omega)) _ (Nat.le_refl _)
theorem Ok.mod (h : c.Ok) {l r : Nat} {m : Int} (hl : l < r) (hr : r ≤ c.n) : Mod (c.V l r m) (r - l) := h.V_mod (r - l) l r m (Nat.le_refl _) hl hr
theorem Mod.lo {x : Int} {s : Nat} (h : Mod x s) : 0 ≤ x := by rcases h with h | h <;> omega
theorem Mod.hi {x : Int} {s : Nat} (h : Mod x s) (hs : s ≤ 64) : x ≤ 1152921504606846976 := by rcases h with h | h <;> omega
theorem Mod.fin {x : Int} {s : Nat} (h : Mod x s) (hs : s ≤ 64) (hx : x < 1152921504606846976) : x ≤ 70368744177664 * 127 := by rcases h with h | h <;> omega

/-! More memory never costs more; enough of it is as good as any. -/
theorem pv_mono {V : Nat → Nat → Int → Int} {l r : Nat} {m m' : Int} (hm : m ≤ m') : ∀ j, (∀ i, i < j → ∀ x y, x ≤ y → V (l + i + 1) r y ≤ V (l + i + 1) r x ∧ V l (l + i + 1) y ≤ V l (l + i + 1) x) → c.pv V l r m' j ≤ c.pv V l r m j
  | 0, _ => Int.le_refl _
  | j + 1, h => by
    have ih := pv_mono hm j fun i hi => h i (by omega)
    have a := (h j (by omega) (m - c.w (l + j + 1)) (m' - c.w (l + j + 1)) (by omega)).1
    have b := (h j (by omega) m m' hm).2
    simp only [pv]
    split
    · split <;> omega
    · rw [if_neg (by omega)]; exact ih
theorem Ok.own_le (h : c.Ok) (r : Nat) : c.own r ≤ 1152921504606846976 := by
  unfold own
  split
  · have := h.k_2 (r - 1); omega
  · omega
theorem Ok.V_mono (h : c.Ok) : ∀ (s l r : Nat) (m m' : Int), r - l ≤ s → l < r → m ≤ m' → c.V l r m' ≤ c.V l r m ∨ c.n < r
  | 0, l, r, m, m', hs, hl, _ => by omega
  | s + 1, l, r, m, m', hs, hl, hm => by
    by_cases hr : c.n < r
    · exact .inr hr
    · left
      by_cases e : r = l + 1
      · subst e
        rw [V_one, V_one]
        by_cases e1 : c.single l (l + 1) ≤ m
        · rw [if_pos e1, if_pos (by omega)]; exact Int.le_refl _
        · rw [if_neg e1]
          split
          · exact h.own_le _
          · exact Int.le_refl _
      · rw [V_more (by omega), V_more (by omega)]
        refine pv_mono hm _ fun i hi x y hxy => ⟨?_, ?_⟩
        · rcases h.V_mono s (l + i + 1) r x y (by omega) (by omega) hxy with g | g
          · exact g
          · omega
        · rcases h.V_mono s l (l + i + 1) x y (by omega) (by omega) hxy with g | g
          · exact g
          · omega
/-- The words of j places behind l. -/
def ws (c : Ch) (l : Nat) : Nat → Int
  | 0 => 0
  | j + 1 => c.ws l j + c.w (l + j + 1)
def enough (c : Ch) (l r : Nat) : Int := c.kept l + 2 * c.ws l (r - l)
theorem ws_add (l i : Nat) : ∀ j, c.ws l (i + j) = c.ws l i + c.ws (l + i) j
  | 0 => by simp [ws]
  | j + 1 => by
    rw [← Nat.add_assoc, ws, ws_add l i j, ws, Nat.add_assoc l i j, Int.add_assoc]
theorem Ok.ws_0 (h : c.Ok) (l : Nat) : ∀ j, 0 ≤ c.ws l j
  | 0 => by simp [ws]
  | j + 1 => by have := h.ws_0 l j; have := h.w_0 (l + j + 1); simp only [ws]; omega
theorem Ok.ws_le (h : c.Ok) {l i j : Nat} (hij : i ≤ j) : c.ws l i ≤ c.ws l j := by
  obtain ⟨d, rfl⟩ := Nat.exists_eq_add_of_le hij
  rw [ws_add]
  have := h.ws_0 (l + i) d
  omega
theorem Ok.step_ws (h : c.Ok) {l r j : Nat} (hj : l + j + 1 < r) : c.step l r (l + j + 1) ≤ c.ws l (r - l) := by
  have e : r - l = (j + 1) + (r - l - j - 2 + 1) := by omega
  have er : l + (j + 1) + (r - l - j - 2) + 1 = r := by omega
  rw [e, ws_add, ws.eq_2 c (l + (j + 1)), er]
  have a := h.ws_0 (l + (j + 1)) (r - l - j - 2)
  have b := h.w_0 r
  unfold step
  rw [Nat.add_sub_cancel]
  rcases j with _ | i
  · simp only [Nat.add_zero, ws, if_true]
    split <;> omega
  · rw [if_neg (by omega), ws, ws]
    have b2 := h.ws_0 l i
    have e3 : l + (i + 1) = l + i + 1 := by omega
    rw [e3]
    split <;> omega
theorem Ok.nd_ws (h : c.Ok) {l r : Nat} : ∀ j, l + j < r → c.nd l r j ≤ c.ws l (r - l)
  | 0, _ => by simpa [nd] using h.ws_0 l (r - l)
  | j + 1, hj => by
    have a := h.nd_ws (l := l) (r := r) j (by omega)
    have b := h.step_ws (l := l) (r := r) (j := j) (by omega)
    simp only [nd]
    omega
theorem Ok.enough_right (h : c.Ok) {l r j : Nat} {m : Int} (hj : l + j + 1 < r) (hm : c.enough l r ≤ m) : c.enough (l + j + 1) r ≤ m - c.w (l + j + 1) := by
  unfold enough at *
  have e : r - l = (j + 1) + (r - (l + j + 1)) := by omega
  rw [e, ws_add, ws, show l + (j + 1) = l + j + 1 from rfl] at hm
  have a := h.ws_0 l j
  have b := h.kept_0 l
  have d : c.kept (l + j + 1) = c.w (l + j + 1) := by unfold kept; rw [if_neg (by omega)]
  rw [d]
  omega
theorem Ok.enough_left (h : c.Ok) {l r j : Nat} {m : Int} (hj : l + j + 1 < r) (hm : c.enough l r ≤ m) : c.enough l (l + j + 1) ≤ m := by
  unfold enough at *
  have := h.ws_le (l := l) (i := l + j + 1 - l) (j := r - l) (by omega)
  omega
theorem Ok.enough_nd (h : c.Ok) {l r j : Nat} {m : Int} (hj : l + j < r) (hm : c.enough l r ≤ m) : c.nd l r j ≤ m := by
  have a := h.nd_ws (l := l) (r := r) j hj
  have b := h.ws_0 l (r - l)
  have d := h.kept_0 l
  unfold enough at hm
  omega
theorem Ok.enough_single (h : c.Ok) {l : Nat} {m : Int} (hm : c.enough l (l + 1) ≤ m) : c.single l (l + 1) ≤ m := by
  unfold enough at hm
  rw [show l + 1 - l = 0 + 1 from by omega, ws, ws, Nat.add_zero] at hm
  have := h.w_0 (l + 1)
  unfold single
  omega
theorem Ok.pv_enough (h : c.Ok) {l r : Nat} {m m' : Int} (hm : c.enough l r ≤ m) (hm' : c.enough l r ≤ m') : ∀ j, l + j < r → (∀ i, i < j → ∀ x y, (c.enough (l + i + 1) r ≤ x → c.enough (l + i + 1) r ≤ y → c.V (l + i + 1) r x = c.V (l + i + 1) r y) ∧ (c.enough l (l + i + 1) ≤ x → c.enough l (l + i + 1) ≤ y → c.V l (l + i + 1) x = c.V l (l + i + 1) y)) →
    c.pv c.V l r m j = c.pv c.V l r m' j
  | 0, _, _ => rfl
  | j + 1, hj, hV => by
    have ih := h.pv_enough hm hm' j (by omega) fun i hi => hV i (by omega)
    simp only [pv]
    rw [if_pos (h.enough_nd hj hm), if_pos (h.enough_nd hj hm'), ih, (hV j (by omega) _ _).1 (h.enough_right (by omega) hm) (h.enough_right (by omega) hm'), (hV j (by omega) _ _).2 (h.enough_left (by omega) hm) (h.enough_left (by omega) hm')]
theorem Ok.V_enough (h : c.Ok) : ∀ (s l r : Nat) (m m' : Int), r - l ≤ s → l < r → c.enough l r ≤ m → c.enough l r ≤ m' → c.V l r m = c.V l r m'
  | 0, l, r, m, m', hs, hl, _, _ => by omega
  | s + 1, l, r, m, m', hs, hl, hm, hm' => by
    by_cases e : r = l + 1
    · subst e
      rw [V_one, V_one, if_pos (h.enough_single hm), if_pos (h.enough_single hm')]
    · rw [V_more (by omega), V_more (by omega)]
      exact h.pv_enough hm hm' _ (by omega) fun i hi x y => ⟨h.V_enough s _ _ x y (by omega) (by omega), h.V_enough s _ _ x y (by omega) (by omega)⟩
/-- A greater capacity than that which is enough is as good as that. -/
theorem Ok.V_min (h : c.Ok) {l r : Nat} {m : Int} (hl : l < r) : c.V l r (min m (c.enough l r)) = c.V l r m := by
  by_cases e : m ≤ c.enough l r
  · rw [Int.min_eq_left e]
  · rw [Int.min_eq_right (by omega)]
    exact h.V_enough (r - l) l r _ _ (Nat.le_refl _) hl (Int.le_refl _) (by omega)

/-! No way costs less than all nodes once; with enough memory one costs just that. -/
theorem cs_add (l i : Nat) : ∀ j, c.cs l (i + j) = c.cs l i + c.cs (l + i) j
  | 0 => by simp [cs]
  | j + 1 => by
    rw [← Nat.add_assoc, cs, cs_add l i j, cs, Nat.add_assoc l i j, Int.add_assoc]
theorem pv_ge {V : Nat → Nat → Int → Int} {l r : Nat} {m x : Int} (h0 : x ≤ 1152921504606846976) : ∀ j, (∀ i, i < j → x ≤ c.cs l (i + 1) + V (l + i + 1) r (m - c.w (l + i + 1)) + V l (l + i + 1) m) → x ≤ c.pv V l r m j
  | 0, _ => h0
  | j + 1, h => by
    have ih := pv_ge (m := m) h0 j fun i hi => h i (by omega)
    have := h j (by omega)
    simp only [pv]
    split <;> omega
theorem pv_anti {V : Nat → Nat → Int → Int} {l r : Nat} {m : Int} {i j : Nat} (h : i ≤ j) : c.pv V l r m j ≤ c.pv V l r m i := by
  induction h with
  | refl => exact Int.le_refl _
  | step _ ih => simp only [pv]; split <;> omega
theorem Ok.cs_small (h : c.Ok) {l j : Nat} (hj : j ≤ 64) : c.cs l j ≤ 1152921504606846976 := by
  have := h.cs_2 l j; omega
theorem Ok.V_low (h : c.Ok) : ∀ (s l r : Nat) (m : Int), r - l ≤ s → l < r → r ≤ c.n → c.cs l (if r = c.n then r - l else r - l - 1) ≤ c.V l r m
  | 0, l, r, m, hs, hl, _ => by omega
  | s + 1, l, r, m, hs, hl, hr => by
    have hn := h.n2
    by_cases e : r = l + 1
    · subst e
      rw [V_one, own, Nat.add_sub_cancel]
      have k0 : c.cs l 1 = c.k l := by simp [cs]
      by_cases e2 : l + 1 = c.n
      · rw [if_pos e2, if_pos e2, show l + 1 - l = 1 from by omega, k0]
        have := h.k_2 l
        split <;> omega
      · rw [if_neg e2, if_neg e2, show l + 1 - l - 1 = 0 from by omega, cs]
        split <;> omega
    · rw [V_more (by omega)]
      refine pv_ge (h.cs_small (by split <;> omega)) _ fun i hi => ?_
      have a := h.V_low s (l + i + 1) r (m - c.w (l + i + 1)) (by omega) (by omega) hr
      have b := (h.mod (l := l) (r := l + i + 1) (m := m) (by omega) (by omega)).lo
      have d : (if r = c.n then r - l else r - l - 1) = (i + 1) + (if r = c.n then r - (l + i + 1) else r - (l + i + 1) - 1) := by split <;> omega
      rw [d, cs_add]
      have e2 : l + (i + 1) = l + i + 1 := rfl
      rw [e2]
      omega
theorem Ok.V_once (h : c.Ok) : ∀ (s l : Nat) (m : Int), c.n - l ≤ s → l < c.n → c.enough l c.n ≤ m → c.V l c.n m ≤ c.cs l (c.n - l)
  | 0, l, m, hs, hl, _ => by omega
  | s + 1, l, m, hs, hl, hm => by
    by_cases e : c.n = l + 1
    · rw [e] at hm
      have := V_one (c := c) (l := l) (m := m)
      rw [if_pos (h.enough_single hm), ← e] at this
      rw [this, e, show l + 1 - l = 0 + 1 from by omega, cs, cs]
      unfold own
      rw [if_pos e.symm]
      simp
    · rw [V_more (by omega)]
      refine Int.le_trans (pv_anti (i := 1) (by omega)) ?_
      simp only [pv, Nat.add_zero, Nat.zero_add]
      rw [if_pos (h.enough_nd (j := 1) (by omega) hm)]
      have a := h.V_once s (l + 1) (m - c.w (l + 1)) (by omega) (by omega) (h.enough_right (j := 0) (by omega) hm)
      have b : c.V l (l + 1) m = 0 := by
        rw [V_one, if_pos (h.enough_single (h.enough_left (j := 0) (by omega) hm)), own, if_neg (by omega)]
      have d : c.cs l (c.n - l) = c.cs l 1 + c.cs (l + 1) (c.n - (l + 1)) := by
        rw [show c.n - l = 1 + (c.n - (l + 1)) from by omega, cs_add]
      rw [b, d]
      omega
/-! The words that are needed. -/
def nv (c : Ch) (N : Nat → Nat → Int) (l r : Nat) : Nat → Int
  | 0 => 1152921504606846976
  | j + 1 => min (c.nv N l r j) (max (max (c.nd l r (j + 1)) (c.w (l + j + 1) + N (l + j + 1) r)) (N l (l + j + 1)))
def nval (c : Ch) : Nat → Nat → Nat → Int
  | 0, _, _ => 1152921504606846976
  | d + 1, l, r => if r = l + 1 then c.single l r else c.nv (c.nval d) l r (r - l - 1)
/-- The words that the part of nodes l + 1 to r needs. -/
def N (c : Ch) (l r : Nat) : Int := c.nval (r - l) l r
theorem nv_congr {V V' : Nat → Nat → Int} {l r : Nat} : ∀ j, (∀ i, i < j → V (l + i + 1) r = V' (l + i + 1) r ∧ V l (l + i + 1) = V' l (l + i + 1)) → c.nv V l r j = c.nv V' l r j
  | 0, _ => rfl
  | j + 1, h => by
    have h1 := nv_congr j fun i hi => h i (by omega)
    have h2 := h j (by omega)
    simp only [nv]
    rw [h1, h2.1, h2.2]
theorem nval_eq : ∀ (d d' l r : Nat), l < r → r - l ≤ d → r - l ≤ d' → c.nval d l r = c.nval d' l r
  | 0, _, l, r, h, h1, _ => by omega
  | _ + 1, 0, l, r, h, _, h2 => by omega
  | d + 1, d' + 1, l, r, h, h1, h2 => by
    simp only [nval]
    split
    · rfl
    · exact nv_congr _ fun i hi => ⟨nval_eq d d' _ _ (by omega) (by omega) (by omega), nval_eq d d' _ _ (by omega) (by omega) (by omega)⟩
theorem N_one {l : Nat} : c.N l (l + 1) = c.single l (l + 1) := by
  rw [N, show l + 1 - l = 0 + 1 from by omega, nval, if_pos rfl]
theorem N_more {l r : Nat} (h : l + 1 < r) : c.N l r = c.nv c.N l r (r - l - 1) := by
  rw [N, show r - l = (r - l - 1) + 1 from by omega, nval, if_neg (by omega)]
  exact nv_congr _ fun i hi => ⟨nval_eq _ _ _ _ (by omega) (by omega) (Nat.le_refl _), nval_eq _ _ _ _ (by omega) (by omega) (Nat.le_refl _)⟩
theorem nv_le {N : Nat → Nat → Int} {l r : Nat} : ∀ j, c.nv N l r j ≤ 1152921504606846976
  | 0 => Int.le_refl _
  | j + 1 => by have := nv_le (N := N) (l := l) (r := r) j; simp only [nv]; omega
theorem nv_0 {N : Nat → Nat → Int} {l r : Nat} : ∀ j, 0 ≤ c.nv N l r j
  | 0 => by simp [nv]
  | j + 1 => by have := nv_0 (N := N) (l := l) (r := r) j; have := nd_0 (c := c) l r (j + 1); simp only [nv]; omega
theorem Ok.N_0 (h : c.Ok) {l r : Nat} (hl : l < r) : 0 ≤ c.N l r := by
  by_cases e : r = l + 1
  · subst e
    rw [N_one]
    have := h.w_0 (l + 1); have := h.kept_0 l
    unfold single; omega
  · rw [N_more (by omega)]; exact nv_0 _
theorem Ok.N_le (h : c.Ok) {l r : Nat} (hl : l < r) : c.N l r ≤ 1152921504606846976 := by
  by_cases e : r = l + 1
  · subst e
    rw [N_one]
    have := h.w_2 (l + 1); have := h.kept_2 l
    unfold single; omega
  · rw [N_more (by omega)]; exact nv_le _
theorem Ok.pv_nv (h : c.Ok) {l r : Nat} {m : Int} (hr : r ≤ c.n) (hm : m < 1152921504606846976) : ∀ j, l + j < r → (∀ i, i < j → ∀ x, x < 1152921504606846976 → (c.V (l + i + 1) r x < 1152921504606846976 ↔ c.N (l + i + 1) r ≤ x) ∧ (c.V l (l + i + 1) x < 1152921504606846976 ↔ c.N l (l + i + 1) ≤ x)) →
    (c.pv c.V l r m j < 1152921504606846976 ↔ c.nv c.N l r j ≤ m)
  | 0, _, _ => by simp only [pv, nv]; omega
  | j + 1, hj, hN => by
    have ih := h.pv_nv hr hm j (by omega) fun i hi => hN i (by omega)
    have a := (hN j (by omega) (m - c.w (l + j + 1)) (by have := h.w_0 (l + j + 1); omega)).1
    have b := (hN j (by omega) m hm).2
    have a2 := h.mod (l := l + j + 1) (r := r) (m := m - c.w (l + j + 1)) (by omega) hr
    have b2 := h.mod (l := l) (r := l + j + 1) (m := m) (by omega) (by omega)
    have n2 := h.n2
    have a3 := a2.lo; have a4 := a2.fin (by omega)
    have b3 := b2.lo; have b4 := b2.fin (by omega)
    have c0 := h.cs_0 l (j + 1)
    have c2 := h.cs_2 l (j + 1)
    have := pv_le (c := c) (V := c.V) (l := l) (r := r) (m := m) j
    simp only [pv, nv]
    split <;> omega
theorem Ok.V_N (h : c.Ok) : ∀ (s l r : Nat) (m : Int), r - l ≤ s → l < r → r ≤ c.n → m < 1152921504606846976 → (c.V l r m < 1152921504606846976 ↔ c.N l r ≤ m)
  | 0, l, r, m, hs, hl, _, _ => by omega
  | s + 1, l, r, m, hs, hl, hr, hm => by
    by_cases e : r = l + 1
    · subst e
      rw [V_one, N_one]
      have a : c.own (l + 1) < 1152921504606846976 := by
        unfold own
        split
        · have := h.k_2 (l + 1 - 1); omega
        · omega
      split
      · simp only [*]
      · omega
    · rw [V_more (by omega), N_more (by omega)]
      exact h.pv_nv hr hm _ (by omega) fun i hi x hx => ⟨h.V_N s _ _ x (by omega) (by omega) (by omega) hx, h.V_N s _ _ x (by omega) (by omega) (by omega) hx⟩

end Ch
end Go.Proofs.Ytphcffcecncngaa
