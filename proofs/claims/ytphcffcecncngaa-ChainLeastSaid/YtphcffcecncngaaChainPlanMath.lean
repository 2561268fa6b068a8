/- Chains, in plain Lean: what a walk does with a code, and the code of a plan. -/
import Derived.Test.YtphcffcecncngaaChainMath
namespace Go.Proofs.Ytphcffcecncngaa
namespace Ch

/-- What a walk has. -/
structure St where
  T : List Int
  S : List Int
  G : List Int
  em : Int
  sd : Int
  dn : Int
  pk : Int
  co : Int
def sumW (c : Ch) : List Int → Int
  | [] => 0
  | i :: l => c.w i.toNat + c.sumW l
def wout (l : List Int) (x : Int) : List Int := l.filter (fun i => i != x)
def used (c : Ch) (s : St) : Int := c.sumW s.T + c.sumW s.G
def ready (s : St) (id : Int) : Bool := decide (id = 1) || s.T.contains (id - 1)
def setPk (c : Ch) (s : St) : St := { s with pk := max s.pk (c.used s) }
/-- An instruction: the error's number, the state. -/
def doI (c : Ch) (cap : Int) (s : St) (kind id : Int) : Int × St :=
  if kind ≤ 2 then
    if (s.S.contains id != decide (kind = 2)) || s.T.contains id || !ready s id then (24, s)
    else if cap < c.used s + c.w id.toNat then (25, s)
    else (0, c.setPk { s with T := s.T ++ [id], S := wout s.S id ++ [id], co := s.co + c.k (id - 1).toNat })
  else if kind = 3 then
    if s.T.contains id then (0, c.setPk { s with T := wout s.T id }) else (24, s)
  else if kind = 4 then
    if decide (s.em = 1) || !s.T.contains (c.n : Int) then (24, s) else (0, c.setPk { s with em := 1 })
  else if kind = 5 then
    if s.sd = 1 then (24, s)
    else if cap < c.used s + c.w c.n then (25, s)
    else (0, c.setPk { s with sd := 1, G := s.G ++ [(c.n : Int)] })
  else if kind = 6 then
    if !s.G.contains id || !ready s id || decide (id ≠ (c.n : Int) - s.dn) then (24, s)
    else if 1 < id then
      if cap < c.used s + c.w (id - 1).toNat then (25, s)
      else let t := c.setPk { s with G := s.G ++ [id - 1], dn := s.dn + 1 }; (0, { t with G := wout t.G id })
    else let t := c.setPk { s with dn := s.dn + 1 }; (0, { t with G := wout t.G id })
  else (0, c.setPk s)
def run (c : Ch) (cap : Int) : St → List (Int × Int) → Int × St
  | s, [] => (0, s)
  | s, (k, i) :: p => if (c.doI cap s k i).1 = 0 then c.run cap (c.doI cap s k i).2 p else c.doI cap s k i
def St.new : St := ⟨[], [], [], 0, 0, 0, 0, 0⟩

variable {c : Ch}
theorem run_append {cap : Int} : ∀ (p q : List (Int × Int)) (s : St), (c.run cap s p).1 = 0 → c.run cap s (p ++ q) = c.run cap (c.run cap s p).2 q
  | [], q, s, _ => rfl
  | (k, i) :: p, q, s, h => by
    rw [run] at h
    rw [List.cons_append, run, run]
    split
    · rename_i e
      rw [if_pos e] at h
      exact run_append p q _ h
    · rename_i e
      rw [if_neg e] at h
      exact absurd h e
theorem sumW_append : ∀ (a b : List Int), c.sumW (a ++ b) = c.sumW a + c.sumW b
  | [], b => by simp [sumW]
  | i :: a, b => by rw [List.cons_append, sumW, sumW, sumW_append a b]; omega
theorem wout_not {x : Int} : ∀ {l : List Int}, x ∉ l → wout l x = l
  | l, h => by
    unfold wout
    rw [List.filter_eq_self]
    intro a ha
    simp
    intro e; subst e; exact h ha
theorem wout_last {l : List Int} {x : Int} (h : x ∉ l) : wout (l ++ [x]) x = l := by
  have := wout_not h
  unfold wout at *
  rw [List.filter_append, this]
  simp
theorem wout_prev {l : List Int} {x y : Int} (h : x ∉ l) (hxy : y ≠ x) : wout (l ++ [x] ++ [y]) x = l ++ [y] := by
  have := wout_last h
  unfold wout at *
  rw [List.filter_append, this]
  simp [hxy]

/-- j steps forward. -/
def fwd (c : Ch) (l r : Nat) : Nat → List (Int × Int)
  | 0 => []
  | j + 1 => fwd c l r j ++ [(if r = c.n then 1 else 2, (l : Int) + j + 1)] ++ (if j = 0 then [] else [(3, (l : Int) + j)])
/-- The code of a plan of the part of nodes l + 1 to r with m words. -/
inductive Plan (c : Ch) : Nat → Nat → Int → List (Int × Int) → Prop
  | last {l : Nat} {m : Int} (h : l + 1 = c.n) (hm : c.single l (l + 1) ≤ m) : Plan c l (l + 1) m [(1, (l : Int) + 1), (4, 0), (3, (l : Int) + 1), (5, 0), (6, (l : Int) + 1)]
  | one {l : Nat} {m : Int} (h : l + 1 < c.n) (hm : c.single l (l + 1) ≤ m) : Plan c l (l + 1) m [(6, (l : Int) + 1)]
  | split {l r j : Nat} {m : Int} {p q : List (Int × Int)} (hj : l + j + 1 < r) (hr : r ≤ c.n) (hn : c.nd l r (j + 1) ≤ m)
      (hv : c.cs l (j + 1) + c.V (l + j + 1) r (m - c.w (l + j + 1)) + c.V l (l + j + 1) m = c.V l r m)
      (hp : Plan c (l + j + 1) r (m - c.w (l + j + 1)) p) (hq : Plan c l (l + j + 1) m q) :
      Plan c l r m (c.fwd l r (j + 1) ++ p ++ [(3, (l : Int) + j + 1)] ++ q)

/-! What a plan does. -/
structure Start (c : Ch) (l r : Nat) (m cap : Int) (s : St) : Prop where
  tin : ∀ i ∈ s.T, 1 ≤ i ∧ i ≤ (l : Int)
  tl : l = 0 ∨ (l : Int) ∈ s.T
  g : s.G = if r = c.n then [] else [(r : Int)]
  em : s.em = if r = c.n then 0 else 1
  sd : s.sd = if r = c.n then 0 else 1
  dn : s.dn = (c.n : Int) - r
  sin : ∀ i : Int, i ∈ s.S ↔ 1 ≤ i ∧ i ≤ (if r = c.n then (l : Int) else (c.n : Int))
  cap : c.sumW s.T + m ≤ cap
structure Mid (c : Ch) (l r j : Nat) (m : Int) (s s' : St) : Prop where
  t : s'.T = if j = 0 then s.T else s.T ++ [(l : Int) + j]
  g : s'.G = s.G
  em : s'.em = s.em
  sd : s'.sd = s.sd
  dn : s'.dn = s.dn
  sin : ∀ i : Int, i ∈ s'.S ↔ 1 ≤ i ∧ i ≤ (if r = c.n then (l : Int) + j else (c.n : Int))
  co : s'.co = s.co + c.cs l j
  pk : s'.pk ≤ max s.pk (c.sumW s.T + m)
structure End (c : Ch) (l r : Nat) (m : Int) (s s' : St) : Prop where
  t : s'.T = s.T
  g : s'.G = if l = 0 then [] else [(l : Int)]
  em : s'.em = 1
  sd : s'.sd = 1
  dn : s'.dn = (c.n : Int) - l
  sin : ∀ i : Int, i ∈ s'.S ↔ 1 ≤ i ∧ i ≤ (c.n : Int)
  co : s'.co = s.co + c.V l r m
  pk : s'.pk ≤ max s.pk (c.sumW s.T + m)
theorem mem_wout {l : List Int} {x i : Int} : i ∈ wout l x ↔ i ∈ l ∧ i ≠ x := by
  unfold wout; simp
theorem contains_not {l : List Int} {x : Int} (h : x ∉ l) : l.contains x = false := by
  rw [← Bool.not_eq_true, List.contains_iff_mem]; exact h
theorem contains_yes {l : List Int} {x : Int} (h : x ∈ l) : l.contains x = true := by
  rw [List.contains_iff_mem]; exact h
theorem sumG {r : Nat} {s : St} (h : s.G = if r = c.n then [] else [(r : Int)]) : c.sumW s.G = if r = c.n then 0 else c.w r := by
  rw [h]; split <;> simp [sumW]
theorem fwd_run (h : c.Ok) {l r : Nat} {m cap : Int} {s : St} (hs : Start c l r m cap s) (hr : r ≤ c.n) : ∀ j, l + j < r → c.nd l r j ≤ m →
    ∃ s', c.run cap s (c.fwd l r j) = (0, s') ∧ Mid c l r j m s s'
  | 0, hj, _ => ⟨s, rfl, ⟨by simp, rfl, rfl, rfl, rfl, by simpa using hs.sin, by simp [cs], by omega⟩⟩
  | j + 1, hj, hn => by
    have hn' : c.nd l r j ≤ m := Int.le_trans (nd_mono (Nat.le_succ j)) hn
    obtain ⟨s1, e1, M⟩ := fwd_run h hs hr j (by omega) hn'
    have hst : c.step l r (l + j + 1) ≤ m := Int.le_trans nd_step hn
    unfold step at hst
    rw [Nat.add_sub_cancel] at hst
    have tin1 : ∀ i ∈ s1.T, 1 ≤ i ∧ i ≤ (l : Int) + j := by
      intro i hi
      rw [M.t] at hi
      split at hi
      · have := hs.tin i hi; omega
      · rcases List.mem_append.1 hi with hi | hi
        · have := hs.tin i hi; omega
        · rw [List.mem_singleton.1 hi]; omega
    have sT1 : c.sumW s1.T = c.sumW s.T + (if j = 0 then 0 else c.w (l + j)) := by
      rw [M.t]
      split
      · omega
      · rw [sumW_append]
        have : ((l : Int) + j).toNat = l + j := by omega
        simp [sumW, this]
    have sG1 := sumG (c := c) (r := r) (s := s1) (by rw [M.g]; exact hs.g)
    have q1 : (s1.S.contains ((l : Int) + j + 1) != decide ((if r = c.n then (1 : Int) else 2) = 2)) = false := by
      by_cases e : r = c.n
      · rw [if_pos e, contains_not]
        · rfl
        · intro hi
          have := (M.sin _).1 hi
          rw [if_pos e] at this
          omega
      · rw [if_neg e, contains_yes]
        · rfl
        · refine (M.sin _).2 ?_
          rw [if_neg e]; omega
    have q2 : s1.T.contains ((l : Int) + j + 1) = false := contains_not fun hi => by have := tin1 _ hi; omega
    have q3 : ready s1 ((l : Int) + j + 1) = true := by
      unfold ready
      by_cases e : l + j = 0
      · have : (l : Int) + j + 1 = 1 := by omega
        simp [this]
      · have : (l : Int) + j + 1 - 1 ∈ s1.T := by
          rw [M.t]
          split
          · rename_i e2
            subst e2
            rcases hs.tl with e3 | e3
            · omega
            · simpa using e3
          · refine List.mem_append.2 (.inr ?_)
            simp
        rw [contains_yes this, Bool.or_true]
    have eid : ((l : Int) + j + 1).toNat = l + j + 1 := by omega
    have eid1 : ((l : Int) + j + 1 - 1).toNat = l + j := by omega
    have kd : (if r = c.n then (1 : Int) else 2) ≤ 2 := by split <;> omega
    have hu : c.used s1 + c.w (l + j + 1) ≤ c.sumW s.T + m := by
      unfold used
      rw [sT1, sG1]
      have h3 : (if l + j = l then (0 : Int) else c.w (l + j)) = if j = 0 then 0 else c.w (l + j) := by
        by_cases e : j = 0
        · simp [e]
        · rw [if_neg (by omega), if_neg e]
      rw [h3] at hst
      omega
    have hcap := hs.cap
    obtain ⟨s2, es2⟩ : ∃ s2, s2 = c.setPk { s1 with T := s1.T ++ [(l : Int) + j + 1], S := wout s1.S ((l : Int) + j + 1) ++ [(l : Int) + j + 1], co := s1.co + c.k (l + j) } := ⟨_, rfl⟩
    have d2 : c.doI cap s1 (if r = c.n then 1 else 2) ((l : Int) + j + 1) = (0, s2) := by
      unfold doI
      rw [if_pos kd, q1, q2, q3, eid, eid1, if_neg (by simp), if_neg (by omega), es2]
    have pk2 : s2.pk ≤ max s.pk (c.sumW s.T + m) := by
      have hp := M.pk
      have : s2.pk = max s1.pk (c.used s1 + c.w (l + j + 1)) := by
        rw [es2]
        simp only [setPk, used, sumW_append, sumW, eid]
        congr 1
        omega
      rw [this]
      omega
    have sin2 : ∀ i : Int, i ∈ s2.S ↔ 1 ≤ i ∧ i ≤ (if r = c.n then (l : Int) + ((j + 1 : Nat) : Int) else (c.n : Int)) := by
      intro i
      rw [es2]
      simp only [setPk, List.mem_append, mem_wout, List.mem_singleton, M.sin]
      by_cases e : r = c.n
      · simp only [e, if_true]; omega
      · simp only [e, if_false]; omega
    have co2 : s2.co = s.co + c.cs l (j + 1) := by
      rw [es2]; simp only [setPk, cs]; rw [M.co]; omega
    have g2 : s2.G = s.G := by rw [es2]; exact M.g
    have em2 : s2.em = s.em := by rw [es2]; exact M.em
    have sd2 : s2.sd = s.sd := by rw [es2]; exact M.sd
    have dn2 : s2.dn = s.dn := by rw [es2]; exact M.dn
    have t2 : s2.T = s1.T ++ [(l : Int) + j + 1] := by rw [es2]; rfl
    have r1 : c.run cap s (c.fwd l r j ++ [(if r = c.n then 1 else 2, (l : Int) + j + 1)]) = (0, s2) := by
      rw [run_append _ _ _ (by rw [e1]), e1]
      simp only [run]
      rw [d2]
      simp
    by_cases ej : j = 0
    · refine ⟨s2, by rw [fwd, if_pos ej, List.append_nil]; exact r1, ?_, g2, em2, sd2, dn2, sin2, co2, pk2⟩
      rw [t2, M.t, if_pos ej, if_neg (by omega)]
      congr 2
    · have t2' : s2.T = s.T ++ [(l : Int) + j] ++ [(l : Int) + j + 1] := by rw [t2, M.t, if_neg ej]
      have nin : (l : Int) + j ∉ s.T := fun hi => by have := hs.tin _ hi; omega
      have w3 := wout_prev (y := (l : Int) + j + 1) nin (by omega)
      have d3 : c.doI cap s2 3 ((l : Int) + j) = (0, c.setPk { s2 with T := wout s2.T ((l : Int) + j) }) := by
        unfold doI
        rw [if_neg (by omega), if_pos rfl, if_pos]
        rw [t2']
        exact contains_yes (by simp)
      refine ⟨c.setPk { s2 with T := wout s2.T ((l : Int) + j) }, ?_, ?_, g2, em2, sd2, dn2, sin2, co2, ?_⟩
      · rw [fwd, if_neg ej, run_append _ _ _ (by rw [r1]), r1]
        simp only [run]
        rw [d3]
        simp
      · simp only [setPk]
        rw [t2', w3, if_neg (by omega)]
        congr 2
      · simp only [setPk, used]
        rw [t2', w3, g2, sumW_append]
        have h1 : c.sumW [(l : Int) + j + 1] = c.w (l + j + 1) := by simp [sumW, eid]
        have h2 := sG1
        rw [M.g] at h2
        rw [h1, h2]
        have h4 := hu
        unfold used at h4
        rw [sT1, sG1, if_neg ej] at h4
        have := h.w_0 (l + j)
        omega

theorem V_left {l r j : Nat} {m : Int} (h : c.Ok) (hj : l + j + 1 < r) (hr : r ≤ c.n) (hv : c.cs l (j + 1) + c.V (l + j + 1) r (m - c.w (l + j + 1)) + c.V l (l + j + 1) m = c.V l r m) (hf : c.V l r m < 1152921504606846976) :
    c.V (l + j + 1) r (m - c.w (l + j + 1)) < 1152921504606846976 ∧ c.V l (l + j + 1) m < 1152921504606846976 := by
  have a := (h.mod (l := l + j + 1) (r := r) (m := m - c.w (l + j + 1)) (by omega) hr).lo
  have b := (h.mod (l := l) (r := l + j + 1) (m := m) (by omega) (by omega)).lo
  have d := h.cs_0 l (j + 1)
  omega
/-- A plan is done without an error, within its words, and costs what the rule says. -/
theorem Plan.run (h : c.Ok) {l r : Nat} {m : Int} {p : List (Int × Int)} (hp : Plan c l r m p) : l < r → r ≤ c.n → ∀ {cap : Int} {s : St}, Start c l r m cap s → ∃ s', c.run cap s p = (0, s') ∧ End c l r m s s' := by
  induction hp with
  | @last l m hl hm =>
    intro _ _ cap s hs
    have hn : (l : Int) + 1 = (c.n : Int) := by omega
    have hnt : ((l : Int) + 1).toNat = l + 1 := by omega
    have hlt : ((l : Int) + 1 - 1).toNat = l := by omega
    have hcap := hs.cap
    have tin := hs.tin
    have nT : (l : Int) + 1 ∉ s.T := fun hi => by have := hs.tin _ hi; omega
    have g0 : s.G = [] := by rw [hs.g, if_pos hl]
    have em0 : s.em = 0 := by rw [hs.em, if_pos hl]
    have sd0 : s.sd = 0 := by rw [hs.sd, if_pos hl]
    have dn0 : s.dn = 0 := by rw [hs.dn]; omega
    have nS : (l : Int) + 1 ∉ s.S := fun hi => by have := (hs.sin _).1 hi; rw [if_pos hl] at this; omega
    have hrd : ∀ t : St, t.T = s.T → ready t ((l : Int) + 1) = true := fun t ht => by
      unfold ready
      rw [ht]
      rcases hs.tl with e | e
      · simp [e]
      · have : (l : Int) + 1 - 1 ∈ s.T := by simpa using e
        rw [contains_yes this, Bool.or_true]
    have hrd' : ∀ t : St, t.T = s.T ++ [(l : Int) + 1] → ready t ((l : Int) + 1) = true := fun t ht => by
      unfold ready
      rw [ht]
      rcases hs.tl with e | e
      · simp [e]
      · have : (l : Int) + 1 - 1 ∈ s.T ++ [(l : Int) + 1] := List.mem_append.2 (.inl (by simpa using e))
        rw [contains_yes this, Bool.or_true]
    have hs1 : c.w (l + 1) + c.kept l ≤ m := hm
    have hk0 := h.kept_0 l
    have hw0 := h.w_0 (l + 1)
    -- compute
    obtain ⟨s1, e1⟩ : ∃ s1, s1 = c.setPk { s with T := s.T ++ [(l : Int) + 1], S := wout s.S ((l : Int) + 1) ++ [(l : Int) + 1], co := s.co + c.k l } := ⟨_, rfl⟩
    have d1 : c.doI cap s 1 ((l : Int) + 1) = (0, s1) := by
      unfold doI
      rw [if_pos (by omega), contains_not nS, contains_not nT, hrd s rfl, hnt, hlt, if_neg (by simp), if_neg (by unfold used; rw [g0]; simp only [sumW]; omega), e1]
    have t1 : s1.T = s.T ++ [(l : Int) + 1] := by rw [e1]; rfl
    have G1 : s1.G = [] := by rw [e1]; exact g0
    have p1 : s1.pk = max s.pk (c.sumW s.T + c.w (l + 1)) := by rw [e1]; simp [setPk, used, sumW_append, sumW, g0, hnt]
    -- emit
    obtain ⟨s2, e2⟩ : ∃ s2, s2 = c.setPk { s1 with em := 1 } := ⟨_, rfl⟩
    have d2 : c.doI cap s1 4 0 = (0, s2) := by
      unfold doI
      rw [if_neg (by omega), if_neg (by omega), if_pos rfl, if_neg, e2]
      rw [show s1.em = 0 from by rw [e1]; exact em0, contains_yes (by rw [t1, hn]; simp)]
      simp
    have t2 : s2.T = s.T ++ [(l : Int) + 1] := by rw [e2]; exact t1
    have G2 : s2.G = [] := by rw [e2]; exact G1
    have p2 : s2.pk = max s1.pk (c.sumW s.T + c.w (l + 1)) := by rw [e2]; simp [setPk, used, sumW_append, sumW, G1, t1, hnt]
    -- free
    obtain ⟨s3, e3⟩ : ∃ s3, s3 = c.setPk { s2 with T := wout s2.T ((l : Int) + 1) } := ⟨_, rfl⟩
    have d3 : c.doI cap s2 3 ((l : Int) + 1) = (0, s3) := by
      unfold doI
      rw [if_neg (by omega), if_pos rfl, if_pos (by rw [t2]; exact contains_yes (by simp)), e3]
    have t3 : s3.T = s.T := by rw [e3]; simp only [setPk]; rw [t2, wout_last nT]
    have G3 : s3.G = [] := by rw [e3]; exact G2
    have p3 : s3.pk = max s2.pk (c.sumW s.T) := by
      rw [e3]; simp only [setPk, used]; rw [t2, wout_last nT, G2]; simp [sumW]
    -- seed
    obtain ⟨s4, e4⟩ : ∃ s4, s4 = c.setPk { s3 with sd := 1, G := s3.G ++ [(c.n : Int)] } := ⟨_, rfl⟩
    have wn : c.w c.n = c.w (l + 1) := by rw [hl]
    have d4 : c.doI cap s3 5 0 = (0, s4) := by
      unfold doI
      rw [if_neg (by omega), if_neg (by omega), if_neg (by omega), if_pos rfl, if_neg, if_neg, e4]
      · unfold used; rw [t3, G3, wn]; simp only [sumW]; omega
      · have : s3.sd = 0 := by rw [e3, e2, e1]; exact sd0
        rw [this]; omega
    have t4 : s4.T = s.T := by rw [e4]; exact t3
    have G4 : s4.G = [(c.n : Int)] := by rw [e4]; simp only [setPk]; rw [G3]; rfl
    have p4 : s4.pk = max s3.pk (c.sumW s.T + c.w (l + 1)) := by rw [e4]; simp [setPk, used, sumW, t3, G3, wn]
    -- back
    have dn4 : s4.dn = 0 := by rw [e4, e3, e2, e1]; exact dn0
    have em4 : s4.em = 1 := by rw [e4, e3, e2]; rfl
    have sd4 : s4.sd = 1 := by rw [e4]; rfl
    have co4 : s4.co = s.co + c.k l := by rw [e4, e3, e2, e1]; rfl
    have S4 : s4.S = wout s.S ((l : Int) + 1) ++ [(l : Int) + 1] := by rw [e4, e3, e2, e1]; rfl
    have c6 : (!s4.G.contains ((l : Int) + 1) || !ready s4 ((l : Int) + 1) || decide ((l : Int) + 1 ≠ (c.n : Int) - s4.dn)) = false := by
      rw [hrd s4 t4, G4, dn4, hn]; simp
    have sin' : ∀ i : Int, i ∈ s4.S ↔ 1 ≤ i ∧ i ≤ (c.n : Int) := fun i => by
      rw [S4]
      simp only [List.mem_append, mem_wout, List.mem_singleton, hs.sin, if_pos hl]
      omega
    have hV : c.V l (l + 1) m = c.k l := by rw [V_one, if_pos hm, own, if_pos hl, Nat.add_sub_cancel]
    have hrun : ∀ s5, c.doI cap s4 6 ((l : Int) + 1) = (0, s5) → c.run cap s [(1, (l : Int) + 1), (4, 0), (3, (l : Int) + 1), (5, 0), (6, (l : Int) + 1)] = (0, s5) := fun s5 d5 => by
      simp only [Ch.run]
      rw [d1]; simp only [if_true]
      rw [d2]; simp only [if_true]
      rw [d3]; simp only [if_true]
      rw [d4]; simp only [if_true]
      rw [d5]; simp only [if_true]
    by_cases hl0 : l = 0
    · have d5 : c.doI cap s4 6 ((l : Int) + 1) = (0, { c.setPk { s4 with dn := s4.dn + 1 } with G := wout s4.G ((l : Int) + 1) }) := by
        unfold doI
        rw [if_neg (by omega), if_neg (by omega), if_neg (by omega), if_neg (by omega), if_pos rfl, c6, if_neg (by simp), if_neg (by omega)]
        rfl
      refine ⟨_, hrun _ d5, t4, ?_, em4, sd4, ?_, sin', ?_, ?_⟩
      · simp only [G4, hn, if_pos hl0]; simp [wout]
      · simp only [setPk, dn4]; omega
      · simp only [setPk, co4, hV]
      · simp only [setPk, used, t4, G4, p4, p3, p2, p1, sumW]
        rw [show ((c.n : Int)).toNat = l + 1 from by omega]
        omega
    · have kl : c.kept l = c.w l := by unfold kept; rw [if_neg hl0]
      have d5 : c.doI cap s4 6 ((l : Int) + 1) = (0, { c.setPk { s4 with G := s4.G ++ [(l : Int) + 1 - 1], dn := s4.dn + 1 } with G := wout (s4.G ++ [(l : Int) + 1 - 1]) ((l : Int) + 1) }) := by
        unfold doI
        rw [if_neg (by omega), if_neg (by omega), if_neg (by omega), if_neg (by omega), if_pos rfl, c6, if_neg (by simp), if_pos (by omega), if_neg]
        · rfl
        · unfold used; rw [t4, G4, hlt]; simp only [sumW]
          rw [show ((c.n : Int)).toNat = l + 1 from by omega]
          omega
      refine ⟨_, hrun _ d5, t4, ?_, em4, sd4, ?_, sin', ?_, ?_⟩
      · simp only [G4, hn, if_neg hl0]
        rw [show (c.n : Int) - 1 = (l : Int) from by omega]
        have : (l : Int) ≠ c.n := by omega
        simp [wout, this]
      · simp only [setPk, dn4]; omega
      · simp only [setPk, co4, hV]
      · simp only [setPk, used, t4, G4, p4, p3, p2, p1, sumW_append, sumW, hlt]
        rw [show ((c.n : Int)).toNat = l + 1 from by omega]
        omega
  | @one l m hl hm =>
    intro _ _ cap s hs
    have hne : ¬ l + 1 = c.n := by omega
    have hlt : ((l : Int) + 1 - 1).toNat = l := by omega
    have hcap := hs.cap
    have g0 : s.G = [((l + 1 : Nat) : Int)] := by rw [hs.g, if_neg hne]
    have em0 : s.em = 1 := by rw [hs.em, if_neg hne]
    have sd0 : s.sd = 1 := by rw [hs.sd, if_neg hne]
    have dn0 := hs.dn
    have hrd : ready s ((l : Int) + 1) = true := by
      unfold ready
      rcases hs.tl with e | e
      · simp [e]
      · have : (l : Int) + 1 - 1 ∈ s.T := by simpa using e
        rw [contains_yes this, Bool.or_true]
    have c6 : (!s.G.contains ((l : Int) + 1) || !ready s ((l : Int) + 1) || decide ((l : Int) + 1 ≠ (c.n : Int) - s.dn)) = false := by
      rw [hrd, g0, dn0]
      have : (l : Int) + 1 = (c.n : Int) - ((c.n : Int) - ((l + 1 : Nat) : Int)) := by omega
      simp
      omega
    have sin' : ∀ i : Int, i ∈ s.S ↔ 1 ≤ i ∧ i ≤ (c.n : Int) := fun i => by rw [hs.sin, if_neg hne]
    have hV : c.V l (l + 1) m = 0 := by rw [V_one, if_pos hm, own, if_neg hne]
    have hs1 : c.w (l + 1) + c.kept l ≤ m := hm
    have hk0 := h.kept_0 l
    have hrun : ∀ s5, c.doI cap s 6 ((l : Int) + 1) = (0, s5) → c.run cap s [(6, (l : Int) + 1)] = (0, s5) := fun s5 d5 => by
      simp only [Ch.run]
      rw [d5]; simp only [if_true]
    by_cases hl0 : l = 0
    · have d5 : c.doI cap s 6 ((l : Int) + 1) = (0, { c.setPk { s with dn := s.dn + 1 } with G := wout s.G ((l : Int) + 1) }) := by
        unfold doI
        rw [if_neg (by omega), if_neg (by omega), if_neg (by omega), if_neg (by omega), if_pos rfl, c6, if_neg (by simp), if_neg (by omega)]
        rfl
      refine ⟨_, hrun _ d5, rfl, ?_, em0, sd0, ?_, sin', ?_, ?_⟩
      · simp only [g0, if_pos hl0]; simp [wout]
      · simp only [setPk, dn0]; omega
      · simp only [setPk, hV]; omega
      · simp only [setPk, used, g0, sumW]
        rw [show ((l + 1 : Nat) : Int).toNat = l + 1 from by omega]
        omega
    · have kl : c.kept l = c.w l := by unfold kept; rw [if_neg hl0]
      have d5 : c.doI cap s 6 ((l : Int) + 1) = (0, { c.setPk { s with G := s.G ++ [(l : Int) + 1 - 1], dn := s.dn + 1 } with G := wout (s.G ++ [(l : Int) + 1 - 1]) ((l : Int) + 1) }) := by
        unfold doI
        rw [if_neg (by omega), if_neg (by omega), if_neg (by omega), if_neg (by omega), if_pos rfl, c6, if_neg (by simp), if_pos (by omega), if_neg]
        · rfl
        · unfold used; rw [g0, hlt]; simp only [sumW]
          rw [show ((l + 1 : Nat) : Int).toNat = l + 1 from by omega]
          omega
      refine ⟨_, hrun _ d5, rfl, ?_, em0, sd0, ?_, sin', ?_, ?_⟩
      · simp only [g0, if_neg hl0]
        rw [show (l : Int) + 1 - 1 = (l : Int) from by omega]
        simp [wout]
        omega
      · simp only [setPk, dn0]; omega
      · simp only [setPk, hV]; omega
      · simp only [setPk, used, g0, sumW_append, sumW, hlt]
        rw [show ((l + 1 : Nat) : Int).toNat = l + 1 from by omega]
        omega
  | @split l r j m p q hj hr hn hv hp hq ihp ihq =>
    intro _ _ cap s hs
    have hcap := hs.cap
    obtain ⟨s1, e1, M⟩ := fwd_run h hs hr (j + 1) (by omega) hn
    have t1 : s1.T = s.T ++ [(l : Int) + j + 1] := by rw [M.t, if_neg (by omega)]; congr 2
    have eid : ((l : Int) + j + 1).toNat = l + j + 1 := by omega
    have ecast : ((l + j + 1 : Nat) : Int) = (l : Int) + j + 1 := by omega
    have sT1 : c.sumW s1.T = c.sumW s.T + c.w (l + j + 1) := by rw [t1, sumW_append]; simp [sumW, eid]
    have hw := h.nd_w hn
    have hw0 := h.w_0 (l + j + 1)
    have st1 : Start c (l + j + 1) r (m - c.w (l + j + 1)) cap s1 :=
      ⟨fun i hi => by
        rw [t1] at hi
        rcases List.mem_append.1 hi with hi | hi
        · have := hs.tin i hi; omega
        · rw [List.mem_singleton.1 hi]; omega,
       .inr (by rw [t1, ecast]; simp), by rw [M.g]; exact hs.g, by rw [M.em]; exact hs.em, by rw [M.sd]; exact hs.sd, by rw [M.dn]; exact hs.dn,
       fun i => by rw [M.sin]; split <;> omega, by rw [sT1]; omega⟩
    obtain ⟨s2, e2, E2⟩ := ihp (by omega) hr st1
    have nT : (l : Int) + j + 1 ∉ s.T := fun hi => by have := hs.tin _ hi; omega
    have t2 : s2.T = s.T ++ [(l : Int) + j + 1] := by rw [E2.t, t1]
    obtain ⟨s3, e3⟩ : ∃ s3, s3 = c.setPk { s2 with T := wout s2.T ((l : Int) + j + 1) } := ⟨_, rfl⟩
    have d3 : c.doI cap s2 3 ((l : Int) + j + 1) = (0, s3) := by
      unfold doI
      rw [if_neg (by omega), if_pos rfl, if_pos (by rw [t2]; exact contains_yes (by simp)), e3]
    have t3 : s3.T = s.T := by rw [e3]; simp only [setPk]; rw [t2, wout_last nT]
    have hkn : ¬ l + j + 1 = c.n := by omega
    have G3 : s3.G = [((l + j + 1 : Nat) : Int)] := by rw [e3]; simp only [setPk]; rw [E2.g, if_neg (by omega)]
    have st3 : Start c l (l + j + 1) m cap s3 :=
      ⟨by rw [t3]; exact hs.tin, by rw [t3]; exact hs.tl, by rw [if_neg hkn]; exact G3, by rw [if_neg hkn, e3]; exact E2.em, by rw [if_neg hkn, e3]; exact E2.sd, by rw [e3]; exact E2.dn,
       fun i => by rw [if_neg hkn, e3]; exact E2.sin i, by rw [t3]; exact hcap⟩
    obtain ⟨s4, e4, E4⟩ := ihq (by omega) (by omega) st3
    refine ⟨s4, ?_, by rw [E4.t, t3], E4.g, E4.em, E4.sd, E4.dn, E4.sin, ?_, ?_⟩
    · have r1 : c.run cap s (c.fwd l r (j + 1) ++ p) = (0, s2) := by rw [run_append _ _ _ (by rw [e1]), e1]; exact e2
      have r2 : c.run cap s (c.fwd l r (j + 1) ++ p ++ [(3, (l : Int) + j + 1)]) = (0, s3) := by
        rw [run_append _ _ _ (by rw [r1]), r1]
        simp only [Ch.run]
        rw [d3]
        simp
      rw [run_append _ _ _ (by rw [r2]), r2]
      exact e4
    · rw [E4.co, e3]
      simp only [setPk]
      rw [E2.co, M.co]
      omega
    · have p4 := E4.pk
      have p2 := E2.pk
      have p1 := M.pk
      have p3 : s3.pk = max s2.pk (c.sumW s.T + c.w (l + j + 1)) := by
        rw [e3]
        simp only [setPk, used]
        rw [t2, wout_last nT, E2.g, if_neg (by omega)]
        simp only [sumW, Int.toNat_natCast, Int.add_zero]
      rw [t3] at p4
      rw [sT1] at p2
      omega

end Ch
end Go.Proofs.Ytphcffcecncngaa
