/- The program's walk of a chain, in plain Lean; it does what the document's does. -/
import Derived.Test.YtphcffcecncngaaChainPlanMath
namespace Go.Proofs.Ytphcffcecncngaa

/-- What the program's walk has: marks of places, the last node that was not taken back, words, peak, cost. -/
structure Wk where
  pr : List Bool
  sv : List Bool
  gr : List Bool
  em : Bool
  sd : Bool
  la : Int
  wo : Int
  pk : Int
  co : Int
namespace Wk
def at_ (l : List Bool) (i : Nat) : Bool := l.getD i false
def legal (s : Wk) (n : Nat) (kind : Int) (id : Nat) : Bool :=
  if kind = 1 then !at_ s.sv id && at_ s.pr (id - 1)
  else if kind = 2 then at_ s.sv id && !at_ s.pr id && at_ s.pr (id - 1)
  else if kind = 3 then at_ s.pr id
  else if kind = 4 then at_ s.pr n && !s.em
  else if kind = 5 then !s.sd
  else decide ((id : Int) = s.la) && at_ s.gr id && at_ s.pr (id - 1)
def more (c : Ch) (kind : Int) (id : Nat) : Int :=
  if kind = 1 ∨ kind = 2 then c.w id else if kind = 5 then c.w c.n else if kind = 6 then c.kept (id - 1) else 0
def add (s : Wk) (x : Int) : Wk := { s with wo := s.wo + x, pk := max s.pk (s.wo + x) }
def act (c : Ch) (s : Wk) (kind : Int) (id : Nat) : Wk :=
  if kind = 1 ∨ kind = 2 then { s with pr := s.pr.set id true, sv := s.sv.set id true, co := s.co + c.k (id - 1) }
  else if kind = 3 then { s with pr := s.pr.set id false, wo := s.wo - c.w id }
  else if kind = 4 then { s with em := true }
  else if kind = 5 then { s with sd := true, gr := s.gr.set c.n true }
  else { s with gr := (s.gr.set (id - 1) (decide (1 < id))).set id false, wo := s.wo - c.w id, la := s.la - 1 }
def step (c : Ch) (s : Wk) (kind : Int) (id : Nat) : Wk := (s.add (more c kind id)).act c kind id
def err (c : Ch) (cap : Int) (s : Wk) (kind : Int) (id : Nat) : Int :=
  if s.legal c.n kind id then (if cap < s.wo + more c kind id then 25 else 0) else 24
def new (n : Nat) : Wk := ⟨(List.replicate (n + 1) false).set 0 true, List.replicate (n + 1) false, List.replicate (n + 1) false, false, false, n, 0, 0, 0⟩
end Wk
/-- An instruction that may be. -/
def insB (n : Nat) (kind id : Int) : Bool := if kind = 4 ∨ kind = 5 then id == 0 else if kind = 1 ∨ kind = 2 ∨ kind = 3 ∨ kind = 6 then decide (1 ≤ id) && decide (id ≤ n) else false
namespace Ch
variable {c : Ch}
theorem sumW_wout {x : Int} : ∀ {l : List Int}, l.Nodup → x ∈ l → c.sumW (wout l x) = c.sumW l - c.w x.toNat
  | [], _, h => by cases h
  | y :: l, hn, h => by
    rw [List.nodup_cons] at hn
    by_cases e : y = x
    · subst e
      have h1 : wout (y :: l) y = wout l y := by unfold wout; simp
      rw [h1, wout_not hn.1, sumW]
      omega
    · have h1 : wout (y :: l) x = y :: wout l x := by unfold wout; simp [e]
      rw [h1, sumW, sumW, sumW_wout hn.2 (by rcases List.mem_cons.1 h with h | h; exact absurd h.symm e; exact h)]
      omega
theorem Ok.sumW_0 (h : c.Ok) : ∀ l : List Int, 0 ≤ c.sumW l
  | [] => by simp [sumW]
  | i :: l => by have := h.sumW_0 l; have := h.w_0 i.toNat; simp only [sumW]; omega
theorem nodup_wout {x : Int} {l : List Int} (h : l.Nodup) : (wout l x).Nodup := by unfold wout; exact h.filter _
theorem nodup_snoc {x : Int} {l : List Int} (h : l.Nodup) (hx : x ∉ l) : (l ++ [x]).Nodup := by
  rw [List.nodup_append]
  refine ⟨h, by simp, fun a ha b hb => ?_⟩
  rw [List.mem_singleton.1 hb]
  intro e; subst e; exact hx ha
/-- The marks are those of a list of places. -/
structure Mk (n : Nat) (b : List Bool) (l : List Int) : Prop where
  len : b.length = n + 1
  iff : ∀ i : Nat, 1 ≤ i → i ≤ n → (Wk.at_ b i = true ↔ (i : Int) ∈ l)
  rng : ∀ x ∈ l, 1 ≤ x ∧ x ≤ (n : Int)
theorem at_set {b : List Bool} {i j : Nat} {v : Bool} : Wk.at_ (b.set i v) j = if i = j ∧ i < b.length then v else Wk.at_ b j := by
  unfold Wk.at_
  rw [List.getD_eq_getElem?_getD, List.getElem?_set, List.getD_eq_getElem?_getD]
  by_cases e : i = j
  · subst e
    rw [if_pos rfl]
    by_cases h : i < b.length
    · rw [if_pos h, if_pos ⟨rfl, h⟩]; rfl
    · rw [if_neg h, if_neg (fun x => h x.2), List.getElem?_eq_none (by omega)]
  · rw [if_neg e, if_neg (fun x => e x.1)]
theorem Mk.add {n i : Nat} {b : List Bool} {l : List Int} (h : Mk n b l) (h1 : 1 ≤ i) (h2 : i ≤ n) : Mk n (b.set i true) (l ++ [(i : Int)]) :=
  ⟨by rw [List.length_set]; exact h.len, fun j hj1 hj2 => by
    rw [at_set, h.len]
    by_cases e : i = j
    · subst e; simp; omega
    · rw [if_neg (fun x => e x.1), h.iff j hj1 hj2]
      simp; omega,
  fun x hx => by
    rcases List.mem_append.1 hx with hx | hx
    · exact h.rng x hx
    · rw [List.mem_singleton.1 hx]; omega⟩
theorem Mk.del {n i : Nat} {b : List Bool} {l : List Int} (h : Mk n b l) (h2 : i ≤ n) : Mk n (b.set i false) (wout l i) :=
  ⟨by rw [List.length_set]; exact h.len, fun j hj1 hj2 => by
    rw [at_set, h.len, mem_wout]
    by_cases e : i = j
    · subst e; simp; omega
    · rw [if_neg (fun x => e x.1), h.iff j hj1 hj2]
      simp; omega,
  fun x hx => h.rng x (mem_wout.1 hx).1⟩
/-- A mark that is set anew. -/
theorem Mk.again {n i : Nat} {b : List Bool} {l : List Int} (h : Mk n b l) (h1 : 1 ≤ i) (h2 : i ≤ n) : Mk n (b.set i true) (wout l i ++ [(i : Int)]) :=
  ⟨by rw [List.length_set]; exact h.len, fun j hj1 hj2 => by
    rw [at_set, h.len]
    by_cases e : i = j
    · subst e; simp; omega
    · rw [if_neg (fun x => e x.1), h.iff j hj1 hj2]
      have hne : (j : Int) ≠ i := by omega
      simp [mem_wout, hne],
  fun x hx => by
    rcases List.mem_append.1 hx with hx | hx
    · exact h.rng x (mem_wout.1 hx).1
    · rw [List.mem_singleton.1 hx]; omega⟩
theorem Mk.zero {n : Nat} {b : List Bool} {l : List Int} (v : Bool) (h : Mk n b l) : Mk n (b.set 0 v) l :=
  ⟨by rw [List.length_set]; exact h.len, fun j hj1 hj2 => by rw [at_set, if_neg (by omega)]; exact h.iff j hj1 hj2, h.rng⟩
theorem Mk.con {n i : Nat} {b : List Bool} {l : List Int} (h : Mk n b l) (h1 : 1 ≤ i) (h2 : i ≤ n) : l.contains (i : Int) = Wk.at_ b i := by
  by_cases e : (i : Int) ∈ l
  · rw [contains_yes e, (h.iff i h1 h2).2 e]
  · rw [contains_not e]
    rcases hb : Wk.at_ b i with _ | _
    · rfl
    · exact absurd ((h.iff i h1 h2).1 hb) e
/-- The program's walk stands where the document's does, behind N instructions. -/
structure Sim (c : Ch) (cap : Int) (N : Nat) (s : Wk) (t : St) : Prop where
  p : Mk c.n s.pr t.T
  v : Mk c.n s.sv t.S
  g : Mk c.n s.gr t.G
  p0 : Wk.at_ s.pr 0 = true
  g0 : Wk.at_ s.gr 0 = false
  nT : t.T.Nodup
  ts : ∀ x ∈ t.T, x ∈ t.S
  em : t.em = if s.em then 1 else 0
  sd : t.sd = if s.sd then 1 else 0
  la : s.la = (c.n : Int) - t.dn
  dn : 0 ≤ t.dn ∧ t.dn ≤ (N : Int)
  wo : s.wo = c.used t
  pk : s.pk = t.pk
  co : s.co = t.co
  fit : s.wo ≤ cap ∨ t.T = [] ∧ t.G = []
  wp : s.wo ≤ s.pk
  wb : s.pk ≤ 65536 * (N : Int)
  c0 : 0 ≤ s.co
  cb : s.co ≤ 1099511627776 * (N : Int)
  gl : t.G = [] ∨ t.G = [s.la]
  gs : s.sd = false → t.G = [] ∧ t.dn = 0
theorem Sim.new {cap : Int} : Sim c cap 0 (Wk.new c.n) St.new := by
  have hf : ∀ i, Wk.at_ (List.replicate (c.n + 1) false) i = false := fun i => by
    unfold Wk.at_
    rw [List.getD_eq_getElem?_getD, List.getElem?_replicate]
    split <;> rfl
  have mk : Mk c.n (List.replicate (c.n + 1) false) [] := ⟨by simp, fun i _ _ => by rw [hf]; simp, by simp⟩
  refine ⟨mk.zero true, mk, mk, ?_, hf 0, List.nodup_nil, ?_, rfl, rfl, ?_, ⟨Int.le_refl _, Int.le_refl _⟩, rfl, rfl, rfl, .inr ⟨rfl, rfl⟩, Int.le_refl _, Int.le_refl _, Int.le_refl _, Int.le_refl _, .inl rfl, fun _ => ⟨rfl, rfl⟩⟩
  · show Wk.at_ ((List.replicate (c.n + 1) false).set 0 true) 0 = true
    rw [at_set]; simp
  · intro x hx; cases hx
  · simp [Wk.new, St.new]
theorem ready_eq {n i : Nat} {b : List Bool} {t : St} (h : Mk n b t.T) (h0 : Wk.at_ b 0 = true) (h1 : 1 ≤ i) (h2 : i ≤ n) : ready t (i : Int) = Wk.at_ b (i - 1) := by
  unfold ready
  by_cases e : i = 1
  · subst e; simp [h0]
  · rw [decide_eq_false (by omega), Bool.false_or, show (i : Int) - 1 = ((i - 1 : Nat) : Int) from by omega]
    exact h.con (by omega) (by omega)
section
variable {cap : Int} {N : Nat} {s : Wk} {t : St} {id : Nat}
theorem at_len {n : Nat} {b : List Bool} {l : List Int} (_ : Mk n b l) (i : Nat) (h : 1 ≤ i) (v : Bool) : Wk.at_ (b.set i v) 0 = Wk.at_ b 0 := by
  rw [at_set, if_neg (by omega)]
/-- A node is computed. -/
theorem Sim.compute (hok : c.Ok) (h : Sim c cap N s t) (h1 : 1 ≤ id) (h2 : id ≤ c.n) (hT : (id : Int) ∉ t.T) (hc : s.wo + c.w id ≤ cap) :
    Sim c cap (N + 1) ({ s.add (c.w id) with pr := s.pr.set id true, sv := s.sv.set id true, co := s.co + c.k (id - 1) })
      (c.setPk { t with T := t.T ++ [(id : Int)], S := wout t.S id ++ [(id : Int)], co := t.co + c.k ((id : Int) - 1).toNat }) := by
  have e1 : ((id : Int) - 1).toNat = id - 1 := by omega
  have e2 : ((id : Int)).toNat = id := by omega
  have hw := h.wo
  have wp := h.wp
  have wb := h.wb
  have w0 := hok.w_0 id
  have w2 := hok.w_2 id
  have hu : c.sumW (t.T ++ [(id : Int)]) + c.sumW t.G = s.wo + c.w id := by
    rw [hw, used, sumW_append]; simp only [sumW, e2]; omega
  refine ⟨h.p.add h1 h2, h.v.again h1 h2, h.g, (at_len h.p id h1 true).trans h.p0, h.g0, nodup_snoc h.nT hT, fun x hx => ?_, h.em, h.sd, h.la, ⟨h.dn.1, by have := h.dn.2; show t.dn ≤ _; omega⟩, hu.symm, ?_, ?_, .inl hc, ?_, ?_, ?_, ?_, h.gl, h.gs⟩
  · by_cases e : x = id
    · subst e; exact List.mem_append.2 (.inr (by simp))
    · refine List.mem_append.2 (.inl (mem_wout.2 ⟨h.ts x ?_, e⟩))
      rcases List.mem_append.1 hx with hx | hx
      · exact hx
      · exact absurd (List.mem_singleton.1 hx) e
  · show max s.pk (s.wo + c.w id) = max t.pk (c.used _)
    rw [h.pk]; congr 1; exact hu.symm
  · show s.co + c.k (id - 1) = t.co + c.k ((id : Int) - 1).toNat
    rw [e1, h.co]
  · show s.wo + c.w id ≤ max s.pk (s.wo + c.w id)
    omega
  · show max s.pk (s.wo + c.w id) ≤ _
    omega
  · have := h.c0; have := hok.k_0 (id - 1); show 0 ≤ s.co + c.k (id - 1); omega
  · have := h.cb; have := hok.k_2 (id - 1); show s.co + c.k (id - 1) ≤ _; omega
/-- A tensor is freed. -/
theorem Sim.free (hok : c.Ok) (h : Sim c cap N s t) (h2 : id ≤ c.n) (h1 : 1 ≤ id) (hT : (id : Int) ∈ t.T) :
    Sim c cap (N + 1) ({ s.add 0 with pr := s.pr.set id false, wo := s.wo + 0 - c.w id }) (c.setPk { t with T := wout t.T id }) := by
  have e2 : ((id : Int)).toNat = id := by omega
  have hw := h.wo
  have wp := h.wp
  have wb := h.wb
  have w0 := hok.w_0 id
  have hu : c.sumW (wout t.T id) + c.sumW t.G = s.wo - c.w id := by
    rw [hw, used, sumW_wout h.nT hT, e2]; omega
  have hc : s.wo ≤ cap := by
    rcases h.fit with f | f
    · exact f
    · rw [f.1] at hT; cases hT
  refine ⟨h.p.del h2, h.v, h.g, by rw [← h.p0]; exact at_len h.p id h1 false, h.g0, nodup_wout h.nT, fun x hx => h.ts x (mem_wout.1 hx).1, h.em, h.sd, h.la, ⟨h.dn.1, by have := h.dn.2; show t.dn ≤ _; omega⟩, ?_, ?_, h.co, .inl ?_, ?_, ?_, h.c0, ?_, h.gl, h.gs⟩
  · show s.wo + 0 - c.w id = c.sumW (wout t.T id) + c.sumW t.G
    omega
  · show max s.pk (s.wo + 0) = max t.pk (c.sumW (wout t.T id) + c.sumW t.G)
    rw [hu, ← h.pk]; omega
  · show s.wo + 0 - c.w id ≤ cap
    omega
  · show s.wo + 0 - c.w id ≤ max s.pk (s.wo + 0)
    omega
  · show max s.pk (s.wo + 0) ≤ _
    omega
  · have := h.cb; show s.co ≤ _; omega
theorem Sim.emit (h : Sim c cap N s t) (hc : s.wo ≤ cap) : Sim c cap (N + 1) ({ s.add 0 with em := true }) (c.setPk { t with em := 1 }) := by
  have hw := h.wo
  have wp := h.wp
  have wb := h.wb
  unfold used at hw
  refine ⟨h.p, h.v, h.g, h.p0, h.g0, h.nT, h.ts, rfl, h.sd, h.la, ⟨h.dn.1, by have := h.dn.2; show t.dn ≤ _; omega⟩, ?_, ?_, h.co, .inl ?_, ?_, ?_, h.c0, ?_, h.gl, h.gs⟩
  · show s.wo + 0 = c.sumW t.T + c.sumW t.G
    omega
  · show max s.pk (s.wo + 0) = max t.pk (c.sumW t.T + c.sumW t.G)
    rw [← h.pk]; omega
  · show s.wo + 0 ≤ cap
    omega
  · show s.wo + 0 ≤ max s.pk (s.wo + 0)
    omega
  · show max s.pk (s.wo + 0) ≤ _
    omega
  · have := h.cb; show s.co ≤ _; omega
theorem Sim.seed (hok : c.Ok) (h : Sim c cap N s t) (hs : s.sd = false) (hc : s.wo + c.w c.n ≤ cap) : Sim c cap (N + 1) ({ s.add (c.w c.n) with sd := true, gr := s.gr.set c.n true }) (c.setPk { t with sd := 1, G := t.G ++ [(c.n : Int)] }) := by
  have hw := h.wo
  have wp := h.wp
  have wb := h.wb
  have w0 := hok.w_0 c.n
  have w2 := hok.w_2 c.n
  have n1 := hok.n1
  obtain ⟨g1, g2⟩ := h.gs hs
  have hla : s.la = (c.n : Int) := by rw [h.la, g2]; omega
  have hu : c.sumW t.T + c.sumW (t.G ++ [(c.n : Int)]) = s.wo + c.w c.n := by
    rw [hw, used, sumW_append]; simp only [sumW, Int.toNat_natCast]; omega
  refine ⟨h.p, h.v, h.g.add n1 (Nat.le_refl _), h.p0, ?_, h.nT, h.ts, h.em, rfl, h.la, ⟨h.dn.1, by have := h.dn.2; show t.dn ≤ _; omega⟩, hu.symm, ?_, h.co, .inl hc, ?_, ?_, h.c0, ?_, .inr ?_, fun e => by cases e⟩
  · rw [← h.g0]; exact at_len h.g c.n n1 true
  · show max s.pk (s.wo + c.w c.n) = max t.pk (c.sumW t.T + c.sumW (t.G ++ [(c.n : Int)]))
    rw [h.pk, hu]
  · show s.wo + c.w c.n ≤ max s.pk (s.wo + c.w c.n)
    omega
  · show max s.pk (s.wo + c.w c.n) ≤ _
    omega
  · have := h.cb; show s.co ≤ _; omega
  · show t.G ++ [(c.n : Int)] = [s.la]
    rw [g1, hla]; rfl
theorem Sim.back (hok : c.Ok) (h : Sim c cap N s t) (h1 : 1 < id) (h2 : id ≤ c.n) (hl : (id : Int) = s.la) (hG : (id : Int) ∈ t.G) (hc : s.wo + c.w (id - 1) ≤ cap) :
    Sim c cap (N + 1) ({ s.add (c.w (id - 1)) with gr := (s.gr.set (id - 1) true).set id false, wo := s.wo + c.w (id - 1) - c.w id, la := s.la - 1 })
      ({ c.setPk { t with G := t.G ++ [(id : Int) - 1], dn := t.dn + 1 } with G := wout (t.G ++ [(id : Int) - 1]) id }) := by
  have hw := h.wo
  have wp := h.wp
  have wb := h.wb
  have w0 := hok.w_0 (id - 1)
  have w2 := hok.w_2 (id - 1)
  have w1 := hok.w_0 id
  have e1 : ((id : Int) - 1) = ((id - 1 : Nat) : Int) := by omega
  have g1 : t.G = [(id : Int)] := by
    rcases h.gl with g | g
    · rw [g] at hG; cases hG
    · rw [g, hl]
  have hne : ((id - 1 : Nat) : Int) ≠ (id : Int) := by omega
  have g2 : wout (t.G ++ [((id - 1 : Nat) : Int)]) id = [((id - 1 : Nat) : Int)] := by
    rw [g1]; unfold wout
    simp [hne]
  have hu : c.sumW t.T + c.sumW (t.G ++ [((id - 1 : Nat) : Int)]) = s.wo + c.w (id - 1) := by
    rw [hw, used, sumW_append]; simp only [sumW, Int.toNat_natCast]; omega
  have hu2 : c.sumW t.T + c.sumW [((id - 1 : Nat) : Int)] = s.wo + c.w (id - 1) - c.w id := by
    rw [hw, used, g1]; simp only [sumW, Int.toNat_natCast]; omega
  rw [e1]
  refine ⟨h.p, h.v, (h.g.add (by omega) (by omega)).del h2, h.p0, ?_, h.nT, h.ts, h.em, h.sd, ?_, ⟨by have := h.dn.1; show 0 ≤ t.dn + 1; omega, by have := h.dn.2; show t.dn + 1 ≤ _; omega⟩, ?_, ?_, h.co, .inl ?_, ?_, ?_, h.c0, ?_, .inr ?_, ?_⟩
  · show Wk.at_ ((s.gr.set (id - 1) true).set id false) 0 = false
    rw [at_set, if_neg (by omega), at_set, if_neg (by omega)]; exact h.g0
  · show s.la - 1 = (c.n : Int) - (t.dn + 1)
    rw [h.la]; omega
  · show s.wo + c.w (id - 1) - c.w id = c.sumW t.T + c.sumW (wout (t.G ++ [((id - 1 : Nat) : Int)]) id)
    rw [g2, hu2]
  · show max s.pk (s.wo + c.w (id - 1)) = max t.pk (c.sumW t.T + c.sumW (t.G ++ [((id - 1 : Nat) : Int)]))
    rw [h.pk, hu]
  · show s.wo + c.w (id - 1) - c.w id ≤ cap
    omega
  · show s.wo + c.w (id - 1) - c.w id ≤ max s.pk (s.wo + c.w (id - 1))
    omega
  · show max s.pk (s.wo + c.w (id - 1)) ≤ _
    omega
  · have := h.cb; show s.co ≤ _; omega
  · show wout (t.G ++ [((id - 1 : Nat) : Int)]) id = [s.la - 1]
    rw [g2, ← hl, e1]
  · intro e
    have := h.gs e
    rw [this.1] at hG; cases hG
theorem Sim.backOne (hok : c.Ok) (h : Sim c cap N s t) (h2 : 1 ≤ c.n) (hl : (1 : Int) = s.la) (hG : (1 : Int) ∈ t.G) :
    Sim c cap (N + 1) ({ s.add 0 with gr := (s.gr.set 0 false).set 1 false, wo := s.wo + 0 - c.w 1, la := s.la - 1 })
      ({ c.setPk { t with dn := t.dn + 1 } with G := wout t.G 1 }) := by
  have hw := h.wo
  have wp := h.wp
  have wb := h.wb
  have w1 := hok.w_0 1
  have g1 : t.G = [(1 : Int)] := by
    rcases h.gl with g | g
    · rw [g] at hG; cases hG
    · rw [g, hl]
  have g2 : wout t.G 1 = [] := by rw [g1]; unfold wout; simp
  have hc : s.wo ≤ cap := by
    rcases h.fit with f | f
    · exact f
    · rw [f.2] at hG; cases hG
  have hu2 : c.sumW t.T + c.sumW [] = s.wo - c.w 1 := by
    rw [hw, used, g1]; simp only [sumW, Int.toNat_one]; omega
  have d1 : Mk c.n ((s.gr.set 0 false).set 1 false) (wout t.G ((1 : Nat) : Int)) := (h.g.zero false).del h2
  unfold used at hw
  refine ⟨h.p, h.v, d1, h.p0, ?_, h.nT, h.ts, h.em, h.sd, ?_, ⟨by have := h.dn.1; show 0 ≤ t.dn + 1; omega, by have := h.dn.2; show t.dn + 1 ≤ _; omega⟩, ?_, ?_, h.co, .inl ?_, ?_, ?_, h.c0, ?_, .inl g2, ?_⟩
  · show Wk.at_ ((s.gr.set 0 false).set 1 false) 0 = false
    rw [at_set, if_neg (by omega), at_set]; split
    · rfl
    · exact h.g0
  · show s.la - 1 = (c.n : Int) - (t.dn + 1)
    rw [h.la]; omega
  · show s.wo + 0 - c.w 1 = c.sumW t.T + c.sumW (wout t.G 1)
    rw [g2]; omega
  · show max s.pk (s.wo + 0) = max t.pk (c.sumW t.T + c.sumW t.G)
    rw [h.pk]; congr 1; omega
  · show s.wo + 0 - c.w 1 ≤ cap
    omega
  · show s.wo + 0 - c.w 1 ≤ max s.pk (s.wo + 0)
    omega
  · show max s.pk (s.wo + 0) ≤ _
    omega
  · have := h.cb; show s.co ≤ _; omega
  · intro e
    have := h.gs e
    rw [this.1] at hG; cases hG
/-- Both walks do the same. -/
theorem Sim.do (hok : c.Ok) (h : Sim c cap N s t) {kind : Int} (hi : insB c.n kind id = true) :
    (c.doI cap t kind id).1 = s.err c cap kind id ∧ ((c.doI cap t kind id).1 = 0 → Sim c cap (N + 1) (s.step c kind id) (c.doI cap t kind id).2) := by
  have n1 := hok.n1
  have hw := h.wo
  unfold insB at hi
  by_cases k4 : kind = 4 ∨ kind = 5
  · rw [if_pos k4] at hi
    have hid : (id : Int) = 0 := by simpa using hi
    rcases k4 with rfl | rfl
    · have hem : decide (t.em = 1) = s.em := by rw [h.em]; cases s.em <;> rfl
      have hl : s.legal c.n 4 id = (Wk.at_ s.pr c.n && !s.em) := rfl
      have hm : Wk.more c 4 id = 0 := rfl
      have hd : c.doI cap t 4 id = if s.em || !Wk.at_ s.pr c.n then (24, t) else (0, c.setPk { t with em := 1 }) := by
        unfold doI
        rw [if_neg (by omega), if_neg (by omega), if_pos rfl, hem, h.p.con n1 (Nat.le_refl _)]
      have hst : s.step c 4 id = { s.add 0 with em := true } := rfl
      rw [hd, Wk.err, hl, hm, hst]
      rcases e1 : s.em with _ | _
      · rcases e2 : Wk.at_ s.pr c.n with _ | _
        · simp
        · have hT := (h.p.iff c.n n1 (Nat.le_refl _)).1 e2
          have hc : s.wo ≤ cap := by
            rcases h.fit with f | f
            · exact f
            · rw [f.1] at hT; cases hT
          simp only [Bool.false_or, Bool.not_true, Bool.false_eq_true, if_false, Bool.not_false, Bool.and_self, if_true]
          rw [if_neg (by omega)]
          exact ⟨rfl, fun _ => h.emit hc⟩
      · simp
    · have hsd : (t.sd = 1) ↔ s.sd = true := by rw [h.sd]; cases s.sd <;> simp
      have hl : s.legal c.n 5 id = !s.sd := rfl
      have hm : Wk.more c 5 id = c.w c.n := rfl
      have hd : c.doI cap t 5 id = if t.sd = 1 then (24, t) else if cap < c.used t + c.w c.n then (25, t) else (0, c.setPk { t with sd := 1, G := t.G ++ [(c.n : Int)] }) := by
        unfold doI
        rw [if_neg (by omega), if_neg (by omega), if_neg (by omega), if_pos rfl]
      have hst : s.step c 5 id = { s.add (c.w c.n) with sd := true, gr := s.gr.set c.n true } := rfl
      rw [hd, Wk.err, hl, hm, hst, ← hw]
      rcases e1 : s.sd with _ | _
      · rw [if_neg (by rw [hsd, e1]; simp)]
        simp only [Bool.not_false, if_true]
        split
        · exact ⟨rfl, fun e => by simp at e⟩
        · exact ⟨rfl, fun _ => h.seed hok e1 (by omega)⟩
      · rw [if_pos (hsd.2 e1)]; simp
  · rw [if_neg k4] at hi
    by_cases k1 : kind = 1 ∨ kind = 2 ∨ kind = 3 ∨ kind = 6
    · rw [if_pos k1] at hi
      simp only [Bool.and_eq_true, decide_eq_true_eq] at hi
      have h1 : 1 ≤ id := by omega
      have h2 : id ≤ c.n := by omega
      have e1 : ((id : Int) - 1).toNat = id - 1 := by omega
      have e2 : ((id : Int)).toNat = id := by omega
      have hrd := ready_eq h.p h.p0 h1 h2
      have hS := h.v.con h1 h2
      have hT := h.p.con h1 h2
      have hG := h.g.con h1 h2
      rcases k1 with rfl | rfl | rfl | rfl
      · have hl : s.legal c.n 1 id = (!Wk.at_ s.sv id && Wk.at_ s.pr (id - 1)) := rfl
        have hm : Wk.more c 1 id = c.w id := rfl
        have hst : s.step c 1 id = { s.add (c.w id) with pr := s.pr.set id true, sv := s.sv.set id true, co := s.co + c.k (id - 1) } := rfl
        have hd : c.doI cap t 1 id = if (Wk.at_ s.sv id != decide ((1 : Int) = 2)) || Wk.at_ s.pr id || !Wk.at_ s.pr (id - 1) then (24, t) else if cap < c.used t + c.w id then (25, t) else (0, c.setPk { t with T := t.T ++ [(id : Int)], S := wout t.S id ++ [(id : Int)], co := t.co + c.k ((id : Int) - 1).toNat }) := by
          unfold doI
          rw [if_pos (by omega), hS, hT, hrd, e2]
        have hts : Wk.at_ s.sv id = false → Wk.at_ s.pr id = false := fun e => by
          rcases e3 : Wk.at_ s.pr id with _ | _
          · rfl
          · have := (h.v.iff id h1 h2).2 (h.ts _ ((h.p.iff id h1 h2).1 e3))
            rw [e] at this; cases this
        rw [hd, Wk.err, hl, hm, hst, ← hw]
        rcases b1 : Wk.at_ s.sv id with _ | _
        · rw [hts b1]
          rcases b2 : Wk.at_ s.pr (id - 1) with _ | _
          · simp
          · simp only [show decide ((1 : Int) = 2) = false from rfl, bne_self_eq_false, Bool.or_self, Bool.not_true, Bool.false_eq_true, if_false, Bool.not_false, Bool.and_self, if_true]
            split
            · exact ⟨rfl, fun e => by simp at e⟩
            · exact ⟨rfl, fun _ => h.compute hok h1 h2 (fun hx => by have := (h.p.iff id h1 h2).2 hx; rw [hts b1] at this; cases this) (by omega)⟩
        · simp
      · have hl : s.legal c.n 2 id = (Wk.at_ s.sv id && !Wk.at_ s.pr id && Wk.at_ s.pr (id - 1)) := rfl
        have hm : Wk.more c 2 id = c.w id := rfl
        have hst : s.step c 2 id = { s.add (c.w id) with pr := s.pr.set id true, sv := s.sv.set id true, co := s.co + c.k (id - 1) } := rfl
        have hd : c.doI cap t 2 id = if (Wk.at_ s.sv id != decide ((2 : Int) = 2)) || Wk.at_ s.pr id || !Wk.at_ s.pr (id - 1) then (24, t) else if cap < c.used t + c.w id then (25, t) else (0, c.setPk { t with T := t.T ++ [(id : Int)], S := wout t.S id ++ [(id : Int)], co := t.co + c.k ((id : Int) - 1).toNat }) := by
          unfold doI
          rw [if_pos (by omega), hS, hT, hrd, e2]
        rw [hd, Wk.err, hl, hm, hst, ← hw]
        rcases b1 : Wk.at_ s.sv id with _ | _
        · simp
        · rcases b3 : Wk.at_ s.pr id with _ | _
          · rcases b2 : Wk.at_ s.pr (id - 1) with _ | _
            · simp
            · rw [if_neg (show ¬ ((true != decide ((2 : Int) = 2)) || false || !true) = true from by decide), if_pos (show (true && !false && true) = true from rfl)]
              split
              · exact ⟨rfl, fun e => by simp at e⟩
              · exact ⟨rfl, fun _ => h.compute hok h1 h2 (fun hx => by have := (h.p.iff id h1 h2).2 hx; rw [b3] at this; cases this) (by omega)⟩
          · simp
      · have hl : s.legal c.n 3 id = Wk.at_ s.pr id := rfl
        have hm : Wk.more c 3 id = 0 := rfl
        have hst : s.step c 3 id = { s.add 0 with pr := s.pr.set id false, wo := s.wo + 0 - c.w id } := rfl
        have hd : c.doI cap t 3 id = if Wk.at_ s.pr id then (0, c.setPk { t with T := wout t.T id }) else (24, t) := by
          unfold doI
          rw [if_neg (by omega), if_pos rfl, hT]
        rw [hd, Wk.err, hl, hm, hst]
        rcases b1 : Wk.at_ s.pr id with _ | _
        · simp
        · have hx := (h.p.iff id h1 h2).1 b1
          have hc : s.wo ≤ cap := by
            rcases h.fit with f | f
            · exact f
            · rw [f.1] at hx; cases hx
          simp only [if_true]
          rw [if_neg (by omega)]
          exact ⟨rfl, fun _ => h.free hok h2 h1 hx⟩
      · have hl : s.legal c.n 6 id = (decide ((id : Int) = s.la) && Wk.at_ s.gr id && Wk.at_ s.pr (id - 1)) := rfl
        have hm : Wk.more c 6 id = c.kept (id - 1) := rfl
        have hd : c.doI cap t 6 id = if !Wk.at_ s.gr id || !Wk.at_ s.pr (id - 1) || decide ((id : Int) ≠ s.la) then (24, t) else if 1 < (id : Int) then
            (if cap < c.used t + c.w (id - 1) then (25, t) else (0, { c.setPk { t with G := t.G ++ [(id : Int) - 1], dn := t.dn + 1 } with G := wout (t.G ++ [(id : Int) - 1]) id }))
            else (0, { c.setPk { t with dn := t.dn + 1 } with G := wout t.G id }) := by
          unfold doI
          rw [if_neg (by omega), if_neg (by omega), if_neg (by omega), if_neg (by omega), if_pos rfl, hG, hrd, e1, ← h.la]
          rfl
        rw [hd, Wk.err, hl, hm, ← hw]
        rcases b1 : Wk.at_ s.gr id with _ | _
        · simp
        rcases b2 : Wk.at_ s.pr (id - 1) with _ | _
        · simp
        by_cases b3 : (id : Int) = s.la
        rotate_left
        · simp [b3]
        have hx := (h.g.iff id h1 h2).1 b1
        rw [decide_eq_true b3, decide_eq_false (show ¬ ((id : Int) ≠ s.la) from fun x => x b3)]
        simp only [Bool.not_true, Bool.or_self, Bool.false_eq_true, if_false, Bool.and_self, if_true]
        by_cases b4 : 1 < (id : Int)
        · have hk : c.kept (id - 1) = c.w (id - 1) := by unfold kept; rw [if_neg (by omega)]
          have hst : s.step c 6 id = { s.add (c.w (id - 1)) with gr := (s.gr.set (id - 1) true).set id false, wo := s.wo + c.w (id - 1) - c.w id, la := s.la - 1 } := by
            unfold Wk.step
            rw [hm, hk]
            unfold Wk.act
            rw [if_neg (by omega), if_neg (by omega), if_neg (by omega), if_neg (by omega), decide_eq_true (by omega)]
            rfl
          rw [if_pos b4, hk, hst]
          split
          · exact ⟨rfl, fun e => by simp at e⟩
          · exact ⟨rfl, fun _ => h.back hok (by omega) h2 b3 hx (by omega)⟩
        · obtain rfl : id = 1 := by omega
          have hk : c.kept (1 - 1) = 0 := by unfold kept; rw [if_pos rfl]
          have hst : s.step c 6 1 = { s.add 0 with gr := (s.gr.set 0 false).set 1 false, wo := s.wo + 0 - c.w 1, la := s.la - 1 } := by
            unfold Wk.step
            rw [hm, hk]
            unfold Wk.act
            rw [if_neg (by omega), if_neg (by omega), if_neg (by omega), if_neg (by omega), decide_eq_false (by omega)]
            rfl
          have hc : s.wo ≤ cap := by
            rcases h.fit with f | f
            · exact f
            · rw [f.2] at hx; cases hx
          rw [if_neg b4, hk, hst, if_neg (by omega)]
          exact ⟨rfl, fun _ => h.backOne hok n1 b3 hx⟩
    · rw [if_neg k1] at hi; cases hi
end
end Ch
end Go.Proofs.Ytphcffcecncngaa
