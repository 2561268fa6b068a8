/- The bound that the statement's form gives on all that is read: lengths of slices. -/
import Derived.Test.YtingmabmglpmaaaOpenT
import Derived.SizedLaws
namespace Go.Proofs.Ytingmabmglpmaaa
open Go.RowKit Go.ChangeShapes Go.WideShapes Go.Deep

/-- No slice of the datum takes more than the reach. -/
def Wt {H : Type} (t : TypeId) (d : DataW H) : Prop := ∀ n ∈ d.weights Try.prog t, n ≤ reachBytes
abbrev reach8 : Nat := 17592186043904
theorem wt_each {H : Type} {ts : List TypeId} {ds : List (DataW H)} (h : (DataW.weightsEach Try.prog ts ds).all (· ≤ reachBytes) = true) {j : Nat} {t : TypeId} {d : DataW H} (ht : ts[j]? = some t) (hd : ds[j]? = some d) : Wt t d :=
  fun n hn => by simpa using List.all_eq_true.1 h _ (DataW.weights_mem_each ht hd n hn)
section
variable {H : Type} {enc : TypeId × Value → H} {W : World} {base : Nat} {held : Bool}
theorem trod_intsW {T E : TypeId} {fuel : Nat} {v : Value} {x : DataW H × List MemPlace} (hT : Try.prog.underlying T = some (.slice E)) (hE : Try.prog.underlying E = some (.int .i64)) (hc : Try.prog.cellsOf E = 1) (hb : Try.prog.bytesOf E = 8)
    (h : DataW.trod enc Try.prog W base (fun _ => true) held fuel T [v] = some x) (hw : Wt T x.1) : ∃ A c zs, v = .slice A (List.length zs) c ∧ IntsIn W A c zs ∧ zs.length ≤ reach8 := by
  obtain ⟨A, c, zs, rfl, hi⟩ := trod_ints hT hE hc h
  refine ⟨A, c, zs, rfl, hi, ?_⟩
  rcases open_ints hT hE hc h with ⟨hcs, _⟩ | ⟨a, l, c, zs', hcs, _, hl, hm, hz, hx, _, _⟩
  · injection hcs with hcs; injection hcs with _ e _; omega
  · injection hcs with hcs
    injection hcs with _ e _
    subst hx
    have := hw ((((zs'.take l).length + (zs'.drop l).length)) * 8) (by simp [DataW.weights, hT, hb, lits])
    simp only [if_true] at hz
    simp [reachBytes] at this
    unfold reach8
    omega
set_option maxRecDepth 100000 in
theorem trod_gridW {fuel : Nat} {cs : List Value} {x : DataW H × List MemPlace} (h : DataW.trod enc Try.prog W base (fun _ => true) held fuel 26 cs = some x) (hl : cs.length = 2) (hw : Wt 26 x.1) :
    ∃ A c zs B d xs, cs = [.slice A (List.length zs) c, .slice B (List.length xs) d] ∧ IntsIn W A c zs ∧ IntsIn W B d xs ∧ zs.length ≤ reach8 ∧ xs.length ≤ reach8 := by
  match cs, hl with
  | [v0, v1], _ =>
    obtain ⟨ys, n, _, hx, _, hyl, hg⟩ := DataW.trod_struct Try.underlying26 h
    match ys, hyl with
    | [y0, y1], _ =>
      have h0 : DataW.trod enc Try.prog W base (fun _ => true) held n 23 [v0] = some y0 := hg 0 _ rfl
      have h1 : DataW.trod enc Try.prog W base (fun _ => true) held n 24 [v1] = some y1 := hg 1 _ rfl
      have e : x.1 = .agg [y0.1, y1.1] := by rw [hx]; rfl
      have hws : ∀ n ∈ DataW.weightsEach Try.prog [23, 24] [y0.1, y1.1], n ≤ reachBytes := by
        intro n hn
        refine hw n ?_
        rw [e]
        simp only [DataW.weights, Try.underlying26]
        exact hn
      obtain ⟨A, c, zs, rfl, i0, l0⟩ := trod_intsW Try.underlying23 Try.underlying3 (by kernel_rfl) (by kernel_rfl) h0 (fun n hn => hws n (DataW.weights_mem_each (j := 0) rfl rfl n hn))
      obtain ⟨B, d, xs, rfl, i1, l1⟩ := trod_intsW Try.underlying24 Try.underlying38 (by kernel_rfl) (by kernel_rfl) h1 (fun n hn => hws n (DataW.weights_mem_each (j := 1) rfl rfl n hn))
      exact ⟨A, c, zs, B, d, xs, rfl, i0, i1, l0, l1⟩
theorem weightsAll_mem {e : TypeId} : ∀ {l : List (DataW H)} {d : DataW H}, d ∈ l → ∀ n ∈ d.weights Try.prog e, n ∈ DataW.weightsAll Try.prog e l
  | a :: l, d, h, n, hn => by
    simp only [DataW.weightsAll, List.mem_append]
    rcases List.mem_cons.1 h with rfl | h
    · exact .inl hn
    · exact .inr (weightsAll_mem h n hn)
/-- A slice of tensors among the parameters, all lengths within the reach. -/
structure TensW (W : World) (A : Option Addr) (c : Nat) (ts : List Tn) : Prop where
  rd : TRd W A ts
  big : ∀ t ∈ ts, t.zs.length ≤ reach8 ∧ t.xs.length ≤ reach8
  caps : ∀ t ∈ ts, t.zs.length ≤ t.c
  len : ts.length * 48 ≤ 140737488351232
  cap : ts.length ≤ c
set_option maxRecDepth 100000 in
theorem trod_tensW {fuel : Nat} {v : Value} {x : DataW H × List MemPlace} (h : DataW.trod enc Try.prog W base (fun _ => true) held fuel 27 [v] = some x) (hw : Wt 27 x.1) : ∃ A c ts, v = .slice A (List.length ts) c ∧ TensW W A c ts := by
  rcases open_slice Try.underlying27 h with ⟨hcs, _⟩ | ⟨a, len, cap, m, n, D, Pl, hcs, _, hl, hm, hmm, hx, hi⟩
  · injection hcs with hcs; subst hcs
    exact ⟨none, 0, [], rfl, TRd.nil _ _, by simp, by simp, by simp, Nat.le_refl _⟩
  · injection hcs with hcs; subst hcs
    simp only [if_true] at hmm
    subst hmm
    have hC : Try.prog.cellsOf 26 = 2 := by kernel_rfl
    have hB : Try.prog.bytesOf 26 = 48 := by kernel_rfl
    have hwd : ∀ i, i < len → Wt 26 (D i) := fun i hi n hn => by
      refine hw n ?_
      rw [hx]
      simp only [DataW.weights, Try.underlying27, List.mem_cons, List.mem_append]
      exact .inr (.inl (weightsAll_mem (List.mem_map.2 ⟨i, List.mem_range.2 hi, rfl⟩) n hn))
    have hlen : len * 48 ≤ 140737488351232 := by
      have := hw ((len + (m - len)) * 48) (by rw [hx]; simp [DataW.weights, Try.underlying27, hB])
      simp [reachBytes] at this
      omega
    have key : ∀ i, i < len → ∃ (b o : Nat) (t : Tn), a = ⟨b, o, none⟩ ∧ TIn W b (o + i * 2) t ∧ t.zs.length ≤ reach8 ∧ t.xs.length ≤ reach8 ∧ t.zs.length ≤ t.c := by
      intro i him
      obtain ⟨cs', hc, ht⟩ := hi i (by omega)
      rw [hC] at hc
      obtain ⟨_, hcl, hat⟩ := World.cells?_some hc
      obtain ⟨A, c, zs, B, d, xs, rfl, i0, i1, l0, l1⟩ := trod_gridW ht hcl (hwd i him)
      have g0 := hat 0 (by omega)
      have g1 := hat 1 (by omega)
      rw [Go.Deep.add_add] at g0 g1
      have ea : ∃ b o, a = ⟨b, o, none⟩ := by
        obtain ⟨cs0, hc0, ht0⟩ := hi 0 (by omega)
        rw [hC] at hc0
        obtain ⟨_, hcl0, hat0⟩ := World.cells?_some hc0
        obtain ⟨_, _, _, _, _, _, rfl, _, _⟩ := trod_grid ht0 hcl0
        have g := hat0 0 (by omega)
        rw [Go.Deep.add_add] at g
        exact cell_none (show W.cell? (a.add 0) = some _ from g)
      obtain ⟨b', o', rfl⟩ := ea
      rw [add_plain] at g0 g1
      exact ⟨b', o', ⟨A, c, zs, B, d, xs⟩, rfl, ⟨World.block_lt_of_cell? W _ g0, g0, g1, i0.rd, i1.rd, i1.2.1, fun z hz => wf_bounds (i1.2.2.2 z hz)⟩, l0, l1, i0.2.1⟩
    have all : ∀ k, k ≤ len → ∃ ts : List Tn, ts.length = k ∧ TRd W (some a) ts ∧ ∀ t ∈ ts, t.zs.length ≤ reach8 ∧ t.xs.length ≤ reach8 ∧ t.zs.length ≤ t.c := by
      intro k
      induction k with
      | zero => intro _; exact ⟨[], rfl, TRd.nil _ _, by simp⟩
      | succ k ih =>
        intro hk
        obtain ⟨ts, hlen, hrd, hbig⟩ := ih (by omega)
        obtain ⟨b, o, t, rfl, ht, hl⟩ := key k (by omega)
        refine ⟨ts ++ [t], by simp [hlen], fun j u hj => ?_, fun u hu => ?_⟩
        · by_cases hjk : j < k
          · rw [List.getElem?_append_left (by omega)] at hj
            exact hrd j u hj
          · have : j = k := by
              have := (List.getElem?_eq_some_iff.1 hj).1
              simp at this; omega
            subst this
            rw [List.getElem?_append_right (by omega), hlen] at hj
            simp at hj; subst hj
            exact ⟨b, o, rfl, ht⟩
        · rcases List.mem_append.1 hu with hu | hu
          · exact hbig u hu
          · simp at hu; subst hu; exact hl
    obtain ⟨ts, hts, hrd, hbig⟩ := all len (Nat.le_refl _)
    exact ⟨some a, m, ts, by rw [hts], hrd, fun t ht => ⟨(hbig t ht).1, (hbig t ht).2.1⟩, fun t ht => (hbig t ht).2.2, by omega, by omega⟩
set_option maxRecDepth 100000 in
theorem arg_tensW {b0 : Nat} {v : Value} {d : DataW H} {p : List MemPlace} (hval : Value.okWide Try.prog W .any b0 27 v) (h : DataW.Trod enc Try.prog W base (fun _ => true) held 27 v d p) (hw : Wt 27 d) : ∃ A c ts, v = .slice A (List.length ts) c ∧ TensW W A c ts := by
  obtain ⟨a, l, c, rfl⟩ := okWide_slice Try.underlying27 hval
  obtain ⟨fuel, hf⟩ := h
  exact trod_tensW hf hw
end

end Go.Proofs.Ytingmabmglpmaaa
