/- From the statement's typed slices of tensors to letters. -/
import Derived.Test.YtingmabmglpmaaaTens
import Derived.Deep.Slices
namespace Go.Proofs.Ytingmabmglpmaaa
open Go.RowKit Go.ChangeShapes Go.WideShapes Go.Deep

/-- A slice of tensors among the parameters. -/
structure TensIn (W : World) (A : Option Addr) (c : Nat) (ts : List Tn) : Prop where
  rd : TRd W A ts
  le : ts.length ≤ c
  max : c ≤ maxLen
section
variable {H : Type} {enc : TypeId × Value → H} {W : World} {base : Nat} {held : Bool}
theorem cell_none {a : Addr} {v : Value} (h : W.cell? a = some v) : ∃ b o, a = ⟨b, o, none⟩ := by
  obtain ⟨b, off, sp⟩ := a
  cases sp with
  | none => exact ⟨b, off, rfl⟩
  | some s =>
    exfalso
    simp [World.cell?] at h
    split at h <;> simp at h
theorem add_plain (b o k : Nat) : (⟨b, o, none⟩ : Addr).add k = ⟨b, o + k, none⟩ := by
  unfold Addr.add
  split
  · rename_i e; subst e; rfl
  · rfl
set_option maxRecDepth 100000 in
theorem trod_grid {fuel : Nat} {cs : List Value} {x : DataW H × List MemPlace} (h : DataW.trod enc Try.prog W base (fun _ => true) held fuel 26 cs = some x) (hl : cs.length = 2) :
    ∃ A c zs B d xs, cs = [.slice A zs.length c, .slice B xs.length d] ∧ IntsIn W A c zs ∧ IntsIn W B d xs := by
  match cs, hl with
  | [v0, v1], _ =>
    obtain ⟨_, _, h0⟩ := fld Try.underlying26 h 0 _ rfl
    obtain ⟨_, _, h1⟩ := fld Try.underlying26 h 1 _ rfl
    replace h0 : DataW.trod enc Try.prog W base (fun _ => true) held _ 23 [v0] = some _ := h0
    replace h1 : DataW.trod enc Try.prog W base (fun _ => true) held _ 24 [v1] = some _ := h1
    obtain ⟨A, c, zs, rfl, i0⟩ := trod_ints Try.underlying23 Try.underlying3 (by kernel_rfl) h0
    obtain ⟨B, d, xs, rfl, i1⟩ := trod_ints Try.underlying24 Try.underlying38 (by kernel_rfl) h1
    exact ⟨A, c, zs, B, d, xs, rfl, i0, i1⟩
set_option maxRecDepth 100000 in
theorem trod_tens {fuel : Nat} {v : Value} {x : DataW H × List MemPlace} (h : DataW.trod enc Try.prog W base (fun _ => true) held fuel 27 [v] = some x) : ∃ A c ts, v = .slice A (List.length ts) c ∧ TensIn W A c ts := by
  rcases open_slice Try.underlying27 h with ⟨hcs, _⟩ | ⟨a, len, cap, m, n, D, Pl, hcs, _, hl, hm, hmm, _, hi⟩
  · injection hcs with hcs; subst hcs
    exact ⟨none, 0, [], rfl, TRd.nil _ _, Nat.le_refl _, Nat.zero_le _⟩
  · injection hcs with hcs; subst hcs
    simp only [if_true] at hmm
    subst hmm
    have hC : Try.prog.cellsOf 26 = 2 := by kernel_rfl
    have key : ∀ i, i < m → ∃ (b o : Nat) (t : Tn), a = ⟨b, o, none⟩ ∧ TIn W b (o + i * 2) t := by
      intro i him
      obtain ⟨cs', hc, ht⟩ := hi i him
      rw [hC] at hc
      obtain ⟨_, hcl, hat⟩ := World.cells?_some hc
      obtain ⟨A, c, zs, B, d, xs, rfl, i0, i1⟩ := trod_grid ht hcl
      have g0 := hat 0 (by omega)
      have g1 := hat 1 (by omega)
      rw [Go.Deep.add_add] at g0 g1
      have ea : ∃ b o, a = ⟨b, o, none⟩ := by
        obtain ⟨cs0, hc0, ht0⟩ := hi 0 (by omega)
        rw [hC] at hc0
        obtain ⟨_, hcl0, hat0⟩ := World.cells?_some hc0
        obtain ⟨_, _, _, _, _, _, rfl, _, _⟩ := trod_grid ht0 hcl0
        have g := hat0 0 (by omega)
        rw [Go.Deep.add_add] at g
        exact cell_none (show W.cell? (a.add 0) = some _ from g)
      obtain ⟨b', o', rfl⟩ := ea
      rw [add_plain] at g0 g1
      exact ⟨b', o', ⟨A, c, zs, B, d, xs⟩, rfl, World.block_lt_of_cell? W _ g0, g0, g1, i0.rd, i1.rd, i1.2.1, fun z hz => wf_bounds (i1.2.2.2 z hz)⟩
    have all : ∀ k, k ≤ m → ∃ ts : List Tn, ts.length = k ∧ TRd W (some a) ts := by
      intro k
      induction k with
      | zero => intro _; exact ⟨[], rfl, TRd.nil _ _⟩
      | succ k ih =>
        intro hk
        obtain ⟨ts, hlen, hrd⟩ := ih (by omega)
        obtain ⟨b, o, t, rfl, ht⟩ := key k (by omega)
        refine ⟨ts ++ [t], by simp [hlen], fun j u hj => ?_⟩
        by_cases hjk : j < k
        · rw [List.getElem?_append_left (by omega)] at hj
          exact hrd j u hj
        · have : j = k := by
            have := (List.getElem?_eq_some_iff.1 hj).1
            simp at this; omega
          subst this
          rw [List.getElem?_append_right (by omega), hlen] at hj
          simp at hj; subst hj
          exact ⟨b, o, rfl, ht⟩
    obtain ⟨ts, hlen, hrd⟩ := all len hl
    exact ⟨some a, m, ts, by rw [hlen], hrd, by omega, hm⟩
set_option maxRecDepth 100000 in
theorem arg_tens {b0 : Nat} {v : Value} {d : DataW H} {p : List MemPlace} (hval : Value.okWide Try.prog W .any b0 27 v) (h : DataW.Trod enc Try.prog W base (fun _ => true) held 27 v d p) : ∃ A c ts, v = .slice A (List.length ts) c ∧ TensIn W A c ts := by
  obtain ⟨a, l, c, rfl⟩ := okWide_slice Try.underlying27 hval
  obtain ⟨fuel, hf⟩ := h
  exact trod_tens hf
end

end Go.Proofs.Ytingmabmglpmaaa
