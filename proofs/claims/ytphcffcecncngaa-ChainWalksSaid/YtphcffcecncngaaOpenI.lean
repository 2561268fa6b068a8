/- From the statement's typed slice of instructions to letters. -/
import Derived.Test.YtphcffcecncngaaOpen
import Derived.Test.YtphcffcecncngaaInstr
import Derived.Deep.Slices
namespace Go.Proofs.Ytphcffcecncngaa
open Go.RowKit Go.ChangeShapes Go.WideShapes Go.Deep

section
variable {H : Type} {enc : TypeId × Value → H} {W : World} {base : Nat} {held : Bool}
theorem cell_noneI {a : Addr} {v : Value} (h : W.cell? a = some v) : ∃ b o, a = ⟨b, o, none⟩ := by
  obtain ⟨b, off, sp⟩ := a
  cases sp with
  | none => exact ⟨b, off, rfl⟩
  | some s =>
    exfalso
    simp [World.cell?] at h
    split at h <;> simp at h
theorem add_plainI (b o k : Nat) : (⟨b, o, none⟩ : Addr).add k = ⟨b, o + k, none⟩ := by
  unfold Addr.add
  split
  · rename_i e; subst e; rfl
  · rfl
set_option maxRecDepth 100000 in
theorem trod_instr {fuel : Nat} {cs : List Value} {x : DataW H × List MemPlace} (h : DataW.trod enc Try.prog W base (fun _ => true) held fuel 108 cs = some x) (hl : cs.length = 2) :
    ∃ y z : Int, cs = [.int .i64 y, .int .i64 z] := by
  match cs, hl with
  | [v0, v1], _ =>
    obtain ⟨_, _, h0⟩ := fld Try.underlying108 h 0 _ rfl
    obtain ⟨_, _, h1⟩ := fld Try.underlying108 h 1 _ rfl
    replace h0 : DataW.trod enc Try.prog W base (fun _ => true) held _ 3 [v0] = some _ := h0
    replace h1 : DataW.trod enc Try.prog W base (fun _ => true) held _ 3 [v1] = some _ := h1
    obtain ⟨y, rfl, _⟩ := trod_int1 Try.underlying3 h0
    obtain ⟨z, rfl, _⟩ := trod_int1 Try.underlying3 h1
    exact ⟨y, z, rfl⟩
set_option maxRecDepth 100000 in
theorem arg_instrs {b0 : Nat} {v : Value} {d : DataW H} {p : List MemPlace} (hval : Value.okWide Try.prog W .any b0 31 v) (h0 : DataW.Trod enc Try.prog W base (fun _ => true) held 31 v d p) : ∃ A c ps, v = .slice A (List.length ps) c ∧ IRd W A ps := by
  obtain ⟨a, l, c, rfl⟩ := okWide_slice Try.underlying31 hval
  obtain ⟨fuel, h⟩ := h0
  rcases open_slice Try.underlying31 h with ⟨hcs, _⟩ | ⟨a, len, cap, m, n, D, Pl, hcs, _, hl, hm, hmm, _, hi⟩
  · injection hcs with hcs; injection hcs with e1 e2 e3; subst e1 e2 e3
    exact ⟨none, 0, [], rfl, IRd.nil _ _⟩
  · injection hcs with hcs; injection hcs with e1 e2 e3; subst e1 e2 e3
    simp only [if_true] at hmm
    subst hmm
    have hC : Try.prog.cellsOf 108 = 2 := by kernel_rfl
    have key : ∀ i, i < m → ∃ (b o : Nat) (y z : Int), a = ⟨b, o, none⟩ ∧ b < W.heap.size ∧ W.cell? ⟨b, o + i * 2, none⟩ = some (.int .i64 y) ∧ W.cell? ⟨b, o + i * 2 + 1, none⟩ = some (.int .i64 z) := by
      intro i him
      obtain ⟨cs', hc, ht⟩ := hi i him
      rw [hC] at hc
      obtain ⟨_, hcl, hat⟩ := World.cells?_some hc
      obtain ⟨y, z, rfl⟩ := trod_instr ht hcl
      have g0 := hat 0 (by omega)
      have g1 := hat 1 (by omega)
      rw [Go.Deep.add_add] at g0 g1
      have ea : ∃ b o, a = ⟨b, o, none⟩ := by
        obtain ⟨cs0, hc0, ht0⟩ := hi 0 (by omega)
        rw [hC] at hc0
        obtain ⟨_, hcl0, hat0⟩ := World.cells?_some hc0
        obtain ⟨_, _, rfl⟩ := trod_instr ht0 hcl0
        have g := hat0 0 (by omega)
        rw [Go.Deep.add_add] at g
        exact cell_noneI (show W.cell? (a.add 0) = some _ from g)
      obtain ⟨b', o', rfl⟩ := ea
      rw [add_plainI] at g0 g1
      exact ⟨b', o', y, z, rfl, World.block_lt_of_cell? W _ g0, g0, g1⟩
    have all : ∀ k, k ≤ m → ∃ ps : List (Int × Int), ps.length = k ∧ IRd W (some a) ps := by
      intro k
      induction k with
      | zero => intro _; exact ⟨[], rfl, IRd.nil _ _⟩
      | succ k ih =>
        intro hk
        obtain ⟨ps, hlen, hrd⟩ := ih (by omega)
        obtain ⟨b, o, y, z, rfl, g1, g2, g3⟩ := key k (by omega)
        refine ⟨ps ++ [(y, z)], by simp [hlen], fun j u hj => ?_⟩
        by_cases hjk : j < k
        · rw [List.getElem?_append_left (by omega)] at hj
          exact hrd j u hj
        · have : j = k := by
            have := (List.getElem?_eq_some_iff.1 hj).1
            simp at this; omega
          subst this
          rw [List.getElem?_append_right (by omega), hlen] at hj
          simp at hj; subst hj
          exact ⟨b, o, rfl, g1, g2, g3⟩
    obtain ⟨ps, hlen, hrd⟩ := all _ hl
    exact ⟨some a, m, ps, by rw [hlen], hrd⟩
end

end Go.Proofs.Ytphcffcecncngaa
