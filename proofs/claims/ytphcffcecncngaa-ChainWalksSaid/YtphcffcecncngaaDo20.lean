/- The reference's walk: what Do has in memory. -/
import Derived.Test.YtphcffcecncngaaChainWalkMath
import Derived.Test.YtphcffcecncngaaChainOwn
import Derived.Test.YtphcffcecncngaaRef20
namespace Go.Proofs.Ytphcffcecncngaa
open Go.RowKit

/-- The cells of a state. -/
abbrev stC (TA : Option Addr) (tc : Nat) (T : List Int) (SA : Option Addr) (sc : Nat) (S : List Int) (GA : Option Addr) (gc : Nat) (G : List Int) (em sd dn pk co : Int) : Array Value :=
  #[.slice TA T.length tc, .slice SA S.length sc, .slice GA G.length gc, .int .i64 em, .int .i64 sd, .int .i64 dn, .int .i64 pk, .int .i64 co]
abbrev stZ : Array Value := #[.slice none 0 0, .slice none 0 0, .slice none 0 0, .int .i64 0, .int .i64 0, .int .i64 0, .int .i64 0, .int .i64 0]
section
variable {w w' w0 u : World} {A B TA SA GA : Option Addr} {z n m p q tc sc gc sB rB : Nat} {c : Ch} {cap em sd dn pk co : Int} {T S G : List Int} {R : Array Value}
theorem Sl.farA {l : List Int} {k g i : Nat} {v : Value} (h : Sl w A k l) (hf : ∀ ad, A = some ad → ad.block ≠ g) : Sl (w.setCell ⟨g, i, none⟩ v) A k l :=
  ⟨fun j z hj => by
    obtain ⟨b, off, e, hlt, hc⟩ := h.rd j z hj
    have hb := Below.heap_setCell w ⟨g, i, none⟩ v b (hf _ e)
    exact ⟨b, off, e, by simpa using hlt, by rw [← hc]; simp only [World.cell?, hb]⟩, h.len⟩
/-- The list lies in memory that was there, not in the block z. -/
def Lw (z : Nat) (w : World) (A : Option Addr) : Prop := z < w.heap.size ∧ ∀ ad, A = some ad → ad.block < w.heap.size ∧ ad.block ≠ z
/-- The list lies in memory that was there, in neither box. -/
def Fr (z : Nat) (w : World) (A : Option Addr) (sB rB : Nat) : Prop := z < w.heap.size ∧ ∀ ad, A = some ad → ad.block ≠ sB ∧ ad.block ≠ rB ∧ ad.block < w.heap.size ∧ ad.block ≠ z
theorem Fr.s (h : Fr z w A sB rB) : ∀ ad, A = some ad → ad.block ≠ sB := fun ad e => (h.2 ad e).1
theorem Fr.r (h : Fr z w A sB rB) : ∀ ad, A = some ad → ad.block ≠ rB := fun ad e => (h.2 ad e).2.1
theorem Fr.lw (h : Fr z w A sB rB) : Lw z w A := ⟨h.1, fun ad e => (h.2 ad e).2.2⟩
theorem Fr.at [l : Later w w'] (h : Fr z w A sB rB) : Fr z w' A sB rB := ⟨Nat.lt_of_lt_of_le h.1 l.st.size, fun ad e => ⟨(h.2 ad e).1, (h.2 ad e).2.1, Nat.lt_of_lt_of_le (h.2 ad e).2.2.1 l.st.size, (h.2 ad e).2.2.2⟩⟩
theorem Fr.put {a : Addr} {v : Value} (h : Fr z w A sB rB) : Fr z (w.setCell a v) A sB rB := by
  unfold Fr
  rw [World.size_setCell]
  exact h
theorem Lw.fr [l : Later w w'] (h : Lw z w A) : Fr z w' A w.heap.size (w.heap.size + 1) := by
  have := l.st.size
  exact ⟨Nat.lt_of_lt_of_le h.1 this, fun ad e => by have := h.2 ad e; omega⟩
theorem Lw.at [l : Later w w'] (h : Lw z w A) : Lw z w' A := ⟨Nat.lt_of_lt_of_le h.1 l.st.size, fun ad e => ⟨Nat.lt_of_lt_of_le (h.2 ad e).1 l.st.size, (h.2 ad e).2⟩⟩
/-- A state in memory, and the box of what is returned. -/
structure SM (z : Nat) (w0 w : World) (sB rB : Nat) (TA : Option Addr) (tc : Nat) (T : List Int) (SA : Option Addr) (sc : Nat) (S : List Int) (GA : Option Addr) (gc : Nat) (G : List Int) (em sd dn pk co : Int) (R : Array Value) : Prop where
  pr : Prev w w0
  bx : Bx w sB 106 (stC TA tc T SA sc S GA gc G em sd dn pk co)
  rx : Bx w rB 106 R
  hT : Sl w TA T.length T
  hS : Sl w SA S.length S
  hG : Sl w GA G.length G
  fT : Fr z w TA sB rB
  fS : Fr z w SA sB rB
  fG : Fr z w GA sB rB
  hs : w0.heap.size ≤ sB
  hr : w0.heap.size ≤ rB
  sr : sB ≠ rB
theorem SM.at [l : Later w w'] (h : SM z w0 w sB rB TA tc T SA sc S GA gc G em sd dn pk co R) : SM z w0 w' sB rB TA tc T SA sc S GA gc G em sd dn pk co R := by
  have hp := h.pr
  have : Later w0 w := inferInstance
  exact ⟨⟨(Later.trans this l).st⟩, ⟨h.bx.blk.at⟩, ⟨h.rx.blk.at⟩, ⟨h.hT.rd.below l.st, h.hT.len⟩, ⟨h.hS.rd.below l.st, h.hS.len⟩, ⟨h.hG.rd.below l.st, h.hG.len⟩, h.fT.at, h.fS.at, h.fG.at, h.hs, h.hr, h.sr⟩
/-- A store into the state's box: which lists and numbers it has then. -/
theorem SM.put {i : Nat} {v : Value} {TA' SA' GA' : Option Addr} {tc' sc' gc' : Nat} {T' S' G' : List Int} {em' sd' dn' pk' co' : Int} (h : SM z w0 w sB rB TA tc T SA sc S GA gc G em sd dn pk co R)
    (hb : (stC TA tc T SA sc S GA gc G em sd dn pk co).setIfInBounds i v = stC TA' tc' T' SA' sc' S' GA' gc' G' em' sd' dn' pk' co') (hT : Sl w TA' T'.length T') (hS : Sl w SA' S'.length S') (hG : Sl w GA' G'.length G')
    (fT : Fr z w TA' sB rB) (fS : Fr z w SA' sB rB) (fG : Fr z w GA' sB rB) :
    SM z w0 (w.setCell ⟨sB, i, none⟩ v) sB rB TA' tc' T' SA' sc' S' GA' gc' G' em' sd' dn' pk' co' R := by
  have hpr := h.pr
  exact ⟨⟨(bel w0 w).setCell (p := ⟨sB, i, none⟩) h.hs _⟩, ⟨by rw [← hb]; exact h.bx.blk.set_ i v⟩, ⟨h.rx.blk.far h.sr.symm _⟩, hT.farA fT.s, hS.farA fS.s, hG.farA fG.s, fT.put, fS.put, fG.put, h.hs, h.hr, h.sr⟩
section
variable (h : SM z w0 w sB rB TA tc T SA sc S GA gc G em sd dn pk co R)
include h
/-- A list that a call has made since then. -/
theorem SM.fresh {b k : Nat} {L : List Int} {A1 : Option Addr} [l : Later w w'] (hb : w.heap.size ≤ b) (o : OwnA w' b 3 A1 k L) : Fr z w' A1 sB rB := ⟨Nat.lt_of_lt_of_le h.fT.1 l.st.size, fun ad e => by
  have := h.fT.1
  have := o.fresh ad e
  have := o.lt ad e
  have := h.bx.blk.lt
  have := h.rx.blk.lt
  omega⟩
theorem SM.int {i : Nat} {em' sd' dn' pk' co' : Int} {v : Value} (hb : (stC TA tc T SA sc S GA gc G em sd dn pk co).setIfInBounds i v = stC TA tc T SA sc S GA gc G em' sd' dn' pk' co') :
    SM z w0 (w.setCell ⟨sB, i, none⟩ v) sB rB TA tc T SA sc S GA gc G em' sd' dn' pk' co' R := h.put hb h.hT h.hS h.hG h.fT h.fS h.fG
theorem SM.listT {L : List Int} {A1 : Option Addr} {k : Nat} (hL : Sl w A1 L.length L) (hf : Fr z w A1 sB rB) : SM z w0 (w.setCell ⟨sB, 0, none⟩ (.slice A1 L.length k)) sB rB A1 k L SA sc S GA gc G em sd dn pk co R := h.put rfl hL h.hS h.hG hf h.fS h.fG
theorem SM.listS {L : List Int} {A1 : Option Addr} {k : Nat} (hL : Sl w A1 L.length L) (hf : Fr z w A1 sB rB) : SM z w0 (w.setCell ⟨sB, 1, none⟩ (.slice A1 L.length k)) sB rB TA tc T A1 k L GA gc G em sd dn pk co R := h.put rfl h.hT hL h.hG h.fT hf h.fG
theorem SM.listG {L : List Int} {A1 : Option Addr} {k : Nat} (hL : Sl w A1 L.length L) (hf : Fr z w A1 sB rB) : SM z w0 (w.setCell ⟨sB, 2, none⟩ (.slice A1 L.length k)) sB rB TA tc T SA sc S A1 k L em sd dn pk co R := h.put rfl h.hT h.hS hL h.fT h.fS hf
end
/-- What Do returns. -/
def RetD20 (z : Nat) (w : World) (err : Int) (t : Ch.St) (e : Ending) (w' : World) : Prop :=
  ∃ TA tc SA sc GA gc, e = .returned (.tuple #[.agg (stC TA tc t.T SA sc t.S GA gc t.G t.em t.sd t.dn t.pk t.co), .int .i64 err]) ∧ Sl w' TA t.T.length t.T ∧ Sl w' SA t.S.length t.S ∧ Sl w' GA t.G.length t.G ∧ Lw z w' TA ∧ Lw z w' SA ∧ Lw z w' GA ∧ Prev w' w
section
variable {T0 : TypeId} {v0 v1 v2 v3 v4 v5 v6 v7 : Value}
/-- Eight cells are stored. -/
def put8 (u : World) (rB : Nat) (v0 v1 v2 v3 v4 v5 v6 v7 : Value) : World := (((((((u.setCell ⟨rB, 0, none⟩ v0).setCell ⟨rB, 1, none⟩ v1).setCell ⟨rB, 2, none⟩ v2).setCell ⟨rB, 3, none⟩ v3).setCell ⟨rB, 4, none⟩ v4).setCell ⟨rB, 5, none⟩ v5).setCell ⟨rB, 6, none⟩ v6).setCell ⟨rB, 7, none⟩ v7
theorem put8_blk {x0 x1 x2 x3 x4 x5 x6 x7 : Value} (h : Blk u rB T0 #[x0, x1, x2, x3, x4, x5, x6, x7]) : Blk (put8 u rB v0 v1 v2 v3 v4 v5 v6 v7) rB T0 #[v0, v1, v2, v3, v4, v5, v6, v7] := by
  have h0 : Blk _ rB T0 #[v0, x1, x2, x3, x4, x5, x6, x7] := h.set_ 0 v0
  have h1 : Blk _ rB T0 #[v0, v1, x2, x3, x4, x5, x6, x7] := h0.set_ 1 v1
  have h2 : Blk _ rB T0 #[v0, v1, v2, x3, x4, x5, x6, x7] := h1.set_ 2 v2
  have h3 : Blk _ rB T0 #[v0, v1, v2, v3, x4, x5, x6, x7] := h2.set_ 3 v3
  have h4 : Blk _ rB T0 #[v0, v1, v2, v3, v4, x5, x6, x7] := h3.set_ 4 v4
  have h5 : Blk _ rB T0 #[v0, v1, v2, v3, v4, v5, x6, x7] := h4.set_ 5 v5
  have h6 : Blk _ rB T0 #[v0, v1, v2, v3, v4, v5, v6, x7] := h5.set_ 6 v6
  exact h6.set_ 7 v7
theorem put8_bel (h : Below w0.heap.size w0 u) (hr : w0.heap.size ≤ rB) : Below w0.heap.size w0 (put8 u rB v0 v1 v2 v3 v4 v5 v6 v7) := by
  have h0 := h.setCell (p := ⟨rB, 0, none⟩) hr v0
  have h1 := h0.setCell (p := ⟨rB, 1, none⟩) hr v1
  have h2 := h1.setCell (p := ⟨rB, 2, none⟩) hr v2
  have h3 := h2.setCell (p := ⟨rB, 3, none⟩) hr v3
  have h4 := h3.setCell (p := ⟨rB, 4, none⟩) hr v4
  have h5 := h4.setCell (p := ⟨rB, 5, none⟩) hr v5
  have h6 := h5.setCell (p := ⟨rB, 6, none⟩) hr v6
  exact h6.setCell (p := ⟨rB, 7, none⟩) hr v7
theorem put8_size : (put8 u rB v0 v1 v2 v3 v4 v5 v6 v7).heap.size = u.heap.size := by simp only [put8, World.size_setCell]
theorem put8_lw (h : Lw z u A) : Lw z (put8 u rB v0 v1 v2 v3 v4 v5 v6 v7) A := by
  unfold Lw
  rw [put8_size]
  exact h
theorem put8_far {k : Nat} {l : List Int} (h : Sl u A k l) (hf : ∀ ad, A = some ad → ad.block ≠ rB) : Sl (put8 u rB v0 v1 v2 v3 v4 v5 v6 v7) A k l := by
  have h0 := h.farA (i := 0) (v := v0) hf
  have h1 := h0.farA (i := 1) (v := v1) hf
  have h2 := h1.farA (i := 2) (v := v2) hf
  have h3 := h2.farA (i := 3) (v := v3) hf
  have h4 := h3.farA (i := 4) (v := v4) hf
  have h5 := h4.farA (i := 5) (v := v5) hf
  have h6 := h5.farA (i := 6) (v := v6) hf
  exact h6.farA (i := 7) (v := v7) hf
end
/-- The state's cells are stored into the box of what is returned. -/
theorem SM.ret {F : Func} {act : Act} {err : Int} {t : Ch.St} (h : SM z w u w.heap.size rB TA tc T SA sc S GA gc G em sd dn pk co stZ) (hd : act.defers = [])
    (hres : ∀ W : World, (∀ i, W.cell? ⟨rB, i, none⟩ = (stC TA tc T SA sc S GA gc G em sd dn pk co)[i]?) → (results F act.tmps).run Try.prog W = .ok (.tuple #[.agg (stC TA tc T SA sc S GA gc G em sd dn pk co), .int .i64 err]) W)
    (ht : Hid (t = ⟨T, S, G, em, sd, dn, pk, co⟩)) :
    bodyPost Try.prog F (RetD20 z w err t) .ret act ((((((((u.setCell ⟨rB, 0, none⟩ (.slice TA T.length tc)).setCell ⟨rB, 1, none⟩ (.slice SA S.length sc)).setCell ⟨rB, 2, none⟩ (.slice GA G.length gc)).setCell ⟨rB, 3, none⟩ (.int .i64 em)).setCell ⟨rB, 4, none⟩ (.int .i64 sd)).setCell ⟨rB, 5, none⟩ (.int .i64 dn)).setCell ⟨rB, 6, none⟩ (.int .i64 pk)).setCell ⟨rB, 7, none⟩ (.int .i64 co)) := by
  have k9 := put8_blk (v0 := (.slice TA T.length tc)) (v1 := (.slice SA S.length sc)) (v2 := (.slice GA G.length gc)) (v3 := (.int .i64 em)) (v4 := (.int .i64 sd)) (v5 := (.int .i64 dn)) (v6 := (.int .i64 pk)) (v7 := (.int .i64 co)) h.rx.blk
  have hp := h.pr
  have B9 := put8_bel (v0 := (.slice TA T.length tc)) (v1 := (.slice SA S.length sc)) (v2 := (.slice GA G.length gc)) (v3 := (.int .i64 em)) (v4 := (.int .i64 sd)) (v5 := (.int .i64 dn)) (v6 := (.int .i64 pk)) (v7 := (.int .i64 co)) (bel w u) h.hr
  have z1 := put8_far (v0 := (.slice TA T.length tc)) (v1 := (.slice SA S.length sc)) (v2 := (.slice GA G.length gc)) (v3 := (.int .i64 em)) (v4 := (.int .i64 sd)) (v5 := (.int .i64 dn)) (v6 := (.int .i64 pk)) (v7 := (.int .i64 co)) h.hT h.fT.r
  have z2 := put8_far (v0 := (.slice TA T.length tc)) (v1 := (.slice SA S.length sc)) (v2 := (.slice GA G.length gc)) (v3 := (.int .i64 em)) (v4 := (.int .i64 sd)) (v5 := (.int .i64 dn)) (v6 := (.int .i64 pk)) (v7 := (.int .i64 co)) h.hS h.fS.r
  have z3 := put8_far (v0 := (.slice TA T.length tc)) (v1 := (.slice SA S.length sc)) (v2 := (.slice GA G.length gc)) (v3 := (.int .i64 em)) (v4 := (.int .i64 sd)) (v5 := (.int .i64 dn)) (v6 := (.int .i64 pk)) (v7 := (.int .i64 co)) h.hG h.fG.r
  have y1 := put8_lw (rB := rB) (v0 := (.slice TA T.length tc)) (v1 := (.slice SA S.length sc)) (v2 := (.slice GA G.length gc)) (v3 := (.int .i64 em)) (v4 := (.int .i64 sd)) (v5 := (.int .i64 dn)) (v6 := (.int .i64 pk)) (v7 := (.int .i64 co)) h.fT.lw
  have y2 := put8_lw (rB := rB) (v0 := (.slice TA T.length tc)) (v1 := (.slice SA S.length sc)) (v2 := (.slice GA G.length gc)) (v3 := (.int .i64 em)) (v4 := (.int .i64 sd)) (v5 := (.int .i64 dn)) (v6 := (.int .i64 pk)) (v7 := (.int .i64 co)) h.fS.lw
  have y3 := put8_lw (rB := rB) (v0 := (.slice TA T.length tc)) (v1 := (.slice SA S.length sc)) (v2 := (.slice GA G.length gc)) (v3 := (.int .i64 em)) (v4 := (.int .i64 sd)) (v5 := (.int .i64 dn)) (v6 := (.int .i64 pk)) (v7 := (.int .i64 co)) h.fG.lw
  have := ht.out
  subst this
  show bodyPost Try.prog F _ .ret act (put8 u rB (.slice TA T.length tc) (.slice SA S.length sc) (.slice GA G.length gc) (.int .i64 em) (.int .i64 sd) (.int .i64 dn) (.int .i64 pk) (.int .i64 co))
  generalize put8 u rB (.slice TA T.length tc) (.slice SA S.length sc) (.slice GA G.length gc) (.int .i64 em) (.int .i64 sd) (.int .i64 dn) (.int .i64 pk) (.int .i64 co) = W at *
  exact bodyPost_ret (hres W k9.cell) hd ⟨TA, tc, SA, sc, GA, gc, rfl, z1, z2, z3, y1, y2, y3, ⟨B9⟩⟩
end
end Go.Proofs.Ytphcffcecncngaa
