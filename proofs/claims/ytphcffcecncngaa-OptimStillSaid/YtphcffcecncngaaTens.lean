/- Slices of tensors. -/
import Derived.Test.YtphcffcecncngaaI6
namespace Go.Proofs.Ytphcffcecncngaa
open Go.RowKit

/-- A tensor as it lies in memory, and as it reads. -/
structure Tn where
  A : Option Addr
  c : Nat
  zs : List Int
  B : Option Addr
  d : Nat
  xs : List Int

/-- What the two cells of t hold, and that its slices read as its lists. -/
structure TIn (w : World) (b o : Nat) (t : Tn) : Prop where
  old : b < w.heap.size
  c0 : w.cell? ⟨b, o, none⟩ = some (.slice t.A t.zs.length t.c)
  c1 : w.cell? ⟨b, o + 1, none⟩ = some (.slice t.B t.xs.length t.d)
  s : Rd w t.A t.zs
  x : Rd w t.B t.xs
  le : t.xs.length ≤ t.d
  bd : ∀ z ∈ t.xs, I64 z
theorem TIn.below {w w' : World} {b o : Nat} {t : Tn} (h : TIn w b o t) (hb : Below w.heap.size w w') : TIn w' b o t :=
  ⟨Nat.lt_of_lt_of_le h.old hb.size, (hb.cell (p := ⟨b, o, none⟩) h.old).trans h.c0, (hb.cell (p := ⟨b, o + 1, none⟩) h.old).trans h.c1, h.s.below hb, h.x.below hb, h.le, h.bd⟩
/-- The slice at A reads as the tensors ts. -/
def TRd (w : World) (A : Option Addr) (ts : List Tn) : Prop :=
  ∀ j t, ts[j]? = some t → ∃ b o, A = some ⟨b, o, none⟩ ∧ TIn w b (o + j * 2) t
theorem TRd.below {w w' : World} {A : Option Addr} {ts : List Tn} (h : TRd w A ts) (hb : Below w.heap.size w w') : TRd w' A ts := fun j t hj => by
  obtain ⟨b, o, e, k⟩ := h j t hj
  exact ⟨b, o, e, k.below hb⟩
theorem TRd.nil (w : World) (A : Option Addr) : TRd w A [] := fun j t hj => by simp at hj
class Ts (w : World) (A : Option Addr) (n : Nat) (ts : outParam (List Tn)) : Prop where
  rd : TRd w A ts
  len : n = ts.length
section
variable {w w' : World} {A : Option Addr} {n : Nat} {ts : List Tn}
instance (priority := low) Ts.step [p : Prev w' w] [h : Ts w A n ts] : Ts w' A n ts := ⟨h.rd.below p.st, h.len⟩
instance (priority := low) Ts.empty : Ts w A 0 [] := ⟨TRd.nil _ _, rfl⟩
/-- Element k: letters for what it holds. -/
theorem Ts.get (h : Ts w A n ts) {k : Nat} (hk : k < n) : ∃ b o A1 c1 zs B1 d1 xs, A = some ⟨b, o, none⟩ ∧ Old b w ∧ w.cell? ⟨b, o + k * 2, none⟩ = some (.slice A1 zs.length c1) ∧ w.cell? ⟨b, o + k * 2 + 1, none⟩ = some (.slice B1 xs.length d1) ∧
    Sl w A1 zs.length zs ∧ Sl w B1 xs.length xs ∧ xs.length ≤ d1 ∧ I6s xs ∧ Hid (ts[k]? = some ⟨A1, c1, zs, B1, d1, xs⟩) := by
  have e : ts[k]? = some (ts[k]'(by rw [← h.len]; exact hk)) := List.getElem?_eq_getElem _
  obtain ⟨b, o, rfl, t⟩ := h.rd k _ e
  exact ⟨b, o, _, _, _, _, _, _, rfl, ⟨t.old⟩, t.c0, t.c1, ⟨t.s, rfl⟩, ⟨t.x, rfl⟩, t.le, ⟨t.bd⟩, e⟩
end
section
variable {w : World} {g : Nat} {T : TypeId} {A B C D : Option Addr} {n m c d n' m' c' d' : Nat} {zs xs ts ys : List Int}
theorem tin_of {v : World} {o : Nat} {t : Tn} {cs : Array Value} (h : Blk v g T cs) (h0 : cs[o]? = some (.slice t.A t.zs.length t.c)) (h1 : cs[o + 1]? = some (.slice t.B t.xs.length t.d)) (s : Rd v t.A t.zs) (x : Rd v t.B t.xs) (le : t.xs.length ≤ t.d) (bd : ∀ z ∈ t.xs, I64 z) : TIn v g o t :=
  ⟨h.lt, (h.cell o).trans h0, (h.cell (o + 1)).trans h1, s, x, le, bd⟩
/-- The capacity of a slice of cells is known not to be below its length. -/
class Le (a b : Nat) : Prop where
  le : a ≤ b
instance Le.same (a : Nat) : Le a a := ⟨Nat.le_refl _⟩
instance Ts.lit1 [h : Bx w g T #[.slice A n c, .slice B m d]] [s : Sl w A n zs] [x : Sl w B m xs] [l : Le m d] [i : I6s xs] : Ts w (some ⟨g, 0, none⟩) 1 [⟨A, c, zs, B, d, xs⟩] :=
  ⟨fun j t hj => by
    cases j with
    | zero =>
      simp at hj; subst hj
      obtain ⟨s, rfl⟩ := s
      obtain ⟨x, rfl⟩ := x
      exact ⟨g, 0, rfl, tin_of h.blk rfl rfl s x l.le i.bd⟩
    | succ j => simp at hj, rfl⟩
instance Ts.lit2 [h : Bx w g T #[.slice A n c, .slice B m d, .slice C n' c', .slice D m' d']] [s : Sl w A n zs] [x : Sl w B m xs] [l : Le m d] [i : I6s xs] [s' : Sl w C n' ts] [x' : Sl w D m' ys] [l' : Le m' d'] [i' : I6s ys] : Ts w (some ⟨g, 0, none⟩) 2 [⟨A, c, zs, B, d, xs⟩, ⟨C, c', ts, D, d', ys⟩] :=
  ⟨fun j t hj => by
    obtain ⟨s, rfl⟩ := s
    obtain ⟨x, rfl⟩ := x
    obtain ⟨s', rfl⟩ := s'
    obtain ⟨x', rfl⟩ := x'
    match j with
    | 0 => simp at hj; subst hj; exact ⟨g, 0, rfl, tin_of h.blk rfl rfl s x l.le i.bd⟩
    | 1 => simp at hj; subst hj; exact ⟨g, 0, rfl, tin_of h.blk rfl rfl s' x' l'.le i'.bd⟩
    | j + 2 => simp at hj, rfl⟩
end

end Go.Proofs.Ytphcffcecncngaa
