/- Results that lie in memory of the call's own. -/
import Derived.Test.YtphcffcecncngaaTAuto
import Derived.Test.YtphcffcecncngaaAppend2
namespace Go.Proofs.Ytphcffcecncngaa
open Go.RowKit

/-- The address lies in block B or behind it. -/
structure Fre (B : Nat) (A : Option Addr) : Prop where
  out : ∀ ad, A = some ad → B ≤ ad.block
section
variable {w w' : World} {A : Option Addr} {n c b b' : Nat} {zs xs : List Int} {E : Int}
theorem Fre.none : Fre b none := ⟨fun _ h => by cases h⟩
theorem Fre.less (h : Fre b A) (hb : b' ≤ b) : Fre b' A := ⟨fun ad e => Nat.le_trans hb (h.out ad e)⟩
theorem OwnA.fre {T : TypeId} (h : OwnA w b T A c zs) : Fre b A := ⟨h.fresh⟩
theorem Sl.setCell {p : Addr} (h : Sl w A n zs) (f : Fre b A) (hp : p.block < b) (v : Value) : Sl (w.setCell p v) A n zs :=
  ⟨fun j z hj => by
    obtain ⟨k, off, e, hb, hc⟩ := h.rd j z hj
    refine ⟨k, off, e, by simpa using hb, ?_⟩
    rw [← hc]
    have := f.out _ e
    exact World.cell?_of_block (Below.heap_setCell w p v k (by simp only at this; omega)), h.len⟩
theorem Sl.far2 {p : Nat} (h : Sl w A n zs) (f : Fre b A) (hp : p < b) (v0 v1 : Value) : Sl ((w.setCell ⟨p, 0, none⟩ v0).setCell ⟨p, 1, none⟩ v1) A n zs :=
  (h.setCell (p := ⟨p, 0, none⟩) f hp v0).setCell (p := ⟨p, 1, none⟩) f hp v1
/-- A tensor and an error; the tensor's rows are the call's own. -/
def RetTA (w : World) (zs xs : List Int) (E : Int) (e : Ending) (w' : World) : Prop :=
  ∃ A c B d, e = .returned (.tuple #[.agg #[.slice A zs.length c, .slice B xs.length d], .int .i64 E]) ∧ Sl w' A zs.length zs ∧ Sl w' B xs.length xs ∧ Le zs.length c ∧ Le xs.length d ∧ Fre w.heap.size A ∧ Fre w.heap.size B ∧ Prev w' w
theorem retTA {P : Program} {f : Nat} {args : Array Value} (h : Calls P f args w (RetTE w zs xs E)) : Calls P f args w (RetTA w zs xs E) :=
  h.mono fun _ _ ⟨A, c, B, d, he, h1, h2, hb⟩ => ⟨A, c, B, d, he, ⟨h1.rd, rfl⟩, ⟨h2.rd, rfl⟩, ⟨h1.len_le⟩, ⟨h2.len_le⟩, ⟨h1.fresh⟩, ⟨h2.fresh⟩, ⟨hb⟩⟩
theorem retTA_of {P : Program} {f : Nat} {args : Array Value} {zs' xs' : List Int} {E' : Int} (h : Calls P f args w (RetTA w zs xs E)) (hz : zs = zs') (hx : xs = xs') (hE : E = E') : Calls P f args w (RetTA w zs' xs' E') := by
  subst hz hx hE; exact h
/-- A shape and an error; the shape is the call's own. -/
def RetSA (w : World) (zs : List Int) (E : Int) (e : Ending) (w' : World) : Prop :=
  ∃ A c, e = .returned (.tuple #[.slice A zs.length c, .int .i64 E]) ∧ Sl w' A zs.length zs ∧ Le zs.length c ∧ Fre w.heap.size A ∧ Prev w' w
theorem retSA {P : Program} {f : Nat} {args : Array Value} (h : Calls P f args w (RetSE w zs E)) : Calls P f args w (RetSA w zs E) :=
  h.mono fun _ _ ⟨A, c, he, h1, hb, hf, hl⟩ => ⟨A, c, he, ⟨h1, rfl⟩, ⟨hl⟩, ⟨hf⟩, ⟨hb⟩⟩
/-- A shape of the call's own. -/
def RetSo (w : World) (zs : List Int) (e : Ending) (w' : World) : Prop :=
  ∃ g, e = .returned (.slice (some ⟨g, 0, none⟩) zs.length zs.length) ∧ Sl w' (some ⟨g, 0, none⟩) zs.length zs ∧ Fre w.heap.size (some ⟨g, 0, none⟩) ∧ Prev w' w

theorem aS_copy [a : Sl w A n zs] (hn : n ≤ 1000000) : Calls Try.prog 81 #[.slice A n c] w (RetSo w zs) := by
  obtain ⟨a, rfl⟩ := a
  exact (sh_copy A c zs w hn a).mono fun _ _ ⟨g, he, hg, ho, hb⟩ => ⟨g, he, ⟨ho.rd, rfl⟩, ⟨fun ad e => by injection e with e; subst e; exact hg⟩, ⟨hb⟩⟩
theorem a03_right [a : Sl w A n zs] (hn : n ≤ 1000000) : Calls Try.prog 75 #[.slice A n c] w (RetV w (.bool (rightB zs))) := by
  obtain ⟨a, rfl⟩ := a
  exact (ref_right A c zs w hn a).mono fun _ _ ⟨he, hw⟩ => ⟨he, hw ▸ prev_bel _ _⟩
theorem a03_size [a : Sl w A n zs] (hr : rightB zs = true) : Calls Try.prog 76 #[.slice A n c] w (RetV w (.int .i64 (prodL zs))) := by
  obtain ⟨a, rfl⟩ := a
  obtain ⟨_, h4, hin, _⟩ := (rightB_iff _).1 hr
  exact (ref_size A c zs w h4 (Lib.hid hin) a).mono fun _ _ ⟨he, hw⟩ => ⟨he, hw ▸ prev_bel _ _⟩
end

end Go.Proofs.Ytphcffcecncngaa
