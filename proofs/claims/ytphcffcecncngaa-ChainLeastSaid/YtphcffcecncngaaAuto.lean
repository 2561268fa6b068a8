/- Facts of memory that are found by themselves: worlds that follow one another, slices that read as lists, whole blocks. -/
import Derived.Test.YtphcffcecncngaaOff
import Derived.Test.YtphcffcecncngaaOpen
import Derived.Test.YtphcffcecncngaaTensor
namespace Go.Proofs.Ytphcffcecncngaa
open Go.RowKit

/-- Block b is there in w. -/
class Old (b : Nat) (w : World) : Prop where
  lt : b < w.heap.size
/-- Block g is known whole. -/
class Bx (w : World) (g : Nat) (T : outParam TypeId) (cs : outParam (Array Value)) : Prop where
  blk : Blk w g T cs
/-- The slice of length n at A reads as zs. -/
class Sl (w : World) (A : Option Addr) (n : Nat) (zs : outParam (List Int)) : Prop where
  rd : Rd w A zs
  len : n = zs.length
section
variable {w w' X : World} {b g n : Nat} {T : TypeId} {cs : Array Value} {A : Option Addr} {zs : List Int} {o o' o'' o3 o4 : Obj}
instance (priority := low) Old.step [p : Prev w' w] [h : Old b w] : Old b w' := ⟨Nat.lt_of_lt_of_le h.lt p.st.size⟩
instance Old.new : Old X.heap.size (X.alloc o) := ⟨by simp⟩
instance Old.new1 : Old (X.heap.size + 1) ((X.alloc o).alloc o') := ⟨by simp⟩
instance Old.new2 : Old (X.heap.size + 1 + 1) (((X.alloc o).alloc o').alloc o'') := ⟨by simp⟩
instance Old.new3 : Old (X.heap.size + 1 + 1 + 1) ((((X.alloc o).alloc o').alloc o'').alloc o3) := ⟨by simp⟩
instance Old.new4 : Old (X.heap.size + 1 + 1 + 1 + 1) (((((X.alloc o).alloc o').alloc o'').alloc o3).alloc o4) := ⟨by simp⟩
instance (priority := low) Bx.step [p : Prev w' w] [h : Bx w g T cs] : Bx w' g T cs := ⟨h.blk.keep p.st⟩
instance Bx.new : Bx (X.alloc (.cells cs T)) X.heap.size T cs := ⟨Blk.new _ _ _⟩
instance Bx.new1 : Bx ((X.alloc o).alloc (.cells cs T)) (X.heap.size + 1) T cs := ⟨Blk.new' _ _ _ (by simp)⟩
instance Bx.new2 : Bx (((X.alloc o).alloc o').alloc (.cells cs T)) (X.heap.size + 1 + 1) T cs := ⟨Blk.new' _ _ _ (by simp)⟩
instance Bx.new3 : Bx ((((X.alloc o).alloc o').alloc o'').alloc (.cells cs T)) (X.heap.size + 1 + 1 + 1) T cs := ⟨Blk.new' _ _ _ (by simp)⟩
instance Bx.new4 : Bx (((((X.alloc o).alloc o').alloc o'').alloc o3).alloc (.cells cs T)) (X.heap.size + 1 + 1 + 1 + 1) T cs := ⟨Blk.new' _ _ _ (by simp)⟩
theorem cell_bx [h : Bx w g T cs] (i : Nat) : w.cell? ⟨g, i, none⟩ = cs[i]? := h.blk.cell i
theorem frozen_bx [h : Bx w g T cs] (i : Nat) : w.frozen? ⟨g, i, none⟩ = false := h.blk.frozen i
instance (priority := low) Sl.step [p : Prev w' w] [h : Sl w A n zs] : Sl w' A n zs := ⟨h.rd.below p.st, h.len⟩
instance (priority := low) Sl.empty : Sl w A 0 [] := ⟨Rd.nil _ _, rfl⟩
theorem Blk.rdL {k : List Int} (h : Blk w g T (ints k)) : Rd w (some ⟨g, 0, none⟩) k := Own.rd (T := T) h
section
variable {a b c d e f : Int}
instance Sl.lit1 [h : Bx w g T #[.int .i64 a]] : Sl w (some ⟨g, 0, none⟩) 1 [a] := ⟨h.blk.rdL (k := [a]), rfl⟩
instance Sl.lit2 [h : Bx w g T #[.int .i64 a, .int .i64 b]] : Sl w (some ⟨g, 0, none⟩) 2 [a, b] := ⟨h.blk.rdL (k := [a, b]), rfl⟩
instance Sl.lit3 [h : Bx w g T #[.int .i64 a, .int .i64 b, .int .i64 c]] : Sl w (some ⟨g, 0, none⟩) 3 [a, b, c] := ⟨h.blk.rdL (k := [a, b, c]), rfl⟩
instance Sl.lit4 [h : Bx w g T #[.int .i64 a, .int .i64 b, .int .i64 c, .int .i64 d]] : Sl w (some ⟨g, 0, none⟩) 4 [a, b, c, d] := ⟨h.blk.rdL (k := [a, b, c, d]), rfl⟩
instance Sl.lit5 [h : Bx w g T #[.int .i64 a, .int .i64 b, .int .i64 c, .int .i64 d, .int .i64 e]] : Sl w (some ⟨g, 0, none⟩) 5 [a, b, c, d, e] := ⟨h.blk.rdL (k := [a, b, c, d, e]), rfl⟩
instance Sl.lit6 [h : Bx w g T #[.int .i64 a, .int .i64 b, .int .i64 c, .int .i64 d, .int .i64 e, .int .i64 f]] : Sl w (some ⟨g, 0, none⟩) 6 [a, b, c, d, e, f] := ⟨h.blk.rdL (k := [a, b, c, d, e, f]), rfl⟩
end
-- 'i + 0': else simp takes the rule for a permutation
theorem cell_prev [p : Prev w' w] [h : Old b w] (i : Nat) : w'.cell? ⟨b, i, none⟩ = w.cell? ⟨b, i + 0, none⟩ := p.st.cell (p := ⟨b, i, none⟩) h.lt
theorem frozen_prev [p : Prev w' w] [h : Old b w] (i : Nat) : w'.frozen? ⟨b, i, none⟩ = w.frozen? ⟨b, i + 0, none⟩ := p.st.frozen (p := ⟨b, i, none⟩) h.lt
/-- The element k, its value a letter whose equation is hidden. -/
theorem Sl.get (h : Sl w A n zs) {k : Nat} (hk : k < n) : ∃ b off z, A = some ⟨b, off, none⟩ ∧ Old b w ∧ w.cell? ⟨b, off + k, none⟩ = some (.int .i64 z) ∧ Hid (zs[k]? = some z) := by
  obtain ⟨b, off, z, e, hb, hc, hz⟩ := h.rd.get (k := k) (by rw [← h.len]; exact hk)
  exact ⟨b, off, z, e, ⟨hb⟩, hc, hz⟩
theorem cell_one {a : Int} [h : Bx w g T #[.int .i64 a]] : w.cell? ⟨g, 0, none⟩ = some (.int .i64 a) := h.blk.cell 0
theorem prev_bel (w w' : World) [l : Later w w'] : Prev w' w := ⟨l.st⟩
end

/-- What a call leaves: a value; a slice; a tensor and an error. Nothing that was there has changed. -/
def RetV (w : World) (v : Value) (e : Ending) (w' : World) : Prop := e = .returned v ∧ Prev w' w
def RetS (w : World) (zs : List Int) (e : Ending) (w' : World) : Prop := ∃ A c, e = .returned (.slice A zs.length c) ∧ Sl w' A zs.length zs ∧ Prev w' w
def RetTS (w : World) (zs xs : List Int) (E : Int) (e : Ending) (w' : World) : Prop :=
  ∃ A c B d, e = .returned (.tuple #[.agg #[.slice A zs.length c, .slice B xs.length d], .int .i64 E]) ∧ Sl w' A zs.length zs ∧ Sl w' B xs.length xs ∧ xs.length ≤ d ∧ Prev w' w
section
variable {P : Program} {f : Nat} {args : Array Value} {w : World}
theorem retV {v : Value} (h : Calls P f args w (RetB w v)) : Calls P f args w (RetV w v) := h.mono fun _ _ ⟨he, hb⟩ => ⟨he, ⟨hb⟩⟩
theorem retVD {b : Bool} (h : Calls P f args w (RetBoolDrew w b)) : Calls P f args w (RetV w (.bool b)) := h.mono fun _ _ ⟨he, n, hb⟩ => ⟨he, ⟨hb ▸ below_drewN (Below.refl _ _) n⟩⟩
theorem retTS {zs xs : List Int} {E : Int} (h : Calls P f args w (RetTE w zs xs E)) : Calls P f args w (RetTS w zs xs E) :=
  h.mono fun _ _ ⟨A, c, B, d, he, h1, h2, hb⟩ => ⟨A, c, B, d, he, ⟨h1.rd, rfl⟩, ⟨h2.rd, rfl⟩, h2.len_le, ⟨hb⟩⟩
/-- The world of a call gets a name. -/
theorem gen_boxK {Q : Ending → World → Prop} {X : World} {T : TypeId} {cs : Array Value} (h : ∀ u, Prev u X → Bx u X.heap.size T cs → Calls P f args u Q) : Calls P f args (X.alloc (.cells cs T)) Q :=
  h _ (Prev.alloc _ _) Bx.new
theorem gen_boxK2 {Q : Ending → World → Prop} {X : World} {T T' : TypeId} {cs cs' : Array Value} (h : ∀ u, Prev u X → Bx u X.heap.size T cs → Bx u (X.heap.size + 1) T' cs' → Calls P f args u Q) : Calls P f args ((X.alloc (.cells cs T)).alloc (.cells cs' T')) Q :=
  h _ (prev_bel _ _) inferInstance inferInstance
theorem gen_boxK3 {Q : Ending → World → Prop} {X : World} {T T' T'' : TypeId} {cs cs' cs'' : Array Value} (h : ∀ u, Prev u X → Bx u X.heap.size T cs → Bx u (X.heap.size + 1) T' cs' → Bx u (X.heap.size + 1 + 1) T'' cs'' → Calls P f args u Q) : Calls P f args (((X.alloc (.cells cs T)).alloc (.cells cs' T')).alloc (.cells cs'' T'')) Q :=
  h _ (prev_bel _ _) inferInstance inferInstance inferInstance
theorem gen_boxH {md : Region.Mode} {ops : Array Oper} {Q : Exit → Act → World → Prop} {S : World → Prop} {fuel : Nat} {listed : Array Bool} {a : Act} {X : World} {T : TypeId} {cs : Array Value}
    (h : ∀ u, Prev u X → Bx u X.heap.size T cs → wpAnyH P md ops Q S fuel listed a u) : wpAnyH P md ops Q S fuel listed a (X.alloc (.cells cs T)) :=
  h _ (Prev.alloc _ _) Bx.new
/-- A region that draws: from here on all that was there in the world X stays. -/
theorem wp_region_up {ops : Array Oper} {Q : Exit → Act → World → Prop} {id : Nat} {a : Act} (X : World) [l : Later X w] (hm : P.follows .mixedOrders = true)
    (h : ∀ u, Prev u w → wpAnyH P .any ops Q (fun w' => Prev w' X) ops.size (Array.replicate ops.size false) a u) : (Code.region id ops true).wp P Q a w :=
  wp_region_held_drew hm ⟨l.st.drew⟩ (fun _ => h _ (Prev.drew w))
theorem wp_region_upR {ops : Array Oper} {Q : Exit → Act → World → Prop} {id : Nat} {a : Act} (X : World) (R : World → Prop) [l : Later X w] (hm : P.follows .mixedOrders = true) (hR : R w.drew)
    (h : ∀ u, Prev u w → wpAnyH P .any ops Q (fun w' => Prev w' X ∧ R w') ops.size (Array.replicate ops.size false) a u) : (Code.region id ops true).wp P Q a w :=
  wp_region_held_drew hm ⟨⟨l.st.drew⟩, hR⟩ (fun _ => h _ (Prev.drew w))
theorem wp_region_up0 {ops : Array Oper} {Q : Exit → Act → World → Prop} {id : Nat} {a : Act} (hm : P.follows .mixedOrders = true)
    (h : ∀ u, Prev u w → wpAnyH P .any ops Q (fun w' => Prev w' w) ops.size (Array.replicate ops.size false) a u) : (Code.region id ops true).wp P Q a w := wp_region_up w hm h
end

end Go.Proofs.Ytphcffcecncngaa
