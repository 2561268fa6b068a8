/- Words for memory that all proofs of this seat share: a slice of integers that reads as a list (nil let in), and what keeps it. -/
import Derived.Test.YtphcffcecncngaaProg
import Derived.WalkKit
import Derived.WalkSpells
import Derived.WalkLawsBesides
import Derived.Deep.QuietTactic
import Derived.BigQuiet
import Derived.Deep.Draws
import Derived.Lib.Hide
import Derived.Laws.CopyOwn
import Derived.Deep.OwnRows
namespace Go.Proofs.Ytphcffcecncngaa
open Go.RowKit

/-- The slice with address A (its length is that of zs) reads in w as the integers zs. -/
def Rd (w : World) (A : Option Addr) (zs : List Int) : Prop :=
  ∀ j z, zs[j]? = some z → ∃ b off, A = some ⟨b, off, none⟩ ∧ b < w.heap.size ∧ w.cell? ⟨b, off + j, none⟩ = some (.int .i64 z)

theorem Rd.nil (w : World) (A : Option Addr) : Rd w A [] := fun j _ hj => absurd hj (by simp)
/-- The element k, its value a letter whose equation is hidden from the walk. -/
theorem Rd.get {w : World} {A : Option Addr} {zs : List Int} (h : Rd w A zs) {k : Nat} (hk : k < zs.length) :
    ∃ b off z, A = some ⟨b, off, none⟩ ∧ b < w.heap.size ∧ w.cell? ⟨b, off + k, none⟩ = some (.int .i64 z) ∧ Hid (zs[k]? = some z) := by
  have e : zs[k]? = some zs[k] := List.getElem?_eq_getElem hk
  obtain ⟨b, off, rfl, hb, hc⟩ := h k _ e
  exact ⟨b, off, _, rfl, hb, hc, e⟩
theorem Rd.all {w : World} {b off : Nat} {zs : List Int} (h : Rd w (some ⟨b, off, none⟩) zs) {k : Nat} {z : Int} (hk : zs[k]? = some z) : w.cell? ⟨b, off + k, none⟩ = some (.int .i64 z) := by
  obtain ⟨b', off', he, _, hc⟩ := h k z hk
  injection he with he; injection he with h1 h2; subst h1; subst h2; exact hc
theorem Rd.keep {w w' : World} {A : Option Addr} {zs : List Int} (h : Rd w A zs) (hs : w.heap.size ≤ w'.heap.size) (hk : ∀ p : Addr, p.block < w.heap.size → w'.cell? p = w.cell? p) : Rd w' A zs := by
  intro j z hj
  obtain ⟨b, off, e, hb, hc⟩ := h j z hj
  exact ⟨b, off, e, by omega, (hk _ hb).trans hc⟩
theorem Rd.below {w w' : World} {A : Option Addr} {zs : List Int} (h : Rd w A zs) (hb : Below w.heap.size w w') : Rd w' A zs :=
  h.keep hb.size fun _ hp => hb.cell hp
theorem Rd.alloc {w : World} {A : Option Addr} {zs : List Int} (h : Rd w A zs) (o : Obj) : Rd (w.alloc o) A zs :=
  h.keep (by simp) fun p hp => World.cell?_alloc_lt w o p hp
theorem Rd.drew {w : World} {A : Option Addr} {zs : List Int} (h : Rd w A zs) : Rd w.drew A zs := h
theorem Rd.drewN {w : World} {A : Option Addr} {zs : List Int} (h : Rd w A zs) (n : Nat) : Rd (w.drewN n) A zs := h

/-- The cells of a row of integers. -/
def ints (zs : List Int) : Array Value := (zs.map (Value.int .i64)).toArray
theorem ints_size (zs : List Int) : (ints zs).size = zs.length := by simp [ints]
theorem ints_get (zs : List Int) (j : Nat) : (ints zs)[j]? = zs[j]?.map (Value.int .i64) := by simp [ints]
theorem ints_set (zs : List Int) (k : Nat) (z : Int) : (ints zs).setIfInBounds k (.int .i64 z) = ints (zs.set k z) := by
  simp [ints, List.setIfInBounds_toArray, List.map_set]
theorem ints_made (n : Nat) : madeCells #[.int .i64 0] n = ints (List.replicate n 0) := by
  apply Array.ext'
  rw [toList_madeCells_one]; simp [ints]

/-- Block g holds just the integers zs, of element type T. -/
def Own (w : World) (g : Nat) (T : TypeId) (zs : List Int) : Prop := w.heap[g]? = some (.cells (ints zs) T (0, 0))
section
variable {w w' : World} {g : Nat} {T : TypeId} {zs : List Int}
theorem Own.lt (h : Own w g T zs) : g < w.heap.size := by
  rcases Nat.lt_or_ge g w.heap.size with hlt | hge
  · exact hlt
  · unfold Own at h; rw [Array.getElem?_eq_none hge] at h; cases h
theorem Own.cell (h : Own w g T zs) {i : Nat} {z : Int} (hz : zs[i]? = some z) : w.cell? ⟨g, i, none⟩ = some (.int .i64 z) := by
  unfold Own at h
  simp [World.cell?, h, ints_get, hz]
theorem Own.frozen (h : Own w g T zs) (i : Nat) : w.frozen? ⟨g, i, none⟩ = false := by
  unfold Own at h
  simp [World.frozen?, h]
theorem Own.rd (h : Own w g T zs) : Rd w (some ⟨g, 0, none⟩) zs := fun j z hj => ⟨g, 0, rfl, h.lt, by rw [Nat.zero_add]; exact h.cell hj⟩
theorem Own.new (w : World) (T : TypeId) (zs : List Int) : Own (w.alloc (.cells (ints zs) T)) w.heap.size T zs := heap_alloc_new w _
theorem Own.new' (w : World) (T : TypeId) (zs : List Int) {n : Nat} (h : w.heap.size = n) : Own (w.alloc (.cells (ints zs) T)) n T zs := h ▸ Own.new w T zs
theorem Own.drew (h : Own w g T zs) : Own w.drew g T zs := h
theorem Own.drewN (h : Own w g T zs) (n : Nat) : Own (w.drewN n) g T zs := h
theorem Own.alloc (h : Own w g T zs) (o : Obj) : Own (w.alloc o) g T zs := (Below.heap_alloc w o g h.lt).trans h
theorem Own.set_ (h : Own w g T zs) (i : Nat) (z : Int) : Own (w.setCell ⟨g, i, none⟩ (.int .i64 z)) g T (zs.set i z) := by
  unfold Own at h ⊢
  simp [World.setCell, Array.getElem?_modify, h, ints_set]
theorem Own.far (h : Own w g T zs) {p : Addr} (hp : g ≠ p.block) (u : Value) : Own (w.setCell p u) g T zs := (Below.heap_setCell w p u g hp).trans h
theorem Own.below {B : Nat} (h : Own w g T zs) (hb : Below B w w') (hg : g < B) : Own w' g T zs := (hb.block g hg).trans h
theorem Own.keep (h : Own w g T zs) (hb : Below w.heap.size w w') : Own w' g T zs := h.below hb h.lt
end

/-- Block g is known whole. -/
def Blk (w : World) (g : Nat) (T : TypeId) (cs : Array Value) : Prop := w.heap[g]? = some (.cells cs T (0, 0))
section
variable {w w' : World} {g : Nat} {T : TypeId} {cs : Array Value}
theorem Blk.lt (h : Blk w g T cs) : g < w.heap.size := by
  rcases Nat.lt_or_ge g w.heap.size with hlt | hge
  · exact hlt
  · unfold Blk at h; rw [Array.getElem?_eq_none hge] at h; cases h
theorem Blk.cell (h : Blk w g T cs) (i : Nat) : w.cell? ⟨g, i, none⟩ = cs[i]? := by
  unfold Blk at h
  simp [World.cell?, h]
theorem Blk.frozen (h : Blk w g T cs) (i : Nat) : w.frozen? ⟨g, i, none⟩ = false := by
  unfold Blk at h
  simp [World.frozen?, h]
theorem Blk.new (w : World) (T : TypeId) (cs : Array Value) : Blk (w.alloc (.cells cs T)) w.heap.size T cs := heap_alloc_new w _
theorem Blk.new' (w : World) (T : TypeId) (cs : Array Value) {n : Nat} (h : w.heap.size = n) : Blk (w.alloc (.cells cs T)) n T cs := h ▸ Blk.new w T cs
theorem Blk.drew (h : Blk w g T cs) : Blk w.drew g T cs := h
theorem Blk.drewN (h : Blk w g T cs) (n : Nat) : Blk (w.drewN n) g T cs := h
theorem Blk.alloc (h : Blk w g T cs) (o : Obj) : Blk (w.alloc o) g T cs := (Below.heap_alloc w o g h.lt).trans h
theorem Blk.set_ (h : Blk w g T cs) (i : Nat) (u : Value) : Blk (w.setCell ⟨g, i, none⟩ u) g T (cs.setIfInBounds i u) := by
  unfold Blk at h ⊢
  simp [World.setCell, Array.getElem?_modify, h]
theorem Blk.far (h : Blk w g T cs) {p : Addr} (hp : g ≠ p.block) (u : Value) : Blk (w.setCell p u) g T cs := (Below.heap_setCell w p u g hp).trans h
theorem Blk.below {B : Nat} (h : Blk w g T cs) (hb : Below B w w') (hg : g < B) : Blk w' g T cs := (hb.block g hg).trans h
theorem Blk.keep (h : Blk w g T cs) (hb : Below w.heap.size w w') : Blk w' g T cs := h.below hb h.lt
end

/-- A new row of integers is returned; what was there stays. -/
def RetInts (w : World) (T : TypeId) (zs : List Int) (e : Ending) (w' : World) : Prop :=
  ∃ g, e = .returned (.slice (some ⟨g, 0, none⟩) zs.length zs.length) ∧ w.heap.size ≤ g ∧ Own w' g T zs ∧ Below w.heap.size w w'

theorem setRow_new (W : World) (X Y : Array Value) (E : TypeId) : (W.alloc (.cells X E)).setRow W.heap.size Y = W.alloc (.cells Y E) := by
  simp only [World.setRow, World.alloc]
  congr 1
  apply Array.ext_getElem?
  intro i
  rw [Array.getElem?_modify, Array.getElem?_push, Array.getElem?_push]
  by_cases h : i = W.heap.size
  · simp [h]
  · simp [h, Ne.symm h]
/-- 'copy' of a whole slice into a row that has just been made. -/
theorem run_copy_new {P : Program} (dT sT ty elem E : TypeId) (hu : P.underlying dT = some (.slice elem)) (hs : (P.info? elem).map (·.size) = some 1)
    (zs : List Int) (A : Option Addr) (c : Nat) (W : World) (h : Rd W A zs) :
    (Builtin.copy_ #[dT, sT] ty #[.slice (some ⟨W.heap.size, 0, none⟩) zs.length zs.length, .slice A zs.length c]).run P (W.alloc (.cells (madeCells #[.int .i64 0] zs.length) E)) = .ok (.int .i64 zs.length) (W.alloc (.cells (ints zs) E)) := by
  by_cases h0 : zs.length = 0
  · have e : zs = [] := List.eq_nil_of_length_eq_zero h0
    subst e
    have := run_copy_none (P := P) (W.alloc (.cells (madeCells #[.int .i64 0] 0) E)) dT sT ty elem (some ⟨W.heap.size, 0, none⟩) A 0 0 0 c hu hs rfl
    rw [ints_made] at this ⊢
    exact this
  · obtain ⟨b, off, z, rfl, hb, _, _⟩ := h.get (k := 0) (by omega)
    have := run_copy_row (P := P) (W.alloc (.cells (madeCells #[.int .i64 0] zs.length) E)) dT sT ty elem W.heap.size 0 zs.length zs.length ⟨b, off, none⟩ zs.length c
      (madeCells #[.int .i64 0] zs.length) E (zs.map (Value.int .i64)) hu hs (heap_alloc_new W _) (by simp) (fun j v hv => by
        rw [List.getElem?_map] at hv
        obtain ⟨z, hz, rfl⟩ := Option.map_eq_some_iff.1 hv
        rw [World.cell?_alloc_lt _ _ _ (by unfold Addr.add; split <;> exact hb)]
        have := h.all hz
        unfold Addr.add
        split
        · rename_i e; subst e; exact this
        · exact this) (by simp [size_madeCells]) (by simp [Value.oneCell'])
    rw [this]
    have e : ((madeCells #[Value.int .i64 0] zs.length).toList.take 0 ++ zs.map (Value.int .i64) ++ (madeCells #[Value.int .i64 0] zs.length).toList.drop (0 + (zs.map (Value.int .i64)).length)).toArray = ints zs := by
      simp [ints, toList_madeCells_one]
    rw [e, setRow_new]
    simp [goInt]

theorem below_drewN {B : Nat} {a w : World} (h : Below B a w) (n : Nat) : Below B a (w.drewN n) := ⟨h.os, h.tape, h.output, h.size, h.block⟩
theorem undrew {w w' : World} (h : Below w.drew.heap.size w.drew w') : Below w.heap.size w w' := ⟨h.os, h.tape, h.output, h.size, h.block⟩
theorem undrewN {w w' : World} {n : Nat} (h : Below (w.drewN n).heap.size (w.drewN n) w') : Below w.heap.size w w' := ⟨h.os, h.tape, h.output, h.size, h.block⟩
/-- Two calls, one behind the other. -/
theorem btr {w a b : World} (h : Below w.heap.size w a) (k : Below a.heap.size a b) : Below w.heap.size w b := h.trans (k.mono h.size)
theorem bcell {W w1 : World} (hb : Below W.heap.size W w1) : (∀ b o, b < W.heap.size → w1.cell? ⟨b, o, none⟩ = W.cell? ⟨b, o, none⟩) ∧ (∀ b o, b < W.heap.size → w1.frozen? ⟨b, o, none⟩ = W.frozen? ⟨b, o, none⟩) :=
  ⟨fun b o h => hb.cell (p := ⟨b, o, none⟩) h, fun b o h => hb.frozen (p := ⟨b, o, none⟩) h⟩
theorem ret_int {k : IntKind} {a b : Int} (h : a = b) : Ending.returned (.int k a) = .returned (.int k b) := by rw [h]
theorem ret_bool {a b : Bool} (h : a = b) : Ending.returned (.bool a) = .returned (.bool b) := by rw [h]

end Go.Proofs.Ytphcffcecncngaa
