/- Results that lie in memory of the call's own, and the contracts of tensors and shapes that tell so. -/
import Derived.Test.YtingmabmglpmaaaTAuto
import Derived.Test.YtingmabmglpmaaaAppend2
import Derived.Test.YtingmabmglpmaaaTJoin2
import Derived.Test.YtingmabmglpmaaaTCut
import Derived.Test.YtingmabmglpmaaaJoinMath
import Derived.Test.YtingmabmglpmaaaMoveMath
namespace Go.Proofs.Ytingmabmglpmaaa
open Go.RowKit

/-- The address lies in block B or behind it. -/
structure Fre (B : Nat) (A : Option Addr) : Prop where
  out : ∀ ad, A = some ad → B ≤ ad.block
section
variable {w w' : World} {A B C D : Option Addr} {n m c d n' m' c' d' b b' : Nat} {zs xs ts ys : List Int} {side E : Int}
theorem Fre.none : Fre b none := ⟨fun _ h => by cases h⟩
theorem Fre.less (h : Fre b A) (hb : b' ≤ b) : Fre b' A := ⟨fun ad e => Nat.le_trans hb (h.out ad e)⟩
theorem OwnA.fre {T : TypeId} (h : OwnA w b T A c zs) : Fre b A := ⟨h.fresh⟩
theorem Sl.setCell {p : Addr} (h : Sl w A n zs) (f : Fre b A) (hp : p.block < b) (v : Value) : Sl (w.setCell p v) A n zs :=
  ⟨fun j z hj => by
    obtain ⟨k, off, e, hb, hc⟩ := h.rd j z hj
    refine ⟨k, off, e, by simpa using hb, ?_⟩
    rw [← hc]
    have := f.out _ e
    exact World.cell?_of_block (Below.heap_setCell w p v k (by simp only at this; omega)), h.len⟩
theorem Sl.far2 {p : Nat} (h : Sl w A n zs) (f : Fre b A) (hp : p < b) (v0 v1 : Value) : Sl ((w.setCell ⟨p, 0, none⟩ v0).setCell ⟨p, 1, none⟩ v1) A n zs :=
  (h.setCell (p := ⟨p, 0, none⟩) f hp v0).setCell (p := ⟨p, 1, none⟩) f hp v1
/-- A tensor and an error; the tensor's rows are the call's own. -/
def RetTA (w : World) (zs xs : List Int) (E : Int) (e : Ending) (w' : World) : Prop :=
  ∃ A c B d, e = .returned (.tuple #[.agg #[.slice A zs.length c, .slice B xs.length d], .int .i64 E]) ∧ Sl w' A zs.length zs ∧ Sl w' B xs.length xs ∧ Le zs.length c ∧ Le xs.length d ∧ Fre w.heap.size A ∧ Fre w.heap.size B ∧ Prev w' w
theorem retTA {P : Program} {f : Nat} {args : Array Value} (h : Calls P f args w (RetTE w zs xs E)) : Calls P f args w (RetTA w zs xs E) :=
  h.mono fun _ _ ⟨A, c, B, d, he, h1, h2, hb⟩ => ⟨A, c, B, d, he, ⟨h1.rd, rfl⟩, ⟨h2.rd, rfl⟩, ⟨h1.len_le⟩, ⟨h2.len_le⟩, ⟨h1.fresh⟩, ⟨h2.fresh⟩, ⟨hb⟩⟩
theorem retTA_of {P : Program} {f : Nat} {args : Array Value} {zs' xs' : List Int} {E' : Int} (h : Calls P f args w (RetTA w zs xs E)) (hz : zs = zs') (hx : xs = xs') (hE : E = E') : Calls P f args w (RetTA w zs' xs' E') := by
  subst hz hx hE; exact h
/-- A shape and an error; the shape is the call's own. -/
def RetSA (w : World) (zs : List Int) (E : Int) (e : Ending) (w' : World) : Prop :=
  ∃ A c, e = .returned (.tuple #[.slice A zs.length c, .int .i64 E]) ∧ Sl w' A zs.length zs ∧ Le zs.length c ∧ Fre w.heap.size A ∧ Prev w' w
theorem retSA {P : Program} {f : Nat} {args : Array Value} (h : Calls P f args w (RetSE w zs E)) : Calls P f args w (RetSA w zs E) :=
  h.mono fun _ _ ⟨A, c, he, h1, hb, hf, hl⟩ => ⟨A, c, he, ⟨h1, rfl⟩, ⟨hl⟩, ⟨hf⟩, ⟨hb⟩⟩
/-- A shape of the call's own. -/
def RetSo (w : World) (zs : List Int) (e : Ending) (w' : World) : Prop :=
  ∃ g, e = .returned (.slice (some ⟨g, 0, none⟩) zs.length zs.length) ∧ Sl w' (some ⟨g, 0, none⟩) zs.length zs ∧ Fre w.heap.size (some ⟨g, 0, none⟩) ∧ Prev w' w

theorem aS_copy [a : Sl w A n zs] (hn : n ≤ 1000000) : Calls Try.prog 63 #[.slice A n c] w (RetSo w zs) := by
  obtain ⟨a, rfl⟩ := a
  exact (sh_copy A c zs w hn a).mono fun _ _ ⟨g, he, hg, ho, hb⟩ => ⟨g, he, ⟨ho.rd, rfl⟩, ⟨fun ad e => by injection e with e; subst e; exact hg⟩, ⟨hb⟩⟩
theorem aS_join [a : Sl w A n zs] [b : Sl w B m ts] (hn : n ≤ 1000000) (hm : m ≤ 1000000) {V : List Int} {J : Int} (hJ : Hid (joinE zs ts side = J)) (hV : Hid (joinV zs ts side = V)) : Calls Try.prog 45 #[.slice A n c, .slice B m d, .int .i64 side] w (RetSA w V J) := by
  obtain ⟨a, rfl⟩ := a
  obtain ⟨b, rfl⟩ := b
  rw [← hJ.out, ← hV.out]
  exact retSA (sh_join A B c d zs ts side w hn hm a b)
theorem aS_cut [a : Sl w A n zs] (hn : n ≤ 1000000) {x y : Int} {V : List Int} {J : Int} (hJ : Hid (cutE zs side x y = J)) (hV : Hid (cutV zs side x y = V)) : Calls Try.prog 47 #[.slice A n c, .int .i64 side, .int .i64 x, .int .i64 y] w (RetSA w V J) := by
  obtain ⟨a, rfl⟩ := a
  rw [← hJ.out, ← hV.out]
  exact retSA (sh_cut A c zs side x y w hn a)
theorem aS_size [a : Sl w A n zs] (hn : n ≤ 1000000) {V J : Int} (hV : Hid (sizeV zs = V)) (hJ : Hid (sizeE zs = J)) : Calls Try.prog 42 #[.slice A n c] w (RetV w (.tuple #[.int .i64 V, .int .i64 J])) := by
  obtain ⟨a, rfl⟩ := a
  rw [← hJ.out, ← hV.out]
  exact retV (sh_size A c zs w hn a)
theorem a03_right [a : Sl w A n zs] (hn : n ≤ 1000000) : Calls Try.prog 20 #[.slice A n c] w (RetV w (.bool (rightB zs))) := by
  obtain ⟨a, rfl⟩ := a
  exact (ref_right A c zs w hn a).mono fun _ _ ⟨he, hw⟩ => ⟨he, hw ▸ prev_bel _ _⟩
theorem a03_size [a : Sl w A n zs] (hr : rightB zs = true) : Calls Try.prog 21 #[.slice A n c] w (RetV w (.int .i64 (prodL zs))) := by
  obtain ⟨a, rfl⟩ := a
  obtain ⟨_, h4, hin, _⟩ := (rightB_iff _).1 hr
  exact (ref_size A c zs w h4 (Lib.hid hin) a).mono fun _ _ ⟨he, hw⟩ => ⟨he, hw ▸ prev_bel _ _⟩
theorem aT_ofA [a : Sl w A n zs] [b : Sl w B m xs] (hn : n ≤ 1000000) (hm : m ≤ 1000000) (h : tRightB zs xs = true) : Calls Try.prog 40 #[.slice A n c, .slice B m d] w (RetTA w zs xs 0) := by
  obtain ⟨a, rfl⟩ := a
  obtain ⟨b, rfl⟩ := b
  exact retTA (t_of_yes A B c d zs xs w hn hm a b (Lib.hid h))

theorem aT_ofA_no [a : Sl w A n zs] [b : Sl w B m xs] (hn : n ≤ 1000000) (h : tRightB zs xs = false) : Calls Try.prog 40 #[.slice A n c, .slice B m d] w (RetTA w [] [] 20) := by
  obtain ⟨a, rfl⟩ := a
  obtain ⟨b, rfl⟩ := b
  exact retTA (t_of_no A B c d zs xs w hn a (Lib.hid h))

/-- What 'Join' of two makes. -/
def tjS (zs xs ts ys : List Int) (side : Int) : List Int := if tjoinE zs xs ts ys side = 0 then joinV zs ts side else []
def tjX (zs xs ts ys : List Int) (side : Int) : List Int :=
  if tjoinE zs xs ts ys side = 0 then joinCells (prodL (zs.drop side.toNat)).toNat (prodL (ts.drop side.toNat)).toNat xs ys (prodL (zs.take side.toNat)).toNat else []
theorem prodL_drop {n : Nat} {z : Int} (hz : zs[n]? = some z) : prodL (zs.drop n) = z * prodL (zs.drop (n + 1)) := by
  rw [drop_at hz, prodL_cons]
theorem aT_join [a : Sl w A n zs] [b : Sl w B m xs] [a' : Sl w C n' ts] [b' : Sl w D m' ys] [l1 : Le n c] [l2 : Le m d] [l3 : Le n' c'] [l4 : Le m' d'] (hn : n ≤ 1000000) (hn' : n' ≤ 1000000)
    {S X : List Int} {J : Int} (hJ : Hid (tjoinE zs xs ts ys side = J)) (hS : Hid (tjS zs xs ts ys side = S)) (hX : Hid (tjX zs xs ts ys side = X)) :
    Calls Try.prog 23 #[.agg #[.slice A n c, .slice B m d], .agg #[.slice C n' c', .slice D m' d'], .int .i64 side] w (RetTA w S X J) := by
  obtain ⟨a, rfl⟩ := a
  obtain ⟨b, rfl⟩ := b
  obtain ⟨a', rfl⟩ := a'
  obtain ⟨b', rfl⟩ := b'
  by_cases h0 : tjoinE zs xs ts ys side = 0
  · rw [← hJ.out, h0]
    have h0' := h0
    unfold tjoinE at h0'
    split at h0'
    · rename_i hq
      simp only [Bool.and_eq_true] at hq
      obtain ⟨k, P, Z1, Z2, I, rfl, r1, r2, hl, hk, g1, g2, z1, z2, p1, i1, eP, eI, eP', eI', ep, ep', ej, hrs, rj, -⟩ := join_nats h0'
      have c1 := ((tRightB_iff _ _).1 hq.1).2
      have c2 := ((tRightB_iff _ _).1 hq.2).2
      have := retTA (t_join_yes A B C D c d c' d' zs xs ts ys k P Z1 Z2 I w (Lib.hid hq.1) (Lib.hid hq.2) (Lib.hid hl) hk (Lib.hid g1) (Lib.hid g2) (Lib.hid eP) (Lib.hid eI) (Lib.hid eI') (Lib.hid (by rw [ep] at c1; omega)) (Lib.hid (by rw [ep'] at c2; omega))
        (Lib.hid hrs) (Lib.hid ej) (Lib.hid rj) l1.le l3.le l2.le l4.le a b a' b')
      refine retTA_of this ?_ ?_ rfl
      · rw [← hS.out, tjS, if_pos h0, joinV, if_pos h0', Int.toNat_natCast, ej]
      · rw [← hX.out, tjX, if_pos h0, Int.toNat_natCast, prodL_drop g1, prodL_drop g2, eI, eI', eP, ← Int.natCast_mul, ← Int.natCast_mul]
        rfl
    · omega
  · rw [← hJ.out, ← hS.out, ← hX.out, tjS, tjX, if_neg h0, if_neg h0]
    exact retTA (t_join_no A B C D c d c' d' zs xs ts ys side w hn hn' a a' (Lib.hid h0))
/-- What 'Cut' makes. -/
def tcS (zs xs : List Int) (side x y : Int) : List Int := if tcutE zs xs side x y = 0 then cutV zs side x y else []
def tcX (zs xs : List Int) (side x y : Int) : List Int :=
  if tcutE zs xs side x y = 0 then cutCells (prodL (zs.drop side.toNat)).toNat (x * prodL (zs.drop (side.toNat + 1))).toNat ((y - x) * prodL (zs.drop (side.toNat + 1))).toNat xs (prodL (zs.take side.toNat)).toNat else []
theorem aT_cut [a : Sl w A n zs] [b : Sl w B m xs] [l2 : Le m d] (hn : n ≤ 1000000) {x y : Int} {S X : List Int} {J : Int} (hJ : Hid (tcutE zs xs side x y = J)) (hS : Hid (tcS zs xs side x y = S)) (hX : Hid (tcX zs xs side x y = X)) :
    Calls Try.prog 25 #[.agg #[.slice A n c, .slice B m d], .int .i64 side, .int .i64 x, .int .i64 y] w (RetTA w S X J) := by
  obtain ⟨a, rfl⟩ := a
  obtain ⟨b, rfl⟩ := b
  by_cases h0 : tcutE zs xs side x y = 0
  · rw [← hJ.out, h0]
    have h0' := h0
    unfold tcutE at h0'
    split at h0'
    · rename_i hq
      have h1 := h0'
      unfold cutE at h1
      split at h1
      · rename_i hr
        split at h1
        · rename_i hc
          simp only [Bool.and_eq_true, decide_eq_true_eq] at hc
          obtain ⟨⟨⟨⟨s0, s1⟩, x0⟩, y1⟩, xy⟩ := hc
          obtain ⟨k, rfl⟩ := Int.eq_ofNat_of_zero_le s0
          obtain ⟨F, rfl⟩ := Int.eq_ofNat_of_zero_le x0
          obtain ⟨T, rfl⟩ := Int.eq_ofNat_of_zero_le (show 0 ≤ y by omega)
          have hk : k < zs.length := by omega
          obtain ⟨_, _, rin, _⟩ := (rightB_iff zs).1 hr
          obtain ⟨P, Z, I, eP, eZ, eI, hP, hZ, hI, -⟩ := sides_nat rin (List.getElem?_eq_getElem hk)
          have g1 : zs[k]? = some (Z : Int) := by rw [List.getElem?_eq_getElem hk, eZ]
          have hTZ : T ≤ Z := by rw [Int.toNat_natCast, List.getD_eq_getElem?_getD, g1] at y1; simp at y1; omega
          have := retTA (t_cut_yes A B c d zs xs k P Z I F T w (Lib.hid hq) (Lib.hid g1) (Lib.hid eP) (Lib.hid eI) (by omega) hTZ l2.le a b)
          refine retTA_of this ?_ ?_ rfl
          · rw [← hS.out, tcS, if_pos h0, cutV, if_pos h0', Int.toNat_natCast]
          · rw [← hX.out, tcX, if_pos h0, Int.toNat_natCast, prodL_drop g1, eI, eP]
            rw [show ((T : Int) - F) = ((T - F : Nat) : Int) from by omega, ← Int.natCast_mul, ← Int.natCast_mul, ← Int.natCast_mul]
            rfl
        · cases h1
      · cases h1
    · omega
  · rw [← hJ.out, ← hS.out, ← hX.out, tcS, tcX, if_neg h0, if_neg h0]
    exact retTA (t_cut_no A B c d zs xs side x y w hn a (Lib.hid h0))
end

end Go.Proofs.Ytingmabmglpmaaa
