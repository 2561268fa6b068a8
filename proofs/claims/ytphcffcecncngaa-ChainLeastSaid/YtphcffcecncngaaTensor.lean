/- The walks of package tensor: Right, Copy, Of, Make. -/
import Derived.Test.YtphcffcecncngaaShape4
import Derived.Test.YtphcffcecncngaaAppend
namespace Go.Proofs.Ytphcffcecncngaa
open Go.RowKit

/-- Is it a tensor? -/
def tRightB (zs xs : List Int) : Bool := rightB zs && decide ((xs.length : Int) = prodL zs)
theorem tRightB_iff (zs xs : List Int) : tRightB zs xs = true ↔ rightB zs = true ∧ (xs.length : Int) = prodL zs := by simp [tRightB]

theorem OwnA.of_own {w : World} {B g : Nat} {T : TypeId} {zs : List Int} (h : Own w g T zs) (hB : B ≤ g) (hl : zs.length ≤ 1000000000) : OwnA w B T (some ⟨g, 0, none⟩) zs.length zs := by
  refine ⟨by simp, .inr ⟨g, zs.length, ints zs, rfl, hB, h, Nat.le_refl _, by unfold maxLen; omega, by simp [ints_size], ?_⟩⟩
  rw [List.take_of_length_le (by simp [ints])]; simp [ints]
/-- A copy of a tensor. -/
def RetCopy (w : World) (zs xs : List Int) (e : Ending) (w' : World) : Prop :=
  ∃ g g', e = .returned (.agg #[.slice (some ⟨g, 0, none⟩) zs.length zs.length, .slice (some ⟨g', 0, none⟩) xs.length xs.length]) ∧ w.heap.size ≤ g ∧ w.heap.size ≤ g' ∧ Own w' g 3 zs ∧ Own w' g' 45 xs ∧ Below w.heap.size w w'
/-- A tensor in new memory (or the zero one) and an error's number. -/
def RetTE (w : World) (zs xs : List Int) (E : Int) (e : Ending) (w' : World) : Prop :=
  ∃ A c B d, e = .returned (.tuple #[.agg #[.slice A zs.length c, .slice B xs.length d], .int .i64 E]) ∧ OwnA w' w.heap.size 3 A c zs ∧ OwnA w' w.heap.size 45 B d xs ∧ Below w.heap.size w w'
theorem RetTE.no {w w' : World} {zs xs : List Int} {E : Int} (hz : zs = []) (hx : xs = []) (hb : Below w.heap.size w w') (e : Ending) (he : e = .returned (.tuple #[.agg #[.slice none 0 0, .slice none 0 0], .int .i64 E])) : RetTE w zs xs E e w' := by
  subst hz hx
  exact ⟨none, 0, none, 0, he, OwnA.nil _ _ _, OwnA.nil _ _ _, hb⟩
theorem box2 {w : World} {g : Nat} {T : TypeId} {v0 v1 : Value} (h : Blk w g T #[v0, v1]) : w.cell? ⟨g, 0, none⟩ = some v0 ∧ w.cell? ⟨g, 1, none⟩ = some v1 := ⟨h.cell 0, h.cell 1⟩

theorem Blk.set2 {w : World} {g : Nat} {T : TypeId} {a b : Value} (h : Blk w g T #[a, b]) (v0 v1 : Value) : Blk ((w.setCell ⟨g, 0, none⟩ v0).setCell ⟨g, 1, none⟩ v1) g T #[v0, v1] := (h.set_ 0 v0).set_ 1 v1
theorem Own.far2 {w : World} {g p : Nat} {T : TypeId} {zs : List Int} (h : Own w g T zs) (hp : g ≠ p) (v0 v1 : Value) : Own ((w.setCell ⟨p, 0, none⟩ v0).setCell ⟨p, 1, none⟩ v1) g T zs :=
  (h.far (p := ⟨p, 0, none⟩) hp v0).far (p := ⟨p, 1, none⟩) hp v1
theorem OwnA.far2 {w : World} {B p c : Nat} {T : TypeId} {A : Option Addr} {zs : List Int} (h : OwnA w B T A c zs) (hp : ∀ ad, A = some ad → ad.block ≠ p) (v0 v1 : Value) : OwnA ((w.setCell ⟨p, 0, none⟩ v0).setCell ⟨p, 1, none⟩ v1) B T A c zs :=
  h.same fun ad e => (Below.heap_setCell _ ⟨p, 1, none⟩ v1 _ (hp ad e)).trans (Below.heap_setCell _ ⟨p, 0, none⟩ v0 _ (hp ad e))
theorem bset2 {w w' : World} {n p : Nat} (h : Below n w w') (hp : n ≤ p) (v0 v1 : Value) : Below n w ((w'.setCell ⟨p, 0, none⟩ v0).setCell ⟨p, 1, none⟩ v1) :=
  (h.setCell (p := ⟨p, 0, none⟩) hp v0).setCell (p := ⟨p, 1, none⟩) hp v1
theorem Own.ne_blk {w : World} {g g' : Nat} {T T' : TypeId} {zs : List Int} {cs : Array Value} (h : Own w g T zs) (h' : Blk w g' T' cs) (hne : T ≠ T') : g ≠ g' := by
  rintro rfl
  unfold Own at h
  unfold Blk at h'
  rw [h] at h'
  injection h' with h'
  injection h' with _ ht
  exact hne ht
theorem OwnA.ne_blk {w : World} {B c g' : Nat} {T T' : TypeId} {A : Option Addr} {zs : List Int} {cs : Array Value} (h : OwnA w B T A c zs) (h' : Blk w g' T' cs) (hne : T ≠ T') : ∀ ad, A = some ad → ad.block ≠ g' := by
  intro ad e
  rcases h.form with ⟨rfl, _, _⟩ | ⟨g, cur, rfl, hB, hg, _⟩
  · cases e
  · injection e with e; subst e
    rintro rfl
    unfold Blk at h'
    dsimp only at h'
    rw [hg] at h'
    injection h' with h'
    injection h' with _ ht
    exact hne ht

set_option maxHeartbeats 1000000 in
theorem t_right (A B : Option Addr) (c d : Nat) (zs xs : List Int) (w : World) (hs : zs.length ≤ 1000000) (h : Rd w A zs) :
    Calls Try.prog 82 #[.agg #[.slice A zs.length c, .slice B xs.length d]] w (RetB w (.bool (tRightB zs xs))) := by
  have B0 := (Below.refl w.heap.size w).alloc (Nat.le_refl _) (.cells #[.slice A zs.length c, .slice B xs.length d] 65)
  have k0 := Blk.new w 65 #[.slice A zs.length c, .slice B xs.length d]
  have h0 := h.alloc (.cells #[.slice A zs.length c, .slice B xs.length d] 65)
  rcases hr : rightB zs with _ | _
  · have HT : Hid (tRightB zs xs = false) := Lib.hid (by simp [tRightB, hr])
    have HS : Hid (sizeV zs = 0 ∧ sizeE zs = 20) := Lib.hid (by simp [sizeV, sizeE, hr])
    clear hr
    go_enter Try.func82, Try.ntmps82
    go_wp2_with fail
    refine (sh_size A c zs _ hs h0).mono ?_
    rintro e w1 ⟨rfl, hb⟩
    rw [HS.out.1, HS.out.2]
    go_wp2_with fail
    go_ret
    exact ⟨ret_bool HT.out.symm, btr B0 hb⟩
  · have HS : Hid (sizeV zs = prodL zs ∧ sizeE zs = 0) := Lib.hid (by simp [sizeV, sizeE, hr])
    have HT : Hid (tRightB zs xs = ((xs.length : Int) == prodL zs)) := Lib.hid (by simp [tRightB, hr]; exact Bool.eq_iff_iff.2 (by simp))
    clear hr
    go_enter Try.func82, Try.ntmps82
    go_wp2_with fail
    refine (sh_size A c zs _ hs h0).mono ?_
    rintro e w1 ⟨rfl, hb⟩
    rw [HS.out.1, HS.out.2]
    obtain ⟨q0, q1⟩ := box2 (k0.keep hb)
    go_wp2_with fail
    go_ret
    exact ⟨ret_bool HT.out.symm, btr B0 hb⟩

set_option maxRecDepth 100000 in
set_option maxHeartbeats 1000000 in
theorem t_copy (A B : Option Addr) (c d : Nat) (zs xs : List Int) (w : World) (hs : zs.length ≤ 1000000) (hx : xs.length ≤ 1000000) (h : Rd w A zs) (h' : Rd w B xs) :
    Calls Try.prog 83 #[.agg #[.slice A zs.length c, .slice B xs.length d]] w (RetCopy w zs xs) := by
  have hmk := fun W => run_make_row' (P := Try.prog) 63 45 (.int .i64 0) 8 Try.underlying63 (by kernel_rfl) rfl .i64 .i64 xs.length (by omega) (by omega) W
  rw [ints_made] at hmk
  have B0 := ((Below.refl w.heap.size w).alloc (Nat.le_refl _) (.cells #[.slice A zs.length c, .slice B xs.length d] 65)).alloc (by simp) (.cells #[.slice none 0 0, .slice none 0 0] 65)
  have hcp := fun ty => run_copy_new (P := Try.prog) 63 63 ty 45 45 Try.underlying63 (by kernel_rfl) xs B d _ (h'.below B0)
  rw [ints_made] at hcp
  simp only [World.size_alloc] at hcp
  go_enter Try.func83, Try.ntmps83
  go_wp2_with fail
  refine (sh_copy A c zs _ hs (((h.below B0)).alloc _)).mono ?_
  rintro e w1 ⟨g, rfl, hg, ho, hb⟩
  have B1 := btr (B0.alloc B0.size (.cells (ints xs) 45)) hb
  have k1 := ((Blk.new' (w.alloc (.cells #[.slice A zs.length c, .slice B xs.length d] 65)) 65 #[.slice none 0 0, .slice none 0 0] (n := w.heap.size + 1) (by simp)).alloc (.cells (ints xs) 45)).keep hb
  have k2 := (Own.new' ((w.alloc (.cells #[.slice A zs.length c, .slice B xs.length d] 65)).alloc (.cells #[.slice none 0 0, .slice none 0 0] 65)) 45 xs (n := w.heap.size + 1 + 1) (by simp)).keep hb
  obtain ⟨q0, q1⟩ := box2 k1
  have f0 := k1.frozen 0
  have f1 := k1.frozen 1
  simp at hg
  go_wp2_with fail
  have n1 := k2.ne_blk k1 (by decide)
  have n2 := ho.ne_blk k1 (by decide)
  have k3 := k1.set2 (.slice (some ⟨g, 0, none⟩) zs.length zs.length) (.slice (some ⟨w.heap.size + 1 + 1, 0, none⟩) xs.length xs.length)
  have o3 := k2.far2 n1 (.slice (some ⟨g, 0, none⟩) zs.length zs.length) (.slice (some ⟨w.heap.size + 1 + 1, 0, none⟩) xs.length xs.length)
  have o4 := ho.far2 n2 (.slice (some ⟨g, 0, none⟩) zs.length zs.length) (.slice (some ⟨w.heap.size + 1 + 1, 0, none⟩) xs.length xs.length)
  have B3 := bset2 B1 (Nat.le_succ _) (.slice (some ⟨g, 0, none⟩) zs.length zs.length) (.slice (some ⟨w.heap.size + 1 + 1, 0, none⟩) xs.length xs.length)
  clear q0 q1
  obtain ⟨q0, q1⟩ := box2 k3
  refine bodyPost_ret (v := .agg #[.slice (some ⟨g, 0, none⟩) zs.length zs.length, .slice (some ⟨w.heap.size + 1 + 1, 0, none⟩) xs.length xs.length]) (by simp [results, Try.results83, go_sem, q0, q1]) rfl ?_
  exact ⟨g, _, rfl, by omega, by omega, o4, o3, B3⟩

theorem RetTE.yes {w w' : World} {g g' : Nat} {zs xs : List Int} (hg : w.heap.size ≤ g) (hg' : w.heap.size ≤ g') (hz : zs.length ≤ 1000000) (hx : xs.length ≤ 1000000) (ho : Own w' g 3 zs) (ho' : Own w' g' 45 xs) (hb : Below w.heap.size w w') (e : Ending)
    (he : e = .returned (.tuple #[.agg #[.slice (some ⟨g, 0, none⟩) zs.length zs.length, .slice (some ⟨g', 0, none⟩) xs.length xs.length], .int .i64 0])) : RetTE w zs xs 0 e w' :=
  ⟨_, _, _, _, he, OwnA.of_own ho hg (by omega), OwnA.of_own ho' hg' (by omega), hb⟩

set_option maxRecDepth 100000 in
set_option maxHeartbeats 1000000 in
theorem t_of_no (A B : Option Addr) (c d : Nat) (zs xs : List Int) (w : World) (hs : zs.length ≤ 1000000) (h : Rd w A zs) (hr : Hid (tRightB zs xs = false)) :
    Calls Try.prog 62 #[.slice A zs.length c, .slice B xs.length d] w (RetTE w [] [] 20) := by
  have B0 := ((Below.refl w.heap.size w).alloc (Nat.le_refl _) (.cells #[.slice none 0 0, .slice none 0 0] 65)).alloc (by simp) (.cells #[.slice A zs.length c, .slice B xs.length d] 65)
  have k0 := (Blk.new w 65 #[.slice none 0 0, .slice none 0 0]).alloc (.cells #[.slice A zs.length c, .slice B xs.length d] 65)
  go_enter Try.func62, Try.ntmps62
  go_wp2_with fail
  refine (t_right A B c d zs xs _ hs (h.below B0)).mono ?_
  rintro e w1 ⟨rfl, hb⟩
  rw [hr.out]
  have k1 := k0.keep hb
  have B1 := btr B0 hb
  obtain ⟨q0, q1⟩ := box2 k1
  have f0 := k1.frozen 0
  have f1 := k1.frozen 1
  clear k0
  go_wp2_with fail
  have k3 := k1.set2 (.slice none 0 0) (.slice none 0 0)
  have B3 := bset2 B1 (Nat.le_refl _) (.slice none 0 0) (.slice none 0 0)
  clear q0 q1
  obtain ⟨q0, q1⟩ := box2 k3
  refine bodyPost_ret (v := .tuple #[.agg #[.slice none 0 0, .slice none 0 0], .int .i64 20]) (by simp [results, Try.results62, go_sem, q0, q1]) rfl ?_
  exact RetTE.no rfl rfl B3 _ rfl

set_option maxRecDepth 100000 in
set_option maxHeartbeats 1000000 in
theorem t_of_yes (A B : Option Addr) (c d : Nat) (zs xs : List Int) (w : World) (hs : zs.length ≤ 1000000) (hx : xs.length ≤ 1000000) (h : Rd w A zs) (h' : Rd w B xs) (hr : Hid (tRightB zs xs = true)) :
    Calls Try.prog 62 #[.slice A zs.length c, .slice B xs.length d] w (RetTE w zs xs 0) := by
  have B0 := ((Below.refl w.heap.size w).alloc (Nat.le_refl _) (.cells #[.slice none 0 0, .slice none 0 0] 65)).alloc (by simp) (.cells #[.slice A zs.length c, .slice B xs.length d] 65)
  have k0 := (Blk.new w 65 #[.slice none 0 0, .slice none 0 0]).alloc (.cells #[.slice A zs.length c, .slice B xs.length d] 65)
  have k0' := Blk.new' (w.alloc (.cells #[.slice none 0 0, .slice none 0 0] 65)) 65 #[.slice A zs.length c, .slice B xs.length d] (n := w.heap.size + 1) (by simp)
  go_enter Try.func62, Try.ntmps62
  go_wp2_with fail
  refine (t_right A B c d zs xs _ hs (h.below B0)).mono ?_
  rintro e w1 ⟨rfl, hb⟩
  rw [hr.out]
  have k1 := k0.keep hb
  have k1' := k0'.keep hb
  have B1 := btr B0 hb
  obtain ⟨p0, p1⟩ := box2 k1'
  clear k0 k0'
  go_wp2_with fail
  refine (t_copy A B c d zs xs w1 hs hx (h.below B1) (h'.below B1)).mono ?_
  rintro e w2 ⟨g, g', rfl, hg, hg', ho, ho', hb2⟩
  have k2 := k1.keep hb2
  have B2 := btr B1 hb2
  obtain ⟨q0, q1⟩ := box2 k2
  have f0 := k2.frozen 0
  have f1 := k2.frozen 1
  have n1 := ho.ne_blk k2 (by decide)
  have n2 := ho'.ne_blk k2 (by decide)
  have hsz := B1.size
  clear k1 p0 p1
  go_wp2_with fail
  have k3 := k2.set2 (.slice (some ⟨g, 0, none⟩) zs.length zs.length) (.slice (some ⟨g', 0, none⟩) xs.length xs.length)
  have B3 := bset2 B2 (Nat.le_refl _) (.slice (some ⟨g, 0, none⟩) zs.length zs.length) (.slice (some ⟨g', 0, none⟩) xs.length xs.length)
  have o3 := ho.far2 n1 (.slice (some ⟨g, 0, none⟩) zs.length zs.length) (.slice (some ⟨g', 0, none⟩) xs.length xs.length)
  have o4 := ho'.far2 n2 (.slice (some ⟨g, 0, none⟩) zs.length zs.length) (.slice (some ⟨g', 0, none⟩) xs.length xs.length)
  clear q0 q1
  obtain ⟨q0, q1⟩ := box2 k3
  refine bodyPost_ret (v := .tuple #[.agg #[.slice (some ⟨g, 0, none⟩) zs.length zs.length, .slice (some ⟨g', 0, none⟩) xs.length xs.length], .int .i64 0]) (by simp [results, Try.results62, go_sem, q0, q1]) rfl ?_
  exact RetTE.yes (by omega) (by omega) hs hx o3 o4 B3 _ rfl

end Go.Proofs.Ytphcffcecncngaa
