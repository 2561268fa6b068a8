/- The walks of package shape: indices, At, Cut, Join. -/
import Derived.Test.YtlnpkoggnikkbaaShape2
namespace Go.Proofs.Ytlnpkoggnikkbaa
open Go.RowKit

theorem set_idx {zs : List Int} {j : Nat} {z p : Int} (hz : zs[j]? = some z) :
    (List.replicate (j + 1) 0 ++ idx (zs.drop (j + 1)) p).set j (p / prodL (zs.drop (j + 1)) % z) = List.replicate j 0 ++ idx (zs.drop j) p := by
  rw [drop_at hz]
  simp only [idx]
  rw [List.replicate_succ', List.append_assoc, List.set_append_right _ _ (by simp)]
  simp

set_option maxHeartbeats 1000000 in
theorem sh_indices (A : Option Addr) (c : Nat) (zs : List Int) (p : Int) (w : World) (hs : zs.length ≤ 1000000) (hin : Hid (inSides zs = true)) (hp0 : 0 ≤ p) (hp1 : p ≤ 9223372036854775807) (h : Rd w A zs) :
    Calls Try.prog 51 #[.slice A zs.length c, .int .i64 p] w (RetInts w 3 (idx zs p)) := by
  have hmk := fun W => run_make_row' (P := Try.prog) 22 3 (.int .i64 0) 8 Try.underlying22 (by kernel_rfl) rfl .i64 .i64 zs.length (by omega) (by omega) W
  rw [ints_made] at hmk
  go_enter Try.func51, Try.ntmps51
  go_wp2
  go_loopw [1, 6] (fun q i wr => ∃ k : Nat, k ≤ zs.length ∧ i = .int .i64 ((k : Int) - 1) ∧ q = .int .i64 (p / prodL (zs.drop k)) ∧ Own wr w.heap.size 3 (List.replicate k 0 ++ idx (zs.drop k) p) ∧ Below w.heap.size w wr) (fun _ i _ => (intOf i + 1).toNat)
  case atStart =>
    refine ⟨zs.length, Nat.le_refl _, rfl, ?_, ?_, (Below.refl _ _).alloc (Nat.le_refl _) _⟩
    · simp [prodL]
    · simp only [List.drop_length, idx, List.append_nil]; exact Own.new _ _ _
  case round =>
    obtain ⟨k, hk, rfl, rfl, hown, hbel⟩ := hrel
    have hq := prodL_pos (l := zs.drop k) fun z hz => (inSides_mem hin.out (List.mem_of_mem_drop hz)).1
    have hd0 : 0 ≤ p / prodL (zs.drop k) := Int.ediv_nonneg hp0 (by omega)
    have hd1 : p / prodL (zs.drop k) ≤ 9223372036854775807 := Int.le_trans (Int.ediv_le_self _ hp0) hp1
    cases k with
    | zero =>
      have HO := Lib.hid hown
      clear hown hq
      go_wp2
      go_ret
      exact ⟨w.heap.size, by simp [idx_length], Nat.le_refl _, by simpa using HO.out, hbel⟩
    | succ j =>
      have hj : j < zs.length := by omega
      have g := h.below hbel
      obtain ⟨b, off, z, rfl, hb, hc, hz⟩ := g.get hj
      obtain ⟨hz1, hz2⟩ := inSides_get hin.out hz.out
      obtain ⟨hb0, off0, e0, hlt0, _⟩ := h j z hz.out
      have hbne : b ≠ w.heap.size := by injection e0 with e0; injection e0 with e1 e2; omega
      clear e0
      have hc2 := fun u => (World.cell?_setCell_other wr ⟨w.heap.size, j, none⟩ ⟨b, off + j, none⟩ u (by exact fun e => hbne (congrArg Addr.block e).symm)).trans hc
      have hcj : ∃ v, wr.cell? ⟨w.heap.size, j, none⟩ = some v := by
        have : (List.replicate (j + 1) 0 ++ idx (zs.drop (j + 1)) p)[j]? = some 0 := by
          rw [List.getElem?_append_left (by simp)]; simp
        exact ⟨_, hown.cell this⟩
      obtain ⟨v, hcj⟩ := hcj
      have hfj := hown.frozen j
      have HO := Lib.hid (hown.set_ j (p / prodL (zs.drop (j + 1)) % z))
      rw [set_idx hz.out] at HO
      clear hown
      have e1 : ((j + 1 : Nat) : Int) - 1 = j := by omega
      rw [e1]
      have e2 : p / prodL (zs.drop (j + 1)) / z = p / prodL (zs.drop j) := by
        rw [drop_at hz.out, prodL_cons, Int.ediv_ediv_of_nonneg (by omega), Int.mul_comm]
      have E2 := Lib.hid e2
      clear e1 e2
      go_wp2
      go_roundw
      case rel => exact ⟨j, by omega, rfl, by rw [E2.out], HO.out, hbel.setCell (Nat.le_refl _) _⟩
      case measure => simp [intOf]

/-- A slice of integers (new, or nil) and an error's number are returned; what was there stays. -/
def RetSE (w : World) (zs : List Int) (E : Int) (e : Ending) (w' : World) : Prop :=
  ∃ A c, e = .returned (.tuple #[.slice A zs.length c, .int .i64 E]) ∧ Rd w' A zs ∧ Below w.heap.size w w' ∧ (∀ ad, A = some ad → w.heap.size ≤ ad.block) ∧ zs.length ≤ c
theorem RetSE.none_ {w w' : World} {zs : List Int} {E : Int} (hz : zs = []) (hb : Below w.heap.size w w') (e : Ending) (he : e = .returned (.tuple #[.slice none 0 0, .int .i64 E])) : RetSE w zs E e w' := by
  subst hz
  exact ⟨none, 0, he, Rd.nil _ _, hb, (fun _ h => by cases h), Nat.le_refl _⟩
theorem RetSE.own {w w' : World} {g T : Nat} {zs : List Int} (hg : w.heap.size ≤ g) (ho : Own w' g T zs) (hb : Below w.heap.size w w') (e : Ending) (he : e = .returned (.tuple #[.slice (some ⟨g, 0, none⟩) zs.length zs.length, .int .i64 0])) : RetSE w zs 0 e w' :=
  ⟨_, _, he, ho.rd, hb, (fun _ h => by injection h with h; subst h; exact hg), Nat.le_refl _⟩

def atE (zs : List Int) (p : Int) : Int := if rightB zs then (if decide (0 ≤ p) && decide (p < prodL zs) then 0 else 11) else 20
def atV (zs : List Int) (p : Int) : List Int := if rightB zs && decide (0 ≤ p) && decide (p < prodL zs) then idx zs p else []

set_option maxHeartbeats 1000000 in
theorem sh_at (A : Option Addr) (c : Nat) (zs : List Int) (p : Int) (w : World) (hs : zs.length ≤ 1000000) (h : Rd w A zs) :
    Calls Try.prog 28 #[.slice A zs.length c, .int .i64 p] w (RetSE w (atV zs p) (atE zs p)) := by
  rcases hr : rightB zs with _ | _
  · have HV : Hid (atV zs p = []) := Lib.hid (by simp [atV, hr])
    have HE : Hid (atE zs p = 20) := Lib.hid (by simp [atE, hr])
    have HS : Hid (sizeV zs = 0 ∧ sizeE zs = 20) := Lib.hid (by simp [sizeV, sizeE, hr])
    clear hr
    go_enter Try.func28, Try.ntmps28
    go_wp2_with fail
    refine (sh_size A c zs w hs h).mono ?_
    rintro e w1 ⟨rfl, hb⟩
    rw [HS.out.1, HS.out.2]
    go_wp2_with fail
    go_ret2
    exact RetSE.none_ HV.out hb _ (by rw [HE.out]; rfl)
  · obtain ⟨r1, r4, rin, rpr⟩ := (rightB_iff zs).1 hr
    have RIN := Lib.hid rin
    have HS : Hid (sizeV zs = prodL zs ∧ sizeE zs = 0) := Lib.hid (by simp [sizeV, sizeE, hr])
    by_cases hp : 0 ≤ p ∧ p < prodL zs
    · obtain ⟨hp0, hp1⟩ := hp
      have HV : Hid (atV zs p = idx zs p) := Lib.hid (by simp [atV, hr, hp0, hp1])
      have HE : Hid (atE zs p = 0) := Lib.hid (by simp [atE, hr, hp0, hp1])
      clear hr rin
      go_enter Try.func28, Try.ntmps28
      go_wp2_with fail
      refine (sh_size A c zs w hs h).mono ?_
      rintro e w1 ⟨rfl, hb⟩
      rw [HS.out.1, HS.out.2]
      go_wp2_with fail
      refine (sh_indices A c zs p w1 hs RIN hp0 (by omega) (h.below hb)).mono ?_
      rintro e w2 ⟨g, rfl, hg, ho, hb2⟩
      have HO := Lib.hid ho
      clear ho
      go_wp2_with fail
      go_ret2
      rw [HV.out, HE.out]
      exact RetSE.own (Nat.le_trans hb.size hg) HO.out (hb.trans (hb2.mono hb.size)) _ rfl
    · have HV : Hid (atV zs p = []) := Lib.hid (by
        rw [atV, if_neg]; simp only [Bool.and_eq_true, decide_eq_true_eq]; omega)
      have HE : Hid (atE zs p = 11) := Lib.hid (by
        rw [atE, if_pos hr, if_neg]; simp only [Bool.and_eq_true, decide_eq_true_eq]; omega)
      clear hr rin
      go_enter Try.func28, Try.ntmps28
      go_wp2_with fail
      refine (sh_size A c zs w hs h).mono ?_
      rintro e w1 ⟨rfl, hb⟩
      rw [HS.out.1, HS.out.2]
      go_wp2_with fail
      all_goals first | omega | (go_ret2; exact RetSE.none_ HV.out hb _ (by rw [HE.out]; rfl))

def cutE (zs : List Int) (side a b : Int) : Int :=
  if rightB zs then (if decide (0 ≤ side) && decide (side < zs.length) && decide (0 ≤ a) && decide (b ≤ zs.getD side.toNat 0) && decide (a < b) then 0 else 11) else 20
def cutV (zs : List Int) (side a b : Int) : List Int := if cutE zs side a b = 0 then zs.set side.toNat (b - a) else []

set_option maxHeartbeats 1000000 in
theorem sh_cut (A : Option Addr) (c : Nat) (zs : List Int) (side a b : Int) (w : World) (hs : zs.length ≤ 1000000) (h : Rd w A zs) :
    Calls Try.prog 25 #[.slice A zs.length c, .int .i64 side, .int .i64 a, .int .i64 b] w (RetSE w (cutV zs side a b) (cutE zs side a b)) := by
  rcases hr : rightB zs with _ | _
  · have HE : Hid (cutE zs side a b = 20) := Lib.hid (by simp [cutE, hr])
    have HV : Hid (cutV zs side a b = []) := Lib.hid (by simp [cutV, HE.out])
    have HR := Lib.hid hr
    clear hr
    go_enter Try.func25, Try.ntmps25
    go_wp2_with fail
    refine (sh_right A c zs w hs h).mono ?_
    rintro e w1 ⟨rfl, hb⟩
    rw [HR.out]
    go_wp2_with fail
    go_ret2
    exact RetSE.none_ HV.out hb _ (by rw [HE.out]; rfl)
  · have HR := Lib.hid hr
    obtain ⟨r1, r4, rin, rpr⟩ := (rightB_iff zs).1 hr
    by_cases hsd : 0 ≤ side ∧ side < zs.length
    · obtain ⟨n, rfl⟩ := Int.eq_ofNat_of_zero_le hsd.1
      have hn : n < zs.length := by omega
      obtain ⟨b0, off, z, rfl, hb0, hc, hz⟩ := h.get hn
      obtain ⟨hz1, hz2⟩ := inSides_get rin hz.out
      by_cases hab : 0 ≤ a ∧ b ≤ z ∧ a < b
      · obtain ⟨ha, hbz, hlt⟩ := hab
        have HE : Hid (cutE zs n a b = 0) := Lib.hid (by
          rw [cutE, if_pos hr, if_pos]
          simp only [Bool.and_eq_true, decide_eq_true_eq, Int.toNat_natCast]
          simp [List.getD, hz.out]; omega)
        have HV : Hid (cutV zs n a b = zs.set n (b - a)) := Lib.hid (by simp [cutV, HE.out])
        clear hr rin
        go_enter Try.func25, Try.ntmps25
        go_wp2_with fail
        refine (sh_right _ c zs w hs h).mono ?_
        rintro e w1 ⟨rfl, hb⟩
        rw [HR.out]
        have hc1 := (h.below hb).all hz.out
        go_wp2_with fail
        refine (sh_copy _ c zs w1 hs (h.below hb)).mono ?_
        rintro e w2 ⟨g, rfl, hg, ho, hb2⟩
        have hcg := ho.cell hz.out
        have hfg := ho.frozen n
        have HO := Lib.hid (ho.set_ n (b - a))
        clear ho
        have hlen : (zs.set n (b - a)).length = zs.length := by simp
        have HLEN := Lib.hid hlen
        clear hlen
        go_wp2_with fail
        go_ret2
        rw [HV.out, HE.out]
        exact RetSE.own (Nat.le_trans hb.size hg) HO.out ((hb.trans (hb2.mono hb.size)).setCell (Nat.le_trans hb.size hg) _) _ (by rw [HLEN.out]; rfl)
      · have HE : Hid (cutE zs n a b = 11) := Lib.hid (by
          rw [cutE, if_pos hr, if_neg]
          simp only [Bool.and_eq_true, decide_eq_true_eq, Int.toNat_natCast]
          simp [List.getD, hz.out]; omega)
        have HV : Hid (cutV zs n a b = []) := Lib.hid (by simp [cutV, HE.out])
        clear hr rin
        go_enter Try.func25, Try.ntmps25
        go_wp2_with fail
        refine (sh_right _ c zs w hs h).mono ?_
        rintro e w1 ⟨rfl, hb⟩
        rw [HR.out]
        have hc1 := (h.below hb).all hz.out
        go_wp2_with fail
        all_goals first | omega | (go_ret2; exact RetSE.none_ HV.out hb _ (by rw [HE.out]; rfl))
    · have HE : Hid (cutE zs side a b = 11) := Lib.hid (by
        rw [cutE, if_pos hr, if_neg]
        simp only [Bool.and_eq_true, decide_eq_true_eq]; omega)
      have HV : Hid (cutV zs side a b = []) := Lib.hid (by simp [cutV, HE.out])
      clear hr rin
      go_enter Try.func25, Try.ntmps25
      go_wp2_with fail
      refine (sh_right _ c zs w hs h).mono ?_
      rintro e w1 ⟨rfl, hb⟩
      rw [HR.out]
      go_wp2_with fail
      all_goals first | omega | (go_ret2; exact RetSE.none_ HV.out hb _ (by rw [HE.out]; rfl))
end Go.Proofs.Ytlnpkoggnikkbaa
