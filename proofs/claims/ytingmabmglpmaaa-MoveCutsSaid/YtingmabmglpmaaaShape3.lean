/- The walks of package shape: indices, At, Cut, Join. -/
import Derived.Test.YtingmabmglpmaaaShape2
namespace Go.Proofs.Ytingmabmglpmaaa
open Go.RowKit

theorem set_idx {zs : List Int} {j : Nat} {z p : Int} (hz : zs[j]? = some z) :
    (List.replicate (j + 1) 0 ++ idx (zs.drop (j + 1)) p).set j (p / prodL (zs.drop (j + 1)) % z) = List.replicate j 0 ++ idx (zs.drop j) p := by
  rw [drop_at hz]
  simp only [idx]
  rw [List.replicate_succ', List.append_assoc, List.set_append_right _ _ (by simp)]
  simp

/-- A slice of integers (new, or nil) and an error's number are returned; what was there stays. -/
def RetSE (w : World) (zs : List Int) (E : Int) (e : Ending) (w' : World) : Prop :=
  ∃ A c, e = .returned (.tuple #[.slice A zs.length c, .int .i64 E]) ∧ Rd w' A zs ∧ Below w.heap.size w w' ∧ (∀ ad, A = some ad → w.heap.size ≤ ad.block) ∧ zs.length ≤ c
theorem RetSE.none_ {w w' : World} {zs : List Int} {E : Int} (hz : zs = []) (hb : Below w.heap.size w w') (e : Ending) (he : e = .returned (.tuple #[.slice none 0 0, .int .i64 E])) : RetSE w zs E e w' := by
  subst hz
  exact ⟨none, 0, he, Rd.nil _ _, hb, (fun _ h => by cases h), Nat.le_refl _⟩
theorem RetSE.own {w w' : World} {g T : Nat} {zs : List Int} (hg : w.heap.size ≤ g) (ho : Own w' g T zs) (hb : Below w.heap.size w w') (e : Ending) (he : e = .returned (.tuple #[.slice (some ⟨g, 0, none⟩) zs.length zs.length, .int .i64 0])) : RetSE w zs 0 e w' :=
  ⟨_, _, he, ho.rd, hb, (fun _ h => by injection h with h; subst h; exact hg), Nat.le_refl _⟩

def atE (zs : List Int) (p : Int) : Int := if rightB zs then (if decide (0 ≤ p) && decide (p < prodL zs) then 0 else 11) else 20
def atV (zs : List Int) (p : Int) : List Int := if rightB zs && decide (0 ≤ p) && decide (p < prodL zs) then idx zs p else []

def cutE (zs : List Int) (side a b : Int) : Int :=
  if rightB zs then (if decide (0 ≤ side) && decide (side < zs.length) && decide (0 ≤ a) && decide (b ≤ zs.getD side.toNat 0) && decide (a < b) then 0 else 11) else 20
def cutV (zs : List Int) (side a b : Int) : List Int := if cutE zs side a b = 0 then zs.set side.toNat (b - a) else []

set_option maxHeartbeats 1000000 in
theorem sh_cut (A : Option Addr) (c : Nat) (zs : List Int) (side a b : Int) (w : World) (hs : zs.length ≤ 1000000) (h : Rd w A zs) :
    Calls Try.prog 47 #[.slice A zs.length c, .int .i64 side, .int .i64 a, .int .i64 b] w (RetSE w (cutV zs side a b) (cutE zs side a b)) := by
  rcases hr : rightB zs with _ | _
  · have HE : Hid (cutE zs side a b = 20) := Lib.hid (by simp [cutE, hr])
    have HV : Hid (cutV zs side a b = []) := Lib.hid (by simp [cutV, HE.out])
    have HR := Lib.hid hr
    clear hr
    go_enter Try.func47, Try.ntmps47
    go_wp2_with fail
    refine (sh_right A c zs w hs h).mono ?_
    rintro e w1 ⟨rfl, hb⟩
    rw [HR.out]
    go_wp2_with fail
    go_ret2
    exact RetSE.none_ HV.out hb _ (by rw [HE.out]; rfl)
  · have HR := Lib.hid hr
    obtain ⟨r1, r4, rin, rpr⟩ := (rightB_iff zs).1 hr
    by_cases hsd : 0 ≤ side ∧ side < zs.length
    · obtain ⟨n, rfl⟩ := Int.eq_ofNat_of_zero_le hsd.1
      have hn : n < zs.length := by omega
      obtain ⟨b0, off, z, rfl, hb0, hc, hz⟩ := h.get hn
      obtain ⟨hz1, hz2⟩ := inSides_get rin hz.out
      by_cases hab : 0 ≤ a ∧ b ≤ z ∧ a < b
      · obtain ⟨ha, hbz, hlt⟩ := hab
        have HE : Hid (cutE zs n a b = 0) := Lib.hid (by
          rw [cutE, if_pos hr, if_pos]
          simp only [Bool.and_eq_true, decide_eq_true_eq, Int.toNat_natCast]
          simp [List.getD, hz.out]; omega)
        have HV : Hid (cutV zs n a b = zs.set n (b - a)) := Lib.hid (by simp [cutV, HE.out])
        clear hr rin
        go_enter Try.func47, Try.ntmps47
        go_wp2_with fail
        refine (sh_right _ c zs w hs h).mono ?_
        rintro e w1 ⟨rfl, hb⟩
        rw [HR.out]
        have hc1 := (h.below hb).all hz.out
        go_wp2_with fail
        refine (sh_copy _ c zs w1 hs (h.below hb)).mono ?_
        rintro e w2 ⟨g, rfl, hg, ho, hb2⟩
        have hcg := ho.cell hz.out
        have hfg := ho.frozen n
        have HO := Lib.hid (ho.set_ n (b - a))
        clear ho
        have hlen : (zs.set n (b - a)).length = zs.length := by simp
        have HLEN := Lib.hid hlen
        clear hlen
        go_wp2_with fail
        go_ret2
        rw [HV.out, HE.out]
        exact RetSE.own (Nat.le_trans hb.size hg) HO.out ((hb.trans (hb2.mono hb.size)).setCell (Nat.le_trans hb.size hg) _) _ (by rw [HLEN.out]; rfl)
      · have HE : Hid (cutE zs n a b = 11) := Lib.hid (by
          rw [cutE, if_pos hr, if_neg]
          simp only [Bool.and_eq_true, decide_eq_true_eq, Int.toNat_natCast]
          simp [List.getD, hz.out]; omega)
        have HV : Hid (cutV zs n a b = []) := Lib.hid (by simp [cutV, HE.out])
        clear hr rin
        go_enter Try.func47, Try.ntmps47
        go_wp2_with fail
        refine (sh_right _ c zs w hs h).mono ?_
        rintro e w1 ⟨rfl, hb⟩
        rw [HR.out]
        have hc1 := (h.below hb).all hz.out
        go_wp2_with fail
        all_goals first | omega | (go_ret2; exact RetSE.none_ HV.out hb _ (by rw [HE.out]; rfl))
    · have HE : Hid (cutE zs side a b = 11) := Lib.hid (by
        rw [cutE, if_pos hr, if_neg]
        simp only [Bool.and_eq_true, decide_eq_true_eq]; omega)
      have HV : Hid (cutV zs side a b = []) := Lib.hid (by simp [cutV, HE.out])
      clear hr rin
      go_enter Try.func47, Try.ntmps47
      go_wp2_with fail
      refine (sh_right _ c zs w hs h).mono ?_
      rintro e w1 ⟨rfl, hb⟩
      rw [HR.out]
      go_wp2_with fail
      all_goals first | omega | (go_ret2; exact RetSE.none_ HV.out hb _ (by rw [HE.out]; rfl))
end Go.Proofs.Ytingmabmglpmaaa
