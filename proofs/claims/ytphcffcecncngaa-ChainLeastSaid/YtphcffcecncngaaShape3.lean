/- The walks of package shape: indices, At, Cut, Join. -/
import Derived.Test.YtphcffcecncngaaShape2
namespace Go.Proofs.Ytphcffcecncngaa
open Go.RowKit

theorem set_idx {zs : List Int} {j : Nat} {z p : Int} (hz : zs[j]? = some z) :
    (List.replicate (j + 1) 0 ++ idx (zs.drop (j + 1)) p).set j (p / prodL (zs.drop (j + 1)) % z) = List.replicate j 0 ++ idx (zs.drop j) p := by
  rw [drop_at hz]
  simp only [idx]
  rw [List.replicate_succ', List.append_assoc, List.set_append_right _ _ (by simp)]
  simp

/-- A slice of integers (new, or nil) and an error's number are returned; what was there stays. -/
def RetSE (w : World) (zs : List Int) (E : Int) (e : Ending) (w' : World) : Prop :=
  ∃ A c, e = .returned (.tuple #[.slice A zs.length c, .int .i64 E]) ∧ Rd w' A zs ∧ Below w.heap.size w w' ∧ (∀ ad, A = some ad → w.heap.size ≤ ad.block) ∧ zs.length ≤ c
theorem RetSE.none_ {w w' : World} {zs : List Int} {E : Int} (hz : zs = []) (hb : Below w.heap.size w w') (e : Ending) (he : e = .returned (.tuple #[.slice none 0 0, .int .i64 E])) : RetSE w zs E e w' := by
  subst hz
  exact ⟨none, 0, he, Rd.nil _ _, hb, (fun _ h => by cases h), Nat.le_refl _⟩
theorem RetSE.own {w w' : World} {g T : Nat} {zs : List Int} (hg : w.heap.size ≤ g) (ho : Own w' g T zs) (hb : Below w.heap.size w w') (e : Ending) (he : e = .returned (.tuple #[.slice (some ⟨g, 0, none⟩) zs.length zs.length, .int .i64 0])) : RetSE w zs 0 e w' :=
  ⟨_, _, he, ho.rd, hb, (fun _ h => by injection h with h; subst h; exact hg), Nat.le_refl _⟩

def atE (zs : List Int) (p : Int) : Int := if rightB zs then (if decide (0 ≤ p) && decide (p < prodL zs) then 0 else 11) else 20
def atV (zs : List Int) (p : Int) : List Int := if rightB zs && decide (0 ≤ p) && decide (p < prodL zs) then idx zs p else []

def cutE (zs : List Int) (side a b : Int) : Int :=
  if rightB zs then (if decide (0 ≤ side) && decide (side < zs.length) && decide (0 ≤ a) && decide (b ≤ zs.getD side.toNat 0) && decide (a < b) then 0 else 11) else 20
def cutV (zs : List Int) (side a b : Int) : List Int := if cutE zs side a b = 0 then zs.set side.toNat (b - a) else []

end Go.Proofs.Ytphcffcecncngaa
