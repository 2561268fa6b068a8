/- The walks of package tensor: Make, Get, With. -/
import Derived.Test.YtingmabmglpmaaaTensor
namespace Go.Proofs.Ytingmabmglpmaaa
open Go.RowKit

theorem fill_step {n k : Nat} {v : Int} (hk : k < n) : (List.replicate k v ++ List.replicate (n - k) 0).set k v = List.replicate (k + 1) v ++ List.replicate (n - (k + 1)) 0 := by
  rw [List.set_append_right _ _ (by simp)]
  simp only [List.length_replicate, Nat.sub_self]
  rw [show n - k = (n - (k + 1)) + 1 from by omega, List.replicate_succ, List.set_cons_zero, List.replicate_succ', List.append_assoc]
  rfl
theorem fill_at {n k : Nat} {v : Int} (hk : k < n) : (List.replicate k v ++ List.replicate (n - k) 0)[k]? = some 0 := by
  rw [List.getElem?_append_right (by simp), List.getElem?_replicate, if_pos (by simp; omega)]

theorem rightB_size {zs : List Int} (h : rightB zs = true) : ∃ n : Nat, prodL zs = (n : Int) ∧ 1 ≤ n ∧ n ≤ 65536 := by
  obtain ⟨_, h4, hin, hp⟩ := (rightB_iff zs).1 h
  have h1 := (prodL_bd4 zs hin h4).1
  exact ⟨(prodL zs).toNat, by omega, by omega, by omega⟩

end Go.Proofs.Ytingmabmglpmaaa
