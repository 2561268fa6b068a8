/- A shape, and what lies ahead of a side, at it and behind it. -/
import Derived.Test.YtphcffcecncngaaTensor
import Derived.Test.YtphcffcecncngaaCutMath
namespace Go.Proofs.Ytphcffcecncngaa

/-- A shape and what lies ahead of a side, at it and behind it. -/
structure JW (n P I Z : Nat) (s : List Int) : Prop where
  right : rightB s = true
  lt : n < s.length
  at_ : s[n]? = some (Z : Int)
  ahead : prodL (s.take n) = (P : Int)
  behind : prodL (s.drop (n + 1)) = (I : Int)
  p1 : 1 ≤ P
  i1 : 1 ≤ I
  z1 : 1 ≤ Z
section
variable {n P I Z : Nat} {s : List Int}
theorem JW.prod (h : JW n P I Z s) : prodL s = ((P * (Z * I) : Nat) : Int) := by
  rw [sides_split h.at_, h.ahead, h.behind]; simp
theorem JW.small (h : JW n P I Z s) : P * (Z * I) ≤ 65536 := by
  have := h.prod
  obtain ⟨_, _, _, h4⟩ := (rightB_iff s).1 h.right
  rw [this] at h4; omega
theorem JW.cells {xs : List Int} (h : JW n P I Z s) (hr : tRightB s xs = true) : xs.length = P * (Z * I) := by
  have := ((tRightB_iff _ _).1 hr).2
  rw [h.prod] at this; omega
theorem JW.of {n : Nat} (hr : rightB s = true) (hn : n < s.length) : ∃ P I Z, JW n P I Z s := by
  obtain ⟨_, _, rin, _⟩ := (rightB_iff s).1 hr
  obtain ⟨P, Z, I, eP, eZ, eI, hP, hZ, hI, -⟩ := sides_nat rin (List.getElem?_eq_getElem hn)
  exact ⟨P, I, Z, hr, hn, by rw [List.getElem?_eq_getElem hn, eZ], eP, eI, hP, hI, hZ⟩
end

end Go.Proofs.Ytphcffcecncngaa
