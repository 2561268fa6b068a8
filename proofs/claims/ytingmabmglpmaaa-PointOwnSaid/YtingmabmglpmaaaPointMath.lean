/- What a kind's cell is, and what goes back there: plain functions. -/
import Derived.Test.YtingmabmglpmaaaFix2
namespace Go.Proofs.Ytingmabmglpmaaa

/-- One, a half, a quarter. -/
abbrev one5 : Int := 4294967296
def insN (kind : Int) : Int := if 1 ≤ kind ∧ kind ≤ 5 then 1 else if kind = 6 ∨ kind = 7 then 2 else 0
def lineF (x : Int) : Int := fadd (fmul x 1073741824) 2147483648
def cellF (kind k x y : Int) : Int :=
  if kind = 1 then max x 0
  else if kind = 2 then (if 0 < x then x else fmul x k)
  else if kind = 3 then fclamp x (-4294967296) 4294967296
  else if kind = 4 then fclamp (lineF x) 0 4294967296
  else if kind = 5 then fmul x k
  else if kind = 6 then fadd x y
  else if kind = 7 then fmul x y
  else 0
def slopeX (kind k x y g : Int) : Int :=
  if kind = 1 then (if 0 < x then g else 0)
  else if kind = 2 then (if 0 < x then g else fmul g k)
  else if kind = 3 then (if -4294967296 < x ∧ x < 4294967296 then g else 0)
  else if kind = 4 then (if 0 < lineF x ∧ lineF x < 4294967296 then fmul g 1073741824 else 0)
  else if kind = 5 then fmul g k
  else if kind = 6 then g
  else if kind = 7 then fmul g y
  else 0
def slopeY (kind x g : Int) : Int := if kind = 6 then g else if kind = 7 then fmul g x else 0
theorem fclamp_bd {x low high : Int} (hx : I64 x) (hl : I64 low) (hh : I64 high) : I64 (fclamp x low high) := by
  unfold fclamp; split
  · exact hh
  · split
    · exact hl
    · exact hx
theorem q5 : I64 1073741824 := ⟨by decide, by decide⟩
theorem lineF_bd (x : Int) : I64 (lineF x) := fadd_bd _ _
theorem cellF_bd {kind k x y : Int} (hk : I64 k) (hx : I64 x) (hy : I64 y) : I64 (cellF kind k x y) := by
  have m : I64 (max x 0) := by obtain ⟨a, b⟩ := hx; constructor <;> omega
  unfold cellF
  repeat' split
  all_goals first | exact m | exact hx | exact fmul_bd hx hk | exact fmul_bd hx hy | exact fadd_bd _ _ | exact fclamp_bd hx ⟨by decide, by decide⟩ ⟨by decide, by decide⟩ | exact fclamp_bd (lineF_bd x) ⟨by decide, by decide⟩ ⟨by decide, by decide⟩ | exact ⟨by decide, by decide⟩
theorem slopeX_bd {kind k x y g : Int} (hk : I64 k) (hy : I64 y) (hg : I64 g) : I64 (slopeX kind k x y g) := by
  have z : I64 0 := ⟨by decide, by decide⟩
  unfold slopeX
  repeat' split
  all_goals first | exact hg | exact z | exact fmul_bd hg hk | exact fmul_bd hg hy | exact fmul_bd hg q5
theorem slopeY_bd {kind x g : Int} (hx : I64 x) (hg : I64 g) : I64 (slopeY kind x g) := by
  have z : I64 0 := ⟨by decide, by decide⟩
  unfold slopeY
  repeat' split
  all_goals first | exact hg | exact z | exact fmul_bd hg hx

section
variable {k x y g : Int}
theorem cellF_1 : cellF 1 k x y = max x 0 := by simp [cellF]
theorem cellF_2 : cellF 2 k x y = if 0 < x then x else fmul x k := by simp [cellF]
theorem cellF_3 : cellF 3 k x y = fclamp x (-4294967296) 4294967296 := by simp [cellF]
theorem cellF_4 : cellF 4 k x y = fclamp (lineF x) 0 4294967296 := by simp [cellF]
theorem cellF_5 : cellF 5 k x y = fmul x k := by simp [cellF]
theorem cellF_6 : cellF 6 k x y = fadd x y := by simp [cellF]
theorem cellF_7 : cellF 7 k x y = fmul x y := by simp [cellF]
theorem slopeX_1 : slopeX 1 k x y g = if 0 < x then g else 0 := by simp [slopeX]
theorem slopeX_2 : slopeX 2 k x y g = if 0 < x then g else fmul g k := by simp [slopeX]
theorem slopeX_3 : slopeX 3 k x y g = if -4294967296 < x ∧ x < 4294967296 then g else 0 := by simp [slopeX]
theorem slopeX_4 : slopeX 4 k x y g = if 0 < lineF x ∧ lineF x < 4294967296 then fmul g 1073741824 else 0 := by simp [slopeX]
theorem slopeX_5 : slopeX 5 k x y g = fmul g k := by simp [slopeX]
theorem slopeX_6 : slopeX 6 k x y g = g := by simp [slopeX]
theorem slopeX_7 : slopeX 7 k x y g = fmul g y := by simp [slopeX]
theorem slopeY_6 : slopeY 6 x g = g := by simp [slopeY]
theorem slopeY_7 : slopeY 7 x g = fmul g x := by simp [slopeY]
theorem slopeY_0 {kind : Int} (h : kind < 6) : slopeY kind x g = 0 := by unfold slopeY; rw [if_neg (by omega), if_neg (by omega)]
end

end Go.Proofs.Ytingmabmglpmaaa
