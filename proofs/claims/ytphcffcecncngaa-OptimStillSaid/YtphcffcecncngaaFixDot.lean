/- The walk of fix.Dot. -/
import Derived.Test.YtphcffcecncngaaFix2
import Derived.Lib.MinMax
namespace Go.Proofs.Ytphcffcecncngaa
open Go.RowKit

theorem quietL {P : Program} {f : FuncId} {args : Array Value} {w : World} {n : Nat} {v : Value}
    (h : Calls P f args (w.drewN n) fun e w' => e = .returned v ∧ w.drewN n = w') : Calls P f args (w.drewN n) fun e w'' => e = .returned v ∧ ∃ m, w'' = w.drewN m :=
  h.mono fun _ _ ⟨he, hm⟩ => ⟨he, n, hm.symm⟩
theorem quietA {P : Program} {f : FuncId} {args : Array Value} {w : World} {a n : Nat} {v : Value}
    (h : Calls P f args (w.drewN (a + n)) fun e w' => e = .returned v ∧ w.drewN (a + n) = w') : Calls P f args (w.drewN (a + n)) fun e w'' => e = .returned v ∧ ∃ m, w'' = w.drewN (a + m) :=
  h.mono fun _ _ ⟨he, hm⟩ => ⟨he, n, hm.symm⟩

/-- The dot product, from the first pair on. -/
def fdot (l : List (Int × Int)) : Int := l.foldl (fun s p => fadd s (fmul p.1 p.2)) 0
theorem fdot_snoc (l : List (Int × Int)) (x y : Int) : fdot (l ++ [(x, y)]) = fadd (fdot l) (fmul x y) := by simp [fdot]
theorem fdot_bd (l : List (Int × Int)) : I64 (fdot l) := by
  rcases List.eq_nil_or_concat l with rfl | ⟨m, x, rfl⟩
  · exact ⟨by decide, by decide⟩
  · rw [List.concat_eq_append, fdot_snoc]; exact fadd_bd _ _

/-- A number, and draws alone. -/
def RetIntDrew (w : World) (n : Int) (e : Ending) (w' : World) : Prop := e = .returned (.int .i64 n) ∧ ∃ m, w' = w.drewN m

end Go.Proofs.Ytphcffcecncngaa
