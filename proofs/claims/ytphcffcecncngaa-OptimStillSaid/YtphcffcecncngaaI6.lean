/- Bounds that are found by themselves; the fixed numbers' contracts in this form. -/
import Derived.Test.YtphcffcecncngaaAuto
import Derived.Test.YtphcffcecncngaaFix2
import Derived.Test.YtphcffcecncngaaRef01
namespace Go.Proofs.Ytphcffcecncngaa
open Go.RowKit

class I6 (x : Int) : Prop where
  bd : I64 x
class I6s (xs : List Int) : Prop where
  bd : ∀ z ∈ xs, I64 z
section
variable {x y : Int} {xs : List Int}
instance I6.mul [a : I6 x] [b : I6 y] : I6 (fmul x y) := ⟨fmul_bd a.bd b.bd⟩
instance I6.add : I6 (fadd x y) := ⟨fadd_bd _ _⟩
instance I6.neg : I6 (fneg x) := ⟨fneg_bd _⟩
instance : I6 0 := ⟨by decide, by decide⟩
instance : I6 1 := ⟨by decide, by decide⟩
instance : I6 2 := ⟨by decide, by decide⟩
instance : I6 3 := ⟨by decide, by decide⟩
instance : I6 4 := ⟨by decide, by decide⟩
instance : I6 5 := ⟨by decide, by decide⟩
instance : I6 6 := ⟨by decide, by decide⟩
instance : I6 7 := ⟨by decide, by decide⟩
instance : I6 (-1) := ⟨by decide, by decide⟩
instance : I6 1073741824 := ⟨by decide, by decide⟩
instance : I6 2147483648 := ⟨by decide, by decide⟩
instance : I6 4294967296 := ⟨by decide, by decide⟩
instance : I6 (-4294967296) := ⟨by decide, by decide⟩
instance : I6 9223372036854775807 := ⟨by decide, by decide⟩
instance I6s.nil : I6s [] := ⟨fun _ h => by cases h⟩
instance I6s.cons [a : I6 x] [b : I6s xs] : I6s (x :: xs) := ⟨fun z hz => by
  rcases List.mem_cons.1 hz with rfl | hz
  · exact a.bd
  · exact b.bd z hz⟩
theorem I6s.hid [a : I6s xs] : Hid (∀ z ∈ xs, I64 z) := Lib.hid a.bd
theorem I6s.at [a : I6s xs] {k : Nat} (h : xs[k]? = some x) : I6 x := ⟨a.bd x (List.mem_of_getElem? h)⟩
theorem IntsIn.i6 {w : World} {A : Option Addr} {c : Nat} (h : IntsIn w A c xs) : I6s xs := ⟨fun z hz => wf_bounds (h.2.2.2 z hz)⟩
end
theorem retSame {P : Program} {f : Nat} {args : Array Value} {w : World} {v : Value} (h : Calls P f args w fun e w' => e = .returned v ∧ w = w') : Calls P f args w (RetV w v) :=
  h.mono fun _ _ ⟨he, hw⟩ => ⟨he, hw ▸ prev_bel _ _⟩
theorem retBel {P : Program} {f : Nat} {args : Array Value} {w : World} {v : Value} (h : Calls P f args w fun e w' => e = .returned v ∧ Below w.heap.size w w') : Calls P f args w (RetV w v) :=
  h.mono fun _ _ ⟨he, hw⟩ => ⟨he, ⟨hw⟩⟩
section
variable {w : World} {x y : Int}
theorem aF_mul [a : I6 x] [b : I6 y] : Calls Try.prog 61 #[.int .i64 x, .int .i64 y] w (RetV w (.int .i64 (fmul x y))) := retSame (fix_mul x y w a.bd b.bd)
theorem aF_add [a : I6 x] [b : I6 y] : Calls Try.prog 67 #[.int .i64 x, .int .i64 y] w (RetV w (.int .i64 (fadd x y))) := retSame (fix_add x y w a.bd b.bd)
theorem aF_neg [a : I6 x] : Calls Try.prog 77 #[.int .i64 x] w (RetV w (.int .i64 (fneg x))) := retSame (fix_neg x w a.bd)
theorem aF_clamp {l h : Int} : Calls Try.prog 106 #[.int .i64 x, .int .i64 l, .int .i64 h] w (RetV w (.int .i64 (fclamp x l h))) := retSame (fix_clamp x l h w)
theorem a1_add [a : I6 x] [b : I6 y] : Calls Try.prog 43 #[.int .i64 x, .int .i64 y] w (RetV w (.int .i64 (fadd x y))) := retSame (r1_add x y w a.bd b.bd)
theorem a1_mul [a : I6 x] [b : I6 y] : Calls Try.prog 64 #[.int .i64 x, .int .i64 y] w (RetV w (.int .i64 (fmul x y))) := retBel (r1_mul x y w a.bd b.bd)
end

end Go.Proofs.Ytphcffcecncngaa
