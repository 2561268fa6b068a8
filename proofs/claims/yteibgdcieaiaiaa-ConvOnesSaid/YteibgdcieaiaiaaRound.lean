/- A region that draws its order, in a round of a loop over an iterator: walked as anywhere else. -/
import Derived.Test.YteibgdcieaiaiaaRange2
import Derived.Test.YteibgdcieaiaiaaAuto
import Derived.OrdersIn
namespace Go.Proofs.Yteibgdcieaiaiaa
open Go.RowKit

def noDefer (ops : Array Oper) : Bool := ops.all fun o => match o.op with
  | .defer _ => false
  | _ => true
theorem noDefer_at {ops : Array Oper} (h : noDefer ops = true) {i : Nat} {o : Oper} (hi : ops[i]? = some o) : ∀ c, o.op ≠ .defer c := by
  intro c hc
  unfold noDefer at h
  rw [Array.all_eq_true] at h
  obtain ⟨hl, rfl⟩ := Array.getElem?_eq_some_iff.1 hi
  have := h i hl
  rw [hc] at this
  cases this
section
variable {P : Program} {ops : Array Oper} {Q : Exit → Act → World → Prop} {l n : Nat}
theorem op_inRound {o : Oper} {a : Act} {w : World} {K : Act → World → Prop} (hd : ∀ c, o.op ≠ .defer c) (h : o.wp P a w K Q) : o.wpIn (Fence.wide.inRound l) n P a w K Q := by
  refine ⟨fun _ _ => trivial, ?_⟩
  unfold Oper.wp at h
  rw [show Oper.semAt (Fence.wide.inRound l).round a.eval o = execOp a.eval o from Oper.semAt_some l _ o hd]
  generalize (execOp a.eval o).run P w = r at *
  cases r with
  | ok x w' =>
    cases x <;> simp only [Oper.upon] at h <;> simp only [Oper.uponIn]
    case value => exact h
    case skip => exact h
    case defer => exact h
    case enter => exact ⟨(fun h => by simp [Fence.wide] at h), CallsIn.inRound l (callsIn_wide.2 h)⟩
    case row => exact ⟨(fun h => by simp [Fence.wide] at h), fun c cs _ => let ⟨v, w', r, s⟩ := h c cs; ⟨v, w', r, stepsIn_wide.2 s⟩⟩
  | halt x w' => cases x <;> simp only [Oper.upon] at h <;> simp only [Oper.uponIn] <;> exact h
theorem opAny_inRound (hd : noDefer ops = true) (hq : ¬ LetsOut Q) {i : Nat} {a : Act} {w : World} {K K' : Act → World → Prop} (hK : ∀ a w, K a w → K' a w) (h : wpOp P ops Q i K a w) : wpOpIn (Fence.wide.inRound l) n P ops Q i K' a w := by
  unfold wpOp at h
  unfold wpOpIn
  split
  · rename_i e; rw [e] at h; exact hK _ _ h
  · rename_i o e
    rw [e] at h
    simp only at h
    split
    · rename_i hw
      rw [if_pos hw] at h
      rcases h with h | ⟨-, h⟩
      · exact Oper.wpIn_mono hK (op_inRound (noDefer_at hd e) h)
      · exact absurd h hq
    · rename_i hw
      rw [if_neg hw] at h
      exact ⟨fun _ _ => trivial, hK _ _ h⟩
theorem any_inRound {md : Region.Mode} (hd : noDefer ops = true) (hq : ¬ LetsOut Q) : ∀ (fuel : Nat) (listed : Array Bool) (a : Act) (w : World), wpAny P md ops Q fuel listed a w → wpAnyIn (Fence.wide.inRound l) n P md ops Q fuel listed a w
  | 0, _, _, _, h => h
  | fuel + 1, _, _, _, h => ⟨h.1, fun i hi => opAny_inRound hd hq (fun a w => any_inRound hd hq fuel _ a w) (h.2 i hi)⟩
theorem wpIn_region_up {id : Nat} {a : Act} {w : World} (X : World) (hm : P.follows .mixedOrders = true) (hd : noDefer ops = true) (hq : ¬ LetsOut Q)
    (h : ∀ u, Prev u w → wpAnyH P .any ops Q (fun w' => Prev w' X) ops.size (Array.replicate ops.size false) a u) : (Code.region id ops true).wpIn (Fence.wide.inRound l) n P Q a w :=
  wpIn_region_any hm (any_inRound hd hq _ _ _ _ (wpAny_of_held _ _ _ _ (h _ (Prev.drew w))))
theorem wpIn_region_up0 {id : Nat} {a : Act} {w : World} (hm : P.follows .mixedOrders = true) (hd : noDefer ops = true) (hq : ¬ LetsOut Q)
    (h : ∀ u, Prev u w → wpAnyH P .any ops Q (fun w' => Prev w' w) ops.size (Array.replicate ops.size false) a u) : (Code.region id ops true).wpIn (Fence.wide.inRound l) n P Q a w := wpIn_region_up w hm hd hq h
theorem wpIn_region_upR {id : Nat} {a : Act} {w : World} (X : World) (R : World → Prop) (hm : P.follows .mixedOrders = true) (hd : noDefer ops = true) (hq : ¬ LetsOut Q)
    (h : ∀ u, Prev u w → wpAnyH P .any ops Q (fun w' => Prev w' X ∧ R w') ops.size (Array.replicate ops.size false) a u) : (Code.region id ops true).wpIn (Fence.wide.inRound l) n P Q a w :=
  wpIn_region_any hm (any_inRound hd hq _ _ _ _ (wpAny_of_held _ _ _ _ (h _ (Prev.drew w))))
end

end Go.Proofs.Yteibgdcieaiaiaa
