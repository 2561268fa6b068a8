/- The walks of the statements' small functions on cells, and of the reference's Parts and Cut. -/
import Derived.Test.YtingmabmglpmaaaLaw04
import Derived.Test.YtingmabmglpmaaaAppend2
import Derived.Test.YtingmabmglpmaaaCutMath
namespace Go.Proofs.Ytingmabmglpmaaa
open Go.RowKit

/-- A slice that the call made by append. -/
def RetA (w : World) (T : TypeId) (zs : List Int) (e : Ending) (w' : World) : Prop := ∃ A c, e = .returned (.slice A zs.length c) ∧ OwnA w' w.heap.size T A c zs ∧ Below w.heap.size w w'

set_option maxRecDepth 100000 in
set_option maxHeartbeats 1000000 in
theorem r4_parts (A : Option Addr) (c : Nat) (zs : List Int) (n P I : Nat) (w : World) (h4 : zs.length ≤ 4) (hc : zs.length ≤ c) (hin : Hid (inSides zs = true)) (hn : n < zs.length) (hP : Hid (prodL (zs.take n) = (P : Int))) (hI : Hid (prodL (zs.drop (n + 1)) = (I : Int))) (h : Rd w A zs) :
    Calls Try.prog 49 #[.slice A zs.length c, .int .i64 n] w fun e w' => e = .returned (.tuple #[.int .i64 P, .int .i64 I]) ∧ ∃ m, w' = w.drewN m := by
  obtain ⟨A1, hsl1, hrs1⟩ := slice_to (P := Try.prog) 22 (by kernel_rfl) (by kernel_rfl) A zs.length c n (n : Int) (by omega) (by omega) (by omega)
  obtain ⟨A2, hsl2, hrs2⟩ := slice_from (P := Try.prog) 22 (by kernel_rfl) (by kernel_rfl) A zs.length c (n + 1) ((n : Int) + 1) (by omega) (by omega) (by omega)
  have C1 := Lib.hid fun m => calls_same (ref_size A1 c (zs.take n) (w.drewN m) (by simp; omega) (Lib.hid (inSides_take hin.out n)) ((hrs1 w zs rfl h).drewN m))
  have C2 := Lib.hid fun m => calls_same (ref_size A2 (c - (n + 1)) (zs.drop (n + 1)) (w.drewN m) (by simp; omega) (Lib.hid (inSides_drop hin.out _)) ((hrs2 w zs rfl h).drewN m))
  rw [hP.out, show (zs.take n).length = n from by simp; omega] at C1
  rw [hI.out, List.length_drop] at C2
  have e1 : IntKind.i64.wrap ((n : Int) + 1) = (n : Int) + 1 := by rw [IntKind.wrap_i64]; omega
  clear hrs1 hrs2
  go_enter Try.func49, Try.ntmps49
  go_wp2_with fail
  go_quiet ((first | (go_at_call 21; with_reducible exact Calls.quiet_of_same (C1.out _)) | (go_at_call 21; with_reducible exact Calls.quiet_of_same (C2.out _))))
  go_wp2_with fail
  go_ret2
  exact ⟨rfl, _, rfl⟩

end Go.Proofs.Ytingmabmglpmaaa
