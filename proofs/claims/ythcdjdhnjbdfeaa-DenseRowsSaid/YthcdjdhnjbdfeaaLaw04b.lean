/- The walks of the statements' small functions on cells, and of the reference's Parts and Cut. -/
import Derived.Test.YthcdjdhnjbdfeaaLaw04
import Derived.Test.YthcdjdhnjbdfeaaAppend2
import Derived.Test.YthcdjdhnjbdfeaaCutMath
namespace Go.Proofs.Ythcdjdhnjbdfeaa
open Go.RowKit

/-- A slice that the call made by append. -/
def RetA (w : World) (T : TypeId) (zs : List Int) (e : Ending) (w' : World) : Prop := ∃ A c, e = .returned (.slice A zs.length c) ∧ OwnA w' w.heap.size T A c zs ∧ Below w.heap.size w w'

set_option maxHeartbeats 1000000 in
theorem l04_cells (A B : Option Addr) (c d : Nat) (zs xs : List Int) (w : World) (hx : xs.length ≤ 1000000) (h2 : Rd w B xs) :
    Calls Try.prog 31 #[.agg #[.slice A zs.length c, .slice B xs.length d]] w (RetA w 2 xs) := by
  have b1 := (Below.refl w.heap.size w).alloc (Nat.le_refl _) (.cells #[.slice A zs.length c, .slice B xs.length d] 26)
  go_enter Try.func31, Try.ntmps31
  go_wp2_with fail
  go_loopw [3, 9] (fun v i wr => ∃ (k : Nat) (A' : Option Addr) (c' : Nat), k ≤ xs.length ∧ i = .int .i64 k ∧ v = .slice A' (xs.take k).length c' ∧ OwnA wr w.heap.size 2 A' c' (xs.take k) ∧ Below w.heap.size w wr) (fun _ i _ => xs.length - (intOf i).toNat)
  case atStart => exact ⟨0, none, 0, Nat.zero_le _, rfl, rfl, OwnA.nil _ _ _, b1⟩
  case round =>
    obtain ⟨k, A', c', hk, rfl, rfl, hown, hbel⟩ := hrel
    by_cases hlt : k < xs.length
    · obtain ⟨b, off, x, rfl, hbb, hcx, hxk⟩ := (h2.below hbel).get hlt
      have hl : (xs.take k).length ≤ 1000000 := by simp; omega
      go_wp2_with (at_builtin; refine wpList_pushI rfl _ _ _ rfl 2 Try.underlying52 (by kernel_rfl) w.heap.size A' c' (xs.take k) rfl hown x rfl (by omega) hbel.size ?_; intro A3 c3 w3 ho3 hb3 _ _)
      go_roundw
      case rel =>
        rw [← take_at hxk.out] at ho3
        exact ⟨k + 1, A3, c3, by omega, by go_num, by rw [take_at hxk.out]; simp; omega, ho3, hbel.trans hb3⟩
      case measure => simp [intOf]; omega
    · have e : xs.take k = xs := List.take_of_length_le (by omega)
      rw [e] at hown
      rw [e]
      clear e
      go_wp2_with fail
      go_ret
      exact ⟨A', c', rfl, hown, hbel⟩

set_option maxHeartbeats 1000000 in
theorem l04_same (A B C : Option Addr) (c d c' : Nat) (zs xs ys : List Int) (w : World) (hx : xs.length ≤ 1000000) (hy : ys.length ≤ 1000000) (h2 : Rd w B xs) (h3 : Rd w C ys) :
    Calls Try.prog 29 #[.agg #[.slice A zs.length c, .slice B xs.length d], .slice C ys.length c'] w (RetB w (.bool (decide (xs = ys)))) := by
  have b1 := (Below.refl w.heap.size w).alloc (Nat.le_refl _) (.cells #[.slice A zs.length c, .slice B xs.length d] 26)
  have k1 := Blk.new w 26 #[.slice A zs.length c, .slice B xs.length d]
  by_cases hl : xs.length = ys.length
  · have e0 : ((xs.length : Int) != (ys.length : Int)) = false := by simp; omega
    have HL := Lib.hid hl
    clear hl
    go_enter Try.func29, Try.ntmps29
    go_wp2_with fail
    go_loopw [14] (fun i wr => ∃ k : Nat, k ≤ ys.length ∧ i = .int .i64 k ∧ xs.take k = ys.take k ∧ Blk wr w.heap.size 26 #[.slice A zs.length c, .slice B xs.length d] ∧ Below w.heap.size w wr) (fun i _ => ys.length - (intOf i).toNat)
    case atStart => exact ⟨0, Nat.zero_le _, rfl, rfl, k1, b1⟩
    case round =>
      obtain ⟨k, hk, rfl, htk, kr, hbel⟩ := hrel
      have HT := Lib.hid htk
      clear htk
      obtain ⟨q0, q1⟩ := box2 kr
      by_cases hlt : k < ys.length
      · have hltx : k < xs.length := by rw [HL.out]; exact hlt
        obtain ⟨b, off, x, rfl, hb, hcx, hx1⟩ := (h2.below hbel).get hltx
        obtain ⟨b', off', y, rfl, hb', hcy, hy1⟩ := (h3.below hbel).get hlt
        by_cases hxy : x = y
        · have e1 : (x != y) = false := by simp [hxy]
          have HXY := Lib.hid hxy
          clear hxy
          go_wp2_with fail
          go_big_quiet (fail)
          go_wp2_with fail
          go_roundw
          case rel => exact ⟨k + 1, by omega, by go_num, by rw [take_at hx1.out, take_at hy1.out, HT.out, HXY.out], kr.drewN _, below_drewN hbel _⟩
          case measure => simp [intOf]; omega
        · have e1 : (x != y) = true := by simp [hxy]
          have HD : Hid (decide (xs = ys) = false) := Lib.hid (by simpa using ne_at hx1.out hy1.out hxy)
          clear hxy
          go_wp2_with fail
          go_big_quiet (fail)
          go_wp2_with fail
          go_ret
          exact ⟨ret_bool HD.out.symm, below_drewN hbel _⟩
      · have HD : Hid (decide (xs = ys) = true) := Lib.hid (by simpa using eq_of_takes HL.out HT.out (by rw [HL.out]; exact hlt))
        go_wp2_with fail
        go_ret
        exact ⟨ret_bool HD.out.symm, hbel⟩
  · have e0 : ((xs.length : Int) != (ys.length : Int)) = true := by simp; omega
    have HD : Hid (decide (xs = ys) = false) := Lib.hid (by simp; rintro rfl; exact hl rfl)
    clear hl
    go_enter Try.func29, Try.ntmps29
    go_wp2_with fail
    go_ret
    exact ⟨ret_bool HD.out.symm, b1⟩

set_option maxRecDepth 100000 in
set_option maxHeartbeats 1000000 in
theorem r4_parts (A : Option Addr) (c : Nat) (zs : List Int) (n P I : Nat) (w : World) (h4 : zs.length ≤ 4) (hc : zs.length ≤ c) (hin : Hid (inSides zs = true)) (hn : n < zs.length) (hP : Hid (prodL (zs.take n) = (P : Int))) (hI : Hid (prodL (zs.drop (n + 1)) = (I : Int))) (h : Rd w A zs) :
    Calls Try.prog 61 #[.slice A zs.length c, .int .i64 n] w fun e w' => e = .returned (.tuple #[.int .i64 P, .int .i64 I]) ∧ ∃ m, w' = w.drewN m := by
  obtain ⟨A1, hsl1, hrs1⟩ := slice_to (P := Try.prog) 22 (by kernel_rfl) (by kernel_rfl) A zs.length c n (n : Int) (by omega) (by omega) (by omega)
  obtain ⟨A2, hsl2, hrs2⟩ := slice_from (P := Try.prog) 22 (by kernel_rfl) (by kernel_rfl) A zs.length c (n + 1) ((n : Int) + 1) (by omega) (by omega) (by omega)
  have C1 := Lib.hid fun m => calls_same (ref_size A1 c (zs.take n) (w.drewN m) (by simp; omega) (Lib.hid (inSides_take hin.out n)) ((hrs1 w zs rfl h).drewN m))
  have C2 := Lib.hid fun m => calls_same (ref_size A2 (c - (n + 1)) (zs.drop (n + 1)) (w.drewN m) (by simp; omega) (Lib.hid (inSides_drop hin.out _)) ((hrs2 w zs rfl h).drewN m))
  rw [hP.out, show (zs.take n).length = n from by simp; omega] at C1
  rw [hI.out, List.length_drop] at C2
  have e1 : IntKind.i64.wrap ((n : Int) + 1) = (n : Int) + 1 := by rw [IntKind.wrap_i64]; omega
  clear hrs1 hrs2
  go_enter Try.func61, Try.ntmps61
  go_wp2_with fail
  go_quiet ((first | (go_at_call 22; with_reducible exact Calls.quiet_of_same (C1.out _)) | (go_at_call 22; with_reducible exact Calls.quiet_of_same (C2.out _))))
  go_wp2_with fail
  go_ret2
  exact ⟨rfl, _, rfl⟩

end Go.Proofs.Ythcdjdhnjbdfeaa
