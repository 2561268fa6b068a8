/- The walk of fix.Dot. -/
import Derived.Test.YthcdjdhnjbdfeaaFix2
import Derived.Lib.MinMax
namespace Go.Proofs.Ythcdjdhnjbdfeaa
open Go.RowKit

theorem quietL {P : Program} {f : FuncId} {args : Array Value} {w : World} {n : Nat} {v : Value}
    (h : Calls P f args (w.drewN n) fun e w' => e = .returned v ∧ w.drewN n = w') : Calls P f args (w.drewN n) fun e w'' => e = .returned v ∧ ∃ m, w'' = w.drewN m :=
  h.mono fun _ _ ⟨he, hm⟩ => ⟨he, n, hm.symm⟩
theorem quietA {P : Program} {f : FuncId} {args : Array Value} {w : World} {a n : Nat} {v : Value}
    (h : Calls P f args (w.drewN (a + n)) fun e w' => e = .returned v ∧ w.drewN (a + n) = w') : Calls P f args (w.drewN (a + n)) fun e w'' => e = .returned v ∧ ∃ m, w'' = w.drewN (a + m) :=
  h.mono fun _ _ ⟨he, hm⟩ => ⟨he, n, hm.symm⟩

/-- The dot product, from the first pair on. -/
def fdot (l : List (Int × Int)) : Int := l.foldl (fun s p => fadd s (fmul p.1 p.2)) 0
theorem fdot_snoc (l : List (Int × Int)) (x y : Int) : fdot (l ++ [(x, y)]) = fadd (fdot l) (fmul x y) := by simp [fdot]
theorem fdot_bd (l : List (Int × Int)) : I64 (fdot l) := by
  rcases List.eq_nil_or_concat l with rfl | ⟨m, x, rfl⟩
  · exact ⟨by decide, by decide⟩
  · rw [List.concat_eq_append, fdot_snoc]; exact fadd_bd _ _

/-- A number, and draws alone. -/
def RetIntDrew (w : World) (n : Int) (e : Ending) (w' : World) : Prop := e = .returned (.int .i64 n) ∧ ∃ m, w' = w.drewN m

set_option maxHeartbeats 1000000 in
theorem fix_dot (A B : Option Addr) (c d : Nat) (xs ys : List Int) (w : World) (hs : xs.length ≤ 1000000) (_hs' : ys.length ≤ 1000000) (hx : Hid (∀ z ∈ xs, I64 z)) (hy : Hid (∀ z ∈ ys, I64 z)) (h : Rd w A xs) (h' : Rd w B ys) :
    Calls Try.prog 64 #[.slice A xs.length c, .slice B ys.length d] w (RetIntDrew w (fdot (xs.zip ys))) := by
  obtain ⟨N, hN⟩ : ∃ N : Nat, Hid (min xs.length ys.length = N) := ⟨_, Lib.hid rfl⟩
  have e1 : min (xs.length : Int) (ys.length : Int) = (N : Int) := by have := hN.out; omega
  have hN1 : N ≤ xs.length := by have := hN.out; omega
  have hN2 : N ≤ ys.length := by have := hN.out; omega
  have HZ : Hid ((xs.zip ys).length = N) := Lib.hid (by rw [List.length_zip]; exact hN.out)
  go_enter Try.func64, Try.ntmps64
  go_wp2_with fail
  go_loopw [5, 12] (fun s i wr => ∃ k m : Nat, k ≤ N ∧ i = .int .i64 k ∧ s = .int .i64 (fdot ((xs.zip ys).take k)) ∧ wr = w.drewN m) (fun _ i _ => N - (intOf i).toNat)
  case atStart => exact ⟨0, 0, Nat.zero_le _, rfl, rfl, rfl⟩
  case round =>
    obtain ⟨k, m, hk, rfl, rfl, rfl⟩ := hrel
    by_cases hlt : k < N
    · obtain ⟨b, off, x, rfl, hb, hc, hxk⟩ := h.get (k := k) (by omega)
      obtain ⟨b', off', y, rfl, hb', hc', hyk⟩ := h'.get (k := k) (by omega)
      have hxi := hx.out x (List.mem_of_getElem? hxk.out)
      have hyi := hy.out y (List.mem_of_getElem? hyk.out)
      have HZA : Hid ((xs.zip ys)[k]? = some (x, y)) := Lib.hid (by rw [List.getElem?_zip_eq_some]; exact ⟨hxk.out, hyk.out⟩)
      have l1 : k < xs.length := by omega
      have l2 : k < ys.length := by omega
      go_wp2_with fail
      go_big_quiet ((first | (go_at_call 67; exact quietL (fix_mul x y _ hxi hyi)) | (go_at_call 67; exact quietA (fix_mul x y _ hxi hyi)) | (go_at_call 66; exact quietL (fix_add _ _ _ (fdot_bd _) (fmul_bd hxi hyi))) | (go_at_call 66; exact quietA (fix_add _ _ _ (fdot_bd _) (fmul_bd hxi hyi)))))
      go_wp2_with fail
      go_roundw
      case rel => exact ⟨k + 1, _, by omega, by go_num, by rw [take_at HZA.out, fdot_snoc], rfl⟩
      case measure => simp [intOf]; omega
    · have e : Hid ((xs.zip ys).take k = xs.zip ys) := Lib.hid (List.take_of_length_le (by rw [HZ.out]; omega))
      go_wp2_with fail
      go_ret
      exact ⟨ret_int (by rw [e.out]), _, rfl⟩
end Go.Proofs.Ythcdjdhnjbdfeaa
