/- The walk of the statement FixLists. -/
import Derived.Test.YtlnpkoggnikkbaaFixProducts
import Derived.Test.YtlnpkoggnikkbaaFixDot
import Derived.Deep.RegionHeld3
import Derived.Deep.DrawnRows
namespace Go.Proofs.Ytlnpkoggnikkbaa
open Go.RowKit
attribute [local go_sem ↓] Go.wp_at_zero Go.wp_at_succ

set_option maxHeartbeats 4000000 in
theorem fixLists_calls (A B : Option Addr) (c d : Nat) (xs ys : List Int) (w : World) (h : IntsIn w A c xs) (h' : IntsIn w B d ys) :
    Calls Try.prog 13 #[.slice A xs.length c, .slice B ys.length d] w (LawTrue w) := by
  obtain ⟨h, -, -, hwx⟩ := h
  obtain ⟨h', -, -, hwy⟩ := h'
  have HX : Hid (∀ z ∈ xs, I64 z) := Lib.hid (fun z hz => i64_wf (hwx z hz))
  have HY : Hid (∀ z ∈ ys, I64 z) := Lib.hid (fun z hz => i64_wf (hwy z hz))
  clear hwx hwy
  by_cases h2 : 200 < xs.length
  · go_enter Try.func13, Try.ntmps13
    go_wp2_with fail
    refine (l01_awake w).mono ?_
    rintro e w1 ⟨rfl, b1⟩
    go_wp2_with fail
    go_ret
    exact ⟨rfl, b1⟩
  by_cases h2' : 200 < ys.length
  · go_enter Try.func13, Try.ntmps13
    go_wp2_with fail
    refine (l01_awake w).mono ?_
    rintro e w1 ⟨rfl, b1⟩
    go_wp2_with fail
    go_ret
    exact ⟨rfl, b1⟩
  obtain ⟨N, hN⟩ : ∃ N : Nat, Hid (min xs.length ys.length = N) := ⟨_, Lib.hid rfl⟩
  have e1 : min (xs.length : Int) (ys.length : Int) = (N : Int) := by have := hN.out; omega
  have hN1 : N ≤ xs.length := by have := hN.out; omega
  have hN2 : N ≤ ys.length := by have := hN.out; omega
  have HZ : Hid ((xs.zip ys).length = N) := Lib.hid (by rw [List.length_zip]; exact hN.out)
  go_enter Try.func13, Try.ntmps13
  go_wp2_with fail
  go_loop [5, 21] (fun s i => ∃ k : Nat, k ≤ xs.length ∧ i = .int .i64 k ∧ s = .int .i64 (fsum (xs.take k))) (fun _ i => xs.length - (intOf i).toNat)
  case atStart => exact ⟨0, Nat.zero_le _, rfl, rfl⟩
  case round =>
    obtain ⟨k, hk, rfl, rfl⟩ := hrel
    by_cases hlt : k < xs.length
    · obtain ⟨b, off, z, rfl, hbb, hc, hz⟩ := h.get hlt
      have CA := Lib.hid (r1_add (fsum (xs.take k)) z w (fsum_bd _) (HX.out z (List.mem_of_getElem? hz.out)))
      go_wp2_with fail
      refine CA.out.mono ?_
      rintro e w' ⟨rfl, rfl⟩
      go_wp2_with fail
      go_round
      case rel => exact ⟨k + 1, by omega, by go_num, by rw [take_at hz.out, fsum_snoc]⟩
      case measure => simp [intOf]; omega
    · have e : xs.take k = xs := List.take_of_length_le (by omega)
      rw [e]
      clear e
      go_wp2_with fail
      go_loopw [6, 34] (fun s i wr => ∃ k : Nat, k ≤ N ∧ i = .int .i64 k ∧ s = .int .i64 (fdot ((xs.zip ys).take k)) ∧ Below w.heap.size w wr) (fun _ i _ => N - (intOf i).toNat)
      case atStart => exact ⟨0, Nat.zero_le _, rfl, rfl, Below.refl _ _⟩
      case round =>
        obtain ⟨k, hk, rfl, rfl, hbel⟩ := hrel
        by_cases hlt2 : k < N
        · obtain ⟨b, off, x, rfl, hb, hc, hxk⟩ := (h.below hbel).get (k := k) (by omega)
          obtain ⟨b', off', y, rfl, hb', hc', hyk⟩ := (h'.below hbel).get (k := k) (by omega)
          have hxi := HX.out x (List.mem_of_getElem? hxk.out)
          have hyi := HY.out y (List.mem_of_getElem? hyk.out)
          have HZA : Hid ((xs.zip ys)[k]? = some (x, y)) := Lib.hid (by rw [List.getElem?_zip_eq_some]; exact ⟨hxk.out, hyk.out⟩)
          have l1 : k < xs.length := by omega
          have l2 : k < ys.length := by omega
          have HK : Hid (∀ w', Below wr.heap.size wr w' → w'.cell? ⟨b, off + k, none⟩ = some (.int .i64 x) ∧ w'.cell? ⟨b', off' + k, none⟩ = some (.int .i64 y)) :=
            Lib.hid (fun w' hb2 => ⟨(hb2.cell (p := ⟨_, _, _⟩) hb).trans hc, (hb2.cell (p := ⟨_, _, _⟩) hb').trans hc'⟩)
          go_wp2_with fail
          go_region_held3 (fun w' => w'.cell? ⟨b, off + k, none⟩ = some (.int .i64 x) ∧ w'.cell? ⟨b', off' + k, none⟩ = some (.int .i64 y)) (first | go_keep | exact HK.out _ (undrew hb4))
            (first | (go_at_call 32; refine (r1_mul x y _ hxi hyi).mono ?_; rintro e w5 ⟨rfl, hb4⟩) | (go_at_call 44; refine (r1_add _ _ _ (fdot_bd _) (fmul_bd hxi hyi)).mono ?_; rintro e w' ⟨rfl, rfl⟩))
          go_wp2_with fail
          go_roundw
          case rel => exact ⟨k + 1, by omega, by go_num, by rw [take_at HZA.out, fdot_snoc], btr hbel (undrew hb4)⟩
          case measure => simp [intOf]; omega
        · have e : (xs.zip ys).take k = xs.zip ys := List.take_of_length_le (by rw [HZ.out]; omega)
          rw [e]
          clear e
          go_wp2_with fail
          refine (fix_sum A c xs wr (by omega) HX (h.below hbel)).mono ?_
          rintro e w' ⟨rfl, rfl⟩
          go_wp2_with fail
          refine (fix_dot A B c d xs ys wr (by omega) (by omega) HX HY (h.below hbel) (h'.below hbel)).mono ?_
          rintro e w5 ⟨rfl, m, rfl⟩
          go_wp2_with fail
          refine (l01_awake _).mono ?_
          rintro e w6 ⟨rfl, b6⟩
          go_wp2_with fail
          go_ret
          exact ⟨rfl, btr hbel (undrewN b6)⟩
end Go.Proofs.Ytlnpkoggnikkbaa
