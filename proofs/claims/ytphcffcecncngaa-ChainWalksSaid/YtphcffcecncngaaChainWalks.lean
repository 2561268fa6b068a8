/- ChainWalks. -/
import Derived.Test.YtphcffcecncngaaLaw20b
import Derived.Test.YtphcffcecncngaaWalk20
import Derived.Test.YtphcffcecncngaaOpenI
namespace Go.Proofs.Ytphcffcecncngaa
open Go.RowKit

set_option maxRecDepth 100000 in
set_option maxHeartbeats 8000000 in
theorem chainWalks_calls (A B I : Option Addr) (p q kq : Nat) (zs xs : List Int) (cap : Int) (ps : List (Int × Int)) (w : World) (iA : IntsIn w A p zs) (iB : IntsIn w B q xs) (iI : IRd w I ps) :
    Calls Try.prog 4 #[.agg #[.slice A zs.length p, .slice B xs.length q], .int .i64 cap, .slice I ps.length kq] w (LawTrue w) := by
  obtain ⟨c, hcW, hcK⟩ : ∃ c : Ch, c.W = zs ∧ c.K = xs := ⟨⟨zs, xs⟩, rfl, rfl⟩
  have a : Sl w A zs.length c.W := ⟨by rw [hcW]; exact iA.rd, by rw [hcW]⟩
  have b : Sl w B xs.length c.K := ⟨by rw [hcK]; exact iB.rd, by rw [hcK]⟩
  have i : Is w I ps.length ps := ⟨iI, rfl⟩
  have lA : zs.length ≤ p := iA.2.1
  have CB := @cell_bx
  have CP := @cell_prev
  obtain ⟨n, hn⟩ : ∃ n, zs.length = n := ⟨_, rfl⟩
  obtain ⟨m, hm⟩ : ∃ m, xs.length = m := ⟨_, rfl⟩
  obtain ⟨k, hk⟩ : ∃ k, ps.length = k := ⟨_, rfl⟩
  rw [hn] at a lA ⊢
  rw [hm] at b ⊢
  rw [hk] at i ⊢
  clear hn hm hk hcW hcK iA iB iI
  by_cases h1 : 100 < m
  · go_enter Try.func4, Try.ntmps4
    go_wp2_with (first | (go_at_call 14; (try first | (with_reducible refine gen_boxK3 (fun u _ _ _ _ => ?_)) | (with_reducible refine gen_boxK2 (fun u _ _ _ => ?_)) | (with_reducible refine gen_boxK (fun u _ _ => ?_))); (with_reducible refine (a20_awake).mono ?_); rintro e u ⟨rfl, _⟩))
    go_ret
    exact ⟨rfl, bel w _⟩
  by_cases h2 : 100 < n
  · go_enter Try.func4, Try.ntmps4
    go_wp2_with (first | (go_at_call 14; (try first | (with_reducible refine gen_boxK3 (fun u _ _ _ _ => ?_)) | (with_reducible refine gen_boxK2 (fun u _ _ _ => ?_)) | (with_reducible refine gen_boxK (fun u _ _ => ?_))); (with_reducible refine (a20_awake).mono ?_); rintro e u ⟨rfl, _⟩))
    go_ret
    exact ⟨rfl, bel w _⟩
  by_cases h3 : 200 < k
  · go_enter Try.func4, Try.ntmps4
    go_wp2_with (first | (go_at_call 14; (try first | (with_reducible refine gen_boxK3 (fun u _ _ _ _ => ?_)) | (with_reducible refine gen_boxK2 (fun u _ _ _ => ?_)) | (with_reducible refine gen_boxK (fun u _ _ => ?_))); (with_reducible refine (a20_awake).mono ?_); rintro e u ⟨rfl, _⟩))
    go_ret
    exact ⟨rfl, bel w _⟩
  rcases h0 : c.okB with _ | _
  · have HX : Hid (c.walkR cap ps = (0, 0, 10)) := Lib.hid (by rw [Ch.walkR, h0]; rfl)
    go_enter Try.func4, Try.ntmps4
    go_wp2_with (first | (go_at_call 18; (try first | (with_reducible refine gen_boxK3 (fun u _ _ _ _ => ?_)) | (with_reducible refine gen_boxK2 (fun u _ _ _ => ?_)) | (with_reducible refine gen_boxK (fun u _ _ => ?_))); (with_reducible refine (ch_walkV (hk := by omega) HX).mono ?_); rintro e u ⟨rfl, _⟩) | (go_at_call 19; (try first | (with_reducible refine gen_boxK3 (fun u _ _ _ _ => ?_)) | (with_reducible refine gen_boxK2 (fun u _ _ _ => ?_)) | (with_reducible refine gen_boxK (fun u _ _ => ?_))); (with_reducible refine (a20_right).mono ?_); rintro e u ⟨rfl, _⟩) | (go_at_call 14; (try first | (with_reducible refine gen_boxK3 (fun u _ _ _ _ => ?_)) | (with_reducible refine gen_boxK2 (fun u _ _ _ => ?_)) | (with_reducible refine gen_boxK (fun u _ _ => ?_))); (with_reducible refine (a20_awake).mono ?_); rintro e u ⟨rfl, _⟩))
    go_ret
    exact ⟨rfl, bel w _⟩
  · obtain ⟨X, Y, Z, hx⟩ : ∃ X Y Z, c.walkR cap ps = (X, Y, Z) := ⟨_, _, _, rfl⟩
    have HX := Lib.hid hx
    clear hx
    go_enter Try.func4, Try.ntmps4
    go_wp2_with (first | (go_at_call 18; (try first | (with_reducible refine gen_boxK3 (fun u _ _ _ _ => ?_)) | (with_reducible refine gen_boxK2 (fun u _ _ _ => ?_)) | (with_reducible refine gen_boxK (fun u _ _ => ?_))); (with_reducible refine (ch_walkV (hk := by omega) HX).mono ?_); rintro e u ⟨rfl, _⟩) | (go_at_call 19; (try first | (with_reducible refine gen_boxK3 (fun u _ _ _ _ => ?_)) | (with_reducible refine gen_boxK2 (fun u _ _ _ => ?_)) | (with_reducible refine gen_boxK (fun u _ _ => ?_))); (with_reducible refine (a20_right).mono ?_); rintro e u ⟨rfl, _⟩) | (go_at_call 17; (try first | (with_reducible refine gen_boxK3 (fun u _ _ _ _ => ?_)) | (with_reducible refine gen_boxK2 (fun u _ _ _ => ?_)) | (with_reducible refine gen_boxK (fun u _ _ => ?_))); (with_reducible refine (a20_walkV (hk := by omega) (h0 := by assumption) HX).mono ?_); rintro e u ⟨rfl, _⟩) | (go_at_call 14; (try first | (with_reducible refine gen_boxK3 (fun u _ _ _ _ => ?_)) | (with_reducible refine gen_boxK2 (fun u _ _ _ => ?_)) | (with_reducible refine gen_boxK (fun u _ _ => ?_))); (with_reducible refine (a20_awake).mono ?_); rintro e u ⟨rfl, _⟩))
    go_ret
    exact ⟨rfl, bel w _⟩

end Go.Proofs.Ytphcffcecncngaa
