/- ChainLowest. -/
import Derived.Test.YtphcffcecncngaaLaw20b
import Derived.Test.YtphcffcecncngaaOpen
namespace Go.Proofs.Ytphcffcecncngaa
open Go.RowKit

/-- What is known of the least capacity. -/
theorem Ch.low_cases {c : Ch} (h : c.okB = true) : (c.lowE = 26 ∧ c.lowV = 0 ∧ c.leastE 4096 = 26) ∨ (c.lowE = 0 ∧ c.leastE c.lowV = 0 ∧ (c.lowV = 0 ∨ c.lowV ≠ 0 ∧ c.leastE (c.lowV - 1) = 26 ∧ IntKind.i64.wrap (c.lowV - 1) = c.lowV - 1)) := by
  have ok := Ch.ok_of h
  have n1 := ok.n1
  have ck : ∀ x : Int, 0 ≤ x → x ≤ 4096 → c.checkE x = 0 := fun x h0 h1 => by
    unfold Ch.checkE
    rw [if_pos h, if_neg (by omega)]
  have vn : ∀ x : Int, x ≤ 4096 → (c.V 0 c.n x < 1152921504606846976 ↔ c.N 0 c.n ≤ x) := fun x h1 => ok.V_N (c.n - 0) 0 c.n x (Nat.le_refl _) (by omega) (Nat.le_refl _) (by omega)
  have n0 := ok.N_0 (l := 0) (r := c.n) (by omega)
  unfold Ch.lowE Ch.lowV
  rw [if_pos h, if_pos h]
  by_cases hN : 4096 < c.N 0 c.n
  · refine .inl ⟨by rw [if_pos hN], by rw [if_pos hN], ?_⟩
    unfold Ch.leastE
    rw [if_pos (ck 4096 (by omega) (by omega)), if_neg (by rw [vn 4096 (by omega)]; omega)]
  · refine .inr ⟨by rw [if_neg hN], ?_, ?_⟩
    · rw [if_neg hN]
      unfold Ch.leastE
      rw [if_pos (ck _ n0 (by omega)), if_pos (by rw [vn _ (by omega)]; omega)]
    · rw [if_neg hN]
      by_cases hz : c.N 0 c.n = 0
      · exact .inl hz
      · refine .inr ⟨hz, ?_, by rw [IntKind.wrap_i64]; omega⟩
        unfold Ch.leastE
        rw [if_pos (ck _ (by omega) (by omega)), if_neg (by rw [vn _ (by omega)]; omega)]
set_option maxRecDepth 100000 in
set_option maxHeartbeats 8000000 in
theorem chainLowest_calls (A B : Option Addr) (p q : Nat) (zs xs : List Int) (w : World) (iA : IntsIn w A p zs) (iB : IntsIn w B q xs) :
    Calls Try.prog 6 #[.agg #[.slice A zs.length p, .slice B xs.length q]] w (LawTrue w) := by
  obtain ⟨c, hcW, hcK⟩ : ∃ c : Ch, c.W = zs ∧ c.K = xs := ⟨⟨zs, xs⟩, rfl, rfl⟩
  have a : Sl w A zs.length c.W := ⟨by rw [hcW]; exact iA.rd, by rw [hcW]⟩
  have b : Sl w B xs.length c.K := ⟨by rw [hcK]; exact iB.rd, by rw [hcK]⟩
  have lA : zs.length ≤ p := iA.2.1
  have CB := @cell_bx
  have CP := @cell_prev
  obtain ⟨n, hn⟩ : ∃ n, zs.length = n := ⟨_, rfl⟩
  obtain ⟨m, hm⟩ : ∃ m, xs.length = m := ⟨_, rfl⟩
  rw [hn] at a lA ⊢
  rw [hm] at b ⊢
  clear hn hm hcW hcK iA iB
  by_cases h1 : 9 < m
  · go_enter Try.func6, Try.ntmps6
    go_wp2_with (first | (go_at_call 14; (try first | (with_reducible refine gen_boxK3 (fun u _ _ _ _ => ?_)) | (with_reducible refine gen_boxK2 (fun u _ _ _ => ?_)) | (with_reducible refine gen_boxK (fun u _ _ => ?_))); (with_reducible refine (a20_awake).mono ?_); rintro e u ⟨rfl, _⟩))
    go_ret
    exact ⟨rfl, bel w _⟩
  by_cases h2 : 100 < n
  · go_enter Try.func6, Try.ntmps6
    go_wp2_with (first | (go_at_call 14; (try first | (with_reducible refine gen_boxK3 (fun u _ _ _ _ => ?_)) | (with_reducible refine gen_boxK2 (fun u _ _ _ => ?_)) | (with_reducible refine gen_boxK (fun u _ _ => ?_))); (with_reducible refine (a20_awake).mono ?_); rintro e u ⟨rfl, _⟩))
    go_ret
    exact ⟨rfl, bel w _⟩
  rcases h0 : c.okB with _ | _
  · have hV : c.lowV = 0 := by rw [Ch.lowV, h0]; rfl
    have hE : c.lowE = 10 := by rw [Ch.lowE, h0]; rfl
    go_enter Try.func6, Try.ntmps6
    go_wp2_with (first | (go_at_call 21; (try first | (with_reducible refine gen_boxK3 (fun u _ _ _ _ => ?_)) | (with_reducible refine gen_boxK2 (fun u _ _ _ => ?_)) | (with_reducible refine gen_boxK (fun u _ _ => ?_))); (with_reducible refine (ch_lowest).mono ?_); rintro e u ⟨rfl, _⟩) | (go_at_call 19; (try first | (with_reducible refine gen_boxK3 (fun u _ _ _ _ => ?_)) | (with_reducible refine gen_boxK2 (fun u _ _ _ => ?_)) | (with_reducible refine gen_boxK (fun u _ _ => ?_))); (with_reducible refine (a20_right).mono ?_); rintro e u ⟨rfl, _⟩) | (go_at_call 14; (try first | (with_reducible refine gen_boxK3 (fun u _ _ _ _ => ?_)) | (with_reducible refine gen_boxK2 (fun u _ _ _ => ?_)) | (with_reducible refine gen_boxK (fun u _ _ => ?_))); (with_reducible refine (a20_awake).mono ?_); rintro e u ⟨rfl, _⟩))
    go_ret
    exact ⟨rfl, bel w _⟩
  rcases Ch.low_cases h0 with ⟨hE, hV, hL⟩ | ⟨hE, hL, hz⟩
  · go_enter Try.func6, Try.ntmps6
    go_wp2_with (first | (go_at_call 21; (try first | (with_reducible refine gen_boxK3 (fun u _ _ _ _ => ?_)) | (with_reducible refine gen_boxK2 (fun u _ _ _ => ?_)) | (with_reducible refine gen_boxK (fun u _ _ => ?_))); (with_reducible refine (ch_lowest).mono ?_); rintro e u ⟨rfl, _⟩) | (go_at_call 19; (try first | (with_reducible refine gen_boxK3 (fun u _ _ _ _ => ?_)) | (with_reducible refine gen_boxK2 (fun u _ _ _ => ?_)) | (with_reducible refine gen_boxK (fun u _ _ => ?_))); (with_reducible refine (a20_right).mono ?_); rintro e u ⟨rfl, _⟩) | (go_at_call 15; (try first | (with_reducible refine gen_boxK3 (fun u _ _ _ _ => ?_)) | (with_reducible refine gen_boxK2 (fun u _ _ _ => ?_)) | (with_reducible refine gen_boxK (fun u _ _ => ?_))); (with_reducible refine (ch_least (by omega)).mono ?_); rintro e u ⟨rfl, _⟩) | (go_at_call 14; (try first | (with_reducible refine gen_boxK3 (fun u _ _ _ _ => ?_)) | (with_reducible refine gen_boxK2 (fun u _ _ _ => ?_)) | (with_reducible refine gen_boxK (fun u _ _ => ?_))); (with_reducible refine (a20_awake).mono ?_); rintro e u ⟨rfl, _⟩))
    go_ret
    exact ⟨rfl, bel w _⟩
  · obtain ⟨x, hx⟩ : ∃ x, c.lowV = x := ⟨_, rfl⟩
    rw [hx] at hL hz
    have HX := Lib.hid hx
    clear hx
    rcases hz with hz | ⟨hz, hg, hs⟩
    · subst hz
      have hc : c.checkE (-1) = 11 := by unfold Ch.checkE; rw [if_pos h0]; rfl
      have hg : c.leastE (-1) = 11 := by unfold Ch.leastE; rw [hc]; rfl
      clear hc
      go_enter Try.func6, Try.ntmps6
      go_wp2_with (first | (first | (go_at_call 19; (try first | (with_reducible refine gen_boxK3 (fun u _ _ _ _ => ?_)) | (with_reducible refine gen_boxK2 (fun u _ _ _ => ?_)) | (with_reducible refine gen_boxK (fun u _ _ => ?_))); (with_reducible refine (a20_right).mono ?_); rintro e u ⟨rfl, _⟩) | (go_at_call 15; (try first | (with_reducible refine gen_boxK3 (fun u _ _ _ _ => ?_)) | (with_reducible refine gen_boxK2 (fun u _ _ _ => ?_)) | (with_reducible refine gen_boxK (fun u _ _ => ?_))); (with_reducible refine (ch_least (by omega)).mono ?_); rintro e u ⟨rfl, _⟩) | (go_at_call 14; (try first | (with_reducible refine gen_boxK3 (fun u _ _ _ _ => ?_)) | (with_reducible refine gen_boxK2 (fun u _ _ _ => ?_)) | (with_reducible refine gen_boxK (fun u _ _ => ?_))); (with_reducible refine (a20_awake).mono ?_); rintro e u ⟨rfl, _⟩)) | (go_at_call 21; (with_reducible refine ch_lowest.mono ?_); rintro e u ⟨rfl, _⟩; rw [HX.out]))
      go_ret
      exact ⟨rfl, bel w _⟩
    · go_enter Try.func6, Try.ntmps6
      go_wp2_with (first | (first | (go_at_call 19; (try first | (with_reducible refine gen_boxK3 (fun u _ _ _ _ => ?_)) | (with_reducible refine gen_boxK2 (fun u _ _ _ => ?_)) | (with_reducible refine gen_boxK (fun u _ _ => ?_))); (with_reducible refine (a20_right).mono ?_); rintro e u ⟨rfl, _⟩) | (go_at_call 15; (try first | (with_reducible refine gen_boxK3 (fun u _ _ _ _ => ?_)) | (with_reducible refine gen_boxK2 (fun u _ _ _ => ?_)) | (with_reducible refine gen_boxK (fun u _ _ => ?_))); (with_reducible refine (ch_least (by omega)).mono ?_); rintro e u ⟨rfl, _⟩) | (go_at_call 14; (try first | (with_reducible refine gen_boxK3 (fun u _ _ _ _ => ?_)) | (with_reducible refine gen_boxK2 (fun u _ _ _ => ?_)) | (with_reducible refine gen_boxK (fun u _ _ => ?_))); (with_reducible refine (a20_awake).mono ?_); rintro e u ⟨rfl, _⟩)) | (go_at_call 21; (with_reducible refine ch_lowest.mono ?_); rintro e u ⟨rfl, _⟩; rw [HX.out]))
      go_ret
      exact ⟨rfl, bel w _⟩

end Go.Proofs.Ytphcffcecncngaa
