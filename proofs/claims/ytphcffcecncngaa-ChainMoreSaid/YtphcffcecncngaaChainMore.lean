/- ChainMore. -/
import Derived.Test.YtphcffcecncngaaLaw20b
import Derived.Test.YtphcffcecncngaaOpen
namespace Go.Proofs.Ytphcffcecncngaa
open Go.RowKit

/-- The sum of the first k words. -/
def Ch.sw (c : Ch) : Nat → Int
  | 0 => 0
  | k + 1 => c.sw k + c.w k
theorem Ch.sw_ws {c : Ch} : ∀ k, c.sw (k + 1) = c.w 0 + c.ws 0 k
  | 0 => by simp [Ch.sw, Ch.ws]
  | k + 1 => by rw [Ch.sw, Ch.sw_ws k, Ch.ws_0]; omega
theorem Ch.Ok.sw_b {c : Ch} (h : c.Ok) : ∀ k : Nat, 0 ≤ c.sw k ∧ c.sw k ≤ 65536 * (k : Int)
  | 0 => ⟨Int.le_refl _, Int.le_refl _⟩
  | k + 1 => by have := h.sw_b k; have := h.w_0 k; have := h.w_2 k; simp only [Ch.sw]; omega
/-- What is known of the least costs. -/
theorem Ch.more_facts {c : Ch} {cap : Int} (ok : c.Ok) (hb : c.okB = true) (h0 : 0 ≤ cap) (h1 : cap ≤ 4096) : (c.leastE cap = 26 ∨ c.leastE cap = 0 ∧ c.leastR cap = c.V 0 c.n cap ∧ c.V 0 c.n cap < 1152921504606846976 ∧ c.cs 0 c.n ≤ c.leastR cap) ∧ (c.V 0 c.n cap < 1152921504606846976 → c.leastE cap = 0 ∧ c.leastR cap = c.V 0 c.n cap) := by
  have n1 := ok.n1
  have ck : c.checkE cap = 0 := by
    unfold Ch.checkE
    rw [if_pos hb, if_neg (by omega)]
  have lo := ok.V_low (c.n - 0) 0 c.n cap (Nat.le_refl _) (by omega) (Nat.le_refl _)
  rw [if_pos rfl, Nat.sub_zero] at lo
  unfold Ch.leastE Ch.leastR
  rw [if_pos ck, if_pos ck]
  by_cases hV : c.V 0 c.n cap < 1152921504606846976
  · rw [if_pos hV, if_pos hV]
    exact ⟨.inr ⟨rfl, rfl, hV, lo⟩, fun _ => ⟨rfl, rfl⟩⟩
  · rw [if_neg hV]
    exact ⟨.inl rfl, fun h => absurd h hV⟩
theorem Ch.more_mono {c : Ch} {cap more : Int} (ok : c.Ok) (hb : c.okB = true) (h0 : 0 ≤ cap) (h1 : cap + more ≤ 4096) (h2 : 0 ≤ more) (he : c.leastE cap = 0) :
    c.leastE (cap + more) = 0 ∧ c.leastR (cap + more) ≤ c.leastR cap ∧ c.cs 0 c.n ≤ c.leastR cap ∧ c.cs 0 c.n ≤ c.leastR (cap + more) := by
  have n1 := ok.n1
  obtain ⟨f1 | ⟨f1, f2, f3, f4⟩, _⟩ := Ch.more_facts (cap := cap) ok hb h0 (by omega)
  · rw [he] at f1; cases f1
  have mo : c.V 0 c.n (cap + more) ≤ c.V 0 c.n cap := by
    rcases ok.V_mono (c.n - 0) 0 c.n cap (cap + more) (Nat.le_refl _) (by omega) (by omega) with h | h
    · exact h
    · exact absurd h (Nat.lt_irrefl _)
  obtain ⟨g1, g2⟩ := Ch.more_facts (cap := cap + more) ok hb (by omega) h1
  obtain ⟨e1, e2⟩ := g2 (by omega)
  refine ⟨e1, by rw [e2, f2]; exact mo, f4, ?_⟩
  rcases g1 with g1 | ⟨_, _, _, g4⟩
  · rw [e1] at g1; cases g1
  · exact g4
theorem Ch.more_wide {c : Ch} {S : Int} (ok : c.Ok) (hb : c.okB = true) (hS : c.sw (c.n + 1) = S) (h : S ≤ 2000) : c.leastE (2 * S) = 0 ∧ c.leastR (2 * S) = c.cs 0 c.n := by
  have n1 := ok.n1
  have w0 := ok.w_0 0
  have ws := ok.ws_0 0 c.n
  rw [Ch.sw_ws] at hS
  have he : c.enough 0 c.n ≤ 2 * S := by unfold Ch.enough Ch.kept; rw [if_pos rfl, Nat.sub_zero]; omega
  have up := ok.V_once (c.n - 0) 0 (2 * S) (Nat.le_refl _) (by omega) he
  rw [Nat.sub_zero] at up
  have lo := ok.V_low (c.n - 0) 0 c.n (2 * S) (Nat.le_refl _) (by omega) (Nat.le_refl _)
  rw [if_pos rfl, Nat.sub_zero] at lo
  have n2 := ok.n2
  have cs := ok.cs_2 0 c.n
  obtain ⟨e1, e2⟩ := (Ch.more_facts (cap := 2 * S) ok hb (by omega) (by omega)).2 (by omega)
  exact ⟨e1, by rw [e2]; omega⟩
set_option maxRecDepth 100000 in
set_option maxHeartbeats 8000000 in
theorem chainMore_calls (A B : Option Addr) (p q : Nat) (zs xs : List Int) (cap more : Int) (w : World) (iA : IntsIn w A p zs) (iB : IntsIn w B q xs) :
    Calls Try.prog 5 #[.agg #[.slice A zs.length p, .slice B xs.length q], .int .i64 cap, .int .i64 more] w (LawTrue w) := by
  obtain ⟨c, hcW, hcK⟩ : ∃ c : Ch, c.W = zs ∧ c.K = xs := ⟨⟨zs, xs⟩, rfl, rfl⟩
  have a : Sl w A zs.length c.W := ⟨by rw [hcW]; exact iA.rd, by rw [hcW]⟩
  have b : Sl w B xs.length c.K := ⟨by rw [hcK]; exact iB.rd, by rw [hcK]⟩
  have lA : zs.length ≤ p := iA.2.1
  have CB := @cell_bx
  have CP := @cell_prev
  obtain ⟨n, hn⟩ : ∃ n, zs.length = n := ⟨_, rfl⟩
  obtain ⟨m, hm⟩ : ∃ m, xs.length = m := ⟨_, rfl⟩
  rw [hn] at a lA ⊢
  rw [hm] at b ⊢
  clear hn hm hcW hcK iA iB
  rcases h0 : c.smallB cap with _ | _
  · go_enter Try.func5, Try.ntmps5
    go_wp2_with (first | (go_at_call 13; (try first | (with_reducible refine gen_boxK3 (fun u _ _ _ _ => ?_)) | (with_reducible refine gen_boxK2 (fun u _ _ _ => ?_)) | (with_reducible refine gen_boxK (fun u _ _ => ?_))); (with_reducible refine (a20_small).mono ?_); rintro e u ⟨rfl, _⟩) | (go_at_call 14; (try first | (with_reducible refine gen_boxK3 (fun u _ _ _ _ => ?_)) | (with_reducible refine gen_boxK2 (fun u _ _ _ => ?_)) | (with_reducible refine gen_boxK (fun u _ _ => ?_))); (with_reducible refine (a20_awake).mono ?_); rintro e u ⟨rfl, _⟩))
    go_ret
    exact ⟨rfl, bel w _⟩
  by_cases h1 : 0 ≤ more
  rotate_left
  · go_enter Try.func5, Try.ntmps5
    go_wp2_with (first | (go_at_call 13; (try first | (with_reducible refine gen_boxK3 (fun u _ _ _ _ => ?_)) | (with_reducible refine gen_boxK2 (fun u _ _ _ => ?_)) | (with_reducible refine gen_boxK (fun u _ _ => ?_))); (with_reducible refine (a20_small).mono ?_); rintro e u ⟨rfl, _⟩) | (go_at_call 14; (try first | (with_reducible refine gen_boxK3 (fun u _ _ _ _ => ?_)) | (with_reducible refine gen_boxK2 (fun u _ _ _ => ?_)) | (with_reducible refine gen_boxK (fun u _ _ => ?_))); (with_reducible refine (a20_awake).mono ?_); rintro e u ⟨rfl, _⟩))
    go_ret
    exact ⟨rfl, bel w _⟩
  by_cases h2 : more ≤ 1000
  rotate_left
  · go_enter Try.func5, Try.ntmps5
    go_wp2_with (first | (go_at_call 13; (try first | (with_reducible refine gen_boxK3 (fun u _ _ _ _ => ?_)) | (with_reducible refine gen_boxK2 (fun u _ _ _ => ?_)) | (with_reducible refine gen_boxK (fun u _ _ => ?_))); (with_reducible refine (a20_small).mono ?_); rintro e u ⟨rfl, _⟩) | (go_at_call 14; (try first | (with_reducible refine gen_boxK3 (fun u _ _ _ _ => ?_)) | (with_reducible refine gen_boxK2 (fun u _ _ _ => ?_)) | (with_reducible refine gen_boxK (fun u _ _ => ?_))); (with_reducible refine (a20_awake).mono ?_); rintro e u ⟨rfl, _⟩))
    go_ret
    exact ⟨rfl, bel w _⟩
  have hs := h0
  unfold Ch.smallB at hs
  simp only [Bool.and_eq_true, decide_eq_true_eq] at hs
  obtain ⟨⟨⟨hb, n14⟩, c0⟩, c2⟩ := hs
  have hok := Lib.hid (Ch.ok_of hb)
  have HB := Lib.hid hb
  have HM : Hid (m = c.n) := Lib.hid b.len
  have HN : Hid (n = c.n + 1) := Lib.hid (a.len.trans hok.out.len)
  have n15 : n ≤ 15 := by rw [HN.out]; omega
  have hw : IntKind.i64.wrap (cap + more) = cap + more := by rw [IntKind.wrap_i64]; omega
  have HF := Lib.hid (Ch.more_facts (cap := cap) hok.out hb c0 (by omega)).1
  have HG := Lib.hid (Ch.more_mono (cap := cap) (more := more) hok.out hb c0 (by omega) h1)
  clear hb n14
  go_enter Try.func5, Try.ntmps5
  go_wp2_with (first | (go_at_call 13; (try first | (with_reducible refine gen_boxK3 (fun u _ _ _ _ => ?_)) | (with_reducible refine gen_boxK2 (fun u _ _ _ => ?_)) | (with_reducible refine gen_boxK (fun u _ _ => ?_))); (with_reducible refine (a20_small).mono ?_); rintro e u ⟨rfl, _⟩) | (go_at_call 15; (try first | (with_reducible refine gen_boxK3 (fun u _ _ _ _ => ?_)) | (with_reducible refine gen_boxK2 (fun u _ _ _ => ?_)) | (with_reducible refine gen_boxK (fun u _ _ => ?_))); (with_reducible refine (ch_least (by omega)).mono ?_); rintro e u ⟨rfl, _⟩))
  obtain ⟨u1, rfl⟩ : ∃ v : World, v = u := ⟨_, rfl⟩
  go_loopw [11, 46] (fun s i wr => ∃ (k : Nat) (S : Int), k ≤ n ∧ i = .int .i64 k ∧ s = .int .i64 S ∧ Hid (c.sw k = S) ∧ Prev wr u1) (fun _ i _ => n - (intOf i).toNat)
  case atStart => exact ⟨0, 0, Nat.zero_le _, rfl, rfl, Lib.hid rfl, prev_bel _ _⟩
  case round =>
    obtain ⟨k, S, hk, rfl, rfl, HV, hp⟩ := hrel
    by_cases hlt : k < n
    · obtain ⟨b1, o1, z, rfl, ob1, v1, e1⟩ := a.get hlt
      have sb := hok.out.sw_b k
      have z0 := hok.out.w_0 k
      have z2 := hok.out.w_2 k
      rw [Ch.w_of e1.out] at z0 z2
      rw [HV.out] at sb
      have HN2 : Hid (c.sw (k + 1) = S + z) := Lib.hid (by rw [Ch.sw, HV.out, Ch.w_of e1.out])
      have hw1 : IntKind.i64.wrap (S + z) = S + z := by rw [IntKind.wrap_i64]; omega
      clear e1 sb z0 z2
      go_wp2_with fail
      go_roundw
      case rel => exact ⟨k + 1, S + z, by omega, by go_num, rfl, HN2, prev_bel _ _⟩
      case measure => simp [intOf]; omega
    · have hS : c.sw (c.n + 1) = S := by rw [← HV.out, ← HN.out, show k = n from by omega]
      have HS := Lib.hid hS
      have sb := hok.out.sw_b (c.n + 1)
      rw [hS] at sb
      have sb0 := sb.1
      clear hS sb
      by_cases hS2 : S ≤ 2000
      · obtain ⟨x1, x2⟩ := Ch.more_wide hok.out HB.out HS.out hS2
        have hw2 : IntKind.i64.wrap (2 * S) = 2 * S := by rw [IntKind.wrap_i64]; omega
        have hmin : min (2 * S) 4096 = 2 * S := by omega
        rcases HF.out with f1 | ⟨f1, _, _, _⟩
        · go_wp2_with (first | (go_at_call 15; (try first | (with_reducible refine gen_boxK3 (fun u _ _ _ _ => ?_)) | (with_reducible refine gen_boxK2 (fun u _ _ _ => ?_)) | (with_reducible refine gen_boxK (fun u _ _ => ?_))); (with_reducible refine (ch_least (by omega)).mono ?_); rintro e u ⟨rfl, _⟩) | (go_at_call 20; (try first | (with_reducible refine gen_boxK3 (fun u _ _ _ _ => ?_)) | (with_reducible refine gen_boxK2 (fun u _ _ _ => ?_)) | (with_reducible refine gen_boxK (fun u _ _ => ?_))); (with_reducible refine (a20_total (by assumption)).mono ?_); rintro e u ⟨rfl, _⟩) | (go_at_call 14; (try first | (with_reducible refine gen_boxK3 (fun u _ _ _ _ => ?_)) | (with_reducible refine gen_boxK2 (fun u _ _ _ => ?_)) | (with_reducible refine gen_boxK (fun u _ _ => ?_))); (with_reducible refine (a20_awake).mono ?_); rintro e u ⟨rfl, _⟩))
          go_ret
          exact ⟨rfl, bel w _⟩
        · obtain ⟨g1, g2, g3, g4⟩ := HG.out f1
          go_wp2_with (first | (go_at_call 15; (try first | (with_reducible refine gen_boxK3 (fun u _ _ _ _ => ?_)) | (with_reducible refine gen_boxK2 (fun u _ _ _ => ?_)) | (with_reducible refine gen_boxK (fun u _ _ => ?_))); (with_reducible refine (ch_least (by omega)).mono ?_); rintro e u ⟨rfl, _⟩) | (go_at_call 20; (try first | (with_reducible refine gen_boxK3 (fun u _ _ _ _ => ?_)) | (with_reducible refine gen_boxK2 (fun u _ _ _ => ?_)) | (with_reducible refine gen_boxK (fun u _ _ => ?_))); (with_reducible refine (a20_total (by assumption)).mono ?_); rintro e u ⟨rfl, _⟩) | (go_at_call 14; (try first | (with_reducible refine gen_boxK3 (fun u _ _ _ _ => ?_)) | (with_reducible refine gen_boxK2 (fun u _ _ _ => ?_)) | (with_reducible refine gen_boxK (fun u _ _ => ?_))); (with_reducible refine (a20_awake).mono ?_); rintro e u ⟨rfl, _⟩))
          go_ret
          exact ⟨rfl, bel w _⟩
      · rcases HF.out with f1 | ⟨f1, _, _, _⟩
        · go_wp2_with (first | (go_at_call 15; (try first | (with_reducible refine gen_boxK3 (fun u _ _ _ _ => ?_)) | (with_reducible refine gen_boxK2 (fun u _ _ _ => ?_)) | (with_reducible refine gen_boxK (fun u _ _ => ?_))); (with_reducible refine (ch_least (by omega)).mono ?_); rintro e u ⟨rfl, _⟩) | (go_at_call 20; (try first | (with_reducible refine gen_boxK3 (fun u _ _ _ _ => ?_)) | (with_reducible refine gen_boxK2 (fun u _ _ _ => ?_)) | (with_reducible refine gen_boxK (fun u _ _ => ?_))); (with_reducible refine (a20_total (by assumption)).mono ?_); rintro e u ⟨rfl, _⟩) | (go_at_call 14; (try first | (with_reducible refine gen_boxK3 (fun u _ _ _ _ => ?_)) | (with_reducible refine gen_boxK2 (fun u _ _ _ => ?_)) | (with_reducible refine gen_boxK (fun u _ _ => ?_))); (with_reducible refine (a20_awake).mono ?_); rintro e u ⟨rfl, _⟩))
          go_ret
          exact ⟨rfl, bel w _⟩
        · obtain ⟨g1, g2, g3, g4⟩ := HG.out f1
          go_wp2_with (first | (go_at_call 15; (try first | (with_reducible refine gen_boxK3 (fun u _ _ _ _ => ?_)) | (with_reducible refine gen_boxK2 (fun u _ _ _ => ?_)) | (with_reducible refine gen_boxK (fun u _ _ => ?_))); (with_reducible refine (ch_least (by omega)).mono ?_); rintro e u ⟨rfl, _⟩) | (go_at_call 20; (try first | (with_reducible refine gen_boxK3 (fun u _ _ _ _ => ?_)) | (with_reducible refine gen_boxK2 (fun u _ _ _ => ?_)) | (with_reducible refine gen_boxK (fun u _ _ => ?_))); (with_reducible refine (a20_total (by assumption)).mono ?_); rintro e u ⟨rfl, _⟩) | (go_at_call 14; (try first | (with_reducible refine gen_boxK3 (fun u _ _ _ _ => ?_)) | (with_reducible refine gen_boxK2 (fun u _ _ _ => ?_)) | (with_reducible refine gen_boxK (fun u _ _ => ?_))); (with_reducible refine (a20_awake).mono ?_); rintro e u ⟨rfl, _⟩))
          go_ret
          exact ⟨rfl, bel w _⟩

end Go.Proofs.Ytphcffcecncngaa
