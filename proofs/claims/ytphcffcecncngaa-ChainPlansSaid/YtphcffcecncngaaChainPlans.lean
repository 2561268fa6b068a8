/- ChainPlans. -/
import Derived.Test.YtphcffcecncngaaLaw20b
import Derived.Test.YtphcffcecncngaaWalk20
import Derived.Test.YtphcffcecncngaaOpen
namespace Go.Proofs.Ytphcffcecncngaa
open Go.RowKit

theorem oneB_node {c : Ch} {k i : Int} (h : k = 1 ∨ k = 2 ∨ k = 3 ∨ k = 6) (h1 : 1 ≤ i) (h2 : i ≤ (c.n : Int)) (h3 : c.n ≤ 64) : c.oneB (k, i) = true := by
  unfold Ch.oneB
  rw [insR_node h, decide_eq_true h1, decide_eq_true h2, decide_eq_true (show i ≤ 512 from by omega)]; rfl
theorem oneB_zero {c : Ch} {k : Int} (h : k = 4 ∨ k = 5) : c.oneB (k, 0) = true := by
  unfold Ch.oneB
  rw [insR_zero h, decide_eq_true (by simp)]; rfl
theorem Ch.fwd_all {c : Ch} {l r : Nat} (hr : r ≤ c.n) (h64 : c.n ≤ 64) : ∀ j, l + j ≤ r → (c.fwd l r j).all c.oneB = true
  | 0, _ => rfl
  | j + 1, hj => by
    rw [Ch.fwd, List.all_append, List.all_append, Ch.fwd_all hr h64 j (by omega), List.all_cons, oneB_node (by split <;> simp) (by omega) (by omega) h64]
    split
    · rfl
    · rw [List.all_cons, oneB_node (by simp) (by omega) (by omega) h64]; rfl
theorem Ch.Plan.all {c : Ch} (h64 : c.n ≤ 64) {l r : Nat} {m : Int} {p : List (Int × Int)} (hp : c.Plan l r m p) : r ≤ c.n → p.all c.oneB = true := by
  induction hp with
  | @last l m hl hm =>
    intro _
    rw [List.all_cons, List.all_cons, List.all_cons, List.all_cons, List.all_cons, oneB_node (by simp) (by omega) (by omega) h64, oneB_zero (by simp), oneB_node (by simp) (by omega) (by omega) h64, oneB_zero (by simp), oneB_node (by simp) (by omega) (by omega) h64]; rfl
  | @one l m hl hm =>
    intro _
    rw [List.all_cons, oneB_node (by simp) (by omega) (by omega) h64]; rfl
  | @split l r j m p q hj hr hn hv hp hq ihp ihq =>
    intro _
    rw [List.all_append, List.all_append, List.all_append, Ch.fwd_all hr h64 _ (by omega), ihp hr, ihq (by omega), List.all_cons, oneB_node (by simp) (by omega) (by omega) h64]; rfl
/-- A plan's walk. -/
theorem Ch.plan_walk {c : Ch} {cap D : Int} {code : List (Int × Int)} (hb : c.okB = true) (h0 : 0 ≤ cap) (hE : c.leastE cap = 0) (hD : min cap (c.enough 0 c.n) = D) (hp : c.Plan 0 c.n D code) :
    ∃ P, c.walkR cap code = (c.leastR cap, P, 0) ∧ P ≤ cap := by
  have ok := Ch.ok_of hb
  have n1 := ok.n1
  have n2 := ok.n2
  have e0 := ok.enough_0 0 c.n
  have hDc : D ≤ cap := by omega
  have hD0 : 0 ≤ D := by omega
  have hs : c.Start 0 c.n D cap .new := by
    refine ⟨fun i hi => (by cases hi), .inl rfl, ?_, ?_, ?_, ?_, fun i => ⟨fun hi => by (cases hi), fun hi => ?_⟩, ?_⟩
    · rw [if_pos rfl]; rfl
    · rw [if_pos rfl]; rfl
    · rw [if_pos rfl]; rfl
    · show (0 : Int) = _; omega
    · rw [if_pos rfl] at hi; omega
    · show (0 : Int) + D ≤ cap; omega
  obtain ⟨s', hr, H⟩ := Ch.Plan.run ok hp (by omega) (Nat.le_refl _) hs
  have hV : c.V 0 c.n D = c.V 0 c.n cap := by rw [← hD]; exact ok.V_min n1
  have hco : s'.co = c.V 0 c.n cap := by rw [H.co, hV]; show (0 : Int) + _ = _; omega
  have hpk : s'.pk ≤ cap := by
    have := H.pk
    have e : max (Ch.St.new).pk (c.sumW (Ch.St.new).T + D) = D := by show max (0 : Int) (0 + D) = D; omega
    omega
  have hall := hp.all n2 (Nat.le_refl _)
  rw [Ch.oneB_all] at hall
  have hR : c.leastR cap = c.V 0 c.n cap := by
    have h := hE
    unfold Ch.leastE at h
    unfold Ch.leastR
    by_cases hc : c.checkE cap = 0
    · rw [if_pos hc] at h ⊢
      by_cases hv : c.V 0 c.n cap < 1152921504606846976
      · rw [if_pos hv]
      · rw [if_neg hv] at h; omega
    · rw [if_neg hc] at h; exact absurd h hc
  refine ⟨s'.pk, ?_, hpk⟩
  have hdn := H.dn
  have hem := H.em
  rw [Ch.walkR, hb, Bool.true_and, hall, if_pos rfl, Ch.walkS, hr, if_pos rfl]
  dsimp only
  rw [if_neg (by omega), hR, ← hco]
section
variable {w : World} {A B I : Option Addr} {n m p q k kq : Nat} {c : Ch} {cap : Int}
set_option maxRecDepth 100000 in
set_option maxHeartbeats 8000000 in
theorem chainPlans_calls (A B : Option Addr) (p q : Nat) (zs xs : List Int) (cap : Int) (w : World) (iA : IntsIn w A p zs) (iB : IntsIn w B q xs) :
    Calls Try.prog 3 #[.agg #[.slice A zs.length p, .slice B xs.length q], .int .i64 cap] w (LawTrue w) := by
  obtain ⟨c, hcW, hcK⟩ : ∃ c : Ch, c.W = zs ∧ c.K = xs := ⟨⟨zs, xs⟩, rfl, rfl⟩
  have a : Sl w A zs.length c.W := ⟨by rw [hcW]; exact iA.rd, by rw [hcW]⟩
  have b : Sl w B xs.length c.K := ⟨by rw [hcK]; exact iB.rd, by rw [hcK]⟩
  have lA : zs.length ≤ p := iA.2.1
  have CB := @cell_bx
  have CP := @cell_prev
  obtain ⟨n, hn⟩ : ∃ n, zs.length = n := ⟨_, rfl⟩
  obtain ⟨m, hm⟩ : ∃ m, xs.length = m := ⟨_, rfl⟩
  rw [hn] at a lA ⊢
  rw [hm] at b ⊢
  clear hn hm hcW hcK iA iB
  rcases h0 : c.smallB cap with _ | _
  · go_enter Try.func3, Try.ntmps3
    go_wp2_with (first | (go_at_call 13; (try first | (with_reducible refine gen_boxK3 (fun u _ _ _ _ => ?_)) | (with_reducible refine gen_boxK2 (fun u _ _ _ => ?_)) | (with_reducible refine gen_boxK (fun u _ _ => ?_))); (with_reducible refine (a20_small).mono ?_); rintro e u ⟨rfl, _⟩) | (go_at_call 14; (try first | (with_reducible refine gen_boxK3 (fun u _ _ _ _ => ?_)) | (with_reducible refine gen_boxK2 (fun u _ _ _ => ?_)) | (with_reducible refine gen_boxK (fun u _ _ => ?_))); (with_reducible refine (a20_awake).mono ?_); rintro e u ⟨rfl, _⟩))
    go_ret
    exact ⟨rfl, bel w _⟩
  have hs := h0
  unfold Ch.smallB at hs
  simp only [Bool.and_eq_true, decide_eq_true_eq] at hs
  obtain ⟨⟨⟨hb, -⟩, c0⟩, -⟩ := hs
  by_cases hE : c.leastE cap = 0
  rotate_left
  · have HE := Lib.hid hE
    have hne : (c.leastE cap != 0) = true := by rw [bne_iff_ne]; exact hE
    clear hE
    go_enter Try.func3, Try.ntmps3
    go_wp2_with (first | (go_at_call 13; (try first | (with_reducible refine gen_boxK3 (fun u _ _ _ _ => ?_)) | (with_reducible refine gen_boxK2 (fun u _ _ _ => ?_)) | (with_reducible refine gen_boxK (fun u _ _ => ?_))); (with_reducible refine (a20_small).mono ?_); rintro e u ⟨rfl, _⟩) | (go_at_call 15; (try first | (with_reducible refine gen_boxK3 (fun u _ _ _ _ => ?_)) | (with_reducible refine gen_boxK2 (fun u _ _ _ => ?_)) | (with_reducible refine gen_boxK (fun u _ _ => ?_))); (with_reducible refine (ch_least (by omega)).mono ?_); rintro e u ⟨rfl, _⟩) | (go_at_call 16; (try first | (with_reducible refine gen_boxK3 (fun u _ _ _ _ => ?_)) | (with_reducible refine gen_boxK2 (fun u _ _ _ => ?_)) | (with_reducible refine gen_boxK (fun u _ _ => ?_))); (with_reducible refine (ch_plan_no (by omega) HE).mono ?_); rintro e u ⟨rfl, _⟩) | (go_at_call 14; (try first | (with_reducible refine gen_boxK3 (fun u _ _ _ _ => ?_)) | (with_reducible refine gen_boxK2 (fun u _ _ _ => ?_)) | (with_reducible refine gen_boxK (fun u _ _ => ?_))); (with_reducible refine (a20_awake).mono ?_); rintro e u ⟨rfl, _⟩))
    go_ret
    exact ⟨rfl, bel w _⟩
  · have HE := Lib.hid hE
    go_enter Try.func3, Try.ntmps3
    go_upto_region 7 with (first | (go_at_call 13; (try first | (with_reducible refine gen_boxK3 (fun u _ _ _ _ => ?_)) | (with_reducible refine gen_boxK2 (fun u _ _ _ => ?_)) | (with_reducible refine gen_boxK (fun u _ _ => ?_))); (with_reducible refine (a20_small).mono ?_); rintro e u ⟨rfl, _⟩) | (go_at_call 15; (try first | (with_reducible refine gen_boxK3 (fun u _ _ _ _ => ?_)) | (with_reducible refine gen_boxK2 (fun u _ _ _ => ?_)) | (with_reducible refine gen_boxK (fun u _ _ => ?_))); (with_reducible refine (ch_least (by omega)).mono ?_); rintro e u ⟨rfl, _⟩) | (go_at_call 16; (try first | (with_reducible refine gen_boxK3 (fun u _ _ _ _ => ?_)) | (with_reducible refine gen_boxK2 (fun u _ _ _ => ?_)) | (with_reducible refine gen_boxK (fun u _ _ => ?_))); (with_reducible refine (ch_plan_yes (by omega) HE).mono ?_); rintro e u ⟨CA, cc, code, D, rfl, HP, HD, iC, lC, _⟩))
    obtain ⟨P, hx, hP⟩ := Ch.plan_walk hb c0 HE.out HD.out HP.out
    have HX := Lib.hid hx
    obtain ⟨k, hk⟩ : ∃ k, code.length = k := ⟨_, rfl⟩
    rw [hk] at iC lC ⊢
    clear hx hk
    go_wp2_with (first | (go_at_call 17; (try first | (with_reducible refine gen_boxK3 (fun u _ _ _ _ => ?_)) | (with_reducible refine gen_boxK2 (fun u _ _ _ => ?_)) | (with_reducible refine gen_boxK (fun u _ _ => ?_))); (with_reducible refine (a20_walkV (hk := by omega) (h0 := by assumption) HX).mono ?_); rintro e u ⟨rfl, _⟩) | (go_at_call 14; (try first | (with_reducible refine gen_boxK3 (fun u _ _ _ _ => ?_)) | (with_reducible refine gen_boxK2 (fun u _ _ _ => ?_)) | (with_reducible refine gen_boxK (fun u _ _ => ?_))); (with_reducible refine (a20_awake).mono ?_); rintro e u ⟨rfl, _⟩))
    go_ret
    exact ⟨rfl, bel w _⟩
end

end Go.Proofs.Ytphcffcecncngaa
