/- The reference's walk: Do, any instruction. -/
import Derived.Test.YtphcffcecncngaaDo20c
import Derived.Test.YtphcffcecncngaaDo20d
import Derived.Test.YtphcffcecncngaaDo20e
import Derived.Test.YtphcffcecncngaaDo20f
import Derived.Test.YtphcffcecncngaaDo20g
import Derived.Test.YtphcffcecncngaaDo20h
namespace Go.Proofs.Ytphcffcecncngaa
open Go.RowKit

theorem Ch.wout_len {l : List Int} {x : Int} : (Ch.wout l x).length ≤ l.length := List.length_filter_le _ _
/-- No list grows by more than one. -/
theorem Ch.doI_len {c : Ch} {cap : Int} {t : Ch.St} {kind id : Int} {N : Nat} (hT : t.T.length ≤ N) (hS : t.S.length ≤ N) (hG : t.G.length ≤ N) :
    (c.doI cap t kind id).2.T.length ≤ N + 1 ∧ (c.doI cap t kind id).2.S.length ≤ N + 1 ∧ (c.doI cap t kind id).2.G.length ≤ N + 1 := by
  have w1 := Ch.wout_len (l := t.T) (x := id)
  have w2 := Ch.wout_len (l := t.S) (x := id)
  have w3 := Ch.wout_len (l := t.G) (x := id)
  have w4 := Ch.wout_len (l := t.G ++ [id - 1]) (x := id)
  rw [List.length_append, List.length_singleton] at w4
  unfold Ch.doI
  (repeat' split) <;> refine ⟨?_, ?_, ?_⟩ <;> simp only [Ch.setPk, List.length_append, List.length_singleton] <;> omega
section
variable {w : World} {A B TA SA GA : Option Addr} {z n m p q tc sc gc : Nat} {c : Ch} {cap em sd dn pk co : Int} {T S G : List Int} {kind id : Int} {N : Nat}
theorem r20_do (hok : Hid c.Ok) [a : Sl w A n c.W] [b : Sl w B m c.K] [Sl w TA T.length T] [Sl w SA S.length S] [Sl w GA G.length G] (lT : Hid (Lw z w TA)) (lS : Hid (Lw z w SA)) (lG : Hid (Lw z w GA))
    (hi : Hid (insB c.n kind id = true)) (hN : N ≤ 100000) (HX : Hid (∃ s, c.Sim cap N s ⟨T, S, G, em, sd, dn, pk, co⟩)) (kT : T.length ≤ N) (kS : S.length ≤ N) (kG : G.length ≤ N) :
    Calls Try.prog 54 #[.slice A n p, .slice B m q, .int .i64 cap, .agg (stC TA tc T SA sc S GA gc G em sd dn pk co), .int .i64 kind, .int .i64 id] w (RetD20 z w (c.doI cap ⟨T, S, G, em, sd, dn, pk, co⟩ kind id).1 (c.doI cap ⟨T, S, G, em, sd, dn, pk, co⟩ kind id).2) := by
  obtain ⟨s, H⟩ := HX.out
  have hi := hi.out
  have n1 := hok.out.n1
  have n2 := hok.out.n2
  have hkd : (kind = 4 ∨ kind = 5) ∧ id = 0 ∨ (kind = 1 ∨ kind = 2 ∨ kind = 3 ∨ kind = 6) ∧ 1 ≤ id ∧ id ≤ (c.n : Int) := by
    unfold insB at hi
    split at hi
    · rename_i e; exact .inl ⟨e, by simpa using hi⟩
    · split at hi
      · rename_i e; simp only [Bool.and_eq_true, decide_eq_true_eq] at hi; exact .inr ⟨e, hi⟩
      · cases hi
  obtain ⟨d, rfl⟩ : ∃ d : Nat, id = (d : Int) := ⟨id.toNat, by omega⟩
  have hd : d ≤ 64 := by omega
  obtain rfl : m = c.n := b.len
  obtain rfl : n = c.n + 1 := a.len.trans hok.out.len
  have HTR : Hid (∀ x ∈ T, 0 ≤ x ∧ x < ((c.n + 1 : Nat) : Int)) := Lib.hid (fun x hx => by have := H.p.rng x hx; omega)
  have HGR : Hid (∀ x ∈ G, 0 ≤ x ∧ x < ((c.n + 1 : Nat) : Int)) := Lib.hid (fun x hx => by have := H.g.rng x hx; omega)
  have hwo : s.wo = c.sumW T + c.sumW G := H.wo
  have hwp := H.wp
  have hwb := H.wb
  have s0 := hok.out.sumW_0 T
  have s1 := hok.out.sumW_0 G
  have hus : ∀ x : Nat, IntKind.i64.wrap (c.sumW T + c.sumW G + c.w x) = c.sumW T + c.sumW G + c.w x := fun x => by
    have := hok.out.w_0 x
    have := hok.out.w_2 x
    rw [IntKind.wrap_i64]; omega
  have hdn : 0 ≤ dn ∧ dn ≤ (N : Int) := H.dn
  have hco : s.co = co := H.co
  have c0 := H.c0
  have cb := H.cb
  have hkw : ∀ x : Nat, IntKind.i64.wrap (co + c.k x) = co + c.k x := fun x => by
    have := hok.out.k_0 x
    have := hok.out.k_2 x
    rw [IntKind.wrap_i64]; omega
  have kT' : T.length ≤ 400000 := by omega
  have kS' : S.length ≤ 400000 := by omega
  have kG' : G.length ≤ 400000 := by omega
  obtain ⟨r, hr⟩ : ∃ r, Ch.ready ⟨T, S, G, em, sd, dn, pk, co⟩ (d : Int) = r := ⟨_, rfl⟩
  have HRD := Lib.hid hr
  have e2 : ((d : Int)).toNat = d := by omega
  clear hi H hwo hwp hwb s0 s1 hco c0 cb HX
  have key : ∀ x : Bool, 1 ≤ d → d ≤ c.n → (kind = 1 ∧ x = false ∨ kind = 2 ∧ x = true) → Calls Try.prog 54 #[.slice A (c.n + 1) p, .slice B c.n q, .int .i64 cap, .agg (stC TA tc T SA sc S GA gc G em sd dn pk co), .int .i64 kind, .int .i64 d] w (RetD20 z w (c.doI cap ⟨T, S, G, em, sd, dn, pk, co⟩ kind d).1 (c.doI cap ⟨T, S, G, em, sd, dn, pk, co⟩ kind d).2) := by
    intro x d1 d2 hk
    have e : c.doI cap ⟨T, S, G, em, sd, dn, pk, co⟩ kind d = if (S.contains (d : Int) != x) || T.contains (d : Int) || !r then (24, ⟨T, S, G, em, sd, dn, pk, co⟩) else if cap < c.sumW T + c.sumW G + c.w d then (25, ⟨T, S, G, em, sd, dn, pk, co⟩) else (0, c.setPk ⟨T ++ [(d : Int)], Ch.wout S d ++ [(d : Int)], G, em, sd, dn, pk, co + c.k (d - 1)⟩) := by
      have e1 : ((d : Int) - 1).toNat = d - 1 := by omega
      unfold Ch.doI
      rw [hr, e1, e2]
      rcases hk with ⟨rfl, rfl⟩ | ⟨rfl, rfl⟩ <;> rfl
    rcases hS : (S.contains (d : Int) != x) with _ | _
    · rw [hS, Bool.false_or] at e
      have HS : Hid (S.contains (d : Int) = x) := Lib.hid (by simpa using hS)
      rcases hT : T.contains (d : Int) with _ | _
      · rw [hT, Bool.false_or] at e
        have HT := Lib.hid hT
        rcases hrr : r with _ | _
        · rw [hrr] at e
          rw [e]
          exact do20_comp_no3 lT lS lG kT' hd HRD (Lib.hid hrr) kS' hk HS HT
        · rw [hrr] at e
          by_cases hc : cap < c.sumW T + c.sumW G + c.w d
          · rw [if_neg (by simp), if_pos hc] at e
            rw [e]
            exact do20_comp_cap hok lT lS lG kT' hd HRD (Lib.hid hrr) kS' kG' (by omega) hk HS HT HTR HGR (hus d) hc
          · rw [if_neg (by simp), if_neg hc] at e
            rw [e]
            exact do20_comp_ok hok lT lS lG kT' hd HRD (Lib.hid hrr) kS' kG' (by omega) hk HS HT HTR HGR (hus d) hc (Lib.hid rfl) d1 (by omega) (hkw _)
      · rw [hT, Bool.true_or, if_pos rfl] at e
        rw [e]
        exact do20_comp_no2 lT lS lG kT' hd HRD kS' hk HS (Lib.hid hT)
    · rw [hS, Bool.true_or, Bool.true_or, if_pos rfl] at e
      rw [e]
      exact do20_comp_no1 (x1 := !x) lT lS lG kT' hd HRD kS' (by rcases hk with ⟨h1, rfl⟩ | ⟨h1, rfl⟩ <;> simp [h1]) (Lib.hid (by rcases hs : S.contains (d : Int) with _ | _ <;> rw [hs] at hS <;> cases x <;> first | rfl | cases hS))
  rcases hkd with ⟨rfl | rfl, h0⟩ | ⟨rfl | rfl | rfl | rfl, h1, h2⟩
  · obtain rfl : d = 0 := by omega
    clear key
    have e : c.doI cap ⟨T, S, G, em, sd, dn, pk, co⟩ 4 ((0 : Nat) : Int) = if decide (em = 1) || !T.contains (c.n : Int) then (24, ⟨T, S, G, em, sd, dn, pk, co⟩) else (0, c.setPk ⟨T, S, G, 1, sd, dn, pk, co⟩) := rfl
    by_cases hem : em = 1
    · rw [decide_eq_true hem, Bool.true_or, if_pos rfl] at e
      rw [e]
      exact do20_emit_no lT lS lG kT' hd HRD (.inl hem)
    · rw [decide_eq_false hem, Bool.false_or] at e
      rcases hT : T.contains (c.n : Int) with _ | _
      · rw [hT, Bool.not_false, if_pos rfl] at e
        rw [e]
        exact do20_emit_no lT lS lG kT' hd HRD (.inr hT)
      · rw [hT, Bool.not_true, if_neg (by simp)] at e
        rw [e]
        exact do20_emit_ok hok lT lS lG kT' hd HRD kG' (by simpa using hem) (Lib.hid hT) HTR HGR
  · obtain rfl : d = 0 := by omega
    clear key
    have e : c.doI cap ⟨T, S, G, em, sd, dn, pk, co⟩ 5 ((0 : Nat) : Int) = if sd = 1 then (24, ⟨T, S, G, em, sd, dn, pk, co⟩) else if cap < c.sumW T + c.sumW G + c.w c.n then (25, ⟨T, S, G, em, sd, dn, pk, co⟩) else (0, c.setPk ⟨T, S, G ++ [(c.n : Int)], em, 1, dn, pk, co⟩) := rfl
    by_cases hsd : sd = 1
    · rw [if_pos hsd] at e
      rw [e]
      exact do20_seed_no lT lS lG kT' hd HRD (by simpa using hsd)
    · rw [if_neg hsd] at e
      by_cases hc : cap < c.sumW T + c.sumW G + c.w c.n
      · rw [if_pos hc] at e
        rw [e]
        exact do20_seed_cap hok lT lS lG kT' hd HRD kG' (by omega) (by simpa using hsd) HTR HGR (hus _) hc
      · rw [if_neg hc] at e
        rw [e]
        exact do20_seed_ok hok lT lS lG kT' hd HRD kG' (by omega) (by simpa using hsd) HTR HGR (hus _) hc
  · exact key false (by omega) (by omega) (.inl ⟨rfl, rfl⟩)
  · exact key true (by omega) (by omega) (.inr ⟨rfl, rfl⟩)
  · clear key
    have e : c.doI cap ⟨T, S, G, em, sd, dn, pk, co⟩ 3 d = if T.contains (d : Int) then (0, c.setPk ⟨Ch.wout T d, S, G, em, sd, dn, pk, co⟩) else (24, ⟨T, S, G, em, sd, dn, pk, co⟩) := rfl
    rcases hT : T.contains (d : Int) with _ | _
    · rw [hT, if_neg (by simp)] at e
      rw [e]
      exact do20_free_no lT lS lG kT' hd HRD (Lib.hid hT)
    · rw [hT, if_pos rfl] at e
      rw [e]
      exact do20_free_ok hok lT lS lG kT' hd HRD kG' (Lib.hid hT) HTR HGR
  · clear key
    have us3 : IntKind.i64.wrap ((c.n : Int) - dn) = (c.n : Int) - dn := by rw [IntKind.wrap_i64]; omega
    have us4 : IntKind.i64.wrap (dn + 1) = dn + 1 := by rw [IntKind.wrap_i64]; omega
    have e : c.doI cap ⟨T, S, G, em, sd, dn, pk, co⟩ 6 d = if !G.contains (d : Int) || !r || decide ((d : Int) ≠ (c.n : Int) - dn) then (24, ⟨T, S, G, em, sd, dn, pk, co⟩)
        else if 1 < (d : Int) then (if cap < c.sumW T + c.sumW G + c.w (d - 1) then (25, ⟨T, S, G, em, sd, dn, pk, co⟩) else (0, ⟨T, S, Ch.wout (G ++ [((d - 1 : Nat) : Int)]) d, em, sd, dn + 1, max pk (c.sumW T + c.sumW (G ++ [((d - 1 : Nat) : Int)])), co⟩))
        else (0, ⟨T, S, Ch.wout G d, em, sd, dn + 1, max pk (c.sumW T + c.sumW G), co⟩) := by
      have e1 : ((d : Int) - 1) = ((d - 1 : Nat) : Int) := by omega
      unfold Ch.doI
      rw [hr, e1]
      rfl
    rcases hG : G.contains (d : Int) with _ | _
    · rw [hG, Bool.not_false, Bool.true_or, Bool.true_or, if_pos rfl] at e
      rw [e]
      exact do20_back_no1 lT lS lG kT' hd HRD kG' (Lib.hid hG)
    rcases hrr : r with _ | _
    · rw [hrr, Bool.not_false, Bool.or_true, Bool.true_or, if_pos rfl] at e
      rw [e]
      exact do20_back_no2 lT lS lG kT' hd HRD (Lib.hid hrr) kG' (Lib.hid hG)
    by_cases h3 : (d : Int) = (c.n : Int) - dn
    · rw [hG, hrr, decide_eq_false (by simpa using h3), Bool.not_true, Bool.or_self, Bool.or_self, if_neg (by simp)] at e
      have t3 : ((d : Int) != (c.n : Int) - dn) = false := by simpa using h3
      clear h3
      by_cases hd1 : 1 < d
      · rw [if_pos (by omega)] at e
        by_cases hc : cap < c.sumW T + c.sumW G + c.w (d - 1)
        · rw [if_pos hc] at e
          rw [e]
          exact do20_back_cap hok lT lS lG kT' hd HRD (Lib.hid hrr) kG' (Lib.hid hG) us3 t3 HTR HGR (Lib.hid rfl) hd1 (by omega) (hus _) hc
        · rw [if_neg hc] at e
          rw [e]
          exact do20_back_ok hok lT lS lG kT' hd HRD (Lib.hid hrr) kG' (Lib.hid hG) us3 t3 HTR HGR us4 (Lib.hid rfl) hd1 (by omega) (hus _) hc
      · rw [if_neg (by omega)] at e
        rw [e]
        exact do20_back_one hok lT lS lG kT' hd HRD (Lib.hid hrr) kG' (Lib.hid hG) us3 t3 HTR HGR us4 hd1
    · rw [decide_eq_true h3, Bool.or_true, if_pos rfl] at e
      rw [e]
      exact do20_back_no3 lT lS lG kT' hd HRD (Lib.hid hrr) kG' (Lib.hid hG) us3 (by simpa using h3)
end
end Go.Proofs.Ytphcffcecncngaa
