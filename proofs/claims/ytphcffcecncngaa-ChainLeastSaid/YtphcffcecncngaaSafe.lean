/- The walks of package safe that shapes use: 'every' over its three functions, and the product. -/
import Derived.Test.YtphcffcecncngaaBase
import Derived.Test.YtphcffcecncngaaShapeMath
namespace Go.Proofs.Ytphcffcecncngaa
open Go.RowKit

/-- Within the bounds of sizes and costs. -/
def costB (z : Int) : Bool := decide (0 ≤ z) && decide (z ≤ 1099511627776)

theorem safe_right (z : Int) (w : World) : Calls Try.prog 60 #[.int .i64 z] w fun e w' => e = .returned (.bool (costB z)) ∧ w = w' := by
  go_enter Try.func60, Try.ntmps60
  go_wp2
  all_goals
    go_ret
    exact ⟨ret_bool (by simp_all [costB]; try omega), rfl⟩
theorem safe_mul1 (z : Int) (w : World) : Calls Try.prog 115 #[.int .i64 z] w fun e w' => e = .returned (.bool (z != 0)) ∧ w = w' := by
  go_enter Try.func115, Try.ntmps115
  go_wp2
  go_ret
  exact ⟨rfl, rfl⟩

set_option maxRecDepth 100000 in
set_option maxHeartbeats 400000 in
/-- 'every' with a function that only computes. -/
theorem safe_every_pure (F : Nat) (f : Int → Bool) (hF : ∀ z w, Calls Try.prog F #[.int .i64 z] w fun e w' => e = .returned (.bool (f z)) ∧ w = w')
    (hcall : ∀ z w, Sem.run Try.prog (callFunc F #[.int .i64 z]) w = .ok (.enter F #[.int .i64 z]) w)
    (A : Option Addr) (c : Nat) (zs : List Int) (w : World) (hs : zs.length ≤ 1000000) (h : Rd w A zs) :
    Calls Try.prog 114 #[.slice A zs.length c, .func (.func F) #[] #[]] w fun e w' => e = .returned (.bool (zs.all f)) ∧ w = w' := by
  have HF := Lib.hid hF
  clear hF
  go_enter Try.func114, Try.ntmps114
  go_wp2_with fail
  go_loop [9] (fun i => ∃ k : Nat, k ≤ zs.length ∧ i = .int .i64 k ∧ (zs.take k).all f = true) (fun i => zs.length - (intOf i).toNat)
  case atStart => exact ⟨0, Nat.zero_le _, rfl, rfl⟩
  case round =>
    obtain ⟨k, hk, rfl, hall⟩ := hrel
    have HA := Lib.hid hall
    clear hall
    by_cases hlt : k < zs.length
    · obtain ⟨b, off, z, rfl, hb, hc, hz⟩ := h.get hlt
      rcases hfz : f z with _ | _
      · have HZ := Lib.hid hfz
        clear hfz
        have HN : Hid (zs.all f = false) := by
          refine List.all_eq_false.2 ⟨z, List.mem_of_getElem? hz.out, ?_⟩
          rw [HZ.out]; simp
        go_wp2_with fail
        refine (HF.out z _).mono ?_
        rintro e w' ⟨rfl, rfl⟩
        rw [HZ.out]
        go_wp2_with fail
        go_ret
        exact ⟨ret_bool (by rw [HN.out]), rfl⟩
      · have HZ := Lib.hid hfz
        clear hfz
        go_wp2_with fail
        refine (HF.out z _).mono ?_
        rintro e w' ⟨rfl, rfl⟩
        rw [HZ.out]
        go_wp2_with fail
        go_round
        case rel => exact ⟨k + 1, by omega, by go_num, by rw [take_at hz.out, List.all_append, HA.out]; simp [HZ.out]⟩
        case measure => simp [intOf]; omega
    · have HE : Hid (zs.all f = true) := by
        have := HA.out
        rwa [List.take_of_length_le (by omega)] at this
      go_wp2_with fail
      go_ret
      exact ⟨ret_bool (by rw [HE.out]), rfl⟩

theorem safe_mul2_yes (w : World) (p z : Int) (hp : 1 ≤ p) (hz : 1 ≤ z) (hp2 : p ≤ 1099511627776) (h : p * z ≤ 1099511627776) :
    Calls Try.prog 116 #[.int .i64 z, .pointer (some ⟨w.heap.size, 0, none⟩)] (w.alloc (.cells #[.int .i64 p] 3)) fun e w' => e = .returned (.bool true) ∧ w.alloc (.cells #[.int .i64 (p * z)] 3) = w' := by
  have h1 : ¬ (1099511627776 / p < z) := by
    have := (Int.le_ediv_iff_mul_le (a := z) (b := 1099511627776) (c := p) (by omega)).2 (by rw [Int.mul_comm]; exact h)
    omega
  have h2 : 1 ≤ p * z := by have := Int.mul_le_mul hp hz (by omega) (by omega); omega
  go_enter Try.func116, Try.ntmps116
  go_wp2
  go_ret
  exact ⟨rfl, rfl⟩
theorem safe_mul2_no (w : World) (p z : Int) (hp : 1 ≤ p) (_hz : 1 ≤ z) (hp2 : p ≤ 1099511627776) (h : ¬ p * z ≤ 1099511627776) :
    Calls Try.prog 116 #[.int .i64 z, .pointer (some ⟨w.heap.size, 0, none⟩)] (w.alloc (.cells #[.int .i64 p] 3)) fun e w' => e = .returned (.bool false) ∧ w.alloc (.cells #[.int .i64 p] 3) = w' := by
  have h1 : 1099511627776 / p < z := by
    by_cases hc : 1099511627776 / p < z
    · exact hc
    · exact absurd (by have := (Int.le_ediv_iff_mul_le (a := z) (b := 1099511627776) (c := p) (by omega)).1 (by omega); rwa [Int.mul_comm] at this) h
  go_enter Try.func116, Try.ntmps116
  go_wp2
  go_ret
  exact ⟨rfl, rfl⟩

/-- The product: its cell behind the walk. -/
def EveryMul (w : World) (zs : List Int) (e : Ending) (w' : World) : Prop :=
  e = .returned (.bool (decide (prodL zs ≤ 1099511627776))) ∧ ∃ p, w' = w.alloc (.cells #[.int .i64 p] 3) ∧ (prodL zs ≤ 1099511627776 → p = prodL zs)

set_option maxRecDepth 100000 in
set_option maxHeartbeats 400000 in
theorem safe_every_mul (A : Option Addr) (c : Nat) (zs : List Int) (w : World) (hs : zs.length ≤ 1000000) (h : Rd w A zs) (hpos : Hid (∀ z ∈ zs, 1 ≤ z)) :
    Calls Try.prog 114 #[.slice A zs.length c, .func (.func 116) #[] #[.pointer (some ⟨w.heap.size, 0, none⟩)]] (w.alloc (.cells #[.int .i64 1] 3)) (EveryMul w zs) := by
  have h2 := h.alloc (.cells #[.int .i64 1] 3)
  go_enter Try.func114, Try.ntmps114
  go_wp2_with fail
  go_loopw [9] (fun i wr => ∃ k : Nat, k ≤ zs.length ∧ i = .int .i64 k ∧ prodL (zs.take k) ≤ 1099511627776 ∧ wr = w.alloc (.cells #[.int .i64 (prodL (zs.take k))] 3)) (fun i _ => zs.length - (intOf i).toNat)
  case atStart => exact ⟨0, Nat.zero_le _, rfl, by simp [prodL], rfl⟩
  case round =>
    obtain ⟨k, hk, rfl, hp2, rfl⟩ := hrel
    have hp1 : 1 ≤ prodL (zs.take k) := prodL_pos fun z hz => hpos.out z (List.mem_of_mem_take hz)
    by_cases hlt : k < zs.length
    · have h3 := h.alloc (.cells #[.int .i64 (prodL (zs.take k))] 3)
      obtain ⟨b, off, z, rfl, hb, hc, hz⟩ := h.get hlt
      have hz1 : 1 ≤ z := hpos.out z (List.mem_of_getElem? hz.out)
      have hc3 := h3.all hz.out
      clear h2 h3
      by_cases hfit : prodL (zs.take k) * z ≤ 1099511627776
      · go_wp2_with fail
        refine (safe_mul2_yes w _ z hp1 hz1 hp2 hfit).mono ?_
        rintro e w' ⟨rfl, rfl⟩
        go_wp2_with fail
        go_roundw
        case rel => exact ⟨k + 1, by omega, by go_num, by rw [take_at hz.out, prodL_snoc]; exact hfit, by rw [take_at hz.out, prodL_snoc]⟩
        case measure => simp [intOf]; omega
      · have HB : Hid (1099511627776 < prodL zs) := Lib.hid (by
          have := prodL_take_le hpos.out (k + 1)
          rw [take_at hz.out, prodL_snoc] at this
          omega)
        go_wp2_with fail
        refine (safe_mul2_no w _ z hp1 hz1 hp2 (by omega)).mono ?_
        rintro e w' ⟨rfl, rfl⟩
        go_wp2_with fail
        go_ret
        exact ⟨ret_bool (by simpa using HB.out), _, rfl, fun hx => absurd hx (by have := HB.out; omega)⟩
    · have HE : Hid (zs.take k = zs) := List.take_of_length_le (by omega)
      go_wp2_with fail
      go_ret
      rw [HE.out] at hp2
      exact ⟨ret_bool (by simpa using hp2), _, rfl, fun _ => by rw [HE.out]⟩

/-- What 'Mul' tells: the product, and the error's number. -/
def mulV (zs : List Int) : Int := if zs.all costB && zs.all (· != 0) && decide (prodL zs ≤ 1099511627776) then prodL zs else 0
def mulE (zs : List Int) : Int := if zs.all costB then (if zs.all (· != 0) && !decide (prodL zs ≤ 1099511627776) then 17 else 0) else 11

set_option maxRecDepth 100000 in
set_option maxHeartbeats 400000 in
theorem safe_mul (A : Option Addr) (c : Nat) (zs : List Int) (w : World) (hs : zs.length ≤ 1000000) (h : Rd w A zs) :
    Calls Try.prog 111 #[.slice A zs.length c] w fun e w' => e = .returned (.tuple #[.int .i64 (mulV zs), .int .i64 (mulE zs)]) ∧ Below w.heap.size w w' := by
  have c1 := safe_every_pure 60 costB safe_right (fun _ _ => rfl) A c zs w hs h
  have c2 := safe_every_pure 115 (· != 0) safe_mul1 (fun _ _ => rfl) A c zs w hs h
  have C1 := Lib.hid c1
  have C2 := Lib.hid c2
  clear c1 c2
  rcases h1 : zs.all costB with _ | _
  · have H1 := Lib.hid h1
    have HV : Hid (mulV zs = 0) := Lib.hid (by simp [mulV, h1])
    have HE : Hid (mulE zs = 11) := Lib.hid (by simp [mulE, h1])
    clear h1
    go_enter Try.func111, Try.ntmps111
    go_wp2_with fail
    refine C1.out.mono ?_
    rintro e w' ⟨rfl, rfl⟩
    rw [H1.out]
    go_wp2_with fail
    go_ret2
    exact ⟨by rw [HV.out, HE.out]; rfl, Below.refl _ _⟩
  · rcases h2 : zs.all (· != 0) with _ | _
    · have H1 := Lib.hid h1
      have H2 := Lib.hid h2
      have HV : Hid (mulV zs = 0) := Lib.hid (by simp [mulV, h1, h2])
      have HE : Hid (mulE zs = 0) := Lib.hid (by simp [mulE, h1, h2])
      clear h1 h2
      go_enter Try.func111, Try.ntmps111
      go_wp2_with fail
      refine C1.out.mono ?_
      rintro e w' ⟨rfl, rfl⟩
      rw [H1.out]
      go_wp2_with fail
      refine C2.out.mono ?_
      rintro e w' ⟨rfl, rfl⟩
      rw [H2.out]
      go_wp2_with fail
      go_ret2
      exact ⟨by rw [HV.out, HE.out]; rfl, Below.refl _ _⟩
    · have H1 := Lib.hid h1
      have H2 := Lib.hid h2
      have hpos : Hid (∀ z ∈ zs, 1 ≤ z) := by
        intro z hz
        have a := List.all_eq_true.1 h1 z hz
        have b := List.all_eq_true.1 h2 z hz
        simp [costB] at a b
        omega
      have C3 := Lib.hid (safe_every_mul A c zs w hs h hpos)
      by_cases h3 : prodL zs ≤ 1099511627776
      · have HV : Hid (mulV zs = prodL zs) := Lib.hid (by simp [mulV, h1, h2, h3])
        have HE : Hid (mulE zs = 0) := Lib.hid (by simp [mulE, h1, h2, h3])
        have H3 : Hid (decide (prodL zs ≤ 1099511627776) = true) := Lib.hid (by simpa using h3)
        have H3' := Lib.hid h3
        clear h1 h2 h3
        go_enter Try.func111, Try.ntmps111
        go_wp2_with fail
        refine C1.out.mono ?_
        rintro e w' ⟨rfl, rfl⟩
        rw [H1.out]
        go_wp2_with fail
        refine C2.out.mono ?_
        rintro e w' ⟨rfl, rfl⟩
        rw [H2.out]
        go_wp2_with fail
        refine C3.out.mono ?_
        rintro e w' ⟨rfl, p, rfl, hp⟩
        have HP := Lib.hid (hp H3'.out)
        clear hp
        rw [H3.out]
        go_wp2_with fail
        go_ret2
        exact ⟨by rw [HV.out, HE.out, ← HP.out]; rfl, (Below.refl _ _).alloc (Nat.le_refl _) _⟩
      · have h3' : 1099511627776 < prodL zs := by omega
        have HV : Hid (mulV zs = 0) := Lib.hid (by simp [mulV, h1, h2, h3])
        have HE : Hid (mulE zs = 17) := Lib.hid (by simp [mulE, h1, h2, h3'])
        have H3 : Hid (decide (prodL zs ≤ 1099511627776) = false) := Lib.hid (by simpa using h3)
        clear h1 h2 h3 h3'
        go_enter Try.func111, Try.ntmps111
        go_wp2_with fail
        refine C1.out.mono ?_
        rintro e w' ⟨rfl, rfl⟩
        rw [H1.out]
        go_wp2_with fail
        refine C2.out.mono ?_
        rintro e w' ⟨rfl, rfl⟩
        rw [H2.out]
        go_wp2_with fail
        refine C3.out.mono ?_
        rintro e w' ⟨rfl, p, rfl, hp⟩
        clear hp
        rw [H3.out]
        go_wp2_with fail
        go_ret2
        exact ⟨by rw [HV.out, HE.out]; rfl, (Below.refl _ _).alloc (Nat.le_refl _) _⟩

/-- The product of the sides of what may be a shape. -/
theorem mul_sides {zs : List Int} (h : inSides zs = true) (h4 : zs.length ≤ 4) : mulV zs = prodL zs ∧ mulE zs = 0 := by
  have hb := prodL_bd4 zs h h4
  have h1 : zs.all costB = true := List.all_eq_true.2 fun z hz => by
    have := inSides_mem h hz
    simp [costB]; omega
  have h2 : zs.all (· != 0) = true := List.all_eq_true.2 fun z hz => by
    have := inSides_mem h hz
    simp; omega
  simp [mulV, mulE, h1, h2, hb.2]
end Go.Proofs.Ytphcffcecncngaa
