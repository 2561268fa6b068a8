/- Plain law: the shape that pooling leads to, where its windows lie, and what goes back, cell by cell. -/
import Derived.Test.YteibgdcieaiaiaaPoolMath
import Derived.Test.YteibgdcieaiaiaaSides
import Derived.Test.YteibgdcieaiaiaaShape2
import Derived.Test.YteibgdcieaiaiaaFix2
namespace Go.Proofs.Yteibgdcieaiaiaa
open Go.RowKit

def lastD (zs : List Int) : Int := zs.getD (zs.length - 1) 0
def plE (zs : List Int) (W S : Int) : Int := if rightB zs then winE (lastD zs) W S else 20
def plV (zs : List Int) (W S : Int) : List Int := if rightB zs && winOk (lastD zs) W S then zs.set (zs.length - 1) (winV (lastD zs) W S) else []

/-- A shape zs with a last side of Z and R rows; n windows in each. -/
structure PW (zs V : List Int) (R Z n W S : Nat) : Prop where
  right : rightB zs = true
  at_ : zs[zs.length - 1]? = some (Z : Int)
  len : 1 ≤ zs.length
  v : V = zs.set (zs.length - 1) (n : Int)
  vright : rightB V = true
  size : prodL zs = ((R * Z : Nat) : Int)
  vsize : prodL V = ((R * n : Nat) : Int)
  R1 : 1 ≤ R
  n1 : 1 ≤ n
  W1 : 1 ≤ W
  S1 : 1 ≤ S
  W2 : W ≤ 1024
  S2 : S ≤ 1024
  Z2 : Z ≤ 1024
  fit : ∀ j, j < n → j * S + W ≤ Z
  most : Z < n * S + W
  small : R * Z ≤ 65536
  nZ : n ≤ Z
  pl : plV zs (W : Int) (S : Int) = V
theorem win_nats {Z W S : Nat} (h : winOk (Z : Int) (W : Int) (S : Int) = true) : ∃ n : Nat, winV (Z : Int) (W : Int) (S : Int) = (n : Int) ∧ 1 ≤ n ∧ 1 ≤ W ∧ 1 ≤ S ∧ W ≤ 1024 ∧ S ≤ 1024 ∧ Z ≤ 1024 ∧ (∀ j, j < n → j * S + W ≤ Z) ∧ Z < n * S + W ∧ n ≤ Z := by
  have h0 := h
  simp only [winOk, Bool.and_eq_true, decide_eq_true_eq, and_assoc] at h
  obtain ⟨h1, h2, h3, h4, h5, h6, h7⟩ := h
  have hS : 0 < S := by omega
  refine ⟨1 + (Z - W) / S, ?_, Nat.le_add_right _ _, by omega, by omega, by omega, by omega, by omega, fun j hj => ?_, ?_, ?_⟩
  · rw [winV, if_pos h0, show (Z : Int) - (W : Int) = ((Z - W : Nat) : Int) from by omega, ← Int.natCast_ediv, Int.natCast_add]
    rfl
  · have a1 : j * S ≤ (Z - W) / S * S := Nat.mul_le_mul_right _ (by omega)
    have a2 := Nat.div_mul_le_self (Z - W) S
    omega
  · have a1 := Nat.div_add_mod (Z - W) S
    have a2 := Nat.mod_lt (Z - W) hS
    rw [Nat.add_mul, Nat.mul_comm ((Z - W) / S) S]
    omega
  · have a2 := Nat.div_le_self (Z - W) S
    omega
theorem PW.of {zs : List Int} {W S : Int} (h : plE zs W S = 0) : ∃ R Z n W' S' : Nat, W = (W' : Int) ∧ S = (S' : Int) ∧ PW zs (plV zs W S) R Z n W' S' := by
  unfold plE at h
  split at h
  · rename_i hr
    obtain ⟨r1, r4, rin, rpr⟩ := (rightB_iff zs).1 hr
    obtain ⟨P, I, Z, hj⟩ := JW.of hr (show zs.length - 1 < zs.length by omega)
    have hl : lastD zs = (Z : Int) := by rw [lastD, List.getD_eq_getElem?_getD, hj.at_]; rfl
    have hok : winOk (lastD zs) W S = true := by
      unfold winE at h
      split at h
      · assumption
      · omega
    have hok' := hok
    simp only [winOk, Bool.and_eq_true, decide_eq_true_eq, and_assoc] at hok'
    obtain ⟨W', rfl⟩ := Int.eq_ofNat_of_zero_le (show 0 ≤ W by omega)
    obtain ⟨S', rfl⟩ := Int.eq_ofNat_of_zero_le (show 0 ≤ S by omega)
    rw [hl] at hok
    obtain ⟨n, e, n1, w1, s1, w2, s2, z2, fit, most, nZ⟩ := win_nats hok
    have eI : I = 1 := by
      have := hj.behind
      rw [List.drop_of_length_le (by omega)] at this
      simp [prodL] at this
      omega
    subst eI
    have hv : plV zs W' S' = zs.set (zs.length - 1) (n : Int) := by rw [plV, hl, hok, hr]; simp [e]
    have hsz : prodL zs = ((P * Z : Nat) : Int) := by
      rw [sides_split hj.at_, hj.ahead, hj.behind]; simp
    have hvs : prodL (zs.set (zs.length - 1) (n : Int)) = ((P * n : Nat) : Int) := by
      rw [prodL_set _ (by omega), hj.ahead, hj.behind]; simp
    have hPn : P * n ≤ P * Z := Nat.mul_le_mul_left _ nZ
    have hs := hj.small
    refine ⟨P, Z, n, W', S', rfl, rfl, ⟨hr, hj.at_, r1, hv, ?_, hsz, by rw [hv, hvs], hj.p1, n1, w1, s1, w2, s2, z2, fit, most, by omega, nZ, rfl⟩⟩
    rw [hv, rightB_iff]
    exact ⟨by simpa using r1, by simpa using r4, inSides_set rin _ (by omega) (by omega), by rw [hvs]; omega⟩
  · omega
section
variable {zs V : List Int} {R Z n W S : Nat}
theorem PW.none (h : PW zs V R Z n W S) : plE zs W S = 0 := by
  have hl : lastD zs = (Z : Int) := by rw [lastD, List.getD_eq_getElem?_getD, h.at_]; rfl
  have := h.fit 0 h.n1
  have h1 := h.Z2; have h2 := h.W1; have h3 := h.W2; have h4 := h.S1; have h5 := h.S2
  rw [plE, if_pos h.right, hl, winE, if_pos]
  simp only [winOk, Bool.and_eq_true, decide_eq_true_eq]
  omega
/-- A window lies within its row. -/
theorem PW.win (h : PW zs V R Z n W S) {i : Nat} (hi : i < R * n) : i / n < R ∧ i % n < n ∧ i % n * S + W ≤ Z ∧ i / n * Z + i % n * S + W ≤ R * Z := by
  have hn : 0 < n := h.n1
  have h1 : i / n < R := Nat.div_lt_of_lt_mul (by rw [Nat.mul_comm]; exact hi)
  have h2 := Nat.mod_lt i hn
  have h3 := h.fit _ h2
  have h4 : (i / n + 1) * Z ≤ R * Z := Nat.mul_le_mul_right _ h1
  rw [Nat.succ_mul] at h4
  exact ⟨h1, h2, h3, by omega⟩
end

/-- The list of the first N values of a function. -/
def tab (N : Nat) (F : Nat → Int) : List Int := (List.range N).map F
section
variable {N : Nat} {F G : Nat → Int}
theorem tab_length : (tab N F).length = N := by simp [tab]
theorem tab_get {k : Nat} (h : k < N) : (tab N F)[k]? = some (F k) := by rw [tab, List.getElem?_map, List.getElem?_range h]; rfl
theorem tab_congr (h : ∀ q, q < N → F q = G q) : tab N F = tab N G := List.map_congr_left fun q hq => h q (List.mem_range.1 hq)
theorem tab_set (k : Nat) (z : Int) : (tab N F).set k z = tab N fun q => if q = k then z else F q := by
  apply List.ext_getElem?
  intro q
  rw [List.getElem?_set]
  by_cases hq : q < N
  · rw [tab_get hq, tab_get hq]
    by_cases hk : k = q
    · subst hk; rw [if_pos rfl, if_pos (by rw [tab_length]; exact hq), if_pos rfl]
    · rw [if_neg hk, if_neg (Ne.symm hk)]
  · have h1 : (tab N F)[q]? = none := List.getElem?_eq_none (by rw [tab_length]; omega)
    have h2 : (tab N fun q => if q = k then z else F q)[q]? = none := List.getElem?_eq_none (by rw [tab_length]; omega)
    rw [h1, h2, tab_length]
    by_cases hk : k = q
    · subst hk; rw [if_pos rfl, if_neg hq]
    · rw [if_neg hk]
theorem tab_zero : tab N (fun _ => 0) = List.replicate N 0 := by rw [tab, List.map_const', List.length_range]
theorem tab_add (a b : Nat) : tab (a + b) F = tab a F ++ tab b fun q => F (a + q) := by simp [tab, List.range_add, Function.comp_def]
end
/-- What a window leads to. -/
def poolV (kind : Int) (W : Nat) (l : List Int) : Int := if kind = 1 then mxL l else fdiv (fsum l) (fint W)
/-- Which cells of a row a window gives to (f: where it begins). -/
def hitW (kind : Int) (W : Nat) (l : List Int) (f q : Nat) : Bool := if kind = 1 then decide (q = f + (bestI ((l.drop f).take W)).toNat) else decide (f ≤ q) && decide (q < f + W)
def giveW (kind : Int) (W : Nat) (y : Int) : Int := if kind = 1 then y else fdiv y (fint W)
/-- The cell q, behind i windows. -/
def bkC (kind : Int) (xs gs : List Int) (Z n S W : Nat) : Nat → Nat → Int
  | 0, _ => 0
  | i + 1, q => if hitW kind W xs (i / n * Z + i % n * S) q then fadd (bkC kind xs gs Z n S W i q) (giveW kind W (gs.getD i 0)) else bkC kind xs gs Z n S W i q
/-- The same of one row. -/
def bkR (kind : Int) (row g : List Int) (S W : Nat) : Nat → Nat → Int
  | 0, _ => 0
  | j + 1, q => if hitW kind W row (j * S) q then fadd (bkR kind row g S W j q) (giveW kind W (g.getD j 0)) else bkR kind row g S W j q
def rowOf (xs : List Int) (Z r : Nat) : List Int := (xs.drop (r * Z)).take Z
theorem hitW_row {kind : Int} {W Z r f q : Nat} {xs : List Int} (h : f + W ≤ Z) : hitW kind W xs (r * Z + f) (r * Z + q) = hitW kind W (rowOf xs Z r) f q := by
  unfold hitW rowOf
  rw [win_row h]
  split
  · congr 1; apply propext; omega
  · congr 1
    · congr 1; apply propext; omega
    · congr 1; apply propext; omega
theorem hitW_in {kind : Int} {W f q : Nat} {l : List Int} (hW : 1 ≤ W) (hf : f + W ≤ l.length) (h : hitW kind W l f q = true) : f ≤ q ∧ q < f + W := by
  unfold hitW at h
  split at h
  · have hne : (l.drop f).take W ≠ [] := by
      intro e
      have := congrArg List.length e
      simp at this
      omega
    obtain ⟨b, e, hb, -⟩ := bestI_mxL hne
    rw [e] at h
    simp at h hb
    omega
  · simpa using h
section
variable {kind : Int} {zs V xs gs : List Int} {R Z n W S : Nat}
theorem bk_row (h : PW zs V R Z n W S) (hx : xs.length = R * Z) (hg : gs.length = R * n) {r p : Nat} (hr : r < R) (hp : p < Z) :
    ∀ i, i ≤ R * n → bkC kind xs gs Z n S W i (r * Z + p) = bkR kind (rowOf xs Z r) (rowOf gs n r) S W (min n (i - r * n)) p
  | 0, _ => by simp [bkC, bkR]
  | i + 1, hi => by
    have ih := bk_row h hx hg hr hp i (by omega)
    obtain ⟨w1, w2, w3, w4⟩ := h.win (show i < R * n by omega)
    have hn : 0 < n := h.n1
    have hdm := Nat.div_add_mod i n
    have hdm : i / n * n + i % n = i := by rw [Nat.mul_comm]; exact hdm
    rw [bkC, ih]
    by_cases hir : i / n = r
    · have e1 : i - r * n = i % n := by rw [← hir]; omega
      have e2 : i + 1 - r * n = i % n + 1 := by
        have : r * n ≤ i := by rw [← hir]; omega
        omega
      have eg : gs.getD i 0 = (rowOf gs n r).getD (i % n) 0 := by
        rw [List.getD_eq_getElem?_getD, List.getD_eq_getElem?_getD, rowOf, List.getElem?_take, if_pos w2, List.getElem?_drop]
        congr 2
        rw [← hir]; omega
      rw [e1, e2, Nat.min_eq_right (by omega), Nat.min_eq_right (by omega), hir, hitW_row w3, eg, bkR]
    · have hno : hitW kind W xs (i / n * Z + i % n * S) (r * Z + p) = false := by
        rcases hh : hitW kind W xs (i / n * Z + i % n * S) (r * Z + p) with _ | _
        · rfl
        · obtain ⟨a, b⟩ := hitW_in h.W1 (by rw [hx]; exact w4) hh
          rcases Nat.lt_or_ge (i / n) r with hlt | hge
          · have : (i / n + 1) * Z ≤ r * Z := Nat.mul_le_mul_right _ hlt
            rw [Nat.succ_mul] at this
            omega
          · have : (r + 1) * Z ≤ i / n * Z := Nat.mul_le_mul_right _ (by omega)
            rw [Nat.succ_mul] at this
            omega
      rw [hno, if_neg (by simp)]
      congr 1
      rcases Nat.lt_or_ge (i / n) r with hlt | hge
      · have : (i / n + 1) * n ≤ r * n := Nat.mul_le_mul_right _ hlt
        rw [Nat.succ_mul] at this
        omega
      · have : (r + 1) * n ≤ i / n * n := Nat.mul_le_mul_right _ (by omega)
        rw [Nat.succ_mul] at this
        omega
/-- What goes back, row by row. -/
def bkRows (kind : Int) (xs gs : List Int) (Z n S W r : Nat) : List Int := (List.range r).flatMap fun r => tab Z (bkR kind (rowOf xs Z r) (rowOf gs n r) S W n)
theorem bkRows_succ (r : Nat) : bkRows kind xs gs Z n S W (r + 1) = bkRows kind xs gs Z n S W r ++ tab Z (bkR kind (rowOf xs Z r) (rowOf gs n r) S W n) := by simp [bkRows, List.range_succ]
theorem bk_rows (h : PW zs V R Z n W S) (hx : xs.length = R * Z) (hg : gs.length = R * n) : tab (R * Z) (bkC kind xs gs Z n S W (R * n)) = bkRows kind xs gs Z n S W R := by
  have key : ∀ r, r ≤ R → tab (r * Z) (bkC kind xs gs Z n S W (R * n)) = bkRows kind xs gs Z n S W r := by
    intro r
    induction r with
    | zero => intro _; simp [tab, bkRows]
    | succ r ih =>
      intro hr
      rw [bkRows_succ, ← ih (by omega), Nat.succ_mul, tab_add]
      congr 1
      refine tab_congr fun q hq => ?_
      rw [bk_row h hx hg (by omega) hq _ (Nat.le_refl _)]
      congr 1
      have : (r + 1) * n ≤ R * n := Nat.mul_le_mul_right _ hr
      rw [Nat.succ_mul] at this
      omega
  exact key R (Nat.le_refl _)
end

end Go.Proofs.Yteibgdcieaiaiaa
