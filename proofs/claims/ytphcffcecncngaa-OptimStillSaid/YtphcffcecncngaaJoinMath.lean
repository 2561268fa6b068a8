/- Plain law: two lists joined row by row; cut apart they are themselves again. -/
import Derived.Test.YtphcffcecncngaaCutMath
import Derived.Test.YtphcffcecncngaaShape4
namespace Go.Proofs.Ytphcffcecncngaa

def joinCells (R S : Nat) (xs ys : List Int) (n : Nat) : List Int := (List.range n).flatMap fun j => (xs.drop (j * R)).take R ++ (ys.drop (j * S)).take S
theorem joinCells_succ (R S : Nat) (xs ys : List Int) (n : Nat) : joinCells R S xs ys (n + 1) = joinCells R S xs ys n ++ ((xs.drop (n * R)).take R ++ (ys.drop (n * S)).take S) := by
  simp [joinCells, List.range_succ, List.flatMap_append]
theorem joinCells_length {R S : Nat} {xs ys : List Int} {n : Nat} (h : n * R ≤ xs.length) (h' : n * S ≤ ys.length) : (joinCells R S xs ys n).length = n * (R + S) := by
  induction n with
  | zero => simp [joinCells]
  | succ n ih =>
    have e : (n + 1) * R = n * R + R := Nat.succ_mul n R
    have e' : (n + 1) * S = n * S + S := Nat.succ_mul n S
    rw [joinCells_succ, List.length_append, ih (by omega) (by omega), Nat.succ_mul]
    simp
    omega
theorem joinCells_mem {R S : Nat} {xs ys : List Int} {n : Nat} {z : Int} (h : z ∈ joinCells R S xs ys n) : z ∈ xs ∨ z ∈ ys := by
  simp only [joinCells, List.mem_flatMap, List.mem_append] at h
  obtain ⟨j, _, hz | hz⟩ := h
  · exact .inl (List.mem_of_mem_drop (List.mem_of_mem_take hz))
  · exact .inr (List.mem_of_mem_drop (List.mem_of_mem_take hz))
/-- A cut of the first rows looks at these rows alone. -/
theorem cutCells_append {row lo len n : Nat} {xs ys : List Int} (h : n * row ≤ xs.length) (hl : lo + len ≤ row) : cutCells row lo len (xs ++ ys) n = cutCells row lo len xs n := by
  induction n with
  | zero => rfl
  | succ n ih =>
    have e : (n + 1) * row = n * row + row := Nat.succ_mul n row
    rw [cutCells_succ, cutCells_succ, ih (by omega), List.drop_append_of_le_length (by omega), List.take_append_of_le_length (by simp; omega)]
theorem cut_join_left {R S n : Nat} {xs ys : List Int} (h : n * R ≤ xs.length) (h' : n * S ≤ ys.length) : cutCells (R + S) 0 R (joinCells R S xs ys n) n = xs.take (n * R) := by
  induction n with
  | zero => simp [cutCells]
  | succ n ih =>
    have e : (n + 1) * R = n * R + R := Nat.succ_mul n R
    have e' : (n + 1) * S = n * S + S := Nat.succ_mul n S
    have hj : (joinCells R S xs ys n).length = n * (R + S) := joinCells_length (by omega) (by omega)
    rw [joinCells_succ, cutCells_succ, cutCells_append (by omega) (by omega), ih (by omega) (by omega), Nat.add_zero, List.drop_append_of_le_length (by omega), List.drop_of_length_le (by omega), List.nil_append,
      List.take_append_of_le_length (by simp; omega), List.take_take, Nat.min_self, e, List.take_add]
theorem cut_join_right {R S n : Nat} {xs ys : List Int} (h : n * R ≤ xs.length) (h' : n * S ≤ ys.length) : cutCells (R + S) R S (joinCells R S xs ys n) n = ys.take (n * S) := by
  induction n with
  | zero => simp [cutCells]
  | succ n ih =>
    have e : (n + 1) * R = n * R + R := Nat.succ_mul n R
    have e' : (n + 1) * S = n * S + S := Nat.succ_mul n S
    have hj : (joinCells R S xs ys n).length = n * (R + S) := joinCells_length (by omega) (by omega)
    have hx : ((xs.drop (n * R)).take R).length = R := by simp; omega
    rw [joinCells_succ, cutCells_succ, cutCells_append (by omega) (by omega), ih (by omega) (by omega), List.drop_append, List.drop_of_length_le (by omega), List.nil_append, hj, Nat.add_sub_cancel_left,
      List.drop_append, List.drop_of_length_le (by omega), List.nil_append, hx, Nat.sub_self, List.drop_zero, List.take_take, Nat.min_self, e', List.take_add]

theorem restSame_parts {zs ts : List Int} {n : Nat} (h : restSame zs ts n = true) : zs.take n = ts.take n ∧ zs.drop (n + 1) = ts.drop (n + 1) := by
  simpa [restSame] using h
/-- What a join that is not refused is made of. -/
theorem join_nats {zs ts : List Int} {side : Int} (h : joinE zs ts side = 0) :
    ∃ n P Z1 Z2 I : Nat, side = (n : Int) ∧ rightB zs = true ∧ rightB ts = true ∧ zs.length = ts.length ∧ n < zs.length ∧ zs[n]? = some (Z1 : Int) ∧ ts[n]? = some (Z2 : Int) ∧ 1 ≤ Z1 ∧ 1 ≤ Z2 ∧ 1 ≤ P ∧ 1 ≤ I ∧
      prodL (zs.take n) = (P : Int) ∧ prodL (zs.drop (n + 1)) = (I : Int) ∧ prodL (ts.take n) = (P : Int) ∧ prodL (ts.drop (n + 1)) = (I : Int) ∧ prodL zs = ((P * (Z1 * I) : Nat) : Int) ∧ prodL ts = ((P * (Z2 * I) : Nat) : Int) ∧
      joinL zs ts n = zs.set n ((Z1 : Int) + Z2) ∧ restSame zs ts n = true ∧ rightB (zs.set n ((Z1 : Int) + Z2)) = true ∧ zs.set n (Z2 : Int) = ts := by
  unfold joinE at h
  split at h
  · rename_i hg
    simp only [Bool.and_eq_true, decide_eq_true_eq] at hg
    obtain ⟨⟨hr, hr'⟩, hl⟩ := hg
    split at h
    · rename_i hs
      simp only [Bool.and_eq_true, decide_eq_true_eq] at hs
      obtain ⟨n, rfl⟩ := Int.eq_ofNat_of_zero_le hs.1
      rw [Int.toNat_natCast] at h
      split at h
      · rename_i hj
        simp only [Bool.and_eq_true] at hj
        have hn : n < zs.length := by omega
        obtain ⟨_, _, rin, _⟩ := (rightB_iff zs).1 hr
        obtain ⟨_, _, rin', _⟩ := (rightB_iff ts).1 hr'
        obtain ⟨P, Z1, I, eP, eZ, eI, hP, hZ, hI, eN⟩ := sides_nat rin (List.getElem?_eq_getElem hn)
        obtain ⟨P', Z2, I', eP', eZ', eI', _, hZ', _, eN'⟩ := sides_nat rin' (List.getElem?_eq_getElem (show n < ts.length by omega))
        obtain ⟨s1, s2⟩ := restSame_parts hj.1
        rw [← s1, eP] at eP'
        rw [← s2, eI] at eI'
        obtain rfl : P = P' := Int.ofNat.inj eP'
        obtain rfl : I = I' := Int.ofNat.inj eI'
        have g1 : zs[n]? = some (Z1 : Int) := by rw [List.getElem?_eq_getElem hn, eZ]
        have g2 : ts[n]? = some (Z2 : Int) := by rw [List.getElem?_eq_getElem (by omega), eZ']
        have ej : joinL zs ts n = zs.set n ((Z1 : Int) + Z2) := by rw [joinL]; simp [List.getD, g1, g2]
        refine ⟨n, P, Z1, Z2, I, rfl, hr, hr', hl, hn, g1, g2, hZ, hZ', hP, hI, eP, eI, by rw [← s1]; exact eP, by rw [← s2]; exact eI, eN, eN', ej, hj.1, by rw [← ej]; exact hj.2, ?_⟩
        apply List.ext_getElem?
        intro i
        by_cases hi : i = n
        · subst hi; rw [List.getElem?_set_self hn, g2]
        · rw [List.getElem?_set_ne (by omega)]
          rcases Nat.lt_or_gt_of_ne hi with hlt | hgt
          · have := congrArg (fun l => l[i]?) s1
            simpa [List.getElem?_take, hlt] using this
          · have := congrArg (fun l => l[i - (n + 1)]?) s2
            simp only [List.getElem?_drop] at this
            rwa [show n + 1 + (i - (n + 1)) = i from by omega] at this
      · cases h
    · cases h
  · cases h
end Go.Proofs.Ytphcffcecncngaa
