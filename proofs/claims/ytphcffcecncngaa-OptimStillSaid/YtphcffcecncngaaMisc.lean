/- Words that several laws share (athanorlaw05's texts hold the same; no text imports both). -/
import Derived.Test.YtphcffcecncngaaTAuto
import Derived.Test.YtphcffcecncngaaTens
import Derived.Test.YtphcffcecncngaaTensor4
namespace Go.Proofs.Ytphcffcecncngaa
open Go.RowKit

theorem retV_of {P : Program} {f : Nat} {args : Array Value} {w : World} {v v' : Value} (h : Calls P f args w (RetV w v)) (e : v = v') : Calls P f args w (RetV w v') := e ▸ h
/-- Nothing but an error. -/
def RetN (w : World) (E : Int) (e : Ending) (w' : World) : Prop := e = .returned (.tuple #[.slice none 0 0, .int .i64 E]) ∧ Prev w' w
theorem right_len {zs xs : List Int} (h : tRightB zs xs = true) : xs.length ≤ 65536 ∧ 1 ≤ xs.length ∧ zs.length ≤ 4 := by
  obtain ⟨h1, h2⟩ := (tRightB_iff _ _).1 h
  obtain ⟨n, hn, h3, h4⟩ := rightB_size h1
  obtain ⟨_, h5, _, _⟩ := (rightB_iff _).1 h1
  omega
theorem same_len {zs xs ys : List Int} (h : tRightB zs xs = true) (h' : tRightB zs ys = true) : xs.length = ys.length := by
  have h1 := ((tRightB_iff _ _).1 h).2
  have h2 := ((tRightB_iff _ _).1 h').2
  omega
/-- A tensor and an error, its lengths spelled apart. -/
def RetTm (w : World) (n m : Nat) (zs xs : List Int) (E : Int) (e : Ending) (w' : World) : Prop :=
  ∃ A c B d, e = .returned (.tuple #[.agg #[.slice A n c, .slice B m d], .int .i64 E]) ∧ Sl w' A n zs ∧ Sl w' B m xs ∧ Le m d ∧ Prev w' w
theorem retTm {P : Program} {f : Nat} {args : Array Value} {w : World} {zs xs : List Int} {E : Int} (h : Calls P f args w (RetTS w zs xs E)) {n m : Nat} (hn : n = zs.length) (hm : m = xs.length) : Calls P f args w (RetTm w n m zs xs E) := by
  subst hn hm
  exact h.mono fun _ _ ⟨A, c, B, d, he, h1, h2, h3, h4⟩ => ⟨A, c, B, d, he, h1, h2, ⟨h3⟩, h4⟩
section
variable {w : World} {A B C D : Option Addr} {n m c d : Nat} {zs xs : List Int}
theorem aS_equalT [a : Sl w A n zs] [b : Sl w B m zs] (hn : n ≤ 1000000) (hm : m ≤ 1000000) : Calls Try.prog 78 #[.slice A n c, .slice B m d] w (RetV w (.bool true)) := retV_of (aS_equal hn hm) (by simp)
theorem a03_sameT [a : Sl w A n zs] [b : Sl w B m zs] (hn : n ≤ 1000000) (hm : m ≤ 1000000) : Calls Try.prog 69 #[.slice A n c, .slice B m d] w (RetV w (.bool true)) := retV_of (a03_same hn hm) (by simp)
theorem aT_ofL [a : Sl w A n zs] [b : Sl w B m xs] (hn : n ≤ 1000000) (hm : m ≤ 1000000) (h : tRightB zs xs = true) : Calls Try.prog 62 #[.slice A n c, .slice B m d] w (RetTm w n m zs xs 0) :=
  retTm (aT_of_yes hn hm h) a.len b.len
end
/-- How much there is to go through. -/
def sumT (ts : List Tn) : Nat := (ts.map fun t => 1 + t.zs.length + t.xs.length).sum
theorem sumT_take {ts : List Tn} {k : Nat} {t : Tn} (h : ts[k]? = some t) : sumT (ts.take (k + 1)) = sumT (ts.take k) + (1 + t.zs.length + t.xs.length) := by
  rw [List.take_add_one, h]; simp [sumT]
theorem sumT_le (ts : List Tn) (k : Nat) : sumT (ts.take k) ≤ sumT ts := by
  have e : sumT ts = sumT (ts.take k) + sumT (ts.drop k) := by unfold sumT; rw [← List.sum_append, ← List.map_append, List.take_append_drop]
  omega
theorem sumT_mem {ts : List Tn} {t : Tn} (h : t ∈ ts) : 1 + t.zs.length + t.xs.length ≤ sumT ts := by
  induction ts with
  | nil => cases h
  | cons a l ih =>
    rcases List.mem_cons.1 h with rfl | h
    · simp [sumT]
    · have := ih h
      simp [sumT] at this ⊢; omega
theorem sumT_len (ts : List Tn) : ts.length ≤ sumT ts := by
  induction ts with
  | nil => simp
  | cons a l ih => simp [sumT] at ih ⊢; omega

end Go.Proofs.Ytphcffcecncngaa
