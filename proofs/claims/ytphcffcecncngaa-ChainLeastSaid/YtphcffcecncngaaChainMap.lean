/- The map of a solver: its keys are pairs, its values rows. -/
import Derived.Test.YtphcffcecncngaaChain
import Derived.ChangeMaps5
set_option linter.unusedSimpArgs false
namespace Go.Proofs.Ytphcffcecncngaa
open Go.RowKit

/-- A part as a key. -/
abbrev keyP (l r : Int) : Value := .agg #[.int .i64 l, .int .i64 r]
theorem eq_part (w : World) (l r l' r' : Int) : (Op.equal 100 (keyP l r) (keyP l' r')).run Try.prog w = .ok (l == l' && r == r') w := by
  have : (Op.equal 100 (keyP l r) (keyP l' r')).run Try.prog w = if l = l' then (if r = r' then Result.ok true w else Result.ok false w) else Result.ok false w := by
    simp [Op.equal, Op.maxDepth, go_sem]
  rw [this]
  by_cases h1 : l = l' <;> by_cases h2 : r = r' <;> simp [h1, h2]
theorem check_in (em : Bool) (w : World) (l r : Int) (d : Nat) : (Instr.checkKey em (d + 1 + 1) 100 (keyP l r)).run Try.prog w = .ok () w := by
  simp [Instr.checkKey, go_sem]
  trace_state
theorem check_part (em : Bool) (w : World) (l r : Int) : (Instr.checkKey em 10000 100 (keyP l r)).run Try.prog w = .ok () w := check_in em w l r 9998
/-- All keys are parts. -/
def KeysP (es : List MapEntry) : Prop := ∀ e ∈ es, ∃ a b : Int, e.key = keyP a b
theorem find_asking (l r : Int) : ∀ (es : List MapEntry) (i : Nat), KeysP es →
    (∃ j e, e ∈ es ∧ e.key = keyP l r ∧ ∀ w : World, (Instr.findAsking 100 (keyP l r) es i).run Try.prog w = .ok (some (j, e.val)) w) ∨
    ((∀ e ∈ es, e.key ≠ keyP l r) ∧ ∀ w : World, (Instr.findAsking 100 (keyP l r) es i).run Try.prog w = .ok none w)
  | [], i, _ => .inr ⟨(by simp), fun w => by simp [Instr.findAsking]⟩
  | e :: es, i, h => by
    obtain ⟨a, b, hk⟩ := h e (by simp)
    by_cases hab : l = a ∧ r = b
    · obtain ⟨rfl, rfl⟩ := hab
      refine .inl ⟨i, e, by simp, hk, fun w => ?_⟩
      simp only [Instr.findAsking, Sem.run_bind, hk, eq_part, Result.andThen_ok]
      simp
    · have hne : (l == a && r == b) = false := by simpa using hab
      have hnk : e.key ≠ keyP l r := by
        rw [hk]
        intro x
        simp at x
        exact hab ⟨x.1.symm, x.2.symm⟩
      have hrun : ∀ w : World, (Instr.findAsking 100 (keyP l r) (e :: es) i).run Try.prog w = (Instr.findAsking 100 (keyP l r) es (i + 1)).run Try.prog w := fun w => by
        simp only [Instr.findAsking, Sem.run_bind, hk, eq_part, Result.andThen_ok, hne]
        simp
      rcases find_asking l r es (i + 1) (fun x hx => h x (by simp [hx])) with ⟨j, x, hx, hkx, hr⟩ | ⟨hn, hr⟩
      · exact .inl ⟨j, x, by simp [hx], hkx, fun w => (hrun w).trans (hr w)⟩
      · exact .inr ⟨fun x hx => by
          rcases List.mem_cons.1 hx with rfl | hx
          · exact hnk
          · exact hn x hx, fun w => (hrun w).trans (hr w)⟩
theorem find_part (l r : Int) (es : List MapEntry) (h : KeysP es) :
    (∃ j e, e ∈ es ∧ e.key = keyP l r ∧ ∀ w : World, (Instr.findKey 100 (keyP l r) es).run Try.prog w = .ok (some (j, e.val)) w) ∨
    ((∀ e ∈ es, e.key ≠ keyP l r) ∧ ∀ w : World, (Instr.findKey 100 (keyP l r) es).run Try.prog w = .ok none w) := by
  cases es with
  | nil => exact .inr ⟨(by simp), fun w => by simp [Instr.findKey, Instr.findNow, run_underlying Try.underlying100]⟩
  | cons e es =>
    have : ∀ w : World, (Instr.findKey 100 (keyP l r) (e :: es)).run Try.prog w = (Instr.findAsking 100 (keyP l r) (e :: es) 0).run Try.prog w := fun w => by
      obtain ⟨a, b, hk⟩ := h e (by simp)
      simp [Instr.findKey, Instr.findNow, Instr.sameNow, hk, run_underlying Try.underlying100]
    simp only [this]
    exact find_asking l r _ 0 h
/-- Block mb is a map whose keys are parts. -/
structure MapP (w : World) (mb : Nat) (es : Array MapEntry) (clock : Nat) : Prop where
  blk : w.heap[mb]? = some (.map es clock)
  keys : KeysP es.toList
/-- The answer is the same in every world with this map. -/
theorem run_lookP {mb clock : Nat} {es : Array MapEntry} (h : KeysP es.toList) (l r : Int) :
    (∃ e, e ∈ es.toList ∧ e.key = keyP l r ∧ ∀ w : World, w.heap[mb]? = some (.map es clock) → (Instr.lookup 96 (.map (some mb)) (keyP l r) true).run Try.prog w = .ok (.tuple #[e.val, .bool true]) w) ∨
    ((∀ e ∈ es.toList, e.key ≠ keyP l r) ∧ ∀ w : World, w.heap[mb]? = some (.map es clock) → (Instr.lookup 96 (.map (some mb)) (keyP l r) true).run Try.prog w = .ok (.tuple #[.agg #[.slice none 0 0], .bool false]) w) := by
  rcases find_part l r es.toList h with ⟨j, e, he, hk, hr⟩ | ⟨hn, hr⟩
  · exact .inl ⟨e, he, hk, fun w hb => by simp [Instr.lookup, run_underlying Try.underlying96, MapKept.run_getObj_map hb, check_part, hr w, go_sem]⟩
  · exact .inr ⟨hn, fun w hb => by simp [Instr.lookup, run_underlying Try.underlying96, MapKept.run_getObj_map hb, check_part, hr w, go_sem]⟩
theorem run_putP {w : World} {mb clock : Nat} {es : Array MapEntry} (h : MapP w mb es clock) (l r : Int) (v : Value) (hn : ∀ e ∈ es.toList, e.key ≠ keyP l r) :
    (Instr.mapUpdate 96 (.map (some mb)) (keyP l r) v).run Try.prog w = .ok () (ChangeMaps.setBlock w mb (.map (es.push { key := keyP l r, val := v, born := clock }) (clock + 1))) := by
  rcases find_part l r es.toList h.keys with ⟨j, e, he, hk, hr⟩ | ⟨hn, hr⟩
  · exact absurd hk (hn e he)
  · simp [Instr.mapUpdate, run_underlying Try.underlying96, MapKept.run_getObj_map h.blk, MapKept.run_setObj_map _ h.blk, check_part, hr, ChangeMaps.setBlock]

end Go.Proofs.Ytphcffcecncngaa
