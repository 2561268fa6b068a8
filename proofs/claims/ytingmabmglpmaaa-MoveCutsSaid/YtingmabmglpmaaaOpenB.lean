/- Fields of structs that were read, with the bound on their lengths; the case of athanorlaw05. -/
import Derived.Test.YtingmabmglpmaaaOpenW
namespace Go.Proofs.Ytingmabmglpmaaa
open Go.RowKit Go.ChangeShapes Go.WideShapes Go.Deep

section
variable {H : Type} {enc : TypeId × Value → H} {W : World} {base : Nat} {held : Bool}
/-- A field of a struct that was read, and the bound on it. -/
theorem fldW {T : TypeId} {fs : Array Field} {fuel : Nat} {cs : List Value} {x : DataW H × List MemPlace} {spare : Nat → Bool} (hT : Try.prog.underlying T = some (.struct fs)) (h : DataW.trod enc Try.prog W base spare held fuel T cs = some x) (hw : Wt T x.1)
    (i : Nat) (f : Field) (hf : fs[i]? = some f) : ∃ n y, DataW.trod enc Try.prog W base spare held n f.type ((cs.drop f.offset).take (Try.prog.cellsOf f.type)) = some y ∧ Wt f.type y.1 := by
  obtain ⟨xs, n, _, hx, _, hl, hg⟩ := DataW.trod_struct hT h
  have hi : i < xs.length := by rw [hl]; exact (Array.getElem?_eq_some_iff.1 hf).1
  refine ⟨n, xs[i], (hg i f hf).trans (List.getElem?_eq_getElem hi), fun m hm => hw m ?_⟩
  rw [hx]
  simp only [DataW.weights, hT]
  refine DataW.weights_mem_each (j := i) (t := f.type) (d := xs[i].1) ?_ ?_ m hm
  · simp [hf]
  · simp [List.getElem?_eq_getElem hi]
set_option maxRecDepth 100000 in
theorem arg_grid {b0 : Nat} {v : Value} {d : DataW H} {p : List MemPlace} (hval : Value.okWide Try.prog W .any b0 26 v) (h : DataW.Trod enc Try.prog W base (fun _ => true) held 26 v d p) (hw : Wt 26 d) :
    ∃ A c zs B d xs, v = .agg #[.slice A (List.length zs) c, .slice B (List.length xs) d] ∧ IntsIn W A c zs ∧ IntsIn W B d xs ∧ zs.length ≤ reach8 ∧ xs.length ≤ reach8 := by
  obtain ⟨cs, rfl, hsz⟩ := okWide_struct Try.underlying26 hval
  obtain ⟨q0, q1, rfl⟩ := arr2 (hsz.trans (by kernel_rfl))
  obtain ⟨fuel, hf⟩ := h
  obtain ⟨A, c, zs, B, d, xs, e, r⟩ := trod_gridW hf rfl hw
  simp only [Value.cells] at e
  injection e with e0 e1; injection e1 with e1 _; subst e0 e1
  exact ⟨A, c, zs, B, d, xs, rfl, r⟩
set_option maxRecDepth 100000 in
theorem arg_backed {b0 : Nat} {v : Value} {d : DataW H} {p : List MemPlace} (hval : Value.okWide Try.prog W .any b0 64 v) (h : DataW.Trod enc Try.prog W base (fun _ => true) held 64 v d p) (hw : Wt 64 d) :
    ∃ kind kk A c ts B d' zg C e' xg, v = .agg #[.int .i64 kind, .int .i64 kk, .slice A (List.length ts) c, .slice B (List.length zg) d', .slice C (List.length xg) e'] ∧ I64 kk ∧ TensW W A c ts ∧ IntsIn W B d' zg ∧ IntsIn W C e' xg ∧ zg.length ≤ reach8 ∧ xg.length ≤ reach8 := by
  obtain ⟨cs, rfl, hsz⟩ := okWide_struct Try.underlying64 hval
  obtain ⟨q0, q1, q2, q3, q4, rfl⟩ := arr5 (hsz.trans (by kernel_rfl))
  obtain ⟨fuel, hf⟩ := h
  obtain ⟨_, _, h0, w0⟩ := fldW Try.underlying64 hf hw 0 _ rfl
  obtain ⟨_, _, h1, w1⟩ := fldW Try.underlying64 hf hw 1 _ rfl
  obtain ⟨_, _, h2, w2⟩ := fldW Try.underlying64 hf hw 2 _ rfl
  obtain ⟨_, _, h3, w3⟩ := fldW Try.underlying64 hf hw 3 _ rfl
  replace h0 : DataW.trod enc Try.prog W base (fun _ => true) held _ 3 [q0] = some _ := h0
  replace h1 : DataW.trod enc Try.prog W base (fun _ => true) held _ 38 [q1] = some _ := h1
  replace h2 : DataW.trod enc Try.prog W base (fun _ => true) held _ 27 [q2] = some _ := h2
  replace h3 : DataW.trod enc Try.prog W base (fun _ => true) held _ 26 [q3, q4] = some _ := h3
  obtain ⟨kind, rfl, -⟩ := trod_int1 Try.underlying3 h0
  obtain ⟨kk, rfl, hk⟩ := trod_int1 Try.underlying38 h1
  obtain ⟨A, c, ts, rfl, hts⟩ := trod_tensW h2 w2
  obtain ⟨B, d', zg, C, e', xg, e, r⟩ := trod_gridW h3 rfl w3
  injection e with e0 e1; injection e1 with e1 _; subst e0 e1
  exact ⟨kind, kk, A, c, ts, B, d', zg, C, e', xg, rfl, wf_bounds hk, hts, r⟩
end

end Go.Proofs.Ytingmabmglpmaaa
