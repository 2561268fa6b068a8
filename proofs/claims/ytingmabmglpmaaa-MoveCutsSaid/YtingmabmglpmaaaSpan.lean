/- The walks of package tensor: span, Cut. -/
import Derived.Test.YtingmabmglpmaaaTensor5
import Derived.Test.YtingmabmglpmaaaAppend2
import Derived.Test.YtingmabmglpmaaaCutMath
namespace Go.Proofs.Ytingmabmglpmaaa
open Go.RowKit

theorem t_span (A : Option Addr) (c : Nat) (zs : List Int) (w : World) (h4 : zs.length ≤ 4) (hin : Hid (inSides zs = true)) (h : Rd w A zs) :
    Calls Try.prog 46 #[.slice A zs.length c] w fun e w' => e = .returned (.int .i64 (prodL zs)) ∧ w = w' := by
  go_enter Try.func46, Try.ntmps46
  go_wp2_with fail
  go_loop [3, 8] (fun n i => ∃ k : Nat, k ≤ zs.length ∧ i = .int .i64 k ∧ n = .int .i64 (prodL (zs.take k))) (fun _ i => zs.length - (intOf i).toNat)
  case atStart => exact ⟨0, Nat.zero_le _, rfl, rfl⟩
  case round =>
    obtain ⟨k, hk, rfl, rfl⟩ := hrel
    obtain ⟨hp1, hp2⟩ := prodL_take_bd zs hin.out h4 k
    by_cases hlt : k < zs.length
    · obtain ⟨b, off, z, rfl, hb, hc, hz⟩ := h.get hlt
      obtain ⟨hz1, hz2⟩ := inSides_get hin.out hz.out
      obtain ⟨hm1, hm2⟩ := mul_le_1024 hp1 hp2 hz1 hz2
      go_wp2_with fail
      go_round
      case rel => exact ⟨k + 1, by omega, by go_num, by rw [take_at hz.out, prodL_snoc]⟩
      case measure => simp [intOf]; omega
    · have e : Hid (zs.take k = zs) := List.take_of_length_le (by omega)
      go_wp2_with fail
      go_ret
      exact ⟨ret_int (by rw [e.out]), rfl⟩

/-- A slice of integers that is the call's own, and no error. -/
def RetOE (w : World) (zs : List Int) (e : Ending) (w' : World) : Prop :=
  ∃ g, e = .returned (.tuple #[.slice (some ⟨g, 0, none⟩) zs.length zs.length, .int .i64 0]) ∧ w.heap.size ≤ g ∧ Own w' g 3 zs ∧ Below w.heap.size w w'

set_option maxHeartbeats 1000000 in
theorem sh_cut_yes (A : Option Addr) (c : Nat) (zs : List Int) (n : Nat) (z a b : Int) (w : World) (hs : zs.length ≤ 1000000) (hr : Hid (rightB zs = true)) (hz : Hid (zs[n]? = some z)) (ha : 0 ≤ a) (hlt : a < b) (hbz : b ≤ z) (h : Rd w A zs) :
    Calls Try.prog 47 #[.slice A zs.length c, .int .i64 n, .int .i64 a, .int .i64 b] w (RetOE w (zs.set n (b - a))) := by
  obtain ⟨r1, r4, rin, rpr⟩ := (rightB_iff zs).1 hr.out
  have hn : n < zs.length := (List.getElem?_eq_some_iff.1 hz.out).1
  obtain ⟨b0, off, z', rfl, hb0, hc, hz'⟩ := h.get hn
  obtain rfl : z = z' := by have := hz.out.symm.trans hz'.out; injection this
  obtain ⟨hz1, hz2⟩ := inSides_get rin hz.out
  clear rin
  go_enter Try.func47, Try.ntmps47
  go_wp2_with fail
  refine (sh_right _ c zs w hs h).mono ?_
  rintro e w1 ⟨rfl, hb⟩
  rw [hr.out]
  have hc1 := (h.below hb).all hz.out
  go_wp2_with fail
  refine (sh_copy _ c zs w1 hs (h.below hb)).mono ?_
  rintro e w2 ⟨g, rfl, hg, ho, hb2⟩
  have hcg := ho.cell hz.out
  have hfg := ho.frozen n
  have HO := Lib.hid (ho.set_ n (b - a))
  clear ho
  have hlen : (zs.set n (b - a)).length = zs.length := by simp
  have HLEN := Lib.hid hlen
  clear hlen
  go_wp2_with fail
  go_ret2
  exact ⟨g, by rw [HLEN.out]; rfl, Nat.le_trans hb.size hg, HO.out, (btr hb hb2).setCell (Nat.le_trans hb.size hg) _⟩

theorem run_make_cap {P : Program} (t e : TypeId) (ht : P.underlying t = some (.slice e)) (hinfo : (P.info? e).map (fun i => (i.zero, i.size, i.bytes)) = some (some (.int .i64 0), 1, 8)) (n : Nat) (hn : n ≤ 1000000) (W : World) :
    (Instr.makeSlice t (.int .i64 0) (.int .i64 (n : Int))).run P W = .ok (.slice (some ⟨W.heap.size, 0, none⟩) 0 n) (W.alloc (.cells (ints (List.replicate n 0)) e)) := by
  obtain ⟨i, hi, hzz⟩ := Option.map_eq_some_iff.1 hinfo
  simp only [Prod.mk.injEq] at hzz
  obtain ⟨hz, hs, hb⟩ := hzz
  have := run_make (P := P) W t e i (.int .i64 0) ht hi hz .i64 .i64 0 n (Int.le_refl _) (by omega) (by rw [hb]; omega) (by omega)
  rw [this, hs, ← ints_made]
  simp [Value.cells]
theorem own_made (W : World) (E : TypeId) (n : Nat) (hn : n ≤ 1000000) : OwnA (W.alloc (.cells (ints (List.replicate n 0)) E)) W.heap.size E (some ⟨W.heap.size, 0, none⟩) n [] :=
  World.ownsRow_made W _ n (Nat.le_refl _) (by unfold maxLen; omega) (by simp [ints])

def tcutE (zs xs : List Int) (side a b : Int) : Int := if tRightB zs xs then cutE zs side a b else 20

set_option maxRecDepth 100000 in
set_option maxHeartbeats 1000000 in
theorem t_cut_no (A B : Option Addr) (c d : Nat) (zs xs : List Int) (side a b : Int) (w : World) (hz : zs.length ≤ 1000000) (h1 : Rd w A zs) (hr : Hid (tcutE zs xs side a b ≠ 0)) :
    Calls Try.prog 25 #[.agg #[.slice A zs.length c, .slice B xs.length d], .int .i64 side, .int .i64 a, .int .i64 b] w (RetTE w [] [] (tcutE zs xs side a b)) := by
  have b1 := ((Below.refl w.heap.size w).alloc (Nat.le_refl _) (.cells #[.slice A zs.length c, .slice B xs.length d] 26)).alloc (by simp) (.cells #[.slice none 0 0, .slice none 0 0] 26)
  have k1 := (Blk.new w 26 #[.slice A zs.length c, .slice B xs.length d]).alloc (.cells #[.slice none 0 0, .slice none 0 0] 26)
  have kR := Blk.new' (w.alloc (.cells #[.slice A zs.length c, .slice B xs.length d] 26)) 26 #[.slice none 0 0, .slice none 0 0] (n := w.heap.size + 1) (by simp)
  rcases ht : tRightB zs xs with _ | _
  · have HT := Lib.hid ht
    have HE : Hid (tcutE zs xs side a b = 20) := Lib.hid (by simp [tcutE, ht])
    clear ht
    go_enter Try.func25, Try.ntmps25
    go_wp2_with fail
    refine (t_right A B c d zs xs _ hz (h1.below b1)).mono ?_
    rintro e w1 ⟨rfl, hb⟩
    rw [HT.out]
    replace kR := kR.keep hb
    replace b1 := btr b1 hb
    clear hb
    obtain ⟨q0, q1⟩ := box2 kR
    have f0 := kR.frozen 0
    have f1 := kR.frozen 1
    go_wp2_with fail
    have k3 := kR.set2 (.slice none 0 0) (.slice none 0 0)
    have B3 := bset2 b1 (p := w.heap.size + 1) (by omega) (.slice none 0 0) (.slice none 0 0)
    clear q0 q1
    obtain ⟨q0, q1⟩ := box2 k3
    refine bodyPost_ret (v := .tuple #[.agg #[.slice none 0 0, .slice none 0 0], .int .i64 20]) (by simp [results, Try.results25, go_sem, q0, q1]) rfl ?_
    exact RetTE.no rfl rfl B3 _ (by rw [HE.out])
  · have HT := Lib.hid ht
    have HE : Hid (tcutE zs xs side a b = cutE zs side a b) := Lib.hid (by simp [tcutE, ht])
    rw [HE.out] at hr ⊢
    have HV : Hid (cutV zs side a b = []) := Lib.hid (by simp [cutV, hr.out])
    have e1 : (cutE zs side a b != 0) = true := by simpa using hr.out
    clear ht
    go_enter Try.func25, Try.ntmps25
    go_wp2_with fail
    refine (t_right A B c d zs xs _ hz (h1.below b1)).mono ?_
    rintro e w1 ⟨rfl, hb⟩
    rw [HT.out]
    replace k1 := k1.keep hb
    replace kR := kR.keep hb
    replace b1 := btr b1 hb
    clear hb
    obtain ⟨p0, p1⟩ := box2 k1
    go_wp2_with fail
    refine (sh_cut A c zs side a b w1 hz (h1.below b1)).mono ?_
    rintro e w2 ⟨A1, c1, rfl, -, hb, -, -⟩
    rw [HV.out]
    clear p0 p1
    replace kR := kR.keep hb
    replace b1 := btr b1 hb
    clear hb
    obtain ⟨q0, q1⟩ := box2 kR
    have f0 := kR.frozen 0
    have f1 := kR.frozen 1
    go_wp2_with fail
    have k3 := kR.set2 (.slice none 0 0) (.slice none 0 0)
    have B3 := bset2 b1 (p := w.heap.size + 1) (by omega) (.slice none 0 0) (.slice none 0 0)
    clear q0 q1
    obtain ⟨q0, q1⟩ := box2 k3
    refine bodyPost_ret (v := .tuple #[.agg #[.slice none 0 0, .slice none 0 0], .int .i64 (cutE zs side a b)]) (by simp [results, Try.results25, go_sem, q0, q1]) rfl ?_
    exact RetTE.no rfl rfl B3 _ rfl

end Go.Proofs.Ytingmabmglpmaaa
