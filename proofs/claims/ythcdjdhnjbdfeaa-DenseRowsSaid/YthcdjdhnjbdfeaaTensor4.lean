/- The walks of package tensor: alike, Add, Scale, Dot. -/
import Derived.Test.YthcdjdhnjbdfeaaTensor3
import Derived.Test.YthcdjdhnjbdfeaaFixDot
import Derived.StillTailTactics
namespace Go.Proofs.Ythcdjdhnjbdfeaa
open Go.RowKit

theorem calls_same {P : Program} {f : FuncId} {args : Array Value} {w : World} {v : Value} (h : Calls P f args w fun e w' => e = .returned v ∧ w = w') : Calls P f args w fun e w' => e = .returned v ∧ w' = w :=
  h.mono fun _ _ ⟨he, hw⟩ => ⟨he, hw.symm⟩
def alikeB (zs xs ts ys : List Int) : Bool := tRightB zs xs && tRightB ts ys && decide (zs = ts)

set_option maxRecDepth 100000 in
set_option maxHeartbeats 1000000 in
theorem t_alike (A B C D : Option Addr) (c d c' d' : Nat) (zs xs ts ys : List Int) (w : World) (hz : zs.length ≤ 1000000) (ht : ts.length ≤ 1000000)
    (h1 : Rd w A zs) (h3 : Rd w C ts) :
    Calls Try.prog 69 #[.agg #[.slice A zs.length c, .slice B xs.length d], .agg #[.slice C ts.length c', .slice D ys.length d']] w (RetB w (.bool (alikeB zs xs ts ys))) := by
  have B0 := ((Below.refl w.heap.size w).alloc (Nat.le_refl _) (.cells #[.slice A zs.length c, .slice B xs.length d] 26)).alloc (by simp) (.cells #[.slice C ts.length c', .slice D ys.length d'] 26)
  have k0 := (Blk.new w 26 #[.slice A zs.length c, .slice B xs.length d]).alloc (.cells #[.slice C ts.length c', .slice D ys.length d'] 26)
  have k0' := Blk.new' (w.alloc (.cells #[.slice A zs.length c, .slice B xs.length d] 26)) 26 #[.slice C ts.length c', .slice D ys.length d'] (n := w.heap.size + 1) (by simp)
  rcases hr : tRightB zs xs with _ | _
  · have HR := Lib.hid hr
    have HV : Hid (alikeB zs xs ts ys = false) := Lib.hid (by simp [alikeB, hr])
    clear hr
    go_enter Try.func69, Try.ntmps69
    go_wp2_with fail
    refine (t_right A B c d zs xs _ hz (h1.below B0)).mono ?_
    rintro e w1 ⟨rfl, hb⟩
    rw [HR.out]
    go_wp2_with fail
    go_ret
    exact ⟨ret_bool HV.out.symm, btr B0 hb⟩
  rcases hr' : tRightB ts ys with _ | _
  · have HR := Lib.hid hr
    have HR' := Lib.hid hr'
    have HV : Hid (alikeB zs xs ts ys = false) := Lib.hid (by simp [alikeB, hr'])
    clear hr hr'
    go_enter Try.func69, Try.ntmps69
    go_wp2_with fail
    refine (t_right A B c d zs xs _ hz (h1.below B0)).mono ?_
    rintro e w1 ⟨rfl, hb⟩
    rw [HR.out]
    have B1 := btr B0 hb
    obtain ⟨q0, q1⟩ := box2 (k0'.keep hb)
    go_wp2_with fail
    refine (t_right C D c' d' ts ys _ ht (h3.below B1)).mono ?_
    rintro e w2 ⟨rfl, hb2⟩
    rw [HR'.out]
    go_wp2_with fail
    go_ret
    exact ⟨ret_bool HV.out.symm, btr B1 hb2⟩
  · have HR := Lib.hid hr
    have HR' := Lib.hid hr'
    have HV : Hid (alikeB zs xs ts ys = decide (zs = ts)) := Lib.hid (by simp [alikeB, hr, hr'])
    clear hr hr'
    go_enter Try.func69, Try.ntmps69
    go_wp2_with fail
    refine (t_right A B c d zs xs _ hz (h1.below B0)).mono ?_
    rintro e w1 ⟨rfl, hb⟩
    rw [HR.out]
    have B1 := btr B0 hb
    have k1 := k0.keep hb
    have k1' := k0'.keep hb
    obtain ⟨q0, q1⟩ := box2 k1'
    go_wp2_with fail
    refine (t_right C D c' d' ts ys _ ht (h3.below B1)).mono ?_
    rintro e w2 ⟨rfl, hb2⟩
    rw [HR'.out]
    have B2 := btr B1 hb2
    clear q0 q1
    obtain ⟨p0, p1⟩ := box2 (k1.keep hb2)
    obtain ⟨q0, q1⟩ := box2 (k1'.keep hb2)
    go_wp2_with fail
    refine (sh_equal A C c c' zs ts _ hz ht (h1.below B2) (h3.below B2)).mono ?_
    rintro e w3 ⟨rfl, n, rfl⟩
    go_wp2_with fail
    go_ret
    exact ⟨ret_bool HV.out.symm, below_drewN B2 n⟩

/-- Cell by cell: the sums under way. -/
def addTo (xs ys : List Int) (k : Nat) : List Int := (xs.take k).zipWith fadd (ys.take k) ++ xs.drop k
theorem addTo_length {xs ys : List Int} {k : Nat} (hl : xs.length = ys.length) (hk : k ≤ xs.length) : (addTo xs ys k).length = xs.length := by simp [addTo]; omega
theorem addTo_at {xs ys : List Int} {k : Nat} {x : Int} (hl : xs.length = ys.length) (hx : xs[k]? = some x) : (addTo xs ys k)[k]? = some x := by
  obtain ⟨hk, _⟩ := List.getElem?_eq_some_iff.1 hx
  rw [addTo, List.getElem?_append_right (by simp; omega)]
  simp only [List.length_zipWith, List.length_take, List.getElem?_drop]
  rw [show k + (k - min (min k xs.length) (min k ys.length)) = k from by omega]
  exact hx
theorem addTo_set {xs ys : List Int} {k : Nat} {x y : Int} (hl : xs.length = ys.length) (hx : xs[k]? = some x) (hy : ys[k]? = some y) : (addTo xs ys k).set k (fadd x y) = addTo xs ys (k + 1) := by
  obtain ⟨hk, _⟩ := List.getElem?_eq_some_iff.1 hx
  have hn : ((xs.take k).zipWith fadd (ys.take k)).length = k := by simp; omega
  rw [addTo, List.set_append_right _ _ (by omega), hn, Nat.sub_self, drop_at hx, List.set_cons_zero, addTo, take_at hx, take_at hy, List.zipWith_append (by simp; omega)]
  simp
theorem addTo_all {xs ys : List Int} {k : Nat} (hl : xs.length = ys.length) (hk : ¬ k < xs.length) : addTo xs ys k = xs.zipWith fadd ys := by
  rw [addTo, List.take_of_length_le (by omega), List.take_of_length_le (by omega), List.drop_of_length_le (by omega), List.append_nil]

theorem alike_len {zs xs ts ys : List Int} (h : alikeB zs xs ts ys = true) : zs = ts ∧ xs.length = ys.length ∧ tRightB zs xs = true ∧ tRightB ts ys = true ∧ xs.length ≤ 65536 ∧ zs.length ≤ 4 := by
  simp only [alikeB, Bool.and_eq_true, decide_eq_true_eq] at h
  obtain ⟨⟨h1, h2⟩, h3⟩ := h
  have g1 := (tRightB_iff _ _).1 h1
  have g2 := (tRightB_iff _ _).1 h2
  subst h3
  obtain ⟨n, hn, _, hn6⟩ := rightB_size g1.1
  exact ⟨rfl, by omega, h1, h2, by omega, ((rightB_iff zs).1 g1.1).2.1⟩

set_option maxRecDepth 100000 in
set_option maxHeartbeats 1000000 in
theorem t_add_no (A B C D : Option Addr) (c d c' d' : Nat) (zs xs ts ys : List Int) (w : World) (hz : zs.length ≤ 1000000) (ht : ts.length ≤ 1000000)
    (h1 : Rd w A zs) (h3 : Rd w C ts) (hr : Hid (alikeB zs xs ts ys = false)) :
    Calls Try.prog 48 #[.agg #[.slice A zs.length c, .slice B xs.length d], .agg #[.slice C ts.length c', .slice D ys.length d']] w (RetTE w [] [] 20) := by
  have B0 := (((Below.refl w.heap.size w).alloc (Nat.le_refl _) (.cells #[.slice A zs.length c, .slice B xs.length d] 26)).alloc (by simp) (.cells #[.slice C ts.length c', .slice D ys.length d'] 26)).alloc (by simp; omega) (.cells #[.slice none 0 0, .slice none 0 0] 26)
  have k0 := Blk.new' ((w.alloc (.cells #[.slice A zs.length c, .slice B xs.length d] 26)).alloc (.cells #[.slice C ts.length c', .slice D ys.length d'] 26)) 26 #[.slice none 0 0, .slice none 0 0] (n := w.heap.size + 1 + 1) (by simp)
  go_enter Try.func48, Try.ntmps48
  go_wp2_with fail
  refine (t_alike A B C D c d c' d' zs xs ts ys _ hz ht (h1.below B0) (h3.below B0)).mono ?_
  rintro e w1 ⟨rfl, hb⟩
  rw [hr.out]
  have k1 := k0.keep hb
  have B1 := btr B0 hb
  obtain ⟨q0, q1⟩ := box2 k1
  have f0 := k1.frozen 0
  have f1 := k1.frozen 1
  go_wp2_with fail
  have k3 := k1.set2 (.slice none 0 0) (.slice none 0 0)
  have B3 := bset2 B1 (p := w.heap.size + 1 + 1) (by omega) (.slice none 0 0) (.slice none 0 0)
  clear q0 q1
  obtain ⟨q0, q1⟩ := box2 k3
  refine bodyPost_ret (v := .tuple #[.agg #[.slice none 0 0, .slice none 0 0], .int .i64 20]) (by simp [results, Try.results48, go_sem, q0, q1]) rfl ?_
  exact RetTE.no rfl rfl B3 _ rfl

set_option maxRecDepth 100000 in
set_option maxHeartbeats 2000000 in
theorem t_add_yes (A B C D : Option Addr) (c d c' d' : Nat) (zs xs ts ys : List Int) (w : World)
    (h1 : Rd w A zs) (h2 : Rd w B xs) (h3 : Rd w C ts) (h4 : Rd w D ys) (hx : Hid (∀ z ∈ xs, I64 z)) (hy : Hid (∀ z ∈ ys, I64 z)) (hr : Hid (alikeB zs xs ts ys = true)) :
    Calls Try.prog 48 #[.agg #[.slice A zs.length c, .slice B xs.length d], .agg #[.slice C ts.length c', .slice D ys.length d']] w (RetTE w zs (xs.zipWith fadd ys) 0) := by
  obtain ⟨hzt, hl, _, _, hx6, hz4⟩ := alike_len hr.out
  have HL := Lib.hid hl
  have HZT := Lib.hid hzt
  have ht4 : ts.length ≤ 4 := by rw [← hzt]; exact hz4
  clear hl hzt
  have B0 := (((Below.refl w.heap.size w).alloc (Nat.le_refl _) (.cells #[.slice A zs.length c, .slice B xs.length d] 26)).alloc (by simp) (.cells #[.slice C ts.length c', .slice D ys.length d'] 26)).alloc (by simp; omega) (.cells #[.slice none 0 0, .slice none 0 0] 26)
  have k0 := Blk.new' ((w.alloc (.cells #[.slice A zs.length c, .slice B xs.length d] 26)).alloc (.cells #[.slice C ts.length c', .slice D ys.length d'] 26)) 26 #[.slice none 0 0, .slice none 0 0] (n := w.heap.size + 1 + 1) (by simp)
  have m0 := ((Blk.new w 26 #[.slice A zs.length c, .slice B xs.length d]).alloc (.cells #[.slice C ts.length c', .slice D ys.length d'] 26)).alloc (.cells #[.slice none 0 0, .slice none 0 0] 26)
  have n0 := (Blk.new' (w.alloc (.cells #[.slice A zs.length c, .slice B xs.length d] 26)) 26 #[.slice C ts.length c', .slice D ys.length d'] (n := w.heap.size + 1) (by simp)).alloc (.cells #[.slice none 0 0, .slice none 0 0] 26)
  go_enter Try.func48, Try.ntmps48
  go_wp2_with fail
  refine (t_alike A B C D c d c' d' zs xs ts ys _ (by omega) (by omega) (h1.below B0) (h3.below B0)).mono ?_
  rintro e w1 ⟨rfl, hb⟩
  rw [hr.out]
  have k1 := k0.keep hb
  have m1 := m0.keep hb
  have n1 := n0.keep hb
  have B1 := btr B0 hb
  obtain ⟨q0, q1⟩ := box2 m1
  clear k0 m0 n0
  go_wp2_with fail
  refine (t_copy A B c d zs xs _ (by omega) (by omega) (h1.below B1) (h2.below B1)).mono ?_
  rintro e w2 ⟨g, g', rfl, hg, hg', ho, ho', hb2⟩
  have k2 := k1.keep hb2
  have n2 := n1.keep hb2
  have B2 := btr B1 hb2
  have hsz1 := B1.size
  have hsz2 := B2.size
  clear q0 q1 m1 k1 n1
  obtain ⟨q0, q1⟩ := box2 (n2.alloc (.cells #[.slice (some ⟨g, 0, none⟩) zs.length zs.length, .slice (some ⟨g', 0, none⟩) xs.length xs.length] 26))
  go_wp2_with fail
  go_loopw [19] (fun i wr => ∃ k : Nat, k ≤ ys.length ∧ i = .int .i64 k ∧ Own wr g 3 zs ∧ Own wr g' 27 (addTo xs ys k) ∧ Blk wr (w.heap.size + 1 + 1) 26 #[.slice none 0 0, .slice none 0 0] ∧ Blk wr w2.heap.size 26 #[.slice (some ⟨g, 0, none⟩) zs.length zs.length, .slice (some ⟨g', 0, none⟩) xs.length xs.length] ∧ Below w.heap.size w wr) (fun i _ => ys.length - (intOf i).toNat)
  case atStart => exact ⟨0, Nat.zero_le _, rfl, ho.alloc _, by simpa [addTo] using ho'.alloc _, k2.alloc _, Blk.new _ _ _, B2.alloc hsz2 _⟩
  case round =>
    clear q0 q1
    obtain ⟨k, hk, rfl, o1, o2, kb, mb, hbel⟩ := hrel
    by_cases hlt : k < ys.length
    · have hltx : k < xs.length := by rw [HL.out]; exact hlt
      obtain ⟨b, off, y, rfl, hbb, hcy, hyk⟩ := (h4.below hbel).get hlt
      obtain ⟨x, hxk⟩ : ∃ x, Hid (xs[k]? = some x) := ⟨_, Lib.hid (List.getElem?_eq_getElem hltx)⟩
      have hcx := o2.cell (addTo_at HL.out hxk.out)
      have hfx := o2.frozen k
      have hxi := hx.out x (List.mem_of_getElem? hxk.out)
      have hyi := hy.out y (List.mem_of_getElem? hyk.out)
      have HO := Lib.hid (o2.set_ k (fadd x y)).drew
      rw [addTo_set HL.out hxk.out hyk.out] at HO
      have O1 := (o1.far (p := ⟨g', k, none⟩) (o1.ne_blk (cs := ints (addTo xs ys k)) (T' := 27) o2 (by decide)) (.int .i64 (fadd x y))).drew
      have KB := (kb.far (p := ⟨g', k, none⟩) (o2.ne_blk kb (by decide)).symm (.int .i64 (fadd x y))).drew
      have MB := (mb.far (p := ⟨g', k, none⟩) (o2.ne_blk mb (by decide)).symm (.int .i64 (fadd x y))).drew
      have HB := (hbel.setCell (p := ⟨g', k, none⟩) (by show w.heap.size ≤ g'; omega) (.int .i64 (fadd x y))).drew
      obtain ⟨p0, p1⟩ := box2 mb
      have CA := Lib.hid (calls_same (fix_add x y wr.drew hxi hyi))
      go_wp2_with fail
      refine wp_region_still_tail 11 (by kernel_rfl) (by kernel_rfl) ?_
      change wpStill _ _ (wr).drew _ _ _
      simp only [List.take_succ_cons, List.take_zero, List.drop_succ_cons, List.drop_zero]
      iterate 9 still_step
      still_call CA.out
      repeat still_step
      refine wpStill_nil ?_
      go_wp2_with fail
      go_roundw
      case rel => exact ⟨k + 1, by omega, by go_num, O1, HO.out, KB, MB, HB⟩
      case measure => simp [intOf]; omega
    · rw [addTo_all HL.out (by rw [HL.out]; exact hlt)] at o2
      have HO := Lib.hid o2
      clear o2
      obtain ⟨p0, p1⟩ := box2 mb
      obtain ⟨q0, q1⟩ := box2 kb
      have f0 := kb.frozen 0
      have f1 := kb.frozen 1
      have l1 := o1.ne_blk kb (by decide)
      have l2 := HO.out.ne_blk kb (by decide)
      have hlen : (xs.zipWith fadd ys).length = xs.length := by have := HL.out; simp; omega
      have HLEN := Lib.hid hlen
      clear hlen
      go_wp2_with fail
      have k3 := kb.set2 (.slice (some ⟨g, 0, none⟩) zs.length zs.length) (.slice (some ⟨g', 0, none⟩) xs.length xs.length)
      have B3 := bset2 hbel (p := w.heap.size + 1 + 1) (by omega) (.slice (some ⟨g, 0, none⟩) zs.length zs.length) (.slice (some ⟨g', 0, none⟩) xs.length xs.length)
      have o3 := o1.far2 l1 (.slice (some ⟨g, 0, none⟩) zs.length zs.length) (.slice (some ⟨g', 0, none⟩) xs.length xs.length)
      have o4 := HO.out.far2 l2 (.slice (some ⟨g, 0, none⟩) zs.length zs.length) (.slice (some ⟨g', 0, none⟩) xs.length xs.length)
      clear q0 q1
      obtain ⟨q0, q1⟩ := box2 k3
      refine bodyPost_ret (v := .tuple #[.agg #[.slice (some ⟨g, 0, none⟩) zs.length zs.length, .slice (some ⟨g', 0, none⟩) xs.length xs.length], .int .i64 0]) (by simp [results, Try.results48, go_sem, q0, q1]) rfl ?_
      exact RetTE.yes (by omega) (by omega) (by omega) (by rw [HLEN.out]; omega) o3 o4 B3 _ (by rw [HLEN.out])

end Go.Proofs.Ythcdjdhnjbdfeaa
