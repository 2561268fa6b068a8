/- The walks of package tensor: Scale, Dot. -/
import Derived.Test.YtphcffcecncngaaTensor4
namespace Go.Proofs.Ytphcffcecncngaa
open Go.RowKit

/-- Cell by cell: a list of which the first k elements have been turned. -/
def mapTo (f : Int → Int) (xs : List Int) (k : Nat) : List Int := (xs.take k).map f ++ xs.drop k
theorem mapTo_zero (f : Int → Int) (xs : List Int) : mapTo f xs 0 = xs := by simp [mapTo]
theorem mapTo_length {f : Int → Int} {xs : List Int} {k : Nat} (hk : k ≤ xs.length) : (mapTo f xs k).length = xs.length := by simp [mapTo]; omega
theorem mapTo_at {f : Int → Int} {xs : List Int} {k : Nat} {x : Int} (hx : xs[k]? = some x) : (mapTo f xs k)[k]? = some x := by
  obtain ⟨hk, _⟩ := List.getElem?_eq_some_iff.1 hx
  rw [mapTo, List.getElem?_append_right (by simp; omega)]
  simp only [List.length_map, List.length_take, List.getElem?_drop]
  rw [show k + (k - min k xs.length) = k from by omega]
  exact hx
theorem mapTo_set {f : Int → Int} {xs : List Int} {k : Nat} {x : Int} (hx : xs[k]? = some x) : (mapTo f xs k).set k (f x) = mapTo f xs (k + 1) := by
  obtain ⟨hk, _⟩ := List.getElem?_eq_some_iff.1 hx
  have hn : ((xs.take k).map f).length = k := by simp; omega
  rw [mapTo, List.set_append_right _ _ (by omega), hn, Nat.sub_self, drop_at hx, List.set_cons_zero, mapTo, take_at hx, List.map_append]
  simp
theorem mapTo_all {f : Int → Int} {xs : List Int} {k : Nat} (hk : ¬ k < xs.length) : mapTo f xs k = xs.map f := by
  rw [mapTo, List.take_of_length_le (by omega), List.drop_of_length_le (by omega), List.append_nil]

theorem tRight_len {zs xs : List Int} (h : tRightB zs xs = true) : xs.length ≤ 65536 ∧ zs.length ≤ 4 := by
  have g1 := (tRightB_iff _ _).1 h
  obtain ⟨n, hn, _, hn6⟩ := rightB_size g1.1
  exact ⟨by omega, ((rightB_iff zs).1 g1.1).2.1⟩

set_option maxRecDepth 100000 in
set_option maxHeartbeats 1000000 in
theorem t_scale_no (A B : Option Addr) (c d : Nat) (zs xs : List Int) (f : Int) (w : World) (hz : zs.length ≤ 1000000) (h1 : Rd w A zs) (hr : Hid (tRightB zs xs = false)) :
    Calls Try.prog 48 #[.agg #[.slice A zs.length c, .slice B xs.length d], .int .i64 f] w (RetTE w [] [] 20) := by
  have B0 := ((Below.refl w.heap.size w).alloc (Nat.le_refl _) (.cells #[.slice A zs.length c, .slice B xs.length d] 65)).alloc (by simp) (.cells #[.slice none 0 0, .slice none 0 0] 65)
  have k0 := Blk.new' (w.alloc (.cells #[.slice A zs.length c, .slice B xs.length d] 65)) 65 #[.slice none 0 0, .slice none 0 0] (n := w.heap.size + 1) (by simp)
  go_enter Try.func48, Try.ntmps48
  go_wp2_with fail
  refine (t_right A B c d zs xs _ hz (h1.below B0)).mono ?_
  rintro e w1 ⟨rfl, hb⟩
  rw [hr.out]
  have k1 := k0.keep hb
  have B1 := btr B0 hb
  obtain ⟨q0, q1⟩ := box2 k1
  have f0 := k1.frozen 0
  have f1 := k1.frozen 1
  go_wp2_with fail
  have k3 := k1.set2 (.slice none 0 0) (.slice none 0 0)
  have B3 := bset2 B1 (p := w.heap.size + 1) (by omega) (.slice none 0 0) (.slice none 0 0)
  clear q0 q1
  obtain ⟨q0, q1⟩ := box2 k3
  refine bodyPost_ret (v := .tuple #[.agg #[.slice none 0 0, .slice none 0 0], .int .i64 20]) (by simp [results, Try.results48, go_sem, q0, q1]) rfl ?_
  exact RetTE.no rfl rfl B3 _ rfl

set_option maxRecDepth 100000 in
set_option maxHeartbeats 2000000 in
theorem t_scale_yes (A B : Option Addr) (c d : Nat) (zs xs : List Int) (f : Int) (w : World)
    (h1 : Rd w A zs) (h2 : Rd w B xs) (hx : Hid (∀ z ∈ xs, I64 z)) (hf : I64 f) (hr : Hid (tRightB zs xs = true)) :
    Calls Try.prog 48 #[.agg #[.slice A zs.length c, .slice B xs.length d], .int .i64 f] w (RetTE w zs (xs.map (fmul · f)) 0) := by
  obtain ⟨hx6, hz4⟩ := tRight_len hr.out
  have HF := Lib.hid hf
  clear hf
  have B0 := ((Below.refl w.heap.size w).alloc (Nat.le_refl _) (.cells #[.slice A zs.length c, .slice B xs.length d] 65)).alloc (by simp) (.cells #[.slice none 0 0, .slice none 0 0] 65)
  have k0 := Blk.new' (w.alloc (.cells #[.slice A zs.length c, .slice B xs.length d] 65)) 65 #[.slice none 0 0, .slice none 0 0] (n := w.heap.size + 1) (by simp)
  have m0 := (Blk.new w 65 #[.slice A zs.length c, .slice B xs.length d]).alloc (.cells #[.slice none 0 0, .slice none 0 0] 65)
  go_enter Try.func48, Try.ntmps48
  go_wp2_with fail
  refine (t_right A B c d zs xs _ (by omega) (h1.below B0)).mono ?_
  rintro e w1 ⟨rfl, hb⟩
  rw [hr.out]
  have k1 := k0.keep hb
  have m1 := m0.keep hb
  have B1 := btr B0 hb
  obtain ⟨q0, q1⟩ := box2 m1
  clear k0 m0
  go_wp2_with fail
  refine (t_copy A B c d zs xs _ (by omega) (by omega) (h1.below B1) (h2.below B1)).mono ?_
  rintro e w2 ⟨g, g', rfl, hg, hg', ho, ho', hb2⟩
  have k2 := k1.keep hb2
  have m2 := m1.keep hb2
  have B2 := btr B1 hb2
  have hsz1 := B1.size
  have hsz2 := B2.size
  clear q0 q1 m1 k1
  obtain ⟨q0, q1⟩ := box2 (m2.alloc (.cells #[.slice (some ⟨g, 0, none⟩) zs.length zs.length, .slice (some ⟨g', 0, none⟩) xs.length xs.length] 65))
  go_wp2_with fail
  go_loopw [18] (fun i wr => ∃ k : Nat, k ≤ xs.length ∧ i = .int .i64 k ∧ Own wr g 3 zs ∧ Own wr g' 45 (mapTo (fmul · f) xs k) ∧ Blk wr (w.heap.size + 1) 65 #[.slice none 0 0, .slice none 0 0] ∧ Blk wr w2.heap.size 65 #[.slice (some ⟨g, 0, none⟩) zs.length zs.length, .slice (some ⟨g', 0, none⟩) xs.length xs.length] ∧ Below w.heap.size w wr) (fun i _ => xs.length - (intOf i).toNat)
  case atStart => exact ⟨0, Nat.zero_le _, rfl, ho.alloc _, by rw [mapTo_zero]; exact ho'.alloc _, k2.alloc _, Blk.new _ _ _, B2.alloc hsz2 _⟩
  case round =>
    clear q0 q1
    obtain ⟨k, hk, rfl, o1, o2, kb, mb, hbel⟩ := hrel
    by_cases hlt : k < xs.length
    · obtain ⟨b, off, x, rfl, hbb, hcx, hxk⟩ := (h2.below hbel).get hlt
      have hcg := o2.cell (mapTo_at (f := (fmul · f)) hxk.out)
      have hfg := o2.frozen k
      have hxi := hx.out x (List.mem_of_getElem? hxk.out)
      have HO := Lib.hid (o2.set_ k (fmul x f)).drew
      rw [mapTo_set (f := (fmul · f)) hxk.out] at HO
      have O1 := (o1.far (p := ⟨g', k, none⟩) (o1.ne_blk (cs := ints (mapTo (fmul · f) xs k)) (T' := 45) o2 (by decide)) (.int .i64 (fmul x f))).drew
      have KB := (kb.far (p := ⟨g', k, none⟩) (o2.ne_blk kb (by decide)).symm (.int .i64 (fmul x f))).drew
      have MB := (mb.far (p := ⟨g', k, none⟩) (o2.ne_blk mb (by decide)).symm (.int .i64 (fmul x f))).drew
      have HB := (hbel.setCell (p := ⟨g', k, none⟩) (by show w.heap.size ≤ g'; omega) (.int .i64 (fmul x f))).drew
      obtain ⟨p0, p1⟩ := box2 mb
      have CA := Lib.hid (calls_same (fix_mul x f wr.drew hxi HF.out))
      go_wp2_with fail
      refine wp_region_still_tail 7 (by kernel_rfl) (by kernel_rfl) ?_
      change wpStill _ _ (wr).drew _ _ _
      simp only [List.take_succ_cons, List.take_zero, List.drop_succ_cons, List.drop_zero]
      iterate 5 still_step
      still_call CA.out
      repeat still_step
      refine wpStill_nil ?_
      go_wp2_with fail
      go_roundw
      case rel => exact ⟨k + 1, by omega, by go_num, O1, HO.out, KB, MB, HB⟩
      case measure => simp [intOf]; omega
    · rw [mapTo_all hlt] at o2
      have HO := Lib.hid o2
      clear o2
      obtain ⟨p0, p1⟩ := box2 mb
      obtain ⟨q0, q1⟩ := box2 kb
      have f0 := kb.frozen 0
      have f1 := kb.frozen 1
      have l1 := o1.ne_blk kb (by decide)
      have l2 := HO.out.ne_blk kb (by decide)
      go_wp2_with fail
      have k3 := kb.set2 (.slice (some ⟨g, 0, none⟩) zs.length zs.length) (.slice (some ⟨g', 0, none⟩) xs.length xs.length)
      have B3 := bset2 hbel (p := w.heap.size + 1) (by omega) (.slice (some ⟨g, 0, none⟩) zs.length zs.length) (.slice (some ⟨g', 0, none⟩) xs.length xs.length)
      have o3 := o1.far2 l1 (.slice (some ⟨g, 0, none⟩) zs.length zs.length) (.slice (some ⟨g', 0, none⟩) xs.length xs.length)
      have o4 := HO.out.far2 l2 (.slice (some ⟨g, 0, none⟩) zs.length zs.length) (.slice (some ⟨g', 0, none⟩) xs.length xs.length)
      clear q0 q1
      obtain ⟨q0, q1⟩ := box2 k3
      refine bodyPost_ret (v := .tuple #[.agg #[.slice (some ⟨g, 0, none⟩) zs.length zs.length, .slice (some ⟨g', 0, none⟩) xs.length xs.length], .int .i64 0]) (by simp [results, Try.results48, go_sem, q0, q1]) rfl ?_
      exact RetTE.yes (by omega) (by omega) (by omega) (by simp; omega) o3 o4 B3 _ (by simp)


end Go.Proofs.Ytphcffcecncngaa
