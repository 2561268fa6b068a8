/- The walks of the small functions of the statements on dense layers. -/
import Derived.Test.YthcdjdhnjbdfeaaDense4
import Derived.Test.YthcdjdhnjbdfeaaPush
namespace Go.Proofs.Ythcdjdhnjbdfeaa
open Go.RowKit

set_option maxHeartbeats 1000000 in
theorem l06_right (A B : Option Addr) (c d : Nat) (zs xs : List Int) (w : World) (hz : zs.length ≤ 1000000) (h : Rd w A zs) :
    Calls Try.prog 40 #[.agg #[.slice A zs.length c, .slice B xs.length d]] w (RetB w (.bool (tRightB zs xs))) := by
  have k0 := Blk.new w 26 #[.slice A zs.length c, .slice B xs.length d]
  obtain ⟨q0, q1⟩ := box2 k0
  have CR := Lib.hid fun n => calls_same (ref_right A c zs ((w.alloc (.cells #[.slice A zs.length c, .slice B xs.length d] 26)).drewN n) hz ((h.alloc _).drewN n))
  rcases hr : rightB zs with _ | _
  · have HV : Hid (tRightB zs xs = false) := Lib.hid (by simp [tRightB, hr])
    rw [hr] at CR
    clear hr
    go_enter Try.func40, Try.ntmps40
    go_wp2_with fail
    go_quiet ((go_at_call 21; exact Calls.quiet_of_same (CR.out _)))
    go_wp2_with fail
    go_ret
    exact ⟨ret_bool HV.out.symm, below_drewN ((Below.refl _ _).alloc (Nat.le_refl _) _) _⟩
  · have HV : Hid (tRightB zs xs = ((xs.length : Int) == prodL zs)) := Lib.hid (by simp [tRightB, hr]; exact Bool.eq_iff_iff.2 (by simp))
    obtain ⟨_, r4, rin, _⟩ := (rightB_iff zs).1 hr
    have CS := Lib.hid fun n => calls_same (ref_size A c zs ((w.alloc (.cells #[.slice A zs.length c, .slice B xs.length d] 26)).drewN n) r4 (Lib.hid rin) ((h.alloc _).drewN n))
    rw [hr] at CR
    clear hr rin
    go_enter Try.func40, Try.ntmps40
    go_wp2_with fail
    go_quiet ((first | (go_at_call 21; exact Calls.quiet_of_same (CR.out _)) | (go_at_call 22; exact Calls.quiet_of_same (CS.out _))))
    go_wp2_with fail
    go_ret
    exact ⟨ret_bool HV.out.symm, below_drewN ((Below.refl _ _).alloc (Nat.le_refl _) _) _⟩

set_option maxHeartbeats 1000000 in
theorem l06_cells (A B : Option Addr) (c d : Nat) (zs xs : List Int) (w : World) (hx : xs.length ≤ 1000000) (h2 : Rd w B xs) :
    Calls Try.prog 38 #[.agg #[.slice A zs.length c, .slice B xs.length d]] w (RetA w 2 xs) := by
  have b1 := (Below.refl w.heap.size w).alloc (Nat.le_refl _) (.cells #[.slice A zs.length c, .slice B xs.length d] 26)
  go_enter Try.func38, Try.ntmps38
  go_wp2_with fail
  go_loopw [3, 9] (fun v i wr => ∃ (k : Nat) (A' : Option Addr) (c' : Nat), k ≤ xs.length ∧ i = .int .i64 k ∧ v = .slice A' (xs.take k).length c' ∧ OwnA wr w.heap.size 2 A' c' (xs.take k) ∧ Below w.heap.size w wr) (fun _ i _ => xs.length - (intOf i).toNat)
  case atStart => exact ⟨0, none, 0, Nat.zero_le _, rfl, rfl, OwnA.nil _ _ _, b1⟩
  case round =>
    obtain ⟨k, A', c', hk, rfl, rfl, hown, hbel⟩ := hrel
    by_cases hlt : k < xs.length
    · obtain ⟨b, off, x, rfl, hbb, hcx, hxk⟩ := (h2.below hbel).get hlt
      have hl : (xs.take k).length ≤ 1000000 := by simp; omega
      go_wp2_with (at_builtin; refine wpList_pushI rfl _ _ _ rfl 2 Try.underlying52 (by kernel_rfl) w.heap.size A' c' (xs.take k) rfl hown x rfl (by omega) hbel.size ?_; intro A3 c3 w3 ho3 hb3 _ _)
      go_roundw
      case rel =>
        rw [← take_at hxk.out] at ho3
        exact ⟨k + 1, A3, c3, by omega, by go_num, by rw [take_at hxk.out]; simp; omega, ho3, hbel.trans hb3⟩
      case measure => simp [intOf]; omega
    · have e : xs.take k = xs := List.take_of_length_le (by omega)
      rw [e] at hown
      rw [e]
      clear e
      go_wp2_with fail
      go_ret
      exact ⟨A', c', rfl, hown, hbel⟩

set_option maxHeartbeats 1000000 in
theorem l06_same (A B C D : Option Addr) (c d c' d' : Nat) (zs xs ts ys : List Int) (w : World) (hz : zs.length ≤ 1000000) (ht : ts.length ≤ 1000000) (hx : xs.length ≤ 1000000) (hy : ys.length ≤ 1000000) (h1 : Rd w A zs) (h2 : Rd w B xs) (h3 : Rd w C ts) (h4 : Rd w D ys) :
    Calls Try.prog 36 #[.agg #[.slice A zs.length c, .slice B xs.length d], .slice C ts.length c', .slice D ys.length d'] w (RetB w (.bool (decide (zs = ts) && decide (xs = ys)))) := by
  have b1 := (Below.refl w.heap.size w).alloc (Nat.le_refl _) (.cells #[.slice A zs.length c, .slice B xs.length d] 26)
  have k1 := Blk.new w 26 #[.slice A zs.length c, .slice B xs.length d]
  by_cases hzt : zs = ts
  · have HE : Hid (decide (zs = ts) = true) := Lib.hid (decide_eq_true hzt)
    have HV : Hid ((decide (zs = ts) && decide (xs = ys)) = decide (xs = ys)) := Lib.hid (by rw [decide_eq_true hzt]; rfl)
    clear hzt
    by_cases hl : xs.length = ys.length
    · have e0 : ((xs.length : Int) != (ys.length : Int)) = false := by simp; omega
      have HL := Lib.hid hl
      clear hl
      go_enter Try.func36, Try.ntmps36
      go_wp2_with fail
      refine (ref_same A C c c' zs ts _ hz ht (h1.below b1) (h3.below b1)).mono ?_
      rintro e w1 ⟨rfl, m, rfl⟩
      rw [HE.out]
      have b2 := below_drewN b1 m
      obtain ⟨q0, q1⟩ := box2 (k1.drewN m)
      go_wp2_with fail
      clear q0 q1
      go_loopw [23] (fun i wr => ∃ k : Nat, k ≤ ys.length ∧ i = .int .i64 k ∧ xs.take k = ys.take k ∧ Blk wr w.heap.size 26 #[.slice A zs.length c, .slice B xs.length d] ∧ Below w.heap.size w wr) (fun i _ => ys.length - (intOf i).toNat)
      case atStart => exact ⟨0, Nat.zero_le _, rfl, rfl, k1.drewN m, b2⟩
      case round =>
        obtain ⟨k, hk, rfl, htk, kr, hbel⟩ := hrel
        have HT := Lib.hid htk
        clear htk
        obtain ⟨q0, q1⟩ := box2 kr
        by_cases hlt : k < ys.length
        · have hltx : k < xs.length := by rw [HL.out]; exact hlt
          obtain ⟨b, off, x, rfl, hb, hcx, hx1⟩ := (h2.below hbel).get hltx
          obtain ⟨b', off', y, rfl, hb', hcy, hy1⟩ := (h4.below hbel).get hlt
          by_cases hxy : x = y
          · have e1 : (x != y) = false := by simp [hxy]
            have HXY := Lib.hid hxy
            clear hxy
            go_wp2_with fail
            go_big_quiet (fail)
            go_wp2_with fail
            go_roundw
            case rel => exact ⟨k + 1, by omega, by go_num, by rw [take_at hx1.out, take_at hy1.out, HT.out, HXY.out], kr.drewN _, below_drewN hbel _⟩
            case measure => simp [intOf]; omega
          · have e1 : (x != y) = true := by simp [hxy]
            have HD : Hid (decide (xs = ys) = false) := Lib.hid (by simpa using ne_at hx1.out hy1.out hxy)
            clear hxy
            go_wp2_with fail
            go_big_quiet (fail)
            go_wp2_with fail
            go_ret
            exact ⟨ret_bool (by rw [HV.out, HD.out]), below_drewN hbel _⟩
        · have HD : Hid (decide (xs = ys) = true) := Lib.hid (by simpa using eq_of_takes HL.out HT.out (by rw [HL.out]; exact hlt))
          go_wp2_with fail
          go_ret
          exact ⟨ret_bool (by rw [HV.out, HD.out]), hbel⟩
    · have e0 : ((xs.length : Int) != (ys.length : Int)) = true := by simp; omega
      have HD : Hid (decide (xs = ys) = false) := Lib.hid (by simp; rintro rfl; exact hl rfl)
      clear hl
      go_enter Try.func36, Try.ntmps36
      go_wp2_with fail
      refine (ref_same A C c c' zs ts _ hz ht (h1.below b1) (h3.below b1)).mono ?_
      rintro e w1 ⟨rfl, m, rfl⟩
      rw [HE.out]
      have b2 := below_drewN b1 m
      obtain ⟨q0, q1⟩ := box2 (k1.drewN m)
      go_wp2_with fail
      go_ret
      exact ⟨ret_bool (by rw [HV.out, HD.out]), b2⟩
  · have HE : Hid (decide (zs = ts) = false) := Lib.hid (decide_eq_false hzt)
    have HV : Hid ((decide (zs = ts) && decide (xs = ys)) = false) := Lib.hid (by rw [decide_eq_false hzt]; rfl)
    clear hzt
    go_enter Try.func36, Try.ntmps36
    go_wp2_with fail
    refine (ref_same A C c c' zs ts _ hz ht (h1.below b1) (h3.below b1)).mono ?_
    rintro e w1 ⟨rfl, m, rfl⟩
    rw [HE.out]
    have b2 := below_drewN b1 m
    go_wp2_with fail
    go_ret
    exact ⟨ret_bool HV.out.symm, b2⟩

def small6B (zs xs ts ys us vs ps gs : List Int) : Bool := decide ((xs.length : Int) ≤ 400) && decide ((ys.length : Int) ≤ 100) && decide ((vs.length : Int) ≤ 100) && decide ((gs.length : Int) ≤ 100) && decide ((zs.length : Int) ≤ 9) && decide ((ts.length : Int) ≤ 9) && decide ((us.length : Int) ≤ 9) && decide ((ps.length : Int) ≤ 9)

set_option maxHeartbeats 2000000 in
theorem l06_small (A B C D E F G H : Option Addr) (c d c' d' e' f' g' h' : Nat) (zs xs ts ys us vs ps gs : List Int) (w : World) :
    Calls Try.prog 32 #[.agg #[.slice A zs.length c, .slice B xs.length d, .slice C ts.length c', .slice D ys.length d', .slice E us.length e', .slice F vs.length f', .slice G ps.length g', .slice H gs.length h']] w (RetB w (.bool (small6B zs xs ts ys us vs ps gs))) := by
  go_enter Try.func32, Try.ntmps32
  go_wp2
  all_goals
    go_ret
    refine ⟨ret_bool ?_, (Below.refl _ _).alloc (Nat.le_refl _) _⟩
    simp_all [small6B]
    try (intros; omega)

/-- A tensor of whole numbers in a shape of the caller's. -/
def RetOf (w : World) (A : Option Addr) (c : Nat) (zs ns : List Int) (e : Ending) (w' : World) : Prop :=
  ∃ B d, e = .returned (.agg #[.slice A zs.length c, .slice B ns.length d]) ∧ OwnA w' w.heap.size 27 B d (ns.map fint) ∧ Below w.heap.size w w'

theorem OwnA.far1 {w : World} {B p i c : Nat} {T : TypeId} {A : Option Addr} {zs : List Int} (h : OwnA w B T A c zs) (hp : ∀ ad, A = some ad → ad.block ≠ p) (v : Value) : OwnA (w.setCell ⟨p, i, none⟩ v) B T A c zs :=
  h.same fun ad e => Below.heap_setCell w ⟨p, i, none⟩ v _ (hp ad e)

set_option maxRecDepth 100000 in
set_option maxHeartbeats 2000000 in
theorem l06_of (A B : Option Addr) (c d : Nat) (zs ns : List Int) (w : World) (hn : ns.length ≤ 1000000) (h : Rd w B ns) :
    Calls Try.prog 62 #[.slice A zs.length c, .slice B ns.length d] w (RetOf w A c zs ns) := by
  have kR := Blk.new w 26 #[.slice none 0 0, .slice none 0 0]
  have kT := Blk.new' (w.alloc (.cells #[.slice none 0 0, .slice none 0 0] 26)) 26 #[.slice A zs.length c, .slice none 0 0] (n := w.heap.size + 1) (by simp)
  go_enter Try.func62, Try.ntmps62
  go_wp2_with fail
  go_loopw [12] (fun i wr => ∃ (k : Nat) (A' : Option Addr) (c' : Nat) (l : List Int), k ≤ ns.length ∧ i = .int .i64 k ∧ Hid (l = (ns.take k).map fint) ∧ l.length = k ∧ OwnA wr w.heap.size 27 A' c' l ∧ Blk wr w.heap.size 26 #[.slice none 0 0, .slice none 0 0] ∧ Blk wr (w.heap.size + 1) 26 #[.slice A zs.length c, .slice A' l.length c'] ∧ Below w.heap.size w wr) (fun i _ => ns.length - (intOf i).toNat)
  case atStart => exact ⟨0, none, 0, [], Nat.zero_le _, rfl, Lib.hid rfl, rfl, OwnA.nil _ _ _, kR.alloc _, kT, bel w _⟩
  case round =>
    obtain ⟨k, A', c', l, hk, rfl, HL, hlk, hown, kr, kt, hbel⟩ := hrel
    have HLK := Lib.hid hlk
    by_cases hlt : k < ns.length
    · obtain ⟨b, off, x, rfl, hbb, hcx, hxk⟩ := (h.below hbel).get hlt
      have CF := Lib.hid (calls_same (fix_int x wr.drew))
      have n1 := Lib.hid (hown.ne_blk kt (by decide))
      have n2 := Lib.hid (hown.ne_blk kr (by decide))
      have hl9 : l.length ≤ 1000000000 := by omega
      clear hlk
      go_wp2_with fail
      refine wp_region_held_drew (S := fun _ => True) (by kernel_rfl) trivial (fun _ => ?_)
      refine gen_drewH (fun wD pwD => ?_)
      have hHeld := trivial
      refine wpAnyH_on (i := 0) (d := 16) (v := ?_) rfl rfl (by kernel_rfl) (by kernel_rfl) (by kernel_rfl) (fun _ _ _ h => h) (by kernel_rfl) (by assumption) ?_ ?_
      rotate_left
      · intro w hSw
        (try dsimp only at hSw)
        go_simp
        try (with_reducible rfl)
      simp only [List.set]
      refine wpAnyH_on (i := 2) (d := 18) (v := ?_) rfl rfl (by kernel_rfl) (by kernel_rfl) (by kernel_rfl) (fun _ _ _ h => h) (by kernel_rfl) (by assumption) ?_ ?_
      rotate_left
      · intro w hSw
        (try dsimp only at hSw)
        go_simp
        try (with_reducible rfl)
      simp only [List.set]
      refine wpAnyH_ready (rs := [1, 3]) (by kernel_rfl) (by simp) ?_
      refine AllReadyH.cons rfl (fun K hK => ?_) (AllReadyH.cons rfl (fun K hK => ?_) AllReadyH.nil)
      · first | have q1 := (box2 (kt.at (w' := wU))).2 | have q1 := (box2 (kt.at (w' := wF))).2 | have q1 := (box2 (kt.at (w' := wD))).2
        go_simp
        refine hK.out _ _ trivial (fun hHeld => ?_)
        clear hK K
        try dsimp only [Act.put, List.setIfInBounds_toArray, List.set_cons_zero, List.set_cons_succ]
        clear q1
        refine wpAnyH_ready (rs := [3]) (by kernel_rfl) (by simp) ?_
        refine AllReadyH.cons rfl (fun K hK => ?_) AllReadyH.nil
        go_simp
        refine (retB_same (fix_int x _)).mono ?_
        rintro e wF ⟨rfl, hb⟩
        dsimp only
        have pwF := Prev.mk hb
        clear hb
        refine hK.out _ _ trivial (fun hHeld => ?_)
        clear hK K
        try dsimp only [Act.put, List.setIfInBounds_toArray, List.set_cons_zero, List.set_cons_succ]
        refine wpAnyH_ready (rs := [4]) (by kernel_rfl) (by simp) ?_
        refine AllReadyH.cons rfl (fun K hK => ?_) AllReadyH.nil
        go_simp
        refine hK.out _ _ trivial (fun _ => ?_)
        clear hK K
        try dsimp only [Act.put, List.setIfInBounds_toArray, List.set_cons_zero, List.set_cons_succ]
        refine gen_allocH (fun wU pwU kwU zwU => ?_)
        have hHeld := trivial
        refine wpAnyH_ready (rs := [5]) (by kernel_rfl) (by simp) ?_
        refine AllReadyH.cons rfl (fun K hK => ?_) AllReadyH.nil
        refine step_pushI (by kernel_rfl) _ _ _ rfl 27 Try.underlying24 (by kernel_rfl) (w.heap.size) A' c' l rfl hown.at ⟨wF.heap.size, 0, none⟩ (fint x) rfl (kwU.cell 0) hl9 (btr hbel (bel wr wU)).size ?_
        intro A3 c3 w3 ho3 hb3 hot hs3
        refine hK.out _ _ trivial (fun hHeld => ?_)
        clear hK K
        try dsimp only [Act.put, List.setIfInBounds_toArray, List.set_cons_zero, List.set_cons_succ]
        have kt3 : Blk w3 (w.heap.size + 1) 26 #[.slice A zs.length c, .slice A' l.length c'] := (hot _ (kt.at (w' := wU)).lt n1.out).trans (kt.at (w' := wU))
        have kr3 : Blk w3 w.heap.size 26 #[.slice none 0 0, .slice none 0 0] := (hot _ (kr.at (w' := wU)).lt n2.out).trans (kr.at (w' := wU))
        have q1 := (box2 kt3).2
        have f1 := kt3.frozen 1
        have b3 := (btr hbel (bel wr wU)).trans hb3
        clear hot
        refine wpAnyH_on (i := 6) (d := 22) (v := ?_) rfl rfl (by kernel_rfl) (by kernel_rfl) (by kernel_rfl) (fun _ _ _ h => h) (by kernel_rfl) (by assumption) ?_ ?_
        rotate_left
        · intro w hSw
          (try dsimp only at hSw)
          go_simp
          try (with_reducible rfl)
        simp only [List.set]
        refine wpAnyH_ready (rs := [7]) (by kernel_rfl) (by simp) ?_
        refine AllReadyH.cons rfl (fun K hK => ?_) AllReadyH.nil
        skip
        go_simp
        refine hK.out _ _ trivial (fun hHeld => ?_)
        clear hK K
        try dsimp only [Act.put, List.setIfInBounds_toArray, List.set_cons_zero, List.set_cons_succ]
        refine wpAnyH_done (by kernel_rfl) ?_ _
        go_wp2_with fail
        have n3 := ho3.ne_blk kt3 (by decide)
        go_roundw
        case rel =>
          refine ⟨k + 1, A3, c3, l ++ [fint x], by omega, by go_num, Lib.hid (by rw [HL.out, take_at hxk.out]; simp), by simp [HLK.out], ho3.far1 n3 _, kr3.far (by simp) _, ?_, b3.setCell (by show w.heap.size ≤ w.heap.size + 1; omega) _⟩
          have := kt3.set_ 1 (.slice A3 (l.length + 1) c3)
          simpa using this
        case measure => simp [intOf]; omega
      · go_simp
        refine (retB_same (fix_int x _)).mono ?_
        rintro e wF ⟨rfl, hb⟩
        dsimp only
        have pwF := Prev.mk hb
        clear hb
        refine hK.out _ _ trivial (fun hHeld => ?_)
        clear hK K
        try dsimp only [Act.put, List.setIfInBounds_toArray, List.set_cons_zero, List.set_cons_succ]
        refine wpAnyH_ready (rs := [1, 4]) (by kernel_rfl) (by simp) ?_
        refine AllReadyH.cons rfl (fun K hK => ?_) (AllReadyH.cons rfl (fun K hK => ?_) AllReadyH.nil)
        · first | have q1 := (box2 (kt.at (w' := wU))).2 | have q1 := (box2 (kt.at (w' := wF))).2 | have q1 := (box2 (kt.at (w' := wD))).2
          go_simp
          refine hK.out _ _ trivial (fun hHeld => ?_)
          clear hK K
          try dsimp only [Act.put, List.setIfInBounds_toArray, List.set_cons_zero, List.set_cons_succ]
          clear q1
          refine wpAnyH_ready (rs := [4]) (by kernel_rfl) (by simp) ?_
          refine AllReadyH.cons rfl (fun K hK => ?_) AllReadyH.nil
          go_simp
          refine hK.out _ _ trivial (fun _ => ?_)
          clear hK K
          try dsimp only [Act.put, List.setIfInBounds_toArray, List.set_cons_zero, List.set_cons_succ]
          refine gen_allocH (fun wU pwU kwU zwU => ?_)
          have hHeld := trivial
          refine wpAnyH_ready (rs := [5]) (by kernel_rfl) (by simp) ?_
          refine AllReadyH.cons rfl (fun K hK => ?_) AllReadyH.nil
          refine step_pushI (by kernel_rfl) _ _ _ rfl 27 Try.underlying24 (by kernel_rfl) (w.heap.size) A' c' l rfl hown.at ⟨wF.heap.size, 0, none⟩ (fint x) rfl (kwU.cell 0) hl9 (btr hbel (bel wr wU)).size ?_
          intro A3 c3 w3 ho3 hb3 hot hs3
          refine hK.out _ _ trivial (fun hHeld => ?_)
          clear hK K
          try dsimp only [Act.put, List.setIfInBounds_toArray, List.set_cons_zero, List.set_cons_succ]
          have kt3 : Blk w3 (w.heap.size + 1) 26 #[.slice A zs.length c, .slice A' l.length c'] := (hot _ (kt.at (w' := wU)).lt n1.out).trans (kt.at (w' := wU))
          have kr3 : Blk w3 w.heap.size 26 #[.slice none 0 0, .slice none 0 0] := (hot _ (kr.at (w' := wU)).lt n2.out).trans (kr.at (w' := wU))
          have q1 := (box2 kt3).2
          have f1 := kt3.frozen 1
          have b3 := (btr hbel (bel wr wU)).trans hb3
          clear hot
          refine wpAnyH_on (i := 6) (d := 22) (v := ?_) rfl rfl (by kernel_rfl) (by kernel_rfl) (by kernel_rfl) (fun _ _ _ h => h) (by kernel_rfl) (by assumption) ?_ ?_
          rotate_left
          · intro w hSw
            (try dsimp only at hSw)
            go_simp
            try (with_reducible rfl)
          simp only [List.set]
          refine wpAnyH_ready (rs := [7]) (by kernel_rfl) (by simp) ?_
          refine AllReadyH.cons rfl (fun K hK => ?_) AllReadyH.nil
          skip
          go_simp
          refine hK.out _ _ trivial (fun hHeld => ?_)
          clear hK K
          try dsimp only [Act.put, List.setIfInBounds_toArray, List.set_cons_zero, List.set_cons_succ]
          refine wpAnyH_done (by kernel_rfl) ?_ _
          go_wp2_with fail
          have n3 := ho3.ne_blk kt3 (by decide)
          go_roundw
          case rel =>
            refine ⟨k + 1, A3, c3, l ++ [fint x], by omega, by go_num, Lib.hid (by rw [HL.out, take_at hxk.out]; simp), by simp [HLK.out], ho3.far1 n3 _, kr3.far (by simp) _, ?_, b3.setCell (by show w.heap.size ≤ w.heap.size + 1; omega) _⟩
            have := kt3.set_ 1 (.slice A3 (l.length + 1) c3)
            simpa using this
          case measure => simp [intOf]; omega
        · go_simp
          refine hK.out _ _ trivial (fun _ => ?_)
          clear hK K
          try dsimp only [Act.put, List.setIfInBounds_toArray, List.set_cons_zero, List.set_cons_succ]
          refine gen_allocH (fun wU pwU kwU zwU => ?_)
          have hHeld := trivial
          refine wpAnyH_ready (rs := [1]) (by kernel_rfl) (by simp) ?_
          refine AllReadyH.cons rfl (fun K hK => ?_) AllReadyH.nil
          first | have q1 := (box2 (kt.at (w' := wU))).2 | have q1 := (box2 (kt.at (w' := wF))).2 | have q1 := (box2 (kt.at (w' := wD))).2
          go_simp
          refine hK.out _ _ trivial (fun hHeld => ?_)
          clear hK K
          try dsimp only [Act.put, List.setIfInBounds_toArray, List.set_cons_zero, List.set_cons_succ]
          clear q1
          refine wpAnyH_ready (rs := [5]) (by kernel_rfl) (by simp) ?_
          refine AllReadyH.cons rfl (fun K hK => ?_) AllReadyH.nil
          refine step_pushI (by kernel_rfl) _ _ _ rfl 27 Try.underlying24 (by kernel_rfl) (w.heap.size) A' c' l rfl hown.at ⟨wF.heap.size, 0, none⟩ (fint x) rfl (kwU.cell 0) hl9 (btr hbel (bel wr wU)).size ?_
          intro A3 c3 w3 ho3 hb3 hot hs3
          refine hK.out _ _ trivial (fun hHeld => ?_)
          clear hK K
          try dsimp only [Act.put, List.setIfInBounds_toArray, List.set_cons_zero, List.set_cons_succ]
          have kt3 : Blk w3 (w.heap.size + 1) 26 #[.slice A zs.length c, .slice A' l.length c'] := (hot _ (kt.at (w' := wU)).lt n1.out).trans (kt.at (w' := wU))
          have kr3 : Blk w3 w.heap.size 26 #[.slice none 0 0, .slice none 0 0] := (hot _ (kr.at (w' := wU)).lt n2.out).trans (kr.at (w' := wU))
          have q1 := (box2 kt3).2
          have f1 := kt3.frozen 1
          have b3 := (btr hbel (bel wr wU)).trans hb3
          clear hot
          refine wpAnyH_on (i := 6) (d := 22) (v := ?_) rfl rfl (by kernel_rfl) (by kernel_rfl) (by kernel_rfl) (fun _ _ _ h => h) (by kernel_rfl) (by assumption) ?_ ?_
          rotate_left
          · intro w hSw
            (try dsimp only at hSw)
            go_simp
            try (with_reducible rfl)
          simp only [List.set]
          refine wpAnyH_ready (rs := [7]) (by kernel_rfl) (by simp) ?_
          refine AllReadyH.cons rfl (fun K hK => ?_) AllReadyH.nil
          skip
          go_simp
          refine hK.out _ _ trivial (fun hHeld => ?_)
          clear hK K
          try dsimp only [Act.put, List.setIfInBounds_toArray, List.set_cons_zero, List.set_cons_succ]
          refine wpAnyH_done (by kernel_rfl) ?_ _
          go_wp2_with fail
          have n3 := ho3.ne_blk kt3 (by decide)
          go_roundw
          case rel =>
            refine ⟨k + 1, A3, c3, l ++ [fint x], by omega, by go_num, Lib.hid (by rw [HL.out, take_at hxk.out]; simp), by simp [HLK.out], ho3.far1 n3 _, kr3.far (by simp) _, ?_, b3.setCell (by show w.heap.size ≤ w.heap.size + 1; omega) _⟩
            have := kt3.set_ 1 (.slice A3 (l.length + 1) c3)
            simpa using this
          case measure => simp [intOf]; omega
    · have HE : Hid (l = ns.map fint) := Lib.hid (by rw [HL.out, List.take_of_length_le (by omega)])
      obtain ⟨p0, p1⟩ := box2 kt
      obtain ⟨q0, q1⟩ := box2 kr
      have f0 := kr.frozen 0
      have f1 := kr.frozen 1
      have n1 := hown.ne_blk kr (by decide)
      have HN : Hid (l.length = ns.length) := Lib.hid (by rw [HE.out, List.length_map])
      clear hlk
      go_wp2_with fail
      have k3 := kr.set2 (.slice A zs.length c) (.slice A' l.length c')
      have B3 := bset2 hbel (p := w.heap.size) (by omega) (.slice A zs.length c) (.slice A' l.length c')
      have o3 := hown.far2 n1 (.slice A zs.length c) (.slice A' l.length c')
      clear q0 q1
      obtain ⟨q0, q1⟩ := box2 k3
      refine bodyPost_ret (v := .agg #[.slice A zs.length c, .slice A' l.length c']) (by simp [results, Try.results62, go_sem, q0, q1]) rfl ?_
      exact ⟨A', c', by rw [HN.out], HE.out ▸ o3, B3⟩

end Go.Proofs.Ythcdjdhnjbdfeaa
