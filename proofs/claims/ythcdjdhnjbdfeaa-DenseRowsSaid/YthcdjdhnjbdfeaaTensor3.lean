/- The walks of package tensor: same, Equal, Get, With. -/
import Derived.Test.YthcdjdhnjbdfeaaTensor2
import Derived.Recover
import Derived.Defers
namespace Go.Proofs.Ythcdjdhnjbdfeaa
open Go.RowKit

theorem t_catch (p : Addr) (w : World) :
    CallsD Try.prog 74 #[.pointer (some p)] .returning w fun e u' w' => e = .returned (.tuple #[]) ∧ u' = .returning ∧ w' = w := by
  refine callsD_of_wpS Try.func74 rfl fun c₀ cs hu => ?_
  apply wpS_seq
  apply wpS_region
  simp [wpOpsS, go_sem, recoverD, hu, Try.ntmps74, Exit.thenS]
  refine wpS_cond (t := false) (by simp [Act.eval, Array.replicate]) ?_
  simp only [Bool.false_eq_true, if_false]
  refine wpS_of_wp (wp_skip ?_)
  cases c₀
  simp_all [bodyPostS, results, Try.results74]

set_option maxHeartbeats 1000000 in
theorem t_same (A B : Option Addr) (c d : Nat) (xs ys : List Int) (w : World) (hx : xs.length ≤ 1000000) (hl : Hid (xs.length = ys.length)) (h : Rd w A xs) (h' : Rd w B ys) :
    Calls Try.prog 57 #[.slice A xs.length c, .slice B ys.length d] w (RetB w (.bool (decide (xs = ys)))) := by
  have hmf : ∀ (fn : Fn) (first cap : Array Value) (w : World), (Instr.makeFunc fn first cap).run Try.prog w = .ok (.func fn first cap) w := fun _ _ _ _ => rfl
  have B0 := (Below.refl w.heap.size w).alloc (Nat.le_refl _) (.cells #[.bool false] 4)
  have g := h.below B0
  have g' := h'.below B0
  go_enter_defers Try.func57, Try.ntmps57
  go_wp2_with fail
  go_loop [10] (fun i => ∃ k : Nat, k ≤ xs.length ∧ i = .int .i64 k ∧ xs.take k = ys.take k) (fun i => xs.length - (intOf i).toNat)
  case atStart => exact ⟨0, Nat.zero_le _, rfl, rfl⟩
  case round =>
    obtain ⟨k, hk, rfl, htk⟩ := hrel
    have HT := Lib.hid htk
    clear htk
    by_cases hlt : k < xs.length
    · obtain ⟨b, off, x, rfl, hb, hcx, hx1⟩ := g.get hlt
      have hlt' : k < ys.length := by rw [← hl.out]; exact hlt
      obtain ⟨b', off', y, rfl, hb', hcy, hy1⟩ := g'.get hlt'
      by_cases hxy : x = y
      · have e1 : (x != y) = false := by simp [hxy]
        have HXY := Lib.hid hxy
        clear hxy
        go_wp2_with fail
        go_round
        case rel => exact ⟨k + 1, by omega, by go_num, by rw [take_at hx1.out, take_at hy1.out, HT.out, HXY.out]⟩
        case measure => simp [intOf]; omega
      · have e1 : (x != y) = true := by simp [hxy]
        have HD : Hid (decide (xs = ys) = false) := Lib.hid (by simpa using ne_at hx1.out hy1.out hxy)
        clear hxy
        go_wp2_with fail
        refine leaves_cons (f := 74) (args := #[.pointer (some ⟨w.heap.size, 0, none⟩)]) (by simp) (by simp [go_sem]) ?_
        refine (t_catch ⟨w.heap.size, 0, none⟩ _).mono ?_
        rintro e u' w'' ⟨rfl, rfl, rfl⟩
        rw [HD.out]
        simp [Leaves, settle, results, Try.results57, go_sem]
        exact ⟨rfl, (Below.refl _ _).alloc (Nat.le_refl _) _⟩
    · have HD : Hid (decide (xs = ys) = true) := Lib.hid (by simpa using eq_of_takes hl.out HT.out hlt)
      go_wp2_with fail
      refine leaves_cons (f := 74) (args := #[.pointer (some ⟨w.heap.size, 0, none⟩)]) (by simp) (by simp [go_sem]) ?_
      refine (t_catch ⟨w.heap.size, 0, none⟩ _).mono ?_
      rintro e u' w'' ⟨rfl, rfl, rfl⟩
      rw [HD.out]
      simp [Leaves, settle, results, Try.results57, go_sem]
      exact ⟨rfl, (Below.refl _ _).alloc (Nat.le_refl _) _⟩

set_option maxRecDepth 100000 in
set_option maxHeartbeats 1000000 in
theorem t_equal (A B C D : Option Addr) (c d c' d' : Nat) (zs xs ts ys : List Int) (w : World) (hz : zs.length ≤ 1000000) (hx : xs.length ≤ 1000000) (ht : ts.length ≤ 1000000)
    (h1 : Rd w A zs) (h2 : Rd w B xs) (h3 : Rd w C ts) (h4 : Rd w D ys) :
    Calls Try.prog 20 #[.agg #[.slice A zs.length c, .slice B xs.length d], .agg #[.slice C ts.length c', .slice D ys.length d']] w (RetB w (.bool (decide (zs = ts) && decide (xs = ys)))) := by
  have B0 := ((Below.refl w.heap.size w).alloc (Nat.le_refl _) (.cells #[.slice A zs.length c, .slice B xs.length d] 26)).alloc (by simp) (.cells #[.slice C ts.length c', .slice D ys.length d'] 26)
  have k0 := (Blk.new w 26 #[.slice A zs.length c, .slice B xs.length d]).alloc (.cells #[.slice C ts.length c', .slice D ys.length d'] 26)
  have k0' := Blk.new' (w.alloc (.cells #[.slice A zs.length c, .slice B xs.length d] 26)) 26 #[.slice C ts.length c', .slice D ys.length d'] (n := w.heap.size + 1) (by simp)
  by_cases hzt : zs = ts
  · have HZT : Hid (decide (zs = ts) = true) := Lib.hid (by simpa using hzt)
    clear hzt
    by_cases hl : xs.length = ys.length
    · have HL := Lib.hid hl
      have e1 : ((xs.length : Int) == (ys.length : Int)) = true := by simp; omega
      have HV : Hid ((decide (zs = ts) && decide (xs = ys)) = decide (xs = ys)) := Lib.hid (by rw [HZT.out]; simp)
      clear hl
      go_enter Try.func20, Try.ntmps20
      go_wp2_with fail
      refine (sh_equal A C c c' zs ts _ hz ht (h1.below B0) (h3.below B0)).mono ?_
      rintro e w1 ⟨rfl, n, rfl⟩
      rw [HZT.out]
      obtain ⟨p0, p1⟩ := box2 (k0.drewN n)
      obtain ⟨q0, q1⟩ := box2 (k0'.drewN n)
      go_wp2_with fail
      refine (t_same B D d d' xs ys _ hx HL ((h2.below B0).drewN n) ((h4.below B0).drewN n)).mono ?_
      rintro e w2 ⟨rfl, hb⟩
      go_wp2_with fail
      go_ret
      exact ⟨ret_bool HV.out.symm, btr B0 (undrewN hb)⟩
    · have e1 : ((xs.length : Int) == (ys.length : Int)) = false := by simp; omega
      have HV : Hid ((decide (zs = ts) && decide (xs = ys)) = false) := Lib.hid (by simp; intro _ e; exact hl (by rw [e]))
      clear hl
      go_enter Try.func20, Try.ntmps20
      go_wp2_with fail
      refine (sh_equal A C c c' zs ts _ hz ht (h1.below B0) (h3.below B0)).mono ?_
      rintro e w1 ⟨rfl, n, rfl⟩
      rw [HZT.out]
      obtain ⟨p0, p1⟩ := box2 (k0.drewN n)
      obtain ⟨q0, q1⟩ := box2 (k0'.drewN n)
      go_wp2_with fail
      go_ret
      exact ⟨ret_bool HV.out.symm, below_drewN B0 n⟩
  · have HZT : Hid (decide (zs = ts) = false) := Lib.hid (by simpa using hzt)
    have HV : Hid ((decide (zs = ts) && decide (xs = ys)) = false) := Lib.hid (by rw [HZT.out]; rfl)
    clear hzt
    go_enter Try.func20, Try.ntmps20
    go_wp2_with fail
    refine (sh_equal A C c c' zs ts _ hz ht (h1.below B0) (h3.below B0)).mono ?_
    rintro e w1 ⟨rfl, n, rfl⟩
    rw [HZT.out]
    go_wp2_with fail
    go_ret
    exact ⟨ret_bool HV.out.symm, below_drewN B0 n⟩

def getE (zs xs ats : List Int) : Int := if tRightB zs xs then placeE zs ats else 20
def getV (zs xs ats : List Int) : Int := if getE zs xs ats = 0 then xs.getD (placeV zs ats).toNat 0 else 0
theorem placeV_in {zs xs ats : List Int} (hr : tRightB zs xs = true) (hp : placeE zs ats = 0) : ∃ n : Nat, placeV zs ats = (n : Int) ∧ n < xs.length := by
  obtain ⟨hrz, hl⟩ := (tRightB_iff _ _).1 hr
  obtain ⟨_, h4, hin, _⟩ := (rightB_iff zs).1 hrz
  have hg : (decide (ats.length = zs.length) && inPlace (zs.zip ats)) = true := by
    unfold placeE at hp
    rw [if_pos hrz] at hp
    split at hp
    · assumption
    · cases hp
  have hv : placeV zs ats = placeOf (zs.zip ats) := by
    unfold placeV
    rw [if_pos (by rw [hrz, Bool.true_and]; exact hg)]
  simp only [Bool.and_eq_true, decide_eq_true_eq] at hg
  have hb := placeOf_bd zs ats hg.2 zs.length (Nat.le_refl _) hg.1.symm
  rw [List.take_of_length_le (by simp; omega), List.take_of_length_le (Nat.le_refl _)] at hb
  exact ⟨(placeOf (zs.zip ats)).toNat, by rw [hv]; omega, by omega⟩

set_option maxRecDepth 100000 in
set_option maxHeartbeats 1000000 in
theorem t_get (A B C : Option Addr) (c d c' : Nat) (zs xs ats : List Int) (w : World) (hz : zs.length ≤ 1000000) (_hx : xs.length ≤ 1000000) (ha : ats.length ≤ 1000000) (h1 : Rd w A zs) (h2 : Rd w B xs) (h3 : Rd w C ats) :
    Calls Try.prog 24 #[.agg #[.slice A zs.length c, .slice B xs.length d], .slice C ats.length c'] w (RetB w (.tuple #[.int .i64 (getV zs xs ats), .int .i64 (getE zs xs ats)])) := by
  have B0 := (Below.refl w.heap.size w).alloc (Nat.le_refl _) (.cells #[.slice A zs.length c, .slice B xs.length d] 26)
  have k0 := Blk.new w 26 #[.slice A zs.length c, .slice B xs.length d]
  rcases hr : tRightB zs xs with _ | _
  · have HE : Hid (getE zs xs ats = 20) := Lib.hid (by simp [getE, hr])
    have HV : Hid (getV zs xs ats = 0) := Lib.hid (by simp [getV, HE.out])
    have HR := Lib.hid hr
    clear hr
    go_enter Try.func24, Try.ntmps24
    go_wp2_with fail
    refine (t_right A B c d zs xs _ hz (h1.below B0)).mono ?_
    rintro e w1 ⟨rfl, hb⟩
    rw [HR.out]
    go_wp2_with fail
    go_ret2
    exact ⟨by rw [HE.out, HV.out]; rfl, btr B0 hb⟩
  · have HR := Lib.hid hr
    by_cases hp : placeE zs ats = 0
    · obtain ⟨n, hn, hlt⟩ := placeV_in hr hp
      have HN := Lib.hid hn
      have HP := Lib.hid hp
      have HE : Hid (getE zs xs ats = 0) := Lib.hid (by simp [getE, hr, hp])
      obtain ⟨b, off, x, rfl, _, _, hx1⟩ := h2.get hlt
      have HV : Hid (getV zs xs ats = x) := Lib.hid (by simp [getV, HE.out, hn, List.getD, hx1.out])
      clear hr hp hn
      go_enter Try.func24, Try.ntmps24
      go_wp2_with fail
      refine (t_right A _ c d zs xs _ hz (h1.below B0)).mono ?_
      rintro e w1 ⟨rfl, hb⟩
      rw [HR.out]
      have k1 := k0.keep hb
      have B1 := btr B0 hb
      obtain ⟨p0, p1⟩ := box2 k1
      go_wp2_with fail
      refine (sh_place A C c c' zs ats _ hz ha (h1.below B1) (h3.below B1)).mono ?_
      rintro e w2 ⟨rfl, hb2⟩
      rw [HP.out, HN.out]
      clear p0 p1
      have B2 := btr B1 hb2
      obtain ⟨p0, p1⟩ := box2 (k1.keep hb2)
      have hcx := (h2.below B2).all hx1.out
      go_wp2_with fail
      go_ret2
      exact ⟨by rw [HE.out, HV.out]; rfl, B2⟩
    · have HE : Hid (getE zs xs ats = placeE zs ats) := Lib.hid (by simp [getE, hr])
      have HV : Hid (getV zs xs ats = 0) := Lib.hid (by simp [getV, HE.out, hp])
      have e1 : (placeE zs ats != 0) = true := by simpa using hp
      clear hr hp
      go_enter Try.func24, Try.ntmps24
      go_wp2_with fail
      refine (t_right A _ c d zs xs _ hz (h1.below B0)).mono ?_
      rintro e w1 ⟨rfl, hb⟩
      rw [HR.out]
      have k1 := k0.keep hb
      have B1 := btr B0 hb
      obtain ⟨p0, p1⟩ := box2 k1
      go_wp2_with fail
      refine (sh_place A C c c' zs ats _ hz ha (h1.below B1) (h3.below B1)).mono ?_
      rintro e w2 ⟨rfl, hb2⟩
      have B2 := btr B1 hb2
      go_wp2_with fail
      go_ret2
      exact ⟨by rw [HE.out, HV.out]; rfl, B2⟩

set_option maxRecDepth 100000 in
set_option maxHeartbeats 2000000 in
theorem t_with (A B C : Option Addr) (c d c' : Nat) (zs xs ats : List Int) (v : Int) (w : World) (hz : zs.length ≤ 1000000) (hx : xs.length ≤ 1000000) (ha : ats.length ≤ 1000000) (h1 : Rd w A zs) (h2 : Rd w B xs) (h3 : Rd w C ats) :
    Calls Try.prog 25 #[.agg #[.slice A zs.length c, .slice B xs.length d], .int .i64 v, .slice C ats.length c'] w
      (RetTE w (if getE zs xs ats = 0 then zs else []) (if getE zs xs ats = 0 then xs.set (placeV zs ats).toNat v else []) (getE zs xs ats)) := by
  have B0 := ((Below.refl w.heap.size w).alloc (Nat.le_refl _) (.cells #[.slice A zs.length c, .slice B xs.length d] 26)).alloc (by simp) (.cells #[.slice none 0 0, .slice none 0 0] 26)
  have k0 := (Blk.new w 26 #[.slice A zs.length c, .slice B xs.length d]).alloc (.cells #[.slice none 0 0, .slice none 0 0] 26)
  have k0' := Blk.new' (w.alloc (.cells #[.slice A zs.length c, .slice B xs.length d] 26)) 26 #[.slice none 0 0, .slice none 0 0] (n := w.heap.size + 1) (by simp)
  rcases hr : tRightB zs xs with _ | _
  · have HE : Hid (getE zs xs ats = 20) := Lib.hid (by simp [getE, hr])
    have HR := Lib.hid hr
    rw [HE.out, if_neg (by decide), if_neg (by decide)]
    clear hr
    go_enter Try.func25, Try.ntmps25
    go_wp2_with fail
    refine (t_right A B c d zs xs _ hz (h1.below B0)).mono ?_
    rintro e w1 ⟨rfl, hb⟩
    rw [HR.out]
    have k1 := k0'.keep hb
    have B1 := btr B0 hb
    obtain ⟨q0, q1⟩ := box2 k1
    have f0 := k1.frozen 0
    have f1 := k1.frozen 1
    go_wp2_with fail
    have k3 := k1.set2 (.slice none 0 0) (.slice none 0 0)
    have B3 := bset2 B1 (Nat.le_succ _) (.slice none 0 0) (.slice none 0 0)
    clear q0 q1
    obtain ⟨q0, q1⟩ := box2 k3
    refine bodyPost_ret (v := .tuple #[.agg #[.slice none 0 0, .slice none 0 0], .int .i64 20]) (by simp [results, Try.results25, go_sem, q0, q1]) rfl ?_
    exact RetTE.no rfl rfl B3 _ rfl
  · have HR := Lib.hid hr
    by_cases hp : placeE zs ats = 0
    · obtain ⟨n, hn, hlt⟩ := placeV_in hr hp
      have HN := Lib.hid hn
      have HP := Lib.hid hp
      have HE : Hid (getE zs xs ats = 0) := Lib.hid (by simp [getE, hr, hp])
      rw [HE.out, if_pos rfl, if_pos rfl, HN.out, Int.toNat_natCast]
      clear hr hp hn
      go_enter Try.func25, Try.ntmps25
      go_wp2_with fail
      refine (t_right A B c d zs xs _ hz (h1.below B0)).mono ?_
      rintro e w1 ⟨rfl, hb⟩
      rw [HR.out]
      have k1 := k0.keep hb
      have B1 := btr B0 hb
      obtain ⟨p0, p1⟩ := box2 k1
      go_wp2_with fail
      refine (sh_place A C c c' zs ats _ hz ha (h1.below B1) (h3.below B1)).mono ?_
      rintro e w2 ⟨rfl, hb2⟩
      rw [HP.out, HN.out]
      clear p0 p1
      have k2 := k1.keep hb2
      have k2' := (k0'.keep hb).keep hb2
      have B2 := btr B1 hb2
      obtain ⟨p0, p1⟩ := box2 k2
      clear k0 k0' k1
      go_wp2_with fail
      refine (t_copy A B c d zs xs _ hz hx (h1.below B2) (h2.below B2)).mono ?_
      rintro e w3 ⟨g, g', rfl, hg, hg', ho, ho', hb3⟩
      have B3 := btr B2 hb3
      have k3' := (k2'.keep hb3).alloc (.cells #[.slice (some ⟨g, 0, none⟩) zs.length zs.length, .slice (some ⟨g', 0, none⟩) xs.length xs.length] 26)
      have o3 := ho.alloc (.cells #[.slice (some ⟨g, 0, none⟩) zs.length zs.length, .slice (some ⟨g', 0, none⟩) xs.length xs.length] 26)
      have o3' := ho'.alloc (.cells #[.slice (some ⟨g, 0, none⟩) zs.length zs.length, .slice (some ⟨g', 0, none⟩) xs.length xs.length] 26)
      have B4 := B3.alloc B3.size (.cells #[.slice (some ⟨g, 0, none⟩) zs.length zs.length, .slice (some ⟨g', 0, none⟩) xs.length xs.length] 26)
      have m3 := Blk.new w3 26 #[.slice (some ⟨g, 0, none⟩) zs.length zs.length, .slice (some ⟨g', 0, none⟩) xs.length xs.length]
      clear p0 p1 k2 k2'
      obtain ⟨y, hy⟩ : ∃ y, Hid (xs[n]? = some y) := ⟨_, Lib.hid (List.getElem?_eq_getElem hlt)⟩
      have hcy := o3'.cell hy.out
      have hfy := o3'.frozen n
      have O4 := Lib.hid (o3'.set_ n v)
      have O4' := Lib.hid (o3.far (p := ⟨g', n, none⟩) (o3.ne_blk (cs := ints xs) (T' := 27) o3' (by decide)) (.int .i64 v))
      have k4' := k3'.far (p := ⟨g', n, none⟩) (o3'.ne_blk k3' (by decide)).symm (.int .i64 v)
      have m4 := m3.far (p := ⟨g', n, none⟩) (o3'.ne_blk m3 (by decide)).symm (.int .i64 v)
      have B5 := B4.setCell (p := ⟨g', n, none⟩) (by have := B2.size; show w.heap.size ≤ g'; omega) (.int .i64 v)
      obtain ⟨p0, p1⟩ := box2 m4
      obtain ⟨q0, q1⟩ := box2 k4'
      have f0 := k4'.frozen 0
      have f1 := k4'.frozen 1
      have hsz2 := B2.size
      go_wp2_with fail
      have n1 := O4'.out.ne_blk k4' (by decide)
      have n2 := O4.out.ne_blk k4' (by decide)
      have k3 := k4'.set2 (.slice (some ⟨g, 0, none⟩) zs.length zs.length) (.slice (some ⟨g', 0, none⟩) xs.length xs.length)
      have B6 := bset2 B5 (Nat.le_succ _) (.slice (some ⟨g, 0, none⟩) zs.length zs.length) (.slice (some ⟨g', 0, none⟩) xs.length xs.length)
      have o5 := O4'.out.far2 n1 (.slice (some ⟨g, 0, none⟩) zs.length zs.length) (.slice (some ⟨g', 0, none⟩) xs.length xs.length)
      have o6 := O4.out.far2 n2 (.slice (some ⟨g, 0, none⟩) zs.length zs.length) (.slice (some ⟨g', 0, none⟩) xs.length xs.length)
      clear q0 q1
      obtain ⟨q0, q1⟩ := box2 k3
      refine bodyPost_ret (v := .tuple #[.agg #[.slice (some ⟨g, 0, none⟩) zs.length zs.length, .slice (some ⟨g', 0, none⟩) xs.length xs.length], .int .i64 0]) (by simp [results, Try.results25, go_sem, q0, q1]) rfl ?_
      exact RetTE.yes (by omega) (by omega) hz (by simp; omega) o5 o6 B6 _ (by simp)
    · have HE : Hid (getE zs xs ats = placeE zs ats) := Lib.hid (by simp [getE, hr])
      rw [HE.out, if_neg hp, if_neg hp]
      have e1 : (placeE zs ats != 0) = true := by simpa using hp
      clear hr hp
      go_enter Try.func25, Try.ntmps25
      go_wp2_with fail
      refine (t_right A _ c d zs xs _ hz (h1.below B0)).mono ?_
      rintro e w1 ⟨rfl, hb⟩
      rw [HR.out]
      have k1 := k0.keep hb
      have B1 := btr B0 hb
      obtain ⟨p0, p1⟩ := box2 k1
      go_wp2_with fail
      refine (sh_place A C c c' zs ats _ hz ha (h1.below B1) (h3.below B1)).mono ?_
      rintro e w2 ⟨rfl, hb2⟩
      have B2 := btr B1 hb2
      have k2 := (k0'.keep hb).keep hb2
      clear p0 p1
      obtain ⟨q0, q1⟩ := box2 k2
      have f0 := k2.frozen 0
      have f1 := k2.frozen 1
      go_wp2_with fail
      have k3 := k2.set2 (.slice none 0 0) (.slice none 0 0)
      have B3 := bset2 B2 (Nat.le_succ _) (.slice none 0 0) (.slice none 0 0)
      clear q0 q1
      obtain ⟨q0, q1⟩ := box2 k3
      refine bodyPost_ret (v := .tuple #[.agg #[.slice none 0 0, .slice none 0 0], .int .i64 (placeE zs ats)]) (by simp [results, Try.results25, go_sem, q0, q1]) rfl ?_
      exact RetTE.no rfl rfl B3 _ rfl

end Go.Proofs.Ythcdjdhnjbdfeaa
