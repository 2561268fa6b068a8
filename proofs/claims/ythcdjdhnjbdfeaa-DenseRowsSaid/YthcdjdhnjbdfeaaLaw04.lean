/- The walks of the small functions of the statements on tensors, and of their fixed answer. -/
import Derived.Test.YthcdjdhnjbdfeaaTensor5
namespace Go.Proofs.Ythcdjdhnjbdfeaa
open Go.RowKit

def smallB (zs xs : List Int) : Bool := decide (zs.length ≤ 50) && decide (xs.length ≤ 600)
theorem l04_small (A B : Option Addr) (c d : Nat) (zs xs : List Int) (w : World) :
    Calls Try.prog 13 #[.agg #[.slice A zs.length c, .slice B xs.length d]] w (RetB w (.bool (smallB zs xs))) := by
  by_cases h : zs.length ≤ 50
  · have HV : Hid (smallB zs xs = decide ((xs.length : Int) ≤ 600)) := Lib.hid (by rw [smallB, decide_eq_true h, Bool.true_and]; exact decide_eq_decide.2 (by constructor <;> intro h <;> omega))
    go_enter Try.func13, Try.ntmps13
    go_wp2_with fail
    go_ret
    exact ⟨ret_bool HV.out.symm, (Below.refl _ _).alloc (Nat.le_refl _) _⟩
  · have HV : Hid (smallB zs xs = false) := Lib.hid (by simp [smallB, h])
    go_enter Try.func13, Try.ntmps13
    go_wp2_with fail
    go_ret
    exact ⟨ret_bool HV.out.symm, (Below.refl _ _).alloc (Nat.le_refl _) _⟩

set_option maxHeartbeats 1000000 in
theorem l04_right (A B : Option Addr) (c d : Nat) (zs xs : List Int) (w : World) (hz : zs.length ≤ 1000000) (h : Rd w A zs) :
    Calls Try.prog 19 #[.agg #[.slice A zs.length c, .slice B xs.length d]] w (RetB w (.bool (tRightB zs xs))) := by
  have k0 := Blk.new w 26 #[.slice A zs.length c, .slice B xs.length d]
  obtain ⟨q0, q1⟩ := box2 k0
  have CR := Lib.hid fun n => calls_same (ref_right A c zs ((w.alloc (.cells #[.slice A zs.length c, .slice B xs.length d] 26)).drewN n) hz ((h.alloc _).drewN n))
  rcases hr : rightB zs with _ | _
  · have HV : Hid (tRightB zs xs = false) := Lib.hid (by simp [tRightB, hr])
    rw [hr] at CR
    clear hr
    go_enter Try.func19, Try.ntmps19
    go_wp2_with fail
    go_quiet ((go_at_call 21; exact Calls.quiet_of_same (CR.out _)))
    go_wp2_with fail
    go_ret
    exact ⟨ret_bool HV.out.symm, below_drewN ((Below.refl _ _).alloc (Nat.le_refl _) _) _⟩
  · have HV : Hid (tRightB zs xs = ((xs.length : Int) == prodL zs)) := Lib.hid (by simp [tRightB, hr]; exact Bool.eq_iff_iff.2 (by simp))
    obtain ⟨_, r4, rin, _⟩ := (rightB_iff zs).1 hr
    have CS := Lib.hid fun n => calls_same (ref_size A c zs ((w.alloc (.cells #[.slice A zs.length c, .slice B xs.length d] 26)).drewN n) r4 (Lib.hid rin) ((h.alloc _).drewN n))
    rw [hr] at CR
    clear hr rin
    go_enter Try.func19, Try.ntmps19
    go_wp2_with fail
    go_quiet ((first | (go_at_call 21; exact Calls.quiet_of_same (CR.out _)) | (go_at_call 22; exact Calls.quiet_of_same (CS.out _))))
    go_wp2_with fail
    go_ret
    exact ⟨ret_bool HV.out.symm, below_drewN ((Below.refl _ _).alloc (Nat.le_refl _) _) _⟩

theorem own_lit4 (w : World) (T : TypeId) (zs : List Int) (cs : Array Value) (h : cs = ints zs) : Own (w.alloc (.cells cs T)) w.heap.size T zs := by subst h; exact Own.new _ _ _

set_option maxRecDepth 100000 in
set_option maxHeartbeats 2000000 in
theorem l04_awake (w : World) : Calls Try.prog 14 #[] w (RetB w (.bool true)) := by
  go_enter Try.func14, Try.ntmps14
  go_wp2_with fail
  have o1 := (own_lit4 w 3 [2] #[.int .i64 2] rfl).alloc (.cells #[.int .i64 1, .int .i64 2] 27)
  have o2 := own_lit4 (w.alloc (.cells #[.int .i64 2] 3)) 27 [1, 2] #[.int .i64 1, .int .i64 2] rfl
  have b1 := ((Below.refl w.heap.size w).alloc (Nat.le_refl _) (.cells #[.int .i64 2] 3)).alloc (by simp) (.cells #[.int .i64 1, .int .i64 2] 27)
  rw [World.size_alloc] at o2
  generalize (w.alloc (.cells #[.int .i64 2] 3)).alloc (.cells #[.int .i64 1, .int .i64 2] 27) = w1 at *
  refine (t_of_yes (some ⟨w.heap.size, 0, none⟩) (some ⟨w.heap.size + 1, 0, none⟩) 1 2 [2] [1, 2] w1 (by decide) (by decide) o1.rd o2.rd (Lib.hid (by decide))).mono ?_
  rintro e w2 ⟨A, c, B, d, rfl, oS, oX, hb⟩
  have b2 := btr b1 hb
  clear o1 o2 b1 hb
  go_wp2_with fail
  have kA := (Blk.new w2 26 #[.slice A 1 c, .slice B 2 d]).alloc (.cells #[.int .i64 2] 3)
  have oS1 := (oS.alloc (.cells #[.slice A 1 c, .slice B 2 d] 26)).alloc (.cells #[.int .i64 2] 3)
  have oX1 := (oX.alloc (.cells #[.slice A 1 c, .slice B 2 d] 26)).alloc (.cells #[.int .i64 2] 3)
  have b3 := (b2.alloc b2.size (.cells #[.slice A 1 c, .slice B 2 d] 26)).alloc (by have := b2.size; simp; omega) (.cells #[.int .i64 2] 3)
  have o1 := own_lit4 (w2.alloc (.cells #[.slice A 1 c, .slice B 2 d] 26)) 3 [2] #[.int .i64 2] rfl
  rw [World.size_alloc] at o1
  generalize (w2.alloc (.cells #[.slice A 1 c, .slice B 2 d] 26)).alloc (.cells #[.int .i64 2] 3) = w3 at *
  clear oS oX b2
  refine (t_make_yes (some ⟨w2.heap.size + 1, 0, none⟩) 1 [2] 3 2 w3 (by decide) o1.rd (Lib.hid (by decide)) (Lib.hid (by decide))).mono ?_
  rintro e w4 ⟨A', c', B', d', rfl, pS, pX, hb⟩
  have b4 := btr b3 hb
  have kA4 := kA.keep hb
  have oS4 := oS1.keep hb
  have oX4 := oX1.keep hb
  clear kA oS1 oX1 b3 o1 hb
  obtain ⟨q0, q1⟩ := box2 (kA4.alloc (.cells #[.slice A' 1 c', .slice B' 2 d'] 26))
  go_wp2_with fail
  have kB := Blk.new w4 26 #[.slice A' 1 c', .slice B' 2 d']
  have kA5 := kA4.alloc (.cells #[.slice A' 1 c', .slice B' 2 d'] 26)
  have oS5 := oS4.alloc (.cells #[.slice A' 1 c', .slice B' 2 d'] 26)
  have oX5 := oX4.alloc (.cells #[.slice A' 1 c', .slice B' 2 d'] 26)
  have pS5 := pS.alloc (.cells #[.slice A' 1 c', .slice B' 2 d'] 26)
  have pX5 := pX.alloc (.cells #[.slice A' 1 c', .slice B' 2 d'] 26)
  have b5 := b4.alloc b4.size (.cells #[.slice A' 1 c', .slice B' 2 d'] 26)
  generalize w4.alloc (.cells #[.slice A' 1 c', .slice B' 2 d'] 26) = w5 at *
  clear oS4 oX4 pS pX b4 kA4 q0 q1
  refine (t_add_yes A B A' B' c d c' d' [2] [1, 2] [2] [3, 3] w5 oS5.rd oX5.rd pS5.rd pX5.rd (Lib.hid (by simp [I64])) (Lib.hid (by simp [I64])) (Lib.hid (by decide))).mono ?_
  rintro e w6 ⟨C, e', D, f', rfl, rS, rX, hb⟩
  rw [show List.zipWith fadd [1, 2] [3, 3] = [4, 5] from by decide] at rX ⊢
  have b6 := btr b5 hb
  have kB6 := kB.keep hb
  have pS6 := pS5.keep hb
  have pX6 := pX5.keep hb
  clear oS5 oX5 pS5 pX5 b5 kA5 kB hb
  go_wp2_with fail
  have l1 := (own_lit4 (w6.alloc (.cells #[.slice C 1 e', .slice D 2 f'] 26)) 3 [2] #[.int .i64 2] rfl).alloc (.cells #[.int .i64 1] 27)
  have l2 := own_lit4 ((w6.alloc (.cells #[.slice C 1 e', .slice D 2 f'] 26)).alloc (.cells #[.int .i64 2] 3)) 27 [1] #[.int .i64 1] rfl
  simp only [World.size_alloc] at l1 l2
  have kC := ((Blk.new w6 26 #[.slice C 1 e', .slice D 2 f']).alloc (.cells #[.int .i64 2] 3)).alloc (.cells #[.int .i64 1] 27)
  have b7 := ((b6.alloc b6.size (.cells #[.slice C 1 e', .slice D 2 f'] 26)).alloc (by have := b6.size; simp; omega) (.cells #[.int .i64 2] 3)).alloc (by have := b6.size; simp; omega) (.cells #[.int .i64 1] 27)
  have kB7 := ((kB6.alloc (.cells #[.slice C 1 e', .slice D 2 f'] 26)).alloc (.cells #[.int .i64 2] 3)).alloc (.cells #[.int .i64 1] 27)
  have pS7 := ((pS6.alloc (.cells #[.slice C 1 e', .slice D 2 f'] 26)).alloc (.cells #[.int .i64 2] 3)).alloc (.cells #[.int .i64 1] 27)
  have pX7 := ((pX6.alloc (.cells #[.slice C 1 e', .slice D 2 f'] 26)).alloc (.cells #[.int .i64 2] 3)).alloc (.cells #[.int .i64 1] 27)
  have rS7 := ((rS.alloc (.cells #[.slice C 1 e', .slice D 2 f'] 26)).alloc (.cells #[.int .i64 2] 3)).alloc (.cells #[.int .i64 1] 27)
  have rX7 := ((rX.alloc (.cells #[.slice C 1 e', .slice D 2 f'] 26)).alloc (.cells #[.int .i64 2] 3)).alloc (.cells #[.int .i64 1] 27)
  generalize ((w6.alloc (.cells #[.slice C 1 e', .slice D 2 f'] 26)).alloc (.cells #[.int .i64 2] 3)).alloc (.cells #[.int .i64 1] 27) = w7 at *
  clear kB6 pS6 pX6 rS rX b6
  refine (t_of_no (some ⟨w6.heap.size + 1, 0, none⟩) (some ⟨w6.heap.size + 1 + 1, 0, none⟩) 1 1 [2] [1] w7 (by decide) l1.rd (Lib.hid (by decide))).mono ?_
  rintro e w8 ⟨E, g', F, h', rfl, -, -, hb⟩
  have b8 := btr b7 hb
  have kB8 := kB7.keep hb
  have kC8 := kC.keep hb
  have pS8 := pS7.keep hb
  have pX8 := pX7.keep hb
  have rS8 := rS7.keep hb
  have rX8 := rX7.keep hb
  clear kB7 kC pS7 pX7 rS7 rX7 b7 hb l1 l2
  obtain ⟨q0, q1⟩ := box2 (kC8.alloc (.cells #[.slice E 0 g', .slice F 0 h'] 26))
  go_wp2_with fail
  have l1 := own_lit4 (w8.alloc (.cells #[.slice E 0 g', .slice F 0 h'] 26)) 3 [1] #[.int .i64 1] rfl
  simp only [World.size_alloc] at l1
  have kB9 := (kB8.alloc (.cells #[.slice E 0 g', .slice F 0 h'] 26)).alloc (.cells #[.int .i64 1] 3)
  have kC9 := (kC8.alloc (.cells #[.slice E 0 g', .slice F 0 h'] 26)).alloc (.cells #[.int .i64 1] 3)
  have pS9 := (pS8.alloc (.cells #[.slice E 0 g', .slice F 0 h'] 26)).alloc (.cells #[.int .i64 1] 3)
  have pX9 := (pX8.alloc (.cells #[.slice E 0 g', .slice F 0 h'] 26)).alloc (.cells #[.int .i64 1] 3)
  have rS9 := (rS8.alloc (.cells #[.slice E 0 g', .slice F 0 h'] 26)).alloc (.cells #[.int .i64 1] 3)
  have rX9 := (rX8.alloc (.cells #[.slice E 0 g', .slice F 0 h'] 26)).alloc (.cells #[.int .i64 1] 3)
  have b9 := (b8.alloc b8.size (.cells #[.slice E 0 g', .slice F 0 h'] 26)).alloc (by have := b8.size; simp; omega) (.cells #[.int .i64 1] 3)
  generalize (w8.alloc (.cells #[.slice E 0 g', .slice F 0 h'] 26)).alloc (.cells #[.int .i64 1] 3) = w9 at *
  clear kB8 kC8 pS8 pX8 rS8 rX8 b8 q0 q1
  refine (t_get C D (some ⟨w8.heap.size + 1, 0, none⟩) e' f' 1 [2] [4, 5] [1] w9 (by decide) (by decide) (by decide) rS9.rd rX9.rd l1.rd).mono ?_
  rintro e w10 ⟨rfl, hb⟩
  rw [show getV [2] [4, 5] [1] = 5 from by decide, show getE [2] [4, 5] [1] = 0 from by decide]
  have b10 := btr b9 hb
  have kB10 := kB9.keep hb
  have kC10 := kC9.keep hb
  have pS10 := pS9.keep hb
  have pX10 := pX9.keep hb
  have rS10 := rS9.keep hb
  have rX10 := rX9.keep hb
  clear kB9 kC9 pS9 pX9 rS9 rX9 b9 hb l1
  obtain ⟨q0, q1⟩ := box2 kC10
  go_wp2_with fail
  refine (t_equal C D C D e' f' e' f' [2] [4, 5] [2] [4, 5] w10 (by decide) (by decide) (by decide) rS10.rd rX10.rd rS10.rd rX10.rd).mono ?_
  rintro e w11 ⟨rfl, hb⟩
  rw [show (decide (([2] : List Int) = [2]) && decide (([4, 5] : List Int) = [4, 5])) = true from by decide]
  have b11 := btr b10 hb
  clear q0 q1
  obtain ⟨q0, q1⟩ := box2 (kC10.keep hb)
  obtain ⟨p0, p1⟩ := box2 (kB10.keep hb)
  go_wp2_with fail
  refine (t_equal C D A' B' e' f' c' d' [2] [4, 5] [2] [3, 3] w11 (by decide) (by decide) (by decide) (rS10.keep hb).rd (rX10.keep hb).rd (pS10.keep hb).rd (pX10.keep hb).rd).mono ?_
  rintro e w12 ⟨rfl, hb2⟩
  rw [show (decide (([2] : List Int) = [2]) && decide (([4, 5] : List Int) = [3, 3])) = false from by decide]
  go_wp2_with fail
  go_ret
  exact ⟨rfl, btr b11 hb2⟩

end Go.Proofs.Ythcdjdhnjbdfeaa
