/- The walks of package dense: flat, line, Bias. -/
import Derived.Test.YthcdjdhnjbdfeaaTensorSums
import Derived.Test.YthcdjdhnjbdfeaaAppend2
namespace Go.Proofs.Ythcdjdhnjbdfeaa
open Go.RowKit

def flatB (zs xs : List Int) : Bool := tRightB zs xs && decide (zs.length = 2)

set_option maxHeartbeats 1000000 in
theorem d_flat (A B : Option Addr) (c d : Nat) (zs xs : List Int) (w : World) (hz : zs.length ≤ 1000000) (h : Rd w A zs) :
    Calls Try.prog 68 #[.agg #[.slice A zs.length c, .slice B xs.length d]] w (RetB w (.bool (flatB zs xs))) := by
  have b1 := (Below.refl w.heap.size w).alloc (Nat.le_refl _) (.cells #[.slice A zs.length c, .slice B xs.length d] 26)
  have k1 := Blk.new w 26 #[.slice A zs.length c, .slice B xs.length d]
  rcases hr : tRightB zs xs with _ | _
  · have HR := Lib.hid hr
    have HV : Hid (flatB zs xs = false) := Lib.hid (by simp [flatB, hr])
    clear hr
    go_enter Try.func68, Try.ntmps68
    go_wp2_with fail
    refine (t_right A B c d zs xs _ hz (h.below b1)).mono ?_
    rintro e w1 ⟨rfl, hb⟩
    rw [HR.out]
    go_wp2_with fail
    go_ret
    exact ⟨ret_bool HV.out.symm, btr b1 hb⟩
  · have HR := Lib.hid hr
    have HV : Hid (flatB zs xs = ((zs.length : Int) == 2)) := Lib.hid (by rw [flatB, hr, Bool.true_and, Bool.eq_iff_iff]; simp; omega)
    clear hr
    go_enter Try.func68, Try.ntmps68
    go_wp2_with fail
    refine (t_right A B c d zs xs _ hz (h.below b1)).mono ?_
    rintro e w1 ⟨rfl, hb⟩
    rw [HR.out]
    replace k1 := k1.keep hb
    replace b1 := btr b1 hb
    clear hb
    obtain ⟨q0, q1⟩ := box2 k1
    go_wp2_with fail
    go_ret
    exact ⟨ret_bool HV.out.symm, b1⟩

theorem slice_full {P : Program} (t : TypeId) (ht : P.underlying t = some (.slice (P.elem t))) (hs : (P.info? (P.elem t)).map (·.size) = some 1) (b off l c k m : Nat) (i j : Int) (hi : i = (k : Int)) (hj : j = (m : Int)) (hk : k < m) (hm : m ≤ c) (w : World) :
    (Instr.slice t (.slice (some ⟨b, off, none⟩) l c) (some (.int .i64 i)) (some (.int .i64 j)) (some (.int .i64 j))).run P w = .ok (.slice (some ⟨b, off + k, none⟩) (m - k) (m - k)) w := by
  subst hi hj
  rw [run_slice_lhm w t (some ⟨b, off, none⟩) l c ht .i64 .i64 .i64 k m m (by omega) (by omega) (by omega) (by omega), sizeOf_one hs]
  have : ¬ m = k := by omega
  by_cases h0 : k = 0
  · subst h0; simp [Result.andThen, sliced, this, Addr.add]
  · simp [Result.andThen, sliced, this, Addr.add, h0]

set_option maxRecDepth 100000 in
set_option maxHeartbeats 1000000 in
theorem d_line (A : Option Addr) (b off c d M N i S : Nat) (xs : List Int) (w : World) (hd : xs.length ≤ d) (hM : M ≤ 1024) (hN : N ≤ 1024) (hN1 : 1 ≤ N) (hx : Hid (xs.length = M * N)) (hx6 : xs.length ≤ 65536) (hi : i < M) (hS : Hid (i * N = S)) (h : Rd w A [(M : Int), (N : Int)]) :
    Calls Try.prog 65 #[.agg #[.slice A 2 c, .slice (some ⟨b, off, none⟩) xs.length d], .int .i64 i] w fun e w' => e = .returned (.slice (some ⟨b, off + S, none⟩) N N) ∧ w' = w.alloc (.cells #[.slice A 2 c, .slice (some ⟨b, off, none⟩) xs.length d] 26) := by
  obtain ⟨ba, oa, rfl, hba, hca⟩ := (h.alloc (.cells #[.slice A 2 c, .slice (some ⟨b, off, none⟩) xs.length d] 26)) 1 (N : Int) rfl
  have hend : S + N ≤ xs.length := by rw [hx.out, ← hS.out, ← Nat.succ_mul]; exact Nat.mul_le_mul_right _ hi
  have m1 : (i : Int) * (N : Int) = (S : Int) := by rw [← hS.out, Int.natCast_mul]
  have m2 : ((i : Int) + 1) * (N : Int) = (S : Int) + N := by rw [Int.add_mul, m1, Int.one_mul]
  have hsl := slice_full (P := Try.prog) 24 (by kernel_rfl) (by kernel_rfl) b off xs.length d S (S + N) (S : Int) ((S : Int) + N) rfl (by omega) (by omega) (by omega)
  rw [Nat.add_sub_cancel_left] at hsl
  go_enter Try.func65, Try.ntmps65
  go_wp2_with fail
  go_ret
  exact ⟨rfl, rfl⟩

set_option maxRecDepth 100000 in
set_option maxHeartbeats 1000000 in
theorem d_bias (A B C D : Option Addr) (c d c' d' : Nat) (zs xs ts ys : List Int) (w : World) (hz : zs.length ≤ 1000000) (ht : ts.length ≤ 1000000)
    (h1 : Rd w A zs) (h2 : Rd w B xs) (h3 : Rd w C ts) (h4 : Rd w D ys) (hx : Hid (∀ z ∈ xs, I64 z)) (hy : Hid (∀ z ∈ ys, I64 z)) :
    Calls Try.prog 44 #[.agg #[.slice A zs.length c, .slice B xs.length d], .agg #[.slice C ts.length c', .slice D ys.length d']] w (RetTE w (adS ts ys zs xs) (adX ts ys zs xs) (adE ts ys zs xs)) := by
  have b1 := (((Below.refl w.heap.size w).alloc (Nat.le_refl _) (.cells #[.slice A zs.length c, .slice B xs.length d] 26)).alloc (by simp) (.cells #[.slice C ts.length c', .slice D ys.length d'] 26)).alloc (by simp; omega) (.cells #[.slice none 0 0, .slice none 0 0] 26)
  have kR := Blk.new' ((w.alloc (.cells #[.slice A zs.length c, .slice B xs.length d] 26)).alloc (.cells #[.slice C ts.length c', .slice D ys.length d'] 26)) 26 #[.slice none 0 0, .slice none 0 0] (n := w.heap.size + 1 + 1) (by simp)
  go_enter Try.func44, Try.ntmps44
  go_wp2_with fail
  refine (t_add C D A B c' d' c d ts ys zs xs _ ht hz (h3.below b1) (h4.below b1) (h1.below b1) (h2.below b1) hy hx).mono ?_
  rintro e w1 ⟨A1, c1, B1, d1, rfl, oS, oX, hb⟩
  replace oS := oS.more (B' := w.heap.size) b1.size
  replace oX := oX.more (B' := w.heap.size) b1.size
  replace kR := kR.keep hb
  replace b1 := btr b1 hb
  clear hb
  obtain ⟨q0, q1⟩ := box2 kR
  have f0 := kR.frozen 0
  have f1 := kR.frozen 1
  have n1 := oS.ne_blk kR (by decide)
  have n2 := oX.ne_blk kR (by decide)
  go_wp2_with fail
  have k3 := kR.set2 (.slice A1 (adS ts ys zs xs).length c1) (.slice B1 (adX ts ys zs xs).length d1)
  have B3 := bset2 b1 (p := w.heap.size + 1 + 1) (by omega) (.slice A1 (adS ts ys zs xs).length c1) (.slice B1 (adX ts ys zs xs).length d1)
  have o3 := oS.far2 n1 (.slice A1 (adS ts ys zs xs).length c1) (.slice B1 (adX ts ys zs xs).length d1)
  have o4 := oX.far2 n2 (.slice A1 (adS ts ys zs xs).length c1) (.slice B1 (adX ts ys zs xs).length d1)
  clear q0 q1
  obtain ⟨q0, q1⟩ := box2 k3
  refine bodyPost_ret (v := .tuple #[.agg #[.slice A1 (adS ts ys zs xs).length c1, .slice B1 (adX ts ys zs xs).length d1], .int .i64 (adE ts ys zs xs)]) (by simp [results, Try.results44, go_sem, q0, q1]) rfl ?_
  exact ⟨_, _, _, _, rfl, o3, o4, B3⟩

end Go.Proofs.Ythcdjdhnjbdfeaa
