/- The walk of the statement TensorSums. -/
import Derived.Test.YthcdjdhnjbdfeaaLaw04
import Derived.Test.YthcdjdhnjbdfeaaOpen
import Derived.Test.YthcdjdhnjbdfeaaRef01
import Derived.Deep.RegionHeld3
namespace Go.Proofs.Ythcdjdhnjbdfeaa
open Go.RowKit

def scS (zs xs : List Int) : List Int := if tRightB zs xs then zs else []
def scX (zs xs : List Int) (f : Int) : List Int := if tRightB zs xs then xs.map (fmul · f) else []
def scE (zs xs : List Int) : Int := if tRightB zs xs then 0 else 20
theorem t_scale (A B : Option Addr) (c d : Nat) (zs xs : List Int) (f : Int) (w : World) (hz : zs.length ≤ 1000000) (h1 : Rd w A zs) (h2 : Rd w B xs) (hx : Hid (∀ z ∈ xs, I64 z)) (hf : I64 f) :
    Calls Try.prog 49 #[.agg #[.slice A zs.length c, .slice B xs.length d], .int .i64 f] w (RetTE w (scS zs xs) (scX zs xs f) (scE zs xs)) := by
  rcases hr : tRightB zs xs with _ | _
  · have := t_scale_no A B c d zs xs f w hz h1 (Lib.hid hr)
    simpa [scS, scX, scE, hr] using this
  · have := t_scale_yes A B c d zs xs f w h1 h2 hx hf (Lib.hid hr)
    simpa [scS, scX, scE, hr] using this
def adS (zs xs ts ys : List Int) : List Int := if alikeB zs xs ts ys then zs else []
def adX (zs xs ts ys : List Int) : List Int := if alikeB zs xs ts ys then xs.zipWith fadd ys else []
def adE (zs xs ts ys : List Int) : Int := if alikeB zs xs ts ys then 0 else 20
theorem t_add (A B C D : Option Addr) (c d c' d' : Nat) (zs xs ts ys : List Int) (w : World) (hz : zs.length ≤ 1000000) (ht : ts.length ≤ 1000000)
    (h1 : Rd w A zs) (h2 : Rd w B xs) (h3 : Rd w C ts) (h4 : Rd w D ys) (hx : Hid (∀ z ∈ xs, I64 z)) (hy : Hid (∀ z ∈ ys, I64 z)) :
    Calls Try.prog 48 #[.agg #[.slice A zs.length c, .slice B xs.length d], .agg #[.slice C ts.length c', .slice D ys.length d']] w (RetTE w (adS zs xs ts ys) (adX zs xs ts ys) (adE zs xs ts ys)) := by
  rcases hr : alikeB zs xs ts ys with _ | _
  · have := t_add_no A B C D c d c' d' zs xs ts ys w hz ht h1 h3 (Lib.hid hr)
    simpa [adS, adX, adE, hr] using this
  · have := t_add_yes A B C D c d c' d' zs xs ts ys w h1 h2 h3 h4 hx hy (Lib.hid hr)
    simpa [adS, adX, adE, hr] using this
theorem box7 {w : World} {g : Nat} {T : TypeId} {v0 v1 v2 v3 v4 v5 v6 : Value} (h : Blk w g T #[v0, v1, v2, v3, v4, v5, v6]) :
    w.cell? ⟨g, 0, none⟩ = some v0 ∧ w.cell? ⟨g, 1, none⟩ = some v1 ∧ w.cell? ⟨g, 2, none⟩ = some v2 ∧ w.cell? ⟨g, 3, none⟩ = some v3 ∧ w.cell? ⟨g, 4, none⟩ = some v4 ∧ w.cell? ⟨g, 5, none⟩ = some v5 ∧ w.cell? ⟨g, 6, none⟩ = some v6 :=
  ⟨h.cell 0, h.cell 1, h.cell 2, h.cell 3, h.cell 4, h.cell 5, h.cell 6⟩
theorem ints_i64 {W : World} {A : Option Addr} {c : Nat} {xs : List Int} (h : IntsIn W A c xs) : Hid (∀ z ∈ xs, I64 z) := Lib.hid fun z hz => wf_bounds (h.2.2.2 z hz)

set_option maxRecDepth 100000 in
set_option maxHeartbeats 8000000 in
theorem tensorSums_calls (A B C D : Option Addr) (c d c' d' : Nat) (zs xs ts ys : List Int) (s0 s1 s2 f : Int) (w : World) (h1 : IntsIn w A c zs) (h2 : IntsIn w B d xs) (h3 : IntsIn w C c' ts) (h4 : IntsIn w D d' ys) (hf : I64 f) :
    Calls Try.prog 11 #[.agg #[.slice A zs.length c, .slice B xs.length d, .slice C ts.length c', .slice D ys.length d', .int .i64 s0, .int .i64 s1, .int .i64 s2], .int .i64 f] w (LawTrue w) := by
  have HX := ints_i64 h2
  have HY := ints_i64 h4
  obtain ⟨h1, -, -, -⟩ := h1
  obtain ⟨h2, -, -, -⟩ := h2
  obtain ⟨h3, -, -, -⟩ := h3
  obtain ⟨h4, -, -, -⟩ := h4
  have HF := Lib.hid hf
  clear hf
  have b1 := (Below.refl w.heap.size w).alloc (Nat.le_refl _) (.cells #[.slice A zs.length c, .slice B xs.length d, .slice C ts.length c', .slice D ys.length d', .int .i64 s0, .int .i64 s1, .int .i64 s2] 47)
  have k1 := Blk.new w 47 #[.slice A zs.length c, .slice B xs.length d, .slice C ts.length c', .slice D ys.length d', .int .i64 s0, .int .i64 s1, .int .i64 s2]
  rcases hsm : smallB zs xs with _ | _
  · have HS := Lib.hid hsm
    clear hsm
    go_enter Try.func11, Try.ntmps11
    go_wp2_with fail
    refine (l04_small A B c d zs xs _).mono ?_
    rintro e w1 ⟨rfl, hb⟩
    rw [HS.out]
    go_wp2_with fail
    refine (l04_awake _).mono ?_
    rintro e w2 ⟨rfl, hb2⟩
    go_wp2_with fail
    go_ret
    exact ⟨rfl, btr (btr b1 hb) hb2⟩
  have HS := Lib.hid hsm
  obtain ⟨hs, hx⟩ : zs.length ≤ 50 ∧ xs.length ≤ 600 := by simpa [smallB] using hsm
  clear hsm
  rcases hsm : smallB ts ys with _ | _
  · have HS' := Lib.hid hsm
    clear hsm
    go_enter Try.func11, Try.ntmps11
    go_wp2_with fail
    refine (l04_small A B c d zs xs _).mono ?_
    rintro e w1 ⟨rfl, hb⟩
    rw [HS.out]
    replace k1 := k1.keep hb
    replace b1 := btr b1 hb
    clear hb
    obtain ⟨q0, q1, q2, q3, -, -, -⟩ := box7 k1
    go_wp2_with fail
    refine (l04_small C D c' d' ts ys _).mono ?_
    rintro e w2 ⟨rfl, hb⟩
    rw [HS'.out]
    go_wp2_with fail
    refine (l04_awake _).mono ?_
    rintro e w3 ⟨rfl, hb2⟩
    go_wp2_with fail
    go_ret
    exact ⟨rfl, btr (btr b1 hb) hb2⟩
  have HS' := Lib.hid hsm
  obtain ⟨ht, hy⟩ : ts.length ≤ 50 ∧ ys.length ≤ 600 := by simpa [smallB] using hsm
  clear hsm
  go_enter Try.func11, Try.ntmps11
  go_wp2_with fail
  refine (l04_small A B c d zs xs _).mono ?_
  rintro e w1 ⟨rfl, hb⟩
  rw [HS.out]
  replace k1 := k1.keep hb
  replace b1 := btr b1 hb
  clear hb
  obtain ⟨q0, q1, q2, q3, -, -, -⟩ := box7 k1
  go_wp2_with fail
  refine (l04_small C D c' d' ts ys _).mono ?_
  rintro e w2 ⟨rfl, hb⟩
  rw [HS'.out]
  replace k1 := k1.keep hb
  replace b1 := btr b1 hb
  clear hb
  clear q0 q1 q2 q3
  obtain ⟨q0, q1, q2, q3, -, -, -⟩ := box7 k1
  go_wp2_with fail
  refine (t_add A B C D c d c' d' zs xs ts ys w2 (by omega) (by omega) (h1.below b1) (h2.below b1) (h3.below b1) (h4.below b1) HX HY).mono ?_
  rintro e w3 ⟨A1, c1, B1, d1, rfl, aS, aX, hb⟩
  replace aS := aS.more (B' := w.heap.size) b1.size
  replace aX := aX.more (B' := w.heap.size) b1.size
  replace k1 := k1.keep hb
  replace b1 := btr b1 hb
  clear hb
  clear q0 q1 q2 q3
  obtain ⟨q0, q1, q2, q3, -, -, -⟩ := box7 (k1.alloc (.cells #[.slice A1 (adS zs xs ts ys).length c1, .slice B1 (adX zs xs ts ys).length d1] 26))
  go_wp2_with fail
  clear q0 q1 q2 q3
  have kA := Blk.new (w3) 26 #[.slice A1 (adS zs xs ts ys).length c1, .slice B1 (adX zs xs ts ys).length d1]
  replace k1 := k1.alloc (.cells #[.slice A1 (adS zs xs ts ys).length c1, .slice B1 (adX zs xs ts ys).length d1] 26)
  replace aS := aS.alloc (.cells #[.slice A1 (adS zs xs ts ys).length c1, .slice B1 (adX zs xs ts ys).length d1] 26)
  replace aX := aX.alloc (.cells #[.slice A1 (adS zs xs ts ys).length c1, .slice B1 (adX zs xs ts ys).length d1] 26)
  replace b1 := b1.alloc b1.size (.cells #[.slice A1 (adS zs xs ts ys).length c1, .slice B1 (adX zs xs ts ys).length d1] 26)
  generalize hnew : (w3).alloc (.cells #[.slice A1 (adS zs xs ts ys).length c1, .slice B1 (adX zs xs ts ys).length d1] 26) = w4 at *
  clear hnew
  refine (t_scale A B c d zs xs f w4 (by omega) (h1.below b1) (h2.below b1) HX HF.out).mono ?_
  rintro e w5 ⟨A2, c2, B2, d2, rfl, sS, sX, hb⟩
  replace sS := sS.more (B' := w.heap.size) b1.size
  replace sX := sX.more (B' := w.heap.size) b1.size
  replace k1 := k1.keep hb
  replace kA := kA.keep hb
  replace aS := aS.keep hb
  replace aX := aX.keep hb
  replace b1 := btr b1 hb
  clear hb
  obtain ⟨q0, q1, q2, q3, -, -, -⟩ := box7 (k1.alloc (.cells #[.slice A2 (scS zs xs).length c2, .slice B2 (scX zs xs f).length d2] 26))
  go_wp2_with fail
  clear q0 q1 q2 q3
  have kS := Blk.new (w5) 26 #[.slice A2 (scS zs xs).length c2, .slice B2 (scX zs xs f).length d2]
  replace k1 := k1.alloc (.cells #[.slice A2 (scS zs xs).length c2, .slice B2 (scX zs xs f).length d2] 26)
  replace kA := kA.alloc (.cells #[.slice A2 (scS zs xs).length c2, .slice B2 (scX zs xs f).length d2] 26)
  replace aS := aS.alloc (.cells #[.slice A2 (scS zs xs).length c2, .slice B2 (scX zs xs f).length d2] 26)
  replace aX := aX.alloc (.cells #[.slice A2 (scS zs xs).length c2, .slice B2 (scX zs xs f).length d2] 26)
  replace sS := sS.alloc (.cells #[.slice A2 (scS zs xs).length c2, .slice B2 (scX zs xs f).length d2] 26)
  replace sX := sX.alloc (.cells #[.slice A2 (scS zs xs).length c2, .slice B2 (scX zs xs f).length d2] 26)
  replace b1 := b1.alloc b1.size (.cells #[.slice A2 (scS zs xs).length c2, .slice B2 (scX zs xs f).length d2] 26)
  generalize hnew : (w5).alloc (.cells #[.slice A2 (scS zs xs).length c2, .slice B2 (scX zs xs f).length d2] 26) = w6 at *
  clear hnew
  refine (t_dot A B C D c d c' d' zs xs ts ys w6 (by omega) (by omega) (h1.below b1) (h2.below b1) (h3.below b1) (h4.below b1) HX HY).mono ?_
  rintro e w7 ⟨rfl, hb⟩
  replace k1 := k1.keep hb
  replace kA := kA.keep hb
  replace kS := kS.keep hb
  replace aS := aS.keep hb
  replace aX := aX.keep hb
  replace sS := sS.keep hb
  replace sX := sX.keep hb
  replace b1 := btr b1 hb
  clear hb
  generalize hdv : (if alikeB zs xs ts ys then fdot (xs.zip ys) else 0) = dv
  generalize hde : (if alikeB zs xs ts ys then (0 : Int) else 20) = de
  have HDV := Lib.hid hdv
  have HDE := Lib.hid hde
  clear hdv hde
  obtain ⟨q0, q1, q2, q3, -, -, -⟩ := box7 k1
  go_wp2_with fail
  refine (l04_right A B c d zs xs w7 (by omega) (h1.below b1)).mono ?_
  rintro e w8 ⟨rfl, hb⟩
  replace k1 := k1.keep hb
  replace kA := kA.keep hb
  replace kS := kS.keep hb
  replace aS := aS.keep hb
  replace aX := aX.keep hb
  replace sS := sS.keep hb
  replace sX := sX.keep hb
  replace b1 := btr b1 hb
  clear hb
  clear q0 q1 q2 q3
  obtain ⟨q0, q1, q2, q3, -, -, -⟩ := box7 k1
  obtain ⟨p0, p1⟩ := box2 kS
  rcases hr : tRightB zs xs with _ | _
  · have HR := Lib.hid hr
    have hal : alikeB zs xs ts ys = false := by simp [alikeB, hr]
    rw [show scE zs xs = 20 from by simp [scE, hr], show adE zs xs ts ys = 20 from by simp [adE, hal]]
    rw [show scX zs xs f = [] from by simp [scX, hr]] at kS p1
    rw [show adX zs xs ts ys = [] from by simp [adX, hal]] at kA
    rw [hal] at HDV HDE
    obtain rfl : (0 : Int) = dv := by simpa using HDV.out
    obtain rfl : (20 : Int) = de := by simpa using HDE.out
    clear hr hal HDV HDE
    have e1 : (false != false) = false := rfl
    obtain ⟨o0, o1⟩ := box2 kA
    go_wp2_with fail
    refine wp_loop_rounds 1 ?_
    rw [rounds_succ]
    go_wp2_with fail
    refine (l04_right A B c d zs xs w8 (by omega) (h1.below b1)).mono ?_
    rintro e w9 ⟨rfl, hb⟩
    rw [HR.out]
    replace k1 := k1.keep hb
    replace kA := kA.keep hb
    replace b1 := btr b1 hb
    clear hb
    clear o0 o1
    obtain ⟨o0, o1⟩ := box2 kA
    go_wp2_with fail
    refine (l04_awake _).mono ?_
    rintro e w10 ⟨rfl, hb⟩
    go_wp2_with fail
    go_ret
    exact ⟨rfl, btr b1 hb⟩
  have HR := Lib.hid hr
  rw [show scE zs xs = 0 from by simp [scE, hr]]
  rw [show scX zs xs f = xs.map (fmul · f) from by simp [scX, hr]] at kS p1 sX
  rw [List.length_map] at kS p1
  have e1 : (true != true) = false := rfl
  clear hr
  go_wp2_with fail
  go_loopw [71] (fun i wr => ∃ k : Nat, k ≤ xs.length ∧ i = .int .i64 k ∧ Below w8.heap.size w8 wr) (fun i _ => xs.length - (intOf i).toNat)
  case atStart => exact ⟨0, Nat.zero_le _, rfl, Below.refl _ _⟩
  case round =>
    clear q0 q1 q2 q3 p0 p1
    obtain ⟨k, hk, rfl, hbel⟩ := hrel
    have hbel0 := hbel
    replace k1 := k1.keep hbel
    replace kA := kA.keep hbel
    replace kS := kS.keep hbel
    replace aS := aS.keep hbel
    replace aX := aX.keep hbel
    replace sS := sS.keep hbel
    replace sX := sX.keep hbel
    replace b1 := btr b1 hbel
    clear hbel
    by_cases hlt : k < xs.length
    · obtain ⟨b, off, x, rfl, hbb, hcx, hxk⟩ := (h2.below b1).get hlt
      have hxi := HX.out x (List.mem_of_getElem? hxk.out)
      have hsk : (xs.map (fmul · f))[k]? = some (fmul x f) := by rw [List.getElem?_map, hxk.out]; rfl
      obtain ⟨b', off', rfl, hbb', hcs⟩ := sX.rd k _ hsk
      have e2 : decide (xs.length ≤ k) = false := by simp; omega
      have e3 : (fmul x f != fmul x f) = false := by simp
      clear hsk
      go_wp2_with fail
      have HK0 : Hid (∀ w' : World, Below (wr).heap.size (wr) w' → Below (wr).heap.size (wr) w' ∧ w'.cell? ⟨w.heap.size, 1, none⟩ = some (.slice (some ⟨b, off, none⟩) xs.length d) ∧ w'.cell? ⟨w5.heap.size, 1, none⟩ = some (.slice (some ⟨b', off', none⟩) xs.length d2) ∧ w'.cell? ⟨b, off + k, none⟩ = some (.int .i64 x) ∧ w'.cell? ⟨b', off' + k, none⟩ = some (.int .i64 (fmul x f))) := Lib.hid (fun w' hbk => ⟨hbk, (k1.keep hbk).cell 1, (kS.keep hbk).cell 1, (hbk.cell (p := ⟨_, _, _⟩) hbb).trans hcx, (hbk.cell (p := ⟨_, _, _⟩) hbb').trans hcs⟩)
      have HK : Hid (∀ w'' w' : World, Below w''.heap.size w'' w' → (fun w' : World => Below (wr).heap.size (wr) w' ∧ w'.cell? ⟨w.heap.size, 1, none⟩ = some (.slice (some ⟨b, off, none⟩) xs.length d) ∧ w'.cell? ⟨w5.heap.size, 1, none⟩ = some (.slice (some ⟨b', off', none⟩) xs.length d2) ∧ w'.cell? ⟨b, off + k, none⟩ = some (.int .i64 x) ∧ w'.cell? ⟨b', off' + k, none⟩ = some (.int .i64 (fmul x f))) w'' → Below (wr).heap.size (wr) w' ∧ w'.cell? ⟨w.heap.size, 1, none⟩ = some (.slice (some ⟨b, off, none⟩) xs.length d) ∧ w'.cell? ⟨w5.heap.size, 1, none⟩ = some (.slice (some ⟨b', off', none⟩) xs.length d2) ∧ w'.cell? ⟨b, off + k, none⟩ = some (.int .i64 x) ∧ w'.cell? ⟨b', off' + k, none⟩ = some (.int .i64 (fmul x f))) := Lib.hid (fun w'' w' hbk hsk => HK0.out w' (btr hsk.1 hbk))
      have HB : Hid (∀ w' : World, (Below (wr).heap.size (wr) w' ∧ w'.cell? ⟨w.heap.size, 1, none⟩ = some (.slice (some ⟨b, off, none⟩) xs.length d) ∧ w'.cell? ⟨w5.heap.size, 1, none⟩ = some (.slice (some ⟨b', off', none⟩) xs.length d2) ∧ w'.cell? ⟨b, off + k, none⟩ = some (.int .i64 x) ∧ w'.cell? ⟨b', off' + k, none⟩ = some (.int .i64 (fmul x f))) → Below (wr).heap.size (wr) w') := Lib.hid (fun w' hsk => hsk.1)
      first | (go_region_held3 (fun w' => Below (wr).heap.size (wr) w' ∧ w'.cell? ⟨w.heap.size, 1, none⟩ = some (.slice (some ⟨b, off, none⟩) xs.length d) ∧ w'.cell? ⟨w5.heap.size, 1, none⟩ = some (.slice (some ⟨b', off', none⟩) xs.length d2) ∧ w'.cell? ⟨b, off + k, none⟩ = some (.int .i64 x) ∧ w'.cell? ⟨b', off' + k, none⟩ = some (.int .i64 (fmul x f))) (first | exact HK0.out _ (Below.refl _ _).drew | exact HK.out _ _ (by assumption) (by assumption) | go_keep) (first | (go_at_call 51; refine (r1_mul x f _ hxi HF.out).mono ?_; rintro e w9 ⟨rfl, hb9⟩))) | fail
      have hb := HB.out w9 (by assumption)
      go_wp2_with fail
      exact ⟨⟨k + 1, by omega, by go_num, btr hbel0 hb⟩, by simp [intOf]; omega⟩
    · clear hbel0
      obtain ⟨q0, q1, q2, q3, -, -, -⟩ := box7 k1
      obtain ⟨p0, p1⟩ := box2 kS
      rcases hal : alikeB zs xs ts ys with _ | _
      · rw [show adE zs xs ts ys = 20 from by simp [adE, hal]]
        rw [show adX zs xs ts ys = [] from by simp [adX, hal]] at kA
        rw [hal] at HDV HDE
        obtain rfl : (0 : Int) = dv := by simpa using HDV.out
        obtain rfl : (20 : Int) = de := by simpa using HDE.out
        have HAL : Hid (tRightB ts ys = true → zs ≠ ts) := Lib.hid (fun hrt e => by rw [alikeB, HR.out, hrt, decide_eq_true e] at hal; cases hal)
        clear hal HDV HDE
        go_wp2_with fail
        refine (l04_right A B c d zs xs wr (by omega) (h1.below b1)).mono ?_
        rintro e w9 ⟨rfl, hb⟩
        rw [HR.out]
        replace k1 := k1.keep hb
        replace kA := kA.keep hb
        replace b1 := btr b1 hb
        clear hb
        clear q0 q1 q2 q3
        obtain ⟨q0, q1, q2, q3, -, -, -⟩ := box7 k1
        go_wp2_with fail
        refine (l04_right C D c' d' ts ys w9 (by omega) (h3.below b1)).mono ?_
        rintro e w10 ⟨rfl, hb⟩
        replace k1 := k1.keep hb
        replace kA := kA.keep hb
        replace b1 := btr b1 hb
        clear hb
        clear q0 q1 q2 q3
        obtain ⟨q0, q1, q2, q3, -, -, -⟩ := box7 k1
        obtain ⟨o0, o1⟩ := box2 kA
        rcases hrt : tRightB ts ys with _ | _
        · clear hrt
          go_wp2_with fail
          refine (l04_awake _).mono ?_
          rintro e w11 ⟨rfl, hb⟩
          go_wp2_with fail
          go_ret
          exact ⟨rfl, btr b1 hb⟩
        · have HNE : Hid (decide (zs = ts) = false) := Lib.hid (by simpa using HAL.out hrt)
          clear hrt
          go_wp2_with fail
          refine (ref_same A C c c' zs ts w10 (by omega) (by omega) (h1.below b1) (h3.below b1)).mono ?_
          rintro e w11 ⟨rfl, m, rfl⟩
          rw [HNE.out]
          clear o0 o1
          obtain ⟨o0, o1⟩ := box2 (kA.drewN m)
          go_wp2_with fail
          refine (l04_awake _).mono ?_
          rintro e w12 ⟨rfl, hb⟩
          go_wp2_with fail
          go_ret
          exact ⟨rfl, btr (below_drewN b1 m) hb⟩
      · obtain ⟨hzt, hlen, -, hrt, -, -⟩ := alike_len hal
        subst hzt
        have HT := Lib.hid hrt
        have HL := Lib.hid hlen
        rw [show adE zs xs zs ys = 0 from by simp [adE, hal]]
        have hadl : (xs.zipWith fadd ys).length = xs.length := by simp; omega
        rw [show adX zs xs zs ys = xs.zipWith fadd ys from by simp [adX, hal]] at kA aX
        rw [show adS zs xs zs ys = zs from by simp [adS, hal]] at kA aS
        rw [hadl] at kA
        rw [hal] at HDV HDE
        obtain rfl : (0 : Int) = de := by simpa using HDE.out
        have HDV2 : Hid (fdot (xs.zip ys) = dv) := Lib.hid (by simpa using HDV.out)
        clear hal HDV HDE hrt hlen hadl
        go_wp2_with fail
        refine (l04_right A B c d zs xs wr (by omega) (h1.below b1)).mono ?_
        rintro e w9 ⟨rfl, hb⟩
        rw [HR.out]
        replace k1 := k1.keep hb
        replace kA := kA.keep hb
        replace kS := kS.keep hb
        replace aS := aS.keep hb
        replace aX := aX.keep hb
        replace b1 := btr b1 hb
        clear hb
        clear q0 q1 q2 q3
        obtain ⟨q0, q1, q2, q3, -, -, -⟩ := box7 k1
        go_wp2_with fail
        refine (l04_right C D c' d' zs ys w9 (by omega) (h3.below b1)).mono ?_
        rintro e w10 ⟨rfl, hb⟩
        rw [HT.out]
        replace k1 := k1.keep hb
        replace kA := kA.keep hb
        replace kS := kS.keep hb
        replace aS := aS.keep hb
        replace aX := aX.keep hb
        replace b1 := btr b1 hb
        clear hb
        clear q0 q1 q2 q3
        obtain ⟨q0, q1, q2, q3, -, -, -⟩ := box7 k1
        go_wp2_with fail
        refine (ref_same A C c c' zs zs w10 (by omega) (by omega) (h1.below b1) (h3.below b1)).mono ?_
        rintro e w11 ⟨rfl, m, rfl⟩
        rw [decide_eq_true (rfl : zs = zs)]
        clear q0 q1 q2 q3 p0 p1
        replace k1 := k1.drewN m
        replace kA := kA.drewN m
        replace kS := kS.drewN m
        replace aS := aS.drewN m
        replace aX := aX.drewN m
        replace b1 := below_drewN b1 m
        generalize w10.drewN m = w11 at *
        obtain ⟨q0, q1, q2, q3, -, -, -⟩ := box7 k1
        obtain ⟨p0, p1⟩ := box2 kS
        obtain ⟨o0, o1⟩ := box2 kA
        have e2 : ((xs.length : Int) != (xs.length : Int)) = false := by simp
        go_wp2_with fail
        go_loopw [12, 157] (fun s i wr => ∃ k : Nat, k ≤ xs.length ∧ i = .int .i64 k ∧ s = .int .i64 (fdot ((xs.zip ys).take k)) ∧ Below w11.heap.size w11 wr) (fun _ i _ => xs.length - (intOf i).toNat)
        case atStart => exact ⟨0, Nat.zero_le _, rfl, rfl, Below.refl _ _⟩
        case round =>
          clear q0 q1 q2 q3 p0 p1 o0 o1
          obtain ⟨k, hk, rfl, rfl, hbel⟩ := hrel
          have hbel0 := hbel
          replace k1 := k1.keep hbel
          replace kA := kA.keep hbel
          replace aS := aS.keep hbel
          replace aX := aX.keep hbel
          replace b1 := btr b1 hbel
          clear hbel
          by_cases hlt : k < xs.length
          · obtain ⟨b, off, x, rfl, hbb, hcx, hxk⟩ := (h2.below b1).get hlt
            have hlt' : k < ys.length := by rw [← HL.out]; exact hlt
            obtain ⟨b2, off2, y, rfl, hbb2, hcy, hyk⟩ := (h4.below b1).get hlt'
            have hxi := HX.out x (List.mem_of_getElem? hxk.out)
            have hyi := HY.out y (List.mem_of_getElem? hyk.out)
            have HZA : Hid ((xs.zip ys)[k]? = some (x, y)) := Lib.hid (by rw [List.getElem?_zip_eq_some]; exact ⟨hxk.out, hyk.out⟩)
            have hak : (xs.zipWith fadd ys)[k]? = some (fadd x y) := by rw [List.getElem?_zipWith, hxk.out, hyk.out]
            obtain ⟨b3, off3, rfl, hbb3, hca⟩ := aX.rd k _ hak
            have e3 : (fadd x y != fadd x y) = false := by simp
            clear hak
            go_wp2_with fail
            have HK0 : Hid (∀ w' : World, Below (wr).heap.size (wr) w' → Below (wr).heap.size (wr) w' ∧ w'.cell? ⟨w.heap.size, 1, none⟩ = some (.slice (some ⟨b, off, none⟩) xs.length d) ∧ w'.cell? ⟨w.heap.size, 3, none⟩ = some (.slice (some ⟨b2, off2, none⟩) ys.length d') ∧ w'.cell? ⟨b, off + k, none⟩ = some (.int .i64 x) ∧ w'.cell? ⟨b2, off2 + k, none⟩ = some (.int .i64 y)) := Lib.hid (fun w' hbk => ⟨hbk, (k1.keep hbk).cell 1, (k1.keep hbk).cell 3, (hbk.cell (p := ⟨_, _, _⟩) hbb).trans hcx, (hbk.cell (p := ⟨_, _, _⟩) hbb2).trans hcy⟩)
            have HK : Hid (∀ w'' w' : World, Below w''.heap.size w'' w' → (fun w' : World => Below (wr).heap.size (wr) w' ∧ w'.cell? ⟨w.heap.size, 1, none⟩ = some (.slice (some ⟨b, off, none⟩) xs.length d) ∧ w'.cell? ⟨w.heap.size, 3, none⟩ = some (.slice (some ⟨b2, off2, none⟩) ys.length d') ∧ w'.cell? ⟨b, off + k, none⟩ = some (.int .i64 x) ∧ w'.cell? ⟨b2, off2 + k, none⟩ = some (.int .i64 y)) w'' → Below (wr).heap.size (wr) w' ∧ w'.cell? ⟨w.heap.size, 1, none⟩ = some (.slice (some ⟨b, off, none⟩) xs.length d) ∧ w'.cell? ⟨w.heap.size, 3, none⟩ = some (.slice (some ⟨b2, off2, none⟩) ys.length d') ∧ w'.cell? ⟨b, off + k, none⟩ = some (.int .i64 x) ∧ w'.cell? ⟨b2, off2 + k, none⟩ = some (.int .i64 y)) := Lib.hid (fun w'' w' hbk hsk => HK0.out w' (btr hsk.1 hbk))
            have HB : Hid (∀ w' : World, (Below (wr).heap.size (wr) w' ∧ w'.cell? ⟨w.heap.size, 1, none⟩ = some (.slice (some ⟨b, off, none⟩) xs.length d) ∧ w'.cell? ⟨w.heap.size, 3, none⟩ = some (.slice (some ⟨b2, off2, none⟩) ys.length d') ∧ w'.cell? ⟨b, off + k, none⟩ = some (.int .i64 x) ∧ w'.cell? ⟨b2, off2 + k, none⟩ = some (.int .i64 y)) → Below (wr).heap.size (wr) w') := Lib.hid (fun w' hsk => hsk.1)
            first | (go_region_held3 (fun w' => Below (wr).heap.size (wr) w' ∧ w'.cell? ⟨w.heap.size, 1, none⟩ = some (.slice (some ⟨b, off, none⟩) xs.length d) ∧ w'.cell? ⟨w.heap.size, 3, none⟩ = some (.slice (some ⟨b2, off2, none⟩) ys.length d') ∧ w'.cell? ⟨b, off + k, none⟩ = some (.int .i64 x) ∧ w'.cell? ⟨b2, off2 + k, none⟩ = some (.int .i64 y)) (first | exact HK0.out _ (Below.refl _ _).drew | exact HK.out _ _ (by assumption) (by assumption) | go_keep) (first | (go_at_call 51; refine (r1_mul x y _ hxi hyi).mono ?_; rintro e w12 ⟨rfl, hb9⟩) | (go_at_call 45; refine (r1_add _ _ _ (fdot_bd _) (fmul_bd hxi hyi)).mono ?_; rintro e w' ⟨rfl, rfl⟩))) | fail
            have hb := HB.out w12 (by assumption)
            rename_i hHeld
            clear hHeld HB HK HK0 hb9
            have hbc := btr hbel0 hb
            replace k1 := k1.keep hb
            replace kA := kA.keep hb
            replace aS := aS.keep hb
            replace aX := aX.keep hb
            replace b1 := btr b1 hb
            clear hb
            replace hcx := (h2.below b1).all hxk.out
            replace hcy := (h4.below b1).all hyk.out
            obtain ⟨b4, off4, he4, hbb4, hca4⟩ := aX.rd k (fadd x y) (by rw [List.getElem?_zipWith, hxk.out, hyk.out])
            injection he4 with he4; injection he4 with he5 he6; subst he5; subst he6
            clear hca hbb3
            obtain ⟨q0, q1, q2, q3, -, -, -⟩ := box7 k1
            obtain ⟨o0, o1⟩ := box2 kA
            have CA := Lib.hid fun n => calls_same (r1_add x y (w12.drewN n) hxi hyi)
            go_wp2_with fail
            go_quiet ((go_at_call 45; exact Calls.quiet_of_same (CA.out _)))
            go_wp2_with fail
            go_roundw
            case rel => exact ⟨k + 1, by omega, by go_num, by rw [take_at HZA.out, fdot_snoc], below_drewN hbc _⟩
            case measure => simp [intOf]; omega
          · have e : (xs.zip ys).take k = xs.zip ys := List.take_of_length_le (by have := HL.out; simp; omega)
            rw [e, HDV2.out]
            clear e
            have e4 : (dv == dv) = true := by simp
            obtain ⟨q0, q1, q2, q3, -, -, -⟩ := box7 k1
            obtain ⟨o0, o1⟩ := box2 kA
            go_wp2_with fail
            refine (sh_equal A1 A c1 c zs zs wr (by omega) (by omega) aS.rd (h1.below b1)).mono ?_
            rintro e w12 ⟨rfl, m, rfl⟩
            rw [decide_eq_true (rfl : zs = zs)]
            go_wp2_with fail
            refine (l04_awake _).mono ?_
            rintro e w13 ⟨rfl, hb⟩
            go_wp2_with fail
            go_ret
            exact ⟨rfl, btr (below_drewN b1 m) hb⟩

end Go.Proofs.Ythcdjdhnjbdfeaa
