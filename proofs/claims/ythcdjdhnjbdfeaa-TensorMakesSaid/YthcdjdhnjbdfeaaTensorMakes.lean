/- The walk of the statement TensorMakes. -/
import Derived.Test.YthcdjdhnjbdfeaaLaw04
import Derived.Test.YthcdjdhnjbdfeaaOpen
import Derived.Test.YthcdjdhnjbdfeaaAside
import Derived.Deep.RegionHeld3
namespace Go.Proofs.Ythcdjdhnjbdfeaa
open Go.RowKit

def mkS (zs : List Int) : List Int := if rightB zs then zs else []
def mkX (zs : List Int) (v : Int) : List Int := if rightB zs then List.replicate (prodL zs).toNat v else []
def mkE (zs : List Int) : Int := if rightB zs then 0 else 20
theorem t_make (A : Option Addr) (c : Nat) (zs : List Int) (fill : Int) (w : World) (hs : zs.length ≤ 1000000) (h : Rd w A zs) :
    Calls Try.prog 15 #[.slice A zs.length c, .int .i64 fill] w (RetTE w (mkS zs) (mkX zs fill) (mkE zs)) := by
  rcases hr : rightB zs with _ | _
  · have := t_make_no A c zs fill w hs h (Lib.hid hr)
    simpa [mkS, mkX, mkE, hr] using this
  · obtain ⟨n, hn, _, _⟩ := rightB_size hr
    have := t_make_yes A c zs fill n w hs h (Lib.hid hr) (Lib.hid hn)
    simpa [mkS, mkX, mkE, hr, hn] using this
def ofS (zs xs : List Int) : List Int := if tRightB zs xs then zs else []
def ofX (zs xs : List Int) : List Int := if tRightB zs xs then xs else []
def ofE (zs xs : List Int) : Int := if tRightB zs xs then 0 else 20
theorem t_of (A B : Option Addr) (c d : Nat) (zs xs : List Int) (w : World) (hs : zs.length ≤ 1000000) (hx : xs.length ≤ 1000000) (h : Rd w A zs) (h' : Rd w B xs) :
    Calls Try.prog 16 #[.slice A zs.length c, .slice B xs.length d] w (RetTE w (ofS zs xs) (ofX zs xs) (ofE zs xs)) := by
  rcases hr : tRightB zs xs with _ | _
  · have := t_of_no A B c d zs xs w hs h (Lib.hid hr)
    simpa [ofS, ofX, ofE, hr] using this
  · have := t_of_yes A B c d zs xs w hs hx h h' (Lib.hid hr)
    simpa [ofS, ofX, ofE, hr] using this

set_option maxRecDepth 100000 in
set_option maxHeartbeats 4000000 in
theorem tensorMakes_calls (A B : Option Addr) (c d : Nat) (zs xs : List Int) (fill : Int) (w : World) (h1 : IntsIn w A c zs) (h2 : IntsIn w B d xs) :
    Calls Try.prog 3 #[.agg #[.slice A zs.length c, .slice B xs.length d], .int .i64 fill] w (LawTrue w) := by
  obtain ⟨h1, -, -, -⟩ := h1
  obtain ⟨h2, -, -, -⟩ := h2
  have B0 := (Below.refl w.heap.size w).alloc (Nat.le_refl _) (.cells #[.slice A zs.length c, .slice B xs.length d] 26)
  have k0 := Blk.new w 26 #[.slice A zs.length c, .slice B xs.length d]
  rcases hsm : smallB zs xs with _ | _
  · have HS := Lib.hid hsm
    clear hsm
    go_enter Try.func3, Try.ntmps3
    go_wp2_with fail
    refine (l04_small A B c d zs xs _).mono ?_
    rintro e w1 ⟨rfl, hb⟩
    rw [HS.out]
    go_wp2_with fail
    refine (l04_awake _).mono ?_
    rintro e w2 ⟨rfl, hb2⟩
    go_wp2_with fail
    go_ret
    exact ⟨rfl, btr (btr B0 hb) hb2⟩
  have HS := Lib.hid hsm
  obtain ⟨hs, hx⟩ : zs.length ≤ 50 ∧ xs.length ≤ 600 := by simpa [smallB] using hsm
  clear hsm
  go_enter Try.func3, Try.ntmps3
  go_wp2_with fail
  refine (l04_small A B c d zs xs _).mono ?_
  rintro e w1 ⟨rfl, hb⟩
  rw [HS.out]
  have k1 := k0.keep hb
  have b1 := btr B0 hb
  obtain ⟨q0, q1⟩ := box2 k1
  clear B0 k0 hb
  go_wp2_with fail
  refine (t_make A c zs fill w1 (by omega) (h1.below b1)).mono ?_
  rintro e w2 ⟨A1, c1, B1, d1, rfl, mS, mX, hb⟩
  clear q0 q1
  replace mS := mS.more (B' := w.heap.size) b1.size
  replace mX := mX.more (B' := w.heap.size) b1.size
  replace k1 := k1.keep hb
  replace b1 := btr b1 hb
  clear hb
  obtain ⟨q0, q1⟩ := box2 (k1.alloc (.cells #[.slice A1 (mkS zs).length c1, .slice B1 (mkX zs fill).length d1] 26))
  go_wp2_with fail
  have kA := Blk.new (w2) 26 #[.slice A1 (mkS zs).length c1, .slice B1 (mkX zs fill).length d1]
  replace k1 := k1.alloc (.cells #[.slice A1 (mkS zs).length c1, .slice B1 (mkX zs fill).length d1] 26)
  replace mS := mS.alloc (.cells #[.slice A1 (mkS zs).length c1, .slice B1 (mkX zs fill).length d1] 26)
  replace mX := mX.alloc (.cells #[.slice A1 (mkS zs).length c1, .slice B1 (mkX zs fill).length d1] 26)
  replace b1 := b1.alloc b1.size (.cells #[.slice A1 (mkS zs).length c1, .slice B1 (mkX zs fill).length d1] 26)
  generalize hnew : (w2).alloc (.cells #[.slice A1 (mkS zs).length c1, .slice B1 (mkX zs fill).length d1] 26) = w3 at *
  clear hnew
  refine (t_of A B c d zs xs w3 (by omega) (by omega) (h1.below b1) (h2.below b1)).mono ?_
  rintro e w4 ⟨A2, c2, B2, d2, rfl, oS, oX, hb⟩
  clear q0 q1
  replace oS := oS.more (B' := w.heap.size) b1.size
  replace oX := oX.more (B' := w.heap.size) b1.size
  replace k1 := k1.keep hb
  replace kA := kA.keep hb
  replace mS := mS.keep hb
  replace mX := mX.keep hb
  replace b1 := btr b1 hb
  clear hb
  obtain ⟨q0, q1⟩ := box2 (k1.alloc (.cells #[.slice A2 (ofS zs xs).length c2, .slice B2 (ofX zs xs).length d2] 26))
  go_wp2_with fail
  have kB := Blk.new (w4) 26 #[.slice A2 (ofS zs xs).length c2, .slice B2 (ofX zs xs).length d2]
  replace k1 := k1.alloc (.cells #[.slice A2 (ofS zs xs).length c2, .slice B2 (ofX zs xs).length d2] 26)
  replace kA := kA.alloc (.cells #[.slice A2 (ofS zs xs).length c2, .slice B2 (ofX zs xs).length d2] 26)
  replace mS := mS.alloc (.cells #[.slice A2 (ofS zs xs).length c2, .slice B2 (ofX zs xs).length d2] 26)
  replace mX := mX.alloc (.cells #[.slice A2 (ofS zs xs).length c2, .slice B2 (ofX zs xs).length d2] 26)
  replace oS := oS.alloc (.cells #[.slice A2 (ofS zs xs).length c2, .slice B2 (ofX zs xs).length d2] 26)
  replace oX := oX.alloc (.cells #[.slice A2 (ofS zs xs).length c2, .slice B2 (ofX zs xs).length d2] 26)
  replace b1 := b1.alloc b1.size (.cells #[.slice A2 (ofS zs xs).length c2, .slice B2 (ofX zs xs).length d2] 26)
  generalize hnew : (w4).alloc (.cells #[.slice A2 (ofS zs xs).length c2, .slice B2 (ofX zs xs).length d2] 26) = w5 at *
  clear hnew
  refine (t_copy A B c d zs xs w5 (by omega) (by omega) (h1.below b1) (h2.below b1)).mono ?_
  rintro e w6 ⟨g, g', rfl, hg, hg', ho, ho', hb⟩
  have hgw : w.heap.size ≤ g' := Nat.le_trans b1.size hg'
  have nX : ∀ ad, B1 = some ad → ad.block ≠ g' := fun ad e => by have := mX.lt ad e; omega
  have nX2 : ∀ ad, B2 = some ad → ad.block ≠ g' := fun ad e => by have := oX.lt ad e; omega
  clear q0 q1 hg hg'
  replace k1 := k1.keep hb
  replace kA := kA.keep hb
  replace kB := kB.keep hb
  replace mS := mS.keep hb
  replace mX := mX.keep hb
  replace oS := oS.keep hb
  replace oX := oX.keep hb
  replace b1 := btr b1 hb
  clear hb
  go_wp2_with fail
  have kC := Blk.new (w6) 26 #[.slice (some ⟨g, 0, none⟩) zs.length zs.length, .slice (some ⟨g', 0, none⟩) xs.length xs.length]
  replace k1 := k1.alloc (.cells #[.slice (some ⟨g, 0, none⟩) zs.length zs.length, .slice (some ⟨g', 0, none⟩) xs.length xs.length] 26)
  replace kA := kA.alloc (.cells #[.slice (some ⟨g, 0, none⟩) zs.length zs.length, .slice (some ⟨g', 0, none⟩) xs.length xs.length] 26)
  replace kB := kB.alloc (.cells #[.slice (some ⟨g, 0, none⟩) zs.length zs.length, .slice (some ⟨g', 0, none⟩) xs.length xs.length] 26)
  replace mS := mS.alloc (.cells #[.slice (some ⟨g, 0, none⟩) zs.length zs.length, .slice (some ⟨g', 0, none⟩) xs.length xs.length] 26)
  replace mX := mX.alloc (.cells #[.slice (some ⟨g, 0, none⟩) zs.length zs.length, .slice (some ⟨g', 0, none⟩) xs.length xs.length] 26)
  replace oS := oS.alloc (.cells #[.slice (some ⟨g, 0, none⟩) zs.length zs.length, .slice (some ⟨g', 0, none⟩) xs.length xs.length] 26)
  replace oX := oX.alloc (.cells #[.slice (some ⟨g, 0, none⟩) zs.length zs.length, .slice (some ⟨g', 0, none⟩) xs.length xs.length] 26)
  replace ho := ho.alloc (.cells #[.slice (some ⟨g, 0, none⟩) zs.length zs.length, .slice (some ⟨g', 0, none⟩) xs.length xs.length] 26)
  replace ho' := ho'.alloc (.cells #[.slice (some ⟨g, 0, none⟩) zs.length zs.length, .slice (some ⟨g', 0, none⟩) xs.length xs.length] 26)
  replace b1 := b1.alloc b1.size (.cells #[.slice (some ⟨g, 0, none⟩) zs.length zs.length, .slice (some ⟨g', 0, none⟩) xs.length xs.length] 26)
  generalize hnew : (w6).alloc (.cells #[.slice (some ⟨g, 0, none⟩) zs.length zs.length, .slice (some ⟨g', 0, none⟩) xs.length xs.length] 26) = w7 at *
  clear hnew
  obtain ⟨q0, q1⟩ := box2 k1
  obtain ⟨p0, p1⟩ := box2 kC
  have e1 : (tRightB zs xs != tRightB zs xs) = false := by simp
  have HE : Hid ((decide (zs = zs) && decide (xs = xs)) = true) := Lib.hid (by simp)
  have HK0 : Hid (∀ w' : World, Below (w7).heap.size (w7) w' → Below (w7).heap.size (w7) w' ∧ w'.cell? ⟨w.heap.size, 0, none⟩ = some (.slice A zs.length c) ∧ w'.cell? ⟨w.heap.size, 1, none⟩ = some (.slice B xs.length d) ∧ w'.cell? ⟨w6.heap.size, 0, none⟩ = some (.slice (some ⟨g, 0, none⟩) zs.length zs.length) ∧ w'.cell? ⟨w6.heap.size, 1, none⟩ = some (.slice (some ⟨g', 0, none⟩) xs.length xs.length)) := Lib.hid (fun w' hbk => ⟨hbk, (k1.keep hbk).cell 0, (k1.keep hbk).cell 1, (kC.keep hbk).cell 0, (kC.keep hbk).cell 1⟩)
  have HK : Hid (∀ w'' w' : World, Below w''.heap.size w'' w' → (fun w' : World => Below (w7).heap.size (w7) w' ∧ w'.cell? ⟨w.heap.size, 0, none⟩ = some (.slice A zs.length c) ∧ w'.cell? ⟨w.heap.size, 1, none⟩ = some (.slice B xs.length d) ∧ w'.cell? ⟨w6.heap.size, 0, none⟩ = some (.slice (some ⟨g, 0, none⟩) zs.length zs.length) ∧ w'.cell? ⟨w6.heap.size, 1, none⟩ = some (.slice (some ⟨g', 0, none⟩) xs.length xs.length)) w'' → Below (w7).heap.size (w7) w' ∧ w'.cell? ⟨w.heap.size, 0, none⟩ = some (.slice A zs.length c) ∧ w'.cell? ⟨w.heap.size, 1, none⟩ = some (.slice B xs.length d) ∧ w'.cell? ⟨w6.heap.size, 0, none⟩ = some (.slice (some ⟨g, 0, none⟩) zs.length zs.length) ∧ w'.cell? ⟨w6.heap.size, 1, none⟩ = some (.slice (some ⟨g', 0, none⟩) xs.length xs.length)) := Lib.hid (fun w'' w' hbk hsk => HK0.out w' (btr hsk.1 hbk))
  have HB : Hid (∀ w' : World, (Below (w7).heap.size (w7) w' ∧ w'.cell? ⟨w.heap.size, 0, none⟩ = some (.slice A zs.length c) ∧ w'.cell? ⟨w.heap.size, 1, none⟩ = some (.slice B xs.length d) ∧ w'.cell? ⟨w6.heap.size, 0, none⟩ = some (.slice (some ⟨g, 0, none⟩) zs.length zs.length) ∧ w'.cell? ⟨w6.heap.size, 1, none⟩ = some (.slice (some ⟨g', 0, none⟩) xs.length xs.length)) → Below (w7).heap.size (w7) w') := Lib.hid (fun w' hsk => hsk.1)
  go_region_held3 (fun w' => Below (w7).heap.size (w7) w' ∧ w'.cell? ⟨w.heap.size, 0, none⟩ = some (.slice A zs.length c) ∧ w'.cell? ⟨w.heap.size, 1, none⟩ = some (.slice B xs.length d) ∧ w'.cell? ⟨w6.heap.size, 0, none⟩ = some (.slice (some ⟨g, 0, none⟩) zs.length zs.length) ∧ w'.cell? ⟨w6.heap.size, 1, none⟩ = some (.slice (some ⟨g', 0, none⟩) xs.length xs.length)) (first | exact HK0.out _ (Below.refl _ _).drew | exact HK.out _ _ (by assumption) (by assumption) | go_keep) (first | (go_at_call 18; refine (t_right A B c d zs xs _ (by omega) ((h1.below b1).below (HB.out _ (by assumption)))).mono ?_; rintro e w8 ⟨rfl, hb8⟩) | (go_at_call 19; refine (l04_right A B c d zs xs _ (by omega) ((h1.below b1).below (HB.out _ (by assumption)))).mono ?_; rintro e w9 ⟨rfl, hb9⟩) | (go_at_call 20; refine (t_equal (some ⟨g, 0, none⟩) (some ⟨g', 0, none⟩) A B zs.length xs.length c d zs xs zs xs _ (by omega) (by omega) (by omega) (ho.keep (HB.out _ (by assumption))).rd (ho'.keep (HB.out _ (by assumption))).rd ((h1.below b1).below (HB.out _ (by assumption))) ((h2.below b1).below (HB.out _ (by assumption)))).mono ?_; rintro e w10 ⟨rfl, hb10⟩))
  have hb := HB.out w10 (by assumption)
  clear q0 q1 p0 p1 e1 HE HK0 HK HB hb8 hb9 hb10
  rename_i hHeld
  clear hHeld
  replace k1 := k1.keep hb
  replace kA := kA.keep hb
  replace kB := kB.keep hb
  replace kC := kC.keep hb
  replace mS := mS.keep hb
  replace mX := mX.keep hb
  replace oS := oS.keep hb
  replace oX := oX.keep hb
  replace ho := ho.keep hb
  replace ho' := ho'.keep hb
  replace b1 := btr b1 hb
  clear hb
  obtain ⟨p0, p1⟩ := box2 kC
  go_wp2_with fail
  go_loopw [48] (fun i wr => ∃ k : Nat, k ≤ xs.length ∧ i = .int .i64 k ∧ Own wr g' 27 (mapTo (fun x => IntKind.i64.wrap (x + 1)) xs k) ∧ Aside g' w10 wr ∧ Below w.heap.size w wr) (fun i _ => xs.length - (intOf i).toNat)
  case atStart => exact ⟨0, Nat.zero_le _, rfl, by rw [mapTo_zero]; exact ho', Aside.refl _ _, b1⟩
  case round =>
    clear p0 p1
    obtain ⟨k, hk, rfl, ow, has, hbel⟩ := hrel
    have k1r := has.blk k1 (ho'.ne_blk k1 (by decide)).symm
    have kCr := has.blk kC (ho'.ne_blk kC (by decide)).symm
    by_cases hlt : k < xs.length
    · obtain ⟨b, off, x, rfl, hbb, hcx, hxk⟩ := (has.rd_old h2 (h2.below b1) hgw).get hlt
      have hne : b ≠ g' := by have := h2.old (by rintro rfl; simp at hlt) _ rfl; simp at this; omega
      have hcg := ow.cell (mapTo_at (f := (fun x => IntKind.i64.wrap (x + 1))) hxk.out)
      have hfg := ow.frozen k
      have OW := ow.set_ k (IntKind.i64.wrap (x + 1))
      rw [mapTo_set (f := (fun x => IntKind.i64.wrap (x + 1))) hxk.out] at OW
      have HAS := has.set_ k (.int .i64 (IntKind.i64.wrap (x + 1)))
      have HBEL := hbel.setCell (p := ⟨g', k, none⟩) hgw (.int .i64 (IntKind.i64.wrap (x + 1)))
      have k1s := HAS.blk k1 (ho'.ne_blk k1 (by decide)).symm
      have kCs := HAS.blk kC (ho'.ne_blk kC (by decide)).symm
      obtain ⟨q0, q1⟩ := box2 k1s
      obtain ⟨p0, p1⟩ := box2 kCs
      obtain ⟨p0', p1'⟩ := box2 kCr
      have hcx2 := (World.cell?_setCell_other wr ⟨g', k, none⟩ ⟨b, off + k, none⟩ (.int .i64 (IntKind.i64.wrap (x + 1))) (fun e => hne (congrArg Addr.block e).symm)).trans hcx
      have hcg2 := World.cell?_setCell_same' wr ⟨g', k, none⟩ (.int .i64 (IntKind.i64.wrap (x + 1))) (by rw [hcg]; rfl)
      generalize hy : IntKind.i64.wrap (x + 1) = y at *
      have e1 : decide (xs.length ≤ k) = false := by simp; omega
      have e2 : (y != y) = false := by simp
      go_wp2_with fail
      go_big_quiet (fail)
      go_wp2_with fail
      go_roundw
      case rel => exact ⟨k + 1, by omega, by go_num, OW.drewN _, HAS.drewN _, below_drewN HBEL _⟩
      case measure => simp [intOf]; omega
    · have kAr := has.blk kA (ho'.ne_blk kA (by decide)).symm
      have kBr := has.blk kB (ho'.ne_blk kB (by decide)).symm
      have mSr := has.ownA mS (mS.ne_own ho' (by decide))
      have mXr := has.ownA mX nX
      have oSr := has.ownA oS (oS.ne_own ho' (by decide))
      have oXr := has.ownA oX nX2
      have r1 := h1.below hbel
      have r2 := h2.below hbel
      obtain ⟨q0, q1⟩ := box2 k1r
      clear has ow k1 kA kB kC mS mX oS oX ho ho' b1
      rcases hr : rightB zs with _ | _
      · have HR := Lib.hid hr
        have hrt : tRightB zs xs = false := by simp [tRightB, hr]
        rw [show mkE zs = 20 from by simp [mkE, hr], show ofE zs xs = 20 from by simp [ofE, hrt]]
        have HM : Hid (mkX zs fill = []) := Lib.hid (by simp [mkX, hr])
        rw [HM.out] at kAr
        obtain ⟨p0, p1⟩ := box2 kAr
        clear hr hrt
        go_wp2_with fail
        refine (ref_right A c zs wr (by omega) r1).mono ?_
        rintro e w11 ⟨rfl, rfl⟩
        rw [HR.out]
        go_wp2_with fail
        refine (l04_awake _).mono ?_
        rintro e w11 ⟨rfl, hb⟩
        go_wp2_with fail
        go_ret
        exact ⟨rfl, btr hbel hb⟩
      · have HR := Lib.hid hr
        obtain ⟨n, hn, hn1, hn6⟩ := rightB_size hr
        obtain ⟨-, r4, rin, -⟩ := (rightB_iff zs).1 hr
        have RIN := Lib.hid rin
        rw [show mkE zs = 0 from by simp [mkE, hr]]
        rw [show mkX zs fill = List.replicate n fill from by simp [mkX, hr, hn]] at kAr mXr
        rw [show mkS zs = zs from by simp [mkS, hr]] at kAr mSr
        simp only [List.length_replicate] at kAr
        have HN := Lib.hid hn
        clear hr rin hn
        obtain ⟨p0, p1⟩ := box2 kAr
        go_wp2_with fail
        refine (ref_right A c zs wr (by omega) r1).mono ?_
        rintro e w11 ⟨rfl, rfl⟩
        rw [HR.out]
        have CS := Lib.hid fun m => calls_same (ref_size A c zs (wr.drewN m) r4 RIN (r1.drewN m))
        rw [HN.out] at CS
        have CE := Lib.hid fun m => sh_equal A1 A c1 c zs zs (wr.drewN m) (by omega) (by omega) (mSr.rd.drewN m) (r1.drewN m)
        rw [decide_eq_true (rfl : zs = zs)] at CE
        have e1 : ((n : Int) != (n : Int)) = false := by simp
        go_wp2_with fail
        go_quiet ((first | (go_at_call 22; exact Calls.quiet_of_same (CS.out _)) | (go_at_call 23; exact Calls.quiet_of (CE.out _))))
        go_wp2_with fail
        go_loop [119] (fun i => ∃ j : Nat, j ≤ n ∧ i = .int .i64 j) (fun i => n - (intOf i).toNat)
        case atStart => exact ⟨0, Nat.zero_le _, rfl⟩
        case round =>
          obtain ⟨j, hj, rfl⟩ := hrel
          by_cases hlt2 : j < n
          · obtain ⟨b, off, x, rfl, hbb, hcx, hxk⟩ := mXr.rd.get (k := j) (by simpa using hlt2)
            have hxf : x = fill := by
              have := hxk.out
              rw [List.getElem?_replicate, if_pos hlt2] at this
              injection this with this; exact this.symm
            subst hxf
            have e2 : (x != x) = false := by simp
            go_wp2_with fail
            go_round
            case rel => exact ⟨j + 1, by omega, by go_num⟩
            case measure => simp [intOf]; omega
          · obtain ⟨s0, s1⟩ := box2 kBr
            rcases hrt : tRightB zs xs with _ | _
            · have HT := Lib.hid hrt
              rw [show ofE zs xs = 20 from by simp [ofE, hrt]]
              clear hrt
              have e3 : (false == false) = true := rfl
              go_wp2_with fail
              refine (l04_right A B c d zs xs _ (by omega) (r1.drewN _)).mono ?_
              rintro e w12 ⟨rfl, hb12⟩
              rw [HT.out]
              have b12 := btr hbel (undrewN hb12)
              go_wp2_with fail
              refine (l04_awake _).mono ?_
              rintro e w13 ⟨rfl, hb13⟩
              go_wp2_with fail
              go_ret
              exact ⟨rfl, btr b12 hb13⟩
            · have HT := Lib.hid hrt
              rw [show ofE zs xs = 0 from by simp [ofE, hrt]]
              rw [show ofX zs xs = xs from by simp [ofX, hrt]] at kBr oXr
              rw [show ofS zs xs = zs from by simp [ofS, hrt]] at kBr oSr
              clear hrt s0 s1
              have e3 : (true == true) = true := rfl
              go_wp2_with fail
              refine (l04_right A B c d zs xs _ (by omega) (r1.drewN _)).mono ?_
              rintro e w12 ⟨rfl, hb12⟩
              rw [HT.out]
              replace hb12 := undrewN hb12
              have b12 := btr hbel hb12
              replace kBr := kBr.keep hb12
              replace k1r := k1r.keep hb12
              clear q0 q1
              obtain ⟨q0, q1⟩ := box2 k1r
              obtain ⟨s0, s1⟩ := box2 kBr
              go_wp2_with fail
              refine (t_equal A2 B2 A B c2 d2 c d zs xs zs xs _ (by omega) (by omega) (by omega) (oSr.keep hb12).rd (oXr.keep hb12).rd (r1.below hb12) (r2.below hb12)).mono ?_
              rintro e w13 ⟨rfl, hb13⟩
              rw [show (decide (zs = zs) && decide (xs = xs)) = true from by simp]
              go_wp2_with fail
              refine (l04_awake _).mono ?_
              rintro e w14 ⟨rfl, hb14⟩
              go_wp2_with fail
              go_ret
              exact ⟨rfl, btr (btr b12 hb13) hb14⟩

end Go.Proofs.Ythcdjdhnjbdfeaa
