/- athanorlaw05's own functions. -/
import Derived.Test.YtingmabmglpmaaaPoint5
import Derived.Test.YtingmabmglpmaaaTensor4
namespace Go.Proofs.Ytingmabmglpmaaa
open Go.RowKit

/-- A tensor and an error, its lengths spelled apart. -/
def RetTm (w : World) (n m : Nat) (zs xs : List Int) (E : Int) (e : Ending) (w' : World) : Prop :=
  ∃ A c B d, e = .returned (.tuple #[.agg #[.slice A n c, .slice B m d], .int .i64 E]) ∧ Sl w' A n zs ∧ Sl w' B m xs ∧ Le m d ∧ Prev w' w
theorem retTm {P : Program} {f : Nat} {args : Array Value} {w : World} {zs xs : List Int} {E : Int} (h : Calls P f args w (RetTS w zs xs E)) {n m : Nat} (hn : n = zs.length) (hm : m = xs.length) : Calls P f args w (RetTm w n m zs xs E) := by
  subst hn hm
  exact h.mono fun _ _ ⟨A, c, B, d, he, h1, h2, h3, h4⟩ => ⟨A, c, B, d, he, h1, h2, ⟨h3⟩, h4⟩
/-- One tensor of known numbers in memory of its own. -/
def RetL1 (w : World) (n m : Nat) (z X : List Int) (e : Ending) (w' : World) : Prop :=
  ∃ G g g', e = .returned (.tuple #[.slice (some ⟨G, 0, none⟩) 1 1, .int .i64 0]) ∧ Bx w' G 26 #[.slice (some ⟨g, 0, none⟩) n n, .slice (some ⟨g', 0, none⟩) m m] ∧ Sl w' (some ⟨g, 0, none⟩) n z ∧ Sl w' (some ⟨g', 0, none⟩) m X ∧ Bx w' g' 38 (ints X) ∧ Prev w' w
section
variable {w : World} {A B C D : Option Addr} {n m c d n' m' c' d' : Nat} {zs xs zg xg : List Int} {ts : List Tn} {kind kk : Int}
theorem aT_ofL [a : Sl w A n zs] [b : Sl w B m xs] (hn : n ≤ 1000000) (hm : m ≤ 1000000) (h : tRightB zs xs = true) : Calls Try.prog 40 #[.slice A n c, .slice B m d] w (RetTm w n m zs xs 0) :=
  retTm (aT_of_yes hn hm h) a.len b.len
theorem go5 [a : Ts w A n' ts] [I6 kk] (n m : Nat) (Z X : List Int) (hz : ∀ t ∈ ts, t.zs.length ≤ 1000000) (hE : goodE kind ts = 0) (hZ : Z = zs0 ts) (hX : X = goL kind kk ts (xs0 ts).length) (hn : n = Z.length) (hm : m = X.length) : Calls Try.prog 30 #[.int .i64 kind, .int .i64 kk, .slice A n' c] w (RetTm w n m Z X 0) :=
  retTm (pt_go_yes (Lib.hid hz) hE (Lib.hid hZ) (Lib.hid hX)) hn hm
theorem back5 [a : Ts w A 1 ts] [I6 kk] [sG : Sl w B n' zg] [xG : Sl w C m' xg] [iG : I6s xg] (n m : Nat) (Z X : List Int) (hp : n' ≤ 1000000) (hz : ∀ t ∈ ts, t.zs.length ≤ 1000000) (hE : goodE kind ts = 0) (hr : tRightB zg xg = true) (hs : zg = zs0 ts) (hZ : Z = zs0 ts) (hX : X = bkX kind kk ts xg (xs0 ts).length) (hn : n = Z.length) (hm : m = X.length) :
    Calls Try.prog 35 #[.int .i64 kind, .int .i64 kk, .agg #[.slice B n' d, .slice C m' d'], .slice A 1 c] w (RetL1 w n m Z X) := by
  subst hn hm
  exact (pt_back_one hp (Lib.hid hz) hE hr hs (Lib.hid hZ) (Lib.hid hX)).mono fun _ _ ⟨G, g, g', he, _, hB, hS, hO, hp⟩ => ⟨G, g, g', he, hB, ⟨hS.rd, rfl⟩, ⟨hO.rd, rfl⟩, ⟨hO⟩, hp⟩
set_option maxHeartbeats 1000000 in
theorem l05_right (A B : Option Addr) (c d : Nat) (zs xs : List Int) (w : World) (hz : zs.length ≤ 1000000) (h : Rd w A zs) :
    Calls Try.prog 36 #[.agg #[.slice A zs.length c, .slice B xs.length d]] w (RetB w (.bool (tRightB zs xs))) := by
  have k0 := Blk.new w 26 #[.slice A zs.length c, .slice B xs.length d]
  obtain ⟨q0, q1⟩ := box2 k0
  have CR := Lib.hid fun n => calls_same (ref_right A c zs ((w.alloc (.cells #[.slice A zs.length c, .slice B xs.length d] 26)).drewN n) hz ((h.alloc _).drewN n))
  rcases hr : rightB zs with _ | _
  · have HV : Hid (tRightB zs xs = false) := Lib.hid (by simp [tRightB, hr])
    rw [hr] at CR
    clear hr
    go_enter Try.func36, Try.ntmps36
    go_wp2_with fail
    go_quiet ((go_at_call 20; exact Calls.quiet_of_same (CR.out _)))
    go_wp2_with fail
    go_ret
    exact ⟨ret_bool HV.out.symm, below_drewN ((Below.refl _ _).alloc (Nat.le_refl _) _) _⟩
  · have HV : Hid (tRightB zs xs = ((xs.length : Int) == prodL zs)) := Lib.hid (by simp [tRightB, hr]; exact Bool.eq_iff_iff.2 (by simp))
    obtain ⟨_, r4, rin, _⟩ := (rightB_iff zs).1 hr
    have CS := Lib.hid fun n => calls_same (ref_size A c zs ((w.alloc (.cells #[.slice A zs.length c, .slice B xs.length d] 26)).drewN n) r4 (Lib.hid rin) ((h.alloc _).drewN n))
    rw [hr] at CR
    clear hr rin
    go_enter Try.func36, Try.ntmps36
    go_wp2_with fail
    go_quiet ((first | (go_at_call 20; exact Calls.quiet_of_same (CR.out _)) | (go_at_call 21; exact Calls.quiet_of_same (CS.out _))))
    go_wp2_with fail
    go_ret
    exact ⟨ret_bool HV.out.symm, below_drewN ((Below.refl _ _).alloc (Nat.le_refl _) _) _⟩
theorem a05_right [a : Sl w A n zs] [b : Sl w B m xs] (hn : n ≤ 1000000) : Calls Try.prog 36 #[.agg #[.slice A n c, .slice B m d]] w (RetV w (.bool (tRightB zs xs))) := by
  obtain ⟨a, rfl⟩ := a
  obtain ⟨b, rfl⟩ := b
  exact retV (l05_right A B c d zs xs w hn a)

set_option maxRecDepth 100000 in
set_option maxHeartbeats 4000000 in
theorem a05_awake : Calls Try.prog 29 #[] w (RetV w (.bool true)) := by
  have CB := @cell_bx
  go_enter Try.func29, Try.ntmps29
  go_wp2_with (first | (go_at_call 40; (try first | (with_reducible refine gen_boxK3 (fun u _ _ _ _ => ?_)) | (with_reducible refine gen_boxK2 (fun u _ _ _ => ?_)) | (with_reducible refine gen_boxK (fun u _ _ => ?_))); (with_reducible refine (aT_ofL (by omega) (by omega) (by kernel_rfl)).mono ?_); rintro e u ⟨A', c', B', d', rfl, _, _, _, _⟩))
  refine gen_boxK2 (fun v1 _ _ _ => ?_)
  refine (go5 1 2 [2] [0, 2] (by simp) (by kernel_rfl) (by kernel_rfl) (by kernel_rfl) rfl rfl).mono ?_
  rintro e u1 ⟨A1, c1, B1, d1, rfl, _, y1, _, _⟩
  obtain ⟨b1, o1, rfl⟩ : ∃ b o, B1 = some ⟨b, o, none⟩ := by obtain ⟨b, o, e, -, -⟩ := y1.rd 0 0 rfl; exact ⟨b, o, e⟩
  have ob1 : Old b1 u1 := ⟨by obtain ⟨b, o, e, hb, -⟩ := y1.rd 0 0 rfl; injection e with e; injection e with e1 e2; subst e1; exact hb⟩
  have cy0 : u1.cell? ⟨b1, o1, none⟩ = some (.int .i64 0) := by simpa using y1.rd.all (k := 0) rfl
  have cy1 : u1.cell? ⟨b1, o1 + 1, none⟩ = some (.int .i64 2) := y1.rd.all (k := 1) rfl
  have CP := @cell_prev
  go_wp2_with fail
  refine gen_boxK2 (fun v2 _ _ _ => ?_)
  refine (back5 1 2 [2] [0, 7] (by omega) (by simp) (by kernel_rfl) (by kernel_rfl) (by kernel_rfl) (by kernel_rfl) (by kernel_rfl) rfl rfl).mono ?_
  rintro e u2 ⟨G, g, g', rfl, kG, -, x2, kX, _⟩
  have cg0 : u2.cell? ⟨g', 0, none⟩ = some (.int .i64 0) := kX.blk.cell 0
  have cg1 : u2.cell? ⟨g', 1, none⟩ = some (.int .i64 7) := kX.blk.cell 1
  have og : Old g' u2 := ⟨kX.blk.lt⟩
  clear kX
  go_wp2_with fail
  refine gen_boxK (fun v3 _ _ => ?_)
  refine (pt_go_no (E := 21) (Lib.hid (by simp)) (by kernel_rfl) rfl).mono ?_
  rintro e u3 ⟨A', c', B', d', rfl, _, _, hd', _⟩
  go_wp2_with (first | (go_at_call 50; (try first | (with_reducible refine gen_boxK3 (fun u _ _ _ _ => ?_)) | (with_reducible refine gen_boxK2 (fun u _ _ _ => ?_)) | (with_reducible refine gen_boxK (fun u _ _ => ?_))); (with_reducible refine (pt_ins).mono ?_); rintro e u ⟨rfl, _⟩))
  go_ret
  exact ⟨rfl, prev_bel _ _⟩
end

end Go.Proofs.Ytingmabmglpmaaa
