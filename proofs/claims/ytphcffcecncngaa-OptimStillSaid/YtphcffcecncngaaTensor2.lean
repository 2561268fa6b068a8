/- The walks of package tensor: Make, Get, With. -/
import Derived.Test.YtphcffcecncngaaTensor
namespace Go.Proofs.Ytphcffcecncngaa
open Go.RowKit

theorem fill_step {n k : Nat} {v : Int} (hk : k < n) : (List.replicate k v ++ List.replicate (n - k) 0).set k v = List.replicate (k + 1) v ++ List.replicate (n - (k + 1)) 0 := by
  rw [List.set_append_right _ _ (by simp)]
  simp only [List.length_replicate, Nat.sub_self]
  rw [show n - k = (n - (k + 1)) + 1 from by omega, List.replicate_succ, List.set_cons_zero, List.replicate_succ', List.append_assoc]
  rfl
theorem fill_at {n k : Nat} {v : Int} (hk : k < n) : (List.replicate k v ++ List.replicate (n - k) 0)[k]? = some 0 := by
  rw [List.getElem?_append_right (by simp), List.getElem?_replicate, if_pos (by simp; omega)]

theorem rightB_size {zs : List Int} (h : rightB zs = true) : ∃ n : Nat, prodL zs = (n : Int) ∧ 1 ≤ n ∧ n ≤ 65536 := by
  obtain ⟨_, h4, hin, hp⟩ := (rightB_iff zs).1 h
  have h1 := (prodL_bd4 zs hin h4).1
  exact ⟨(prodL zs).toNat, by omega, by omega, by omega⟩

set_option maxRecDepth 100000 in
set_option maxHeartbeats 1000000 in
theorem t_make_no (A : Option Addr) (c : Nat) (zs : List Int) (fill : Int) (w : World) (hs : zs.length ≤ 1000000) (h : Rd w A zs) (hr : Hid (rightB zs = false)) :
    Calls Try.prog 47 #[.slice A zs.length c, .int .i64 fill] w (RetTE w [] [] 20) := by
  have B0 := (Below.refl w.heap.size w).alloc (Nat.le_refl _) (.cells #[.slice none 0 0, .slice none 0 0] 65)
  have k0 := Blk.new w 65 #[.slice none 0 0, .slice none 0 0]
  have HS : Hid (sizeV zs = 0 ∧ sizeE zs = 20) := Lib.hid (by simp [sizeV, sizeE, hr.out])
  go_enter Try.func47, Try.ntmps47
  go_wp2_with fail
  refine (sh_size A c zs _ hs (h.below B0)).mono ?_
  rintro e w1 ⟨rfl, hb⟩
  rw [HS.out.1, HS.out.2]
  have k1 := k0.keep hb
  have B1 := btr B0 hb
  obtain ⟨q0, q1⟩ := box2 k1
  have f0 := k1.frozen 0
  have f1 := k1.frozen 1
  clear k0
  go_wp2_with fail
  have k3 := k1.set2 (.slice none 0 0) (.slice none 0 0)
  have B3 := bset2 B1 (Nat.le_refl _) (.slice none 0 0) (.slice none 0 0)
  clear q0 q1
  obtain ⟨q0, q1⟩ := box2 k3
  refine bodyPost_ret (v := .tuple #[.agg #[.slice none 0 0, .slice none 0 0], .int .i64 20]) (by simp [results, Try.results47, go_sem, q0, q1]) rfl ?_
  exact RetTE.no rfl rfl B3 _ rfl

/-- A tensor that has just been made, and no error. -/
def RetMk (w : World) (zs xs : List Int) (e : Ending) (w' : World) : Prop :=
  ∃ g g', e = .returned (.tuple #[.agg #[.slice (some ⟨g, 0, none⟩) zs.length zs.length, .slice (some ⟨g', 0, none⟩) xs.length xs.length], .int .i64 0]) ∧ w.heap.size ≤ g ∧ w.heap.size ≤ g' ∧ Own w' g 3 zs ∧ Own w' g' 45 xs ∧ Below w.heap.size w w'
set_option maxRecDepth 100000 in
set_option maxHeartbeats 1000000 in
theorem t_make_row (A : Option Addr) (c : Nat) (zs : List Int) (fill : Int) (n : Nat) (w : World) (hs : zs.length ≤ 1000000) (h : Rd w A zs) (hr : Hid (rightB zs = true)) (hn : Hid (prodL zs = (n : Int))) :
    Calls Try.prog 47 #[.slice A zs.length c, .int .i64 fill] w (RetMk w zs (List.replicate n fill)) := by
  obtain ⟨r1, r4, rin, rpr⟩ := (rightB_iff zs).1 hr.out
  have hn6 : n ≤ 65536 := by have := hn.out; omega
  clear rin rpr
  have B0 := (Below.refl w.heap.size w).alloc (Nat.le_refl _) (.cells #[.slice none 0 0, .slice none 0 0] 65)
  have k0 := Blk.new w 65 #[.slice none 0 0, .slice none 0 0]
  have HS : Hid (sizeV zs = (n : Int) ∧ sizeE zs = 0) := Lib.hid (by simp [sizeV, sizeE, hr.out, hn.out])
  have hmk := fun W => run_make_row' (P := Try.prog) 63 45 (.int .i64 0) 8 Try.underlying63 (by kernel_rfl) rfl .i64 .i64 n (by omega) (by omega) W
  rw [ints_made] at hmk
  go_enter Try.func47, Try.ntmps47
  go_wp2_with fail
  refine (sh_size A c zs _ hs (h.below B0)).mono ?_
  rintro e w1 ⟨rfl, hb⟩
  rw [HS.out.1, HS.out.2]
  have k1 := k0.keep hb
  have B1 := btr B0 hb
  have hsz := B1.size
  clear k0
  go_wp2_with fail
  go_loopw [23] (fun i wr => ∃ k : Nat, k ≤ n ∧ i = .int .i64 k ∧ Own wr w1.heap.size 45 (List.replicate k fill ++ List.replicate (n - k) 0) ∧ Blk wr w.heap.size 65 #[.slice none 0 0, .slice none 0 0] ∧ Below w.heap.size w wr) (fun i _ => n - (intOf i).toNat)
  case atStart => exact ⟨0, Nat.zero_le _, rfl, Own.new _ _ _, k1.alloc _, B1.alloc hsz _⟩
  case round =>
    obtain ⟨k, hk, rfl, hown, hbx, hbel⟩ := hrel
    by_cases hlt : k < n
    · have hc := hown.cell (fill_at (v := fill) hlt)
      have hf := hown.frozen k
      have HO := Lib.hid (hown.set_ k fill)
      rw [fill_step hlt] at HO
      have hne := hown.ne_blk hbx (by decide)
      have HB := Lib.hid (hbx.far (p := ⟨w1.heap.size, k, none⟩) hne.symm (.int .i64 fill))
      clear hown hbx
      go_wp2_with fail
      go_roundw
      case rel => exact ⟨k + 1, by omega, by go_num, HO.out, HB.out, hbel.setCell hsz _⟩
      case measure => simp [intOf]; omega
    · have e : List.replicate k fill ++ List.replicate (n - k) 0 = List.replicate n fill := by
        obtain rfl : k = n := by omega
        simp
      rw [e] at hown
      have HO := Lib.hid hown
      clear hown e
      go_wp2_with fail
      refine (sh_copy A c zs wr hs (h.below hbel)).mono ?_
      rintro e w2 ⟨g, rfl, hg, ho, hb2⟩
      have k2 := hbx.keep hb2
      have o2 := HO.out.keep hb2
      have B2 := btr hbel hb2
      obtain ⟨q0, q1⟩ := box2 k2
      have f0 := k2.frozen 0
      have f1 := k2.frozen 1
      have n1 := ho.ne_blk k2 (by decide)
      have n2 := o2.ne_blk k2 (by decide)
      have hbs := hbel.size
      go_wp2_with fail
      have k3 := k2.set2 (.slice (some ⟨g, 0, none⟩) zs.length zs.length) (.slice (some ⟨w1.heap.size, 0, none⟩) n n)
      have B3 := bset2 B2 (Nat.le_refl _) (.slice (some ⟨g, 0, none⟩) zs.length zs.length) (.slice (some ⟨w1.heap.size, 0, none⟩) n n)
      have o3 := ho.far2 n1 (.slice (some ⟨g, 0, none⟩) zs.length zs.length) (.slice (some ⟨w1.heap.size, 0, none⟩) n n)
      have o4 := o2.far2 n2 (.slice (some ⟨g, 0, none⟩) zs.length zs.length) (.slice (some ⟨w1.heap.size, 0, none⟩) n n)
      clear q0 q1
      obtain ⟨q0, q1⟩ := box2 k3
      refine bodyPost_ret (v := .tuple #[.agg #[.slice (some ⟨g, 0, none⟩) zs.length zs.length, .slice (some ⟨w1.heap.size, 0, none⟩) n n], .int .i64 0]) (by simp [results, Try.results47, go_sem, q0, q1]) rfl ?_
      exact ⟨_, _, by rw [List.length_replicate], by omega, by omega, o3, o4, B3⟩

theorem t_make_yes (A : Option Addr) (c : Nat) (zs : List Int) (fill : Int) (n : Nat) (w : World) (hs : zs.length ≤ 1000000) (h : Rd w A zs) (hr : Hid (rightB zs = true)) (hn : Hid (prodL zs = (n : Int))) :
    Calls Try.prog 47 #[.slice A zs.length c, .int .i64 fill] w (RetTE w zs (List.replicate n fill) 0) :=
  (t_make_row A c zs fill n w hs h hr hn).mono fun e _ ⟨_, _, he, h1, h2, o1, o2, hb⟩ =>
    RetTE.yes h1 h2 hs (by have := ((rightB_iff zs).1 hr.out).2.2.2; have := hn.out; rw [List.length_replicate]; omega) o1 o2 hb e he

end Go.Proofs.Ytphcffcecncngaa
