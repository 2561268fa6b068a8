/- The walk of Shape.All and of its closures. -/
import Derived.Test.YtlnpkoggnikkbaaRange
import Derived.Test.YtlnpkoggnikkbaaNext
namespace Go.Proofs.Ytlnpkoggnikkbaa
open Go.RowKit
attribute [local go_sem] Oper.semAt_some

/-- The iterator over all places of zs is returned: a closure over two boxes. -/
def AllAt (w : World) (zs : List Int) (e : Ending) (w' : World) : Prop :=
  ∃ b1 b2 g, e = .returned (.func (.func 66) #[] #[.pointer (some ⟨b1, 0, none⟩), .pointer (some ⟨b2, 0, none⟩)]) ∧ w.heap.size ≤ b1 ∧ w.heap.size ≤ b2 ∧ w.heap.size ≤ g ∧
    Blk w' b1 3 #[.int .i64 (prodL zs)] ∧ Blk w' b2 23 #[.slice (some ⟨g, 0, none⟩) zs.length zs.length] ∧ Own w' g 3 zs ∧ Below w.heap.size w w'

theorem sh_all_no (A : Option Addr) (c : Nat) (zs : List Int) (w : World) (hs : zs.length ≤ 1000000) (hr : Hid (rightB zs = false)) (h : Rd w A zs) :
    Calls Try.prog 52 #[.slice A zs.length c] w fun e w' => e = .returned (.func (.func 65) #[] #[]) ∧ Below w.heap.size w w' := by
  have HS : Hid (sizeV zs = 0 ∧ sizeE zs = 20) := Lib.hid (by simp [sizeV, sizeE, hr.out])
  go_enter Try.func52, Try.ntmps52
  go_wp2_with fail
  refine (sh_size A c zs w hs h).mono ?_
  rintro e w1 ⟨rfl, hb⟩
  rw [HS.out.1, HS.out.2]
  go_wp2_with fail
  go_ret
  exact ⟨rfl, hb.alloc hb.size _⟩

theorem sh_all_yes (A : Option Addr) (c : Nat) (zs : List Int) (w : World) (hs : zs.length ≤ 1000000) (hr : Hid (rightB zs = true)) (h : Rd w A zs) :
    Calls Try.prog 52 #[.slice A zs.length c] w (AllAt w zs) := by
  have HS : Hid (sizeV zs = prodL zs ∧ sizeE zs = 0) := Lib.hid (by simp [sizeV, sizeE, hr.out])
  go_enter Try.func52, Try.ntmps52
  go_wp2_with fail
  refine (sh_size A c zs w hs h).mono ?_
  rintro e w1 ⟨rfl, hb⟩
  rw [HS.out.1, HS.out.2]
  have hb1 := hb.alloc hb.size (.cells #[.int .i64 (prodL zs)] 3)
  have k1 := Blk.new w1 3 #[.int .i64 (prodL zs)]
  go_wp2_with fail
  refine (sh_copy A c zs _ hs (h.below hb1)).mono ?_
  rintro e w2 ⟨g, rfl, hg, ho, hb2⟩
  have k2 := k1.keep hb2
  have hb3 := btr hb1 hb2
  clear k1
  go_wp2_with fail
  go_ret
  have hs1 := hb.size
  have hs3 := hb3.size
  simp at hg
  exact ⟨w1.heap.size, w2.heap.size, g, rfl, by omega, by omega, by omega, k2.alloc _, Blk.new _ _ _, ho.alloc _, hb3.alloc hs3 _⟩

/-- What a round is handed: the number of a place and a slice of its indices. -/
def allEnc (zs : List Int) (x : Nat × Nat) : Array Value := #[.int .i64 x.1, .slice (some ⟨x.2, 0, none⟩) zs.length zs.length]
def AllPx (zs : List Int) (pre : List (Nat × Nat)) (x : Nat × Nat) (W : World) : Prop := x.1 = pre.length ∧ (x.1 : Int) < prodL zs ∧ Own W x.2 3 (idx zs x.1)

set_option maxHeartbeats 1000000 in
theorem all2_told (zs : List Int) (w : World) (b1 b2 g : Nat) (hs : zs.length ≤ 1000000) (hin : Hid (inSides zs = true)) (hp : 0 ≤ prodL zs) (hp' : prodL zs ≤ 65536)
    (k1 : Blk w b1 3 #[.int .i64 (prodL zs)]) (k2 : Blk w b2 23 #[.slice (some ⟨g, 0, none⟩) zs.length zs.length]) (ho : Own w g 3 zs) :
    Told Try.prog 66 #[.pointer (some ⟨b1, 0, none⟩), .pointer (some ⟨b2, 0, none⟩)] (allEnc zs) (AllPx zs) (fun k => k = b1 ∨ k = b2 ∨ k = g)
      (fun xs => (xs.length : Int) = prodL zs) (fun pre => (pre.length : Int) ≤ prodL zs) w := by
  intro l J Jx W hb hJ hJx hY h0
  have k1' := k1.keep hb
  have c1 := k1'.cell 0
  have k2' := k2.keep hb
  have ho' := ho.keep hb
  refine callsIn_of_wp Try.func66 rfl trivial ?_
  simp only [Try.ntmps66, List.size_toArray, List.length_cons, List.length_nil, Nat.reduceAdd, Nat.reduceSub, Array.replicate_succ, Array.replicate_zero, List.push_toArray, List.append_toArray, List.nil_append, List.cons_append]
  gi_wp2
  gi_loopw [6] (fun i wr => ∃ pre : List (Nat × Nat), i = .int .i64 pre.length ∧ (pre.length : Int) ≤ prodL zs ∧ J pre wr ∧ Held (fun k => k = b1 ∨ k = b2 ∨ k = g) W wr) (fun i _ => (prodL zs - intOf i).toNat)
  case atStart => exact ⟨[], rfl, by simpa using hp, h0, fun _ _ => rfl⟩
  case round =>
    obtain ⟨pre, rfl, hle, hJp, hheld⟩ := hrel
    by_cases hlt : (pre.length : Int) < prodL zs
    · have k2w : Blk wr b2 23 #[.slice (some ⟨g, 0, none⟩) zs.length zs.length] := (hheld b2 (.inr (.inl rfl))).trans k2'
      have hog : Own wr g 3 zs := (hheld g (.inr (.inr rfl))).trans ho'
      have c2 := k2w.cell 0
      have CI := Lib.hid (sh_indices (some ⟨g, 0, none⟩) zs.length zs (pre.length : Int) wr hs hin (by omega) (by omega) hog.rd)
      gi_wp2
      refine ⟨trivial, (callsIn_wide.2 CI.out).mono ?_⟩
      rintro e w1 ⟨gx, rfl, hgx, hox, hbx⟩
      rw [idx_length]
      have hJ1 := hJ pre _ _ hJp hbx
      obtain ⟨fn, tmps, assign, body, hy, hR⟩ := hY pre (pre.length, gx) w1 hJ1 ⟨rfl, hlt, hox⟩
      simp only [allEnc] at hy
      gi_wp2
      refine hR.mono ?_
      rintro e W' (⟨rfl, hJ', hk⟩ | ⟨rfl, hJx'⟩)
      · gi_wp2
        go_roundw
        case rel =>
          refine ⟨pre ++ [(pre.length, gx)], by simp, by simp; omega, hJ', fun k hk' => ?_⟩
          rw [hk k hk', ← hheld k hk']
          refine hbx.block k ?_
          rcases hk' with rfl | rfl | rfl
          · have h1 : wr.heap[k]? = _ := (hheld k (.inl rfl)).trans k1'
            exact (Array.getElem?_eq_some_iff.1 h1).1
          · exact k2w.lt
          · exact hog.lt
        case measure => simp [intOf]; omega
      · gi_wp2
        refine bodyPost_ret (results_none rfl _ _ _) rfl ?_
        exact ⟨⟨_, rfl⟩, .inr ⟨_, by simp; omega, hJx'⟩⟩
    · gi_wp2
      go_end0
      exact ⟨⟨_, rfl⟩, .inl ⟨pre, by omega, hJp⟩⟩

end Go.Proofs.Ytlnpkoggnikkbaa
