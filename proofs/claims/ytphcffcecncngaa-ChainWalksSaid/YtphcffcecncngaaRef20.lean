/- The references of athanorlaw20: athanorref17.Right, athanorref18.Has, sum, with, without. -/
import Derived.Test.YtphcffcecncngaaChain
import Derived.Test.YtphcffcecncngaaChainPlanMath
import Derived.Test.YtphcffcecncngaaCode
import Derived.Test.YtphcffcecncngaaAppend2
namespace Go.Proofs.Ytphcffcecncngaa
open Go.RowKit

section
variable {w w' : World} {A B : Option Addr} {n m p q k kq : Nat} {c : Ch} {l : List Int} {x : Int}
set_option maxRecDepth 100000 in
set_option maxHeartbeats 4000000 in
theorem r17_node {kind id : Int} (h : Hid (kind = 1 ∨ kind = 2 ∨ kind = 3 ∨ kind = 6)) : Calls Try.prog 53 #[.int .i64 kind, .int .i64 id] w (RetV w (.bool (insR kind id))) := by
  have CB := @cell_bx
  have CP := @cell_prev
  have HT := Lib.hid (insR_node (id := id) h.out)
  by_cases h1 : 1 ≤ id
  · by_cases h2 : id ≤ 512
    · have HN : Hid (insR kind id = true) := Lib.hid (by rw [HT.out, decide_eq_true h1, decide_eq_true h2]; rfl)
      rcases h.out with rfl | rfl | rfl | rfl
      all_goals
        go_enter Try.func53, Try.ntmps53
        go_wp2_with fail
        go_ret
        exact ⟨by rw [HN.out]; rfl, prev_bel _ _⟩
    · have HN : Hid (insR kind id = false) := Lib.hid (by rw [HT.out, decide_eq_true h1, decide_eq_false h2]; rfl)
      rcases h.out with rfl | rfl | rfl | rfl
      all_goals
        go_enter Try.func53, Try.ntmps53
        go_wp2_with fail
        go_ret
        exact ⟨by rw [HN.out]; rfl, prev_bel _ _⟩
  · have HN : Hid (insR kind id = false) := Lib.hid (by rw [HT.out, decide_eq_false h1]; rfl)
    rcases h.out with rfl | rfl | rfl | rfl
    all_goals
      go_enter Try.func53, Try.ntmps53
      go_wp2_with fail
      go_ret
      exact ⟨by rw [HN.out]; rfl, prev_bel _ _⟩
set_option maxRecDepth 100000 in
set_option maxHeartbeats 4000000 in
theorem r17_zero {kind id : Int} (h : Hid (kind = 4 ∨ kind = 5)) : Calls Try.prog 53 #[.int .i64 kind, .int .i64 id] w (RetV w (.bool (insR kind id))) := by
  have CB := @cell_bx
  have CP := @cell_prev
  have HT := Lib.hid (insR_zero (id := id) h.out)
  rcases h.out with rfl | rfl
  all_goals
    go_enter Try.func53, Try.ntmps53
    go_wp2_with fail
    go_ret
    exact ⟨by rw [HT.out]; rfl, prev_bel _ _⟩
set_option maxRecDepth 100000 in
set_option maxHeartbeats 4000000 in
theorem r17_no {kind id : Int} (h : Hid (insR kind id = false)) (k1 : (kind == 1) = false) (k2 : (kind == 2) = false) (k3 : (kind == 3) = false) (k4 : (kind == 4) = false) (k5 : (kind == 5) = false) (k6 : (kind == 6) = false) :
    Calls Try.prog 53 #[.int .i64 kind, .int .i64 id] w (RetV w (.bool (insR kind id))) := by
  have CB := @cell_bx
  have CP := @cell_prev
  go_enter Try.func53, Try.ntmps53
  go_wp2_with fail
  go_ret
  exact ⟨by rw [h.out]; rfl, prev_bel _ _⟩
theorem r17_right {kind id : Int} : Calls Try.prog 53 #[.int .i64 kind, .int .i64 id] w (RetV w (.bool (insR kind id))) := by
  by_cases h : kind = 1 ∨ kind = 2 ∨ kind = 3 ∨ kind = 6
  · exact r17_node (Lib.hid h)
  · by_cases h' : kind = 4 ∨ kind = 5
    · exact r17_zero (Lib.hid h')
    · have : ∀ j : Int, (j = 1 ∨ j = 2 ∨ j = 3 ∨ j = 4 ∨ j = 5 ∨ j = 6) → (kind == j) = false := fun j hj => by
        rw [beq_eq_false_iff_ne]; omega
      exact r17_no (Lib.hid (by unfold insR; rw [if_neg h', if_neg h])) (this 1 (by simp)) (this 2 (by simp)) (this 3 (by simp)) (this 4 (by simp)) (this 5 (by simp)) (this 6 (by simp))
theorem has_step {k : Nat} {z : Int} (h : (l.take k).contains x = false) (e : l[k]? = some z) : (l.take (k + 1)).contains x = (z == x) := by
  rw [List.take_add_one, e, Option.toList_some]
  rw [← Bool.not_eq_true, List.contains_iff_mem] at h
  by_cases hz : z = x
  · subst hz
    rw [Ch.contains_yes (by simp)]; simp
  · rw [Ch.contains_not (by simp only [List.mem_append, List.mem_singleton]; rintro (h' | h'); exact h h'; exact hz h'.symm)]
    exact (beq_eq_false_iff_ne.2 hz).symm
theorem has_take {k : Nat} {z : Int} (e : l[k]? = some z) (hz : z = x) : l.contains x = true := Ch.contains_yes (by rw [← hz]; exact List.mem_of_getElem? e)
set_option maxRecDepth 100000 in
set_option maxHeartbeats 4000000 in
theorem r18_has [a : Sl w A k l] (hk : k ≤ 1000000) : Calls Try.prog 90 #[.slice A k kq, .int .i64 x] w (RetV w (.bool (l.contains x))) := by
  have CB := @cell_bx
  have CP := @cell_prev
  have HK : Hid (k = l.length) := Lib.hid a.len
  go_enter Try.func90, Try.ntmps90
  go_wp2_with fail
  go_loopw [5] (fun i wr => ∃ j : Nat, j ≤ k ∧ i = .int .i64 j ∧ Hid ((l.take j).contains x = false) ∧ Prev wr w) (fun i _ => k - (intOf i).toNat)
  case atStart => exact ⟨0, Nat.zero_le _, rfl, Lib.hid rfl, prev_bel _ _⟩
  case round =>
    obtain ⟨j, hj, rfl, HV, hp⟩ := hrel
    by_cases hlt : j < k
    · obtain ⟨b1, o1, z, rfl, ob1, v1, e1⟩ := a.get hlt
      by_cases hz : z = x
      · have HT : Hid (l.contains x = true) := Lib.hid (has_take e1.out hz)
        have t1 : (z == x) = true := by simpa using hz
        clear hz e1
        go_wp2_with fail
        go_ret
        exact ⟨by rw [HT.out]; rfl, prev_bel _ _⟩
      · have t1 : (z == x) = false := by simpa using hz
        have HV2 := Lib.hid ((has_step HV.out e1.out).trans t1)
        clear hz e1
        go_wp2_with fail
        go_roundw
        case rel => exact ⟨j + 1, by omega, by go_num, HV2, prev_bel _ _⟩
        case measure => simp [intOf]; omega
    · have HT : Hid (l.contains x = false) := Lib.hid (by have := HV.out; rwa [List.take_of_length_le (by rw [← HK.out]; omega)] at this)
      go_wp2_with fail
      go_ret
      exact ⟨by rw [HT.out]; rfl, prev_bel _ _⟩
theorem r18_hasV {v : Bool} [a : Sl w A k l] (hk : k ≤ 1000000) (hv : Hid (l.contains x = v)) : Calls Try.prog 90 #[.slice A k kq, .int .i64 x] w (RetV w (.bool v)) := by
  rw [← hv.out]
  exact r18_has hk
/-- A new list. -/
def RetL (w : World) (l : List Int) (N : Nat) (e : Ending) (w' : World) : Prop := ∃ A c L, e = .returned (.slice A (List.length L) c) ∧ Hid (L = l) ∧ L.length ≤ N ∧ Sl w' A L.length L ∧ OwnA w' w.heap.size 3 A c L ∧ Prev w' w
set_option maxRecDepth 100000 in
set_option maxHeartbeats 4000000 in
theorem r20_with [a : Sl w A k l] (hk : k ≤ 1000000) : Calls Try.prog 92 #[.slice A k kq, .int .i64 x] w (RetL w (l ++ [x]) (k + 1)) := by
  have CB := @cell_bx
  have CP := @cell_prev
  have HK : Hid (k = l.length) := Lib.hid a.len
  have hl : l.length ≤ 1000000 := by rw [← HK.out]; exact hk
  go_enter Try.func92, Try.ntmps92
  go_wp2_with (at_builtin; first | (refine wpList_appendA rfl _ _ _ rfl 3 Try.underlying22 (by kernel_rfl) w.heap.size none 0 [] rfl (OwnA.nil _ _ _) A k _ l HK.out.symm rfl a.rd (by simp; omega) (Nat.le_refl _) ?_; intro A2 c2 w2 ho2 hb2 hfr2 hsz2) | (refine wpList_pushI rfl _ _ _ rfl 3 Try.underlying22 (by kernel_rfl) w.heap.size A2 c2 ([] ++ l) rfl ho2 x rfl (by simp; omega) hb2.size ?_; intro A3 c3 w3 ho3 hb3 hfr3 hsz3))
  go_ret
  rw [List.nil_append] at ho3
  exact ⟨A3, c3, l ++ [x], by simp, Lib.hid rfl, by rw [List.length_append, HK.out]; exact Nat.le_refl _, ⟨ho3.rd, rfl⟩, ho3, ⟨hb2.trans hb3⟩⟩
theorem wout_keep {j : Nat} {z : Int} (e : l[j]? = some z) (h : z ≠ x) : Ch.wout (l.take (j + 1)) x = Ch.wout (l.take j) x ++ [z] := by
  unfold Ch.wout
  rw [List.take_add_one, e, Option.toList_some, List.filter_append]
  simp [h]
theorem wout_drop {j : Nat} {z : Int} (e : l[j]? = some z) (h : z = x) : Ch.wout (l.take (j + 1)) x = Ch.wout (l.take j) x := by
  unfold Ch.wout
  rw [List.take_add_one, e, Option.toList_some, List.filter_append]
  simp [h]
theorem wout_len : (Ch.wout l x).length ≤ l.length := List.length_filter_le _ _
set_option maxRecDepth 100000 in
set_option maxHeartbeats 4000000 in
theorem r20_without [a : Sl w A k l] (hk : k ≤ 1000000) : Calls Try.prog 93 #[.slice A k kq, .int .i64 x] w (RetL w (Ch.wout l x) k) := by
  have CB := @cell_bx
  have CP := @cell_prev
  have HK : Hid (k = l.length) := Lib.hid a.len
  go_enter Try.func93, Try.ntmps93
  go_wp2_with fail
  go_loopw [5, 6] (fun s i wr => ∃ (j : Nat) (L : List Int) (A1 : Option Addr) (c1 : Nat), j ≤ k ∧ i = .int .i64 j ∧ s = .slice A1 L.length c1 ∧ Hid (Ch.wout (l.take j) x = L) ∧ Hid (OwnA wr w.heap.size 3 A1 c1 L) ∧ Prev wr w) (fun _ i _ => k - (intOf i).toNat)
  case atStart => exact ⟨0, [], none, 0, Nat.zero_le _, rfl, rfl, Lib.hid rfl, Lib.hid (OwnA.nil _ _ _), prev_bel _ _⟩
  case round =>
    obtain ⟨j, L, A1, c1, hj, rfl, rfl, HV, HO, hp⟩ := hrel
    by_cases hlt : j < k
    · obtain ⟨b1, o1, z, rfl, ob1, v1, e1⟩ := a.get hlt
      by_cases hz : z = x
      · have t1 : (z != x) = false := by simpa using hz
        have HV2 : Hid (Ch.wout (l.take (j + 1)) x = L) := Lib.hid (by rw [wout_drop e1.out hz, HV.out])
        clear hz e1
        go_wp2_with fail
        go_roundw
        case rel => exact ⟨j + 1, L, A1, c1, by omega, by go_num, rfl, HV2, HO, prev_bel _ _⟩
        case measure => simp [intOf]; omega
      · have t1 : (z != x) = true := by simpa using hz
        have HV2 : Hid (Ch.wout (l.take (j + 1)) x = L ++ [z]) := Lib.hid (by rw [wout_keep e1.out hz, HV.out])
        have hL : L.length ≤ 1000000 := by
          rw [← HV.out]
          exact Nat.le_trans wout_len (by rw [List.length_take]; omega)
        have hle : w.heap.size ≤ wr.heap.size := later_size
        clear hz e1
        go_wp2_with (at_builtin; refine wpList_pushI rfl _ _ _ rfl 3 Try.underlying22 (by kernel_rfl) w.heap.size A1 c1 L rfl HO.out z rfl (by omega) hle ?_; intro A3 c3 w3 ho3 hb3 hfr3 hsz3)
        go_roundw
        case rel => exact ⟨j + 1, L ++ [z], A3, c3, by omega, by go_num, by rw [List.length_append]; rfl, HV2, Lib.hid ho3, ⟨(bel w wr).trans hb3⟩⟩
        case measure => simp [intOf]; omega
    · have HT : Hid (Ch.wout l x = L) := Lib.hid (by have := HV.out; rwa [List.take_of_length_le (by rw [← HK.out]; omega)] at this)
      go_wp2_with fail
      go_ret
      exact ⟨A1, c1, L, rfl, Lib.hid HT.out.symm, by rw [← HT.out, HK.out]; exact wout_len, ⟨HO.out.rd, rfl⟩, HO.out, prev_bel _ _⟩
theorem Ch.Ok.sumW_2 (h : c.Ok) : ∀ l : List Int, c.sumW l ≤ 65536 * (l.length : Int)
  | [] => by simp [Ch.sumW]
  | i :: l => by have := h.sumW_2 l; have := h.w_2 i.toNat; simp only [Ch.sumW, List.length_cons]; omega
theorem Ch.Ok.sumW_00 (h : c.Ok) : ∀ l : List Int, 0 ≤ c.sumW l
  | [] => by simp [Ch.sumW]
  | i :: l => by have := h.sumW_00 l; have := h.w_0 i.toNat; simp only [Ch.sumW]; omega
set_option maxRecDepth 100000 in
set_option maxHeartbeats 4000000 in
theorem r20_sum (hok : Hid c.Ok) [a : Sl w A n c.W] [b : Sl w B k l] (hk : k ≤ 1000000) (hr : Hid (∀ x ∈ l, 0 ≤ x ∧ x < (n : Int))) : Calls Try.prog 91 #[.slice A n p, .slice B k kq] w (RetV w (.int .i64 (c.sumW l))) := by
  have CB := @cell_bx
  have CP := @cell_prev
  have HK : Hid (k = l.length) := Lib.hid b.len
  go_enter Try.func91, Try.ntmps91
  go_wp2_with fail
  go_loopw [5, 6] (fun s i wr => ∃ (j : Nat) (S : Int), j ≤ k ∧ i = .int .i64 j ∧ s = .int .i64 S ∧ Hid (c.sumW (l.take j) = S) ∧ Prev wr w) (fun _ i _ => k - (intOf i).toNat)
  case atStart => exact ⟨0, 0, Nat.zero_le _, rfl, rfl, Lib.hid rfl, prev_bel _ _⟩
  case round =>
    obtain ⟨j, S, hj, rfl, rfl, HV, hp⟩ := hrel
    by_cases hlt : j < k
    · obtain ⟨b1, o1, z, rfl, ob1, v1, e1⟩ := b.get hlt
      have hz := hr.out z (List.mem_of_getElem? e1.out)
      obtain ⟨d, rfl⟩ : ∃ d : Nat, z = d := ⟨z.toNat, by omega⟩
      have hdn : d < n := by omega
      obtain ⟨b2, o2, rfl, ob2, v2⟩ := Sl.at_w (c := c) (w := w) (A := A) (n := n) (l := d) hdn
      have s0 := hok.out.sumW_00 (l.take j)
      have s2 := hok.out.sumW_2 (l.take j)
      rw [HV.out] at s0 s2
      have hjl : (l.take j).length ≤ 1000000 := by rw [List.length_take]; omega
      have w0 := hok.out.w_0 d
      have w2 := hok.out.w_2 d
      have HN : Hid (c.sumW (l.take (j + 1)) = S + c.w d) := Lib.hid (by
        rw [List.take_add_one, e1.out, Option.toList_some, Ch.sumW_append, HV.out]
        simp [Ch.sumW])
      have hw : IntKind.i64.wrap (S + c.w d) = S + c.w d := by rw [IntKind.wrap_i64]; omega
      clear s0 s2 hjl w0 w2 e1 hz
      go_wp2_with fail
      go_roundw
      case rel => exact ⟨j + 1, S + c.w d, by omega, by go_num, rfl, HN, prev_bel _ _⟩
      case measure => simp [intOf]; omega
    · have HT : Hid (c.sumW l = S) := Lib.hid (by have := HV.out; rwa [List.take_of_length_le (by rw [← HK.out]; omega)] at this)
      go_wp2_with fail
      go_ret
      exact ⟨by rw [HT.out]; rfl, prev_bel _ _⟩
end
end Go.Proofs.Ytphcffcecncngaa
