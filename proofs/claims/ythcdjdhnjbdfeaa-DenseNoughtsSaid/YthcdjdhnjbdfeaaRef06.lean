/- The walks of the reference of dense layers. -/
import Derived.Test.YthcdjdhnjbdfeaaLaw06
namespace Go.Proofs.Ythcdjdhnjbdfeaa
open Go.RowKit

theorem wrapN {n : Nat} (h : n ≤ 1000000) : IntKind.i64.wrap (n : Int) = (n : Int) := by rw [IntKind.wrap_i64]; omega
theorem rowzip_at {xs vs : List Int} {n k j : Nat} {x v : Int} (hj : j < n) (hx : xs[k * n + j]? = some x) (hv : vs[j]? = some v) : ((rowL n xs k).zip vs)[j]? = some (x, v) := by
  rw [List.getElem?_zip_eq_some]
  exact ⟨by rw [rowL_at hj]; exact hx, hv⟩

set_option maxRecDepth 100000 in
set_option maxHeartbeats 4000000 in
theorem r6_go (A B C : Option Addr) (a b c M : Nat) (xs ys vs : List Int) (w : World) (hM : M ≤ 1024) (hN : vs.length ≤ 1024) (HXL : Hid (xs.length = M * vs.length)) (hx6 : xs.length ≤ 65536) (HYL : Hid (ys.length = M)) (h1 : Rd w A xs) (h2 : Rd w B ys) (h3 : Rd w C vs) (hx : Hid (∀ z ∈ xs, I64 z)) (hy : Hid (∀ z ∈ ys, I64 z)) (hv : Hid (∀ z ∈ vs, I64 z)) :
    Calls Try.prog 37 #[.int .i64 M, .slice A xs.length a, .slice B ys.length b, .slice C vs.length c] w (RetA w 2 (goCells xs ys vs M)) := by
  go_enter Try.func37, Try.ntmps37
  go_wp2_with fail
  go_loopw [10, 11] (fun v i wr => ∃ (k : Nat) (A' : Option Addr) (c2 : Nat), k ≤ M ∧ i = .int .i64 k ∧ v = .slice A' (goCells xs ys vs k).length c2 ∧ OwnA wr w.heap.size 2 A' c2 (goCells xs ys vs k) ∧ Below w.heap.size w wr) (fun _ i _ => M - (intOf i).toNat)
  case atStart => exact ⟨0, none, 0, Nat.zero_le _, rfl, rfl, OwnA.nil _ _ _, Below.refl _ _⟩
  case round =>
    obtain ⟨k, A', c2, hk, rfl, rfl, hown, hbel⟩ := hrel
    by_cases hlt : k < M
    · obtain ⟨wo, rfl⟩ : ∃ wo : World, wo = wr := ⟨_, rfl⟩
      obtain ⟨S, hS⟩ : ∃ S, Hid (k * vs.length = S) := ⟨_, Lib.hid rfl⟩
      have mS : (k : Int) * (vs.length : Int) = (S : Int) := by rw [← hS.out, Int.natCast_mul]
      have hend : S + vs.length ≤ xs.length := by rw [HXL.out, ← hS.out, ← Nat.succ_mul]; exact Nat.mul_le_mul_right _ hlt
      go_wp2_with fail
      go_loopw [12, 13] (fun s i wr => ∃ (j : Nat) (q : Int), j ≤ vs.length ∧ i = .int .i64 j ∧ s = .int .i64 q ∧ Hid (q = fdot (((rowL vs.length xs k).zip vs).take j)) ∧ OwnA wr w.heap.size 2 A' c2 (goCells xs ys vs k) ∧ Below w.heap.size w wr) (fun _ i _ => vs.length - (intOf i).toNat)
      case atStart => exact ⟨0, 0, Nat.zero_le _, rfl, rfl, Lib.hid rfl, hown, hbel⟩
      case round =>
        clear hown hbel
        obtain ⟨j, q, hj, rfl, rfl, HQ, hown, hbel⟩ := hrel
        have hqi : I64 q := by rw [HQ.out]; exact fdot_bd _
        by_cases hlj : j < vs.length
        · obtain ⟨T, hT⟩ : ∃ T, Hid (S + j = T) := ⟨_, Lib.hid rfl⟩
          have mT : (S : Int) + (j : Int) = (T : Int) := by have := hT.out; omega
          have hTx : T < xs.length := by have := hT.out; omega
          have wT := wrapN (n := T) (by omega)
          have wS := wrapN (n := S) (by omega)
          obtain ⟨b1, o1, x, rfl, hb1, hc1, hxk⟩ := h1.get (k := T) hTx
          obtain ⟨b3, o3, v, rfl, hb3, hc3, hvk⟩ := h3.get (k := j) hlj
          have hxi := hx.out x (List.mem_of_getElem? hxk.out)
          have hvi := hv.out v (List.mem_of_getElem? hvk.out)
          have HZ : Hid (((rowL vs.length xs k).zip vs)[j]? = some (x, v)) := Lib.hid (rowzip_at hlj (by rw [hS.out, hT.out]; exact hxk.out) hvk.out)
          go_wp2_with fail
          have HK0 : Hid (∀ w' : World, Below (w).heap.size (w) w' → w'.cell? ⟨b1, o1 + T, none⟩ = some (.int .i64 x) ∧ w'.cell? ⟨b3, o3 + j, none⟩ = some (.int .i64 v)) := Lib.hid (fun w' hbk => ⟨(h1.below hbk).all hxk.out, (h3.below hbk).all hvk.out⟩)
          refine wp_region_held_drew (S := fun w' => w'.cell? ⟨b1, o1 + T, none⟩ = some (.int .i64 x) ∧ w'.cell? ⟨b3, o3 + j, none⟩ = some (.int .i64 v)) (by kernel_rfl) (HK0.out _ (hbel).drew) (fun _ => ?_)
          refine gen_drewH (fun wD pwD => ?_)
          have hHeld := HK0.out wD (btr (hbel) (bel _ wD))
          refine wpAnyH_on (i := 0) (d := 26) (v := ?_) rfl rfl (by kernel_rfl) (by kernel_rfl) (by kernel_rfl) (fun _ _ _ h => h) (by kernel_rfl) (by assumption) ?_ ?_
          rotate_left
          · intro w hSw
            (try dsimp only at hSw)
            go_simp
            try (with_reducible rfl)
          simp only [List.set]
          refine wpAnyH_on (i := 1) (d := 27) (v := ?_) rfl rfl (by kernel_rfl) (by kernel_rfl) (by kernel_rfl) (fun _ _ _ h => h) (by kernel_rfl) (by assumption) ?_ ?_
          rotate_left
          · intro w hSw
            (try dsimp only at hSw)
            go_simp
            try (with_reducible rfl)
          simp only [List.set]
          refine wpAnyH_on (i := 2) (d := 28) (v := ?_) rfl rfl (by kernel_rfl) (by kernel_rfl) (by kernel_rfl) (fun _ _ _ h => h) (by kernel_rfl) (by assumption) ?_ ?_
          rotate_left
          · intro w hSw
            (try dsimp only at hSw)
            go_simp
            try (with_reducible rfl)
          simp only [List.set]
          refine wpAnyH_on (i := 3) (d := 29) (v := ?_) rfl rfl (by kernel_rfl) (by kernel_rfl) (by kernel_rfl) (fun _ _ _ h => h) (by kernel_rfl) (by assumption) ?_ ?_
          rotate_left
          · intro w hSw
            (try dsimp only at hSw)
            go_simp
            try (with_reducible rfl)
          simp only [List.set]
          refine wpAnyH_on (i := 4) (d := 30) (v := ?_) rfl rfl (by kernel_rfl) (by kernel_rfl) (by kernel_rfl) (fun _ _ _ h => h) (by kernel_rfl) (by assumption) ?_ ?_
          rotate_left
          · intro w hSw
            (try dsimp only at hSw)
            go_simp
            try (with_reducible rfl)
          simp only [List.set]
          refine wpAnyH_on (i := 5) (d := 31) (v := ?_) rfl rfl (by kernel_rfl) (by kernel_rfl) (by kernel_rfl) (fun _ _ _ h => h) (by kernel_rfl) (by assumption) ?_ ?_
          rotate_left
          · intro w hSw
            (try dsimp only at hSw)
            go_simp
            try (with_reducible rfl)
          simp only [List.set]
          refine wpAnyH_on (i := 6) (d := 32) (v := ?_) rfl rfl (by kernel_rfl) (by kernel_rfl) (by kernel_rfl) (fun _ _ _ h => h) (by kernel_rfl) (by assumption) ?_ ?_
          rotate_left
          · intro w hSw
            (try dsimp only at hSw)
            go_simp
            try (with_reducible rfl)
          simp only [List.set]
          refine wpAnyH_on (i := 7) (d := 33) (v := ?_) rfl rfl (by kernel_rfl) (by kernel_rfl) (by kernel_rfl) (fun _ _ _ h => h) (by kernel_rfl) (by assumption) ?_ ?_
          rotate_left
          · intro w hSw
            (try dsimp only at hSw)
            go_simp
            try (with_reducible rfl)
          simp only [List.set]
          refine wpAnyH_on (i := 8) (d := 34) (v := ?_) rfl rfl (by kernel_rfl) (by kernel_rfl) (by kernel_rfl) (fun _ _ _ h => h) (by kernel_rfl) (by assumption) ?_ ?_
          rotate_left
          · intro w hSw
            (try dsimp only at hSw)
            go_simp
            try (with_reducible rfl)
          simp only [List.set]
          refine wpAnyH_on (i := 9) (d := 35) (v := ?_) rfl rfl (by kernel_rfl) (by kernel_rfl) (by kernel_rfl) (fun _ _ _ h => h) (by kernel_rfl) (by assumption) ?_ ?_
          rotate_left
          · intro w hSw
            (try dsimp only at hSw)
            go_simp
            try (with_reducible rfl)
          simp only [List.set]
          refine wpAnyH_on (i := 10) (d := 36) (v := ?_) rfl rfl (by kernel_rfl) (by kernel_rfl) (by kernel_rfl) (fun _ _ _ h => h) (by kernel_rfl) (by assumption) ?_ ?_
          rotate_left
          · intro w hSw
            (try dsimp only at hSw)
            go_simp
            try (with_reducible rfl)
          simp only [List.set]
          refine wpAnyH_on (i := 11) (d := 37) (v := ?_) rfl rfl (by kernel_rfl) (by kernel_rfl) (by kernel_rfl) (fun _ _ _ h => h) (by kernel_rfl) (by assumption) ?_ ?_
          rotate_left
          · intro w hSw
            (try dsimp only at hSw)
            go_simp
            try (with_reducible rfl)
          simp only [List.set]
          refine wpAnyH_on (i := 12) (d := 38) (v := ?_) rfl rfl (by kernel_rfl) (by kernel_rfl) (by kernel_rfl) (fun _ _ _ h => h) (by kernel_rfl) (by assumption) ?_ ?_
          rotate_left
          · intro w hSw
            (try dsimp only at hSw)
            go_simp
            try (with_reducible rfl)
          simp only [List.set]
          refine wpAnyH_ready (rs := [13]) (by kernel_rfl) (by simp) ?_
          refine AllReadyH.cons rfl (fun K hK => ?_) AllReadyH.nil
          go_simp
          refine (r1_mul x v _ hxi hvi).mono ?_
          rintro e wA ⟨rfl, hb⟩
          dsimp only
          have pwA := Prev.mk hb
          clear hb
          refine hK.out _ _ (HK0.out _ (btr (hbel) (bel _ _))) (fun hHeld => ?_)
          clear hK K
          try dsimp only [Act.put, List.setIfInBounds_toArray, List.set_cons_zero, List.set_cons_succ]
          refine wpAnyH_ready (rs := [14]) (by kernel_rfl) (by simp) ?_
          refine AllReadyH.cons rfl (fun K hK => ?_) AllReadyH.nil
          go_simp
          refine (retB_same (r1_add q (fmul x v) _ hqi (fmul_bd hxi hvi))).mono ?_
          rintro e wB ⟨rfl, hb⟩
          dsimp only
          have pwB := Prev.mk hb
          clear hb
          refine hK.out _ _ (HK0.out _ (btr (hbel) (bel _ _))) (fun hHeld => ?_)
          clear hK K
          try dsimp only [Act.put, List.setIfInBounds_toArray, List.set_cons_zero, List.set_cons_succ]
          refine wpAnyH_on (i := 15) (d := 12) (v := ?_) rfl rfl (by kernel_rfl) (by kernel_rfl) (by kernel_rfl) (fun _ _ _ h => h) (by kernel_rfl) (by assumption) ?_ ?_
          rotate_left
          · intro w hSw
            (try dsimp only at hSw)
            go_simp
            try (with_reducible rfl)
          simp only [List.set]
          refine wpAnyH_done (by kernel_rfl) ?_ _
          go_wp2_with fail
          go_roundw
          case rel => exact ⟨j + 1, _, by omega, by go_num, rfl, Lib.hid (by rw [take_at HZ.out, fdot_snoc, HQ.out]), hown.at, btr hbel (bel wr wB)⟩
          case measure => simp [intOf]; omega
        · obtain ⟨b2, o2, y, rfl, hb2, hc2, hyk⟩ := (h2.below hbel).get (k := k) (by rw [HYL.out]; exact hlt)
          have hyi := hy.out y (List.mem_of_getElem? hyk.out)
          have HG : Hid (fadd q y = goCell xs ys vs k) := Lib.hid (by
            rw [HQ.out, List.take_of_length_le (by simp; omega)]
            unfold goCell
            rw [List.getD_eq_getElem?_getD, hyk.out]; rfl)
          have hkl : k < ys.length := by rw [HYL.out]; exact hlt
          have hyl : ys.length ≤ 1024 := by rw [HYL.out]; exact hM
          have hgl : (goCells xs ys vs k).length ≤ 1000000000 := by rw [goCells_length]; omega
          go_wp2_with fail
          refine (r1_add q y _ hqi hyi).mono ?_
          rintro e w' ⟨rfl, rfl⟩
          rw [HG.out]
          go_wp2_with (at_builtin; refine wpList_pushI rfl _ _ _ rfl 2 Try.underlying52 (by kernel_rfl) w.heap.size A' c2 (goCells xs ys vs k) rfl hown (goCell xs ys vs k) rfl hgl hbel.size ?_; intro A3 c3 w3 ho3 hb3 _ _)
          go_roundw
          case rel => exact ⟨k + 1, A3, c3, by omega, by go_num, by rw [goCells_succ]; simp, by rw [goCells_succ]; exact ho3, hbel.trans hb3⟩
          case measure => simp [intOf]; omega
    · obtain rfl : k = M := by omega
      go_wp2_with fail
      go_ret
      exact ⟨A', c2, rfl, hown, hbel⟩

def backXP (n : Nat) (xs gs : List Int) (j : Nat) : List Int := (List.range j).map fun t => accX n xs gs t gs.length
theorem backXP_succ (n : Nat) (xs gs : List Int) (j : Nat) : backXP n xs gs (j + 1) = backXP n xs gs j ++ [accX n xs gs j gs.length] := by simp [backXP, List.range_succ]
theorem backXP_length (n : Nat) (xs gs : List Int) (j : Nat) : (backXP n xs gs j).length = j := by simp [backXP]

set_option maxRecDepth 100000 in
set_option maxHeartbeats 4000000 in
theorem r6_backX (A C : Option Addr) (a c N : Nat) (xs gs : List Int) (w : World) (hN : N ≤ 1024) (hM : gs.length ≤ 1024) (HXL : Hid (xs.length = gs.length * N)) (hx6 : xs.length ≤ 65536) (h1 : Rd w A xs) (h3 : Rd w C gs) (hx : Hid (∀ z ∈ xs, I64 z)) (hg : Hid (∀ z ∈ gs, I64 z)) :
    Calls Try.prog 43 #[.int .i64 N, .slice A xs.length a, .slice C gs.length c] w (RetA w 2 (backX N xs gs)) := by
  go_enter Try.func43, Try.ntmps43
  go_wp2_with fail
  go_loopw [7, 8] (fun v i wr => ∃ (k : Nat) (A' : Option Addr) (c2 : Nat), k ≤ N ∧ i = .int .i64 k ∧ v = .slice A' (backXP N xs gs k).length c2 ∧ OwnA wr w.heap.size 2 A' c2 (backXP N xs gs k) ∧ Below w.heap.size w wr) (fun _ i _ => N - (intOf i).toNat)
  case atStart => exact ⟨0, none, 0, Nat.zero_le _, rfl, rfl, OwnA.nil _ _ _, Below.refl _ _⟩
  case round =>
    obtain ⟨k, A', c2, hk, rfl, rfl, hown, hbel⟩ := hrel
    by_cases hlt : k < N
    · obtain ⟨wo, rfl⟩ : ∃ wo : World, wo = wr := ⟨_, rfl⟩
      go_wp2_with fail
      go_loopw [9, 10] (fun s i wr => ∃ (j : Nat) (q : Int), j ≤ gs.length ∧ i = .int .i64 j ∧ s = .int .i64 q ∧ Hid (q = accX N xs gs k j) ∧ OwnA wr w.heap.size 2 A' c2 (backXP N xs gs k) ∧ Below w.heap.size w wr) (fun _ i _ => gs.length - (intOf i).toNat)
      case atStart => exact ⟨0, 0, Nat.zero_le _, rfl, rfl, Lib.hid rfl, hown, hbel⟩
      case round =>
        clear hown hbel
        obtain ⟨j, q, hj, rfl, rfl, HQ, hown, hbel⟩ := hrel
        have hqi : I64 q := by rw [HQ.out]; exact accX_bd _ _ _ _ _
        by_cases hlj : j < gs.length
        · obtain ⟨S, hS⟩ : ∃ S, Hid (j * N = S) := ⟨_, Lib.hid rfl⟩
          have mS : (j : Int) * (N : Int) = (S : Int) := by rw [← hS.out, Int.natCast_mul]
          have hend : S + N ≤ xs.length := by rw [HXL.out, ← hS.out, ← Nat.succ_mul]; exact Nat.mul_le_mul_right _ hlj
          obtain ⟨T, hT⟩ : ∃ T, Hid (S + k = T) := ⟨_, Lib.hid rfl⟩
          have mT : (S : Int) + (k : Int) = (T : Int) := by have := hT.out; omega
          have hTx : T < xs.length := by have := hT.out; omega
          have wT := wrapN (n := T) (by omega)
          have wS := wrapN (n := S) (by omega)
          obtain ⟨b1, o1, x, rfl, hb1, hc1, hxk⟩ := h1.get (k := T) hTx
          obtain ⟨b3, o3, v, rfl, hb3, hc3, hvk⟩ := h3.get (k := j) hlj
          have hxi := hx.out x (List.mem_of_getElem? hxk.out)
          have hvi := hg.out v (List.mem_of_getElem? hvk.out)
          have HA : Hid (accX N xs gs k (j + 1) = fadd (accX N xs gs k j) (fmul x v)) := Lib.hid (accX_succ (by rw [hS.out, hT.out]; exact hxk.out) hvk.out)
          go_wp2_with fail
          have HK0 : Hid (∀ w' : World, Below (w).heap.size (w) w' → w'.cell? ⟨b1, o1 + T, none⟩ = some (.int .i64 x) ∧ w'.cell? ⟨b3, o3 + j, none⟩ = some (.int .i64 v)) := Lib.hid (fun w' hbk => ⟨(h1.below hbk).all hxk.out, (h3.below hbk).all hvk.out⟩)
          refine wp_region_held_drew (S := fun w' => w'.cell? ⟨b1, o1 + T, none⟩ = some (.int .i64 x) ∧ w'.cell? ⟨b3, o3 + j, none⟩ = some (.int .i64 v)) (by kernel_rfl) (HK0.out _ (hbel).drew) (fun _ => ?_)
          refine gen_drewH (fun wD pwD => ?_)
          have hHeld := HK0.out wD (btr (hbel) (bel _ wD))
          refine wpAnyH_on (i := 0) (d := 22) (v := ?_) rfl rfl (by kernel_rfl) (by kernel_rfl) (by kernel_rfl) (fun _ _ _ h => h) (by kernel_rfl) (by assumption) ?_ ?_
          rotate_left
          · intro w hSw
            (try dsimp only at hSw)
            go_simp
            try (with_reducible rfl)
          simp only [List.set]
          refine wpAnyH_on (i := 1) (d := 23) (v := ?_) rfl rfl (by kernel_rfl) (by kernel_rfl) (by kernel_rfl) (fun _ _ _ h => h) (by kernel_rfl) (by assumption) ?_ ?_
          rotate_left
          · intro w hSw
            (try dsimp only at hSw)
            go_simp
            try (with_reducible rfl)
          simp only [List.set]
          refine wpAnyH_on (i := 2) (d := 24) (v := ?_) rfl rfl (by kernel_rfl) (by kernel_rfl) (by kernel_rfl) (fun _ _ _ h => h) (by kernel_rfl) (by assumption) ?_ ?_
          rotate_left
          · intro w hSw
            (try dsimp only at hSw)
            go_simp
            try (with_reducible rfl)
          simp only [List.set]
          refine wpAnyH_on (i := 3) (d := 25) (v := ?_) rfl rfl (by kernel_rfl) (by kernel_rfl) (by kernel_rfl) (fun _ _ _ h => h) (by kernel_rfl) (by assumption) ?_ ?_
          rotate_left
          · intro w hSw
            (try dsimp only at hSw)
            go_simp
            try (with_reducible rfl)
          simp only [List.set]
          refine wpAnyH_on (i := 4) (d := 26) (v := ?_) rfl rfl (by kernel_rfl) (by kernel_rfl) (by kernel_rfl) (fun _ _ _ h => h) (by kernel_rfl) (by assumption) ?_ ?_
          rotate_left
          · intro w hSw
            (try dsimp only at hSw)
            go_simp
            try (with_reducible rfl)
          simp only [List.set]
          refine wpAnyH_on (i := 5) (d := 27) (v := ?_) rfl rfl (by kernel_rfl) (by kernel_rfl) (by kernel_rfl) (fun _ _ _ h => h) (by kernel_rfl) (by assumption) ?_ ?_
          rotate_left
          · intro w hSw
            (try dsimp only at hSw)
            go_simp
            try (with_reducible rfl)
          simp only [List.set]
          refine wpAnyH_on (i := 6) (d := 28) (v := ?_) rfl rfl (by kernel_rfl) (by kernel_rfl) (by kernel_rfl) (fun _ _ _ h => h) (by kernel_rfl) (by assumption) ?_ ?_
          rotate_left
          · intro w hSw
            (try dsimp only at hSw)
            go_simp
            try (with_reducible rfl)
          simp only [List.set]
          refine wpAnyH_on (i := 7) (d := 29) (v := ?_) rfl rfl (by kernel_rfl) (by kernel_rfl) (by kernel_rfl) (fun _ _ _ h => h) (by kernel_rfl) (by assumption) ?_ ?_
          rotate_left
          · intro w hSw
            (try dsimp only at hSw)
            go_simp
            try (with_reducible rfl)
          simp only [List.set]
          refine wpAnyH_on (i := 8) (d := 30) (v := ?_) rfl rfl (by kernel_rfl) (by kernel_rfl) (by kernel_rfl) (fun _ _ _ h => h) (by kernel_rfl) (by assumption) ?_ ?_
          rotate_left
          · intro w hSw
            (try dsimp only at hSw)
            go_simp
            try (with_reducible rfl)
          simp only [List.set]
          refine wpAnyH_on (i := 9) (d := 31) (v := ?_) rfl rfl (by kernel_rfl) (by kernel_rfl) (by kernel_rfl) (fun _ _ _ h => h) (by kernel_rfl) (by assumption) ?_ ?_
          rotate_left
          · intro w hSw
            (try dsimp only at hSw)
            go_simp
            try (with_reducible rfl)
          simp only [List.set]
          refine wpAnyH_on (i := 10) (d := 32) (v := ?_) rfl rfl (by kernel_rfl) (by kernel_rfl) (by kernel_rfl) (fun _ _ _ h => h) (by kernel_rfl) (by assumption) ?_ ?_
          rotate_left
          · intro w hSw
            (try dsimp only at hSw)
            go_simp
            try (with_reducible rfl)
          simp only [List.set]
          refine wpAnyH_on (i := 11) (d := 33) (v := ?_) rfl rfl (by kernel_rfl) (by kernel_rfl) (by kernel_rfl) (fun _ _ _ h => h) (by kernel_rfl) (by assumption) ?_ ?_
          rotate_left
          · intro w hSw
            (try dsimp only at hSw)
            go_simp
            try (with_reducible rfl)
          simp only [List.set]
          refine wpAnyH_on (i := 12) (d := 34) (v := ?_) rfl rfl (by kernel_rfl) (by kernel_rfl) (by kernel_rfl) (fun _ _ _ h => h) (by kernel_rfl) (by assumption) ?_ ?_
          rotate_left
          · intro w hSw
            (try dsimp only at hSw)
            go_simp
            try (with_reducible rfl)
          simp only [List.set]
          refine wpAnyH_ready (rs := [13]) (by kernel_rfl) (by simp) ?_
          refine AllReadyH.cons rfl (fun K hK => ?_) AllReadyH.nil
          go_simp
          refine (r1_mul x v _ hxi hvi).mono ?_
          rintro e wA ⟨rfl, hb⟩
          dsimp only
          have pwA := Prev.mk hb
          clear hb
          refine hK.out _ _ (HK0.out _ (btr (hbel) (bel _ _))) (fun hHeld => ?_)
          clear hK K
          try dsimp only [Act.put, List.setIfInBounds_toArray, List.set_cons_zero, List.set_cons_succ]
          refine wpAnyH_ready (rs := [14]) (by kernel_rfl) (by simp) ?_
          refine AllReadyH.cons rfl (fun K hK => ?_) AllReadyH.nil
          go_simp
          refine (retB_same (r1_add q (fmul x v) _ hqi (fmul_bd hxi hvi))).mono ?_
          rintro e wB ⟨rfl, hb⟩
          dsimp only
          have pwB := Prev.mk hb
          clear hb
          refine hK.out _ _ (HK0.out _ (btr (hbel) (bel _ _))) (fun hHeld => ?_)
          clear hK K
          try dsimp only [Act.put, List.setIfInBounds_toArray, List.set_cons_zero, List.set_cons_succ]
          refine wpAnyH_on (i := 15) (d := 9) (v := ?_) rfl rfl (by kernel_rfl) (by kernel_rfl) (by kernel_rfl) (fun _ _ _ h => h) (by kernel_rfl) (by assumption) ?_ ?_
          rotate_left
          · intro w hSw
            (try dsimp only at hSw)
            go_simp
            try (with_reducible rfl)
          simp only [List.set]
          refine wpAnyH_done (by kernel_rfl) ?_ _
          go_wp2_with fail
          go_roundw
          case rel => exact ⟨j + 1, _, by omega, by go_num, rfl, Lib.hid (by rw [HA.out, HQ.out]), hown.at, btr hbel (bel wr wB)⟩
          case measure => simp [intOf]; omega
        · obtain rfl : j = gs.length := by omega
          have hgl : (backXP N xs gs k).length ≤ 1000000000 := by rw [backXP_length]; omega
          go_wp2_with (at_builtin; refine wpList_pushI rfl _ _ _ rfl 2 Try.underlying52 (by kernel_rfl) w.heap.size A' c2 (backXP N xs gs k) rfl hown q rfl hgl hbel.size ?_; intro A3 c3 w3 ho3 hb3 _ _)
          go_roundw
          case rel => exact ⟨k + 1, A3, c3, by omega, by go_num, by rw [backXP_succ]; simp, by rw [backXP_succ, ← HQ.out]; exact ho3, hbel.trans hb3⟩
          case measure => simp [intOf]; omega
    · obtain rfl : k = N := by omega
      go_wp2_with fail
      go_ret
      exact ⟨A', c2, rfl, hown, hbel⟩

set_option maxRecDepth 100000 in
set_option maxHeartbeats 4000000 in
theorem r6_backW (A C : Option Addr) (a c : Nat) (gs vs : List Int) (w : World) (hM : gs.length ≤ 1024) (hN : vs.length ≤ 1024) (h1 : Rd w A gs) (h3 : Rd w C vs) (hg : Hid (∀ z ∈ gs, I64 z)) (hv : Hid (∀ z ∈ vs, I64 z)) :
    Calls Try.prog 42 #[.slice A gs.length a, .slice C vs.length c] w (RetA w 2 (backW gs vs)) := by
  have HBL := Lib.hid (backW_length gs vs)
  have hMN : gs.length * vs.length ≤ 1048576 := Nat.mul_le_mul hM hN
  go_enter Try.func42, Try.ntmps42
  go_wp2_with fail
  go_loopw [5, 6] (fun v i wr => ∃ (k S : Nat) (A' : Option Addr) (c2 : Nat) (l : List Int), k ≤ gs.length ∧ Hid (k * vs.length = S) ∧ Hid (l = (backW gs vs).take S) ∧ i = .int .i64 k ∧ v = .slice A' l.length c2 ∧ OwnA wr w.heap.size 2 A' c2 l ∧ Below w.heap.size w wr) (fun _ i _ => gs.length - (intOf i).toNat)
  case atStart => exact ⟨0, 0, none, 0, [], Nat.zero_le _, Lib.hid (by simp), Lib.hid rfl, rfl, rfl, OwnA.nil _ _ _, Below.refl _ _⟩
  case round =>
    obtain ⟨k, S, A', c2, l, hk, hS, HL, rfl, rfl, hown, hbel⟩ := hrel
    by_cases hlt : k < gs.length
    · obtain ⟨wo, rfl⟩ : ∃ wo : World, wo = wr := ⟨_, rfl⟩
      have hend : S + vs.length ≤ gs.length * vs.length := by rw [← hS.out, ← Nat.succ_mul]; exact Nat.mul_le_mul_right _ hlt
      go_wp2_with fail
      go_loopw [5, 7] (fun v i wr => ∃ (j : Nat) (A' : Option Addr) (c2 : Nat) (l : List Int), j ≤ vs.length ∧ Hid (l = (backW gs vs).take (S + j)) ∧ i = .int .i64 j ∧ v = .slice A' l.length c2 ∧ OwnA wr w.heap.size 2 A' c2 l ∧ Below w.heap.size w wr) (fun _ i _ => vs.length - (intOf i).toNat)
      case atStart => exact ⟨0, A', c2, l, Nat.zero_le _, HL, rfl, rfl, hown, hbel⟩
      case round =>
        clear hown hbel HL
        obtain ⟨j, A', c2, l, hj, HL, rfl, rfl, hown, hbel⟩ := hrel
        by_cases hlj : j < vs.length
        · obtain ⟨b1, o1, x, rfl, hb1, hc1, hxk⟩ := h1.get (k := k) hlt
          obtain ⟨b3, o3, v, rfl, hb3, hc3, hvk⟩ := h3.get (k := j) hlj
          have hxi := hg.out x (List.mem_of_getElem? hxk.out)
          have hvi := hv.out v (List.mem_of_getElem? hvk.out)
          have HA : Hid ((backW gs vs).take (S + j + 1) = (backW gs vs).take (S + j) ++ [fmul x v]) := Lib.hid (take_snoc_at (by rw [← hS.out]; exact backW_at hxk.out hvk.out))
          have hgl : l.length ≤ 1000000000 := by rw [HL.out, List.length_take]; omega
          go_wp2_with fail
          have HK0 : Hid (∀ w' : World, Below (w).heap.size (w) w' → w'.cell? ⟨b1, o1 + k, none⟩ = some (.int .i64 x) ∧ w'.cell? ⟨b3, o3 + j, none⟩ = some (.int .i64 v)) := Lib.hid (fun w' hbk => ⟨(h1.below hbk).all hxk.out, (h3.below hbk).all hvk.out⟩)
          refine wp_region_held_drew (S := fun w' => w'.cell? ⟨b1, o1 + k, none⟩ = some (.int .i64 x) ∧ w'.cell? ⟨b3, o3 + j, none⟩ = some (.int .i64 v)) (by kernel_rfl) (HK0.out _ (hbel).drew) (fun _ => ?_)
          refine gen_drewH (fun wD pwD => ?_)
          have hHeld := HK0.out wD (btr (hbel) (bel _ wD))
          refine wpAnyH_on (i := 0) (d := 20) (v := ?_) rfl rfl (by kernel_rfl) (by kernel_rfl) (by kernel_rfl) (fun _ _ _ h => h) (by kernel_rfl) (by assumption) ?_ ?_
          rotate_left
          · intro w hSw
            (try dsimp only at hSw)
            go_simp
            try (with_reducible rfl)
          simp only [List.set]
          refine wpAnyH_on (i := 1) (d := 21) (v := ?_) rfl rfl (by kernel_rfl) (by kernel_rfl) (by kernel_rfl) (fun _ _ _ h => h) (by kernel_rfl) (by assumption) ?_ ?_
          rotate_left
          · intro w hSw
            (try dsimp only at hSw)
            go_simp
            try (with_reducible rfl)
          simp only [List.set]
          refine wpAnyH_on (i := 2) (d := 22) (v := ?_) rfl rfl (by kernel_rfl) (by kernel_rfl) (by kernel_rfl) (fun _ _ _ h => h) (by kernel_rfl) (by assumption) ?_ ?_
          rotate_left
          · intro w hSw
            (try dsimp only at hSw)
            go_simp
            try (with_reducible rfl)
          simp only [List.set]
          refine wpAnyH_on (i := 3) (d := 23) (v := ?_) rfl rfl (by kernel_rfl) (by kernel_rfl) (by kernel_rfl) (fun _ _ _ h => h) (by kernel_rfl) (by assumption) ?_ ?_
          rotate_left
          · intro w hSw
            (try dsimp only at hSw)
            go_simp
            try (with_reducible rfl)
          simp only [List.set]
          refine wpAnyH_on (i := 4) (d := 24) (v := ?_) rfl rfl (by kernel_rfl) (by kernel_rfl) (by kernel_rfl) (fun _ _ _ h => h) (by kernel_rfl) (by assumption) ?_ ?_
          rotate_left
          · intro w hSw
            (try dsimp only at hSw)
            go_simp
            try (with_reducible rfl)
          simp only [List.set]
          refine wpAnyH_on (i := 5) (d := 25) (v := ?_) rfl rfl (by kernel_rfl) (by kernel_rfl) (by kernel_rfl) (fun _ _ _ h => h) (by kernel_rfl) (by assumption) ?_ ?_
          rotate_left
          · intro w hSw
            (try dsimp only at hSw)
            go_simp
            try (with_reducible rfl)
          simp only [List.set]
          refine wpAnyH_on (i := 6) (d := 26) (v := ?_) rfl rfl (by kernel_rfl) (by kernel_rfl) (by kernel_rfl) (fun _ _ _ h => h) (by kernel_rfl) (by assumption) ?_ ?_
          rotate_left
          · intro w hSw
            (try dsimp only at hSw)
            go_simp
            try (with_reducible rfl)
          simp only [List.set]
          refine wpAnyH_on (i := 7) (d := 27) (v := ?_) rfl rfl (by kernel_rfl) (by kernel_rfl) (by kernel_rfl) (fun _ _ _ h => h) (by kernel_rfl) (by assumption) ?_ ?_
          rotate_left
          · intro w hSw
            (try dsimp only at hSw)
            go_simp
            try (with_reducible rfl)
          simp only [List.set]
          refine wpAnyH_on (i := 8) (d := 28) (v := ?_) rfl rfl (by kernel_rfl) (by kernel_rfl) (by kernel_rfl) (fun _ _ _ h => h) (by kernel_rfl) (by assumption) ?_ ?_
          rotate_left
          · intro w hSw
            (try dsimp only at hSw)
            go_simp
            try (with_reducible rfl)
          simp only [List.set]
          refine wpAnyH_ready (rs := [9]) (by kernel_rfl) (by simp) ?_
          refine AllReadyH.cons rfl (fun K hK => ?_) AllReadyH.nil
          go_simp
          refine (r1_mul x v _ hxi hvi).mono ?_
          rintro e wA ⟨rfl, hb⟩
          dsimp only
          have pwA := Prev.mk hb
          clear hb
          refine hK.out _ _ (HK0.out _ (btr (hbel) (bel _ _))) (fun hHeld => ?_)
          clear hK K
          try dsimp only [Act.put, List.setIfInBounds_toArray, List.set_cons_zero, List.set_cons_succ]
          refine wpAnyH_ready (rs := [10]) (by kernel_rfl) (by simp) ?_
          refine AllReadyH.cons rfl (fun K hK => ?_) AllReadyH.nil
          go_simp
          refine hK.out _ _ (HK0.out _ (btr (hbel) (bel _ _))) (fun _ => ?_)
          clear hK K
          try dsimp only [Act.put, List.setIfInBounds_toArray, List.set_cons_zero, List.set_cons_succ]
          refine gen_allocH (fun wU pwU kwU zwU => ?_)
          clear zwU
          have hHeld := HK0.out wU (btr (hbel) (bel _ _))
          refine wpAnyH_ready (rs := [11]) (by kernel_rfl) (by simp) ?_
          refine AllReadyH.cons rfl (fun K hK => ?_) AllReadyH.nil
          refine step_pushI (by kernel_rfl) _ _ _ rfl 2 Try.underlying52 (by kernel_rfl) (w.heap.size) A' c2 (l) rfl hown.at ⟨wA.heap.size, 0, none⟩ (fmul x v) rfl ((kwU.cell 0)) hgl (btr hbel (bel wr wU)).size ?_
          intro A3 c3 w3 ho3 hb3 _ _
          refine hK.out _ _ (HK0.out _ ((btr hbel (bel wr wU)).trans hb3)) (fun hHeld => ?_)
          clear hK K
          try dsimp only [Act.put, List.setIfInBounds_toArray, List.set_cons_zero, List.set_cons_succ]
          refine wpAnyH_on (i := 12) (d := 5) (v := ?_) rfl rfl (by kernel_rfl) (by kernel_rfl) (by kernel_rfl) (fun _ _ _ h => h) (by kernel_rfl) (by assumption) ?_ ?_
          rotate_left
          · intro w hSw
            (try dsimp only at hSw)
            go_simp
            try (with_reducible rfl)
          simp only [List.set]
          refine wpAnyH_done (by kernel_rfl) ?_ _
          go_wp2_with fail
          go_roundw
          case rel => exact ⟨j + 1, A3, c3, l ++ [fmul x v], by omega, Lib.hid (by rw [← Nat.add_assoc, HA.out, HL.out]), by go_num, by simp, ho3, (btr hbel (bel wr wU)).trans hb3⟩
          case measure => simp [intOf]; omega
        · obtain rfl : j = vs.length := by omega
          go_wp2_with fail
          go_roundw
          case rel => exact ⟨k + 1, S + vs.length, A', c2, l, by omega, Lib.hid (by rw [Nat.succ_mul, hS.out]), HL, by go_num, rfl, hown, hbel⟩
          case measure => simp [intOf]; omega
    · obtain rfl : k = gs.length := by omega
      have e : l = backW gs vs := by rw [HL.out]; exact List.take_of_length_le (by rw [HBL.out, hS.out]; omega)
      subst e
      go_wp2_with fail
      go_ret
      exact ⟨A', c2, rfl, hown, hbel⟩

end Go.Proofs.Ythcdjdhnjbdfeaa
