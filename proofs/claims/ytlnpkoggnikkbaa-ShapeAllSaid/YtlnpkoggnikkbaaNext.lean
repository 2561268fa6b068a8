/- The next place, index by index; and the walk of the reference's Next. -/
import Derived.Test.YtlnpkoggnikkbaaShape3
import Derived.Test.YtlnpkoggnikkbaaRef03
namespace Go.Proofs.Ytlnpkoggnikkbaa
open Go.RowKit

theorem dvd_step {p Q : Int} (hQ : 0 < Q) (h : (p + 1) % Q = 0) : (p + 1) / Q = p / Q + 1 := by
  have e1 := Int.emod_add_mul_ediv (p + 1) Q
  rw [h, Int.zero_add] at e1
  generalize (p + 1) / Q = m at *
  have e2 : p = (Q - 1) + Q * (m - 1) := by rw [Int.mul_sub, e1]; omega
  have e3 : p / Q = m - 1 := by
    rw [e2, Int.add_mul_ediv_left _ _ (by omega), Int.ediv_eq_zero_of_lt (by omega) (by omega)]; omega
  omega
theorem no_step {p Q : Int} (hQ : 0 < Q) (h : (p + 1) % Q ≠ 0) : (p + 1) / Q = p / Q := by
  have e1 := Int.emod_add_mul_ediv p Q
  have r0 := Int.emod_nonneg p (b := Q) (by omega)
  have r1 := Int.emod_lt_of_pos p hQ
  generalize p % Q = r at *
  generalize p / Q = q at *
  have e2 : p + 1 = (r + 1) + Q * q := by omega
  rw [e2] at h ⊢
  rw [Int.add_mul_emod_self_left] at h
  rw [Int.add_mul_ediv_left _ _ (by omega)]
  have : r + 1 ≠ Q := by rintro e; rw [e] at h; simp at h
  rw [Int.ediv_eq_zero_of_lt (by omega) (by omega)]; omega
theorem idx_zeros (zs : List Int) (h : ∀ z ∈ zs, 1 ≤ z) (p : Int) (hp : p % prodL zs = 0) : idx zs p = List.replicate zs.length 0 := by
  induction zs with
  | nil => rfl
  | cons z zs ih =>
    have hz := h z List.mem_cons_self
    have hq : 1 ≤ prodL zs := prodL_pos fun y hy => h y (List.mem_cons_of_mem _ hy)
    rw [prodL_cons, Int.mul_comm, emod_mul' p _ _ (by omega) (by omega)] at hp
    have a0 := Int.emod_nonneg p (b := prodL zs) (by omega)
    have a1 := Int.emod_nonneg (p / prodL zs) (b := z) (by omega)
    have a2 : 0 ≤ p / prodL zs % z * prodL zs := Int.mul_nonneg a1 (by omega)
    have hp0 : p % prodL zs = 0 := by omega
    have hp1 : p / prodL zs % z * prodL zs = 0 := by omega
    have hp2 : p / prodL zs % z = 0 := by
      rcases Int.mul_eq_zero.1 hp1 with e | e
      · exact e
      · omega
    simp only [idx, hp2, ih (fun y hy => h y (List.mem_cons_of_mem _ hy)) hp0, List.length_cons, List.replicate_succ]
theorem idx_drop (zs : List Int) (p : Int) (k : Nat) : (idx zs p).drop k = idx (zs.drop k) p := by
  induction zs generalizing k with
  | nil => simp [idx]
  | cons z zs ih => cases k with
    | zero => rfl
    | succ k => simpa [idx] using ih k
theorem idx_at {zs : List Int} {p : Int} {k : Nat} {z : Int} (hz : zs[k]? = some z) : (idx zs p)[k]? = some (p / prodL (zs.drop (k + 1)) % z) := by
  have := idx_drop zs p k
  rw [drop_at hz] at this
  have e : (idx zs p)[k]? = ((idx zs p).drop k)[0]? := by simp
  rw [e, this]; simp [idx]
theorem idx_take {zs : List Int} (h : ∀ z ∈ zs, 1 ≤ z) {p : Int} {k : Nat} (hp : (p + 1) % prodL (zs.drop k) ≠ 0) : (idx zs (p + 1)).take k = (idx zs p).take k := by
  induction zs generalizing k with
  | nil => simp [idx]
  | cons z zs ih => cases k with
    | zero => rfl
    | succ k =>
      simp only [List.drop_succ_cons] at hp
      have hq : 1 ≤ prodL zs := prodL_pos fun y hy => h y (List.mem_cons_of_mem _ hy)
      have hn : (p + 1) % prodL zs ≠ 0 := by
        intro e
        apply hp
        have e2 : prodL zs = prodL (zs.take k) * prodL (zs.drop k) := by rw [← prodL_append, List.take_append_drop]
        rw [e2] at e
        exact Int.emod_eq_zero_of_dvd (Int.dvd_trans (Int.dvd_mul_left _ _) (Int.dvd_of_emod_eq_zero e))
      simp only [idx, List.take_succ_cons, no_step (by omega) hn, ih (fun y hy => h y (List.mem_cons_of_mem _ hy)) hp]

/-- The list under way: what is behind k has run over. -/
def nextTo (zs : List Int) (p : Int) (k : Nat) : List Int := (idx zs p).take k ++ List.replicate (zs.length - k) 0
theorem nextTo_length (zs : List Int) (p : Int) {k : Nat} (hk : k ≤ zs.length) : (nextTo zs p k).length = zs.length := by simp [nextTo, idx_length]; omega
theorem nextTo_at {zs : List Int} {p : Int} {k : Nat} {z : Int} (hz : zs[k]? = some z) : (nextTo zs p (k + 1))[k]? = some (p / prodL (zs.drop (k + 1)) % z) := by
  obtain ⟨hk, _⟩ := List.getElem?_eq_some_iff.1 hz
  rw [nextTo, List.getElem?_append_left (by simp [idx_length]; omega), List.getElem?_take, if_pos (by omega), idx_at hz]
theorem nextTo_set {zs : List Int} {p : Int} {k : Nat} {v : Int} (hk : k < zs.length) : (nextTo zs p (k + 1)).set k v = (idx zs p).take k ++ v :: List.replicate (zs.length - (k + 1)) 0 := by
  have e : (idx zs p).take (k + 1) = (idx zs p).take k ++ [(idx zs p)[k]'(by rw [idx_length]; exact hk)] := List.take_succ_eq_append_getElem _
  have hl : ((idx zs p).take k).length = k := by simp [idx_length]; omega
  rw [nextTo, e, List.append_assoc, List.set_append_right _ _ (by omega), hl]
  simp
theorem nextTo_zero {zs : List Int} {p v : Int} {k : Nat} (hk : k < zs.length) : ((nextTo zs p (k + 1)).set k v).set k 0 = nextTo zs p k := by
  rw [List.set_set, nextTo_set hk, nextTo, show zs.length - k = (zs.length - (k + 1)) + 1 from by omega, List.replicate_succ]
theorem next_stop {zs : List Int} (h : ∀ z ∈ zs, 1 ≤ z) {p : Int} {k : Nat} {z : Int} (hz : zs[k]? = some z) (hm : (p + 1) % prodL (zs.drop (k + 1)) = 0)
    (hlt : p / prodL (zs.drop (k + 1)) % z + 1 < z) : (nextTo zs p (k + 1)).set k (p / prodL (zs.drop (k + 1)) % z + 1) = idx zs (p + 1) := by
  obtain ⟨hk, _⟩ := List.getElem?_eq_some_iff.1 hz
  have hQ : 1 ≤ prodL (zs.drop (k + 1)) := prodL_pos fun y hy => h y (List.mem_of_mem_drop hy)
  have hz1 : 1 ≤ z := h z (List.mem_of_getElem? hz)
  have hst := dvd_step (by omega) hm
  have a1 := Int.emod_nonneg (p / prodL (zs.drop (k + 1))) (b := z) (by omega)
  have e1 : (p + 1) / prodL (zs.drop (k + 1)) % z = p / prodL (zs.drop (k + 1)) % z + 1 := by
    rw [hst, Int.add_emod]
    rcases Int.lt_or_le 1 z with h1 | h1
    · rw [Int.emod_eq_of_lt (a := 1) (by omega) h1, Int.emod_eq_of_lt (by omega) hlt]
    · omega
  have hnm : (p + 1) % prodL (zs.drop k) ≠ 0 := by
    rw [drop_at hz, prodL_cons, Int.mul_comm, emod_mul' _ _ _ (by omega) (by omega), hm, e1]
    have : 1 * 1 ≤ (p / prodL (zs.drop (k + 1)) % z + 1) * prodL (zs.drop (k + 1)) := Int.mul_le_mul (by omega) hQ (by omega) (by omega)
    omega
  rw [nextTo_set hk, ← idx_take h hnm]
  have e3 : idx zs (p + 1) = (idx zs (p + 1)).take k ++ (idx zs (p + 1)).drop k := (List.take_append_drop _ _).symm
  have e4 : (idx zs (p + 1)).drop k = (p / prodL (zs.drop (k + 1)) % z + 1) :: List.replicate (zs.length - (k + 1)) 0 := by
    rw [idx_drop, drop_at hz]
    simp only [idx, e1]
    rw [idx_zeros _ (fun y hy => h y (List.mem_of_mem_drop hy)) _ hm, List.length_drop]
  rw [e4] at e3
  exact e3.symm
theorem next_on {zs : List Int} (h : ∀ z ∈ zs, 1 ≤ z) {p : Int} {k : Nat} {z : Int} (hz : zs[k]? = some z) (hm : (p + 1) % prodL (zs.drop (k + 1)) = 0)
    (hge : ¬ p / prodL (zs.drop (k + 1)) % z + 1 < z) : (p + 1) % prodL (zs.drop k) = 0 := by
  have hQ : 1 ≤ prodL (zs.drop (k + 1)) := prodL_pos fun y hy => h y (List.mem_of_mem_drop hy)
  have hz1 : 1 ≤ z := h z (List.mem_of_getElem? hz)
  have hst := dvd_step (by omega) hm
  have a1 := Int.emod_lt_of_pos (p / prodL (zs.drop (k + 1))) (b := z) (by omega)
  have e0 : p / prodL (zs.drop (k + 1)) % z = z - 1 := by omega
  have e1 : (p + 1) / prodL (zs.drop (k + 1)) % z = 0 := by
    rw [hst]
    have := Int.emod_add_mul_ediv (p / prodL (zs.drop (k + 1))) z
    rw [e0] at this
    rw [← this, show z - 1 + z * (p / prodL (zs.drop (k + 1)) / z) + 1 = 0 + z * (p / prodL (zs.drop (k + 1)) / z + 1) from by rw [Int.mul_add]; omega, Int.add_mul_emod_self_left]
    simp
  rw [drop_at hz, prodL_cons, Int.mul_comm, emod_mul' _ _ _ (by omega) (by omega), hm, e1]; simp

set_option maxHeartbeats 1000000 in
theorem ref_next (A B : Option Addr) (c d : Nat) (zs : List Int) (p : Int) (w : World) (hs : zs.length ≤ 1000000) (hin : Hid (inSides zs = true)) (h : Rd w A zs) (h' : Rd w B (idx zs p)) :
    Calls Try.prog 53 #[.slice A zs.length c, .slice B zs.length d] w (RetInts w 3 (idx zs (p + 1))) := by
  have hmk := fun W => run_make_row' (P := Try.prog) 22 3 (.int .i64 0) 8 Try.underlying22 (by kernel_rfl) rfl .i64 .i64 zs.length (by omega) (by omega) W
  have hcp := fun ty => run_copy_new (P := Try.prog) 22 22 ty 3 3 Try.underlying22 (by kernel_rfl) (idx zs p) B d w h'
  rw [idx_length] at hcp
  have HPOS : Hid (∀ z ∈ zs, 1 ≤ z) := Lib.hid fun z hz => (inSides_mem hin.out hz).1
  go_enter Try.func53, Try.ntmps53
  go_wp2
  go_loopw [6] (fun i wr => ∃ k : Nat, k ≤ zs.length ∧ i = .int .i64 ((k : Int) - 1) ∧ Own wr w.heap.size 3 (nextTo zs p k) ∧ Below w.heap.size w wr ∧ (p + 1) % prodL (zs.drop k) = 0) (fun i _ => (intOf i + 1).toNat)
  case atStart =>
    refine ⟨zs.length, Nat.le_refl _, rfl, ?_, (Below.refl _ _).alloc (Nat.le_refl _) _, ?_⟩
    · have e : nextTo zs p zs.length = idx zs p := by
        rw [nextTo, List.take_of_length_le (by rw [idx_length]; exact Nat.le_refl _)]; simp
      rw [e]; exact Own.new _ _ _
    · simp [prodL]
  case round =>
    obtain ⟨k, hk, rfl, hown, hbel, hm⟩ := hrel
    have HM := Lib.hid hm
    clear hm
    cases k with
    | zero =>
      have HZ : Hid (nextTo zs p 0 = idx zs (p + 1)) := Lib.hid (by
        rw [idx_zeros zs HPOS.out (p + 1) (by simpa using HM.out)]; simp [nextTo])
      have HO := Lib.hid hown
      clear hown
      go_wp2
      go_ret
      exact ⟨w.heap.size, by simp [idx_length], Nat.le_refl _, by rw [← HZ.out]; exact HO.out, hbel⟩
    | succ j =>
      have hj : j < zs.length := by omega
      obtain ⟨b, off, z, rfl, hb, hc, hz⟩ := (h.below hbel).get hj
      obtain ⟨hz1, hz2⟩ := inSides_get hin.out hz.out
      obtain ⟨hb0, off0, e0, hlt0, _⟩ := h j z hz.out
      have hbne : b ≠ w.heap.size := by injection e0 with e0; injection e0 with e1 e2; omega
      clear e0
      have a0 := Int.emod_nonneg (p / prodL (zs.drop (j + 1))) (b := z) (by omega)
      have a1 := Int.emod_lt_of_pos (p / prodL (zs.drop (j + 1))) (b := z) (by omega)
      have hcj := hown.cell (nextTo_at hz.out)
      have hfj := hown.frozen j
      have ST := Lib.hid (next_stop HPOS.out hz.out HM.out)
      have ON := Lib.hid (next_on HPOS.out hz.out HM.out)
      have ho2 := hown.set_ j (p / prodL (zs.drop (j + 1)) % z + 1)
      generalize hae : p / prodL (zs.drop (j + 1)) % z = a at *
      have hcj2 := ho2.cell (i := j) (z := a + 1) (by rw [List.getElem?_set_self (by rw [nextTo_length _ _ hk]; omega)])
      have hfj2 := ho2.frozen j
      have hc2 := (World.cell?_setCell_other wr ⟨w.heap.size, j, none⟩ ⟨b, off + j, none⟩ (.int .i64 (a + 1)) (by exact fun e => hbne (congrArg Addr.block e).symm)).trans hc
      have HO2 := Lib.hid ho2
      have HO3 : Hid (∀ n, Own (((wr.setCell ⟨w.heap.size, j, none⟩ (.int .i64 (a + 1))).drewN n).setCell ⟨w.heap.size, j, none⟩ (.int .i64 0)) w.heap.size 3 (nextTo zs p j)) := Lib.hid (fun n => by
        have := (ho2.drewN n).set_ j 0; rw [nextTo_zero hj] at this; exact this)
      clear ho2 hown hae
      have b2 := hbel.setCell (p := ⟨w.heap.size, j, none⟩) (Nat.le_refl _) (.int .i64 (a + 1))
      have e1 : ((j + 1 : Nat) : Int) - 1 = j := by omega
      rw [e1]
      clear e1
      by_cases hlt : a + 1 < z
      · have HI := Lib.hid (ST.out hlt)
        go_wp2_with fail
        go_quiet (fail)
        go_wp2_with fail
        go_ret
        exact ⟨w.heap.size, by simp [idx_length], Nat.le_refl _, by rw [← HI.out]; exact HO2.out, below_drewN b2 _⟩
      · have HI := Lib.hid (ON.out hlt)
        go_wp2_with fail
        go_quiet (fail)
        go_wp2_with fail
        go_roundw
        case rel => exact ⟨j, by omega, rfl, HO3.out _, (below_drewN b2 _).setCell (p := ⟨w.heap.size, j, none⟩) (Nat.le_refl _) _, HI.out⟩
        case measure => simp [intOf]
end Go.Proofs.Ytlnpkoggnikkbaa
