/- optim.Mean. -/
import Derived.Test.YtphcffcecncngaaOptim4
namespace Go.Proofs.Ytphcffcecncngaa
open Go.RowKit

/-- A list of tensors as it lies in memory, and as it reads. -/
structure TL where
  A : Option Addr
  c : Nat
  ts : List Tn
/-- The slice at A reads as the lists ls. -/
def TTRd (w : World) (A : Option Addr) (ls : List TL) : Prop :=
  ∀ j l, ls[j]? = some l → ∃ b o, A = some ⟨b, o, none⟩ ∧ b < w.heap.size ∧ w.cell? ⟨b, o + j, none⟩ = some (.slice l.A l.ts.length l.c) ∧ TRd w l.A l.ts
theorem TTRd.below {w w' : World} {A : Option Addr} {ls : List TL} (h : TTRd w A ls) (hb : Below w.heap.size w w') : TTRd w' A ls := fun j l hj => by
  obtain ⟨b, o, e, h1, h2, h3⟩ := h j l hj
  exact ⟨b, o, e, Nat.lt_of_lt_of_le h1 hb.size, (hb.cell (p := ⟨b, o + j, none⟩) h1).trans h2, h3.below hb⟩
class TTs (w : World) (A : Option Addr) (n : Nat) (ls : outParam (List TL)) : Prop where
  rd : TTRd w A ls
  len : n = ls.length
section
variable {w w' : World} {A B C : Option Addr} {g n m p c d e : Nat} {T : TypeId} {ls : List TL} {ts us : List Tn}
instance (priority := low) TTs.step [p : Prev w' w] [h : TTs w A n ls] : TTs w' A n ls := ⟨h.rd.below p.st, h.len⟩
instance (priority := low) TTs.empty : TTs w A 0 [] := ⟨fun j l hj => by simp at hj, rfl⟩
theorem TTs.get (h : TTs w A n ls) {k : Nat} (hk : k < n) : ∃ b o A1 c1 ts, A = some ⟨b, o, none⟩ ∧ Old b w ∧ w.cell? ⟨b, o + k, none⟩ = some (.slice A1 ts.length c1) ∧ Ts w A1 ts.length ts ∧ Hid (ls[k]? = some ⟨A1, c1, ts⟩) := by
  have e : ls[k]? = some (ls[k]'(by rw [← h.len]; exact hk)) := List.getElem?_eq_getElem _
  obtain ⟨b, o, rfl, h1, h2, h3⟩ := h.rd k _ e
  exact ⟨b, o, _, _, _, rfl, ⟨h1⟩, h2, ⟨h3, rfl⟩, e⟩
instance TTs.lit2 [h : Bx w g T #[.slice B n c, .slice C m d]] [s : Ts w B n ts] [x : Ts w C m us] : TTs w (some ⟨g, 0, none⟩) 2 [⟨B, c, ts⟩, ⟨C, d, us⟩] :=
  ⟨fun j l hj => by
    obtain ⟨s, rfl⟩ := s
    obtain ⟨x, rfl⟩ := x
    match j with
    | 0 => simp at hj; subst hj; exact ⟨g, 0, rfl, h.blk.lt, h.blk.cell 0, s⟩
    | 1 => simp at hj; subst hj; exact ⟨g, 0, rfl, h.blk.lt, h.blk.cell 1, x⟩
    | j + 2 => simp at hj, rfl⟩
end
/-- The mean of the cells at place i of row j. -/
def cellM (ls : List TL) (j i : Nat) : Int := fdiv (fsum (ls.map fun l => xsAt l.ts j i)) (fint (ls.length : Int))
def rowM (ls : List TL) (j : Nat) (t : Tn) : List Int := mix (cellM ls j) t.xs t.xs.length
/-- Nothing but an error. -/
def RetM (w : World) (ts : List Tn) (n : Nat) (f : Nat → Tn → List Int) (e : Ending) (w' : World) : Prop :=
  ∃ G ps, e = .returned (.tuple #[.slice (some ⟨G, 0, none⟩) n n, .int .i64 0]) ∧ CBk w' w.heap.size G n ps ∧ Hid (Upd f n ts ps) ∧ Prev w' w
def alikesB (ts : List Tn) (ls : List TL) : Bool := ls.all fun l => alikeTB ts l.ts
abbrev Mos (ls : List TL) : Prop := ∀ l ∈ ls, l.ts.length ≤ 1000000 ∧ Mo l.ts
theorem fsum_step {ls : List TL} {k j i : Nat} {l : TL} (h : ls[k]? = some l) : fsum ((ls.take (k + 1)).map fun l => xsAt l.ts j i) = fadd (fsum ((ls.take k).map fun l => xsAt l.ts j i)) (xsAt l.ts j i) := by
  rw [take_at h, List.map_append, List.map_cons, List.map_nil, fsum_snoc]
theorem aF_intM {w : World} {n : Int} : Calls Try.prog 63 #[.int .i64 n] w (RetV w (.int .i64 (fint n))) := retSame (fix_int n w)
theorem aF_divM {w : World} {x y : Int} [a : I6 x] [b : I6 y] : Calls Try.prog 68 #[.int .i64 x, .int .i64 y] w (RetV w (.int .i64 (fdiv x y))) := retBel (fix_div x y w a.bd b.bd)
instance I6.int {n : Int} : I6 (fint n) := ⟨fint_bd n⟩
section
variable {w : World} {A : Option Addr} {n c : Nat} {ls : List TL}
set_option maxRecDepth 100000 in
set_option maxHeartbeats 4000000 in
theorem op_mean_none {A : Option Addr} {c : Nat} : Calls Try.prog 33 #[.slice A 0 c] w (RetN w 14) := by
  go_enter Try.func33, Try.ntmps33
  go_wp2_with fail
  go_ret2
  exact ⟨rfl, prev_bel _ _⟩
set_option maxRecDepth 100000 in
set_option maxHeartbeats 8000000 in
theorem op_mean [a : TTs w A n ls] (hn : n ≤ 1000000) (hn0 : 0 < n) (hz : Hid (Mos ls)) {l0 : TL} (h0 : Hid (ls[0]? = some l0)) {N : Nat} (hN : Hid (l0.ts.length = N)) {b : Bool} (hb : Hid (alikesB l0.ts ls = b)) :
    Calls Try.prog 33 #[.slice A n c] w (fun e w' => (b = false ∧ RetN w 20 e w') ∨ (b = true ∧ RetM w l0.ts N (rowM ls) e w')) := by
  have CB := @cell_bx
  have CP := @cell_prev
  have FB := @frozen_bx
  have HL := Lib.hid a.len
  obtain ⟨b0, o0, A0, c0, ts, rfl, ob0, q0, s0, hl0⟩ := a.get hn0
  obtain rfl : l0 = ⟨A0, c0, ts⟩ := by have h1 := hl0.out; rw [h0.out] at h1; injection h1
  obtain ⟨hm0, hz0'⟩ := hz.out _ (List.mem_of_getElem? hl0.out)
  have hz0 := Lib.hid hz0'
  simp only at hN hm0 hz0
  rw [hN.out] at q0 s0 hm0
  simp only [Nat.add_zero] at q0
  clear hl0 h0 hz0'
  go_enter Try.func33, Try.ntmps33
  go_wp2_with fail
  go_loopw [19] (fun i wr => ∃ k : Nat, k ≤ n ∧ i = .int .i64 k ∧ Hid (alikesB ts (ls.take k) = true) ∧ Prev wr w) (fun i _ => n - (intOf i).toNat)
  case atStart => exact ⟨0, Nat.zero_le _, rfl, Lib.hid rfl, prev_bel _ _⟩
  case round =>
    obtain ⟨k, hk, rfl, HA, hp⟩ := hrel
    by_cases hlt : k < n
    · obtain ⟨b1, o1, A1, c1, us, e1, ob1, q1, s1, hl1⟩ := a.get hlt
      injection e1 with e1
      injection e1 with e1 e1'
      subst e1 e1'
      obtain ⟨hm1, hz1'⟩ := hz.out _ (List.mem_of_getElem? hl1.out)
      have hz1 := Lib.hid hz1'
      simp only at hm1 hz1
      clear hz1'
      rcases hal : alikeTB ts us with _ | _
      · have HF : Hid (b = false) := Lib.hid (by rw [← hb.out]; exact all_no (f := fun l : TL => alikeTB ts l.ts) hl1.out hal)
        go_wp2_with (first | (go_at_call 65; (try first | (with_reducible refine gen_boxK3 (fun u _ _ _ _ => ?_)) | (with_reducible refine gen_boxK2 (fun u _ _ _ => ?_)) | (with_reducible refine gen_boxK (fun u _ _ => ?_))); (with_reducible refine (op_alike (by omega) (by omega) hz0 hz1).mono ?_); rintro e u ⟨rfl, _⟩))
        go_ret2
        exact .inl ⟨HF.out, rfl, prev_bel _ _⟩
      · have HA' : Hid (alikesB ts (ls.take (k + 1)) = true) := Lib.hid ((all_step (f := fun l : TL => alikeTB ts l.ts) hl1.out HA.out).trans hal)
        go_wp2_with (first | (go_at_call 65; (try first | (with_reducible refine gen_boxK3 (fun u _ _ _ _ => ?_)) | (with_reducible refine gen_boxK2 (fun u _ _ _ => ?_)) | (with_reducible refine gen_boxK (fun u _ _ => ?_))); (with_reducible refine (op_alike (by omega) (by omega) hz0 hz1).mono ?_); rintro e u ⟨rfl, _⟩))
        go_roundw
        case rel => exact ⟨k + 1, by omega, by go_num, HA', prev_bel _ _⟩
        case measure => simp [intOf]; omega
    · have HT : Hid (alikesB ts ls = true) := Lib.hid (all_full (by rw [← HL.out]; omega) HA.out)
      have HF : Hid (b = true) := Lib.hid (by rw [← hb.out]; exact HT.out)
      have HLN := Lib.hid (show ls.length = n from HL.out.symm)
      have HALL : Hid (∀ (q : Nat) (l : TL), ls[q]? = some l → ts.length = l.ts.length ∧ ∀ (j : Nat) (t u : Tn), ts[j]? = some t → l.ts[j]? = some u → tRightB t.zs t.xs = true ∧ tRightB u.zs u.xs = true ∧ t.zs = u.zs ∧ t.xs.length = u.xs.length) :=
        Lib.hid fun q l hq => alikeTB_at (List.all_eq_true.1 HT.out l (List.mem_of_getElem? hq))
      have HA0 : Hid (∀ t ∈ ts, ∀ z ∈ t.xs, I64 z) := Lib.hid s0.rd.bd
      clear HA HT
      go_wp2_with (first | (go_at_call 66; (try first | (with_reducible refine gen_boxK3 (fun u _ _ _ _ => ?_)) | (with_reducible refine gen_boxK2 (fun u _ _ _ => ?_)) | (with_reducible refine gen_boxK (fun u _ _ => ?_))); (with_reducible refine (op_copies (by omega) hz0).mono ?_); rintro e u ⟨G1, ps, rfl, c1, H1, pw1⟩) | (go_at_call 63; (try first | (with_reducible refine gen_boxK3 (fun u _ _ _ _ => ?_)) | (with_reducible refine gen_boxK2 (fun u _ _ _ => ?_)) | (with_reducible refine gen_boxK (fun u _ _ => ?_))); (with_reducible refine (aF_intM).mono ?_); rintro e u ⟨rfl, _⟩))
      obtain ⟨v, rfl⟩ : ∃ v : World, v = u := ⟨_, rfl⟩
      have CC0 : CBk v w.heap.size G1 N ps := (c1.less later_size).at
      have UP : Hid (Upd (rowM ls) 0 ts ps) := Lib.hid H1.out.upd
      clear c1 H1
      go_loopw [39] (fun i wr => ∃ (k : Nat) (ps' : List Cp), k ≤ N ∧ i = .int .i64 k ∧ CBk wr w.heap.size G1 N ps' ∧ Hid (Upd (rowM ls) k ts ps') ∧ Prev wr w) (fun i _ => N - (intOf i).toNat)
      case atStart => exact ⟨0, ps, Nat.zero_le _, rfl, CC0, UP, prev_bel _ _⟩
      case round =>
        clear CC0 UP
        obtain ⟨k, ps', hk, rfl, CC, UP, hp⟩ := hrel
        have hpl := UP.out.len.trans hN.out
        by_cases hlt : k < N
        · obtain ⟨t, ht⟩ : ∃ t, ts[k]? = some t := ⟨_, List.getElem?_eq_getElem (by rw [hN.out]; exact hlt)⟩
          obtain ⟨p, hp', hpz, hpx⟩ := UP.out.get ht
          rw [if_neg (Nat.lt_irrefl k)] at hpx
          obtain ⟨hl1, hl2⟩ := hz0.out t (List.mem_of_getElem? ht)
          have bt : ∀ z ∈ t.xs, I64 z := HA0.out t (List.mem_of_getElem? ht)
          obtain ⟨p0, p1⟩ := (CC.len hpl).get hp'
          have oG1 : Old G1 wr := ⟨CC.blk.lt⟩
          obtain ⟨pg, pz, pg', px⟩ := p
          simp only at hpz hpx p0 p1
          subst hpx
          obtain ⟨xs, hxs⟩ : ∃ xs, t.xs = xs := ⟨_, rfl⟩
          rw [hxs] at p1 hp' bt hl2
          obtain ⟨M, hM⟩ : ∃ M, xs.length = M := ⟨_, rfl⟩
          rw [hM] at p1 hl2
          obtain ⟨PZ, hPZ⟩ : ∃ N, pz.length = N := ⟨_, rfl⟩
          rw [hPZ] at p0
          have HP := Lib.hid hp'
          have HXS := Lib.hid hxs
          have HM := Lib.hid hM
          have HT := Lib.hid ht
          obtain ⟨fP, hfP⟩ : ∃ fP : Nat → Int, cellM ls k = fP := ⟨_, rfl⟩
          obtain ⟨PJ, hPJ⟩ : ∃ PJ : Nat → List Cp, ∀ j, PJ j = ps'.set k ⟨pg, pz, pg', mix fP xs j⟩ := ⟨fun j => _, fun j => rfl⟩
          have HP0 : Hid (PJ 0 = ps') := Lib.hid (by rw [hPJ, mix_zero]; exact setl_same HP.out)
          have UPN : Hid (Upd (rowM ls) (k + 1) ts (PJ M)) := Lib.hid (by
            rw [hPJ]
            exact UP.out.step HP.out HT.out (by rw [rowM, HXS.out, hfP, HM.out]))
          have HPS : Hid (∀ j v, v = fP j → (PJ j).set k ⟨pg, pz, pg', (mix fP xs j).set j v⟩ = PJ (j + 1)) := Lib.hid (fun j v e => by rw [hPJ, hPJ, List.set_set, e, mix_set])
          have HPK : Hid (∀ j, (PJ j)[k]? = some ⟨pg, pz, pg', mix fP xs j⟩) := Lib.hid (fun j => by rw [hPJ, List.getElem?_set_self (List.getElem?_eq_some_iff.1 HP.out).1])
          have HFP : Hid (∀ j, fdiv (fsum (ls.map fun l => xsAt l.ts k j)) (fint n) = fP j) := Lib.hid (fun j => by rw [← hfP, cellM, HLN.out])
          have HTM : Hid (∀ t, ts[k]? = some t → t.xs.length = M) := Lib.hid (fun t' ht' => by
            rw [ht] at ht'; injection ht' with ht'; rw [← ht', hxs, hM])
          clear hp' hxs hM ht hPZ hpz hl1 hpl hPJ hfP UP
          go_wp2_with fail
          obtain ⟨wb, hwb⟩ : ∃ wb : World, wb = wr.alloc (.cells #[.slice (some ⟨pg, 0, none⟩) PZ PZ, .slice (some ⟨pg', 0, none⟩) M M] 65) := ⟨_, rfl⟩
          have pwb : Prev wb wr := by rw [hwb]; infer_instance
          obtain ⟨TB, hTB⟩ : ∃ T, wr.heap.size = T := ⟨_, rfl⟩
          have kB0 : Bx wb TB 65 #[.slice (some ⟨pg, 0, none⟩) PZ PZ, .slice (some ⟨pg', 0, none⟩) M M] := by rw [hwb, ← hTB]; infer_instance
          rw [← hwb]
          try rw [hTB]
          have CC1 : CBk wb w.heap.size G1 N (PJ 0) := by rw [HP0.out]; exact CC.at
          clear hwb hTB CC HP0 p0 p1 oG1 HP HT HXS
          go_loopw [47] (fun i wr => ∃ j : Nat, j ≤ M ∧ i = .int .i64 j ∧ CBk wr w.heap.size G1 N (PJ j) ∧ Bx wr TB 65 #[.slice (some ⟨pg, 0, none⟩) PZ PZ, .slice (some ⟨pg', 0, none⟩) M M] ∧ Prev wr w) (fun i _ => M - (intOf i).toNat)
          case atStart => exact ⟨0, Nat.zero_le _, rfl, CC1, kB0, prev_bel _ _⟩
          case round =>
            clear CC1 kB0
            obtain ⟨j, hj, rfl, CC, kB, hp2⟩ := hrel
            by_cases hjM : j < M
            · obtain ⟨x, hx⟩ : ∃ x, xs[j]? = some x := ⟨_, List.getElem?_eq_getElem (by rw [HM.out]; exact hjM)⟩
              have HX := Lib.hid hx
              clear hx
              obtain ⟨wr2, rfl⟩ : ∃ x : World, x = wr := ⟨_, rfl⟩
              go_wp2_with fail
              go_loopw [11, 52] (fun s i wr => ∃ (q : Nat) (S : Int), q ≤ n ∧ i = .int .i64 q ∧ s = .int .i64 S ∧ Hid (fsum ((ls.take q).map fun l => xsAt l.ts k j) = S) ∧ Prev wr wr2) (fun _ i _ => n - (intOf i).toNat)
              case atStart => exact ⟨0, 0, Nat.zero_le _, rfl, rfl, Lib.hid rfl, prev_bel _ _⟩
              case round =>
                obtain ⟨q, S, hq, rfl, rfl, HS, hp3⟩ := hrel
                have iS : I6 S := ⟨by rw [← HS.out]; exact fsum_bd _⟩
                by_cases hqn : q < n
                · obtain ⟨b4, o4, A4, c4, us, e4, ob4, cq, s4, hl4⟩ := a.get hqn
                  injection e4 with e4
                  injection e4 with e4 e4'
                  subst e4 e4'
                  obtain ⟨t, ht⟩ : ∃ t, ts[k]? = some t := ⟨_, List.getElem?_eq_getElem (by rw [hN.out]; exact hlt)⟩
                  obtain ⟨lenU, hal⟩ := HALL.out q _ hl4.out
                  simp only at lenU hal
                  have hku : k < us.length := by rw [← lenU, hN.out]; exact hlt
                  obtain ⟨b5, o5, A5, c5, z5, B5, d5, x5, rfl, ob5, cz, cx, sz5, sx5, -, i5, hu5⟩ := s4.get hku
                  obtain ⟨-, -, -, hxl⟩ := hal k t _ ht hu5.out
                  simp only at hxl
                  have hxM : x5.length = M := by rw [← hxl]; exact HTM.out t ht
                  rw [hxM] at cx sx5
                  rw [← lenU, hN.out] at cq
                  obtain ⟨b6, o6, z, rfl, ob6, c6, hz6⟩ := sx5.get hjM
                  have iz : I6 z := i5.at hz6.out
                  have HS' : Hid (fsum ((ls.take (q + 1)).map fun l => xsAt l.ts k j) = fadd S z) := Lib.hid (by
                    rw [fsum_step hl4.out, HS.out, xsAt_of hu5.out hz6.out])
                  clear hal ht hxl hxM lenU hku hu5 hl4
                  go_wp2_with (first | (go_at_call 67; (try first | (with_reducible refine gen_boxK3 (fun u _ _ _ _ => ?_)) | (with_reducible refine gen_boxK2 (fun u _ _ _ => ?_)) | (with_reducible refine gen_boxK (fun u _ _ => ?_))); (with_reducible refine (aF_add).mono ?_); rintro e u ⟨rfl, _⟩))
                  go_roundw
                  case rel => exact ⟨q + 1, fadd S z, by omega, by go_num, rfl, HS', prev_bel _ _⟩
                  case measure => simp [intOf]; omega
                · have E1 : Hid (fdiv S (fint n) = fP j) := Lib.hid (by
                    have h1 := HS.out
                    rw [List.take_of_length_le (by rw [HLN.out]; omega)] at h1
                    rw [← HFP.out j, h1])
                  have oP := (CC.el _ (List.mem_of_getElem? (HPK.out j))).2.1
                  have gP := (CC.el _ (List.mem_of_getElem? (HPK.out j))).2.2.2
                  simp only at oP gP
                  have cP := oP.cell (mix_at (f := fP) HX.out)
                  have oldP : Old pg' wr2 := ⟨oP.lt⟩
                  go_wp2_with fail
                  refine wp_region_upR w (fun w9 => Bx w9 TB 65 #[.slice (some ⟨pg, 0, none⟩) PZ PZ, .slice (some ⟨pg', 0, none⟩) M M]) (by kernel_rfl) inferInstance (fun vx _ => ?_)
                  refine wpAnyH_on (i := 0) (d := 67) (v := ?_) rfl rfl (by kernel_rfl) (by kernel_rfl) (by kernel_rfl) (fun _ _ _ h => h) (by kernel_rfl) ⟨prev_bel _ _, inferInstance⟩ ?_ ?_
                  rotate_left
                  · rintro uu ⟨pu, r1⟩
                    go_simp
                    try (with_reducible rfl)
                  try simp only [List.set]
                  refine wpAnyH_on (i := 1) (d := 68) (v := ?_) rfl rfl (by kernel_rfl) (by kernel_rfl) (by kernel_rfl) (fun _ _ _ h => h) (by kernel_rfl) ⟨prev_bel _ _, inferInstance⟩ ?_ ?_
                  rotate_left
                  · rintro uu ⟨pu, r1⟩
                    go_simp
                    try (with_reducible rfl)
                  try simp only [List.set]
                  refine wpAnyH_on (i := 2) (d := 69) (v := ?_) rfl rfl (by kernel_rfl) (by kernel_rfl) (by kernel_rfl) (fun _ _ _ h => h) (by kernel_rfl) ⟨prev_bel _ _, inferInstance⟩ ?_ ?_
                  rotate_left
                  · rintro uu ⟨pu, r1⟩
                    go_simp
                    try (with_reducible rfl)
                  try simp only [List.set]
                  refine wpAnyH_on (i := 3) (d := 70) (v := ?_) rfl rfl (by kernel_rfl) (by kernel_rfl) (by kernel_rfl) (fun _ _ _ h => h) (by kernel_rfl) ⟨prev_bel _ _, inferInstance⟩ ?_ ?_
                  rotate_left
                  · rintro uu ⟨pu, r1⟩
                    go_simp
                    try (with_reducible rfl)
                  try simp only [List.set]
                  refine wpAnyH_on (i := 4) (d := 71) (v := ?_) rfl rfl (by kernel_rfl) (by kernel_rfl) (by kernel_rfl) (fun _ _ _ h => h) (by kernel_rfl) ⟨prev_bel _ _, inferInstance⟩ ?_ ?_
                  rotate_left
                  · rintro uu ⟨pu, r1⟩
                    go_simp
                    try (with_reducible rfl)
                  try simp only [List.set]
                  refine wpAnyH_ready (rs := [5]) (by kernel_rfl) (by simp) ?_
                  refine AllReadyH.cons rfl (fun K hK => ?_) AllReadyH.nil
                  go_simp
                  (with_reducible refine (aF_divM).mono ?_)
                  rintro e vx ⟨rfl, _⟩
                  dsimp only
                  refine hK.out _ _ ⟨prev_bel w _, inferInstance⟩ (fun hHeld => ?_)
                  clear hHeld hK K
                  try dsimp only [Act.put, List.setIfInBounds_toArray, List.set_cons_zero, List.set_cons_succ]
                  refine wpAnyH_on (i := 6) (d := 73) (v := ?_) rfl rfl (by kernel_rfl) (by kernel_rfl) (by kernel_rfl) (fun _ _ _ h => h) (by kernel_rfl) ⟨prev_bel _ _, inferInstance⟩ ?_ ?_
                  rotate_left
                  · rintro uu ⟨pu, r1⟩
                    go_simp
                    try (with_reducible rfl)
                  try simp only [List.set]
                  refine wpAnyH_ready (rs := [7]) (by kernel_rfl) (by simp) ?_
                  refine AllReadyH.cons rfl (fun K hK => ?_) AllReadyH.nil
                  have hcg := (oP.at (w' := vx)).cell (mix_at (f := fP) HX.out)
                  have hfg := (oP.at (w' := vx)).frozen j
                  go_simp
                  obtain ⟨W1, hW1⟩ : ∃ W1 : World, W1 = vx.setCell ⟨pg', j, none⟩ (.int .i64 (fdiv S (fint n))) := ⟨_, rfl⟩
                  rw [← hW1]
                  have S1 : ∀ b, b < vx.heap.size → b ≠ pg' → W1.heap[b]? = vx.heap[b]? := fun b _ hb => by rw [hW1]; exact Below.heap_setCell vx ⟨pg', j, none⟩ _ b hb
                  have oP1 : Own W1 pg' 45 ((mix fP xs j).set j (fdiv S (fint n))) := by rw [hW1]; exact (oP.at (w' := vx)).set_ j _
                  have C1 := Lib.hid ((CC.at (w' := vx)).upd (w' := W1) (HPK.out j) (xs' := (mix fP xs j).set j (fdiv S (fint n))) S1 oP1 (by simp))
                  rw [HPS.out j _ E1.out] at C1
                  have B1 : Below w.heap.size w W1 := by rw [hW1]; exact (bel w vx).setCell (p := ⟨pg', j, none⟩) gP _
                  have kB1 : Bx W1 TB 65 #[.slice (some ⟨pg, 0, none⟩) PZ PZ, .slice (some ⟨pg', 0, none⟩) M M] := ⟨(S1 _ (Bx.blk (w := vx) (g := TB)).lt ((oP.at (w' := vx)).ne_blk (Bx.blk (w := vx) (g := TB)) (by decide)).symm).trans Bx.blk⟩
                  have pW1 : Prev W1 w := ⟨B1⟩
                  refine hK.out _ _ ⟨⟨B1⟩, kB1⟩ (fun hHeld => ?_)
                  clear hHeld hK K hW1 S1 oP1 hcg hfg
                  try dsimp only [Act.put, List.setIfInBounds_toArray, List.set_cons_zero, List.set_cons_succ]
                  refine wpAnyH_done (by kernel_rfl) ?_ _
                  go_wp2_with fail
                  go_roundw
                  case rel => exact ⟨j + 1, by omega, by go_num, C1.out, kB1, ⟨B1⟩⟩
                  case measure => simp [intOf]; omega
            · obtain rfl : j = M := by omega
              go_wp2_with fail
              go_roundw
              case rel => exact ⟨k + 1, PJ j, by omega, by go_num, CC, UPN, hp2⟩
              case measure => simp [intOf]; omega
        · obtain rfl : k = N := by omega
          go_wp2_with fail
          go_ret2
          exact .inr ⟨HF.out, G1, ps', rfl, CC, UP, hp⟩
end

end Go.Proofs.Ytphcffcecncngaa
