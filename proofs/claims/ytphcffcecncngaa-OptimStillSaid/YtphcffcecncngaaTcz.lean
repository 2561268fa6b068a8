/- A row of tensors of the call's own (XMoveBack holds the same; no text imports both). -/
import Derived.Test.YtphcffcecncngaaAppendT
import Derived.Test.YtphcffcecncngaaMisc
import Derived.Test.YtphcffcecncngaaFre
namespace Go.Proofs.Ytphcffcecncngaa
open Go.RowKit

/-- A row of tensors that is being filled. -/
def tcz (ps : List Tn) (n : Nat) : Array Value := (tc ps ++ List.replicate ((n - ps.length) * 2) (Value.slice none 0 0)).toArray
theorem made_tens (n : Nat) : madeCells #[Value.slice none 0 0, Value.slice none 0 0] (n * 2) = tcz [] n := by
  apply Array.ext'
  simp only [madeCells, Array.toList_map, Array.toList_range, tcz, tc, List.flatMap_nil, List.nil_append, List.length_nil, Nat.sub_zero]
  apply List.ext_getElem
  · simp
  · intro i h1 h2
    simp only [List.getElem_map, List.getElem_range, List.getElem_replicate]
    rcases Nat.mod_two_eq_zero_or_one i with h | h <;> simp [h]
theorem make_tensN (n : Nat) (hn : n ≤ 1000000) (W : World) : (Instr.makeSlice 58 (.int .i64 (n : Int)) (.int .i64 (n : Int))).run Try.prog W = .ok (.slice (some ⟨W.heap.size, 0, none⟩) n n) (W.alloc (.cells (tcz [] n) 65)) := by
  have hinfo : (Try.prog.info? 65).map (fun i => (i.zero, i.size, i.bytes)) = some (some (.agg #[.slice none 0 0, .slice none 0 0]), 2, 48) := by kernel_rfl
  obtain ⟨i, hi, hzz⟩ := Option.map_eq_some_iff.1 hinfo
  simp only [Prod.mk.injEq] at hzz
  obtain ⟨hz, hs, hb⟩ := hzz
  have := run_makeSlice (P := Try.prog) W 58 65 i _ Try.underlying58 hi hz .i64 .i64 n n (by omega) (Int.le_refl _) (by rw [hs]; simp; omega) (by rw [hb]; omega) (by omega)
  rw [hs] at this
  rw [← made_tens]
  simpa [Value.cells] using this
theorem tcz_size (ps : List Tn) {n : Nat} (h : ps.length ≤ n) : (tcz ps n).size = n * 2 := by
  simp [tcz, tc_length]; omega
theorem tcz_set (ps : List Tn) {n : Nat} (h : ps.length < n) (t : Tn) : ((tcz ps n).setIfInBounds (ps.length * 2) (.slice t.A t.zs.length t.c)).setIfInBounds (ps.length * 2 + 1) (.slice t.B t.xs.length t.d) = tcz (ps ++ [t]) n := by
  have e : (n - ps.length) * 2 = (n - (ps ++ [t]).length) * 2 + 1 + 1 := by simp; omega
  unfold tcz
  rw [e, List.replicate_succ, List.replicate_succ, List.setIfInBounds_toArray, List.setIfInBounds_toArray, List.set_append_right _ _ (by rw [tc_length]; exact Nat.le_refl _), tc_length, Nat.sub_self, List.set_cons_zero,
    List.set_append_right _ _ (by rw [tc_length]; omega), tc_length, Nat.add_sub_cancel_left, List.set_cons_succ, List.set_cons_zero, tc_append]
  simp [tc]

theorem tcz_full (ps : List Tn) : tcz ps ps.length = (tc ps).toArray := by simp [tcz]
/-- A tensor whose rows are the call's own: its blocks. -/
structure Cp where
  g : Nat
  zs : List Int
  g' : Nat
  xs : List Int
def Cp.tn (p : Cp) : Tn := ⟨some ⟨p.g, 0, none⟩, p.zs.length, p.zs, some ⟨p.g', 0, none⟩, p.xs.length, p.xs⟩
/-- Block G is a row of such tensors, of which the first are there; all lie from block lo on; no two share their cells. -/
structure CBk (w : World) (lo G n : Nat) (ps : List Cp) : Prop where
  blk : Blk w G 65 (tcz (ps.map Cp.tn) n)
  base : lo ≤ G
  el : ∀ p ∈ ps, Own w p.g 3 p.zs ∧ Own w p.g' 45 p.xs ∧ lo ≤ p.g ∧ lo ≤ p.g'
  ne : ps.Pairwise (fun p q => p.g' ≠ q.g')
section
variable {w w' : World} {lo G n : Nat} {ps : List Cp}
theorem CBk.at [l : Later w w'] (h : CBk w lo G n ps) : CBk w' lo G n ps :=
  ⟨h.blk.at, h.base, fun p hp => by
    obtain ⟨a, b, r⟩ := h.el p hp
    exact ⟨a.at, b.at, r⟩, h.ne⟩
theorem CBk.below (h : CBk w lo G n ps) (hb : Below w.heap.size w w') : CBk w' lo G n ps :=
  ⟨h.blk.keep hb, h.base, fun p hp => by
    obtain ⟨a, b, r⟩ := h.el p hp
    exact ⟨a.keep hb, b.keep hb, r⟩, h.ne⟩
theorem CBk.old (h : CBk w lo G n ps) {p : Cp} (hp : p ∈ ps) : p.g < w.heap.size ∧ p.g' < w.heap.size := ⟨(h.el p hp).1.lt, (h.el p hp).2.1.lt⟩
theorem CBk.nil : CBk (w.alloc (.cells (tcz [] n) 65)) w.heap.size w.heap.size n [] := ⟨Blk.new _ _ _, Nat.le_refl _, (fun p hp => by cases hp), List.Pairwise.nil⟩
/-- One more is laid down. -/
theorem CBk.push (h : CBk w lo G n ps) (hl : ps.length < n) {p : Cp} (a : Own w p.g 3 p.zs) (b : Own w p.g' 45 p.xs) (ha : lo ≤ p.g) (hb : lo ≤ p.g') (hn : ∀ q ∈ ps, q.g' ≠ p.g') :
    CBk ((w.setCell ⟨G, ps.length * 2, none⟩ (.slice (some ⟨p.g, 0, none⟩) p.zs.length p.zs.length)).setCell ⟨G, ps.length * 2 + 1, none⟩ (.slice (some ⟨p.g', 0, none⟩) p.xs.length p.xs.length)) lo G n (ps ++ [p]) := by
  have far : ∀ {k : Nat} {T : TypeId} {zs : List Int}, Own w k T zs → T ≠ 65 → Own ((w.setCell ⟨G, ps.length * 2, none⟩ (.slice (some ⟨p.g, 0, none⟩) p.zs.length p.zs.length)).setCell ⟨G, ps.length * 2 + 1, none⟩ (.slice (some ⟨p.g', 0, none⟩) p.xs.length p.xs.length)) k T zs :=
    fun o hT => (o.far (p := ⟨G, ps.length * 2, none⟩) (o.ne_blk h.blk hT) _).far (p := ⟨G, ps.length * 2 + 1, none⟩) (o.ne_blk h.blk hT) _
  refine ⟨?_, h.base, fun q hq => ?_, ?_⟩
  · have := tcz_set (ps.map Cp.tn) (n := n) (by simpa using hl) p.tn
    rw [List.length_map] at this
    rw [List.map_append, List.map_cons, List.map_nil, ← this]
    exact (h.blk.set_ _ _).set_ _ _
  · rcases List.mem_append.1 hq with hq | hq
    · obtain ⟨x, y, r⟩ := h.el q hq
      exact ⟨far x (by decide), far y (by decide), r⟩
    · rw [List.mem_singleton.1 hq]
      exact ⟨far a (by decide), far b (by decide), ha, hb⟩
  · rw [List.pairwise_append]
    refine ⟨h.ne, by simp, fun q hq r hr => ?_⟩
    rw [List.mem_singleton.1 hr]
    exact hn q hq
theorem CBk.cells (h : CBk w lo G n ps) (hl : ps.length < n) : w.cell? ⟨G, ps.length * 2, none⟩ = some (.slice none 0 0) ∧ w.cell? ⟨G, ps.length * 2 + 1, none⟩ = some (.slice none 0 0) := by
  have key : ∀ j, ps.length * 2 ≤ j → j < n * 2 → (tcz (ps.map Cp.tn) n)[j]? = some (.slice none 0 0) := by
    intro j h1 h2
    simp only [tcz, List.getElem?_toArray]
    rw [List.getElem?_append_right (by rw [tc_length, List.length_map]; exact h1), List.getElem?_replicate, if_pos (by rw [tc_length, List.length_map]; omega)]
  exact ⟨(h.blk.cell _).trans (key _ (by omega) (by omega)), (h.blk.cell _).trans (key _ (by omega) (by omega))⟩
/-- What element k of a full row holds. -/
theorem CBk.get (h : CBk w lo G ps.length ps) {k : Nat} {p : Cp} (hp : ps[k]? = some p) : w.cell? ⟨G, k * 2, none⟩ = some (.slice (some ⟨p.g, 0, none⟩) p.zs.length p.zs.length) ∧ w.cell? ⟨G, k * 2 + 1, none⟩ = some (.slice (some ⟨p.g', 0, none⟩) p.xs.length p.xs.length) := by
  have b := h.blk
  rw [show ps.length = (ps.map Cp.tn).length from by simp, tcz_full] at b
  obtain ⟨a0, a1⟩ := tc_at (ts := ps.map Cp.tn) (j := k) (t := p.tn) (by rw [List.getElem?_map, hp]; rfl)
  exact ⟨(b.cell _).trans (by simpa [Cp.tn] using a0), (b.cell _).trans (by simpa [Cp.tn] using a1)⟩
theorem CBk.ts (h : CBk w lo G ps.length ps) (hbd : ∀ p ∈ ps, ∀ z ∈ p.xs, I64 z) : Ts w (some ⟨G, 0, none⟩) ps.length (ps.map Cp.tn) :=
  ⟨fun j t hj => by
    have b := h.blk
    rw [show ps.length = (ps.map Cp.tn).length from by simp, tcz_full] at b
    obtain ⟨a0, a1⟩ := tc_at hj
    obtain ⟨p, hp, rfl⟩ := List.mem_map.1 (List.mem_of_getElem? hj)
    obtain ⟨s, x, _, _⟩ := h.el p hp
    exact ⟨G, 0, rfl, tin_of b (by rw [Nat.zero_add]; simpa using a0) (by rw [Nat.zero_add]; simpa using a1) s.rd x.rd (Nat.le_refl _) (hbd p hp)⟩, by simp⟩
/-- The cells of element k are written anew. -/
theorem CBk.upd (h : CBk w lo G n ps) {k : Nat} {p : Cp} (hp : ps[k]? = some p) {xs' : List Int} (hsame : ∀ b, b < w.heap.size → b ≠ p.g' → w'.heap[b]? = w.heap[b]?) (hnew : Own w' p.g' 45 xs') (hlen : xs'.length = p.xs.length) :
    CBk w' lo G n (ps.set k { p with xs := xs' }) := by
  have hpm := List.mem_of_getElem? hp
  obtain ⟨hk, hpk⟩ := List.getElem?_eq_some_iff.1 hp
  obtain ⟨op, ox, l1, l2⟩ := h.el p hpm
  have htc : tc ((ps.set k { p with xs := xs' }).map Cp.tn) = tc (ps.map Cp.tn) := by
    rw [List.map_set]
    have : ∀ (qs : List Tn) (t : Tn), qs[k]? = some p.tn → t.A = p.tn.A → t.zs = p.tn.zs → t.c = p.tn.c → t.B = p.tn.B → t.xs.length = p.tn.xs.length → t.d = p.tn.d → tc (qs.set k t) = tc qs := by
      intro qs t hq e1 e2 e3 e4 e5 e6
      have hl : k < qs.length := (List.getElem?_eq_some_iff.1 hq).1
      rw [List.set_eq_take_append_cons_drop, if_pos hl]
      conv => rhs; rw [← List.take_append_drop k qs, List.drop_eq_getElem_cons hl]
      have hqk : qs[k] = p.tn := (List.getElem?_eq_some_iff.1 hq).2
      rw [tc_append, tc_append, hqk]
      congr 1
      simp only [tc, List.flatMap_cons, e1, e2, e3, e4, e5, e6]
    exact this _ _ (by rw [List.getElem?_map, hp]; rfl) rfl rfl rfl rfl (by simp [Cp.tn, hlen]) (by simp [Cp.tn, hlen])
  have keepO : ∀ {b : Nat} {T : TypeId} {zs : List Int}, Own w b T zs → b ≠ p.g' → Own w' b T zs := fun o hb => (hsame _ o.lt hb).trans o
  refine ⟨?_, h.base, fun q hq => ?_, ?_⟩
  · have : tcz ((ps.set k { p with xs := xs' }).map Cp.tn) n = tcz (ps.map Cp.tn) n := by
      unfold tcz; rw [htc]; simp
    rw [this]
    exact (hsame _ h.blk.lt (ox.ne_blk h.blk (by decide)).symm).trans h.blk
  · obtain ⟨i, hi⟩ := List.mem_iff_getElem?.1 hq
    rw [List.getElem?_set] at hi
    by_cases e : k = i
    · subst e
      rw [if_pos rfl, if_pos hk] at hi
      injection hi with hi; subst hi
      exact ⟨keepO op (op.ne_blk ox (by decide)), hnew, l1, l2⟩
    · rw [if_neg e] at hi
      obtain ⟨oq, oy, r⟩ := h.el q (List.mem_of_getElem? hi)
      have hne : q.g' ≠ p.g' := by
        obtain ⟨hi1, hi2⟩ := List.getElem?_eq_some_iff.1 hi
        have hpw := List.pairwise_iff_getElem.1 h.ne
        rcases Nat.lt_or_gt_of_ne e with hlt | hlt
        · have := hpw k i hk hi1 hlt
          rw [hpk, hi2] at this
          exact fun x => this x.symm
        · have := hpw i k hi1 hk hlt
          rw [hpk, hi2] at this
          exact this
      exact ⟨keepO oq (oq.ne_blk ox (by decide)), keepO oy hne, r⟩
  · have : (ps.set k { p with xs := xs' }).map Cp.g' = ps.map Cp.g' := by
      apply List.ext_getElem?
      intro i
      rw [List.getElem?_map, List.getElem?_map, List.getElem?_set]
      by_cases e : k = i
      · subst e
        rw [if_pos rfl, if_pos hk, hp]
        rfl
      · rw [if_neg e]
    have h1 : (ps.map Cp.g').Pairwise (· ≠ ·) := List.pairwise_map.2 h.ne
    rw [← this] at h1
    exact List.pairwise_map.1 h1
/-- A cell of element k is stored. -/
theorem CBk.set_ (h : CBk w lo G n ps) {k : Nat} {p : Cp} (hp : ps[k]? = some p) (j : Nat) (z : Int) : CBk (w.setCell ⟨p.g', j, none⟩ (.int .i64 z)) lo G n (ps.set k { p with xs := p.xs.set j z }) :=
  h.upd hp (fun b _ hb => Below.heap_setCell w ⟨p.g', j, none⟩ _ b hb) ((h.el p (List.mem_of_getElem? hp)).2.1.set_ j z) (by simp)
/-- Another block has changed: one of another type, or the cells of another row. -/
theorem CBk.aside (h : CBk w lo G n ps) {k : Nat} (hsame : ∀ b, b < w.heap.size → b ≠ k → w'.heap[b]? = w.heap[b]?) (hG : G ≠ k) (he : ∀ q ∈ ps, q.g ≠ k ∧ q.g' ≠ k) : CBk w' lo G n ps :=
  ⟨(hsame _ h.blk.lt hG).trans h.blk, h.base, fun q hq => by
    obtain ⟨x, y, r⟩ := h.el q hq
    exact ⟨(hsame _ x.lt (he q hq).1).trans x, (hsame _ y.lt (he q hq).2).trans y, r⟩, h.ne⟩
/-- A cell elsewhere is stored. -/
theorem CBk.far (h : CBk w lo G n ps) {p : Addr} (hG : p.block ≠ G) (he : ∀ q ∈ ps, q.g ≠ p.block ∧ q.g' ≠ p.block) (v : Value) : CBk (w.setCell p v) lo G n ps :=
  ⟨h.blk.far hG.symm v, h.base, fun q hq => by
    obtain ⟨x, y, r⟩ := h.el q hq
    exact ⟨x.far (he q hq).1 v, y.far (he q hq).2 v, r⟩, h.ne⟩
theorem CBk.farF (h : CBk w lo G n ps) {k : Nat} {xs : List Int} (ho : Own w k 45 xs) (hne : ∀ q ∈ ps, q.g' ≠ k) (hsame : ∀ b, b < w.heap.size → b ≠ k → w'.heap[b]? = w.heap[b]?) : CBk w' lo G n ps :=
  h.aside hsame (ho.ne_blk h.blk (by decide)).symm fun q hq => ⟨(h.el q hq).1.ne_blk ho (by decide), hne q hq⟩
/-- A box of another type is written. -/
theorem CBk.farT (h : CBk w lo G n ps) {k : Nat} {T : TypeId} {cs : Array Value} (ho : Blk w k T cs) (h1 : T ≠ 65) (h2 : T ≠ 3) (h3 : T ≠ 45) (hsame : ∀ b, b < w.heap.size → b ≠ k → w'.heap[b]? = w.heap[b]?) : CBk w' lo G n ps :=
  h.aside hsame (fun e => by subst e; have a := h.blk; unfold Blk at a ho; rw [a] at ho; injection ho with ho; injection ho with _ ht; exact h1 ht.symm)
    fun q hq => ⟨(h.el q hq).1.ne_blk ho h2.symm, (h.el q hq).2.1.ne_blk ho h3.symm⟩
theorem CBk.less (h : CBk w lo G n ps) {lo' : Nat} (hl : lo' ≤ lo) : CBk w lo' G n ps := ⟨h.blk, Nat.le_trans hl h.base, fun p hp => by
  obtain ⟨a, b, c, d⟩ := h.el p hp
  exact ⟨a, b, Nat.le_trans hl c, Nat.le_trans hl d⟩, h.ne⟩
theorem CBk.len (h : CBk w lo G n ps) (hl : ps.length = n) : CBk w lo G ps.length ps := by subst hl; exact h
end

end Go.Proofs.Ytphcffcecncngaa
