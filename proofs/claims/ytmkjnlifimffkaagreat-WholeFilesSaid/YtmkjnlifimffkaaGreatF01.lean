/- Lemmas. -/
import Derived.Test.YtmkjnlifimffkaaGreatProg
import Derived.WalkKit
import Derived.WalkSpells
import Derived.WalkLawsBesides
import Derived.Deep.QuietTactic
import Derived.BigQuiet
import Derived.Deep.Draws
import Derived.Lib.Hide
import Derived.Laws.CopyOwn
import Derived.Deep.OwnRows
import Derived.ProofKit
import Derived.OpenShut
import Derived.ChangeOld
import Derived.Lib.SmallJoins
import Derived.Deep.Slices
import Derived.Maps.AppendAt
import Derived.OwnWalk
import Derived.Deep.RegionHeld3
import Derived.Lib.SliceRun
import Derived.Deep.Upon
namespace Go.Proofs.YtmkjnlifimffkaaGreat
open Go.RowKit Tryz
set_option linter.all false
set_option maxRecDepth 100000
set_option maxHeartbeats 0
def Hx(p:Prop):Prop:=p
theorem Hx.o{p:Prop}(h:Hx p):p:=h
theorem ae{p:Prop}(h:p):Hx p:=h
def Rd(w:World)(A:Option Addr)(zs:List Int):Prop:=
 ∀j z,zs[j]?=some z->∃b off,A=some ⟨b,off,none⟩/\b<w.heap.size/\w.cell? ⟨b,off+j,none⟩=some (.int .i64 z)
theorem Rd.nil(w:World)(A:Option Addr):Rd w A []:=fun j _ hj=>absurd hj (by simp)
theorem Rd.get{w:World}{A:Option Addr}{zs:List Int}(h:Rd w A zs){k:Nat}(hk:k<zs.length):
  ∃b off z,A=some ⟨b,off,none⟩/\b<w.heap.size/\w.cell? ⟨b,off+k,none⟩=some (.int .i64 z)/\Hx (zs[k]?=some z):=by
 have e:zs[k]?=some zs[k]:=List.getElem?_eq_getElem hk;obtain⟨b,off,rfl,hb,hc⟩:=h k _ e;exact⟨b,off,_,rfl,hb,hc,e⟩
theorem Rd.all{w:World}{b off:Nat}{zs:List Int}(h:Rd w (some ⟨b,off,none⟩) zs){k:Nat}{z:Int}(hk:zs[k]?=some z):w.cell? ⟨b,off+k,none⟩=some (.int .i64 z):=by
 obtain⟨b',aaA,he,_,hc⟩:=h k z hk;injection he with he;injection he with h1 h2;subst h1;subst h2;exact hc
theorem Rd.keep{w w':World}{A:Option Addr}{zs:List Int}(h:Rd w A zs)(hs:w.heap.size<=w'.heap.size)(hk:∀p:Addr,p.block<w.heap.size->w'.cell? p=w.cell? p):Rd w' A zs:=by
 intro j z hj;obtain⟨b,off,e,hb,hc⟩:=h j z hj;exact⟨b,off,e,by omega,(hk _ hb).trans hc⟩
theorem Rd.below{w w':World}{A:Option Addr}{zs:List Int}(h:Rd w A zs)(hb:Below w.heap.size w w'):Rd w' A zs:=
 h.keep hb.size fun _ hp=>hb.cell hp
theorem Rd.alloc{w:World}{A:Option Addr}{zs:List Int}(h:Rd w A zs)(o:Obj):Rd (w.alloc o) A zs:=
 h.keep (by simp) fun p hp=>World.cell?_alloc_lt w o p hp
def ints(zs:List Int):Array Value:=(zs.map (Value.int .i64)).toArray
theorem Ho(zs:List Int):(ints zs).size=zs.length:=by simp[ints]
theorem eu(zs:List Int)(j:Nat):(ints zs)[j]?=zs[j]?.map (Value.int .i64):=by simp[ints]
theorem ints_set(zs:List Int)(k:Nat)(z:Int):(ints zs).setIfInBounds k (.int .i64 z)=ints (zs.set k z):=by
 simp[ints,List.setIfInBounds_toArray,List.map_set]
theorem hY(n:Nat):madeCells #[.int .i64 0] n=ints (List.replicate n 0):=by
 apply Array.ext';rw[toList_madeCells_one];simp[ints]
def Own(w:World)(g:Nat)(T:TypeId)(zs:List Int):Prop:=w.heap[g]?=some (.cells (ints zs) T (0,0))
section
variable{w w':World}{g:Nat}{T:TypeId}{zs:List Int}
theorem Own.lt(h:Own w g T zs):g<w.heap.size:=by
 rcases Nat.lt_or_ge g w.heap.size with bK|rG
 ·exact bK
 ·unfold Own at h;rw[Array.getElem?_eq_none rG]at h;cases h
theorem Own.cell(h:Own w g T zs){i:Nat}{z:Int}(hz:zs[i]?=some z):w.cell? ⟨g,i,none⟩=some (.int .i64 z):=by
 unfold Own at h;simp[World.cell?,h,eu,hz]
theorem Own.frozen(h:Own w g T zs)(i:Nat):w.frozen? ⟨g,i,none⟩=false:=by
 unfold Own at h;simp[World.frozen?,h]
theorem Own.rd(h:Own w g T zs):Rd w (some ⟨g,0,none⟩) zs:=fun j z hj=>⟨g,0,rfl,h.lt,by rw[Nat.zero_add];exact h.cell hj⟩
theorem Own.new(w:World)(T:TypeId)(zs:List Int):Own (w.alloc (.cells (ints zs) T)) w.heap.size T zs:=heap_alloc_new w _
theorem Own.fx(w:World)(T:TypeId)(zs:List Int){n:Nat}(h:w.heap.size=n):Own (w.alloc (.cells (ints zs) T)) n T zs:=h▸Own.new w T zs
theorem Own.drew(h:Own w g T zs):Own w.drew g T zs:=h
theorem Own.drewN(h:Own w g T zs)(n:Nat):Own (w.drewN n) g T zs:=h
theorem Own.alloc(h:Own w g T zs)(o:Obj):Own (w.alloc o) g T zs:=(Below.heap_alloc w o g h.lt).trans h
theorem Own.ax(h:Own w g T zs)(i:Nat)(z:Int):Own (w.setCell ⟨g,i,none⟩ (.int .i64 z)) g T (zs.set i z):=by
 unfold Own at h⊢;simp[World.setCell,Array.getElem?_modify,h,ints_set]
theorem Own.a9(h:Own w g T zs){p:Addr}(hp:g≠p.block)(u:Value):Own (w.setCell p u) g T zs:=(Below.heap_setCell w p u g hp).trans h
theorem Own.below{B:Nat}(h:Own w g T zs)(hb:Below B w w')(hg:g<B):Own w' g T zs:=(hb.block g hg).trans h
theorem Own.keep(h:Own w g T zs)(hb:Below w.heap.size w w'):Own w' g T zs:=h.below hb h.lt
end
def aB(w:World)(g:Nat)(T:TypeId)(cs:Array Value):Prop:=w.heap[g]?=some (.cells cs T (0,0))
section
variable{w w':World}{g:Nat}{T:TypeId}{cs:Array Value}
theorem aB.lt(h:aB w g T cs):g<w.heap.size:=by
 rcases Nat.lt_or_ge g w.heap.size with bK|rG
 ·exact bK
 ·unfold aB at h;rw[Array.getElem?_eq_none rG]at h;cases h
theorem aB.cell(h:aB w g T cs)(i:Nat):w.cell? ⟨g,i,none⟩=cs[i]?:=by
 unfold aB at h;simp[World.cell?,h]
theorem aB.frozen(h:aB w g T cs)(i:Nat):w.frozen? ⟨g,i,none⟩=false:=by
 unfold aB at h;simp[World.frozen?,h]
theorem aB.new(w:World)(T:TypeId)(cs:Array Value):aB (w.alloc (.cells cs T)) w.heap.size T cs:=heap_alloc_new w _
theorem aB.fx(w:World)(T:TypeId)(cs:Array Value){n:Nat}(h:w.heap.size=n):aB (w.alloc (.cells cs T)) n T cs:=h▸aB.new w T cs
theorem aB.drew(h:aB w g T cs):aB w.drew g T cs:=h
theorem aB.alloc(h:aB w g T cs)(o:Obj):aB (w.alloc o) g T cs:=(Below.heap_alloc w o g h.lt).trans h
theorem aB.ax(h:aB w g T cs)(i:Nat)(u:Value):aB (w.setCell ⟨g,i,none⟩ u) g T (cs.setIfInBounds i u):=by
 unfold aB at h⊢;simp[World.setCell,Array.getElem?_modify,h]
theorem aB.a9(h:aB w g T cs){p:Addr}(hp:g≠p.block)(u:Value):aB (w.setCell p u) g T cs:=(Below.heap_setCell w p u g hp).trans h
theorem aB.below{B:Nat}(h:aB w g T cs)(hb:Below B w w')(hg:g<B):aB w' g T cs:=(hb.block g hg).trans h
theorem aB.keep(h:aB w g T cs)(hb:Below w.heap.size w w'):aB w' g T cs:=h.below hb h.lt
end
def O4(w:World)(T:TypeId)(zs:List Int)(e:Ending)(w':World):Prop:=
 ∃g,e=.returned (.slice (some ⟨g,0,none⟩) zs.length zs.length)/\w.heap.size<=g/\Own w' g T zs/\Below w.heap.size w w'
theorem Ej(W:World)(X Y:Array Value)(E:TypeId):(W.alloc (.cells X E)).setRow W.heap.size Y=W.alloc (.cells Y E):=by
 simp only[World.setRow,World.alloc];congr 1;apply Array.ext_getElem?;intro i;rw[Array.getElem?_modify,Array.getElem?_push,Array.getElem?_push];by_cases h:i=W.heap.size
 ·simp[h]
 ·simp[h,Ne.symm h]
theorem qy{P:Program}(dT sT ty elem E:TypeId)(hu:P.underlying dT=some (.slice elem))(hs:(P.info? elem).map (·.size)=some 1)
  (zs:List Int) (A:Option Addr) (c:Nat) (W:World) (h:Rd W A zs):
  (Builtin.copy_ #[dT,sT] ty #[.slice (some ⟨W.heap.size,0,none⟩) zs.length zs.length,.slice A zs.length c]).run P (W.alloc (.cells (madeCells #[.int .i64 0] zs.length) E))=.ok (.int .i64 zs.length) (W.alloc (.cells (ints zs) E)):=by
 by_cases h0:zs.length=0
 ·have e:zs=[]:=List.eq_nil_of_length_eq_zero h0;subst e;have:=run_copy_none (P:=P) (W.alloc (.cells (madeCells #[.int .i64 0] 0) E)) dT sT ty elem (some ⟨W.heap.size,0,none⟩) A 0 0 0 c hu hs rfl;rw[hY]at this⊢;exact this
 ·obtain⟨b,off,z,rfl,hb,_,_⟩:=h.get (k:=0) (by omega);have:=run_copy_row (P:=P) (W.alloc (.cells (madeCells #[.int .i64 0] zs.length) E)) dT sT ty elem W.heap.size 0 zs.length zs.length ⟨b,off,none⟩ zs.length c
   (madeCells #[.int .i64 0] zs.length) E (zs.map (Value.int .i64)) hu hs (heap_alloc_new W _) (by simp) (fun j v hv=>by
    rw[List.getElem?_map]at hv;obtain⟨z,hz,rfl⟩:=Option.map_eq_some_iff.1 hv;rw[World.cell?_alloc_lt _ _ _ (by unfold Addr.add;split<;>exact hb)];have:=h.all hz;unfold Addr.add
    split
    ·rename_i e;subst e;exact this
    ·exact this) (by simp[size_madeCells]) (by simp[Value.oneCell'])
  rw[this];have e:((madeCells #[Value.int .i64 0] zs.length).toList.take 0++zs.map (Value.int .i64)++(madeCells #[Value.int .i64 0] zs.length).toList.drop (0+(zs.map (Value.int .i64)).length)).toArray=ints zs:=by
   simp[ints,toList_madeCells_one]
  rw[e,Ej];simp[goInt]
theorem below_drewN{B:Nat}{a w:World}(h:Below B a w)(n:Nat):Below B a (w.drewN n):=⟨h.os,h.tape,h.output,h.size,h.block⟩
theorem dW{w a b:World}(h:Below w.heap.size w a)(k:Below a.heap.size a b):Below w.heap.size w b:=h.trans (k.mono h.size)
theorem bz{k:IntKind}{a b:Int}(h:a=b):Ending.returned (.int k a)=.returned (.int k b):=by rw[h]
theorem bP{a b:Bool}(h:a=b):Ending.returned (.bool a)=.returned (.bool b):=by rw[h]
section
set_option linter.defProp false
def aX:=@List.getD_eq_getElem?_getD
def an:=@Nat.le_refl
def aC:=@List.mem_of_getElem?
def bc:=@List.getElem?_eq_getElem
def a5:=@List.getElem?_eq_some_iff
def bD:=@Option.map_eq_some_iff
def bR:=@List.take_of_length_le
def bu:=@Nat.lt_of_lt_of_le
def aT:=@Nat.zero_le
def aO:=@Nat.le_trans
def a1:=@List.length_append
def cf:=@Int.eq_ofNat_of_zero_le
def aV:=@Go.IntKind.wrap_i64
def a8:=@Go.bodyPost_ret
def bW:=@Bool.and_eq_true
def bI:=@Int.toNat_natCast
def bj:=@List.getElem?_map
def bm:=@Go.RowKit.Below.heap_setCell
def eX:=@Array.getElem?_eq_some_iff
def cu:=@decide_eq_true_eq
def cm:=@List.mem_cons_self
def aY:=@Go.RowKit.Below.refl
def bg:=@Go.IntKind.wrap_u64
def bT:=@List.mem_cons
def br:=@List.length_map
def dl:=@List.mem_cons_of_mem
def bB:=@List.length_take
def cF:=@List.mem_singleton
def cG:=@List.mem_of_mem_take
def b8:=@Go.results_cell_tmp
def bJ:=@List.mem_append
def ev:=@Array.getElem?_setIfInBounds_ne
def hZ:=@Nat.mul_le_mul_right
def eK:=@List.take_append_of_le_length
def ew:=@List.getElem?_append_right
def dX:=@List.map_cons
def de:=@List.take_append_drop
def ei:=@List.drop_eq_getElem_cons
def cJ:=@List.map_append
def cZ:=@List.all_eq_true
def cn:=@Option.some.inj
def bC:=@List.mem_map
def dC:=@List.mem_of_mem_drop
def ey:=@List.drop_of_length_le
def eA:=@List.getElem?_of_mem
def dm:=@List.length_cons
def dY:=@Go.World.cell?_of_block
def ff:=@List.getElem?_drop
def fg:=@List.length_replicate
def bQ:=@Go.Addr.add_lit
def eY:=@List.getElem?_take
def bX:=@Nat.zero_add
def bA:=@trivial
def fG:=@List.append_nil
def b9:=@Nat.le_succ
def jY:=@List.eq_nil_of_length_eq_zero
def ej:=@List.length_set
def dt:=@Nat.min_eq_left
def dg:=@List.append_assoc
def mm:=@Int.natCast_mul
def c6:=@List.getElem?_eq_none
def dJ:=@List.take_length
def fH:=@Int.natCast_add
def dZ:=@List.length_drop
def h0:=@List.getElem?_set_self
def kG:=@List.not_mem_nil
def fh:=@List.take_succ_cons
def ix:=@List.getElem?_replicate
def iz:=@List.sum_cons
def dK:=@List.take_zero
def ez:=@List.take_take
def na:=@Nat.succ_mul
def jZ:=@List.map_nil
def dL:=@Prod.mk.injEq
def iA:=@List.eq_of_mem_replicate
def fj:=@List.map_congr_left
def cv:=@congrArg
def qN:=@List.nodup_cons
def ek:=@List.ext_getElem?
def mn:=@List.pairwise_iff_getElem
def g4:=@List.drop_succ_cons
def g5:=@Array.length_toList
def gE:=@Nat.add_zero
def eZ:=@List.getElem?_set
def kH:=@List.set_append_right
def ef:=@decide_eq_true
def g6:=@List.pairwise_cons
def kI:=@List.replicate_succ
def dM:=@Int.le_refl
def eB:=@Nat.sub_self
def dD:=@decide_eq_false
def j0:=@List.range_succ
def iY:=@Int.mul_assoc
def dE:=@Nat.le_of_eq
def qO:=@Array.getElem?_modify
def Xv:=@not_false_eq_true
def g8:=@List.flatMap_cons
def nb:=@List.getElem_mem
def iB:=@Int.mul_comm
def eT:=@List.drop_zero
def e9:=@List.take_left'
def jq:=@List.set_cons_zero
def rH:=@List.mem_or_eq_of_mem_set
def lI:=@List.getElem?_append_left
def dk:=@Go.run_slice_l
def pS:=@Nat.mul_le_mul_left
def J4:=@List.nodup_nil
def fI:=@List.getElem?_range
def fb:=@List.take_add_one
def rJ:=@Array.getElem?_setIfInBounds_self_of_lt
def kj:=@List.nil_append
def kl:=@List.foldl_cons
def lJ:=@List.getElem?_set_ne
def iC:=@Int.mul_nonneg
def en:=@Prod.mk.inj
def eG:=@Nat.mul_one
def jr:=@List.flatMap_append
def vG:=@Int.mul_le_mul_of_nonneg_right
def hx:=@Go.heap_alloc_new
def km:=@List.size_toArray
def lK:=@List.mem_append_left
def pU:=@Int.mul_le_mul_of_nonneg_left
def js:=@Int.ediv_nonneg
def nf:=@List.mem_flatMap
def dU:=@Go.run_underlying
def lL:=@List.mem_append_right
def nh:=@List.getElem?_cons_succ
def B0:=@List.setIfInBounds_toArray
def lM:=@List.pairwise_append
def hM:=@List.mem_range
def lN:=@or_false
def jt:=@Nat.zero_mul
def ju:=@Nat.not_lt_zero
def nj:=@Go.RowKit.Below.heap_alloc
def vH:=@Int.emod_lt_of_pos
def B1:=@List.map_toArray
def pV:=@List.filter_cons_of_neg
def jv:=@Int.add_mul
def fJ:=@Go.wpStill_nil
def nl:=@Nat.add_assoc
def nm:=@of_decide_eq_true
def dF:=@Ne.symm
def gw:=@Nat.not_lt
def gV:=@Nat.le_of_lt
def vI:=@List.take_succ_eq_append_getElem
def pW:=@List.nodup_append
def nr:=@List.foldl_append
def vJ:=@List.exists_cons_of_ne_nil
def kn:=@Int.mul_le_mul
def pX:=@Array.toList_setIfInBounds
def rK:=@Go.Result.andThen_ok
def pY:=@List.sum_append
def nn:=@List.length_nil
def hU:=@Go.rounds_succ
def ko:=@Nat.min_self
def jw:=@List.map_take
def vK:=@Int.emod_nonneg
def J5:=@Nat.two_pow_add_eq_or_of_lt
def vL:=@List.drop_sublist_drop_left
def J6:=@Int.ediv_eq_zero_of_lt
def Ud:=@Int.add_mul_emod_self_right
def pZ:=@Option.getD_some
def rL:=@Nat.lt_or_gt_of_ne
def lO:=@List.length_singleton
def B2:=@List.getElem?_reverse
def rM:=@List.countP_le_length
def rN:=@Int.ediv_lt_of_lt_mul
def p0:=@Go.grownCap_le_maxLen
def p2:=@List.mem_filter
def nt:=@List.drop_left'
def Ue:=@and_true
def kq:=@List.map_set
def p3:=@List.filter_congr
def nu:=@List.all_eq_false
def J7:=@Int.zero_add
def vM:=@List.Sublist.append_left
def vN:=@Go.run_append_own_at
def lP:=@Go.run_makeSlice
def vO:=@List.take_set_of_le
def J8:=@Nat.add_sub_cancel_left
def vP:=@List.filter_cons_of_pos
def rO:=@List.drop_length
def B3:=@List.any_eq_true
def ado:=@Go.wp_loop_rounds
def ny:=@Nat.one_mul
def rP:=@Nat.add_mul
def lQ:=@Go.IntWalk.i64_in
def vQ:=@Nat.mul_comm
def p4:=@List.map_map
def vR:=@Int.le_ediv_iff_mul_le
def Uf:=@Int.add_mul_ediv_right
def kr:=@Go.run_slice_h
def J9:=@Int.mul_ediv_mul_of_pos_left
def B4:=@Bool.or_eq_true
def lR:=@Go.run_slice_lh
def B5:=@Go.Sem.run_pure
def rQ:=@Go.Sem.run_bind
def kt:=@Nat.lt_irrefl
def nz:=@List.map_drop
def vS:=@List.eq_replicate_iff
def rR:=@List.count_append
def vT:=@Nat.mul_pos
def Ka:=@Nat.mod_two_eq_zero_or_one
def rS:=@List.drop_take
def p5:=@Nat.lt_succ_self
def rT:=@List.take_append
def rU:=@List.getElem_set
def B6:=@Int.pow_succ
def vU:=@Go.wpList_append_own_at
def B7:=@Go.toList_madeCells_one
def B8:=@List.getElem?_eq_none_iff
def B9:=@Decidable.byContradiction
def vV:=@List.countP_eq_zero
def rV:=@Nat.div_le_self
def rW:=@Int.natCast_pow
def rX:=@Bool.eq_iff_iff
def vW:=@List.filter_append
def Kb:=@BitVec.ofInt_toInt
def lS:=@Array.ext'
def Ca:=@Int.pow_pos
def vX:=@Int.one_mul
def nA:=@Go.grownCap_ge
def Cb:=@Go.World.block_lt_of_cell?
def rY:=@Nat.succ_pos
def Cc:=@Nat.lt_trichotomy
def adb:=@Nat.le_mul_of_pos_left
def nB:=@Go.MapKept.run_getObj_map
def Cd:=@List.contains_iff_mem
def Kc:=@Int.mul_ediv_add_emod
def vY:=@Go.DataW.weights_mem_each
def rZ:=@List.ext_getElem
def Ug:=@List.cons_append
def Uh:=@Nat.mul_assoc
def r3:=@Bool.or_false
def Ce:=@List.count_singleton
def vZ:=@Go.ChangeMaps.heap_setBlock_other
def r4:=@List.all_append
def v8:=@Go.MapKept.run_checkKey
def v9:=@Go.MapKept.findNow_spec
def Cf:=@List.length_zipWith
def Kd:=@List.length_pos_iff
def wa:=@Go.ChangeMaps.heap_setBlock_same
def Kh:=@BitVec.msb_eq_toInt
def Cg:=@Array.toList_append
def Ci:=@Go.run_firstCells_some
def Cj:=@Nat.eq_zero_or_pos
def we:=@Go.MapKept.run_findKey
def r5:=@List.set_cons_succ
def wg:=@List.count_nil
def Ck:=@List.countP_append
def Ui:=@Int.cast_ofNat_Int
def Ki:=@BitVec.msb_xor
def Kj:=@List.getLastD_eq_getLast?
def Uj:=@List.getElem?_zip_eq_some
def Cm:=@Int.mul_add
def Cn:=@Bool.not_eq_true'
def Co:=@Bool.eq_false_iff
def Kk:=@List.length_erase_of_mem
def Cp:=@List.drop_set
def Uk:=@List.all_cons
def wh:=@Bool.true_and
def Km:=@Go.World.cells?_some
def Ul:=@Nat.min_eq_right
def Kn:=@List.countP_cons_of_pos
def Cq:=@Int.natCast_ediv
def wj:=@if_true
def hR:=@bne_iff_ne
def wk:=@Nat.sub_zero
def r6:=@Nat.add_comm
def Ko:=@List.length_pos_of_mem
def Um:=@Int.zero_mul
def Kq:=@Int.add_zero
def Kr:=@Int.add_comm
def nC:=@Option.map_some
def wm:=@Go.MapKept.run_setObj_map
def Un:=@Nat.mul_le_mul
def Ks:=@Int.sub_mul
def Kt:=@Int.pow_add
def r7:=@and_assoc
def Cr:=@Go.growslice_fits
def Cs:=@Go.World.cell?_alloc_at
def wn:=@Go.run_slice_lhm
def Ku:=@Nat.ne_of_lt
def Ct:=@Int.le_trans
def Cu:=@Int.emod_def
def Cv:=@Decidable.em
def Cw:=@Go.run_storeCells_at
def wo:=@Go.World.ownsRow_nil
def Cx:=@Go.DataW.trod_struct
def Uo:=@Go.World.size_alloc
def Kv:=@Go.bits_or_u64_nat
def ag:=@if_neg
def ah:=@if_pos
theorem lh{α:Type}(t:α):∃y,t=y:=⟨_,rfl⟩
theorem lg{α:Type}(t:α):∃y,y=t:=⟨_,rfl⟩
theorem lC{α:Type}(t:α):∃y,Hx (t=y):=⟨_,rfl⟩
theorem lgH{α:Type}(t:α):∃y,Hx (y=t):=⟨_,rfl⟩
theorem om{p:Prop}(h:p:=by omega):p:=h
theorem aq{p:Prop}(h:p:=by kernel_rfl):p:=h
theorem nlr{n:Nat}:n<=n:=Nat.le_refl n
theorem nzl{n:Nat}:0<=n:=Nat.zero_le n
theorem ak{p:Prop}(h:p:=by decide):p:=h
theorem aG{p:Prop}(h:p:=by simp):p:=h
theorem e6{p:Prop}(h:p:=by simp[intOf];omega):p:=h
theorem bY{p:Prop}(h:p:=by simp;omega):p:=h
abbrev cAt:=Calls Tryz.prog
def ao:=@inferInstance.{0}
instance:Coe Int Value:=⟨Value.int .i64⟩
instance:Coe Nat Value:=⟨fun n=>Value.int .i64 (n:Int)⟩
instance:Coe World Nat:=⟨fun w=>w.heap.size⟩
instance{α:Type}:CoeOut (List α) Nat:=⟨List.length⟩
instance:Coe Nat (Option Addr):=⟨fun g=>some ⟨g,0,none⟩⟩
instance{A:Option Addr}{n c:Nat}:CoeDep (Option Addr×Nat×Nat) (A,n,c) Value:=⟨.slice A n c⟩
instance{g n c:Nat}:CoeDep (Nat×Nat×Nat) (g,n,c) Value:=⟨.slice (some ⟨g,0,none⟩) n c⟩
instance{w:World}{n c:Nat}:CoeDep (World×Nat×Nat) (w,n,c) Value:=⟨.slice (some ⟨w.heap.size,0,none⟩) n c⟩
instance{b o:Nat}:CoeDep (Nat×Nat) (b,o) Addr:=⟨⟨b,o,none⟩⟩
inductive Zr0 where
 |z
def au:=Zr0.z
instance:Coe Zr0 Value:=⟨fun _=>.int .i64 0⟩
instance:Coe Unit Value:=⟨fun _=>.slice none 0 0⟩
instance:CoeFun Unit (fun _=>FuncId->Array Value->World->(Ending->World->Prop)->Prop):=⟨fun _=>Calls Tryz.prog⟩
theorem mv{P:Program}{f:FuncId}{a:Array Value}{w:World}{v:Ending}{R:World->Prop}{Q:Ending->World->Prop}(h:Calls P f a w (fun e u=>e=v/\R u))(k:∀u,R u->Q v u):Calls P f a w Q:=h.mono fun _ u ⟨e,r⟩=>e▸k u r
abbrev av:=List Int
abbrev cD:=Option Addr
abbrev ay:=World
abbrev iP:=List Value
abbrev eL:=Array Value
abbrev fV:=List (List Int)
end
section
variable{W u:World}{A:Option Addr}{base c m:Nat}{zs:List Int}{H:Type}{enc:TypeId×Value->H}{P:Program}{held:Bool}{T:TypeId}{v:Value}{fs:Array Field}{spare:Nat->Bool}{vs:List Value}
section
open Go.ChangeShapes Go.WideShapes Go.ChangeAt Go.RowKit
def jx(W:ay)(A:cD)(c:Nat)(zs:av):Prop:=Rd W A zs/\zs.length<=c/\c<=maxLen/\∀z∈zs,(Lit.int .i64 z).wf=true
def jx.rd(h:jx W A c zs):Rd W A zs:=h.1
def qP{E:TypeId}{x:DataW H×List MemPlace}(M:P.underlying T=some (.slice E))(hE:P.underlying E=some (.int .i64))(N:P.cellsOf E=1)
  (h:DataW.trod enc P W base (λ_=>true) held m T [v]=some x):∃A c zs,v=.slice A zs.length c/\jx W A c zs:=by
 rcases open_ints M hE N h with⟨B,_⟩|⟨a,l,c,zs,B,_,O,hm,L,_,r,D⟩
 .cases B;exact⟨none,0,[],rfl,Rd.nil _ _,an _,aT _,aG⟩
 .cases B;simp only[wj]at L;refine⟨some a,c,zs.take l,by simp[L,dt O],λj z C=>?_,by simp;omega,hm,λz F=>D z (cG F)⟩;have G:j<zs.length:=by
   have:=(a5.1 C).1;simp at this;omega
  have I:zs.getD j 0=z:=by
   have Q:zs[j]?=some z:=by
    rw[eY]at C
    split at C
    .exact C
    .cases C
   simp[List.getD,Q]
  have u:=r j G;rw[I]at u;have⟨b,off,sp⟩:=a;have J:sp=none:=by
   cases sp with
   |none=>rfl
   |some s=>
    exfalso;have K:=r 0 om;simp[Addr.add,World.cell?]at K
    split at K<;>simp at K
  subst J;have y:W.cell? (b,off+j)=some (.int .i64 z):=by
   unfold Addr.add at u
   split at u
   .rename_i e;subst e;exact u
   .exact u
  exact⟨b,off,rfl,Cb W _ y,y⟩
def wE{x:DataW H×List MemPlace}(b:P.underlying T=some (.int .i64))
  (h:DataW.trod enc P W base (λ_=>true) held m T [v]=some x):∃n,v=.int .i64 n/\(Lit.int .i64 n).wf=true:=by
 have⟨n,e,_,hw⟩:=DataW.trod_int b h;simp at e;subst e;exact⟨n,rfl,hw⟩
def fld{cs:iP}{x:DataW H×List MemPlace}(e:P.underlying T=some (.struct fs))(h:DataW.trod enc P W base spare held m T cs=some x)
  (i:Nat) (f:Field) (b:fs[i]?=some f):∃n y,DataW.trod enc P W base spare held n f.type ((cs.drop f.offset).take (P.cellsOf f.type))=some y:=by
 obtain⟨xs,n,_,_,_,j,hg⟩:=Cx e h;have hi:i<xs.length:=by rw[j];exact(eX.1 b).1
 exact⟨n,xs[i],(hg i f b).trans (bc hi)⟩
def wF(B:laidOutB P=true){j:List TypeId}{l:List (DataW H)}{ps:List MemPlace}(e:∀t∈j,P.readableRec t=true/\t<P.types.size)
  (h:DataW.TrodAll enc P W 0 (λ_=>true) true j vs l ps) (hb:Below W.1.size W u):DataW.TrodAll enc P u 0 (λb=>decide (b<W.1.size)) true j vs l ps:=by
 induction j generalizing vs l ps with
 |nil=>
  obtain⟨rfl,rfl,rfl⟩:=trodAll_nil h;exact trodAll_mk0
 |cons t j C=>
  obtain⟨v,D,d,E,p,q,rfl,rfl,rfl,z,r0⟩:=trodAll_cons h;have r:∀x∈p,x.block<W.1.size:=by obtain⟨m,hm⟩:=z;exact DataW.trod_lt m _ _ _ hm
  exact trodAll_cons_mk (Below.trod B (e t cm).1 (e t cm).2 z hb r) (C (λF y=>e F (dl _ y)) r0)
def aaB{cs:eL}(h:cs.size=6):∃c0 c1 c2 c3 c4 b,cs= #[c0,c1,c2,c3,c4,b]:=by
 have⟨l⟩:=cs
 match l,h with
 |[c0,c1,c2,c3,c4,b],_=>exact⟨_,_,_,_,_,_,rfl⟩
def wG{n:Int}(h:(Lit.int .i64 n).wf=true): -9223372036854775808<=n/\n<=9223372036854775807:=bounds_i64 h
def zE:ownKnob prog.godebug=none:=aq
def Cy:laidOutB prog=true:=aq
def O5(W:ay)(e:Ending)(b:ay):Prop:=e=.returned (.bool true)/\Below W.1.size W b
end
end
section
variable{w':World}{A:Option Addr}{B' c:Nat}{zs:List Int}{P:Program}{ops:Array Oper}{a:Act}{Q:Exit->Act->World->Prop}
def az(w:ay)(B:Nat)(E:TypeId)(A:cD)(c:Nat)(zs:av):Prop:=w.ownsRow B E 1 (.slice A zs c) zs.length (zs.map (Value.int .i64))
section
variable{w:World}{B:Nat}{E:TypeId}
def az.nil(w)(B)(E):az w B E none 0 []:=wo w B E 1
def az.form(h:az w B E A c zs):(A=none/\zs=[]/\c=0)\/∃g b,A=some ⟨g,0,none⟩/\B<=g/\w.heap[g]?=some (.cells b E (0,0))/\zs.length<=c/\c<=maxLen/\b.size=c/\b.toList.take zs.length=zs.map (Value.int .i64):=by
 rcases h.2 with⟨hv,l⟩|⟨g,cap,b,hv,m,hg,r,hm,u,ht⟩
 .injection hv with e y j
  exact .inl ⟨e,jY l,j⟩
 .injection hv with e y j
  subst j;exact .inr ⟨g,b,e,m,hg,r,hm,by simpa using u,by simpa using ht⟩
def az.rd(h:az w B E A c zs):Rd w A zs:=by
 rcases h.form with⟨_,rfl,_⟩|⟨g,b,rfl,u,hg,y,hm,C,ht⟩
 .exact Rd.nil _ _
 .intro j z m;refine⟨g,0,rfl,(eX.1 hg).1,?_⟩;have l:j<zs.length:=(a5.1 m).1;have e:b[j]?=some (.int .i64 z):=by
   have r:(b.toList.take zs.length)[j]?=some (.int .i64 z):=by rw[ht,bj,m];rfl
   rw[eY,ah l]at r;simpa using r
  simp[World.cell?,hg,e]
def az.fresh(h:az w B E A c zs):∀b,A=some b->B<=b.block:=by
 rcases h.form with⟨rfl,_,_⟩|⟨g,e,rfl,j,_⟩
 .intro b h;cases h
 .intro b h;cases h;exact j
def az.lt(h:az w B E A c zs):∀b,A=some b->b.block<w.1.size:=by
 rcases h.form with⟨rfl,_,_⟩|⟨g,e,rfl,j,hg,_⟩
 .intro b h;cases h
 .intro b h;cases h;exact(eX.1 hg).1
def az.gW(h:az w B E A c zs):zs.length<=c:=by
 rcases h.form with⟨_,rfl,rfl⟩|⟨_,_,_,_,_,b,_⟩
 .exact an _
 .exact b
def az.same(h:az w B E A c zs)(l:∀b,A=some b->w'.heap[b.block]?=w.heap[b.block]?):az w' B E A c zs:=by
 refine⟨h.1,?_⟩;rcases h.2 with m|⟨g,cap,e,hv,r,hg,rest⟩
 .exact .inl m
 .injection hv with j y u
  exact .inr ⟨g,cap,e,by rw[j,u],r,by rw[<-hg];exact l _ j,rest⟩
def az.keep(h:az w B E A c zs)(hb:Below w.1.size w w'):az w' B E A c zs:=h.same λb e=>hb.block _ (h.lt b e)
def az.alloc(h:az w B E A c zs)(o):az (w.alloc o) B E A c zs:=h.same λb e=>nj w o _ (h.lt b e)
def az.more(h:az w B E A c zs)(j:B'<=B):az w B' E A c zs:=by
 refine⟨h.1,?_⟩;rcases h.2 with e|⟨g,cap,b,hv,hb,r⟩
 .exact .inl e
 .exact .inr ⟨g,cap,b,hv,om,r⟩
end
def hC{w:ay}{rest:List Oper}{o:Oper}(G:o.guard=none)(s x:Operand)(t:TypeId)
  (R:o.op=.call {callee:=.builtin .append,args:= #[s,x],argTypes:= #[t,t]}) (E:TypeId) (ht:P.underlying t=some (.slice E))
  (l:(P.info? E).map (λi=>(i.zero,i.size,i.bytes))=some (some (.int .i64 0),1,8))
  (B:Nat) (A:cD) (c:Nat) (zs:av) (hs:a.eval s=.slice A zs c) (b:az w B E A c zs) (y:Int)
  (S:a.eval x=.slice w.1.size 1 1) (M:zs.length<=1000000000) (T:B<=w.1.size)
  (h:∀N O w',az w' B E N O (zs++[y])->Below B w w'->(∀k,k<w.1.size->(∀C,A=some C->C.block≠k)->w'.heap[k]?=w.heap[k]?)->w.1.size<w'.1.size->
   wpList P ops Q rest (a.put o.dst (.slice N (zs.length+1) O)) w'):
  wpList P ops Q (o::rest) a (w.alloc (.cells #[y] E)):=by
 have⟨i,hi,fk⟩:=bD.1 l;simp only[dL]at fk;obtain⟨I,J,K⟩:=fk;have m:=b.alloc (.cells #[y] E);refine vU (w.alloc (.cells #[y] E)) G s x t R B E i au 1 8 ht hi I J K rfl ak _ _ _ hs m ⟨w.1.size,0,none⟩ 1 1 [.int .i64 y] S rfl
  (λj u hu=>?_) (by simp[Value.oneCell']) (by unfold maxLen;omega) om bY ?_
 .have U:j=0:=by
   cases j with
   |zero=>rfl
   |succ j=>simp at hu
  subst U;simp at hu;subst hu;simp[Addr.add,Cs]
 .intro V w' r hg _ _;have X:(zs++[y]).length=zs.length+1:=aG;rcases r.2 with⟨hv,hn⟩|⟨g,cap,Y,hv,Z,Cz,CC,LG,Xw,Xx⟩
  .omega
  .have D:V=.slice g (zs.length+1) cap:=hv;rw[D];rw[D]at r;refine h _ _ _ ?_ ?_ ?_ ?_
   .unfold az;rw[X,cJ];exact r
   .refine((aY B w).alloc T _).grown hg bY ?_;intro k F;have:Value.ownBlock (.slice A zs c)=A.map (·.block):=by cases A<;>rfl
    rw[this]at F;obtain⟨C,z,rfl⟩:=bD.1 F;exact b.fresh C z
   .intro k F L;rw[hg.block k bY ?_,nj _ _ _ F];have:Value.ownBlock (.slice A zs c)=A.map (·.block):=by cases A<;>rfl
    rw[this];intro e;obtain⟨C,z,rfl⟩:=bD.1 e.symm;exact L C z rfl
   .have:=hg.size;simp at this;omega
end
variable{g:Nat}{W w' wr:World}{T:TypeId}{zs:List Int}{A:Option Addr}
structure Aside(g:Nat)(W wr:World):Prop where
 size:W.1.size<=wr.1.size
 same:∀k,k<W.1.size->k≠g->wr.heap[k]?=W.heap[k]?
def Aside.refl(g)(W):Aside g W W:=⟨an _,λ_ _ _=>rfl⟩
def Aside.ax(h:Aside g W wr)(i:Nat)(v:Value):Aside g W (wr.setCell (g,i) v):=
 ⟨by have:=h.size;simp;omega,λk b hg=>(bm wr ⟨g,i,none⟩ v k hg).trans (h.same k b hg)⟩
def Aside.drew(h:Aside g W wr):Aside g W wr.drew:=⟨h.size,h.same⟩
def Aside.below(h:Aside g W wr)(hb:Below wr.1.size wr w'):Aside g W w':=
 ⟨aO h.size hb.size,λk b hg=>(hb.block k (bu b h.size)).trans (h.same k b hg)⟩
def Aside.al{k:Nat}{cs:eL}(h:Aside g W wr)(hb:aB W k T cs)(b:k≠g):aB wr k T cs:=(h.same k hb.lt b).trans hb
def Aside.own{k:Nat}(h:Aside g W wr)(hb:Own W k T zs)(b:k≠g):Own wr k T zs:=(h.same k hb.lt b).trans hb
def Aside.rd(h:Aside g W wr)(r:Rd W A zs)(l:∀m,A=some m->m.block≠g):Rd wr A zs:=by
 intro j z u;have⟨b,off,e,hb,hc⟩:=r j z u;refine⟨b,off,e,bu hb h.size,?_⟩;rw[<-hc];exact dY (h.same b hb (l _ e))
def Rd.old{w:ay}(h:Rd w A zs)(l:zs≠[]):∀j,A=some j->j.block<w.1.size:=by
 intro j e;obtain⟨z,t,rfl⟩:=vJ l;have⟨b,off,e2,hb,_⟩:=h 0 z rfl;rw[e]at e2;cases e2;exact hb
def Aside.fc{w:ay}(h:Aside g W wr)(j:Rd w A zs)(l:Rd W A zs)(hg:w.1.size<=g):Rd wr A zs:=by
 by_cases b:zs=[]
 .subst b;exact Rd.nil _ _
 .exact h.rd l λm e=>by have:=j.old b m e;omega
section
variable{X u:World}{c d i m:Nat}{P:Program}{ops:Array Oper}{Q:Exit->Act->World->Prop}{md:Region.Mode}{oi:Oper}{v:Value}{listed:Array Bool}{df:List Deferred}{l':List Value}
class aj(w':World)(w:outParam World):Prop where
 st:Below w.1.size w w'
class aF(w w':World):Prop where
 st:Below w.1.size w w'
instance(priority:=high) aF.same(w:ay):aF w w:=⟨aY _ _⟩
instance aF.step{w x:ay}[p:aj w' x][l:aF w x]:aF w w':=⟨dW l.st p.st⟩
instance aj.alloc(w:ay)(o:Obj):aj (w.alloc o) w:=⟨(aY _ _).alloc (an _) _⟩
instance aj.drew(w:ay):aj w.drew w:=⟨(aY _ _).drew⟩
instance aj.drewN(w:ay)(n:Nat):aj (w.drewN n) w:=⟨below_drewN (aY _ _) n⟩
theorem aF.trans{a c:ay}(h:aF a u)(k:aF u c):aF a c:=⟨dW h.st k.st⟩
section
variable{w:World}
def Rd.at(h:Rd w A zs)[l:aF w w']:Rd w' A zs:=h.below l.st
def aB.at{cs:eL}(h:aB w g T cs)[l:aF w w']:aB w' g T cs:=h.keep l.st
def Own.at(h:Own w g T zs)[l:aF w w']:Own w' g T zs:=h.keep l.st
def az.at{B:Nat}(h:az w B T A c zs)[l:aF w w']:az w' B T A c zs:=h.keep l.st
def ai[l:aF w w']:w.1.size<=w'.1.size:=l.st.size
end
def Aside.trans{g:Nat}{W a b:ay}(h:Aside g W a)(k:Aside g a b):Aside g W b:=
 ⟨aO h.size k.size,λj e hg=>(k.same j (bu e h.size) hg).trans (h.same j e hg)⟩
def a7(w w')[l:aF w w']:Below w.1.size w w':=l.st
section
variable{S:World->Prop}
def bN{l:iP}{w:ay}(hi:ops[i]?=some oi)(hd:oi.dst=some d)
  (hs:Region.noSelect ops=true) (b:Region.free md ops listed i=true) (hr:(Region.ready md ops listed).contains i=true)
  (e:∀c a w,Q (.panic c) (a.put oi.dst v) w->Q (.panic c) a w) (j:Region.wanted oi (yielded ops l.toArray)=true) (hS:S w)
  (r:∀u,S u->(execOp (Act.eval ⟨l.toArray,df⟩) oi).run P u=.ok (.value v) u)
  (h:wpAnyH P md ops Q S m (listed.setIfInBounds i true) ⟨(l.set d v).toArray,df⟩ w):wpAnyH P md ops Q S (m+1) listed ⟨l.toArray,df⟩ w:=by
 refine wpAnyH_take hi hs b hr e (.inl ⟨j,r⟩) hS ?_;rw[hd];simpa[Act.put]using h
def o0{l:iP}{w:ay}(hi:ops[i]?=some oi)(hd:oi.dst=some d)
  (hs:Region.noSelect ops=true) (b:Region.free md ops listed i=true) (hr:(Region.ready md ops listed).contains i=true)
  (e:∀c a w,Q (.panic c) (a.put oi.dst undef) w->Q (.panic c) a w) (j:Region.wanted oi (yielded ops l.toArray)=false) (hS:S w)
  (h:wpAnyH P md ops Q S m (listed.setIfInBounds i true) ⟨(l.set d undef).toArray,df⟩ w):wpAnyH P md ops Q S (m+1) listed ⟨l.toArray,df⟩ w:=by
 refine wpAnyH_take hi hs b hr e (.inr ⟨j,rfl⟩) hS ?_;rw[hd];simpa[Act.put]using h
end
section
variable{w:World}
def uY(i d){l:iP}[aF X w]
  (h:wpAnyH P md ops Q (λw'=>aj w' X) m (listed.setIfInBounds i true) ⟨l'.toArray,df⟩ w)
  (hi:ops[i]?=some oi:=by rfl) (hd:oi.dst=some d:=by rfl)
  (hs:Region.noSelect ops=true:=by kernel_rfl) (b:Region.free md ops listed i=true:=by kernel_rfl) (hr:(Region.ready md ops listed).contains i=true:=by kernel_rfl)
  (e:∀c a w,Q (.panic c) (a.put oi.dst v) w->Q (.panic c) a w:=by exact λ_ _ _ h=>h) (j:Region.wanted oi (yielded ops l.toArray)=true:=by kernel_rfl)
  (r:∀u,aj u X->(execOp (Act.eval ⟨l.toArray,df⟩) oi).run P u=.ok (.value v) u:=by intro u _;go_simp;try(with_reducible rfl))
  (y:l.set d v=l':=by try simp only[List.set];try rfl)
  :wpAnyH P md ops Q (λw'=>aj w' X) (m+1) listed ⟨l.toArray,df⟩ w:=by
 subst y;exact bN hi hd hs b hr e j ⟨a7 X w⟩ r h
def mI(i d){l:iP}[aF X w]
  (h:wpAnyH P md ops Q (λw'=>aj w' X) m (listed.setIfInBounds i true) ⟨l'.toArray,df⟩ w)
  (hi:ops[i]?=some oi:=by rfl) (hd:oi.dst=some d:=by rfl)
  (hs:Region.noSelect ops=true:=by kernel_rfl) (b:Region.free md ops listed i=true:=by kernel_rfl) (hr:(Region.ready md ops listed).contains i=true:=by kernel_rfl)
  (e:∀c a w,Q (.panic c) (a.put oi.dst undef) w->Q (.panic c) a w:=by exact λ_ _ _ h=>h) (j:Region.wanted oi (yielded ops l.toArray)=false:=by kernel_rfl)
  (r:l.set d undef=l':=by try simp only[List.set];try rfl)
  :wpAnyH P md ops Q (λw'=>aj w' X) (m+1) listed ⟨l.toArray,df⟩ w:=by
 subst r;exact o0 hi hd hs b hr e j ⟨a7 X w⟩ h
end
end
section
variable{X:World}{df:List Deferred}
inductive Qs(P:Program)(ops:Array Oper)(Q:Exit->Act->World->Prop)(md:Region.Mode)(S:World->Prop)(df:List Deferred):Nat->Array Bool->List Value->List Nat->Nat->Array Bool->List Value->Prop
 |nil {f:Nat} {listed:Array Bool} {l:List Value}:Qs P ops Q md S df f listed l [] f listed l
 |on {i:Nat} {is:List Nat} {f f' d:Nat} {oi:Oper} {v:Value} {listed gF:Array Bool} {l l1 l':List Value}
  (hi:ops[i]?=some oi) (hd:oi.dst=some d) (hs:Region.noSelect ops=true) (hf:Region.free md ops listed i=true) (hr:(Region.ready md ops listed).contains i=true)
  (hQ:∀c a w,Q (.panic c) (a.put oi.dst v) w->Q (.panic c) a w) (hw:Region.wanted oi (yielded ops l.toArray)=true)
  (hy:∀u,S u->(execOp (Act.eval ⟨l.toArray,df⟩) oi).run P u=.ok (.value v) u) (hl:l.set d v=l1)
  (h:Qs P ops Q md S df f (listed.setIfInBounds i true) l1 is f' gF l'):Qs P ops Q md S df (f+1) listed l (i::is) f' gF l'
 |off {i:Nat} {is:List Nat} {f f' d:Nat} {oi:Oper} {listed gF:Array Bool} {l l1 l':List Value}
  (hi:ops[i]?=some oi) (hd:oi.dst=some d) (hs:Region.noSelect ops=true) (hf:Region.free md ops listed i=true) (hr:(Region.ready md ops listed).contains i=true)
  (hQ:∀c a w,Q (.panic c) (a.put oi.dst undef) w->Q (.panic c) a w) (hw:Region.wanted oi (yielded ops l.toArray)=false)
  (hl:l.set d undef=l1)
  (h:Qs P ops Q md S df f (listed.setIfInBounds i true) l1 is f' gF l'):Qs P ops Q md S df (f+1) listed l ((i+500)::is) f' gF l'
theorem Up{P:Program}{ops:Array Oper}{Q:Exit->Act->World->Prop}{md:Region.Mode}{S:World->Prop}{w:World}{f f':Nat}{listed gF:Array Bool}{l l':List Value}{is:List Nat}(hS:S w)
  (hq:Qs P ops Q md S df f listed l is f' gF l') (h:wpAnyH P md ops Q S f' gF ⟨l'.toArray,df⟩ w):wpAnyH P md ops Q S f listed ⟨l.toArray,df⟩ w:=by
 induction hq with
 |nil=>exact h
 |on hi hd hs hf hr hQ hw hy hl _ ih=>subst hl;exact bN hi hd hs hf hr hQ hw hS hy (ih h)
 |off hi hd hs hf hr hQ hw hl _ ih=>subst hl;exact o0 hi hd hs hf hr hQ hw hS (ih h)
variable{P:Program}{ops:Array Oper}{Q:Exit->Act->World->Prop}{md:Region.Mode}{w:World}{f f':Nat}{listed gF:Array Bool}{l l':List Value}
theorem qL(is:List Nat)[aF X w](h:wpAnyH P md ops Q (fun w'=>aj w' X) f' gF ⟨l'.toArray,df⟩ w)
  (hq:Qs P ops Q md (fun w'=>aj w' X) df f listed l is f' gF l':=by
   repeat
    first
    |exact .nil
    |apply Qs.off
     ·exact rfl
     ·exact rfl
     ·kernel_rfl
     ·kernel_rfl
     ·kernel_rfl
     ·exact fun _ _ _ h=>h
     ·kernel_rfl
     ·try simp only[List.set]
      try rfl
    |apply Qs.on
     ·exact rfl
     ·exact rfl
     ·kernel_rfl
     ·kernel_rfl
     ·kernel_rfl
     rotate_left
     ·kernel_rfl
     ·intro u hu
      try dsimp only at hu
      go_simp
      try(with_reducible rfl)
     ·try simp only[List.set]
      try rfl
     rotate_right
     ·exact fun _ _ _ h=>h)
  :wpAnyH P md ops Q (fun w'=>aj w' X) f listed ⟨l.toArray,df⟩ w:=Up ⟨a7 X w⟩ hq h
end
section
variable{P:Program}{ops:Array Oper}{Q:Exit->Act->World->Prop}{md:Region.Mode}{S:World->Prop}{w:World}
theorem oA(i:Nat){d:Nat}{oi:Oper}{v:Value}{fuel:Nat}{listed:Array Bool}{l l':List Value}{df:List Deferred}
  (h:wpAnyH P md ops Q S fuel (listed.setIfInBounds i true) ⟨l'.toArray,df⟩ w)
  (hi:ops[i]?=some oi:=by rfl) (hd:oi.dst=some d:=by rfl)
  (hs:Region.noSelect ops=true:=by kernel_rfl) (hf:Region.free md ops listed i=true:=by kernel_rfl) (hr:(Region.ready md ops listed).contains i=true:=by kernel_rfl)
  (hQ:∀c a w,Q (.panic c) (a.put oi.dst v) w->Q (.panic c) a w:=by exact fun _ _ _ h=>h) (hw:Region.wanted oi (yielded ops l.toArray)=true:=by kernel_rfl)
  (hS:S w:=by assumption) (hy:∀u,S u->(execOp (Act.eval ⟨l.toArray,df⟩) oi).run P u=.ok (.value v) u:=by intro w hSw;(try dsimp only at hSw);go_simp;try(with_reducible rfl))
  (hl:l.set d v=l':=by try simp only[List.set];try rfl):wpAnyH P md ops Q S (fuel+1) listed ⟨l.toArray,df⟩ w:=by
 subst hl;exact bN hi hd hs hf hr hQ hw hS hy h
theorem fA(i:Nat){d:Nat}{oi:Oper}{fuel:Nat}{listed:Array Bool}{l l':List Value}{df:List Deferred}
  (h:wpAnyH P md ops Q S fuel (listed.setIfInBounds i true) ⟨l'.toArray,df⟩ w)
  (hi:ops[i]?=some oi:=by rfl) (hd:oi.dst=some d:=by rfl)
  (hs:Region.noSelect ops=true:=by kernel_rfl) (hf:Region.free md ops listed i=true:=by kernel_rfl) (hr:(Region.ready md ops listed).contains i=true:=by kernel_rfl)
  (hQ:∀c a w,Q (.panic c) (a.put oi.dst undef) w->Q (.panic c) a w:=by exact fun _ _ _ h=>h) (hw:Region.wanted oi (yielded ops l.toArray)=false:=by kernel_rfl)
  (hS:S w:=by first|assumption|exact⟨ab _ _,inferInstance⟩|exact⟨ab _ _,inferInstance,inferInstance⟩|exact⟨ab _ _,inferInstance,inferInstance,inferInstance⟩)
  (hl:l.set d undef=l':=by try simp only[List.set];try rfl):wpAnyH P md ops Q S (fuel+1) listed ⟨l.toArray,df⟩ w:=by
 subst hl;exact o0 hi hd hs hf hr hQ hw hS h
theorem bw(i:Nat){d:Nat}{oi:Oper}{v:Value}{fuel:Nat}{listed:Array Bool}{l l':List Value}{df:List Deferred}
  (h:wpAnyH P md ops Q S fuel (listed.setIfInBounds i true) ⟨l'.toArray,df⟩ w)
  (hi:ops[i]?=some oi:=by rfl) (hd:oi.dst=some d:=by rfl)
  (hs:Region.noSelect ops=true:=by kernel_rfl) (hf:Region.free md ops listed i=true:=by kernel_rfl) (hr:(Region.ready md ops listed).contains i=true:=by kernel_rfl)
  (hQ:∀c a w,Q (.panic c) (a.put oi.dst v) w->Q (.panic c) a w:=by exact fun _ _ _ h=>h) (hw:Region.wanted oi (yielded ops l.toArray)=true:=by kernel_rfl)
  (hS:S w:=by exact⟨ab _ _,inferInstance⟩) (hy:∀u,S u->(execOp (Act.eval ⟨l.toArray,df⟩) oi).run P u=.ok (.value v) u:=by rintro uu ⟨pu,r1⟩;go_simp;try(with_reducible rfl))
  (hl:l.set d v=l':=by try simp only[List.set];try rfl):wpAnyH P md ops Q S (fuel+1) listed ⟨l.toArray,df⟩ w:=
 oA i h hi hd hs hf hr hQ hw hS hy hl
theorem bp(i:Nat){d:Nat}{oi:Oper}{v:Value}{fuel:Nat}{listed:Array Bool}{l l':List Value}{df:List Deferred}
  (h:wpAnyH P md ops Q S fuel (listed.setIfInBounds i true) ⟨l'.toArray,df⟩ w)
  (hi:ops[i]?=some oi:=by rfl) (hd:oi.dst=some d:=by rfl)
  (hs:Region.noSelect ops=true:=by kernel_rfl) (hf:Region.free md ops listed i=true:=by kernel_rfl) (hr:(Region.ready md ops listed).contains i=true:=by kernel_rfl)
  (hQ:∀c a w,Q (.panic c) (a.put oi.dst v) w->Q (.panic c) a w:=by exact fun _ _ _ h=>h) (hw:Region.wanted oi (yielded ops l.toArray)=true:=by kernel_rfl)
  (hS:S w:=by exact⟨ab _ _,inferInstance,inferInstance⟩) (hy:∀u,S u->(execOp (Act.eval ⟨l.toArray,df⟩) oi).run P u=.ok (.value v) u:=by rintro uu ⟨pu,r1,r2⟩;go_simp;try(with_reducible rfl))
  (hl:l.set d v=l':=by try simp only[List.set];try rfl):wpAnyH P md ops Q S (fuel+1) listed ⟨l.toArray,df⟩ w:=
 oA i h hi hd hs hf hr hQ hw hS hy hl
theorem bl(i:Nat){d:Nat}{oi:Oper}{v:Value}{fuel:Nat}{listed:Array Bool}{l l':List Value}{df:List Deferred}
  (h:wpAnyH P md ops Q S fuel (listed.setIfInBounds i true) ⟨l'.toArray,df⟩ w)
  (hi:ops[i]?=some oi:=by rfl) (hd:oi.dst=some d:=by rfl)
  (hs:Region.noSelect ops=true:=by kernel_rfl) (hf:Region.free md ops listed i=true:=by kernel_rfl) (hr:(Region.ready md ops listed).contains i=true:=by kernel_rfl)
  (hQ:∀c a w,Q (.panic c) (a.put oi.dst v) w->Q (.panic c) a w:=by exact fun _ _ _ h=>h) (hw:Region.wanted oi (yielded ops l.toArray)=true:=by kernel_rfl)
  (hS:S w:=by exact⟨ab _ _,inferInstance,inferInstance,inferInstance⟩) (hy:∀u,S u->(execOp (Act.eval ⟨l.toArray,df⟩) oi).run P u=.ok (.value v) u:=by rintro uu ⟨pu,r1,r2,r3⟩;go_simp;try(with_reducible rfl))
  (hl:l.set d v=l':=by try simp only[List.set];try rfl):wpAnyH P md ops Q S (fuel+1) listed ⟨l.toArray,df⟩ w:=
 oA i h hi hd hs hf hr hQ hw hS hy hl
theorem ap(i:Nat){d:Nat}{X:World}{oi:Oper}{v:Value}{fuel:Nat}{listed:Array Bool}{l l':List Value}{df:List Deferred}[aF X w]
  (h:wpAnyH P md ops Q (fun w'=>aj w' X) fuel (listed.setIfInBounds i true) ⟨l'.toArray,df⟩ w)
  (hi:ops[i]?=some oi:=by rfl) (hd:oi.dst=some d:=by rfl)
  (hs:Region.noSelect ops=true:=by kernel_rfl) (hf:Region.free md ops listed i=true:=by kernel_rfl) (hr:(Region.ready md ops listed).contains i=true:=by kernel_rfl)
  (hQ:∀c a w,Q (.panic c) (a.put oi.dst v) w->Q (.panic c) a w:=by exact fun _ _ _ h=>h) (hw:Region.wanted oi (yielded ops l.toArray)=true:=by kernel_rfl)
  (hy:∀u,aj u X->(execOp (Act.eval ⟨l.toArray,df⟩) oi).run P u=.ok (.value v) u:=by intro u _;go_simp;try(with_reducible rfl))
  (hl:l.set d v=l':=by try simp only[List.set];try rfl)
  :wpAnyH P md ops Q (fun w'=>aj w' X) (fuel+1) listed ⟨l.toArray,df⟩ w:=
 uY i d h hi hd hs hf hr hQ hw hy hl
theorem ab8(i:Nat){d:Nat}{X:World}{oi:Oper}{fuel:Nat}{listed:Array Bool}{l l':List Value}{df:List Deferred}[aF X w]
  (h:wpAnyH P md ops Q (fun w'=>aj w' X) fuel (listed.setIfInBounds i true) ⟨l'.toArray,df⟩ w)
  (hi:ops[i]?=some oi:=by rfl) (hd:oi.dst=some d:=by rfl)
  (hs:Region.noSelect ops=true:=by kernel_rfl) (hf:Region.free md ops listed i=true:=by kernel_rfl) (hr:(Region.ready md ops listed).contains i=true:=by kernel_rfl)
  (hQ:∀c a w,Q (.panic c) (a.put oi.dst undef) w->Q (.panic c) a w:=by exact fun _ _ _ h=>h) (hw:Region.wanted oi (yielded ops l.toArray)=false:=by kernel_rfl)
  (hl:l.set d undef=l':=by try simp only[List.set];try rfl)
  :wpAnyH P md ops Q (fun w'=>aj w' X) (fuel+1) listed ⟨l.toArray,df⟩ w:=
 mI i d h hi hd hs hf hr hQ hw hl
variable{fuel:Nat}{listed:Array Bool}{a a':Act}{o o' Hp:Oper}
theorem aM(i:Nat)
  (h:∀K':Act->World->Prop,Shut (∀a w,S w->(S w->wpAnyH P md ops Q S fuel (listed.setIfInBounds i true) a w)->K' a w)->if Region.wanted o (yielded ops a.tmps)=true then Oper.wp P o a w K' Q else K' (a.put o.dst undef) w)
  (hr:Region.ready md ops listed=[i]:=by kernel_rfl) (ho:ops[i]?=some o:=by rfl):wpAnyH P md ops Q S (fuel+1) listed a w:=
 wpAnyH_ready hr (by simp) (AllReadyH.cons ho h AllReadyH.nil)
theorem o7(i j:Nat)
  (h:∀K':Act->World->Prop,Shut (∀a w,S w->(S w->wpAnyH P md ops Q S fuel (listed.setIfInBounds i true) a w)->K' a w)->if Region.wanted o (yielded ops a.tmps)=true then Oper.wp P o a w K' Q else K' (a.put o.dst undef) w)
  (h':∀K':Act->World->Prop,Shut (∀a w,S w->(S w->wpAnyH P md ops Q S fuel (listed.setIfInBounds j true) a w)->K' a w)->if Region.wanted o' (yielded ops a.tmps)=true then Oper.wp P o' a w K' Q else K' (a.put o'.dst undef) w)
  (hr:Region.ready md ops listed=[i,j]:=by kernel_rfl) (ho:ops[i]?=some o:=by rfl) (O6:ops[j]?=some o':=by rfl):wpAnyH P md ops Q S (fuel+1) listed a w:=
 wpAnyH_ready hr (by simp) (AllReadyH.cons ho h (AllReadyH.cons O6 h' AllReadyH.nil))
inductive Tg:Nat->Prop
 |mk (n:Nat):Tg n
theorem wH(i:Nat)(h:wpAnyH P md ops Q S fuel listed a w)(_hr:(Region.ready md ops listed).contains i=true:=by decide+kernel):wpAnyH P md ops Q S fuel listed a w:=h
theorem mo(i:Nat)
  (h:Tg i->∀K':Act->World->Prop,Shut (∀a w,S w->(S w->wpAnyH P md ops Q S fuel (listed.setIfInBounds i true) a w)->K' a w)->if Region.wanted o (yielded ops a.tmps)=true then Oper.wp P o a w K' Q else K' (a.put o.dst undef) w)
  (hr:Region.ready md ops listed=[i]:=by decide+kernel) (ho:ops[i]?=some o:=by rfl):wpAnyH P md ops Q S (fuel+1) listed a w:=
 wpAnyH_ready hr (by simp) (AllReadyH.cons ho (h (.mk i)) AllReadyH.nil)
theorem uZ(i j:Nat)
  (h:Tg i->∀K':Act->World->Prop,Shut (∀a w,S w->(S w->wpAnyH P md ops Q S fuel (listed.setIfInBounds i true) a w)->K' a w)->if Region.wanted o (yielded ops a.tmps)=true then Oper.wp P o a w K' Q else K' (a.put o.dst undef) w)
  (h':Tg j->∀K':Act->World->Prop,Shut (∀a w,S w->(S w->wpAnyH P md ops Q S fuel (listed.setIfInBounds j true) a w)->K' a w)->if Region.wanted o' (yielded ops a.tmps)=true then Oper.wp P o' a w K' Q else K' (a.put o'.dst undef) w)
  (hr:Region.ready md ops listed=[i,j]:=by decide+kernel) (ho:ops[i]?=some o:=by rfl) (O6:ops[j]?=some o':=by rfl):wpAnyH P md ops Q S (fuel+1) listed a w:=
 wpAnyH_ready hr (by simp) (AllReadyH.cons ho (h (.mk i)) (AllReadyH.cons O6 (h' (.mk j)) AllReadyH.nil))
theorem rz3(i j k:Nat)
  (h:Tg i->∀K':Act->World->Prop,Shut (∀a w,S w->(S w->wpAnyH P md ops Q S fuel (listed.setIfInBounds i true) a w)->K' a w)->if Region.wanted o (yielded ops a.tmps)=true then Oper.wp P o a w K' Q else K' (a.put o.dst undef) w)
  (h':Tg j->∀K':Act->World->Prop,Shut (∀a w,S w->(S w->wpAnyH P md ops Q S fuel (listed.setIfInBounds j true) a w)->K' a w)->if Region.wanted o' (yielded ops a.tmps)=true then Oper.wp P o' a w K' Q else K' (a.put o'.dst undef) w)
  (h'':Tg k->∀K':Act->World->Prop,Shut (∀a w,S w->(S w->wpAnyH P md ops Q S fuel (listed.setIfInBounds k true) a w)->K' a w)->if Region.wanted Hp (yielded ops a.tmps)=true then Oper.wp P Hp a w K' Q else K' (a.put Hp.dst undef) w)
  (hr:Region.ready md ops listed=[i,j,k]:=by decide+kernel) (ho:ops[i]?=some o:=by rfl) (O6:ops[j]?=some o':=by rfl) (aaC:ops[k]?=some Hp:=by rfl):wpAnyH P md ops Q S (fuel+1) listed a w:=
 wpAnyH_ready hr (by simp) (AllReadyH.cons ho (h (.mk i)) (AllReadyH.cons O6 (h' (.mk j)) (AllReadyH.cons aaC (h'' (.mk k)) AllReadyH.nil)))
theorem Uq(h:Q .normal a w)(hr:Region.ready md ops listed=[]:=by decide+kernel):wpAnyH P md ops Q S fuel listed a w:=wpAnyH_done hr h _
theorem aZ{a:Act}(h:Q .normal a w)(hr:Region.ready md ops listed=[]:=by kernel_rfl):wpAnyH P md ops Q S fuel listed a w:=wpAnyH_done hr h _
theorem aL{K':Act->World->Prop}(hK:Shut (∀a w,S w->(S w->wpAnyH P md ops Q S fuel listed a w)->K' a w))(h:wpAnyH P md ops Q S fuel listed a' w)(hS:S w:=by exact ab _ _)
  (ha:a=a':=by(try dsimp only[Act.put,List.setIfInBounds_toArray,List.set_cons_zero,List.set_cons_succ]);try rfl):K' a w:=by
 subst ha;exact hK.out _ _ hS fun _=>h
theorem zF{K':Act->World->Prop}(hK:Shut (∀a w,S w->(S w->wpAnyH P md ops Q S fuel listed a w)->K' a w))(h:S w->wpAnyH P md ops Q S fuel listed a' w)(hS:S w:=by exact ab _ _)
  (ha:a=a':=by(try dsimp only[Act.put,List.setIfInBounds_toArray,List.set_cons_zero,List.set_cons_succ]);try rfl):K' a w:=by
 subst ha;exact hK.out _ _ hS h
end
section
variable{X:World}{m:Nat}{xs:List Int}{P:Program}{md:Region.Mode}{ops:Array Oper}{Q:Exit->Act->World->Prop}{listed:Array Bool}{a:Act}
structure h4(bs:List Nat)(W wr:World):Prop where
 size:W.1.size<=wr.1.size
 same:∀k,k<W.1.size->k∉bs->wr.heap[k]?=W.heap[k]?
variable{bs:List Nat}
def h4.refl(bs)(W):h4 bs W W:=⟨an _,λ_ _ _=>rfl⟩
def h4.ax(h:h4 bs W wr)(hg:g∈bs)(i:Nat)(v:Value):h4 bs W (wr.setCell (g,i) v):=
 ⟨by have:=h.size;simp;omega,λk j b=>(bm wr ⟨g,i,none⟩ v k (λe=>b (e▸hg))).trans (h.same k j b)⟩
def h4.drew(h:h4 bs W wr):h4 bs W wr.drew:=⟨h.size,h.same⟩
def h4.below(h:h4 bs W wr)(hb:Below wr.1.size wr w'):h4 bs W w':=
 ⟨aO h.size hb.size,λk b hg=>(hb.block k (bu b h.size)).trans (h.same k b hg)⟩
def h4.al{k:Nat}{cs:eL}(h:h4 bs W wr)(hb:aB W k T cs)(b:k∉bs):aB wr k T cs:=(h.same k hb.lt b).trans hb
def h4.own{k:Nat}(h:h4 bs W wr)(hb:Own W k T zs)(b:k∉bs):Own wr k T zs:=(h.same k hb.lt b).trans hb
def h4.rd(h:h4 bs W wr)(r:Rd W A zs)(l:∀m,A=some m->m.block∉bs):Rd wr A zs:=by
 intro j z u;have⟨b,off,e,hb,hc⟩:=r j z u;refine⟨b,off,e,bu hb h.size,?_⟩;rw[<-hc];exact dY (h.same b hb (l _ e))
def h4.fc{w:ay}(h:h4 bs W wr)(j:Rd w A zs)(l:Rd W A zs)(hg:∀g∈bs,w.1.size<=g):Rd wr A zs:=by
 by_cases b:zs=[]
 .subst b;exact Rd.nil _ _
 .exact h.rd l λm e hm=>by have:=j.old b m e;have:=hg _ hm;omega
def jy{bs:List Nat}{W:ay}{g:Nat}(hg:g∈bs):∀(b:iP) (o:Nat) {wr:ay},h4 bs W wr->h4 bs W (wr.setCells g o b)
 |[],_,_,h=>h
 |v::b,o,_,h=>jy hg b (o+1) (h.ax hg o v)
def eP{n g:Nat}{w:ay}(hg:n<=g):∀(b:iP) (o:Nat) {wr:ay},Below n w wr->Below n w (wr.setCells g o b)
 |[],_,_,h=>h
 |v::b,o,_,h=>eP hg b (o+1) (h.setCell (p:=⟨g,o,none⟩) hg v)
def qz{g:Nat}{T:TypeId}:∀(b:av) (o:Nat) {w:ay} {xs:av},Own w g T xs->o+b.length<=xs.length->Own (w.setCells g o (b.map (Value.int .i64))) g T (xs.take o++b++xs.drop (o+b.length))
 |[],o,w,xs,h,_=>by simpa[World.setCells]using h
 |v::b,o,w,xs,h,j=>by
  have l:=qz b (o+1) (h.ax o v) (by simp at j⊢;omega);have e:(xs.set o v).take (o+1)++b++(xs.set o v).drop (o+1+b.length)=xs.take o++(v::b)++xs.drop (o+(v::b).length):=by
   simp at j;rw[Cp,ah om,vI bY,vO (an o)];simp[r6];omega
  rw[e]at l;exact l
def Own.clear{w:ay}(h:Own w g T xs):Own (w.setCells g 0 (List.replicate xs.length au)) g T (List.replicate xs.length 0):=by
 have:=qz (List.replicate xs.length 0) 0 h aG;simpa using this
def o9(t e b)(ht:P.underlying t=some (.slice e))(l:(P.info? e).map (·.zero)=some (some (.int .i64 0))){w:ay}(h:Own w g T xs)(m:0<xs.length)(c):
  (Builtin.clear_ #[t] b #[.slice g xs c]).run P w=.ok (.tuple #[]) (w.setCells g 0 (List.replicate xs.length au)):=by
 have⟨i,hi,Xy⟩:=bD.1 l;refine Lib.run_clear_slice w t e b au ht (λw=>?_) rfl rfl g 0 xs.length c m (λj r=>?_) (λj _=>by rw[bX];exact h.frozen j)
 .simp[zeroValue,typeInfo,hi,Xy,go_sem]
 .rw[bX,h.cell (bc r)];rfl
def lT{S:World->Prop}{cs:eL}
  (h:∀u,aj u X->aB u X.1.size T cs->u.1.size=X.1.size+1->wpAnyH P md ops Q S m listed a u):wpAnyH P md ops Q S m listed a (X.alloc (.cells cs T)):=
 h _ (aj.alloc _ _) (aB.new _ _ _) aG
def wI{S:World->Prop}
  (h:∀u,aj u X->wpAnyH P md ops Q S m listed a u):wpAnyH P md ops Q S m listed a X.drew:=h _ (aj.drew _)
end
variable{z:Int}
def aN(zs:av):Int:=zs.foldl (· * ·) 1
def cq(zs:av):Bool:=zs.all λz=>decide (1<=z)&&decide (z<=1024)
def aA(zs:av):Bool:=decide (1<=zs.length)&&decide (zs.length<=4)&&cq zs&&decide (aN zs<=65536)
def o2(l)(z):aN (l++[z])=aN l*z:=by simp[aN]
def take_at{α:Type}{l:List α}{k:Nat}{z:α}(h:l[k]?=some z):l.take (k+1)=l.take k++[z]:=by
 obtain⟨b,rfl⟩:=a5.1 h;exact vI b
def zG(l)(z):cq (l++[z])=(cq l&&(decide (1<=z)&&decide (z<=1024))):=by simp[cq]
def eo{l:av}(h:cq l=true)(b:z∈l):1<=z/\z<=1024:=by
 have:=cZ.1 h z b;simpa using this
def fK{l:av}(h:cq l=true){k:Nat}(b:l[k]?=some z):1<=z/\z<=1024:=
 eo h (aC b)
def zH{l:av}(h:cq l=true)(k):cq (l.take k)=true:=
 cZ.2 λz b=>cZ.1 h z (cG b)
def wJ{l:av}{k:Nat}(b:l[k]?=some z)(h:¬(1<=z/\z<=1024)):cq l=false:=by
 rcases hb:cq l with _|_
 .rfl
 .exact absurd (fK hb b) h
def zI{l:av}(h:cq l=false):aA l=false:=by simp[aA,h]
def Ek{l:av}(h:¬(1<=l.length/\l.length<=4)):aA l=false:=by
 simp[aA];omega
def CB{l:av}(b:1<=l.length)(e:l.length<=4)(h:cq l=true):aA l=decide (aN l<=65536):=by simp[aA,b,e,h]
def CD{a c:Int}(l:1<=a)(e:a<=c)(hb:1<=z)(j:z<=1024):1<=a*z/\a*z<=c*1024:=by
 have m:a*z<=c*z:=vG e om;have r:c*z<=c*1024:=pU j om;have u:1*1<=a*z:=kn l hb om om;omega
def Ax(l)(h:cq l=true):1<=aN l/\aN l<=1024^l.length:=by
 have key:∀(m:av) (a c:Int),cq m=true->1<=a->a<=c->1<=m.foldl (· * ·) a/\m.foldl (· * ·) a<=c*1024^m.length:=by
  intro m
  induction m with
  |nil=>intro a c _ j r;simpa using⟨j,r⟩
  |cons z m B=>
   intro a c hm j r;have y:=eo hm (cm);have u:cq m=true:=by simp[cq]at hm⊢;exact hm.2
   have b:=CD j r y.1 y.2;have:=B (a*z) (c*1024) u b.1 b.2;simp only[kl,dm];refine⟨this.1,?_⟩;have e:c*1024^(m.length+1)=c*1024*1024^m.length:=by
    rw[B6,iB (1024^m.length) 1024,<-iY]
   rw[e];exact this.2
 have:=key l 1 1 h om om;simpa[aN]using this
def qQ(l)(h:cq l=true)(b:l.length<=4):1<=aN l/\aN l<=1099511627776:=by
 have⟨h1,h2⟩:=Ax l h;refine⟨h1,?_⟩;have:l.length=0\/l.length=1\/l.length=2\/l.length=3\/l.length=4:=om;rcases this with e|e|e|e|e<;>rw[e]at h2<;>omega
def bE(zs):aA zs=true↔1<=zs.length/\zs.length<=4/\cq zs=true/\aN zs<=65536:=by
 simp[aA,r7]
def h1{l:av}(h:∀z∈l,1<=z):1<=aN l:=by
 have key:∀(m:av) (a:Int),(∀z∈m,1<=z)->1<=a->a<=m.foldl (· * ·) a:=by
  intro m
  induction m with
  |nil=>intro a _ _;exact dM a
  |cons z m e=>
   intro a hm u;have j:=hm z cm;have b:a*1<=a*z:=pU j om;rw[Int.mul_one]at b;exact Ct b (e (a*z) (λy r=>hm y (dl _ r)) om)
 exact key l 1 h (dM 1)
def mq(a b):aN (a++b)=aN a*aN b:=by
 have key:∀(m:av) (x:Int),m.foldl (· * ·) x=x*m.foldl (· * ·) 1:=by
  intro m
  induction m with
  |nil=>intro x;simp
  |cons z m e=>intro x;simp only[kl];rw[e (x*z),e (1*z)];simp[iY]
 simp only[aN,nr];rw[key]
def wK{l:av}(h:∀z∈l,1<=z)(k):aN (l.take k)<=aN l:=by
 have m:1<=aN (l.take k):=h1 λz b=>h z (cG b);have j:1<=aN (l.drop k):=h1 λz b=>h z (dC b);have e:aN l=aN (l.take k)*aN (l.drop k):=by rw[<-mq,de]
 rw[e];have:aN (l.take k)*1<=aN (l.take k)*aN (l.drop k):=pU j om;rwa[Int.mul_one]at this
def bt(zs:av):Int:=if aA zs then aN zs else 0
def cg(zs:av):Int:=if aA zs then 0 else 20
def El(z)(zs):aN (z::zs)=z*aN zs:=by
 have:=mq [z] zs;simpa[aN]using this
def Em{α:Type}{l:List α}{k:Nat}{z:α}(h:l[k]?=some z):l.drop k=z::l.drop (k+1):=by
 obtain⟨b,rfl⟩:=a5.1 h;exact ei b
def zJ{l:av}(h:cq l=true)(k):cq (l.drop k)=true:=
 cZ.2 λz b=>cZ.1 h z (dC b)
variable{O xs:List Int}{x y:Int}
def nD(w:ay)(b:Bool)(e:Ending)(w':ay):Prop:=e=.returned (.bool b)/\∃n,w'=w.drewN n
def Xz{k:Nat}(e:xs[k]?=some x)(b:O[k]?=some y)(h:x≠y):xs≠O:=by
 rintro rfl;rw[e]at b;injection b with b;exact h b
def CE{k:Nat}(b:xs.length=O.length)(h:xs.take k=O.take k)(e:¬k<xs.length):xs=O:=by
 rw[bR om,bR om]at h;exact h
def dN(z:Int):Bool:=decide (0<=z)&&decide (z<=1099511627776)
def lU(z:Int)(w:ay):() 77 #[z] w λe w'=>e=.returned (.bool (dN z))/\w=w':=by
 go_in
 go_wp2
 all_goals
  go_ret;exact⟨bP (by simp_all [dN];try omega),rfl⟩
def Hq(z:Int)(w:ay):() 131 #[z] w λe w'=>e=.returned (.bool (z !=0))/\w=w':=by
 go_in
 go_wp2
 go_ret;exact⟨rfl,rfl⟩
def iZ(F:Nat)(f:Int->Bool)(hF:∀z w,() F #[.int .i64 z] w λe w'=>e=.returned (.bool (f z))/\w=w')
  (m:∀z w,Sem.run prog (callFunc F #[.int .i64 z]) w=.ok (.enter F #[.int .i64 z]) w)
  (A:cD) (c:Nat) (zs:av) (w:ay) (hs:zs.length<=1000000) (h:Rd w A zs):
  () 76 #[.slice A zs c,.func (.func F) #[] #[]] w λe w'=>e=.returned (.bool (zs.all f))/\w=w':=by
 have u:=ae hF
 go_in
 go_wp2_with fail
 go_loop [9] (λi=>∃k:Nat,k<=zs.length/\i=.int .i64 k/\(zs.take k).all f=true) (λi=>zs.length-(intOf i).toNat)
 case atStart=>exact⟨0,aT _,rfl,rfl⟩
 case round=>
  obtain⟨k,E,rfl,j⟩:=hrel;have y:=ae j;clear j;by_cases r:k<zs.length
  .obtain⟨b,off,z,rfl,hb,G,B⟩:=h.get r;rcases hfz:f z with _|_
   .have l:=ae hfz;have C:Hx (zs.all f=false):=by
     refine nu.2 ⟨z,aC B.o,?_⟩;rw[l.o];simp
    go_wp2
    refine(u.o z _).mono ?_;rintro e w' ⟨rfl,rfl⟩;rw[l.o]
    go_wp2
    go_ret;exact⟨bP (by rw[C.o]),rfl⟩
   .have l:=ae hfz
    go_wp2
    refine(u.o z _).mono ?_;rintro e w' ⟨rfl,rfl⟩;rw[l.o]
    go_wp2
    go_round
    case rel=>exact⟨k+1,om,by go_num,by rw[take_at B.o,r4,y.o];simp[l.o]⟩
    case measure=>exact e6
  .have D:Hx (zs.all f=true):=by
    have:=y.o;rwa[bR om]at this
   go_wp2
   go_ret;exact⟨bP (by rw[D.o]),rfl⟩
def wL(w:ay)(p z:Int)(hp:1<=p)(j:1<=z)(l:p<=1099511627776)(h:p*z<=1099511627776):
  () 132 #[z,.pointer w.1.size] (w.alloc (.cells #[p] 3)) λe w'=>e=.returned (.bool true)/\w.alloc (.cells #[.int .i64 (p*z)] 3)=w':=by
 have m:¬(1099511627776/p<z):=by
  have:=(vR (a:=z) (b:=1099511627776) (c:=p) om).2 (by rw[iB];exact h);omega
 have r:1<=p*z:=by have:=kn hp j om om;omega
 go_in
 go_wp2
 go_ret;exact⟨rfl,rfl⟩
def zK(w:ay)(p z:Int)(hp:1<=p)(_hz:1<=z)(j:p<=1099511627776)(h:¬p*z<=1099511627776):
  () 132 #[z,.pointer w.1.size] (w.alloc (.cells #[p] 3)) λe w'=>e=.returned (.bool false)/\w.alloc (.cells #[p] 3)=w':=by
 have m:1099511627776/p<z:=by
  by_cases l:1099511627776/p<z
  .exact l
  .exact absurd (by have:=(vR (a:=z) (b:=1099511627776) (c:=p) om).1 om;rwa[iB]at this) h
 go_in
 go_wp2
 go_ret;exact⟨rfl,rfl⟩
def LH(w:ay)(zs:av)(e:Ending)(w':ay):Prop:=
 e=.returned (.bool (decide (aN zs<=1099511627776)))/\∃p,w'=w.alloc (.cells #[.int .i64 p] 3)/\(aN zs<=1099511627776->p=aN zs)
def va(A:cD)(c:Nat)(zs:av)(w:ay)(hs:zs.length<=1000000)(h:Rd w A zs)(j:Hx (∀z∈zs,1<=z)):
  () 76 #[.slice A zs c,.func (.func 132) #[] #[.pointer w.1.size]] (w.alloc (.cells #[(1:Int)] 3)) (LH w zs):=by
 have I:=h.alloc (.cells #[(1:Int)] 3)
 go_in
 go_wp2_with fail
 go_loopw [9] (λi wr=>∃k:Nat,k<=zs.length/\i=.int .i64 k/\aN (zs.take k)<=1099511627776/\wr=w.alloc (.cells #[.int .i64 (aN (zs.take k))] 3)) (λi _=>zs.length-(intOf i).toNat)
 .exact⟨0,aT _,rfl,by simp[aN],rfl⟩
 ·
  obtain⟨k,J,rfl,l,rfl⟩:=hrel;have u:1<=aN (zs.take k):=h1 λz r=>j.o z (cG r);by_cases B:k<zs.length
  .have E:=h.alloc (.cells #[.int .i64 (aN (zs.take k))] 3);obtain⟨b,off,z,rfl,hb,K,r⟩:=h.get B;have y:1<=z:=j.o z (aC r.o);have F:=E.all r.o;by_cases m:aN (zs.take k)*z<=1099511627776
   .go_wp2_with fail
    refine(wL w _ z u y l m).mono ?_;rintro e w' ⟨rfl,rfl⟩
    go_wp2
    go_roundw
    .exact⟨k+1,om,by go_num,by rw[take_at r.o,o2];exact m,by rw[take_at r.o,o2]⟩
    .simp[intOf];omega
   .have C:Hx (1099511627776<aN zs):=ae (by
     have:=wK j (k+1);rw[take_at r.o,o2]at this;omega)
    go_wp2_with fail
    refine(zK w _ z u y l om).mono ?_;rintro e w' ⟨rfl,rfl⟩
    go_wp2_with fail
    go_ret;exact⟨bP (by simpa using C.o),_,rfl,λG=>absurd G (by have:=C.o;omega)⟩
  .have D:Hx (zs.take k=zs):=bR om
   go_wp2
   go_ret;rw[D.o]at l;exact⟨bP (by simpa using l),_,rfl,λ_=>by rw[D.o]⟩
def kJ(zs:av):Int:=if zs.all dN&&zs.all (· !=0)&&decide (aN zs<=1099511627776)then aN zs else 0
def kK(zs:av):Int:=if zs.all dN then(if zs.all (· !=0)&& !decide (aN zs<=1099511627776)then 17 else 0)else 11
def tp(A:cD)(c:Nat)(zs:av)(w:ay)(hs:zs.length<=1000000)(h:Rd w A zs):
  () 75 #[.slice A zs c] w λe w'=>e=.returned (.tuple #[.int .i64 (kJ zs),.int .i64 (kK zs)])/\Below w.1.size w w':=by
 have c1:=iZ 77 dN lU (λ_ _=>rfl) A c zs w hs h;have c2:=iZ 131 (· !=0) Hq (λ_ _=>rfl) A c zs w hs h;have B:=ae c1;have D:=ae c2;clear c1 c2;rcases h1:zs.all dN with _|_
 .have r:=ae h1;have l:Hx (kJ zs=0):=ae (by simp[kJ,h1]);have m:Hx (kK zs=11):=ae (by simp[kK,h1]);clear h1
  go_in
  go_wp2_with fail
  refine B.o.mono ?_;rintro e w' ⟨rfl,rfl⟩;rw[r.o]
  go_wp2_with fail
  go_ret2;exact⟨by rw[l.o,m.o];rfl,aY _ _⟩
 .rcases h2:zs.all (· !=0)with _|_
  .have r:=ae h1;have C:=ae h2;have l:Hx (kJ zs=0):=ae (by simp[kJ,h1,h2]);have m:Hx (kK zs=0):=ae (by simp[kK,h1,h2]);clear h1 h2
   go_in
   go_wp2_with fail
   refine B.o.mono ?_;rintro e w' ⟨rfl,rfl⟩;rw[r.o]
   go_wp2_with fail
   refine D.o.mono ?_;rintro e w' ⟨rfl,rfl⟩;rw[C.o]
   go_wp2_with fail
   go_ret2;exact⟨by rw[l.o,m.o];rfl,aY _ _⟩
  .have r:=ae h1;have C:=ae h2;have u:Hx (∀z∈zs,1<=z):=by
    intro z G;have a:=cZ.1 h1 z G;have b:=cZ.1 h2 z G;simp[dN]at a b;omega
   have I:=ae (va A c zs w hs h u);by_cases j:aN zs<=1099511627776
   .have l:Hx (kJ zs=aN zs):=ae (by simp[kJ,h1,h2,j]);have m:Hx (kK zs=0):=ae (by simp[kK,h1,h2,j]);have E:Hx (decide (aN zs<=1099511627776)=true):=ae (by simpa using j);have F:=ae j;clear h1 h2 j
    go_in
    go_wp2_with fail
    refine B.o.mono ?_;rintro e w' ⟨rfl,rfl⟩;rw[r.o]
    go_wp2_with fail
    refine D.o.mono ?_;rintro e w' ⟨rfl,rfl⟩;rw[C.o]
    go_wp2_with fail
    refine I.o.mono ?_;rintro e w' ⟨rfl,p,rfl,hp⟩;have J:=ae (hp F.o);clear hp;rw[E.o]
    go_wp2_with fail
    go_ret2;exact⟨by rw[l.o,m.o,<-J.o];rfl,(aY _ _).alloc (an _) _⟩
   .have y:1099511627776<aN zs:=om;have l:Hx (kJ zs=0):=ae (by simp[kJ,h1,h2,j]);have m:Hx (kK zs=17):=ae (by simp[kK,h1,h2,y]);have E:Hx (decide (aN zs<=1099511627776)=false):=ae (by simpa using j);clear h1 h2 j y
    go_in
    go_wp2_with fail
    refine B.o.mono ?_;rintro e w' ⟨rfl,rfl⟩;rw[r.o]
    go_wp2_with fail
    refine D.o.mono ?_;rintro e w' ⟨rfl,rfl⟩;rw[C.o]
    go_wp2_with fail
    refine I.o.mono ?_;rintro e w' ⟨rfl,p,rfl,hp⟩;rw[E.o]
    go_wp2
    go_ret2;exact⟨by rw[l.o,m.o];rfl,(aY _ _).alloc (an _) _⟩
def wM(h:cq zs=true)(e:zs.length<=4):kJ zs=aN zs/\kK zs=0:=by
 have hb:=qQ zs h e;have j:zs.all dN=true:=cZ.2 λz b=>by
  have:=eo h b;simp[dN];omega
 have l:zs.all (· !=0)=true:=cZ.2 λz b=>by
  have:=eo h b;simp;omega
 simp[kJ,kK,j,l,hb.2]
def o6(w:ay)(v:Value)(e:Ending)(w':ay):Prop:=e=.returned v/\Below w.1.size w w'
def LI(A B)(c d)(xs e)(w)(hs:xs.length<=1000000)(I:e.length<=1000000)(h:Rd w A xs)(J:Rd w B e):
  () 118 #[.slice A xs c,.slice B e d] w (nD w (decide (xs=e))):=by
 by_cases u:xs.length=e.length
 .have K:((xs.length:Int) !=(e.length:Int))=false:=by rw[u];simp
  have C:=ae u
  go_in
  go_wp2
  go_loopw [13] (λi wr=>∃k n:Nat,k<=xs.length/\i=.int .i64 k/\wr=w.drewN n/\xs.take k=e.take k) (λi _=>xs.length-(intOf i).toNat)
  .exact⟨0,0,aT _,rfl,rfl,rfl⟩
  ·
   obtain⟨k,n,P,rfl,rfl,ht⟩:=hrel;have D:=ae ht;clear ht;by_cases l:k<xs.length
   .obtain⟨b,off,x,rfl,hb,Q,E⟩:=h.get l;have m:k<e.length:=by rw[<-C.o];exact l
    obtain⟨R,F,y,rfl,L,M,G⟩:=J.get m;by_cases j:x=y
    .have r:(x !=y)=false:=by simp[j]
     have N:=ae j
     go_wp2
     go_quiet (fail)
     go_wp2
     go_roundw
     .exact⟨k+1,_,om,by go_num,rfl,by rw[take_at E.o,take_at G.o,D.o,N.o]⟩
     .simp[intOf];omega
    .have r:(x !=y)=true:=by simp[j]
     have z:Hx (decide (xs=e)=false):=dD (Xz E.o G.o j)
     go_wp2
     go_quiet (fail)
     go_wp2
     go_ret;exact⟨bP (by rw[z.o]),_,World.drewN_drewN _ _ _⟩
   .have O:Hx (decide (xs=e)=true):=ef (CE C.o D.o l)
    go_wp2
    go_ret;exact⟨bP (by rw[O.o]),_,rfl⟩
 .have r:((xs.length:Int) !=(e.length:Int))=true:=by simp;omega
  have z:Hx (decide (xs=e)=false):=by
   refine dD ?_;rintro rfl;exact u rfl
  go_in
  go_wp2
  go_ret;exact⟨bP (by rw[z.o]),0,rfl⟩
def tq(A B)(c d)(xs b)(w)(hs:xs.length<=1000000)(j:b.length<=1000000)(h:Rd w A xs)(l:Rd w B b):
  () 70 #[.slice A xs c,.slice B b d] w (nD w (decide (xs=b))):=by
 go_in
 go_wp2_with fail
 refine(LI A B c d xs b w hs j h l).mono ?_;rintro e w' ⟨rfl,n,rfl⟩
 go_wp2
 go_ret;exact⟨rfl,n,rfl⟩
def c5(A)(c)(zs)(w)(hs:zs.length<=1000000)(h:Rd w A zs):
  () 119 #[.slice A zs c] w (o6 w (.bool (aA zs))):=by
 by_cases r:1<=zs.length/\zs.length<=4
 .have⟨r,h4⟩:=r
  go_in
  go_wp2_with fail
  go_loop [17] (λi=>∃k:Nat,k<=zs.length/\i=.int .i64 k/\cq (zs.take k)=true) (λi=>zs.length-(intOf i).toNat)
  .exact⟨0,aT _,rfl,rfl⟩
  ·
   obtain⟨k,E,rfl,l⟩:=hrel;have j:=ae l;clear l;by_cases u:k<zs.length
   .obtain⟨b,off,z,rfl,hb,F,B⟩:=h.get u;by_cases m:1<=z/\z<=1024
    .have⟨lD,tr⟩:=m
     go_wp2
     go_round
     .exact⟨k+1,om,by go_num,by rw[take_at B.o,zG,j.o];simp[lD,tr]⟩
     .simp[intOf];omega
    .have y:=ae (zI (wJ B.o m))
     go_wp2_with fail
     all_goals first|(go_ret;exact⟨bP (by rw[y.o]),aY _ _⟩)|omega
   .have e:zs.take k=zs:=bR om;rw[e]at j;have D:=ae (CB r h4 j);have C:=ae (wM j h4)
    go_wp2_with fail
    refine(tp A c zs w hs h).mono ?_;rintro e w' ⟨rfl,hb⟩;rw[C.o.1,C.o.2]
    go_wp2
    go_ret;exact⟨bP (by rw[D.o]),hb⟩
 .have y:=ae (Ek r)
  go_in
  go_wp2
  all_goals first|(go_ret;exact⟨bP (by rw[y.o]),aY _ _⟩)|omega
def r8(A)(c)(zs)(w)(hs:zs.length<=1000000)(h:Rd w A zs):
  () 73 #[.slice A zs c] w (o6 w (.tuple #[.int .i64 (bt zs),.int .i64 (cg zs)])):=by
 rcases hr:aA zs with _|_
 .have b:Hx (bt zs=0):=ae (by simp[bt,hr]);have j:Hx (cg zs=20):=ae (by simp[cg,hr]);have l:=ae hr
  go_in
  go_wp2_with fail
  refine(c5 A c zs w hs h).mono ?_;rintro e w' ⟨rfl,hb⟩;rw[l.o]
  go_wp2
  go_ret2;exact⟨by rw[b.o,j.o];rfl,hb⟩
 .have b:Hx (bt zs=aN zs):=ae (by simp[bt,hr]);have j:Hx (cg zs=0):=ae (by simp[cg,hr]);have l:=ae hr;have r:=ae (wM ((bE zs).1 hr).2.2.1 ((bE zs).1 hr).2.1)
  go_in
  go_wp2_with fail
  refine(c5 A c zs w hs h).mono ?_;rintro e w1 ⟨rfl,hb⟩;rw[l.o]
  go_wp2_with fail
  refine(tp A c zs w1 hs (h.below hb)).mono ?_;rintro e w2 ⟨rfl,m⟩;rw[r.o.1,r.o.2]
  go_wp2
  go_ret2;exact⟨by rw[b.o,j.o];rfl,hb.trans (m.mono hb.size)⟩
def mJ(A)(c)(zs)(w)(hs:zs.length<=1000000)(h:Rd w A zs):
  () 103 #[.slice A zs c] w (O4 w 3 zs):=by
 have b:=λW=>run_make_row' (P:=prog) 25 3 au 8 underlying25 aq rfl .i64 .i64 zs.length om om W;have e:=λj=>qy (P:=prog) 25 25 j 3 3 underlying25 aq zs A c w h
 go_in
 go_wp2
 go_ret;exact⟨w.1.size,rfl,an _,Own.new _ _ _,(aY _ _).alloc (an _) _⟩
def iD(a b c:Int):Bool:=decide (1<=a)&&decide (a<=1024)&&decide (1<=b)&&decide (b<=1024)&&decide (1<=c)&&decide (c<=1024)&&decide (b<=a)
def lV(a b c:Int):Int:=if iD a b c then 1+(a-b)/c else 0
def h8(a b c:Int):Int:=if iD a b c then 0 else 11
def wN(a b c:Int)(w:ay):
  () 190 #[a,b,c] w λe w'=>e=.returned (.tuple #[.int .i64 (lV a b c),.int .i64 (h8 a b c)])/\w=w':=by
 have u:∀w,(Instr.index 267 (.agg #[a,b,c]) au).run prog w=.ok a w:=λ_=>aq;have i1:∀w,(Instr.index 267 (.agg #[a,b,c]) (1:Int)).run prog w=.ok b w:=λ_=>aq;have i2:∀w,(Instr.index 267 (.agg #[a,b,c]) (2:Int)).run prog w=.ok c w:=λ_=>aq;by_cases h:iD a b c=true
 .have j:Hx (lV a b c=1+(a-b)/c):=ae (by simp[lV,h]);have l:Hx (h8 a b c=0):=ae (by simp[h8,h]);simp only[iD,bW,cu,r7]at h;have⟨h1,h2,h3,h4,h5,h6,h7⟩:=h;have m:0<=(a-b)/c:=js om om;have r:(a-b)/c<=1024:=Ct (Int.ediv_le_self _ om) om
  go_in
  go_wp2
  refine ado 4 ?_
  iterate 4 (rw[hU];go_wp2)
  go_ret2;exact⟨by rw[j.o,l.o];rfl,rfl⟩
 .have j:Hx (lV a b c=0):=ae (by simp[lV,h]);have l:Hx (h8 a b c=11):=ae (by simp[h8,h]);simp only[iD,bW,cu,r7]at h;by_cases y:1<=a/\a<=1024
  .by_cases hb:1<=b/\b<=1024
   .by_cases z:1<=c/\c<=1024
    .have hd:¬b<=a:=om
     go_in
     go_wp2
     refine ado 4 ?_
     iterate 4 (rw[hU];go_wp2)
     go_ret2;exact⟨by rw[j.o,l.o];rfl,rfl⟩
    .clear h
     go_in
     go_wp2
     refine ado 3 ?_;rw[hU];go_wp2;rw[hU];go_wp2;rw[hU];go_wp2
     all_goals first|omega|(go_ret2;exact⟨by rw[j.o,l.o];rfl,rfl⟩)
   .clear h
    go_in
    go_wp2
    refine ado 2 ?_;rw[hU];go_wp2;rw[hU];go_wp2
    all_goals first|omega|(go_ret2;exact⟨by rw[j.o,l.o];rfl,rfl⟩)
  .clear h
   go_in
   go_wp2
   refine ado 1 ?_;rw[hU];go_wp2
   all_goals first|omega|(go_ret2;exact⟨by rw[j.o,l.o];rfl,rfl⟩)
variable{E:Int}
def gf(w:ay)(zs:av)(E:Int)(e:Ending)(w':ay):Prop:=
 ∃A c,e=.returned (.tuple #[.slice A zs c,E])/\Rd w' A zs/\Below w.1.size w w'/\(∀b,A=some b->w.1.size<=b.block)/\zs.length<=c
def gf.none_{w:ay}(b:zs=[])(hb:Below w.1.size w w')(e:Ending)(j:e=.returned (.tuple #[(),E])):gf w zs E e w':=by
 subst b;exact⟨none,0,j,Rd.nil _ _,hb,(λ_ h=>by cases h),an _⟩
def gf.own{w:ay}{T:Nat}(hg:w.1.size<=g)(b:Own w' g T zs)(hb:Below w.1.size w w')(e:Ending)(j:e=.returned (.tuple #[.slice g zs zs.length,au])):gf w zs 0 e w':=
 ⟨_,_,j,b.rd,hb,(λ_ h=>by cases h;exact hg),an _⟩
def lW(zs:av)(e a b:Int):Int:=
 if aA zs then(if decide (0<=e)&&decide (e<zs.length)&&decide (0<=a)&&decide (b<=zs.getD e.toNat 0)&&decide (a<b)then 0 else 11)else 20
def lX(zs:av)(e a b:Int):List Int:=if lW zs e a b=0 then zs.set e.toNat (b-a)else[]
def Us(A:cD)(c:Nat)(zs:av)(j a b:Int)(w:ay)(hs:zs.length<=1000000)(h:Rd w A zs):
  () 129 #[.slice A zs c,j,a,b] w (gf w (lX zs j a b) (lW zs j a b)):=by
 rcases hr:aA zs with _|_
 .have l:Hx (lW zs j a b=20):=ae (by simp[lW,hr]);have m:Hx (lX zs j a b=[]):=ae (by simp[lX,l.o]);have u:=ae hr
  go_in
  go_wp2_with fail
  refine(c5 A c zs w hs h).mono ?_;rintro e w1 ⟨rfl,hb⟩;rw[u.o]
  go_wp2
  go_ret2;exact gf.none_ m hb _ (by rw[l.o];rfl)
 .have u:=ae hr;obtain⟨r1,P,D,J⟩:=(bE zs).1 hr;by_cases E:0<=j/\j<zs.length
  .obtain⟨n,rfl⟩:=cf E.1;have K:n<zs.length:=om;obtain⟨Q,off,z,rfl,L,R,r⟩:=h.get K;have⟨lD,tr⟩:=fK D r.o;by_cases F:0<=a/\b<=z/\a<b
   .have⟨ha,hbz,bK⟩:=F;have l:Hx (lW zs n a b=0):=ae (by
     rw[lW,ah hr,ah];simp only[bW,cu,bI];simp[List.getD,r.o];omega)
    have m:Hx (lX zs n a b=zs.set n (b-a)):=ae (by simp[lX,l.o])
    go_in
    go_wp2_with fail
    refine(c5 _ c zs w hs h).mono ?_;rintro e w1 ⟨rfl,hb⟩;rw[u.o];have G:=(h.below hb).all r.o
    go_wp2_with fail
    refine(mJ _ c zs w1 hs (h.below hb)).mono ?_;rintro e w2 ⟨g,rfl,hg,C,I⟩;have M:=C.cell r.o;have N:=C.frozen n;have O:=ae (C.ax n (b-a));clear C;have y:(zs.set n (b-a)).length=zs.length:=aG;have B:=ae y
    go_wp2_with fail
    go_ret2;rw[m.o,l.o];exact gf.own (aO hb.size hg) O.o ((hb.trans (I.mono hb.size)).setCell (aO hb.size hg) _) _ (by rw[B.o];rfl)
   .have l:Hx (lW zs n a b=11):=ae (by
     rw[lW,ah hr,ag];simp only[bW,cu,bI];simp[List.getD,r.o];omega)
    have m:Hx (lX zs n a b=[]):=ae (by simp[lX,l.o])
    go_in
    go_wp2_with fail
    refine(c5 _ c zs w hs h).mono ?_;rintro e w1 ⟨rfl,hb⟩;rw[u.o];have G:=(h.below hb).all r.o
    go_wp2
    all_goals first|omega|(go_ret2;exact gf.none_ m hb _ (by rw[l.o];rfl))
  .have l:Hx (lW zs j a b=11):=ae (by
    rw[lW,ah hr,ag];simp only[bW,cu];omega)
   have m:Hx (lX zs j a b=[]):=ae (by simp[lX,l.o])
   go_in
   go_wp2_with fail
   refine(c5 _ c zs w hs h).mono ?_;rintro e w1 ⟨rfl,hb⟩;rw[u.o]
   go_wp2
   all_goals first|omega|(go_ret2;exact gf.none_ m hb _ (by rw[l.o];rfl))
variable{j:Nat}
def h9(zs b:av)(n:Nat):Bool:=decide (zs.take n=b.take n)&&decide (zs.drop (n+1)=b.drop (n+1))
def i0(zs b:av)(n:Nat):List Int:=zs.set n (zs.getD n 0+b.getD n 0)
def eM(zs e:av)(b:Int):Int:=
 if aA zs&&aA e&&decide (zs.length=e.length)then
  (if decide (0<=b)&&decide (b<zs.length)then(if h9 zs e b.toNat&&aA (i0 zs e b.toNat)then 0 else 20)else 11)
 else 20
def e7(zs e:av)(b:Int):List Int:=if eM zs e b=0 then i0 zs e b.toNat else[]
def hT(zs b:av)(n k:Nat):List Int:=if n<k then i0 zs b n else zs
def Kx(zs b:av)(n k:Nat):Prop:=∀j z t,j<k->j≠n->zs[j]?=some z->b[j]?=some t->z=t
def CG{n k:Nat}(u:zs.length=O.length)(h:Kx zs O n k)(y:zs.length<=k):h9 zs O n=true:=by
 have key:∀j,j≠n->zs[j]?=O[j]?:=by
  intro j r;by_cases b:j<zs.length
  .have e:=bc b;have m:=bc (l:=O) (i:=j) om;rw[e,m,h j _ _ om r e m]
  .rw[c6 om,c6 om]
 simp only[h9,bW,cu];constructor
 .apply ek;intro j;rw[eY,eY]
  split
  .exact key j om
  .rfl
 .apply ek;intro j;rw[ff,ff];exact key _ om
def zL{n:Nat}{t:Int}(m:j≠n)(e:zs[j]?=some z)(ht:O[j]?=some t)(h:z≠t):h9 zs O n=false:=by
 rcases hb:h9 zs O n with _|_
 .rfl
 .simp only[h9,bW,cu]at hb;exfalso;rcases rL m with b|hgt
  .have:=cv (λl=>l[j]?) hb.1;simp only[eY,ah b,e,ht]at this;injection this with this;exact h this
  .have:=cv (λl=>l[j-(n+1)]?) hb.2;simp only[ff]at this;rw[show n+1+(j-(n+1))=j from om,e,ht]at this;injection this with this;exact h this
def Hr{ts:av}{n k:Nat}(b:k<=n)(h:zs[n]?=some z):(hT zs ts n k)[n]?=some z:=by rw[hT,ag (by omega)];exact h
def CH{n:Nat}{t:Int}(b:zs[n]?=some z)(ht:O[n]?=some t):(hT zs O n n).set n (z+t)=hT zs O n (n+1):=by
 rw[hT,ag om,hT,ah om,i0];simp[List.getD,b,ht]
def CI{n k:Nat}(h:k≠n):hT zs O n (k+1)=hT zs O n k:=by
 unfold hT;by_cases b:n<k
 .rw[ah b,ah om]
 .rw[ag b,ag om]
def O7(A B:cD)(c d:Nat)(zs ts:av)(l:Int)(w:ay)(hs:zs.length<=1000000)(K:ts.length<=1000000)(h:Rd w A zs)(h':Rd w B ts):
  () 191 #[.slice A zs c,.slice B ts d,l] w (gf w (e7 zs ts l) (eM zs ts l)):=by
 rcases hr:aA zs with _|_
 .have F:Hx (eM zs ts l=20):=ae (by simp[eM,hr]);have Q:Hx (e7 zs ts l=[]):=ae (by simp[e7,F.o]);have R:=ae hr;clear hr
  go_in
  go_wp2_with fail
  refine(c5 A c zs w hs h).mono ?_;rintro e w1 ⟨rfl,hb⟩;rw[R.o]
  go_wp2_with fail
  go_ret2;exact gf.none_ Q.o hb _ (by rw[F.o];rfl)
 rcases ql:aA ts with _|_
 .have F:Hx (eM zs ts l=20):=ae (by simp[eM,ql]);have Q:Hx (e7 zs ts l=[]):=ae (by simp[e7,F.o]);have R:=ae hr;have G:=ae ql;clear hr ql
  go_in
  go_wp2_with fail
  refine(c5 A c zs w hs h).mono ?_;rintro e w1 ⟨rfl,hb⟩;rw[R.o]
  go_wp2_with fail
  refine(c5 B d ts w1 K (h'.below hb)).mono ?_;rintro e w2 ⟨rfl,D⟩;rw[G.o]
  go_wp2_with fail
  go_ret2;exact gf.none_ Q.o (hb.trans (D.mono hb.size)) _ (by rw[F.o];rfl)
 have R:=ae hr;have G:=ae ql;by_cases O:zs.length=ts.length
 .have lA:((zs.length:Int) !=(ts.length:Int))=false:=by rw[O];simp
  have HL:=ae O;by_cases hsd:0<=l/\l<zs.length
  .obtain⟨n,rfl⟩:=cf hsd.1;have hn:n<zs.length:=om;have HJ0:Hx (h9 zs ts n=false->eM zs ts n=20):=ae (λS=>by simp[eM,hr,ql,O,S];omega);have HJ1:Hx (h9 zs ts n=true->eM zs ts n=if aA (i0 zs ts n)then 0 else 20):=ae (λS=>by simp[eM,hr,ql,O,S];omega);have HJV:Hx (eM zs ts n=20->e7 zs ts n=[]):=ae (λS=>by simp[e7,S]);have HJW:Hx (eM zs ts n=0->e7 zs ts n=i0 zs ts n):=ae (λS=>by simp[e7,S]);obtain⟨r1,r4,O8,rpr⟩:=(bE zs).1 hr;obtain⟨r1',r4',P,ab9⟩:=(bE ts).1 ql;have RIN:=ae O8;have aaD:=ae P;clear hr ql O O8 P
   go_in
   go_wp2_with fail
   refine(c5 A c zs w hs h).mono ?_;rintro e w1 ⟨rfl,hb⟩;rw[R.o]
   go_wp2_with fail
   refine(c5 B d ts w1 K (h'.below hb)).mono ?_;rintro e w2 ⟨rfl,D⟩;rw[G.o];have C:=hb.trans (D.mono hb.size)
   go_wp2_with fail
   refine(mJ A c zs w2 hs (h.below C)).mono ?_;rintro e w3 ⟨g,rfl,hg,ho,qR⟩;have aaE:=C.trans (qR.mono C.size);have T:w.1.size<=g:=aO C.size hg;have HO:=ae ho;clear ho hb D qR
   go_wp2_with fail
   go_loopw [37] (λi wr=>∃k:Nat,k<=zs.length/\i=.int .i64 k/\Own wr g 3 (hT zs ts n k)/\Below w.1.size w wr/\Kx zs ts n k) (λi _=>zs.length-(intOf i).toNat)
   case atStart=>exact⟨0,aT _,rfl,HO.o,aaE,λj z t J=>absurd J om⟩
   case round=>
    obtain⟨k,hk,rfl,m,r,LJ⟩:=hrel;have U:=ae LJ;clear LJ;by_cases V:k<zs.length
    .obtain⟨b,off,z,rfl,hbb,hc,hz⟩:=(h.below r).get V;obtain⟨b',aaA,t,rfl,aca,hc',ht⟩:=(h'.below r).get (k:=k) (by rw[<-HL.o];exact V);have acb:k<ts.length:=by rw[<-HL.o];exact V
     obtain⟨lD,tr⟩:=fK RIN.o hz.o;obtain⟨XC,ht2⟩:=fK aaD.o ht.o;by_cases L:k=n
     .subst L;have zM:=m.cell (Hr (ts:=ts) (an k) hz.o);have CJ:=m.frozen k;have E:=ae (m.ax k (z+t));rw[CH hz.o ht.o]at E;clear m;have zO:((k:Int)==(k:Int))=true:=by simp
      go_wp2_with fail
      go_region
      all_goals go_wp2_with fail
      all_goals
       go_roundw
       case rel=>exact⟨k+1,om,by go_num,by first|exact E.o|exact E.o.drew,by first|exact(r.drew).setCell T _|exact(r.setCell T _).drew,λj y u J X Y hu=>U.o j y u om X Y hu⟩
       case measure=>exact e6
     .have zO:((k:Int)==(n:Int))=false:=by simp;omega
      have E:=ae m;rw[<-CI L]at E;clear m;by_cases M:z=t
      .have aaF:(z !=t)=false:=by simp[M]
       have HZT:=ae M;have HKN:=ae L
       go_wp2_with fail
       go_quiet (fail)
       go_wp2
       go_roundw
       ·
        refine⟨k+1,om,by go_num,E.o.drewN _,below_drewN r _,λj y u J X Y hu=>?_⟩;by_cases hjk:j<k
        .exact U.o j y u hjk X Y hu
        .obtain rfl:j=k:=om;rw[hz.o]at Y;rw[ht.o]at hu;injection Y with Y;injection hu with hu
         rw[<-Y,<-hu,HZT.o]
       .simp[intOf];omega
      .have aaF:(z !=t)=true:=by simp[M]
       have HF:=ae (HJ0.o (zL L hz.o ht.o M))
       go_wp2
       go_quiet (fail)
       go_wp2
       go_ret2;exact gf.none_ (HJV.o HF) (below_drewN r _) _ (by rw[HF.o];rfl)
    .have Z:=ae (HJ1.o (CG HL.o U.o om));have e:hT zs ts n k=i0 zs ts n:=by rw[hT,ah om]
     rw[e]at m;have E:=ae m;have I:(i0 zs ts n).length=zs.length:=by simp[i0]
     have CR:=ae (c5 g (i0 zs ts n).length (i0 zs ts n) wr om m.rd);rw[I]at CR;have aaG:=ae I;clear m e I;rcases J:aA (i0 zs ts n)with _|_
     .have HJ:=ae J;rw[J]at Z;clear J
      go_wp2_with fail
      refine CR.o.mono ?_;rintro e w4 ⟨rfl,N⟩;rw[HJ.o]
      go_wp2_with fail
      go_ret2;exact gf.none_ (HJV.o Z.o) (r.trans (N.mono r.size)) _ (by rw[Z.o];rfl)
     .have HJ:=ae J;rw[J]at Z;clear J
      go_wp2_with fail
      refine CR.o.mono ?_;rintro e w4 ⟨rfl,N⟩;rw[HJ.o]
      go_wp2_with fail
      go_ret2;rw[HJW.o Z.o,Z.o];exact gf.own T (E.o.keep N) (r.trans (N.mono r.size)) _ (by rw[aaG.o];rfl)
  .have F:Hx (eM zs ts l=11):=ae (by
    rw[eM,ah (by simp[hr,ql,O]),ag];simp only[bW,cu];omega)
   have Q:Hx (e7 zs ts l=[]):=ae (by simp[e7,F.o]);clear hr ql O
   go_in
   go_wp2_with fail
   refine(c5 A c zs w hs h).mono ?_;rintro e w1 ⟨rfl,hb⟩;rw[R.o]
   go_wp2_with fail
   refine(c5 B d ts w1 K (h'.below hb)).mono ?_;rintro e w2 ⟨rfl,D⟩;rw[G.o];have C:=hb.trans (D.mono hb.size)
   go_wp2_with fail
   all_goals first|omega|(go_ret2;exact gf.none_ Q.o C _ (by rw[F.o];rfl))
 .have lA:((zs.length:Int) !=(ts.length:Int))=true:=by simp;omega
  have F:Hx (eM zs ts l=20):=ae (by simp[eM,O]);have Q:Hx (e7 zs ts l=[]):=ae (by simp[e7,F.o]);clear hr ql
  go_in
  go_wp2_with fail
  refine(c5 A c zs w hs h).mono ?_;rintro e w1 ⟨rfl,hb⟩;rw[R.o]
  go_wp2_with fail
  refine(c5 B d ts w1 K (h'.below hb)).mono ?_;rintro e w2 ⟨rfl,D⟩;rw[G.o];have C:=hb.trans (D.mono hb.size)
  go_wp2
  go_ret2;exact gf.none_ Q C _ (by rw[F.o];rfl)
variable{c m:Nat}{T':TypeId}{v0 v1:Value}
def aJ(zs xs:av):Bool:=aA zs&&decide ((xs.length:Int)=aN zs)
def bf(zs xs):aJ zs xs=true↔aA zs=true/\(xs.length:Int)=aN zs:=by simp[aJ]
def az.gz{w:ay}{B:Nat}(h:Own w g T zs)(b:B<=g)(e:zs.length<=1000000000):az w B T g zs.length zs:=by
 refine⟨aG,.inr ⟨g,zs.length,ints zs,rfl,b,h,an _,by unfold maxLen;omega,by simp[Ho],?_⟩⟩;rw[bR (by simp[ints])];simp[ints]
def O9(w:ay)(zs xs:av)(e:Ending)(w':ay):Prop:=
 ∃g b,e=.returned (.agg #[.slice (some ⟨g,0,none⟩) zs zs.length,.slice (some ⟨b,0,none⟩) xs xs.length])/\w.1.size<=g/\w.1.size<=b/\Own w' g 3 zs/\Own w' b 65 xs/\Below w.1.size w w'
def nE(w:ay)(zs xs:av)(E:Int)(e:Ending)(w':ay):Prop:=
 ∃A c B d,e=.returned (.tuple #[.agg #[.slice A zs c,.slice B xs d],E])/\az w' w.1.size 3 A c zs/\az w' w.1.size 65 B d xs/\Below w.1.size w w'
def di{w:ay}(h:aB w g T #[v0,v1]):w.cell? (g,0)=some v0/\w.cell? (g,1)=some v1:=⟨h.cell 0,h.cell 1⟩
def aB.cY{w:ay}{a b:Value}(h:aB w g T #[a,b])(v0 e):aB ((w.setCell (g,0) v0).setCell (g,1) e) g T #[v0,e]:=(h.ax 0 v0).ax 1 e
def Own.cU{w:ay}{p:Nat}(h:Own w g T zs)(hp:g≠p)(v0 b):Own ((w.setCell (p,0) v0).setCell (p,1) b) g T zs:=
 (h.a9 (p:=⟨p,0,none⟩) hp v0).a9 (p:=⟨p,1,none⟩) hp b
def cM{w:ay}{n p:Nat}(h:Below n w w')(hp:n<=p)(v0 b):Below n w ((w'.setCell (p,0) v0).setCell (p,1) b):=
 (h.setCell (p:=⟨p,0,none⟩) hp v0).setCell (p:=⟨p,1,none⟩) hp b
def Own.aS{w:ay}{cs:eL}(h:Own w g T zs)(b:aB w m T' cs)(e:T≠T'):g≠m:=by
 rintro rfl;unfold Own at h;unfold aB at b;rw[h]at b;injection b with b
 injection b with _ ht
 exact e ht
def az.aS{w:ay}{B:Nat}{cs:eL}(h:az w B T A c zs)(b:aB w m T' cs)(j:T≠T'):∀l,A=some l->l.block≠m:=by
 intro l e;rcases h.form with⟨rfl,_,_⟩|⟨g,r,rfl,u,hg,_⟩
 .cases e
 .cases e;rintro rfl;unfold aB at b;dsimp only at b;rw[hg]at b;injection b with b
  injection b with _ ht
  exact j ht
def fW(A B:cD)(c d:Nat)(zs xs:av)(w:ay)(hs:zs.length<=1000000)(h:Rd w A zs):
  () 69 #[.agg #[.slice A zs c,.slice B xs d]] w (o6 w (.bool (aJ zs xs))):=by
 have l:=(aY w.1.size w).alloc (an _) (.cells #[.slice A zs c,.slice B xs d] 28);have k0:=aB.new w 28 #[.slice A zs c,.slice B xs d];have m:=h.alloc (.cells #[.slice A zs c,.slice B xs d] 28);rcases hr:aA zs with _|_
 .have j:Hx (aJ zs xs=false):=ae (by simp[aJ,hr]);have b:Hx (bt zs=0/\cg zs=20):=ae (by simp[bt,cg,hr])
  go_in
  go_wp2_with fail
  refine(r8 A c zs _ hs m).mono ?_;rintro e w1 ⟨rfl,hb⟩;rw[b.o.1,b.o.2]
  go_wp2
  go_ret;exact⟨bP j.o.symm,dW l hb⟩
 .have b:Hx (bt zs=aN zs/\cg zs=0):=ae (by simp[bt,cg,hr]);have j:Hx (aJ zs xs=((xs.length:Int)==aN zs)):=ae (by simp[aJ,hr];exact rX.2 aG)
  go_in
  go_wp2_with fail
  refine(r8 A c zs _ hs m).mono ?_;rintro e w1 ⟨rfl,hb⟩;rw[b.o.1,b.o.2];have⟨q0,q1⟩:=di (k0.keep hb)
  go_wp2
  go_ret;exact⟨bP j.o.symm,dW l hb⟩
def nF(A B)(c d)(zs xs)(w)(hs:zs.length<=1000000)(E:xs.length<=1000000)(h:Rd w A zs)(r:Rd w B xs):
  () 71 #[.agg #[.slice A zs c,.slice B xs d]] w (O9 w zs xs):=by
 have l:=λW=>run_make_row' (P:=prog) 26 65 au 8 underlying26 aq rfl .i64 .i64 xs.length om om W;rw[hY]at l;have j:=((aY w.1.size w).alloc (an _) (.cells #[.slice A zs c,.slice B xs d] 28)).alloc aG (.cells #[(),()] 28);have b:=λu=>qy (P:=prog) 26 26 u 65 65 underlying26 aq xs B d _ (r.below j);rw[hY]at b;simp only[Uo]at b
 go_in
 go_wp2_with fail
 refine(mJ A c zs _ hs (((h.below j)).alloc _)).mono ?_;rintro e w1 ⟨g,rfl,hg,m,hb⟩;have y:=dW (j.alloc j.size (.cells (ints xs) 65)) hb;have k1:=((aB.fx (w.alloc (.cells #[.slice A zs c,.slice B xs d] 28)) 28 #[(),()] (n:=w.1.size+1) aG).alloc (.cells (ints xs) 65)).keep hb;have k2:=(Own.fx ((w.alloc (.cells #[.slice A zs c,.slice B xs d] 28)).alloc (.cells #[(),()] 28)) 65 xs (n:=w.1.size+1+1) aG).keep hb;have⟨q0,q1⟩:=di k1;have F:=k1.frozen 0;have f1:=k1.frozen 1;simp at hg
 go_wp2
 have n1:=k2.aS k1 ak;have n2:=m.aS k1 ak;have k3:=k1.cY (.slice g zs zs.length) (w.1.size+1+1,xs.length,xs.length);have z:=k2.cU n1 (.slice g zs zs.length) (w.1.size+1+1,xs.length,xs.length);have C:=m.cU n2 (.slice g zs zs.length) (w.1.size+1+1,xs.length,xs.length);have D:=cM y (b9 _) (.slice g zs zs.length) (w.1.size+1+1,xs.length,xs.length);have⟨q0,q1⟩:=di k3;refine a8 (v:=.agg #[.slice g zs zs.length,(w.1.size+1+1,xs.length,xs.length)]) (by simp[results,results71,go_sem,q0,q1]) rfl ?_;exact⟨g,_,rfl,om,om,C,z,D⟩
def nE.yes{w:ay}(hg:w.1.size<=g)(b:w.1.size<=m)(u:zs.length<=1000000)(y:xs.length<=1000000)(l:Own w' g 3 zs)(j:Own w' m 65 xs)(hb:Below w.1.size w w')(e:Ending)
  (r:e=.returned (.tuple #[.agg #[.slice g zs zs.length,.slice m xs xs.length],au])):nE w zs xs 0 e w':=
 ⟨_,_,_,_,r,az.gz l hg om,az.gz j b om,hb⟩
def LK(A B)(c d)(zs xs)(w)(hs:zs.length<=1000000)(y:xs.length<=1000000)(h:Rd w A zs)(D:Rd w B xs)(hr:Hx (aJ zs xs=true)):
  () 25 #[.slice A zs c,.slice B xs d] w (nE w zs xs 0):=by
 have z:=((aY w.1.size w).alloc (an _) (.cells #[(),()] 28)).alloc aG (.cells #[.slice A zs c,.slice B xs d] 28);have k0:=(aB.new w 28 #[(),()]).alloc (.cells #[.slice A zs c,.slice B xs d] 28);have r:=aB.fx (w.alloc (.cells #[(),()] 28)) 28 #[.slice A zs c,.slice B xs d] (n:=w.1.size+1) aG
 go_in
 go_wp2_with fail
 refine(fW A B c d zs xs _ hs (h.below z)).mono ?_;rintro e w1 ⟨rfl,hb⟩;rw[hr.o];have k1:=k0.keep hb;have u:=r.keep hb;have m:=dW z hb;have⟨p0,p1⟩:=di u
 go_wp2_with fail
 refine(nF A B c d zs xs w1 hs y (h.below m) (D.below m)).mono ?_;rintro e w2 ⟨g,b,rfl,hg,E,C,j,l⟩;have k2:=k1.keep l;have F:=dW m l;have⟨q0,q1⟩:=di k2;have L:=k2.frozen 0;have f1:=k2.frozen 1;have n1:=C.aS k2 ak;have n2:=j.aS k2 ak;have G:=m.size
 go_wp2
 have k3:=k2.cY (.slice g zs zs.length) (.slice b xs xs.length);have I:=cM F (an _) (.slice g zs zs.length) (.slice b xs xs.length);have J:=C.cU n1 (.slice g zs zs.length) (.slice b xs xs.length);have K:=j.cU n2 (.slice g zs zs.length) (.slice b xs xs.length);have⟨q0,q1⟩:=di k3;refine a8 (v:=.tuple #[.agg #[.slice g zs zs.length,.slice b xs xs.length],au]) (by simp[results,results25,go_sem,q0,q1]) rfl ?_;exact nE.yes om om hs y J K I _ rfl
