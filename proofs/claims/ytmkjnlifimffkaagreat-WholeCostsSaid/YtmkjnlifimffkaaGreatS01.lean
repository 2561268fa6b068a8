/- Lemmas. No condition. -/
import Derived.Test.YtmkjnlifimffkaaGreatProg
import Derived.WalkKit
import Derived.WalkSpells
import Derived.WalkLawsBesides
import Derived.Deep.QuietTactic
import Derived.BigQuiet
import Derived.Deep.Draws
import Derived.Lib.Hide
import Derived.Laws.CopyOwn
import Derived.Deep.OwnRows
import Derived.ProofKit
import Derived.OpenShut
import Derived.ChangeOld
import Derived.Lib.SmallJoins
import Derived.Deep.Slices
import Derived.Maps.AppendAt
import Derived.OwnWalk
import Derived.Deep.RegionHeld3
import Derived.Lib.SliceRun
import Derived.Deep.Upon
namespace Go.Proofs.YtmkjnlifimffkaaGreat
open Go.RowKit
set_option maxRecDepth 100000
set_option maxHeartbeats 16000000
def Rd(w:World)(A:Option Addr)(zs:List Int):Prop:=
 ∀j z,zs[j]?=some z->∃b off,A=some ⟨b,off,none⟩/\b<w.heap.size/\w.cell? ⟨b,off+j,none⟩=some (.int .i64 z)
theorem Rd.nil(w:World)(A:Option Addr):Rd w A []:=fun j _ hj=>absurd hj (by simp)
theorem Rd.get{w:World}{A:Option Addr}{zs:List Int}(h:Rd w A zs){k:Nat}(hk:k<zs.length):
  ∃b off z,A=some ⟨b,off,none⟩/\b<w.heap.size/\w.cell? ⟨b,off+k,none⟩=some (.int .i64 z)/\Hid (zs[k]?=some z):=by
 have e:zs[k]?=some zs[k]:=List.getElem?_eq_getElem hk;obtain⟨b,off,rfl,hb,hc⟩:=h k _ e;exact⟨b,off,_,rfl,hb,hc,e⟩
theorem Rd.all{w:World}{b off:Nat}{zs:List Int}(h:Rd w (some ⟨b,off,none⟩) zs){k:Nat}{z:Int}(hk:zs[k]?=some z):w.cell? ⟨b,off+k,none⟩=some (.int .i64 z):=by
 obtain⟨b',off',he,_,hc⟩:=h k z hk;injection he with he;injection he with h1 h2;subst h1;subst h2;exact hc
theorem Rd.keep{w w':World}{A:Option Addr}{zs:List Int}(h:Rd w A zs)(hs:w.heap.size<=w'.heap.size)(hk:∀p:Addr,p.block<w.heap.size->w'.cell? p=w.cell? p):Rd w' A zs:=by
 intro j z hj;obtain⟨b,off,e,hb,hc⟩:=h j z hj;exact⟨b,off,e,by omega,(hk _ hb).trans hc⟩
theorem Rd.below{w w':World}{A:Option Addr}{zs:List Int}(h:Rd w A zs)(hb:Below w.heap.size w w'):Rd w' A zs:=
 h.keep hb.size fun _ hp=>hb.cell hp
theorem Rd.alloc{w:World}{A:Option Addr}{zs:List Int}(h:Rd w A zs)(o:Obj):Rd (w.alloc o) A zs:=
 h.keep (by simp) fun p hp=>World.cell?_alloc_lt w o p hp
def ints(zs:List Int):Array Value:=(zs.map (Value.int .i64)).toArray
theorem aew(zs:List Int):(ints zs).size=zs.length:=by simp[ints]
theorem Pm(zs:List Int)(j:Nat):(ints zs)[j]?=zs[j]?.map (Value.int .i64):=by simp[ints]
theorem ints_set(zs:List Int)(k:Nat)(z:Int):(ints zs).setIfInBounds k (.int .i64 z)=ints (zs.set k z):=by
 simp[ints,List.setIfInBounds_toArray,List.map_set]
theorem EW(n:Nat):madeCells #[.int .i64 0] n=ints (List.replicate n 0):=by
 apply Array.ext';rw[toList_madeCells_one];simp[ints]
def Own(w:World)(g:Nat)(T:TypeId)(zs:List Int):Prop:=w.heap[g]?=some (.cells (ints zs) T (0,0))
section
variable{w w':World}{g:Nat}{T:TypeId}{zs:List Int}
theorem Own.lt(h:Own w g T zs):g<w.heap.size:=by
 rcases Nat.lt_or_ge g w.heap.size with hlt|hge
 ·exact hlt
 ·unfold Own at h;rw[Array.getElem?_eq_none hge]at h;cases h
theorem Own.cell(h:Own w g T zs){i:Nat}{z:Int}(hz:zs[i]?=some z):w.cell? ⟨g,i,none⟩=some (.int .i64 z):=by
 unfold Own at h;simp[World.cell?,h,Pm,hz]
theorem Own.frozen(h:Own w g T zs)(i:Nat):w.frozen? ⟨g,i,none⟩=false:=by
 unfold Own at h;simp[World.frozen?,h]
theorem Own.rd(h:Own w g T zs):Rd w (some ⟨g,0,none⟩) zs:=fun j z hj=>⟨g,0,rfl,h.lt,by rw[Nat.zero_add];exact h.cell hj⟩
theorem Own.new(w:World)(T:TypeId)(zs:List Int):Own (w.alloc (.cells (ints zs) T)) w.heap.size T zs:=heap_alloc_new w _
theorem Own.new'(w:World)(T:TypeId)(zs:List Int){n:Nat}(h:w.heap.size=n):Own (w.alloc (.cells (ints zs) T)) n T zs:=h▸Own.new w T zs
theorem Own.drew(h:Own w g T zs):Own w.drew g T zs:=h
theorem Own.drewN(h:Own w g T zs)(n:Nat):Own (w.drewN n) g T zs:=h
theorem Own.alloc(h:Own w g T zs)(o:Obj):Own (w.alloc o) g T zs:=(Below.heap_alloc w o g h.lt).trans h
theorem Own.aF(h:Own w g T zs)(i:Nat)(z:Int):Own (w.setCell ⟨g,i,none⟩ (.int .i64 z)) g T (zs.set i z):=by
 unfold Own at h⊢;simp[World.setCell,Array.getElem?_modify,h,ints_set]
theorem Own.far(h:Own w g T zs){p:Addr}(hp:g≠p.block)(u:Value):Own (w.setCell p u) g T zs:=(Below.heap_setCell w p u g hp).trans h
theorem Own.below{B:Nat}(h:Own w g T zs)(hb:Below B w w')(hg:g<B):Own w' g T zs:=(hb.block g hg).trans h
theorem Own.keep(h:Own w g T zs)(hb:Below w.heap.size w w'):Own w' g T zs:=h.below hb h.lt
end
def aD(w:World)(g:Nat)(T:TypeId)(cs:Array Value):Prop:=w.heap[g]?=some (.cells cs T (0,0))
section
variable{w w':World}{g:Nat}{T:TypeId}{cs:Array Value}
theorem aD.lt(h:aD w g T cs):g<w.heap.size:=by
 rcases Nat.lt_or_ge g w.heap.size with hlt|hge
 ·exact hlt
 ·unfold aD at h;rw[Array.getElem?_eq_none hge]at h;cases h
theorem aD.cell(h:aD w g T cs)(i:Nat):w.cell? ⟨g,i,none⟩=cs[i]?:=by
 unfold aD at h;simp[World.cell?,h]
theorem aD.frozen(h:aD w g T cs)(i:Nat):w.frozen? ⟨g,i,none⟩=false:=by
 unfold aD at h;simp[World.frozen?,h]
theorem aD.new(w:World)(T:TypeId)(cs:Array Value):aD (w.alloc (.cells cs T)) w.heap.size T cs:=heap_alloc_new w _
theorem aD.new'(w:World)(T:TypeId)(cs:Array Value){n:Nat}(h:w.heap.size=n):aD (w.alloc (.cells cs T)) n T cs:=h▸aD.new w T cs
theorem aD.drew(h:aD w g T cs):aD w.drew g T cs:=h
theorem aD.alloc(h:aD w g T cs)(o:Obj):aD (w.alloc o) g T cs:=(Below.heap_alloc w o g h.lt).trans h
theorem aD.aF(h:aD w g T cs)(i:Nat)(u:Value):aD (w.setCell ⟨g,i,none⟩ u) g T (cs.setIfInBounds i u):=by
 unfold aD at h⊢;simp[World.setCell,Array.getElem?_modify,h]
theorem aD.far(h:aD w g T cs){p:Addr}(hp:g≠p.block)(u:Value):aD (w.setCell p u) g T cs:=(Below.heap_setCell w p u g hp).trans h
theorem aD.below{B:Nat}(h:aD w g T cs)(hb:Below B w w')(hg:g<B):aD w' g T cs:=(hb.block g hg).trans h
theorem aD.keep(h:aD w g T cs)(hb:Below w.heap.size w w'):aD w' g T cs:=h.below hb h.lt
end
def aex(w:World)(T:TypeId)(zs:List Int)(e:Ending)(w':World):Prop:=
 ∃g,e=.returned (.slice (some ⟨g,0,none⟩) zs.length zs.length)/\w.heap.size<=g/\Own w' g T zs/\Below w.heap.size w w'
theorem aey(W:World)(X Y:Array Value)(E:TypeId):(W.alloc (.cells X E)).setRow W.heap.size Y=W.alloc (.cells Y E):=by
 simp only[World.setRow,World.alloc];congr 1;apply Array.ext_getElem?;intro i;rw[Array.getElem?_modify,Array.getElem?_push,Array.getElem?_push];by_cases h:i=W.heap.size
 ·simp[h]
 ·simp[h,Ne.symm h]
theorem Wq{P:Program}(dT sT ty elem E:TypeId)(hu:P.underlying dT=some (.slice elem))(hs:(P.info? elem).map (·.size)=some 1)
  (zs:List Int) (A:Option Addr) (c:Nat) (W:World) (h:Rd W A zs):
  (Builtin.copy_ #[dT,sT] ty #[.slice (some ⟨W.heap.size,0,none⟩) zs.length zs.length,.slice A zs.length c]).run P (W.alloc (.cells (madeCells #[.int .i64 0] zs.length) E))=.ok (.int .i64 zs.length) (W.alloc (.cells (ints zs) E)):=by
 by_cases h0:zs.length=0
 ·have e:zs=[]:=List.eq_nil_of_length_eq_zero h0;subst e;have:=run_copy_none (P:=P) (W.alloc (.cells (madeCells #[.int .i64 0] 0) E)) dT sT ty elem (some ⟨W.heap.size,0,none⟩) A 0 0 0 c hu hs rfl;rw[EW]at this⊢;exact this
 ·obtain⟨b,off,z,rfl,hb,_,_⟩:=h.get (k:=0) (by omega);have:=run_copy_row (P:=P) (W.alloc (.cells (madeCells #[.int .i64 0] zs.length) E)) dT sT ty elem W.heap.size 0 zs.length zs.length ⟨b,off,none⟩ zs.length c
   (madeCells #[.int .i64 0] zs.length) E (zs.map (Value.int .i64)) hu hs (heap_alloc_new W _) (by simp) (fun j v hv=>by
    rw[List.getElem?_map]at hv;obtain⟨z,hz,rfl⟩:=Option.map_eq_some_iff.1 hv;rw[World.cell?_alloc_lt _ _ _ (by unfold Addr.add;split<;>exact hb)];have:=h.all hz;unfold Addr.add
    split
    ·rename_i e;subst e;exact this
    ·exact this) (by simp[size_madeCells]) (by simp[Value.oneCell'])
  rw[this];have e:((madeCells #[Value.int .i64 0] zs.length).toList.take 0++zs.map (Value.int .i64)++(madeCells #[Value.int .i64 0] zs.length).toList.drop (0+(zs.map (Value.int .i64)).length)).toArray=ints zs:=by
   simp[ints,toList_madeCells_one]
  rw[e,aey];simp[goInt]
theorem below_drewN{B:Nat}{a w:World}(h:Below B a w)(n:Nat):Below B a (w.drewN n):=⟨h.os,h.tape,h.output,h.size,h.block⟩
theorem dS{w a b:World}(h:Below w.heap.size w a)(k:Below a.heap.size a b):Below w.heap.size w b:=h.trans (k.mono h.size)
theorem gT{k:IntKind}{a b:Int}(h:a=b):Ending.returned (.int k a)=.returned (.int k b):=by rw[h]
theorem jD{a b:Bool}(h:a=b):Ending.returned (.bool a)=.returned (.bool b):=by rw[h]
section
set_option linter.defProp false
def aQ:=@List.getD_eq_getElem?_getD
def az:=@Nat.le_refl
def aK:=@List.mem_of_getElem?
def aW:=@List.getElem?_eq_getElem
def aY:=@List.getElem?_eq_some_iff
def bN:=@Option.map_eq_some_iff
def dB:=@List.take_of_length_le
def bV:=@Nat.lt_of_lt_of_le
def aS:=@Nat.zero_le
def aZ:=@Nat.le_trans
def cu:=@List.length_append
def eF:=@Int.eq_ofNat_of_zero_le
def bF:=@Go.IntKind.wrap_i64
def bM:=@Go.bodyPost_ret
def dm:=@Bool.and_eq_true
def dD:=@Int.toNat_natCast
def dE:=@List.getElem?_map
def dM:=@Go.RowKit.Below.heap_setCell
def nz:=@Array.getElem?_eq_some_iff
def dU:=@decide_eq_true_eq
def dN:=@List.mem_cons_self
def bq:=@Go.RowKit.Below.refl
def cZ:=@Go.IntKind.wrap_u64
def dz:=@List.mem_cons
def dF:=@List.length_map
def fI:=@List.mem_cons_of_mem
def dO:=@List.length_take
def gm:=@List.mem_singleton
def gU:=@List.mem_of_mem_take
def eG:=@Go.results_cell_tmp
def dP:=@List.mem_append
def kJ:=@Array.getElem?_setIfInBounds_ne
def qV:=@Nat.mul_le_mul_right
def lu:=@List.take_append_of_le_length
def lC:=@List.getElem?_append_right
def fe:=@List.map_cons
def iX:=@List.take_append_drop
def jE:=@List.drop_eq_getElem_cons
def gV:=@List.map_append
def fK:=@List.all_eq_true
def eP:=@Option.some.inj
def dG:=@List.mem_map
def jo:=@List.mem_of_mem_drop
def kL:=@List.drop_of_length_le
def jF:=@List.getElem?_of_mem
def iJ:=@List.length_cons
def jG:=@Go.World.cell?_of_block
def lD:=@List.getElem?_drop
def lF:=@List.length_replicate
def eu:=@Go.Addr.add_lit
def l7:=@List.getElem?_take
def fo:=@Nat.zero_add
def bO:=@trivial
def oV:=@List.append_nil
def fu:=@Nat.le_succ
def rZ:=@List.eq_nil_of_length_eq_zero
def jQ:=@List.length_set
def iY:=@Nat.min_eq_left
def jX:=@List.append_assoc
def yx:=@Int.natCast_mul
def mE:=@List.getElem?_eq_none
def jq:=@List.take_length
def mF:=@Int.natCast_add
def jY:=@List.length_drop
def qX:=@List.getElem?_set_self
def mG:=@List.not_mem_nil
def mH:=@List.take_succ_cons
def sj:=@List.getElem?_replicate
def jR:=@List.sum_cons
def jr:=@List.take_zero
def kM:=@List.take_take
def Bl:=@Nat.succ_mul
def lG:=@List.map_nil
def jZ:=@Prod.mk.injEq
def su:=@List.eq_of_mem_replicate
def oZ:=@List.map_congr_left
def eD:=@congrArg
def pg:=@List.nodup_cons
def pE:=@List.ext_getElem?
def yz:=@List.pairwise_iff_getElem
def qw:=@List.drop_succ_cons
def qx:=@Array.length_toList
def nA:=@Nat.add_zero
def nQ:=@List.getElem?_set
def yA:=@List.set_append_right
def l8:=@decide_eq_true
def qy:=@List.pairwise_cons
def uo:=@List.replicate_succ
def jg:=@Int.le_refl
def l9:=@Nat.sub_self
def nC:=@decide_eq_false
def vM:=@List.range_succ
def uw:=@Int.mul_assoc
def lH:=@Nat.le_of_eq
def CW:=@Array.getElem?_modify
def yB:=@not_false_eq_true
def sG:=@List.flatMap_cons
def uA:=@List.getElem_mem
def sH:=@Int.mul_comm
def pF:=@List.drop_zero
def qz:=@List.take_left'
def yC:=@List.set_cons_zero
def Hd:=@List.mem_or_eq_of_mem_set
def Bn:=@List.getElem?_append_left
def j4:=@Go.run_slice_l
def EX:=@Nat.mul_le_mul_left
def vN:=@List.nodup_nil
def xc:=@List.getElem?_range
def vO:=@List.take_add_one
def He:=@Array.getElem?_setIfInBounds_self_of_lt
def Bo:=@List.nil_append
def yD:=@List.foldl_cons
def Bp:=@List.getElem?_set_ne
def vP:=@Int.mul_nonneg
def nD:=@Prod.mk.inj
def nR:=@Nat.mul_one
def Bq:=@List.flatMap_append
def K5:=@Int.mul_le_mul_of_nonneg_right
def xe:=@Go.heap_alloc_new
def zP:=@List.size_toArray
def zQ:=@List.mem_append_left
def EY:=@Int.mul_le_mul_of_nonneg_left
def yE:=@Int.ediv_nonneg
def CX:=@List.mem_flatMap
def vQ:=@Go.run_underlying
def Br:=@List.mem_append_right
def CY:=@List.getElem?_cons_succ
def Pn:=@List.setIfInBounds_toArray
def Bt:=@List.pairwise_append
def yF:=@List.mem_range
def pI:=@or_false
def yG:=@Nat.zero_mul
def yH:=@Nat.not_lt_zero
def CZ:=@Go.RowKit.Below.heap_alloc
def K6:=@Int.emod_lt_of_pos
def K9:=@List.map_toArray
def EZ:=@List.filter_cons_of_neg
def xh:=@Int.add_mul
def qY:=@Go.wpStill_nil
def C8:=@Nat.add_assoc
def Bu:=@of_decide_eq_true
def lI:=@Ne.symm
def sM:=@Nat.not_lt
def zR:=@Nat.le_of_lt
def Lb:=@List.take_succ_eq_append_getElem
def Bv:=@List.nodup_append
def C9:=@List.foldl_append
def Lc:=@List.exists_cons_of_ne_nil
def yI:=@Int.mul_le_mul
def Hf:=@Array.toList_setIfInBounds
def Ld:=@Go.Result.andThen_ok
def E5:=@List.sum_append
def E8:=@List.length_nil
def vR:=@Go.rounds_succ
def zS:=@Nat.min_self
def yJ:=@List.map_take
def Lf:=@Int.emod_nonneg
def Po:=@Nat.two_pow_add_eq_or_of_lt
def Lg:=@List.drop_sublist_drop_left
def Ws:=@Int.ediv_eq_zero_of_lt
def aez:=@Int.add_mul_emod_self_right
def E9:=@Option.getD_some
def Hg:=@Nat.lt_or_gt_of_ne
def Hl:=@List.length_singleton
def Hm:=@List.getElem?_reverse
def Ho:=@List.countP_le_length
def Hq:=@Int.ediv_lt_of_lt_mul
def Fa:=@Go.grownCap_le_maxLen
def Da:=@List.mem_filter
def Db:=@List.drop_left'
def yK:=@and_true
def Bw:=@List.map_set
def Fb:=@List.filter_congr
def Fe:=@List.all_eq_false
def Pp:=@Int.zero_add
def Lh:=@List.Sublist.append_left
def Li:=@Go.run_append_own_at
def zT:=@Go.run_makeSlice
def Lj:=@List.take_set_of_le
def Wu:=@Nat.add_sub_cancel_left
def Ll:=@List.filter_cons_of_pos
def Ff:=@List.drop_length
def Fg:=@List.any_eq_true
def Dc:=@Go.wp_loop_rounds
def De:=@Nat.one_mul
def Hr:=@Nat.add_mul
def BB:=@Go.IntWalk.i64_in
def Ht:=@Nat.mul_comm
def Fh:=@List.map_map
def Lm:=@Int.le_ediv_iff_mul_le
def aeA:=@Int.add_mul_ediv_right
def zU:=@Go.run_slice_h
def Wv:=@Int.mul_ediv_mul_of_pos_left
def Fj:=@Bool.or_eq_true
def BD:=@Go.run_slice_lh
def Lp:=@Go.Sem.run_pure
def Lr:=@Go.Sem.run_bind
def Df:=@Nat.lt_irrefl
def Dh:=@List.map_drop
def Ls:=@List.eq_replicate_iff
def Hu:=@List.count_append
def Lt:=@Nat.mul_pos
def Ww:=@Nat.mod_two_eq_zero_or_one
def Hw:=@List.drop_take
def Hy:=@Nat.lt_succ_self
def Hz:=@List.take_append
def H5:=@List.getElem_set
def Pq:=@Int.pow_succ
def Lu:=@Go.wpList_append_own_at
def Ps:=@Go.toList_madeCells_one
def Pt:=@List.getElem?_eq_none_iff
def Pv:=@Decidable.byContradiction
def Lv:=@List.countP_eq_zero
def H7:=@Nat.div_le_self
def H8:=@Int.natCast_pow
def H9:=@Bool.eq_iff_iff
def Lx:=@List.filter_append
def Wx:=@BitVec.ofInt_toInt
def Di:=@Array.ext'
def Pw:=@Int.pow_pos
def LA:=@Int.one_mul
def Dj:=@Go.grownCap_ge
def Px:=@Go.World.block_lt_of_cell?
def Fp:=@Nat.succ_pos
def Py:=@Nat.lt_trichotomy
def LB:=@Go.MapKept.run_getObj_map
def Pz:=@List.contains_iff_mem
def Wy:=@Int.mul_ediv_add_emod
def LC:=@Go.DataW.weights_mem_each
def LD:=@List.ext_getElem
def Wz:=@List.cons_append
def aeB:=@Nat.mul_assoc
def Ia:=@Bool.or_false
def PD:=@List.count_singleton
def PE:=@Go.ChangeMaps.heap_setBlock_other
def LF:=@List.all_append
def LG:=@Go.MapKept.run_checkKey
def LH:=@Go.MapKept.findNow_spec
def PG:=@List.length_zipWith
def WA:=@List.length_pos_iff
def PH:=@Go.ChangeMaps.heap_setBlock_same
def WB:=@BitVec.msb_eq_toInt
def PI:=@Array.toList_append
def PK:=@Go.run_firstCells_some
def PL:=@Nat.eq_zero_or_pos
def LJ:=@Go.MapKept.run_findKey
def WC:=@List.set_cons_succ
def LK:=@List.count_nil
def PM:=@List.countP_append
def aeC:=@Int.cast_ofNat_Int
def WE:=@BitVec.msb_xor
def WG:=@List.getLastD_eq_getLast?
def aeD:=@List.getElem?_zip_eq_some
def PN:=@Int.mul_add
def PO:=@Bool.not_eq_true'
def PQ:=@Bool.eq_false_iff
def WH:=@List.length_erase_of_mem
def PR:=@List.drop_set
def WI:=@List.all_cons
def PS:=@Bool.true_and
def WJ:=@Go.World.cells?_some
def aeE:=@Nat.min_eq_right
def WK:=@List.countP_cons_of_pos
def PU:=@Int.natCast_ediv
def LM:=@if_true
def Ib:=@bne_iff_ne
def LP:=@Nat.sub_zero
def LW:=@Nat.add_comm
def WM:=@List.length_pos_of_mem
def aeF:=@Int.zero_mul
def LX:=@Int.add_zero
def WN:=@Int.add_comm
def PX:=@Option.map_some
def PY:=@Go.MapKept.run_setObj_map
def aeG:=@Nat.mul_le_mul
def WO:=@Int.sub_mul
def WQ:=@Int.pow_add
def Ic:=@and_assoc
def PZ:=@Go.growslice_fits
def P5:=@Go.World.cell?_alloc_at
def LY:=@Go.run_slice_lhm
def WR:=@Nat.ne_of_lt
def P6:=@Int.le_trans
def P7:=@Int.emod_def
def P8:=@Decidable.em
def P9:=@Bool.true_or
def Qa:=@Go.run_storeCells_at
def Qb:=@Go.World.ownsRow_nil
def Qc:=@Go.DataW.trod_struct
def aeH:=@Go.World.size_alloc
def WS:=@Go.bits_or_u64_nat
theorem ae{p:Prop}(h:p):Hid p:=h
theorem lh{α:Type}(t:α):∃y,t=y:=⟨_,rfl⟩
theorem lg{α:Type}(t:α):∃y,y=t:=⟨_,rfl⟩
theorem jS{α:Type}(t:α):∃y,Hid (t=y):=⟨_,rfl⟩
theorem lgH{α:Type}(t:α):∃y,Hid (y=t):=⟨_,rfl⟩
theorem om{p:Prop}(h:p:=by omega):p:=h
theorem aj{p:Prop}(h:p:=by kernel_rfl):p:=h
theorem ah{p:Prop}(h:p:=by decide):p:=h
theorem au{p:Prop}(h:p:=by simp):p:=h
theorem bD{p:Prop}(h:p:=by simp;omega):p:=h
def iin:=@inferInstance.{0}
instance:Coe Int Value:=⟨Value.int .i64⟩
instance:Coe Nat Value:=⟨fun n=>Value.int .i64 (n:Int)⟩
instance:Coe Nat (Option Addr):=⟨fun g=>some ⟨g,0,none⟩⟩
end
section
open Go.ChangeShapes Go.WideShapes Go.ChangeAt Go.RowKit
def IntsIn(W:World)(A:Option Addr)(c:Nat)(zs:List Int):Prop:=Rd W A zs/\zs.length<=c/\c<=maxLen/\∀z∈zs,(Lit.int .i64 z).wf=true
theorem IntsIn.rd{W:World}{A:Option Addr}{c:Nat}{zs:List Int}(h:IntsIn W A c zs):Rd W A zs:=h.1
section
variable{H:Type}{enc:TypeId×Value->H}{P:Program}{W:World}{base:Nat}{held:Bool}
theorem Qd{T E:TypeId}{B:Nat}{v:Value}{x:DataW H×List MemPlace}(M:P.underlying T=some (.slice E))(hE:P.underlying E=some (.int .i64))(N:P.cellsOf E=1)
  (h:DataW.trod enc P W base (fun _=>true) held B T [v]=some x):∃A c zs,v=.slice A zs.length c/\IntsIn W A c zs:=by
 rcases open_ints M hE N h with⟨m,_⟩|⟨a,l,c,zs,m,_,O,hm,L,_,r,D⟩
 ·injection m with m;subst m
  exact⟨none,0,[],rfl,Rd.nil _ _,az _,aS _,au⟩
 ·injection m with m;subst m
  simp only[LM]at L;refine⟨some a,c,zs.take l,by simp[L,iY O],fun j z C=>?_,by simp;omega,hm,fun z F=>D z (gU F)⟩;have G:j<zs.length:=by
   have:=(aY.1 C).1;simp at this;omega
  have I:zs.getD j 0=z:=by
   have Q:zs[j]?=some z:=by
    rw[l7]at C
    split at C
    ·exact C
    ·cases C
   simp[List.getD,Q]
  have u:=r j G;rw[I]at u;obtain⟨b,off,sp⟩:=a;have J:sp=none:=by
   cases sp with
   |none=>rfl
   |some s=>
    exfalso;have K:=r 0 om;simp[Addr.add,World.cell?]at K
    split at K<;>simp at K
  subst J;have y:W.cell? ⟨b,off+j,none⟩=some (.int .i64 z):=by
   unfold Addr.add at u
   split at u
   ·rename_i e;subst e;exact u
   ·exact u
  exact⟨b,off,rfl,Px W _ y,y⟩
theorem WT{T:TypeId}{b:Nat}{v:Value}{x:DataW H×List MemPlace}(j:P.underlying T=some (.int .i64))
  (h:DataW.trod enc P W base (fun _=>true) held b T [v]=some x):∃n,v=.int .i64 n/\(Lit.int .i64 n).wf=true:=by
 obtain⟨n,e,_,l⟩:=DataW.trod_int j h;simp at e;subst e;exact⟨n,rfl,l⟩
theorem WU{T:TypeId}{j:Array Field}{e:Nat}{cs:List Value}{x:DataW H×List MemPlace}{b:Nat->Bool}(m:P.underlying T=some (.struct j))(h:DataW.trod enc P W base b held e T cs=some x)
  (i:Nat) (f:Field) (l:j[i]?=some f):∃n y,DataW.trod enc P W base b held n f.type ((cs.drop f.offset).take (P.cellsOf f.type))=some y:=by
 obtain⟨xs,n,_,_,_,r,hg⟩:=Qc m h;have hi:i<xs.length:=by rw[r];exact(nz.1 l).1
 exact⟨n,xs[i],(hg i f l).trans (aW hi)⟩
theorem aeI{u:World}(z:laidOutB P=true){ts:List TypeId}{vs:List Value}{j:List (DataW H)}{ps:List MemPlace}(e:∀t∈ts,P.readableRec t=true/\t<P.types.size)
  (h:DataW.TrodAll enc P W 0 (fun _=>true) true ts vs j ps) (hb:Below W.heap.size W u):DataW.TrodAll enc P u 0 (fun b=>decide (b<W.heap.size)) true ts vs j ps:=by
 induction ts generalizing vs j ps with
 |nil=>
  obtain⟨rfl,rfl,rfl⟩:=trodAll_nil h;exact trodAll_mk0
 |cons t ts B=>
  obtain⟨v,C,d,D,p,q,rfl,rfl,rfl,y,r0⟩:=trodAll_cons h;have l:∀x∈p,x.block<W.heap.size:=by obtain⟨m,hm⟩:=y;exact DataW.trod_lt m _ _ _ hm
  exact trodAll_cons_mk (Below.trod z (e t dN).1 (e t dN).2 y hb l) (B (fun E r=>e E (fI _ r)) r0)
end
theorem aeJ{cs:Array Value}(h:cs.size=6):∃c0 c1 c2 c3 c4 b,cs= #[c0,c1,c2,c3,c4,b]:=by
 obtain⟨l⟩:=cs
 match l,h with
 |[c0,c1,c2,c3,c4,b],_=>exact⟨_,_,_,_,_,_,rfl⟩
theorem WV{n:Int}(h:(Lit.int .i64 n).wf=true): -9223372036854775808<=n/\n<=9223372036854775807:=bounds_i64 h
theorem aeK:ownKnob Tryz.prog.godebug=none:=aj
theorem aeL:laidOutB Tryz.prog=true:=aj
def aeM(W:World)(e:Ending)(b:World):Prop:=e=.returned (.bool true)/\Below W.heap.size W b
end
def aG(w:World)(B:Nat)(E:TypeId)(A:Option Addr)(c:Nat)(zs:List Int):Prop:=w.ownsRow B E 1 (.slice A zs.length c) zs.length (zs.map (Value.int .i64))
section
variable{w w':World}{B:Nat}{E:TypeId}{A:Option Addr}{c:Nat}{zs:List Int}
theorem aG.nil(w:World)(B:Nat)(E:TypeId):aG w B E none 0 []:=Qb w B E 1
theorem aG.form(h:aG w B E A c zs):(A=none/\zs=[]/\c=0)\/∃g cur,A=some ⟨g,0,none⟩/\B<=g/\w.heap[g]?=some (.cells cur E (0,0))/\zs.length<=c/\c<=maxLen/\cur.size=c/\cur.toList.take zs.length=zs.map (Value.int .i64):=by
 rcases h.2 with⟨hv,j⟩|⟨g,cap,cur,hv,l,hg,m,hm,r,ht⟩
 ·injection hv with b u e
  exact .inl ⟨b,rZ j,e⟩
 ·injection hv with b u e
  subst e;exact .inr ⟨g,cur,b,l,hg,m,hm,by simpa using r,by simpa using ht⟩
theorem aG.rd(h:aG w B E A c zs):Rd w A zs:=by
 rcases h.form with⟨_,rfl,_⟩|⟨g,cur,rfl,r,hg,u,hm,y,ht⟩
 ·exact Rd.nil _ _
 ·intro j z l;refine⟨g,0,rfl,(nz.1 hg).1,?_⟩;have b:j<zs.length:=(aY.1 l).1;have e:cur[j]?=some (.int .i64 z):=by
   have m:(cur.toList.take zs.length)[j]?=some (.int .i64 z):=by rw[ht,dE,l];rfl
   rw[l7,if_pos b]at m;simpa using m
  simp[World.cell?,hg,e]
theorem aG.fresh(h:aG w B E A c zs):∀ad,A=some ad->B<=ad.block:=by
 rcases h.form with⟨rfl,_,_⟩|⟨g,cur,rfl,b,_⟩
 ·intro ad h;cases h
 ·intro ad h;injection h with h;subst h;exact b
theorem aG.lt(h:aG w B E A c zs):∀ad,A=some ad->ad.block<w.heap.size:=by
 rcases h.form with⟨rfl,_,_⟩|⟨g,cur,rfl,b,hg,_⟩
 ·intro ad h;cases h
 ·intro ad h;injection h with h;subst h;exact(nz.1 hg).1
theorem aG.uB(h:aG w B E A c zs):zs.length<=c:=by
 rcases h.form with⟨_,rfl,rfl⟩|⟨_,_,_,_,_,b,_⟩
 ·exact az _
 ·exact b
theorem aG.same(h:aG w B E A c zs)(e:∀ad,A=some ad->w'.heap[ad.block]?=w.heap[ad.block]?):aG w' B E A c zs:=by
 refine⟨h.1,?_⟩;rcases h.2 with j|⟨g,cap,cur,hv,l,hg,rest⟩
 ·exact .inl j
 ·injection hv with b r m
  exact .inr ⟨g,cap,cur,by rw[b,m],l,by rw[<-hg];exact e _ b,rest⟩
theorem aG.keep(h:aG w B E A c zs)(hb:Below w.heap.size w w'):aG w' B E A c zs:=h.same fun ad e=>hb.block _ (h.lt ad e)
theorem aG.alloc(h:aG w B E A c zs)(o:Obj):aG (w.alloc o) B E A c zs:=h.same fun ad e=>CZ w o _ (h.lt ad e)
theorem aG.more{B':Nat}(h:aG w B E A c zs)(e:B'<=B):aG w B' E A c zs:=by
 refine⟨h.1,?_⟩;rcases h.2 with b|⟨g,cap,cur,hv,hb,r⟩
 ·exact .inl b
 ·exact .inr ⟨g,cap,cur,hv,om,r⟩
end
theorem Ie{P:Program}{w:World}{C:Array Oper}{rest:List Oper}{o:Oper}{a:Act}{Q:Exit->Act->World->Prop}(I:o.guard=none)(s x:Operand)(t:TypeId)
  (O:o.op=.call {callee:=.builtin .append,args:= #[s,x],argTypes:= #[t,t]}) (E:TypeId) (ht:P.underlying t=some (.slice E))
  (l:(P.info? E).map (fun i=>(i.zero,i.size,i.bytes))=some (some (.int .i64 0),1,8))
  (B:Nat) (A:Option Addr) (c:Nat) (zs:List Int) (hs:a.eval s=.slice A zs.length c) (b:aG w B E A c zs) (y:Int)
  (R:a.eval x=.slice w.heap.size 1 1) (N:zs.length<=1000000000) (S:B<=w.heap.size)
  (h:∀A' c' w',aG w' B E A' c' (zs++[y])->Below B w w'->(∀k,k<w.heap.size->(∀ad,A=some ad->ad.block≠k)->w'.heap[k]?=w.heap[k]?)->w.heap.size<w'.heap.size->
   wpList P C Q rest (a.put o.dst (.slice A' (zs.length+1) c')) w'):
  wpList P C Q (o::rest) a (w.alloc (.cells #[y] E)):=by
 obtain⟨i,hi,D⟩:=bN.1 l;simp only[jZ]at D;obtain⟨J,K,L⟩:=D;have m:=b.alloc (.cells #[y] E);refine Lu (w.alloc (.cells #[y] E)) I s x t O B E i (.int .i64 0) 1 8 ht hi J K L rfl ah _ _ _ hs m ⟨w.heap.size,0,none⟩ 1 1 [.int .i64 y] R rfl
  (fun j u hu=>?_) (by simp[Value.oneCell']) (by unfold maxLen;omega) om bD ?_
 ·have T:j=0:=by
   cases j with
   |zero=>rfl
   |succ j=>simp at hu
  subst T;simp at hu;subst hu;simp[Addr.add,P5]
 ·intro v' w' r hg _ _;have U:(zs++[y]).length=zs.length+1:=au;rcases r.2 with⟨hv,hn⟩|⟨g,cap,cur,hv,V,X,Y,Z,hcs,htk⟩
  ·omega
  ·have F:v'=.slice g (zs.length+1) cap:=hv;rw[F];rw[F]at r;refine h _ _ _ ?_ ?_ ?_ ?_
   ·unfold aG;rw[U,gV];exact r
   ·refine((bq B w).alloc S _).grown hg bD ?_;intro k G;have:Value.ownBlock (.slice A zs.length c)=A.map (·.block):=by cases A<;>rfl
    rw[this]at G;obtain⟨ad,z,rfl⟩:=bN.1 G;exact b.fresh ad z
   ·intro k G M;rw[hg.block k bD ?_,CZ _ _ _ G];have:Value.ownBlock (.slice A zs.length c)=A.map (·.block):=by cases A<;>rfl
    rw[this];intro e;obtain⟨ad,z,rfl⟩:=bN.1 e.symm;exact M ad z rfl
   ·have:=hg.size;simp at this;omega
structure Aside(g:Nat)(W wr:World):Prop where
 size:W.heap.size<=wr.heap.size
 same:∀k,k<W.heap.size->k≠g->wr.heap[k]?=W.heap[k]?
section
variable{g:Nat}{W wr:World}
theorem Aside.refl(g:Nat)(W:World):Aside g W W:=⟨az _,fun _ _ _=>rfl⟩
theorem Aside.aF(h:Aside g W wr)(i:Nat)(v:Value):Aside g W (wr.setCell ⟨g,i,none⟩ v):=
 ⟨by have:=h.size;simp;omega,fun k b hg=>(dM wr ⟨g,i,none⟩ v k hg).trans (h.same k b hg)⟩
theorem Aside.drew(h:Aside g W wr):Aside g W wr.drew:=⟨h.size,h.same⟩
theorem Aside.below{w':World}(h:Aside g W wr)(hb:Below wr.heap.size wr w'):Aside g W w':=
 ⟨aZ h.size hb.size,fun k b hg=>(hb.block k (bV b h.size)).trans (h.same k b hg)⟩
theorem Aside.blk{k:Nat}{T:TypeId}{cs:Array Value}(h:Aside g W wr)(hb:aD W k T cs)(b:k≠g):aD wr k T cs:=(h.same k hb.lt b).trans hb
theorem Aside.own{k:Nat}{T:TypeId}{zs:List Int}(h:Aside g W wr)(hb:Own W k T zs)(b:k≠g):Own wr k T zs:=(h.same k hb.lt b).trans hb
theorem Aside.rd{A:Option Addr}{zs:List Int}(h:Aside g W wr)(m:Rd W A zs)(l:∀ad,A=some ad->ad.block≠g):Rd wr A zs:=by
 intro j z r;obtain⟨b,off,e,hb,u⟩:=m j z r;refine⟨b,off,e,bV hb h.size,?_⟩;rw[<-u];exact jG (h.same b hb (l _ e))
end
theorem Rd.old{w:World}{A:Option Addr}{zs:List Int}(h:Rd w A zs)(l:zs≠[]):∀ad,A=some ad->ad.block<w.heap.size:=by
 intro ad e;obtain⟨z,t,rfl⟩:=Lc l;obtain⟨b,off,j,hb,_⟩:=h 0 z rfl;rw[e]at j;injection j with j;subst j;exact hb
theorem Aside.qA{g:Nat}{w W wr:World}{A:Option Addr}{zs:List Int}(h:Aside g W wr)(j:Rd w A zs)(l:Rd W A zs)(hg:w.heap.size<=g):Rd wr A zs:=by
 by_cases b:zs=[]
 ·subst b;exact Rd.nil _ _
 ·exact h.rd l fun ad e=>by have:=j.old b ad e;omega
class ak(w':World)(w:outParam World):Prop where
 st:Below w.heap.size w w'
class Later(w w':World):Prop where
 st:Below w.heap.size w w'
instance(priority:=high) Later.same(w:World):Later w w:=⟨bq _ _⟩
instance Later.step{w x w':World}[p:ak w' x][l:Later w x]:Later w w':=⟨dS l.st p.st⟩
instance ak.alloc(w:World)(o:Obj):ak (w.alloc o) w:=⟨(bq _ _).alloc (az _) _⟩
instance ak.drew(w:World):ak w.drew w:=⟨(bq _ _).drew⟩
instance ak.drewN(w:World)(n:Nat):ak (w.drewN n) w:=⟨below_drewN (bq _ _) n⟩
section
variable{w w':World}
theorem Rd.at{A:Option Addr}{zs:List Int}(h:Rd w A zs)[l:Later w w']:Rd w' A zs:=h.below l.st
theorem aD.at{g:Nat}{T:TypeId}{cs:Array Value}(h:aD w g T cs)[l:Later w w']:aD w' g T cs:=h.keep l.st
theorem Own.at{g:Nat}{T:TypeId}{zs:List Int}(h:Own w g T zs)[l:Later w w']:Own w' g T zs:=h.keep l.st
theorem aG.at{B c:Nat}{T:TypeId}{A:Option Addr}{zs:List Int}(h:aG w B T A c zs)[l:Later w w']:aG w' B T A c zs:=h.keep l.st
theorem aH[l:Later w w']:w.heap.size<=w'.heap.size:=l.st.size
end
theorem Aside.trans{g:Nat}{W a b:World}(h:Aside g W a)(k:Aside g a b):Aside g W b:=
 ⟨aZ h.size k.size,fun j e hg=>(k.same j (bV e h.size) hg).trans (h.same j e hg)⟩
theorem aL(w w':World)[l:Later w w']:Below w.heap.size w w':=l.st
section
variable{P:Program}{ops:Array Oper}{Q:Exit->Act->World->Prop}{md:Region.Mode}{S:World->Prop}
theorem lK{i d:Nat}{e:Oper}{v:Value}{b:Nat}{listed:Array Bool}{l:List Value}{j:List Deferred}{w:World}(hi:ops[i]?=some e)(hd:e.dst=some d)
  (hs:Region.noSelect ops=true) (m:Region.free md ops listed i=true) (hr:(Region.ready md ops listed).contains i=true)
  (r:∀c a w,Q (.panic c) (a.put e.dst v) w->Q (.panic c) a w) (y:Region.wanted e (yielded ops l.toArray)=true) (hS:S w)
  (z:∀u,S u->(execOp (Act.eval ⟨l.toArray,j⟩) e).run P u=.ok (.value v) u)
  (h:wpAnyH P md ops Q S b (listed.setIfInBounds i true) ⟨(l.set d v).toArray,j⟩ w):wpAnyH P md ops Q S (b+1) listed ⟨l.toArray,j⟩ w:=by
 refine wpAnyH_take hi hs m hr r (.inl ⟨y,z⟩) hS ?_;rw[hd];simpa[Act.put]using h
theorem WX{i d:Nat}{e:Oper}{b:Nat}{listed:Array Bool}{l:List Value}{j:List Deferred}{w:World}(hi:ops[i]?=some e)(hd:e.dst=some d)
  (hs:Region.noSelect ops=true) (m:Region.free md ops listed i=true) (hr:(Region.ready md ops listed).contains i=true)
  (r:∀c a w,Q (.panic c) (a.put e.dst undef) w->Q (.panic c) a w) (u:Region.wanted e (yielded ops l.toArray)=false) (hS:S w)
  (h:wpAnyH P md ops Q S b (listed.setIfInBounds i true) ⟨(l.set d undef).toArray,j⟩ w):wpAnyH P md ops Q S (b+1) listed ⟨l.toArray,j⟩ w:=by
 refine wpAnyH_take hi hs m hr r (.inr ⟨u,rfl⟩) hS ?_;rw[hd];simpa[Act.put]using h
end
section
variable{P:Program}{ops:Array Oper}{Q:Exit->Act->World->Prop}{md:Region.Mode}{X w:World}
theorem ag(i d:Nat){e:Oper}{v:Value}{b:Nat}{listed:Array Bool}{l m:List Value}{j:List Deferred}[Later X w]
  (h:wpAnyH P md ops Q (fun w'=>ak w' X) b (listed.setIfInBounds i true) ⟨m.toArray,j⟩ w)
  (hi:ops[i]?=some e:=by rfl) (hd:e.dst=some d:=by rfl)
  (hs:Region.noSelect ops=true:=by kernel_rfl) (r:Region.free md ops listed i=true:=by kernel_rfl) (hr:(Region.ready md ops listed).contains i=true:=by kernel_rfl)
  (y:∀c a w,Q (.panic c) (a.put e.dst v) w->Q (.panic c) a w:=by exact fun _ _ _ h=>h) (z:Region.wanted e (yielded ops l.toArray)=true:=by kernel_rfl)
  (B:∀u,ak u X->(execOp (Act.eval ⟨l.toArray,j⟩) e).run P u=.ok (.value v) u:=by intro u _;go_simp;try(with_reducible rfl))
  (C:l.set d v=m:=by try simp only[List.set];try rfl)
  :wpAnyH P md ops Q (fun w'=>ak w' X) (b+1) listed ⟨l.toArray,j⟩ w:=by
 subst C;exact lK hi hd hs r hr y z ⟨aL X w⟩ B h
theorem ax(i d:Nat){e:Oper}{b:Nat}{listed:Array Bool}{l j:List Value}{m:List Deferred}[Later X w]
  (h:wpAnyH P md ops Q (fun w'=>ak w' X) b (listed.setIfInBounds i true) ⟨j.toArray,m⟩ w)
  (hi:ops[i]?=some e:=by rfl) (hd:e.dst=some d:=by rfl)
  (hs:Region.noSelect ops=true:=by kernel_rfl) (r:Region.free md ops listed i=true:=by kernel_rfl) (hr:(Region.ready md ops listed).contains i=true:=by kernel_rfl)
  (u:∀c a w,Q (.panic c) (a.put e.dst undef) w->Q (.panic c) a w:=by exact fun _ _ _ h=>h) (y:Region.wanted e (yielded ops l.toArray)=false:=by kernel_rfl)
  (z:l.set d undef=j:=by try simp only[List.set];try rfl)
  :wpAnyH P md ops Q (fun w'=>ak w' X) (b+1) listed ⟨l.toArray,m⟩ w:=by
 subst z;exact WX hi hd hs r hr u y ⟨aL X w⟩ h
end
section
variable{P:Program}{ops:Array Oper}{Q:Exit->Act->World->Prop}{md:Region.Mode}{S:World->Prop}{w:World}
theorem oA(i d:Nat){oi:Oper}{v:Value}{fuel:Nat}{listed:Array Bool}{l l':List Value}{df:List Deferred}
  (h:wpAnyH P md ops Q S fuel (listed.setIfInBounds i true) ⟨l'.toArray,df⟩ w)
  (hi:ops[i]?=some oi:=by rfl) (hd:oi.dst=some d:=by rfl)
  (hs:Region.noSelect ops=true:=by kernel_rfl) (hf:Region.free md ops listed i=true:=by kernel_rfl) (hr:(Region.ready md ops listed).contains i=true:=by kernel_rfl)
  (hQ:∀c a w,Q (.panic c) (a.put oi.dst v) w->Q (.panic c) a w:=by exact fun _ _ _ h=>h) (hw:Region.wanted oi (yielded ops l.toArray)=true:=by kernel_rfl)
  (hS:S w:=by assumption) (hy:∀u,S u->(execOp (Act.eval ⟨l.toArray,df⟩) oi).run P u=.ok (.value v) u:=by intro w hSw;(try dsimp only at hSw);go_simp;try(with_reducible rfl))
  (hl:l.set d v=l':=by try simp only[List.set];try rfl):wpAnyH P md ops Q S (fuel+1) listed ⟨l.toArray,df⟩ w:=by
 subst hl;exact lK hi hd hs hf hr hQ hw hS hy h
theorem fA(i d:Nat){oi:Oper}{fuel:Nat}{listed:Array Bool}{l l':List Value}{df:List Deferred}
  (h:wpAnyH P md ops Q S fuel (listed.setIfInBounds i true) ⟨l'.toArray,df⟩ w)
  (hi:ops[i]?=some oi:=by rfl) (hd:oi.dst=some d:=by rfl)
  (hs:Region.noSelect ops=true:=by kernel_rfl) (hf:Region.free md ops listed i=true:=by kernel_rfl) (hr:(Region.ready md ops listed).contains i=true:=by kernel_rfl)
  (hQ:∀c a w,Q (.panic c) (a.put oi.dst undef) w->Q (.panic c) a w:=by exact fun _ _ _ h=>h) (hw:Region.wanted oi (yielded ops l.toArray)=false:=by kernel_rfl)
  (hS:S w:=by first|assumption|exact⟨ai _ _,inferInstance⟩|exact⟨ai _ _,inferInstance,inferInstance⟩|exact⟨ai _ _,inferInstance,inferInstance,inferInstance⟩)
  (hl:l.set d undef=l':=by try simp only[List.set];try rfl):wpAnyH P md ops Q S (fuel+1) listed ⟨l.toArray,df⟩ w:=by
 subst hl;exact WX hi hd hs hf hr hQ hw hS h
theorem bA(i d:Nat){oi:Oper}{v:Value}{fuel:Nat}{listed:Array Bool}{l l':List Value}{df:List Deferred}
  (h:wpAnyH P md ops Q S fuel (listed.setIfInBounds i true) ⟨l'.toArray,df⟩ w)
  (hi:ops[i]?=some oi:=by rfl) (hd:oi.dst=some d:=by rfl)
  (hs:Region.noSelect ops=true:=by kernel_rfl) (hf:Region.free md ops listed i=true:=by kernel_rfl) (hr:(Region.ready md ops listed).contains i=true:=by kernel_rfl)
  (hQ:∀c a w,Q (.panic c) (a.put oi.dst v) w->Q (.panic c) a w:=by exact fun _ _ _ h=>h) (hw:Region.wanted oi (yielded ops l.toArray)=true:=by kernel_rfl)
  (hS:S w:=by exact⟨ai _ _,inferInstance⟩) (hy:∀u,S u->(execOp (Act.eval ⟨l.toArray,df⟩) oi).run P u=.ok (.value v) u:=by rintro uu ⟨pu,r1⟩;go_simp;try(with_reducible rfl))
  (hl:l.set d v=l':=by try simp only[List.set];try rfl):wpAnyH P md ops Q S (fuel+1) listed ⟨l.toArray,df⟩ w:=
 oA i d h hi hd hs hf hr hQ hw hS hy hl
theorem bu(i d:Nat){oi:Oper}{v:Value}{fuel:Nat}{listed:Array Bool}{l l':List Value}{df:List Deferred}
  (h:wpAnyH P md ops Q S fuel (listed.setIfInBounds i true) ⟨l'.toArray,df⟩ w)
  (hi:ops[i]?=some oi:=by rfl) (hd:oi.dst=some d:=by rfl)
  (hs:Region.noSelect ops=true:=by kernel_rfl) (hf:Region.free md ops listed i=true:=by kernel_rfl) (hr:(Region.ready md ops listed).contains i=true:=by kernel_rfl)
  (hQ:∀c a w,Q (.panic c) (a.put oi.dst v) w->Q (.panic c) a w:=by exact fun _ _ _ h=>h) (hw:Region.wanted oi (yielded ops l.toArray)=true:=by kernel_rfl)
  (hS:S w:=by exact⟨ai _ _,inferInstance,inferInstance⟩) (hy:∀u,S u->(execOp (Act.eval ⟨l.toArray,df⟩) oi).run P u=.ok (.value v) u:=by rintro uu ⟨pu,r1,r2⟩;go_simp;try(with_reducible rfl))
  (hl:l.set d v=l':=by try simp only[List.set];try rfl):wpAnyH P md ops Q S (fuel+1) listed ⟨l.toArray,df⟩ w:=
 oA i d h hi hd hs hf hr hQ hw hS hy hl
theorem bT(i d:Nat){oi:Oper}{v:Value}{fuel:Nat}{listed:Array Bool}{l l':List Value}{df:List Deferred}
  (h:wpAnyH P md ops Q S fuel (listed.setIfInBounds i true) ⟨l'.toArray,df⟩ w)
  (hi:ops[i]?=some oi:=by rfl) (hd:oi.dst=some d:=by rfl)
  (hs:Region.noSelect ops=true:=by kernel_rfl) (hf:Region.free md ops listed i=true:=by kernel_rfl) (hr:(Region.ready md ops listed).contains i=true:=by kernel_rfl)
  (hQ:∀c a w,Q (.panic c) (a.put oi.dst v) w->Q (.panic c) a w:=by exact fun _ _ _ h=>h) (hw:Region.wanted oi (yielded ops l.toArray)=true:=by kernel_rfl)
  (hS:S w:=by exact⟨ai _ _,inferInstance,inferInstance,inferInstance⟩) (hy:∀u,S u->(execOp (Act.eval ⟨l.toArray,df⟩) oi).run P u=.ok (.value v) u:=by rintro uu ⟨pu,r1,r2,r3⟩;go_simp;try(with_reducible rfl))
  (hl:l.set d v=l':=by try simp only[List.set];try rfl):wpAnyH P md ops Q S (fuel+1) listed ⟨l.toArray,df⟩ w:=
 oA i d h hi hd hs hf hr hQ hw hS hy hl
variable{fuel:Nat}{listed:Array Bool}{a a':Act}{o o' o'':Oper}
theorem ay(i:Nat)
  (h:∀K':Act->World->Prop,Shut (∀a w,S w->(S w->wpAnyH P md ops Q S fuel (listed.setIfInBounds i true) a w)->K' a w)->if Region.wanted o (yielded ops a.tmps)=true then Oper.wp P o a w K' Q else K' (a.put o.dst undef) w)
  (hr:Region.ready md ops listed=[i]:=by kernel_rfl) (ho:ops[i]?=some o:=by rfl):wpAnyH P md ops Q S (fuel+1) listed a w:=
 wpAnyH_ready hr (by simp) (AllReadyH.cons ho h AllReadyH.nil)
theorem il(i j:Nat)
  (h:∀K':Act->World->Prop,Shut (∀a w,S w->(S w->wpAnyH P md ops Q S fuel (listed.setIfInBounds i true) a w)->K' a w)->if Region.wanted o (yielded ops a.tmps)=true then Oper.wp P o a w K' Q else K' (a.put o.dst undef) w)
  (h':∀K':Act->World->Prop,Shut (∀a w,S w->(S w->wpAnyH P md ops Q S fuel (listed.setIfInBounds j true) a w)->K' a w)->if Region.wanted o' (yielded ops a.tmps)=true then Oper.wp P o' a w K' Q else K' (a.put o'.dst undef) w)
  (hr:Region.ready md ops listed=[i,j]:=by kernel_rfl) (ho:ops[i]?=some o:=by rfl) (ho':ops[j]?=some o':=by rfl):wpAnyH P md ops Q S (fuel+1) listed a w:=
 wpAnyH_ready hr (by simp) (AllReadyH.cons ho h (AllReadyH.cons ho' h' AllReadyH.nil))
theorem aO{a:Act}(h:Q .normal a w)(hr:Region.ready md ops listed=[]:=by kernel_rfl):wpAnyH P md ops Q S fuel listed a w:=wpAnyH_done hr h _
theorem av{K':Act->World->Prop}(hK:Shut (∀a w,S w->(S w->wpAnyH P md ops Q S fuel listed a w)->K' a w))(h:wpAnyH P md ops Q S fuel listed a' w)(hS:S w:=by exact ai _ _)
  (ha:a=a':=by(try dsimp only[Act.put,List.setIfInBounds_toArray,List.set_cons_zero,List.set_cons_succ]);try rfl):K' a w:=by
 subst ha;exact hK.out _ _ hS fun _=>h
theorem vS{K':Act->World->Prop}(hK:Shut (∀a w,S w->(S w->wpAnyH P md ops Q S fuel listed a w)->K' a w))(h:S w->wpAnyH P md ops Q S fuel listed a' w)(hS:S w:=by exact ai _ _)
  (ha:a=a':=by(try dsimp only[Act.put,List.setIfInBounds_toArray,List.set_cons_zero,List.set_cons_succ]);try rfl):K' a w:=by
 subst ha;exact hK.out _ _ hS h
end
structure Off(bs:List Nat)(W wr:World):Prop where
 size:W.heap.size<=wr.heap.size
 same:∀k,k<W.heap.size->k∉bs->wr.heap[k]?=W.heap[k]?
section
variable{bs:List Nat}{W wr:World}
theorem Off.refl(bs:List Nat)(W:World):Off bs W W:=⟨az _,fun _ _ _=>rfl⟩
theorem Off.aF(h:Off bs W wr){g:Nat}(hg:g∈bs)(i:Nat)(v:Value):Off bs W (wr.setCell ⟨g,i,none⟩ v):=
 ⟨by have:=h.size;simp;omega,fun k j b=>(dM wr ⟨g,i,none⟩ v k (fun e=>b (e▸hg))).trans (h.same k j b)⟩
theorem Off.drew(h:Off bs W wr):Off bs W wr.drew:=⟨h.size,h.same⟩
theorem Off.below{w':World}(h:Off bs W wr)(hb:Below wr.heap.size wr w'):Off bs W w':=
 ⟨aZ h.size hb.size,fun k b hg=>(hb.block k (bV b h.size)).trans (h.same k b hg)⟩
theorem Off.blk{k:Nat}{T:TypeId}{cs:Array Value}(h:Off bs W wr)(hb:aD W k T cs)(b:k∉bs):aD wr k T cs:=(h.same k hb.lt b).trans hb
theorem Off.own{k:Nat}{T:TypeId}{zs:List Int}(h:Off bs W wr)(hb:Own W k T zs)(b:k∉bs):Own wr k T zs:=(h.same k hb.lt b).trans hb
theorem Off.rd{A:Option Addr}{zs:List Int}(h:Off bs W wr)(m:Rd W A zs)(l:∀ad,A=some ad->ad.block∉bs):Rd wr A zs:=by
 intro j z r;obtain⟨b,off,e,hb,u⟩:=m j z r;refine⟨b,off,e,bV hb h.size,?_⟩;rw[<-u];exact jG (h.same b hb (l _ e))
theorem Off.qA{w:World}{A:Option Addr}{zs:List Int}(h:Off bs W wr)(j:Rd w A zs)(l:Rd W A zs)(hg:∀g∈bs,w.heap.size<=g):Rd wr A zs:=by
 by_cases b:zs=[]
 ·subst b;exact Rd.nil _ _
 ·exact h.rd l fun ad e hm=>by have:=j.old b ad e;have:=hg _ hm;omega
end
theorem LZ{bs:List Nat}{W:World}{g:Nat}(hg:g∈bs):∀(vs:List Value) (o:Nat) {wr:World},Off bs W wr->Off bs W (wr.setCells g o vs)
 |[],_,_,h=>h
 |v::vs,o,_,h=>LZ hg vs (o+1) (h.aF hg o v)
theorem Fq{n g:Nat}{w:World}(hg:n<=g):∀(vs:List Value) (o:Nat) {wr:World},Below n w wr->Below n w (wr.setCells g o vs)
 |[],_,_,h=>h
 |v::vs,o,_,h=>Fq hg vs (o+1) (h.setCell (p:=⟨g,o,none⟩) hg v)
theorem WY{g:Nat}{T:TypeId}:∀(vs:List Int) (o:Nat) {w:World} {xs:List Int},Own w g T xs->o+vs.length<=xs.length->Own (w.setCells g o (vs.map (Value.int .i64))) g T (xs.take o++vs++xs.drop (o+vs.length))
 |[],o,w,xs,h,_=>by simpa[World.setCells]using h
 |v::vs,o,w,xs,h,b=>by
  have j:=WY vs (o+1) (h.aF o v) (by simp at b⊢;omega);have e:(xs.set o v).take (o+1)++vs++(xs.set o v).drop (o+1+vs.length)=xs.take o++(v::vs)++xs.drop (o+(v::vs).length):=by
   simp at b;rw[PR,if_pos om,Lb bD,Lj (az o)];simp[LW];omega
  rw[e]at j;exact j
theorem Own.clear{w:World}{g:Nat}{T:TypeId}{xs:List Int}(h:Own w g T xs):Own (w.setCells g 0 (List.replicate xs.length (.int .i64 0))) g T (List.replicate xs.length 0):=by
 have:=WY (List.replicate xs.length 0) 0 h au;simpa using this
theorem WZ{P:Program}(t e l:TypeId)(ht:P.underlying t=some (.slice e))(m:(P.info? e).map (·.zero)=some (some (.int .i64 0))){w:World}{g:Nat}{T:TypeId}{xs:List Int}(h:Own w g T xs)(r:0<xs.length)(c:Nat):
  (Builtin.clear_ #[t] l #[.slice g xs.length c]).run P w=.ok (.tuple #[]) (w.setCells g 0 (List.replicate xs.length (.int .i64 0))):=by
 obtain⟨i,hi,b⟩:=bN.1 m;refine Lib.run_clear_slice w t e l (.int .i64 0) ht (fun w=>?_) rfl rfl g 0 xs.length c r (fun j u=>?_) (fun j _=>by rw[fo];exact h.frozen j)
 ·simp[zeroValue,typeInfo,hi,b,go_sem]
 ·rw[fo,h.cell (aW u)];rfl
theorem Ma{P:Program}{j:Region.Mode}{e:Array Oper}{Q:Exit->Act->World->Prop}{S:World->Prop}{b:Nat}{listed:Array Bool}{a:Act}{X:World}{T:TypeId}{cs:Array Value}
  (h:∀u,ak u X->aD u X.heap.size T cs->u.heap.size=X.heap.size+1->wpAnyH P j e Q S b listed a u):wpAnyH P j e Q S b listed a (X.alloc (.cells cs T)):=
 h _ (ak.alloc _ _) (aD.new _ _ _) au
theorem Xa{P:Program}{j:Region.Mode}{e:Array Oper}{Q:Exit->Act->World->Prop}{S:World->Prop}{b:Nat}{listed:Array Bool}{a:Act}{X:World}
  (h:∀u,ak u X->wpAnyH P j e Q S b listed a u):wpAnyH P j e Q S b listed a X.drew:=h _ (ak.drew _)
end Go.Proofs.YtmkjnlifimffkaaGreat
