/- Lemmas. -/
import Derived.Test.YtmkjnlifimffkaaGreatProg
import Derived.WalkKit
import Derived.WalkSpells
import Derived.WalkLawsBesides
import Derived.Deep.QuietTactic
import Derived.BigQuiet
import Derived.Deep.Draws
import Derived.Lib.Hide
import Derived.Laws.CopyOwn
import Derived.Deep.OwnRows
import Derived.ProofKit
import Derived.OpenShut
import Derived.ChangeOld
import Derived.Lib.SmallJoins
import Derived.Deep.Slices
import Derived.Maps.AppendAt
import Derived.OwnWalk
import Derived.Deep.RegionHeld3
import Derived.Lib.SliceRun
import Derived.Deep.Upon
import Derived.Lib.Mul64
import Derived.Laws.Bits64b
import Derived.SizedLaws
import Derived.Recover
import Derived.Defers
namespace Go.Proofs.YtmkjnlifimffkaaGreat
open Go.RowKit Tryz
set_option linter.all false
set_option maxRecDepth 100000
set_option maxHeartbeats 0
variable{Γ:Prop}
def Z(p:Prop):Prop:=p
theorem Z.o{p:Prop}(h:Z p):p:=h
theorem U{p:Prop}(h:p):Z p:=h
def Rd(w:World)(A:Option Addr)(zs:List Int):Prop:=
 ∀j z,zs[j]?=some z->∃b off,A=some ⟨b,off,none⟩/\b<w.heap.size/\w.cell? ⟨b,off+j,none⟩=some (.int .i64 z)
def zAe(h:Γ:=by simp):=h
theorem Rd.nil(w:World)(A:Option Addr):Rd w A []:=fun j _ hj=>absurd hj zAe
theorem Rd.get{w:World}{A:Option Addr}{zs:List Int}(h:Rd w A zs){k:Nat}(hk:k<zs.length):
  ∃b off z,A=some ⟨b,off,none⟩/\b<w.heap.size/\w.cell? ⟨b,off+k,none⟩=some (.int .i64 z)/\Z (zs[k]?=some z):=by
 have e:zs[k]?=some zs[k]:=(by grind);obtain⟨b,off,rfl,hb,hc⟩:=h k _ e;exact⟨b,off,_,rfl,hb,hc,e⟩
theorem Rd.all{w:World}{b off:Nat}{zs:List Int}(h:Rd w (some ⟨b,off,none⟩) zs){k:Nat}{z:Int}(hk:zs[k]?=some z):w.cell? ⟨b,off+k,none⟩=some (.int .i64 z):=by
 obtain⟨b',adY,he,_,hc⟩:=h k z hk;grind
theorem Rd.keep{w w':World}{A:Option Addr}{zs:List Int}(h:Rd w A zs)(hs:w.heap.size<=w'.heap.size)(hk:∀p:Addr,p.block<w.heap.size->w'.cell? p=w.cell? p):Rd w' A zs:=by
 intro j z hj;obtain⟨b,off,e,hb,hc⟩:=h j z hj;grind
theorem Rd.below{w w':World}{A:Option Addr}{zs:List Int}(h:Rd w A zs)(hb:Below w.heap.size w w'):Rd w' A zs:=
 h.keep hb.size fun _ hp=>hb.cell hp
theorem Rd.alloc{w:World}{A:Option Addr}{zs:List Int}(h:Rd w A zs)(o:Obj):Rd (w.alloc o) A zs:=
 h.keep zAe fun p hp=>World.cell?_alloc_lt w o p hp
theorem Rd.drewN{w:World}{A:Option Addr}{zs:List Int}(h:Rd w A zs)(n:Nat):Rd (w.drewN n) A zs:=h
def ints(zs:List Int):Array Value:=(zs.map (Value.int .i64)).toArray
theorem At(zs:List Int):(ints zs).size=zs.length:=by simp[ints]
theorem e4(zs:List Int)(j:Nat):(ints zs)[j]?=zs[j]?.map (Value.int .i64):=by simp[ints]
theorem ints_set(zs:List Int)(k:Nat)(z:Int):(ints zs).setIfInBounds k (.int .i64 z)=ints (zs.set k z):=by
 simp[ints,List.setIfInBounds_toArray,List.map_set]
theorem jh(n:Nat):madeCells #[.int .i64 0] n=ints (List.replicate n 0):=by
 apply Array.ext';rw[toList_madeCells_one];simp[ints]
def Own(w:World)(g:Nat)(T:TypeId)(zs:List Int):Prop:=w.heap[g]?=some (.cells (ints zs) T (0,0))
section
variable{w w':World}{g:Nat}{T:TypeId}{zs:List Int}
def zAd(h:Γ:=by rw[Array.getElem?_eq_none Au]at h;cases h):=h
theorem Own.lt(h:Own w g T zs):g<w.heap.size:=by
 rcases Nat.lt_or_ge g w.heap.size with bD|Au;exact bD;unfold Own at h;exact zAd
theorem Own.cell(h:Own w g T zs){i:Nat}{z:Int}(hz:zs[i]?=some z):w.cell? ⟨g,i,none⟩=some (.int .i64 z):=by
 unfold Own at h;simp[World.cell?,h,e4,hz]
theorem Own.frozen(h:Own w g T zs)(i:Nat):w.frozen? ⟨g,i,none⟩=false:=by
 unfold Own at h;simp[World.frozen?,h]
theorem Own.rd(h:Own w g T zs):Rd w (some ⟨g,0,none⟩) zs:=fun j z hj=>⟨g,0,rfl,h.lt,by rw[Nat.zero_add];exact h.cell hj⟩
theorem Own.new(w:World)(T:TypeId)(zs:List Int):Own (w.alloc (.cells (ints zs) T)) w.heap.size T zs:=heap_alloc_new w _
theorem Own.eF(w:World)(T:TypeId)(zs:List Int){n:Nat}(h:w.heap.size=n):Own (w.alloc (.cells (ints zs) T)) n T zs:=h▸Own.new w T zs
theorem Own.drew(h:Own w g T zs):Own w.drew g T zs:=h
theorem Own.drewN(h:Own w g T zs)(n:Nat):Own (w.drewN n) g T zs:=h
theorem Own.alloc(h:Own w g T zs)(o:Obj):Own (w.alloc o) g T zs:=(Below.heap_alloc w o g h.lt).trans h
theorem Own.av(h:Own w g T zs)(i:Nat)(z:Int):Own (w.setCell ⟨g,i,none⟩ (.int .i64 z)) g T (zs.set i z):=by
 unfold Own at h⊢;simp[World.setCell,Array.getElem?_modify,h,ints_set]
theorem Own.aV(h:Own w g T zs){p:Addr}(hp:g≠p.block)(u:Value):Own (w.setCell p u) g T zs:=(Below.heap_setCell w p u g hp).trans h
theorem Own.below{B:Nat}(h:Own w g T zs)(hb:Below B w w')(hg:g<B):Own w' g T zs:=(hb.block g hg).trans h
theorem Own.keep(h:Own w g T zs)(hb:Below w.heap.size w w'):Own w' g T zs:=h.below hb h.lt
end
def aA(w:World)(g:Nat)(T:TypeId)(cs:Array Value):Prop:=w.heap[g]?=some (.cells cs T (0,0))
section
variable{w w':World}{g:Nat}{T:TypeId}{cs:Array Value}
theorem aA.lt(h:aA w g T cs):g<w.heap.size:=by
 rcases Nat.lt_or_ge g w.heap.size with bD|Au;exact bD;unfold aA at h;exact zAd
theorem aA.cell(h:aA w g T cs)(i:Nat):w.cell? ⟨g,i,none⟩=cs[i]?:=by
 unfold aA at h;simp[World.cell?,h]
theorem aA.frozen(h:aA w g T cs)(i:Nat):w.frozen? ⟨g,i,none⟩=false:=by
 unfold aA at h;simp[World.frozen?,h]
theorem aA.new(w:World)(T:TypeId)(cs:Array Value):aA (w.alloc (.cells cs T)) w.heap.size T cs:=heap_alloc_new w _
theorem aA.eF(w:World)(T:TypeId)(cs:Array Value){n:Nat}(h:w.heap.size=n):aA (w.alloc (.cells cs T)) n T cs:=h▸aA.new w T cs
theorem aA.drew(h:aA w g T cs):aA w.drew g T cs:=h
theorem aA.drewN(h:aA w g T cs)(n:Nat):aA (w.drewN n) g T cs:=h
theorem aA.alloc(h:aA w g T cs)(o:Obj):aA (w.alloc o) g T cs:=(Below.heap_alloc w o g h.lt).trans h
theorem aA.av(h:aA w g T cs)(i:Nat)(u:Value):aA (w.setCell ⟨g,i,none⟩ u) g T (cs.setIfInBounds i u):=by
 unfold aA at h⊢;simp[World.setCell,Array.getElem?_modify,h]
theorem aA.aV(h:aA w g T cs){p:Addr}(hp:g≠p.block)(u:Value):aA (w.setCell p u) g T cs:=(Below.heap_setCell w p u g hp).trans h
theorem aA.below{B:Nat}(h:aA w g T cs)(hb:Below B w w')(hg:g<B):aA w' g T cs:=(hb.block g hg).trans h
theorem aA.keep(h:aA w g T cs)(hb:Below w.heap.size w w'):aA w' g T cs:=h.below hb h.lt
end
def Vl(w:World)(T:TypeId)(zs:List Int)(e:Ending)(w':World):Prop:=
 ∃g,e=.returned (.slice (some ⟨g,0,none⟩) zs.length zs.length)/\w.heap.size<=g/\Own w' g T zs/\Below w.heap.size w w'
theorem I9(W:World)(X MJ:Array Value)(E:TypeId):(W.alloc (.cells X E)).setRow W.heap.size MJ=W.alloc (.cells MJ E):=by
 simp only[World.setRow,World.alloc];congr 1;grind
theorem tz{P:Program}(dT sT ty elem E:TypeId)(hu:P.underlying dT=some (.slice elem))(hs:(P.info? elem).map (·.size)=some 1)
  (zs:List Int) (A:Option Addr) (c:Nat) (W:World) (h:Rd W A zs):
  (Builtin.copy_ #[dT,sT] ty #[.slice (some ⟨W.heap.size,0,none⟩) zs.length zs.length,.slice A zs.length c]).run P (W.alloc (.cells (madeCells #[.int .i64 0] zs.length) E))=.ok (.int .i64 zs.length) (W.alloc (.cells (ints zs) E)):=by
 by_cases h0:zs.length=0;have e:zs=[]:=List.eq_nil_of_length_eq_zero h0;subst e;have:=run_copy_none (P:=P) (W.alloc (.cells (madeCells #[.int .i64 0] 0) E)) dT sT ty elem (some ⟨W.heap.size,0,none⟩) A 0 0 0 c hu hs rfl;rw[jh]at this⊢;exact this;obtain⟨b,off,z,rfl,hb,_,_⟩:=h.get (k:=0) (by omega)
 have:=run_copy_row (P:=P) (W.alloc (.cells (madeCells #[.int .i64 0] zs.length) E)) dT sT ty elem W.heap.size 0 zs.length zs.length ⟨b,off,none⟩ zs.length c
  (madeCells #[.int .i64 0] zs.length) E (zs.map (Value.int .i64)) hu hs (heap_alloc_new W _) zAe (fun j v hv=>by
   rw[List.getElem?_map]at hv;obtain⟨z,hz,rfl⟩:=Option.map_eq_some_iff.1 hv;rw[World.cell?_alloc_lt _ _ _ (by unfold Addr.add;split<;>exact hb)];have:=h.all hz;unfold Addr.add
   split
   ·rename_i e;subst e;exact this
   ·exact this) (by simp[size_madeCells]) (by simp[Value.oneCell'])
 rw[this];have e:((madeCells #[Value.int .i64 0] zs.length).toList.take 0++zs.map (Value.int .i64)++(madeCells #[Value.int .i64 0] zs.length).toList.drop (0+(zs.map (Value.int .i64)).length)).toArray=ints zs:=by simp[ints,toList_madeCells_one]
 rw[e,I9];simp[goInt]
theorem below_drewN{B:Nat}{a w:World}(h:Below B a w)(n:Nat):Below B a (w.drewN n):=⟨h.os,h.tape,h.output,h.size,h.block⟩
theorem Vm{w w':World}{n:Nat}(h:Below (w.drewN n).heap.size (w.drewN n) w'):Below w.heap.size w w':=⟨h.os,h.tape,h.output,h.size,h.block⟩
theorem dm{w a b:World}(h:Below w.heap.size w a)(k:Below a.heap.size a b):Below w.heap.size w b:=h.trans (k.mono h.size)
theorem bI{k:IntKind}{a b:Int}(h:a=b):Ending.returned (.int k a)=.returned (.int k b):=by rw[h]
theorem bR{a b:Bool}(h:a=b):Ending.returned (.bool a)=.returned (.bool b):=by rw[h]
section
set_option linter.defProp false
def a5:=@List.getD_eq_getElem?_getD
def al:=@Nat.le_refl
def aK:=@List.mem_of_getElem?
def bk:=@List.getElem?_eq_getElem
def bj:=@List.getElem?_eq_some_iff
def bJ:=@Option.map_eq_some_iff
def bV:=@List.take_of_length_le
def bN:=@Nat.lt_of_lt_of_le
def aR:=@Nat.zero_le
def aQ:=@Nat.le_trans
def bh:=@List.length_append
def bO:=@Int.eq_ofNat_of_zero_le
def a7:=@Go.IntKind.wrap_i64
def aZ:=@Go.bodyPost_ret
def bU:=@Bool.and_eq_true
def a9:=@Int.toNat_natCast
def bo:=@List.getElem?_map
def bb:=@Go.RowKit.Below.heap_setCell
def fY:=@Array.getElem?_eq_some_iff
def b9:=@decide_eq_true_eq
def dD:=@List.mem_cons_self
def aY:=@Go.RowKit.Below.refl
def bE:=@Go.IntKind.wrap_u64
def dE:=@List.mem_cons
def bn:=@List.length_map
def iD:=@List.mem_cons_of_mem
def cr:=@List.length_take
def de:=@List.mem_singleton
def eS:=@List.mem_of_mem_take
def ct:=@Go.results_cell_tmp
def cu:=@List.mem_append
def iE:=@Array.getElem?_setIfInBounds_ne
def cV:=@Nat.mul_le_mul_right
def fC:=@List.take_append_of_le_length
def eT:=@List.getElem?_append_right
def eh:=@List.map_cons
def d3:=@List.take_append_drop
def e7:=@List.drop_eq_getElem_cons
def c9:=@List.map_append
def dL:=@List.all_eq_true
def cU:=@Option.some.inj
def cw:=@List.mem_map
def hJ:=@List.mem_of_mem_drop
def eU:=@List.drop_of_length_le
def fZ:=@List.getElem?_of_mem
def fD:=@List.length_cons
def d4:=@Go.World.cell?_of_block
def iF:=@List.getElem?_drop
def fe:=@List.length_replicate
def cf:=@Go.Addr.add_lit
def ji:=@List.getElem?_take
def cQ:=@Nat.zero_add
def bq:=@trivial
def ev:=@List.append_nil
def db:=@Nat.le_succ
def pB:=@List.eq_nil_of_length_eq_zero
def ei:=@List.length_set
def d5:=@Nat.min_eq_left
def hM:=@List.append_assoc
def cH:=@Int.natCast_mul
def ej:=@List.getElem?_eq_none
def ek:=@List.take_length
def en:=@Int.natCast_add
def e2:=@List.length_drop
def jK:=@List.getElem?_set_self
def tO:=@List.not_mem_nil
def f6:=@List.take_succ_cons
def kw:=@List.getElem?_replicate
def jL:=@List.sum_cons
def d8:=@List.take_zero
def e5:=@List.take_take
def f7:=@Nat.succ_mul
def lM:=@List.map_nil
def dS:=@Prod.mk.injEq
def e3:=@List.eq_of_mem_replicate
def iG:=@List.map_congr_left
def di:=@congrArg
def tP:=@List.nodup_cons
def eo:=@List.ext_getElem?
def q1:=@List.pairwise_iff_getElem
def iH:=@List.drop_succ_cons
def jj:=@Array.length_toList
def d9:=@Nat.add_zero
def iI:=@List.getElem?_set
def ky:=@List.set_append_right
def ea:=@decide_eq_true
def iJ:=@List.pairwise_cons
def jM:=@List.replicate_succ
def eb:=@Int.le_refl
def eV:=@Nat.sub_self
def ew:=@decide_eq_false
def iK:=@List.range_succ
def mr:=@Int.mul_assoc
def dT:=@Nat.le_of_eq
def pC:=@Array.getElem?_modify
def acO:=@not_false_eq_true
def mu:=@List.flatMap_cons
def Av:=@List.getElem_mem
def mw:=@Int.mul_comm
def fl:=@List.drop_zero
def hk:=@List.take_left'
def i4:=@List.set_cons_zero
def ij:=@List.mem_or_eq_of_mem_set
def uE:=@List.getElem?_append_left
def dB:=@Go.run_slice_l
def fS:=@Nat.mul_le_mul_left
def PD:=@List.nodup_nil
def il:=@List.getElem?_range
def i5:=@List.take_add_one
def jN:=@List.nil_append
def uF:=@List.foldl_cons
def zB:=@List.getElem?_set_ne
def jO:=@Int.mul_nonneg
def i7:=@Prod.mk.inj
def fm:=@Nat.mul_one
def nK:=@List.flatMap_append
def zC:=@Int.mul_le_mul_of_nonneg_right
def jP:=@Go.heap_alloc_new
def i9:=@List.size_toArray
def PE:=@List.mem_append_left
def sx:=@Int.mul_le_mul_of_nonneg_left
def kU:=@Int.ediv_nonneg
def pD:=@List.mem_flatMap
def eu:=@Go.run_underlying
def zD:=@List.mem_append_right
def pE:=@List.getElem?_cons_succ
def uG:=@List.setIfInBounds_toArray
def nL:=@List.pairwise_append
def pF:=@List.mem_range
def sy:=@or_false
def fo:=@Nat.zero_mul
def zE:=@Nat.not_lt_zero
def nM:=@Go.RowKit.Below.heap_alloc
def zF:=@Int.emod_lt_of_pos
def zG:=@List.map_toArray
def zH:=@List.filter_cons_of_neg
def l0:=@Int.add_mul
def gH:=@Go.wpStill_nil
def pG:=@Nat.add_assoc
def pH:=@of_decide_eq_true
def dp:=@Ne.symm
def l4:=@Nat.not_lt
def eW:=@Nat.le_of_lt
def PF:=@List.take_succ_eq_append_getElem
def uH:=@List.nodup_append
def sB:=@List.foldl_append
def zI:=@List.exists_cons_of_ne_nil
def l2:=@Int.mul_le_mul
def zJ:=@Array.toList_setIfInBounds
def uI:=@Go.Result.andThen_ok
def sA:=@List.sum_append
def ja:=@List.length_nil
def gI:=@Go.rounds_succ
def l3:=@Nat.min_self
def fT:=@List.map_take
def zK:=@Int.emod_nonneg
def PG:=@Nat.two_pow_add_eq_or_of_lt
def PH:=@Int.ediv_eq_zero_of_lt
def aaA:=@Int.add_mul_emod_self_right
def sC:=@Option.getD_some
def zL:=@Nat.lt_or_gt_of_ne
def l5:=@List.length_singleton
def PI:=@List.getElem?_reverse
def uJ:=@List.countP_le_length
def uL:=@Int.ediv_lt_of_lt_mul
def sD:=@Go.grownCap_le_maxLen
def sE:=@List.mem_filter
def sF:=@List.drop_left'
def aaB:=@and_true
def jb:=@List.map_set
def uM:=@List.filter_congr
def pI:=@List.all_eq_false
def aaC:=@Int.zero_add
def Gx:=@Go.run_append_own_at
def nN:=@Go.run_makeSlice
def sG:=@List.take_set_of_le
def uN:=@Nat.add_sub_cancel_left
def PJ:=@List.filter_cons_of_pos
def uO:=@List.drop_length
def PK:=@List.any_eq_true
def l6:=@Go.wp_loop_rounds
def l7:=@Nat.one_mul
def im:=@Nat.add_mul
def hC:=@Go.IntWalk.i64_in
def PL:=@Nat.mul_comm
def nO:=@List.map_map
def zM:=@Int.le_ediv_iff_mul_le
def aaD:=@Int.add_mul_ediv_right
def kV:=@Go.run_slice_h
def PM:=@Int.mul_ediv_mul_of_pos_left
def Gy:=@Bool.or_eq_true
def kW:=@Go.run_slice_lh
def zO:=@Go.Sem.run_pure
def uP:=@Go.Sem.run_bind
def pJ:=@Nat.lt_irrefl
def kX:=@List.map_drop
def zP:=@List.eq_replicate_iff
def zQ:=@List.count_append
def kY:=@Nat.mul_pos
def PN:=@Nat.mod_two_eq_zero_or_one
def uQ:=@List.drop_take
def nP:=@Nat.lt_succ_self
def sH:=@List.take_append
def uR:=@List.getElem_set
def aaE:=@Int.pow_succ
def uU:=@Go.wpList_append_own_at
def Gz:=@Go.toList_madeCells_one
def GA:=@List.getElem?_eq_none_iff
def aaF:=@Decidable.byContradiction
def GC:=@List.countP_eq_zero
def uV:=@Nat.div_le_self
def PO:=@Int.natCast_pow
def zR:=@Bool.eq_iff_iff
def zS:=@List.filter_append
def PP:=@BitVec.ofInt_toInt
def pK:=@Array.ext'
def GD:=@Nat.le_mul_of_pos_right
def GF:=@Int.pow_pos
def uX:=@Int.one_mul
def pL:=@Go.grownCap_ge
def GG:=@Go.World.block_lt_of_cell?
def PQ:=@Nat.succ_pos
def GH:=@Nat.lt_trichotomy
def zT:=@Nat.le_mul_of_pos_left
def pM:=@Go.MapKept.run_getObj_map
def aaG:=@List.contains_iff_mem
def aaH:=@Int.mul_ediv_add_emod
def zU:=@Go.DataW.weights_mem_each
def uY:=@List.ext_getElem
def uZ:=@List.cons_append
def zV:=@Nat.mul_assoc
def PR:=@Bool.or_false
def PS:=@List.count_singleton
def aaI:=@Go.ChangeMaps.heap_setBlock_other
def va:=@List.all_append
def zW:=@Go.MapKept.run_checkKey
def zX:=@Go.MapKept.findNow_spec
def aaJ:=@List.length_zipWith
def PT:=@List.length_pos_iff
def zY:=@Go.ChangeMaps.heap_setBlock_same
def PU:=@BitVec.msb_eq_toInt
def GI:=@Array.toList_append
def GJ:=@Go.run_firstCells_some
def GK:=@Nat.eq_zero_or_pos
def zZ:=@Go.MapKept.run_findKey
def GL:=@List.set_cons_succ
def GM:=@List.count_nil
def PV:=@List.countP_append
def GN:=@Int.cast_ofNat_Int
def PX:=@BitVec.msb_xor
def PY:=@List.getLastD_eq_getLast?
def aaK:=@List.getElem?_zip_eq_some
def PZ:=@Array.getElem?_eq_getElem
def P0:=@Int.mul_add
def GO:=@Bool.not_eq_true'
def GQ:=@Bool.eq_false_iff
def z8:=@List.drop_set
def aaL:=@List.all_cons
def GR:=@Int.ofNat.inj
def z9:=@Bool.true_and
def P5:=@Go.World.cells?_some
def Aa:=@Int.natCast_ediv
def vc:=@if_true
def jc:=@bne_iff_ne
def GS:=@Nat.sub_zero
def vd:=@Nat.add_comm
def P6:=@List.set_set
def P7:=@Int.add_zero
def P8:=@Int.add_comm
def pN:=@Option.map_some
def Ad:=@Go.MapKept.run_setObj_map
def ve:=@Nat.mul_le_mul
def aaM:=@Int.sub_mul
def P9:=@Int.pow_add
def pO:=@and_assoc
def GV:=@Go.growslice_fits
def GW:=@Go.World.cell?_alloc_at
def Ae:=@Go.run_slice_lhm
def sI:=@Nat.ne_of_lt
def Qa:=@Int.le_trans
def GY:=@Int.emod_def
def Qb:=@Decidable.em
def GZ:=@Go.run_storeCells_at
def G0:=@Go.World.ownsRow_nil
def G1:=@Go.DataW.trod_struct
def Qc:=@Go.World.size_alloc
def Qd:=@Go.bits_or_u64_nat
def ag:=@if_neg
def ah:=@if_pos
theorem lh{α:Type}(t:α):∃y,t=y:=⟨_,rfl⟩
theorem lg{α:Type}(t:α):∃y,y=t:=⟨_,rfl⟩
theorem l8{α:Type}(t:α):∃y,Z (t=y):=⟨_,rfl⟩
theorem lgH{α:Type}(t:α):∃y,Z (y=t):=⟨_,rfl⟩
theorem Y{p:Prop}(h:p:=by omega):p:=h
theorem ap{p:Prop}(h:p:=by kernel_rfl):p:=h
theorem nlr{n:Nat}:n<=n:=Nat.le_refl n
theorem nzl{n:Nat}:0<=n:=Nat.zero_le n
theorem ao{p:Prop}(h:p:=by decide):p:=h
theorem aI{p:Prop}(h:p:=by simp):p:=h
theorem ou{p:Prop}(h:p:=by simp[intOf];omega):p:=h
theorem ch{p:Prop}(h:p:=by simp;omega):p:=h
theorem ay{p:Prop}(h:p:=by grind):p:=h
abbrev cAt:=Calls Tryz.prog
def am:=@inferInstance.{0}
instance:Coe Int Value:=⟨Value.int .i64⟩
instance:Coe Nat Value:=⟨fun n=>Value.int .i64 (n:Int)⟩
instance:Coe World Nat:=⟨fun w=>w.heap.size⟩
instance{α:Type}:CoeOut (List α) Nat:=⟨List.length⟩
instance:Coe Nat (Option Addr):=⟨fun g=>some ⟨g,0,none⟩⟩
instance{A:Option Addr}{n c:Nat}:CoeDep (Option Addr×Nat×Nat) (A,n,c) Value:=⟨.slice A n c⟩
instance{g n c:Nat}:CoeDep (Nat×Nat×Nat) (g,n,c) Value:=⟨.slice (some ⟨g,0,none⟩) n c⟩
instance{w:World}{n c:Nat}:CoeDep (World×Nat×Nat) (w,n,c) Value:=⟨.slice (some ⟨w.heap.size,0,none⟩) n c⟩
instance{b o:Nat}:CoeDep (Nat×Nat) (b,o) Addr:=⟨⟨b,o,none⟩⟩
inductive Zr0 where
 |z
def an:=Zr0.z
instance:Coe Zr0 Value:=⟨fun _=>.int .i64 0⟩
instance:Coe Unit Value:=⟨fun _=>.slice none 0 0⟩
instance:CoeFun Unit (fun _=>FuncId->Array Value->World->(Ending->World->Prop)->Prop):=⟨fun _=>Calls Tryz.prog⟩
theorem mv{P:Program}{f:FuncId}{a:Array Value}{w:World}{v:Ending}{R:World->Prop}{Q:Ending->World->Prop}(h:Calls P f a w (fun e u=>e=v/\R u))(k:∀u,R u->Q v u):Calls P f a w Q:=h.mono fun _ u ⟨e,r⟩=>e▸k u r
abbrev au:=List Int
abbrev bz:=Option Addr
abbrev ab:=World
abbrev ki:=List Value
abbrev dw:=Array Value
abbrev f0:=List (List Int)
end
section
variable{W u:World}{A:Option Addr}{base c m:Nat}{zs:List Int}{H:Type}{enc:TypeId×Value->H}{P:Program}{held:Bool}{T:TypeId}{v:Value}{fs:Array Field}{spare:Nat->Bool}{vs:List Value}
section
open Go.ChangeShapes Go.WideShapes Go.ChangeAt Go.RowKit
def kZ(W:ab)(A:bz)(c:Nat)(zs:au):Prop:=Rd W A zs/\zs.length<=c/\c<=maxLen/\∀z∈zs,(Lit.int .i64 z).wf=true
def kZ.rd(h:kZ W A c zs):Rd W A zs:=h.1
theorem tQ{E:TypeId}{x:DataW H×List MemPlace}(G:P.underlying T=some (.slice E))(hE:P.underlying E=some (.int .i64))(I:P.cellsOf E=1)
  (h:DataW.trod enc P W base (λ_=>true) held m T [v]=some x):∃A c zs,v=.slice A zs.length c/\kZ W A c zs:=by
 rcases open_ints G hE I h with⟨y,_⟩|⟨a,l,c,zs,y,_,N,hm,J,_,e,K⟩;cases y;exact⟨none,0,[],rfl,Rd.nil _ _,al _,aR _,aI⟩;cases y;simp only[vc]at J;refine⟨some a,c,zs.take l,ay,λj z B=>?_,by simp;omega,hm,ay⟩;have C:j<zs.length:=by have:=(bj.1 B).1;simp at this;omega
 have D:zs.getD j 0=z:=by (have L:zs[j]?=some z:=by rw[ji]at B;split at B;exact B;cases B);simp[List.getD,L]
 have r:=e j C;rw[D]at r;have⟨b,off,sp⟩:=a;have F:sp=none:=by
  cases sp with
  |none=>rfl
  |some s=>exfalso;have M:=e 0 Y;simp[Addr.add,World.cell?]at M;grind
 subst F;have u:W.cell? (b,off+j)=some (.int .i64 z):=by unfold Addr.add at r;split at r;grind;exact r
 exact⟨b,off,rfl,GG W _ u,u⟩
theorem Aw{x:DataW H×List MemPlace}(b:P.underlying T=some (.int .i64))
  (h:DataW.trod enc P W base (λ_=>true) held m T [v]=some x):∃n,v=.int .i64 n/\(Lit.int .i64 n).wf=true:=by
 have⟨n,e,_,hw⟩:=DataW.trod_int b h;grind
theorem fld{cs:ki}{x:DataW H×List MemPlace}(b:P.underlying T=some (.struct fs))(h:DataW.trod enc P W base spare held m T cs=some x)
  (i:Nat) (f:Field) (e:fs[i]?=some f):∃n y,DataW.trod enc P W base spare held n f.type ((cs.drop f.offset).take (P.cellsOf f.type))=some y:=by
 obtain⟨xs,n,_,_,_,j,hg⟩:=G1 b h;grind
theorem Ax(y:laidOutB P=true){ts:List TypeId}{e:List (DataW H)}{ps:List MemPlace}(j:∀t∈ts,P.readableRec t=true/\t<P.types.size)
  (h:DataW.TrodAll enc P W 0 (λ_=>true) true ts vs e ps) (hb:Below W.1.size W u):DataW.TrodAll enc P u 0 (λb=>decide (b<W.1.size)) true ts vs e ps:=by
 induction ts generalizing vs e ps with
 |nil=>obtain⟨rfl,rfl,rfl⟩:=trodAll_nil h;exact trodAll_mk0
 |cons t ts C=>obtain⟨v,z,d,B,p,q,rfl,rfl,rfl,r,r0⟩:=trodAll_cons h;(have l:∀x∈p,x.block<W.1.size:=by obtain⟨m,hm⟩:=r;exact DataW.trod_lt m _ _ _ hm);exact trodAll_cons_mk (Below.trod y ay (j t dD).2 r hb l) ay
theorem adZ{cs:dw}(h:cs.size=6):∃c0 c1 c2 c3 c4 b,cs= #[c0,c1,c2,c3,c4,b]:=by
 have⟨l⟩:=cs;match l,h with
 |[c0,c1,c2,c3,c4,b],_=>grind
def Ay{n:Int}(h:(Lit.int .i64 n).wf=true): -9223372036854775808<=n/\n<=9223372036854775807:=bounds_i64 h
def DV:ownKnob prog.godebug=none:=ap
def G2:laidOutB prog=true:=ap
def Vn(W:ab)(e:Ending)(b:ab):Prop:=e=.returned (.bool true)/\Below W.1.size W b
end
end
section
variable{w':World}{A:Option Addr}{B' c:Nat}{zs:List Int}{P:Program}{ops:Array Oper}{a:Act}{Q:Exit->Act->World->Prop}
def aD(w:ab)(B:Nat)(E:TypeId)(A:bz)(c:Nat)(zs:au):Prop:=w.ownsRow B E 1 (.slice A zs c) zs.length (zs.map (Value.int .i64))
section
variable{w:World}{B:Nat}{E:TypeId}
def aD.nil(w)(B)(E):aD w B E none 0 []:=G0 w B E 1
theorem aD.form(h:aD w B E A c zs):(A=none/\zs=[]/\c=0)\/∃g b,A=some ⟨g,0,none⟩/\B<=g/\w.heap[g]?=some (.cells b E (0,0))/\zs.length<=c/\c<=maxLen/\b.size=c/\b.toList.take zs.length=zs.map (Value.int .i64):=by
 rcases h.2 with⟨hv,e⟩|⟨g,cap,b,hv,j,hg,l,hm,m,ht⟩;grind;grind
theorem aD.rd(h:aD w B E A c zs):Rd w A zs:=by
 rcases h.form with⟨_,rfl,_⟩|⟨g,b,rfl,u,hg,y,hm,C,ht⟩;exact Rd.nil _ _;intro j z r;refine⟨g,0,rfl,ay,?_⟩;have l:j<zs:=ay;have e:b[j]?=some (.int .i64 z):=by (have m:(b.toList.take zs.length)[j]?=some (.int .i64 z):=by rw[ht,bo,r];rfl);rw[ji,ah l]at m;simpa using m
 simp[World.cell?,hg,e]
theorem aD.fresh(h:aD w B E A c zs):∀b,A=some b->B<=b.block:=by
 rcases h.form with⟨rfl,_,_⟩|⟨g,e,rfl,j,_⟩;grind;grind
theorem aD.lt(h:aD w B E A c zs):∀b,A=some b->b.block<w.1.size:=by
 rcases h.form with⟨rfl,_,_⟩|⟨g,e,rfl,j,hg,_⟩;grind;grind
theorem aD.hD(h:aD w B E A c zs):zs.length<=c:=by
 rcases h.form with⟨_,rfl,rfl⟩|⟨_,_,_,_,_,b,_⟩;grind;exact b
theorem aD.same(h:aD w B E A c zs)(u:∀b,A=some b->w'.heap[b.block]?=w.heap[b.block]?):aD w' B E A c zs:=by
 refine⟨h.1,?_⟩;rcases h.2 with j|⟨g,cap,e,hv,l,hg,rest⟩;exact .inl j;injection hv with m y r;exact .inr ⟨g,cap,e,by rw[m,r],l,ay,rest⟩
def aD.keep(h:aD w B E A c zs)(hb:Below w.1.size w w'):aD w' B E A c zs:=h.same λb e=>hb.block _ (h.lt b e)
def aD.alloc(h:aD w B E A c zs)(o):aD (w.alloc o) B E A c zs:=h.same λb e=>nM w o _ (h.lt b e)
def aD.more(h:aD w B E A c zs)(j:B'<=B):aD w B' E A c zs:=by
 refine⟨h.1,?_⟩;rcases h.2 with e|⟨g,cap,b,hv,hb,r⟩;exact .inl e;exact .inr ⟨g,cap,b,hv,Y,r⟩
end
def iS{w:ab}{rest:List Oper}{o:Oper}(G:o.guard=none)(s x:Operand)(t:TypeId)
  (R:o.op=.call {callee:=.builtin .append,args:= #[s,x],argTypes:= #[t,t]}) (E:TypeId) (ht:P.underlying t=some (.slice E))
  (l:(P.info? E).map (λi=>(i.zero,i.size,i.bytes))=some (some (.int .i64 0),1,8))
  (B:Nat) (A:bz) (c:Nat) (zs:au) (hs:a.eval s=.slice A zs c) (b:aD w B E A c zs) (y:Int)
  (S:a.eval x=.slice w.1.size 1 1) (M:zs.length<=1000000000) (T:B<=w.1.size)
  (h:∀N O w',aD w' B E N O (zs++[y])->Below B w w'->(∀k,k<w.1.size->(∀C,A=some C->C.block≠k)->w'.heap[k]?=w.heap[k]?)->w.1.size<w'.1.size->
   wpList P ops Q rest (a.put o.dst (.slice N (zs.length+1) O)) w'):
  wpList P ops Q (o::rest) a (w.alloc (.cells #[y] E)):=by
 have⟨i,hi,e6⟩:=bJ.1 l;simp only[dS]at e6;obtain⟨I,J,K⟩:=e6;have m:=b.alloc (.cells #[y] E)
 refine uU (w.alloc (.cells #[y] E)) G s x t R B E i an 1 8 ht hi I J K rfl ao _ _ _ hs m ⟨w.1.size,0,none⟩ 1 1 [.int .i64 y] S rfl
  (λj u hu=>?_) (by simp[Value.oneCell']) (by unfold maxLen;omega) Y ch ?_
 have V:j=0:=by
  cases j with
  |zero=>rfl
  |succ j=>simp at hu
 subst V;simp at hu;subst hu;simp[Addr.add,GW];intro X w' r hg _ _;have hl:(zs++[y]).length=zs.length+1:=aI;rcases r.2 with⟨hv,hn⟩|⟨g,cap,cur,hv,hBg,qP,G3,RD,RE,htk⟩;omega;have D:X=.slice g (zs.length+1) cap:=hv;rw[D];rw[D]at r;refine h _ _ _ ?_ ?_ ?_ ?_;unfold aD;rw[hl,c9];exact r;refine((aY B w).alloc T _).grown hg ch ?_;intro k F;have:Value.ownBlock (.slice A zs c)=A.map (·.block):=by cases A<;>rfl
 rw[this]at F;obtain⟨C,z,rfl⟩:=bJ.1 F;exact b.fresh C z;intro k F L;rw[hg.block k ch ?_,nM _ _ _ F];have:Value.ownBlock (.slice A zs c)=A.map (·.block):=by cases A<;>rfl
 rw[this];intro e;obtain⟨C,z,rfl⟩:=bJ.1 e.symm;exact L C z rfl;have:=hg.size;simp at this;omega
end
variable{g:Nat}{W w' wr:World}{T:TypeId}{zs:List Int}{A:Option Addr}
@[grind cases]structure Aside(g:Nat)(W wr:World):Prop where
 size:W.1.size<=wr.1.size
 same:∀k,k<W.1.size->k≠g->wr.heap[k]?=W.heap[k]?
def Aside.refl(g)(W):Aside g W W:=⟨al _,λ_ _ _=>rfl⟩
def Aside.av(h:Aside g W wr)(i:Nat)(v:Value):Aside g W (wr.setCell (g,i) v):=
 ⟨by have:=h.size;simp;omega,λk b hg=>(bb wr ⟨g,i,none⟩ v k hg).trans (h.same k b hg)⟩
def Aside.drew(h:Aside g W wr):Aside g W wr.drew:=⟨h.size,h.same⟩
theorem Aside.below(h:Aside g W wr)(hb:Below wr.1.size wr w'):Aside g W w':=
 ⟨aQ h.size hb.size,λk b hg=>(hb.block k ay).trans (h.same k b hg)⟩
def Aside.ak{k:Nat}{cs:dw}(h:Aside g W wr)(hb:aA W k T cs)(b:k≠g):aA wr k T cs:=(h.same k hb.lt b).trans hb
def Aside.own{k:Nat}(h:Aside g W wr)(hb:Own W k T zs)(b:k≠g):Own wr k T zs:=(h.same k hb.lt b).trans hb
def zA3(h:Γ:=by intro j z u;have⟨b,off,e,hb,hc⟩:=r j z u;refine⟨b,off,e,bN hb h.size,?_⟩;rw[<-hc];exact d4 (h.same b hb (l _ e))):=h
def Aside.rd(h:Aside g W wr)(r:Rd W A zs)(l:∀m,A=some m->m.block≠g):Rd wr A zs:=by
 exact zA3
theorem Rd.old{w:ab}(h:Rd w A zs)(l:zs≠[]):∀j,A=some j->j.block<w.1.size:=by
 intro j e;obtain⟨z,t,rfl⟩:=zI l;have⟨b,off,e2,hb,_⟩:=h 0 z rfl;grind
def Aside.fU{w:ab}(h:Aside g W wr)(j:Rd w A zs)(l:Rd W A zs)(hg:w.1.size<=g):Rd wr A zs:=by
 by_cases b:zs=[];subst b;exact Rd.nil _ _;exact h.rd l λm e=>by have:=j.old b m e;omega
section
variable{X u:World}{c d i m:Nat}{P:Program}{ops:Array Oper}{Q:Exit->Act->World->Prop}{md:Region.Mode}{oi:Oper}{v:Value}{listed:Array Bool}{df:List Deferred}{l':List Value}
class aj(w':World)(w:outParam World):Prop where
 st:Below w.1.size w w'
class aM(w w':World):Prop where
 st:Below w.1.size w w'
instance(priority:=high) aM.same(w:ab):aM w w:=⟨aY _ _⟩
instance aM.step{w x:ab}[p:aj w' x][l:aM w x]:aM w w':=⟨dm l.st p.st⟩
instance aj.alloc(w:ab)(o:Obj):aj (w.alloc o) w:=⟨(aY _ _).alloc (al _) _⟩
instance aj.drew(w:ab):aj w.drew w:=⟨(aY _ _).drew⟩
instance aj.drewN(w:ab)(n:Nat):aj (w.drewN n) w:=⟨below_drewN (aY _ _) n⟩
theorem aM.trans{a c:ab}(h:aM a u)(k:aM u c):aM a c:=⟨dm h.st k.st⟩
section
variable{w:World}
def Rd.at(h:Rd w A zs)[l:aM w w']:Rd w' A zs:=h.below l.st
def aA.at{cs:dw}(h:aA w g T cs)[l:aM w w']:aA w' g T cs:=h.keep l.st
def Own.at(h:Own w g T zs)[l:aM w w']:Own w' g T zs:=h.keep l.st
def aD.at{B:Nat}(h:aD w B T A c zs)[l:aM w w']:aD w' B T A c zs:=h.keep l.st
def ai[l:aM w w']:w.1.size<=w'.1.size:=l.st.size
end
theorem Aside.trans{a:ab}(h:Aside g W a)(k:Aside g a u):Aside g W u:=
 ⟨ay,ay⟩
def aO(w w')[l:aM w w']:Below w.1.size w w':=l.st
section
variable{S:World->Prop}
def b0{l:ki}{w:ab}(hi:ops[i]?=some oi)(hd:oi.dst=some d)
  (hs:Region.noSelect ops=true) (b:Region.free md ops listed i=true) (hr:(Region.ready md ops listed).contains i=true)
  (e:∀c a w,Q (.panic c) (a.put oi.dst v) w->Q (.panic c) a w) (j:Region.wanted oi (yielded ops l.toArray)=true) (hS:S w)
  (r:∀u,S u->(execOp (Act.eval ⟨l.toArray,df⟩) oi).run P u=.ok (.value v) u)
  (h:wpAnyH P md ops Q S m (listed.setIfInBounds i true) ⟨(l.set d v).toArray,df⟩ w):wpAnyH P md ops Q S (m+1) listed ⟨l.toArray,df⟩ w:=by
 refine wpAnyH_take hi hs b hr e (.inl ⟨j,r⟩) hS ?_;rw[hd];simpa[Act.put]using h
def q2{l:ki}{w:ab}(hi:ops[i]?=some oi)(hd:oi.dst=some d)
  (hs:Region.noSelect ops=true) (b:Region.free md ops listed i=true) (hr:(Region.ready md ops listed).contains i=true)
  (e:∀c a w,Q (.panic c) (a.put oi.dst undef) w->Q (.panic c) a w) (j:Region.wanted oi (yielded ops l.toArray)=false) (hS:S w)
  (h:wpAnyH P md ops Q S m (listed.setIfInBounds i true) ⟨(l.set d undef).toArray,df⟩ w):wpAnyH P md ops Q S (m+1) listed ⟨l.toArray,df⟩ w:=by
 refine wpAnyH_take hi hs b hr e (.inr ⟨j,rfl⟩) hS ?_;rw[hd];simpa[Act.put]using h
end
section
variable{w:World}
def jQ(i d){l:ki}[aM X w]
  (h:wpAnyH P md ops Q (λw'=>aj w' X) m (listed.setIfInBounds i true) ⟨l'.toArray,df⟩ w)
  (hi:ops[i]?=some oi:=by rfl) (hd:oi.dst=some d:=by rfl)
  (hs:Region.noSelect ops=true:=by kernel_rfl) (b:Region.free md ops listed i=true:=by kernel_rfl) (hr:(Region.ready md ops listed).contains i=true:=by kernel_rfl)
  (e:∀c a w,Q (.panic c) (a.put oi.dst v) w->Q (.panic c) a w:=by exact λ_ _ _ h=>h) (j:Region.wanted oi (yielded ops l.toArray)=true:=by kernel_rfl)
  (r:∀u,aj u X->(execOp (Act.eval ⟨l.toArray,df⟩) oi).run P u=.ok (.value v) u:=by intro u _;go_simp;try(with_reducible rfl))
  (y:l.set d v=l':=by try simp only[List.set];try rfl)
  :wpAnyH P md ops Q (λw'=>aj w' X) (m+1) listed ⟨l.toArray,df⟩ w:=by
 subst y;exact b0 hi hd hs b hr e j ⟨aO X w⟩ r h
def oZ(i d){l:ki}[aM X w]
  (h:wpAnyH P md ops Q (λw'=>aj w' X) m (listed.setIfInBounds i true) ⟨l'.toArray,df⟩ w)
  (hi:ops[i]?=some oi:=by rfl) (hd:oi.dst=some d:=by rfl)
  (hs:Region.noSelect ops=true:=by kernel_rfl) (b:Region.free md ops listed i=true:=by kernel_rfl) (hr:(Region.ready md ops listed).contains i=true:=by kernel_rfl)
  (e:∀c a w,Q (.panic c) (a.put oi.dst undef) w->Q (.panic c) a w:=by exact λ_ _ _ h=>h) (j:Region.wanted oi (yielded ops l.toArray)=false:=by kernel_rfl)
  (r:l.set d undef=l':=by try simp only[List.set];try rfl)
  :wpAnyH P md ops Q (λw'=>aj w' X) (m+1) listed ⟨l.toArray,df⟩ w:=by
 subst r;exact q2 hi hd hs b hr e j ⟨aO X w⟩ h
end
end
section
variable{X:World}{df:List Deferred}
inductive Qs(P:Program)(ops:Array Oper)(Q:Exit->Act->World->Prop)(md:Region.Mode)(S:World->Prop)(df:List Deferred):Nat->Array Bool->List Value->List Nat->Nat->Array Bool->List Value->Prop
 |nil {f:Nat} {listed:Array Bool} {l:List Value}:Qs P ops Q md S df f listed l [] f listed l
 |on {i:Nat} {is:List Nat} {f f' d:Nat} {oi:Oper} {v:Value} {listed hR:Array Bool} {l l1 l':List Value}
  (hi:ops[i]?=some oi) (hd:oi.dst=some d) (hs:Region.noSelect ops=true) (hf:Region.free md ops listed i=true) (hr:(Region.ready md ops listed).contains i=true)
  (hQ:∀c a w,Q (.panic c) (a.put oi.dst v) w->Q (.panic c) a w) (hw:Region.wanted oi (yielded ops l.toArray)=true)
  (hy:∀u,S u->(execOp (Act.eval ⟨l.toArray,df⟩) oi).run P u=.ok (.value v) u) (hl:l.set d v=l1)
  (h:Qs P ops Q md S df f (listed.setIfInBounds i true) l1 is f' hR l'):Qs P ops Q md S df (f+1) listed l (i::is) f' hR l'
 |off {i:Nat} {is:List Nat} {f f' d:Nat} {oi:Oper} {listed hR:Array Bool} {l l1 l':List Value}
  (hi:ops[i]?=some oi) (hd:oi.dst=some d) (hs:Region.noSelect ops=true) (hf:Region.free md ops listed i=true) (hr:(Region.ready md ops listed).contains i=true)
  (hQ:∀c a w,Q (.panic c) (a.put oi.dst undef) w->Q (.panic c) a w) (hw:Region.wanted oi (yielded ops l.toArray)=false)
  (hl:l.set d undef=l1)
  (h:Qs P ops Q md S df f (listed.setIfInBounds i true) l1 is f' hR l'):Qs P ops Q md S df (f+1) listed l ((i+500)::is) f' hR l'
theorem aaN{P:Program}{ops:Array Oper}{Q:Exit->Act->World->Prop}{md:Region.Mode}{S:World->Prop}{w:World}{f f':Nat}{listed hR:Array Bool}{l l':List Value}{is:List Nat}(hS:S w)
  (hq:Qs P ops Q md S df f listed l is f' hR l') (h:wpAnyH P md ops Q S f' hR ⟨l'.toArray,df⟩ w):wpAnyH P md ops Q S f listed ⟨l.toArray,df⟩ w:=by
 induction hq with
 |nil=>exact h
 |on hi hd hs hf hr hQ hw hy hl _ ih=>subst hl;exact b0 hi hd hs hf hr hQ hw hS hy (ih h)
 |off hi hd hs hf hr hQ hw hl _ ih=>subst hl;exact q2 hi hd hs hf hr hQ hw hS (ih h)
variable{P:Program}{ops:Array Oper}{Q:Exit->Act->World->Prop}{md:Region.Mode}{w:World}{f f':Nat}{listed hR:Array Bool}{l l':List Value}
theorem qL(is:List Nat)[aM X w](h:wpAnyH P md ops Q (fun w'=>aj w' X) f' hR ⟨l'.toArray,df⟩ w)
  (hq:Qs P ops Q md (fun w'=>aj w' X) df f listed l is f' hR l':=by
   repeat
    first
    |exact .nil
    |apply Qs.off
     ·exact rfl
     ·exact rfl
     ·kernel_rfl
     ·kernel_rfl
     ·kernel_rfl
     ·exact fun _ _ _ h=>h
     ·kernel_rfl
     ·try simp only[List.set]
      try rfl
    |apply Qs.on
     ·exact rfl
     ·exact rfl
     ·kernel_rfl
     ·kernel_rfl
     ·kernel_rfl
     rotate_left
     ·kernel_rfl
     ·intro u hu
      try dsimp only at hu
      go_simp
      try(with_reducible rfl)
     ·try simp only[List.set]
      try rfl
     rotate_right
     ·exact fun _ _ _ h=>h)
  :wpAnyH P md ops Q (fun w'=>aj w' X) f listed ⟨l.toArray,df⟩ w:=aaN ⟨aO X w⟩ hq h
end
section
variable{P:Program}{ops:Array Oper}{Q:Exit->Act->World->Prop}{md:Region.Mode}{S:World->Prop}{w:World}
theorem oA(i:Nat){d:Nat}{oi:Oper}{v:Value}{fuel:Nat}{listed:Array Bool}{l l':List Value}{df:List Deferred}
  (h:wpAnyH P md ops Q S fuel (listed.setIfInBounds i true) ⟨l'.toArray,df⟩ w)
  (hi:ops[i]?=some oi:=by rfl) (hd:oi.dst=some d:=by rfl)
  (hs:Region.noSelect ops=true:=by kernel_rfl) (hf:Region.free md ops listed i=true:=by kernel_rfl) (hr:(Region.ready md ops listed).contains i=true:=by kernel_rfl)
  (hQ:∀c a w,Q (.panic c) (a.put oi.dst v) w->Q (.panic c) a w:=by exact fun _ _ _ h=>h) (hw:Region.wanted oi (yielded ops l.toArray)=true:=by kernel_rfl)
  (hS:S w:=by assumption) (hy:∀u,S u->(execOp (Act.eval ⟨l.toArray,df⟩) oi).run P u=.ok (.value v) u:=by intro w hSw;(try dsimp only at hSw);go_simp;try(with_reducible rfl))
  (hl:l.set d v=l':=by try simp only[List.set];try rfl):wpAnyH P md ops Q S (fuel+1) listed ⟨l.toArray,df⟩ w:=by
 subst hl;exact b0 hi hd hs hf hr hQ hw hS hy h
theorem fA(i:Nat){d:Nat}{oi:Oper}{fuel:Nat}{listed:Array Bool}{l l':List Value}{df:List Deferred}
  (h:wpAnyH P md ops Q S fuel (listed.setIfInBounds i true) ⟨l'.toArray,df⟩ w)
  (hi:ops[i]?=some oi:=by rfl) (hd:oi.dst=some d:=by rfl)
  (hs:Region.noSelect ops=true:=by kernel_rfl) (hf:Region.free md ops listed i=true:=by kernel_rfl) (hr:(Region.ready md ops listed).contains i=true:=by kernel_rfl)
  (hQ:∀c a w,Q (.panic c) (a.put oi.dst undef) w->Q (.panic c) a w:=by exact fun _ _ _ h=>h) (hw:Region.wanted oi (yielded ops l.toArray)=false:=by kernel_rfl)
  (hS:S w:=by first|assumption|exact⟨aG _ _,inferInstance⟩|exact⟨aG _ _,inferInstance,inferInstance⟩|exact⟨aG _ _,inferInstance,inferInstance,inferInstance⟩)
  (hl:l.set d undef=l':=by try simp only[List.set];try rfl):wpAnyH P md ops Q S (fuel+1) listed ⟨l.toArray,df⟩ w:=by
 subst hl;exact q2 hi hd hs hf hr hQ hw hS h
theorem br(i:Nat){d:Nat}{oi:Oper}{v:Value}{fuel:Nat}{listed:Array Bool}{l l':List Value}{df:List Deferred}
  (h:wpAnyH P md ops Q S fuel (listed.setIfInBounds i true) ⟨l'.toArray,df⟩ w)
  (hi:ops[i]?=some oi:=by rfl) (hd:oi.dst=some d:=by rfl)
  (hs:Region.noSelect ops=true:=by kernel_rfl) (hf:Region.free md ops listed i=true:=by kernel_rfl) (hr:(Region.ready md ops listed).contains i=true:=by kernel_rfl)
  (hQ:∀c a w,Q (.panic c) (a.put oi.dst v) w->Q (.panic c) a w:=by exact fun _ _ _ h=>h) (hw:Region.wanted oi (yielded ops l.toArray)=true:=by kernel_rfl)
  (hS:S w:=by exact⟨aG _ _,inferInstance⟩) (hy:∀u,S u->(execOp (Act.eval ⟨l.toArray,df⟩) oi).run P u=.ok (.value v) u:=by rintro uu ⟨pu,r1⟩;go_simp;try(with_reducible rfl))
  (hl:l.set d v=l':=by try simp only[List.set];try rfl):wpAnyH P md ops Q S (fuel+1) listed ⟨l.toArray,df⟩ w:=
 oA i h hi hd hs hf hr hQ hw hS hy hl
theorem bp(i:Nat){d:Nat}{oi:Oper}{v:Value}{fuel:Nat}{listed:Array Bool}{l l':List Value}{df:List Deferred}
  (h:wpAnyH P md ops Q S fuel (listed.setIfInBounds i true) ⟨l'.toArray,df⟩ w)
  (hi:ops[i]?=some oi:=by rfl) (hd:oi.dst=some d:=by rfl)
  (hs:Region.noSelect ops=true:=by kernel_rfl) (hf:Region.free md ops listed i=true:=by kernel_rfl) (hr:(Region.ready md ops listed).contains i=true:=by kernel_rfl)
  (hQ:∀c a w,Q (.panic c) (a.put oi.dst v) w->Q (.panic c) a w:=by exact fun _ _ _ h=>h) (hw:Region.wanted oi (yielded ops l.toArray)=true:=by kernel_rfl)
  (hS:S w:=by exact⟨aG _ _,inferInstance,inferInstance⟩) (hy:∀u,S u->(execOp (Act.eval ⟨l.toArray,df⟩) oi).run P u=.ok (.value v) u:=by rintro uu ⟨pu,r1,r2⟩;go_simp;try(with_reducible rfl))
  (hl:l.set d v=l':=by try simp only[List.set];try rfl):wpAnyH P md ops Q S (fuel+1) listed ⟨l.toArray,df⟩ w:=
 oA i h hi hd hs hf hr hQ hw hS hy hl
theorem a1(i:Nat){d:Nat}{oi:Oper}{v:Value}{fuel:Nat}{listed:Array Bool}{l l':List Value}{df:List Deferred}
  (h:wpAnyH P md ops Q S fuel (listed.setIfInBounds i true) ⟨l'.toArray,df⟩ w)
  (hi:ops[i]?=some oi:=by rfl) (hd:oi.dst=some d:=by rfl)
  (hs:Region.noSelect ops=true:=by kernel_rfl) (hf:Region.free md ops listed i=true:=by kernel_rfl) (hr:(Region.ready md ops listed).contains i=true:=by kernel_rfl)
  (hQ:∀c a w,Q (.panic c) (a.put oi.dst v) w->Q (.panic c) a w:=by exact fun _ _ _ h=>h) (hw:Region.wanted oi (yielded ops l.toArray)=true:=by kernel_rfl)
  (hS:S w:=by exact⟨aG _ _,inferInstance,inferInstance,inferInstance⟩) (hy:∀u,S u->(execOp (Act.eval ⟨l.toArray,df⟩) oi).run P u=.ok (.value v) u:=by rintro uu ⟨pu,r1,r2,r3⟩;go_simp;try(with_reducible rfl))
  (hl:l.set d v=l':=by try simp only[List.set];try rfl):wpAnyH P md ops Q S (fuel+1) listed ⟨l.toArray,df⟩ w:=
 oA i h hi hd hs hf hr hQ hw hS hy hl
theorem eE(i:Nat){d:Nat}{X:World}{oi:Oper}{v:Value}{fuel:Nat}{listed:Array Bool}{l l':List Value}{df:List Deferred}[aM X w]
  (h:wpAnyH P md ops Q (fun w'=>aj w' X) fuel (listed.setIfInBounds i true) ⟨l'.toArray,df⟩ w)
  (hi:ops[i]?=some oi:=by rfl) (hd:oi.dst=some d:=by rfl)
  (hs:Region.noSelect ops=true:=by kernel_rfl) (hf:Region.free md ops listed i=true:=by kernel_rfl) (hr:(Region.ready md ops listed).contains i=true:=by kernel_rfl)
  (hQ:∀c a w,Q (.panic c) (a.put oi.dst v) w->Q (.panic c) a w:=by exact fun _ _ _ h=>h) (hw:Region.wanted oi (yielded ops l.toArray)=true:=by kernel_rfl)
  (hy:∀u,aj u X->(execOp (Act.eval ⟨l.toArray,df⟩) oi).run P u=.ok (.value v) u:=by intro u _;go_simp;try(with_reducible rfl))
  (hl:l.set d v=l':=by try simp only[List.set];try rfl)
  :wpAnyH P md ops Q (fun w'=>aj w' X) (fuel+1) listed ⟨l.toArray,df⟩ w:=
 jQ i d h hi hd hs hf hr hQ hw hy hl
theorem af0(i:Nat){d:Nat}{X:World}{oi:Oper}{fuel:Nat}{listed:Array Bool}{l l':List Value}{df:List Deferred}[aM X w]
  (h:wpAnyH P md ops Q (fun w'=>aj w' X) fuel (listed.setIfInBounds i true) ⟨l'.toArray,df⟩ w)
  (hi:ops[i]?=some oi:=by rfl) (hd:oi.dst=some d:=by rfl)
  (hs:Region.noSelect ops=true:=by kernel_rfl) (hf:Region.free md ops listed i=true:=by kernel_rfl) (hr:(Region.ready md ops listed).contains i=true:=by kernel_rfl)
  (hQ:∀c a w,Q (.panic c) (a.put oi.dst undef) w->Q (.panic c) a w:=by exact fun _ _ _ h=>h) (hw:Region.wanted oi (yielded ops l.toArray)=false:=by kernel_rfl)
  (hl:l.set d undef=l':=by try simp only[List.set];try rfl)
  :wpAnyH P md ops Q (fun w'=>aj w' X) (fuel+1) listed ⟨l.toArray,df⟩ w:=
 oZ i d h hi hd hs hf hr hQ hw hl
variable{fuel:Nat}{listed:Array Bool}{a a':Act}{o o' Mu:Oper}
theorem aJ(i:Nat)
  (h:∀K':Act->World->Prop,Shut (∀a w,S w->(S w->wpAnyH P md ops Q S fuel (listed.setIfInBounds i true) a w)->K' a w)->if Region.wanted o (yielded ops a.tmps)=true then Oper.wp P o a w K' Q else K' (a.put o.dst undef) w)
  (hr:Region.ready md ops listed=[i]:=by kernel_rfl) (ho:ops[i]?=some o:=by rfl):wpAnyH P md ops Q S (fuel+1) listed a w:=
 wpAnyH_ready hr zAe (AllReadyH.cons ho h AllReadyH.nil)
theorem pP(i j:Nat)
  (h:∀K':Act->World->Prop,Shut (∀a w,S w->(S w->wpAnyH P md ops Q S fuel (listed.setIfInBounds i true) a w)->K' a w)->if Region.wanted o (yielded ops a.tmps)=true then Oper.wp P o a w K' Q else K' (a.put o.dst undef) w)
  (h':∀K':Act->World->Prop,Shut (∀a w,S w->(S w->wpAnyH P md ops Q S fuel (listed.setIfInBounds j true) a w)->K' a w)->if Region.wanted o' (yielded ops a.tmps)=true then Oper.wp P o' a w K' Q else K' (a.put o'.dst undef) w)
  (hr:Region.ready md ops listed=[i,j]:=by kernel_rfl) (ho:ops[i]?=some o:=by rfl) (G4:ops[j]?=some o':=by rfl):wpAnyH P md ops Q S (fuel+1) listed a w:=
 wpAnyH_ready hr zAe (AllReadyH.cons ho h (AllReadyH.cons G4 h' AllReadyH.nil))
inductive Tg:Nat->Prop
 |mk (n:Nat):Tg n
theorem kj(i:Nat)(h:wpAnyH P md ops Q S fuel listed a w)(_hr:(Region.ready md ops listed).contains i=true:=by decide+kernel):wpAnyH P md ops Q S fuel listed a w:=h
theorem ff(i:Nat)
  (h:Tg i->∀K':Act->World->Prop,Shut (∀a w,S w->(S w->wpAnyH P md ops Q S fuel (listed.setIfInBounds i true) a w)->K' a w)->if Region.wanted o (yielded ops a.tmps)=true then Oper.wp P o a w K' Q else K' (a.put o.dst undef) w)
  (hr:Region.ready md ops listed=[i]:=by decide+kernel) (ho:ops[i]?=some o:=by rfl):wpAnyH P md ops Q S (fuel+1) listed a w:=
 wpAnyH_ready hr zAe (AllReadyH.cons ho (h (.mk i)) AllReadyH.nil)
theorem my(i j:Nat)
  (h:Tg i->∀K':Act->World->Prop,Shut (∀a w,S w->(S w->wpAnyH P md ops Q S fuel (listed.setIfInBounds i true) a w)->K' a w)->if Region.wanted o (yielded ops a.tmps)=true then Oper.wp P o a w K' Q else K' (a.put o.dst undef) w)
  (h':Tg j->∀K':Act->World->Prop,Shut (∀a w,S w->(S w->wpAnyH P md ops Q S fuel (listed.setIfInBounds j true) a w)->K' a w)->if Region.wanted o' (yielded ops a.tmps)=true then Oper.wp P o' a w K' Q else K' (a.put o'.dst undef) w)
  (hr:Region.ready md ops listed=[i,j]:=by decide+kernel) (ho:ops[i]?=some o:=by rfl) (G4:ops[j]?=some o':=by rfl):wpAnyH P md ops Q S (fuel+1) listed a w:=
 wpAnyH_ready hr zAe (AllReadyH.cons ho (h (.mk i)) (AllReadyH.cons G4 (h' (.mk j)) AllReadyH.nil))
theorem rz3(i j k:Nat)
  (h:Tg i->∀K':Act->World->Prop,Shut (∀a w,S w->(S w->wpAnyH P md ops Q S fuel (listed.setIfInBounds i true) a w)->K' a w)->if Region.wanted o (yielded ops a.tmps)=true then Oper.wp P o a w K' Q else K' (a.put o.dst undef) w)
  (h':Tg j->∀K':Act->World->Prop,Shut (∀a w,S w->(S w->wpAnyH P md ops Q S fuel (listed.setIfInBounds j true) a w)->K' a w)->if Region.wanted o' (yielded ops a.tmps)=true then Oper.wp P o' a w K' Q else K' (a.put o'.dst undef) w)
  (h'':Tg k->∀K':Act->World->Prop,Shut (∀a w,S w->(S w->wpAnyH P md ops Q S fuel (listed.setIfInBounds k true) a w)->K' a w)->if Region.wanted Mu (yielded ops a.tmps)=true then Oper.wp P Mu a w K' Q else K' (a.put Mu.dst undef) w)
  (hr:Region.ready md ops listed=[i,j,k]:=by decide+kernel) (ho:ops[i]?=some o:=by rfl) (G4:ops[j]?=some o':=by rfl) (ad0:ops[k]?=some Mu:=by rfl):wpAnyH P md ops Q S (fuel+1) listed a w:=
 wpAnyH_ready hr zAe (AllReadyH.cons ho (h (.mk i)) (AllReadyH.cons G4 (h' (.mk j)) (AllReadyH.cons ad0 (h'' (.mk k)) AllReadyH.nil)))
theorem DW(h:Q .normal a w)(hr:Region.ready md ops listed=[]:=by decide+kernel):wpAnyH P md ops Q S fuel listed a w:=wpAnyH_done hr h _
theorem a8{a:Act}(h:Q .normal a w)(hr:Region.ready md ops listed=[]:=by kernel_rfl):wpAnyH P md ops Q S fuel listed a w:=wpAnyH_done hr h _
theorem aE{K':Act->World->Prop}(hK:Shut (∀a w,S w->(S w->wpAnyH P md ops Q S fuel listed a w)->K' a w))(h:wpAnyH P md ops Q S fuel listed a' w)(hS:S w:=by exact aG _ _)
  (ha:a=a':=by(try dsimp only[Act.put,List.setIfInBounds_toArray,List.set_cons_zero,List.set_cons_succ]);try rfl):K' a w:=by
 subst ha;exact hK.out _ _ hS fun _=>h
theorem q8{K':Act->World->Prop}(hK:Shut (∀a w,S w->(S w->wpAnyH P md ops Q S fuel listed a w)->K' a w))(h:S w->wpAnyH P md ops Q S fuel listed a' w)(hS:S w:=by exact aG _ _)
  (ha:a=a':=by(try dsimp only[Act.put,List.setIfInBounds_toArray,List.set_cons_zero,List.set_cons_succ]);try rfl):K' a w:=by
 subst ha;exact hK.out _ _ hS h
end
section
variable{X:World}{m:Nat}{xs:List Int}{P:Program}{md:Region.Mode}{ops:Array Oper}{Q:Exit->Act->World->Prop}{listed:Array Bool}{a:Act}
@[grind cases]structure hU(bs:List Nat)(W wr:World):Prop where
 size:W.1.size<=wr.1.size
 same:∀k,k<W.1.size->k∉bs->wr.heap[k]?=W.heap[k]?
variable{bs:List Nat}
def hU.refl(bs)(W):hU bs W W:=⟨al _,λ_ _ _=>rfl⟩
theorem hU.av(h:hU bs W wr)(hg:g∈bs)(i:Nat)(v:Value):hU bs W (wr.setCell (g,i) v):=
 ⟨by have:=h.size;simp;omega,λk b e=>(bb wr ⟨g,i,none⟩ v k ay).trans (h.same k b e)⟩
def hU.drew(h:hU bs W wr):hU bs W wr.drew:=⟨h.size,h.same⟩
theorem hU.below(h:hU bs W wr)(hb:Below wr.1.size wr w'):hU bs W w':=
 ⟨aQ h.size hb.size,λk b hg=>(hb.block k ay).trans (h.same k b hg)⟩
def hU.ak{k:Nat}{cs:dw}(h:hU bs W wr)(hb:aA W k T cs)(b:k∉bs):aA wr k T cs:=(h.same k hb.lt b).trans hb
def hU.own{k:Nat}(h:hU bs W wr)(hb:Own W k T zs)(b:k∉bs):Own wr k T zs:=(h.same k hb.lt b).trans hb
def hU.rd(h:hU bs W wr)(r:Rd W A zs)(l:∀m,A=some m->m.block∉bs):Rd wr A zs:=by
 exact zA3
def hU.fU{w:ab}(h:hU bs W wr)(j:Rd w A zs)(l:Rd W A zs)(hg:∀g∈bs,w.1.size<=g):Rd wr A zs:=by
 by_cases b:zs=[];subst b;exact Rd.nil _ _;exact h.rd l λm e hm=>by have:=j.old b m e;have:=hg _ hm;omega
def fE{bs:List Nat}{W:ab}{g:Nat}(hg:g∈bs):∀(b:ki) (o:Nat) {wr:ab},hU bs W wr->hU bs W (wr.setCells g o b)
 |[],_,_,h=>h
 |v::b,o,_,h=>fE hg b (o+1) (h.av hg o v)
def dH{n g:Nat}{w:ab}(hg:n<=g):∀(b:ki) (o:Nat) {wr:ab},Below n w wr->Below n w (wr.setCells g o b)
 |[],_,_,h=>h
 |v::b,o,_,h=>dH hg b (o+1) (h.setCell (p:=⟨g,o,none⟩) hg v)
theorem ty{g:Nat}{T:TypeId}:∀(b:au) (o:Nat) {w:ab} {xs:au},Own w g T xs->o+b.length<=xs.length->Own (w.setCells g o (b.map (Value.int .i64))) g T (xs.take o++b++xs.drop (o+b.length))
 |[],o,w,xs,h,_=>by simpa[World.setCells]using h
 |v::b,o,w,xs,h,l=>by have j:=ty b (o+1) (h.av o v) ay;(have e:(xs.set o v).take (o+1)++b++(xs.set o v).drop (o+1+b.length)=xs.take o++(v::b)++xs.drop (o+(v::b).length):=by simp at l;rw[z8,ah Y,PF ch,sG (al o)];simp[vd];omega);rw[e]at j;exact j
def Own.clear{w:ab}(h:Own w g T xs):Own (w.setCells g 0 (List.replicate xs.length an)) g T (List.replicate xs.length 0):=by
 have:=ty (List.replicate xs.length 0) 0 h aI;simpa using this
def hZ(t e b)(ht:P.underlying t=some (.slice e))(l:(P.info? e).map (·.zero)=some (some (.int .i64 0))){w:ab}(h:Own w g T xs)(m:0<xs.length)(c):
  (Builtin.clear_ #[t] b #[.slice g xs c]).run P w=.ok (.tuple #[]) (w.setCells g 0 (List.replicate xs.length an)):=by
 have⟨i,hi,DX⟩:=bJ.1 l;refine Lib.run_clear_slice w t e b an ht (λw=>?_) rfl rfl g 0 xs.length c m (λj r=>?_) (λj _=>by rw[cQ];exact h.frozen j)
 .simp[zeroValue,typeInfo,hi,DX,go_sem]
 rw[cQ,h.cell (bk r)];rfl
def nQ{S:World->Prop}{cs:dw}
  (h:∀u,aj u X->aA u X.1.size T cs->u.1.size=X.1.size+1->wpAnyH P md ops Q S m listed a u):wpAnyH P md ops Q S m listed a (X.alloc (.cells cs T)):=
 h _ (aj.alloc _ _) (aA.new _ _ _) aI
def Az{S:World->Prop}
  (h:∀u,aj u X->wpAnyH P md ops Q S m listed a u):wpAnyH P md ops Q S m listed a X.drew:=h _ (aj.drew _)
end
variable{z:Int}
def aB(zs:au):Int:=zs.foldl (· * ·) 1
def cj(zs:au):Bool:=zs.all λz=>decide (1<=z)&&decide (z<=1024)
def aH(zs:au):Bool:=decide (1<=zs.length)&&decide (zs.length<=4)&&cj zs&&decide (aB zs<=65536)
def jr(l)(z):aB (l++[z])=aB l*z:=by simp[aB]
theorem take_at{α:Type}{l:List α}{k:Nat}{z:α}(h:l[k]?=some z):l.take (k+1)=l.take k++[z]:=by
 obtain⟨b,rfl⟩:=bj.1 h;grind [List.take_succ_eq_append_getElem]
def DY(l)(z):cj (l++[z])=(cj l&&(decide (1<=z)&&decide (z<=1024))):=by simp[cj]
theorem bW{l:au}(h:cj l=true)(b:z∈l):1<=z/\z<=1024:=by
 have:=dL.1 h z b;grind
theorem dI{l:au}(h:cj l=true){k:Nat}(b:l[k]?=some z):1<=z/\z<=1024:=
 bW h ay
theorem ov{l:au}(h:cj l=true)(k):cj (l.take k)=true:=
 dL.2 λz b=>dL.1 h z ay
def AA{l:au}{k:Nat}(b:l[k]?=some z)(h:¬(1<=z/\z<=1024)):cj l=false:=by
 rcases hb:cj l with _|_;rfl;exact absurd (dI hb b) h
def DZ{l:au}(h:cj l=false):aH l=false:=by simp[aH,h]
def Ja{l:au}(h:¬(1<=l.length/\l.length<=4)):aH l=false:=by
 simp[aH];omega
def G5{l:au}(b:1<=l.length)(e:l.length<=4)(h:cj l=true):aH l=decide (aB l<=65536):=by simp[aH,b,e,h]
def l9{a c:Int}(l:1<=a)(e:a<=c)(hb:1<=z)(j:z<=1024):1<=a*z/\a*z<=c*1024:=by
 have m:a*z<=c*z:=zC e Y;have r:c*z<=c*1024:=sx j Y;have u:1*1<=a*z:=l2 l hb Y Y;omega
theorem EW(l)(h:cj l=true):1<=aB l/\aB l<=1024^l.length:=by
 have key:∀(m:au) (a c:Int),cj m=true->1<=a->a<=c->1<=m.foldl (· * ·) a/\m.foldl (· * ·) a<=c*1024^m.length:=by
  intro m;induction m with
  |nil=>grind
  |cons z m r=>intro a c hm u y;have j:=bW hm (dD);(have e:cj m=true:=by simp[cj]at hm⊢;exact hm.2);have b:=l9 u y j.1 j.2;have:=r (a*z) (c*1024) e b.1 b.2;grind [List.length_cons,Int.pow_succ,Int.mul_comm,Int.mul_assoc]
 have:=key l 1 1 h Y Y;simpa[aB]using this
theorem pQ(l)(h:cj l=true)(b:l.length<=4):1<=aB l/\aB l<=1099511627776:=by
 have⟨h1,h2⟩:=EW l h;refine⟨h1,?_⟩;have:l.length=0\/l.length=1\/l.length=2\/l.length=3\/l.length=4:=Y;grind
def mz(l)(h:cj l=true)(b:l.length<=4)(k):1<=aB (l.take k)/\aB (l.take k)<=1099511627776:=
 pQ _ (ov h k) ch
theorem ba(zs):aH zs=true↔1<=zs.length/\zs.length<=4/\cj zs=true/\aB zs<=65536:=by
 simp[aH,pO]
theorem jk{l:au}(h:∀z∈l,1<=z):1<=aB l:=by
 have key:∀(m:au) (a:Int),(∀z∈m,1<=z)->1<=a->a<=m.foldl (· * ·) a:=by
  intro m;induction m with
  |nil=>grind
  |cons z m j=>intro a hm r;have b:=hm z dD;have e:a*1<=a*z:=sx b Y;grind
 exact key l 1 h (eb 1)
theorem oz(a b):aB (a++b)=aB a*aB b:=by
 have key:∀(m:au) (x:Int),m.foldl (· * ·) x=x*m.foldl (· * ·) 1:=by
  intro m;induction m with
  |nil=>intro x;simp
  |cons z m e=>grind
 grind [aB]
theorem AB{l:au}(h:∀z∈l,1<=z)(k):aB (l.take k)<=aB l:=by
 have j:1<=aB (l.take k):=jk ay;have b:1<=aB (l.drop k):=jk ay;have e:aB l=aB (l.take k)*aB (l.drop k):=by rw[<-oz,d3]
 rw[e];have:aB (l.take k)*1<=aB (l.take k)*aB (l.drop k):=sx b Y;grind
def bG(zs:au):Int:=if aH zs then aB zs else 0
def cB(zs:au):Int:=if aH zs then 0 else 20
theorem yr(z)(zs):aB (z::zs)=z*aB zs:=by
 have:=oz [z] zs;simpa[aB]using this
def AD{α:Type}{l:List α}{k:Nat}{z:α}(h:l[k]?=some z):l.drop k=z::l.drop (k+1):=by
 obtain⟨b,rfl⟩:=bj.1 h;exact e7 b
theorem oB{l:au}(h:cj l=true)(k):cj (l.drop k)=true:=
 dL.2 λz b=>dL.1 h z ay
variable{O xs:List Int}{x y:Int}
def pR(w:ab)(b:Bool)(e:Ending)(w':ab):Prop:=e=.returned (.bool b)/\∃n,w'=w.drewN n
theorem Vo{k:Nat}(b:xs[k]?=some x)(e:O[k]?=some y)(h:x≠y):xs≠O:=by
 grind
def vf{k:Nat}(b:xs.length=O.length)(h:xs.take k=O.take k)(e:¬k<xs.length):xs=O:=by
 rw[bV Y,bV Y]at h;exact h
def ep(z:Int):Bool:=decide (0<=z)&&decide (z<=1099511627776)
def nR(z:Int)(w:ab):() 77 #[z] w λe w'=>e=.returned (.bool (ep z))/\w=w':=by
 go_in;go_wp2;all_goals go_ret;exact⟨bR (by simp_all [ep];try omega),rfl⟩
def zA2(h:Γ:=by go_in;go_wp2;go_ret;exact⟨rfl,rfl⟩):=h
def Mv(z:Int)(w:ab):() 131 #[z] w λe w'=>e=.returned (.bool (z !=0))/\w=w':=by
 exact zA2
def zA8(h:Γ:=by exact⟨0,aR _,rfl,rfl⟩):=h
def kv(F:Nat)(f:Int->Bool)(hF:∀z w,() F #[.int .i64 z] w λe w'=>e=.returned (.bool (f z))/\w=w')
  (m:∀z w,Sem.run prog (callFunc F #[.int .i64 z]) w=.ok (.enter F #[.int .i64 z]) w)
  (A:bz) (c:Nat) (zs:au) (w:ab) (hs:zs.length<=1000000) (h:Rd w A zs):
  () 76 #[.slice A zs c,.func (.func F) #[] #[]] w λe w'=>e=.returned (.bool (zs.all f))/\w=w':=by
 have u:=U hF;go_in;go_wp2_with fail;go_loop [9] (λi=>∃k:Nat,k<=zs.length/\i=.int .i64 k/\(zs.take k).all f=true) (λi=>zs.length-(intOf i).toNat);case atStart=>exact zA8
 case round=>
  obtain⟨k,E,rfl,j⟩:=hrel;have y:=U j;clear j;by_cases r:k<zs.length
  .obtain⟨b,off,z,rfl,hb,G,B⟩:=h.get r;rcases D1:f z with _|_
   .have l:=U D1;(have C:Z (zs.all f=false):=by refine pI.2 ⟨z,aK B.o,?_⟩;rw[l.o];simp);go_wp2;refine(u.o z _).mono ?_;rintro e w' ⟨rfl,rfl⟩;rw[l.o];go_wp2;go_ret;exact⟨bR (by rw[C.o]),rfl⟩
   have l:=U D1;go_wp2;refine(u.o z _).mono ?_;rintro e w' ⟨rfl,rfl⟩;rw[l.o];go_wp2;go_round;(case rel=>exact⟨k+1,Y,by go_num,by rw[take_at B.o,va,y.o];simp[l.o]⟩);case measure=>exact ou
  (have D:Z (zs.all f=true):=by have:=y.o;rwa[bV Y]at this);go_wp2;go_ret;exact⟨bR (by rw[D.o]),rfl⟩
theorem AE(w:ab)(p z:Int)(hp:1<=p)(j:1<=z)(l:p<=1099511627776)(h:p*z<=1099511627776):
  () 132 #[z,.pointer w.1.size] (w.alloc (.cells #[p] 3)) λe w'=>e=.returned (.bool true)/\w.alloc (.cells #[.int .i64 (p*z)] 3)=w':=by
 have m:¬(1099511627776/p<z):=by have:=(zM (a:=z) (b:=1099511627776) (c:=p) Y).2 ay;omega
 have r:1<=p*z:=by have:=l2 hp j Y Y;omega
 exact zA2
def D2(w:ab)(p z:Int)(hp:1<=p)(_hz:1<=z)(j:p<=1099511627776)(h:¬p*z<=1099511627776):
  () 132 #[z,.pointer w.1.size] (w.alloc (.cells #[p] 3)) λe w'=>e=.returned (.bool false)/\w.alloc (.cells #[p] 3)=w':=by
 have m:1099511627776/p<z:=by by_cases l:1099511627776/p<z;exact l;exact absurd (by have:=(zM (a:=z) (b:=1099511627776) (c:=p) Y).1 Y;rwa[mw]at this) h
 exact zA2
def RF(w:ab)(zs:au)(e:Ending)(w':ab):Prop:=
 e=.returned (.bool (decide (aB zs<=1099511627776)))/\∃p,w'=w.alloc (.cells #[.int .i64 p] 3)/\(aB zs<=1099511627776->p=aB zs)
def zAb(h:Γ:=by simp[intOf];omega):=h
def yZ(A:bz)(c:Nat)(zs:au)(w:ab)(hs:zs.length<=1000000)(h:Rd w A zs)(j:Z (∀z∈zs,1<=z)):
  () 76 #[.slice A zs c,.func (.func 132) #[] #[.pointer w.1.size]] (w.alloc (.cells #[(1:Int)] 3)) (RF w zs):=by
 have I:=h.alloc (.cells #[(1:Int)] 3);go_in;go_wp2_with fail;go_loopw [9] (λi wr=>∃k:Nat,k<=zs.length/\i=.int .i64 k/\aB (zs.take k)<=1099511627776/\wr=w.alloc (.cells #[.int .i64 (aB (zs.take k))] 3)) (λi _=>zs.length-(intOf i).toNat);exact⟨0,aR _,rfl,by simp[aB],rfl⟩;obtain⟨k,J,rfl,l,rfl⟩:=hrel;have u:1<=aB (zs.take k):=jk λz r=>j.o z (eS r);by_cases B:k<zs.length
 .have E:=h.alloc (.cells #[.int .i64 (aB (zs.take k))] 3);obtain⟨b,off,z,rfl,hb,K,r⟩:=h.get B;have y:1<=z:=j.o z (aK r.o);have F:=E.all r.o;by_cases m:aB (zs.take k)*z<=1099511627776
  .go_wp2_with fail;refine(AE w _ z u y l m).mono ?_;rintro e w' ⟨rfl,rfl⟩;go_wp2;go_roundw;exact⟨k+1,Y,by go_num,by rw[take_at r.o,jr];exact m,by rw[take_at r.o,jr]⟩;exact zAb
  have C:Z (1099511627776<aB zs):=U (by
   have:=AB j (k+1);rw[take_at r.o,jr]at this;omega)
  go_wp2_with fail;refine(D2 w _ z u y l Y).mono ?_;rintro e w' ⟨rfl,rfl⟩;go_wp2_with fail;go_ret;exact⟨bR (by simpa using C.o),_,rfl,λG=>absurd G (by have:=C.o;omega)⟩
 have D:Z (zs.take k=zs):=bV Y;go_wp2;go_ret;rw[D.o]at l;exact⟨bR (by simpa using l),_,rfl,λ_=>by rw[D.o]⟩
def mA(zs:au):Int:=if zs.all ep&&zs.all (· !=0)&&decide (aB zs<=1099511627776)then aB zs else 0
def mB(zs:au):Int:=if zs.all ep then(if zs.all (· !=0)&& !decide (aB zs<=1099511627776)then 17 else 0)else 11
def zA7(h:Γ:=by go_wp2_with fail;go_ret2;exact⟨by rw[l.o,m.o];rfl,aY _ _⟩):=h
def wU(A:bz)(c:Nat)(zs:au)(w:ab)(hs:zs.length<=1000000)(h:Rd w A zs):
  () 75 #[.slice A zs c] w λe w'=>e=.returned (.tuple #[.int .i64 (mA zs),.int .i64 (mB zs)])/\Below w.1.size w w':=by
 have c1:=kv 77 ep nR (λ_ _=>rfl) A c zs w hs h;have c2:=kv 131 (· !=0) Mv (λ_ _=>rfl) A c zs w hs h;have B:=U c1;have D:=U c2;clear c1 c2;rcases h1:zs.all ep with _|_
 .have r:=U h1;have l:Z (mA zs=0):=U (by simp[mA,h1]);have m:Z (mB zs=11):=U (by simp[mB,h1]);clear h1;go_in;go_wp2_with fail;refine B.o.mono ?_;rintro e w' ⟨rfl,rfl⟩;rw[r.o];exact zA7
 rcases h2:zs.all (· !=0)with _|_
 .have r:=U h1;have C:=U h2;have l:Z (mA zs=0):=U (by simp[mA,h1,h2]);have m:Z (mB zs=0):=U (by simp[mB,h1,h2]);clear h1 h2;go_in;go_wp2_with fail;refine B.o.mono ?_;rintro e w' ⟨rfl,rfl⟩;rw[r.o];go_wp2_with fail;refine D.o.mono ?_;rintro e w' ⟨rfl,rfl⟩;rw[C.o];exact zA7
 have r:=U h1;have C:=U h2;have u:Z (∀z∈zs,1<=z):=by intro z G;have a:=dL.1 h1 z G;have b:=dL.1 h2 z G;simp[ep]at a b;omega
 have I:=U (yZ A c zs w hs h u);by_cases j:aB zs<=1099511627776
 .have l:Z (mA zs=aB zs):=U (by simp[mA,h1,h2,j]);have m:Z (mB zs=0):=U (by simp[mB,h1,h2,j]);have E:Z (decide (aB zs<=1099511627776)=true):=U (by simpa using j);have F:=U j;clear h1 h2 j;go_in;go_wp2_with fail;refine B.o.mono ?_;rintro e w' ⟨rfl,rfl⟩;rw[r.o];go_wp2_with fail;refine D.o.mono ?_;rintro e w' ⟨rfl,rfl⟩;rw[C.o];go_wp2_with fail;refine I.o.mono ?_;rintro e w' ⟨rfl,p,rfl,hp⟩;have J:=U (hp F.o);clear hp;rw[E.o];go_wp2_with fail;go_ret2;exact⟨by rw[l.o,m.o,<-J.o];rfl,(aY _ _).alloc (al _) _⟩
 have y:1099511627776<aB zs:=Y;have l:Z (mA zs=0):=U (by simp[mA,h1,h2,j]);have m:Z (mB zs=17):=U (by simp[mB,h1,h2,y]);have E:Z (decide (aB zs<=1099511627776)=false):=U (by simpa using j);clear h1 h2 j y;go_in;go_wp2_with fail;refine B.o.mono ?_;rintro e w' ⟨rfl,rfl⟩;rw[r.o];go_wp2_with fail;refine D.o.mono ?_;rintro e w' ⟨rfl,rfl⟩;rw[C.o];go_wp2_with fail;refine I.o.mono ?_;rintro e w' ⟨rfl,p,rfl,hp⟩;rw[E.o];go_wp2;go_ret2;exact⟨by rw[l.o,m.o];rfl,(aY _ _).alloc (al _) _⟩
def AG(h:cj zs=true)(e:zs.length<=4):mA zs=aB zs/\mB zs=0:=by
 have hb:=pQ zs h e;have j:zs.all ep=true:=dL.2 λz b=>by have:=bW h b;simp[ep];omega
 have l:zs.all (· !=0)=true:=dL.2 λz b=>by have:=bW h b;simp;omega
 simp[mA,mB,j,l,hb.2]
def o0(w:ab)(v:Value)(e:Ending)(w':ab):Prop:=e=.returned v/\Below w.1.size w w'
def RG(A B)(c d)(xs e)(w)(hs:xs.length<=1000000)(I:e.length<=1000000)(h:Rd w A xs)(J:Rd w B e):
  () 118 #[.slice A xs c,.slice B e d] w (pR w (decide (xs=e))):=by
 by_cases u:xs.length=e.length
 .have K:((xs.length:Int) !=(e.length:Int))=false:=by rw[u];simp
  have C:=U u;go_in;go_wp2;go_loopw [13] (λi wr=>∃k n:Nat,k<=xs.length/\i=.int .i64 k/\wr=w.drewN n/\xs.take k=e.take k) (λi _=>xs.length-(intOf i).toNat);exact⟨0,0,aR _,rfl,rfl,rfl⟩;obtain⟨k,n,P,rfl,rfl,ht⟩:=hrel;have D:=U ht;clear ht;by_cases l:k<xs.length
  .obtain⟨b,off,x,rfl,hb,Q,E⟩:=h.get l;(have m:k<e.length:=by rwa[<-C.o]);obtain⟨R,F,y,rfl,L,M,G⟩:=J.get m;by_cases j:x=y
   .have r:(x !=y)=false:=by simp[j]
    have N:=U j;go_wp2;go_quiet (fail);go_wp2;go_roundw;exact⟨k+1,_,Y,by go_num,rfl,by rw[take_at E.o,take_at G.o,D.o,N.o]⟩;exact zAb
   have r:(x !=y)=true:=by simp[j]
   have z:Z (decide (xs=e)=false):=ew (Vo E.o G.o j);go_wp2;go_quiet (fail);go_wp2;go_ret;exact⟨bR (by rw[z.o]),_,World.drewN_drewN _ _ _⟩
  have O:Z (decide (xs=e)=true):=ea (vf C.o D.o l);go_wp2;go_ret;exact⟨bR (by rw[O.o]),_,rfl⟩
 have r:((xs.length:Int) !=(e.length:Int))=true:=by simp;omega
 have z:Z (decide (xs=e)=false):=by refine ew ?_;rintro rfl;exact u rfl
 go_in;go_wp2;go_ret;exact⟨bR (by rw[z.o]),0,rfl⟩
def mj(A B)(c d)(xs b)(w)(hs:xs.length<=1000000)(j:b.length<=1000000)(h:Rd w A xs)(l:Rd w B b):
  () 70 #[.slice A xs c,.slice B b d] w (pR w (decide (xs=b))):=by
 go_in;go_wp2_with fail;refine(RG A B c d xs b w hs j h l).mono ?_;rintro e w' ⟨rfl,n,rfl⟩;go_wp2;go_ret;exact⟨rfl,n,rfl⟩
def dq(A)(c)(zs)(w)(hs:zs.length<=1000000)(h:Rd w A zs):
  () 119 #[.slice A zs c] w (o0 w (.bool (aH zs))):=by
 by_cases r:1<=zs.length/\zs.length<=4
 .have⟨r,h4⟩:=r;go_in;go_wp2_with fail;go_loop [17] (λi=>∃k:Nat,k<=zs.length/\i=.int .i64 k/\cj (zs.take k)=true) (λi=>zs.length-(intOf i).toNat);exact zA8;obtain⟨k,E,rfl,l⟩:=hrel;have j:=U l;clear l;by_cases u:k<zs.length
  .obtain⟨b,off,z,rfl,hb,F,B⟩:=h.get u;by_cases m:1<=z/\z<=1024
   .have⟨gu,jR⟩:=m;go_wp2;go_round;exact⟨k+1,Y,by go_num,by rw[take_at B.o,DY,j.o];simp[gu,jR]⟩;exact zAb
   have y:=U (DZ (AA B.o m));go_wp2_with fail;all_goals first|(go_ret;exact⟨bR (by rw[y.o]),aY _ _⟩)|omega
  have e:zs.take k=zs:=bV Y;rw[e]at j;have D:=U (G5 r h4 j);have C:=U (AG j h4);go_wp2_with fail;refine(wU A c zs w hs h).mono ?_;rintro e w' ⟨rfl,hb⟩;rw[C.o.1,C.o.2];go_wp2;go_ret;exact⟨bR (by rw[D.o]),hb⟩
 have y:=U (Ja r);go_in;go_wp2;all_goals first|(go_ret;exact⟨bR (by rw[y.o]),aY _ _⟩)|omega
def vh(A)(c)(zs)(w)(hs:zs.length<=1000000)(h:Rd w A zs):
  () 73 #[.slice A zs c] w (o0 w (.tuple #[.int .i64 (bG zs),.int .i64 (cB zs)])):=by
 rcases hr:aH zs with _|_
 .have b:Z (bG zs=0):=U (by simp[bG,hr]);have j:Z (cB zs=20):=U (by simp[cB,hr]);have l:=U hr;go_in;go_wp2_with fail;refine(dq A c zs w hs h).mono ?_;rintro e w' ⟨rfl,hb⟩;rw[l.o];go_wp2;go_ret2;exact⟨by rw[b.o,j.o];rfl,hb⟩
 have b:Z (bG zs=aB zs):=U (by simp[bG,hr]);have j:Z (cB zs=0):=U (by simp[cB,hr]);have l:=U hr;have r:=U (AG ((ba zs).1 hr).2.2.1 ((ba zs).1 hr).2.1);go_in;go_wp2_with fail;refine(dq A c zs w hs h).mono ?_;rintro e w1 ⟨rfl,hb⟩;rw[l.o];go_wp2_with fail;refine(wU A c zs w1 hs (h.below hb)).mono ?_;rintro e w2 ⟨rfl,m⟩;rw[r.o.1,r.o.2];go_wp2;go_ret2;exact⟨by rw[b.o,j.o];rfl,hb.trans (m.mono hb.size)⟩
def mC(A)(c)(zs)(w)(hs:zs.length<=1000000)(h:Rd w A zs):
  () 103 #[.slice A zs c] w (Vl w 3 zs):=by
 have b:=λW=>run_make_row' (P:=prog) 25 3 an 8 underlying25 ap rfl .i64 .i64 zs.length Y Y W;have e:=λj=>tz (P:=prog) 25 25 j 3 3 underlying25 ap zs A c w h;go_in;go_wp2;go_ret;exact⟨w.1.size,rfl,al _,Own.new _ _ _,(aY _ _).alloc (al _) _⟩
def f8(a b c:Int):Bool:=decide (1<=a)&&decide (a<=1024)&&decide (1<=b)&&decide (b<=1024)&&decide (1<=c)&&decide (c<=1024)&&decide (b<=a)
def lb(a b c:Int):Int:=if f8 a b c then 1+(a-b)/c else 0
def js(a b c:Int):Int:=if f8 a b c then 0 else 11
def zA1(h:Γ:=by rw[gI];go_wp2;all_goals first|omega|(go_ret2;exact⟨by rw[j.o,l.o];rfl,rfl⟩)):=h
def zA4(h:Γ:=by go_in;go_wp2;refine l6 4 ?_;(iterate 4 (rw[gI];go_wp2));go_ret2;exact⟨by rw[j.o,l.o];rfl,rfl⟩):=h
def AH(a b c:Int)(w:ab):
  () 190 #[a,b,c] w λe w'=>e=.returned (.tuple #[.int .i64 (lb a b c),.int .i64 (js a b c)])/\w=w':=by
 have u:∀w,(Instr.index 267 (.agg #[a,b,c]) an).run prog w=.ok a w:=λ_=>ap;have i1:∀w,(Instr.index 267 (.agg #[a,b,c]) (1:Int)).run prog w=.ok b w:=λ_=>ap;have i2:∀w,(Instr.index 267 (.agg #[a,b,c]) (2:Int)).run prog w=.ok c w:=λ_=>ap;by_cases h:f8 a b c=true;have j:Z (lb a b c=1+(a-b)/c):=U (by simp[lb,h]);have l:Z (js a b c=0):=U (by simp[js,h]);simp only[f8,bU,b9,pO]at h;have⟨h1,h2,h3,h4,h5,h6,h7⟩:=h;have m:0<=(a-b)/c:=kU Y Y;have r:(a-b)/c<=1024:=Qa (Int.ediv_le_self _ Y) Y;exact zA4;have j:Z (lb a b c=0):=U (by simp[lb,h]);have l:Z (js a b c=11):=U (by simp[js,h]);simp only[f8,bU,b9,pO]at h;by_cases y:1<=a/\a<=1024
 .by_cases hb:1<=b/\b<=1024
  .by_cases z:1<=c/\c<=1024;have hd:¬b<=a:=Y;exact zA4;clear h;go_in;go_wp2;refine l6 3 ?_;rw[gI];go_wp2;rw[gI];go_wp2;exact zA1
  clear h;go_in;go_wp2;refine l6 2 ?_;rw[gI];go_wp2;exact zA1
 clear h;go_in;go_wp2;refine l6 1 ?_;exact zA1
variable{E:Int}
def he(w:ab)(zs:au)(E:Int)(e:Ending)(w':ab):Prop:=
 ∃A c,e=.returned (.tuple #[.slice A zs c,E])/\Rd w' A zs/\Below w.1.size w w'/\(∀b,A=some b->w.1.size<=b.block)/\zs.length<=c
def he.none_{w:ab}(b:zs=[])(hb:Below w.1.size w w')(e:Ending)(j:e=.returned (.tuple #[(),E])):he w zs E e w':=by
 subst b;exact⟨none,0,j,Rd.nil _ _,hb,(λ_ h=>by cases h),al _⟩
def he.own{w:ab}{T:Nat}(hg:w.1.size<=g)(b:Own w' g T zs)(hb:Below w.1.size w w')(e:Ending)(j:e=.returned (.tuple #[.slice g zs zs.length,an])):he w zs 0 e w':=
 ⟨_,_,j,b.rd,hb,(λ_ h=>by cases h;exact hg),al _⟩
def gz(zs:au)(e a b:Int):Int:=
 if aH zs then(if decide (0<=e)&&decide (e<zs.length)&&decide (0<=a)&&decide (b<=zs.getD e.toNat 0)&&decide (a<b)then 0 else 11)else 20
def hH(zs:au)(e a b:Int):List Int:=if gz zs e a b=0 then zs.set e.toNat (b-a)else[]
def zA5(h:Γ:=by go_wp2;all_goals first|omega|(go_ret2;exact he.none_ m hb _ (by rw[l.o];rfl))):=h
def zAf(h:Γ:=by simp[hH,l.o]):=h
theorem Qe(A:bz)(c:Nat)(zs:au)(j a b:Int)(w:ab)(hs:zs.length<=1000000)(h:Rd w A zs):
  () 129 #[.slice A zs c,j,a,b] w (he w (hH zs j a b) (gz zs j a b)):=by
 rcases hr:aH zs with _|_
 .have l:Z (gz zs j a b=20):=U (by simp[gz,hr]);have m:Z (hH zs j a b=[]):=U zAf;have u:=U hr;go_in;go_wp2_with fail;refine(dq A c zs w hs h).mono ?_;rintro e w1 ⟨rfl,hb⟩;rw[u.o];go_wp2;go_ret2;exact he.none_ m hb _ (by rw[l.o];rfl)
 have u:=U hr;obtain⟨r1,P,D,J⟩:=(ba zs).1 hr;by_cases E:0<=j/\j<zs.length
 .obtain⟨n,rfl⟩:=bO E.1;have K:n<zs.length:=Y;obtain⟨Q,off,z,rfl,L,R,r⟩:=h.get K;have⟨gu,jR⟩:=dI D r.o;by_cases F:0<=a/\b<=z/\a<b
  .have⟨ha,hbz,bD⟩:=F;have l:Z (gz zs n a b=0):=U (by
    rw[gz,ah hr,ah];simp only[bU,b9,a9];simp[List.getD,r.o];omega)
   have m:Z (hH zs n a b=zs.set n (b-a)):=U zAf;go_in;go_wp2_with fail;refine(dq _ c zs w hs h).mono ?_;rintro e w1 ⟨rfl,hb⟩;rw[u.o];have G:=(h.below hb).all r.o;go_wp2_with fail;refine(mC _ c zs w1 hs (h.below hb)).mono ?_;rintro e w2 ⟨g,rfl,hg,C,I⟩;have M:=C.cell r.o;have N:=C.frozen n;have O:=U (C.av n (b-a));clear C;have y:(zs.set n (b-a)).length=zs.length:=aI;have B:=U y;go_wp2_with fail;go_ret2;rw[m.o,l.o];exact he.own (aQ hb.size hg) O.o ((hb.trans (I.mono hb.size)).setCell (aQ hb.size hg) _) _ (by rw[B.o];rfl)
  have l:Z (gz zs n a b=11):=U (by
   rw[gz,ah hr,ag];simp only[bU,b9,a9];simp[List.getD,r.o];omega)
  have m:Z (hH zs n a b=[]):=U zAf;go_in;go_wp2_with fail;refine(dq _ c zs w hs h).mono ?_;rintro e w1 ⟨rfl,hb⟩;rw[u.o];have G:=(h.below hb).all r.o;exact zA5
 have l:Z (gz zs j a b=11):=U (by
  rw[gz,ah hr,ag]
  grind)
 have m:Z (hH zs j a b=[]):=U zAf;go_in;go_wp2_with fail;refine(dq _ c zs w hs h).mono ?_;rintro e w1 ⟨rfl,hb⟩;rw[u.o];exact zA5
variable{j:Nat}
def f9(zs ts:au)(n:Nat):Bool:=decide (zs.take n=ts.take n)&&decide (zs.drop (n+1)=ts.drop (n+1))
def hT(zs ts:au)(n:Nat):List Int:=zs.set n (zs.getD n 0+ts.getD n 0)
def ec(zs ts:au)(b:Int):Int:=
 if aH zs&&aH ts&&decide (zs.length=ts.length)then
  (if decide (0<=b)&&decide (b<zs.length)then(if f9 zs ts b.toNat&&aH (hT zs ts b.toNat)then 0 else 20)else 11)
 else 20
def dF(zs ts:au)(b:Int):List Int:=if ec zs ts b=0 then hT zs ts b.toNat else[]
def jd(zs ts:au)(n k:Nat):List Int:=if n<k then hT zs ts n else zs
def Qf(zs ts:au)(n k:Nat):Prop:=∀j z t,j<k->j≠n->zs[j]?=some z->ts[j]?=some t->z=t
theorem G6{ts:au}{n k:Nat}(u:zs.length=ts.length)(h:Qf zs ts n k)(y:zs.length<=k):f9 zs ts n=true:=by
 have key:∀j,j≠n->zs[j]?=ts[j]?:=by intro j r;by_cases b:j<zs.length;have e:=bk b;have m:=bk (l:=ts) (i:=j) Y;rw[e,m,h j _ _ Y r e m];grind
 simp only[f9,bU,b9];constructor;apply eo;grind;apply eo;grind
theorem D3{ts:au}{n:Nat}{t:Int}(b:j≠n)(m:zs[j]?=some z)(ht:ts[j]?=some t)(h:z≠t):f9 zs ts n=false:=by
 rcases hb:f9 zs ts n with _|_;rfl;simp only[f9,bU,b9]at hb;exfalso;rcases zL b with e|hgt;have:=di (λl=>l[j]?) hb.1;grind;have:=di (λl=>l[j-(n+1)]?) hb.2;grind
def Mw{ts:au}{n k:Nat}(b:k<=n)(h:zs[n]?=some z):(jd zs ts n k)[n]?=some z:=by rw[jd,ag (by omega)];exact h
def G7{ts:au}{n:Nat}{t:Int}(b:zs[n]?=some z)(ht:ts[n]?=some t):(jd zs ts n n).set n (z+t)=jd zs ts n (n+1):=by
 rw[jd,ag Y,jd,ah Y,hT];simp[List.getD,b,ht]
theorem G8{ts:au}{n k:Nat}(h:k≠n):jd zs ts n (k+1)=jd zs ts n k:=by
 unfold jd;grind
def zAg(h:Γ:=by simp[dF,F.o]):=h
def zAh(h:Γ:=by rw[F.o];rfl):=h
theorem Vp(A B:bz)(c d:Nat)(zs ts:au)(l:Int)(w:ab)(hs:zs.length<=1000000)(K:ts.length<=1000000)(h:Rd w A zs)(h':Rd w B ts):
  () 191 #[.slice A zs c,.slice B ts d,l] w (he w (dF zs ts l) (ec zs ts l)):=by
 rcases hr:aH zs with _|_
 .have F:Z (ec zs ts l=20):=U (by simp[ec,hr]);have P:Z (dF zs ts l=[]):=U zAg;have Q:=U hr;clear hr;go_in;go_wp2_with fail;refine(dq A c zs w hs h).mono ?_;rintro e w1 ⟨rfl,hb⟩;rw[Q.o];go_wp2_with fail;go_ret2;exact he.none_ P.o hb _ zAh
 rcases o5:aH ts with _|_
 .have F:Z (ec zs ts l=20):=U (by simp[ec,o5]);have P:Z (dF zs ts l=[]):=U zAg;have Q:=U hr;have G:=U o5;clear hr o5;go_in;go_wp2_with fail;refine(dq A c zs w hs h).mono ?_;rintro e w1 ⟨rfl,hb⟩;rw[Q.o];go_wp2_with fail;refine(dq B d ts w1 K (h'.below hb)).mono ?_;rintro e w2 ⟨rfl,D⟩;rw[G.o];go_wp2_with fail;go_ret2;exact he.none_ P.o (hb.trans (D.mono hb.size)) _ zAh
 have Q:=U hr;have G:=U o5;by_cases R:zs.length=ts.length
 .have ia:((zs.length:Int) !=(ts.length:Int))=false:=by rw[R];simp
  have HL:=U R;by_cases hsd:0<=l/\l<zs.length
  .obtain⟨n,rfl⟩:=bO hsd.1;have hn:n<zs.length:=Y;have HJ0:Z (f9 zs ts n=false->ec zs ts n=20):=U (λS=>by simp[ec,hr,o5,R,S];omega);have Vq:Z (f9 zs ts n=true->ec zs ts n=if aH (hT zs ts n)then 0 else 20):=U (λS=>by simp[ec,hr,o5,R,S];omega);have HJV:Z (ec zs ts n=20->dF zs ts n=[]):=U (λS=>by simp[dF,S]);have Vr:Z (ec zs ts n=0->dF zs ts n=hT zs ts n):=U (λS=>by simp[dF,S]);obtain⟨r1,r4,q9,rpr⟩:=(ba zs).1 hr;obtain⟨r1',r4',O,af1⟩:=(ba ts).1 o5;have RIN:=U q9;have ad1:=U O;clear hr o5 R q9 O;go_in;go_wp2_with fail;refine(dq A c zs w hs h).mono ?_;rintro e w1 ⟨rfl,hb⟩;rw[Q.o];go_wp2_with fail;refine(dq B d ts w1 K (h'.below hb)).mono ?_;rintro e w2 ⟨rfl,D⟩;rw[G.o];have C:=hb.trans (D.mono hb.size);go_wp2_with fail;refine(mC A c zs w2 hs (h.below C)).mono ?_;rintro e w3 ⟨g,rfl,hg,ho,s9⟩;have ad2:=C.trans (s9.mono C.size);have T:w.1.size<=g:=aQ C.size hg;have HO:=U ho;clear ho hb D s9;go_wp2_with fail;go_loopw [37] (λi wr=>∃k:Nat,k<=zs.length/\i=.int .i64 k/\Own wr g 3 (jd zs ts n k)/\Below w.1.size w wr/\Qf zs ts n k) (λi _=>zs.length-(intOf i).toNat);(case atStart=>exact⟨0,aR _,rfl,HO.o,ad2,λj z t J=>absurd J Y⟩);case round=>
    obtain⟨k,hk,rfl,m,r,wV⟩:=hrel;have V:=U wV;clear wV;by_cases X:k<zs.length
    .obtain⟨b,off,z,rfl,hbb,hc,hz⟩:=(h.below r).get X;obtain⟨b',adY,t,rfl,af2,hc',ht⟩:=(h'.below r).get (k:=k) (by rwa[<-HL.o]);(have af3:k<ts.length:=by rwa[<-HL.o]);obtain⟨gu,jR⟩:=dI RIN.o hz.o;obtain⟨ht1,ht2⟩:=dI ad1.o ht.o;by_cases L:k=n
     .subst L;have oD:=m.cell (Mw (ts:=ts) (al k) hz.o);have o6:=m.frozen k;have E:=U (m.av k (z+t));rw[G7 hz.o ht.o]at E;clear m;(have tR:((k:Int)==(k:Int))=true:=by simp);go_wp2_with fail;go_region;(all_goals go_wp2_with fail);all_goals go_roundw;(case rel=>exact⟨k+1,Y,by go_num,by first|exact E.o|exact E.o.drew,by first|exact(r.drew).setCell T _|exact(r.setCell T _).drew,λj y u J Vs hy hu=>V.o j y u Y Vs hy hu⟩);case measure=>exact ou
     have tR:((k:Int)==(n:Int))=false:=by simp;omega
     have E:=U m;rw[<-G8 L]at E;clear m;by_cases M:z=t
     .have Vt:(z !=t)=false:=by simp[M]
      have HZT:=U M;have HKN:=U L;go_wp2_with fail;go_quiet (fail);go_wp2;go_roundw;refine⟨k+1,Y,by go_num,E.o.drewN _,below_drewN r _,λj y u J Vs hy hu=>?_⟩;by_cases hjk:j<k;exact V.o j y u hjk Vs hy hu;obtain rfl:j=k:=Y;rw[hz.o]at hy;rw[ht.o]at hu;injection hy with hy;injection hu with hu;rw[<-hy,<-hu,HZT.o];exact zAb
     have Vt:(z !=t)=true:=by simp[M]
     have HF:=U (HJ0.o (D3 L hz.o ht.o M));go_wp2;go_quiet (fail);go_wp2;go_ret2;exact he.none_ (HJV.o HF) (below_drewN r _) _ (by rw[HF.o];rfl)
    have HT:=U (Vq.o (G6 HL.o V.o Y));(have e:jd zs ts n k=hT zs ts n:=by rw[jd,ah Y]);rw[e]at m;have E:=U m;(have I:(hT zs ts n).length=zs.length:=by simp[hT]);have CR:=U (dq g (hT zs ts n).length (hT zs ts n) wr Y m.rd);rw[I]at CR;have Vu:=U I;clear m e I;rcases J:aH (hT zs ts n)with _|_
    .have HJ:=U J;rw[J]at HT;clear J;go_wp2_with fail;refine CR.o.mono ?_;rintro e w4 ⟨rfl,N⟩;rw[HJ.o];go_wp2_with fail;go_ret2;exact he.none_ (HJV.o HT.o) (r.trans (N.mono r.size)) _ (by rw[HT.o];rfl)
    have HJ:=U J;rw[J]at HT;clear J;go_wp2_with fail;refine CR.o.mono ?_;rintro e w4 ⟨rfl,N⟩;rw[HJ.o];go_wp2_with fail;go_ret2;rw[Vr.o HT.o,HT.o];exact he.own T (E.o.keep N) (r.trans (N.mono r.size)) _ (by rw[Vu.o];rfl)
  have F:Z (ec zs ts l=11):=U (by
   rw[ec,ah ay,ag]
   grind)
  have P:Z (dF zs ts l=[]):=U zAg;clear hr o5 R;go_in;go_wp2_with fail;refine(dq A c zs w hs h).mono ?_;rintro e w1 ⟨rfl,hb⟩;rw[Q.o];go_wp2_with fail;refine(dq B d ts w1 K (h'.below hb)).mono ?_;rintro e w2 ⟨rfl,D⟩;rw[G.o];have C:=hb.trans (D.mono hb.size);go_wp2_with fail;all_goals first|omega|(go_ret2;exact he.none_ P.o C _ zAh)
 have ia:((zs.length:Int) !=(ts.length:Int))=true:=by simp;omega
 have F:Z (ec zs ts l=20):=U (by simp[ec,R]);have P:Z (dF zs ts l=[]):=U zAg;clear hr o5;go_in;go_wp2_with fail;refine(dq A c zs w hs h).mono ?_;rintro e w1 ⟨rfl,hb⟩;rw[Q.o];go_wp2_with fail;refine(dq B d ts w1 K (h'.below hb)).mono ?_;rintro e w2 ⟨rfl,D⟩;rw[G.o];have C:=hb.trans (D.mono hb.size);go_wp2;go_ret2;exact he.none_ P C _ zAh
variable{c m:Nat}{T':TypeId}{v0 v1:Value}
def aw(zs xs:au):Bool:=aH zs&&decide ((xs.length:Int)=aB zs)
def aS(zs xs):aw zs xs=true↔aH zs=true/\(xs.length:Int)=aB zs:=by simp[aw]
def aD.gJ{w:ab}{B:Nat}(h:Own w g T zs)(b:B<=g)(e:zs.length<=1000000000):aD w B T g zs.length zs:=by
 refine⟨aI,.inr ⟨g,zs.length,ints zs,rfl,b,h,al _,by unfold maxLen;omega,by simp[At],?_⟩⟩;rw[bV (by simp[ints])];simp[ints]
def Vv(w:ab)(zs xs:au)(e:Ending)(w':ab):Prop:=
 ∃g b,e=.returned (.agg #[.slice (some ⟨g,0,none⟩) zs zs.length,.slice (some ⟨b,0,none⟩) xs xs.length])/\w.1.size<=g/\w.1.size<=b/\Own w' g 3 zs/\Own w' b 65 xs/\Below w.1.size w w'
def fF(w:ab)(zs xs:au)(E:Int)(e:Ending)(w':ab):Prop:=
 ∃A c B d,e=.returned (.tuple #[.agg #[.slice A zs c,.slice B xs d],E])/\aD w' w.1.size 3 A c zs/\aD w' w.1.size 65 B d xs/\Below w.1.size w w'
def fF.no{w:ab}(b:zs=[])(j:xs=[])(hb:Below w.1.size w w')(e:Ending)(l:e=.returned (.tuple #[.agg #[(),()],E])):fF w zs xs E e w':=by
 subst b j;exact⟨none,0,none,0,l,aD.nil _ _ _,aD.nil _ _ _,hb⟩
def bM{w:ab}(h:aA w g T #[v0,v1]):w.cell? (g,0)=some v0/\w.cell? (g,1)=some v1:=⟨h.cell 0,h.cell 1⟩
def aA.bP{w:ab}{a b:Value}(h:aA w g T #[a,b])(v0 e):aA ((w.setCell (g,0) v0).setCell (g,1) e) g T #[v0,e]:=(h.av 0 v0).av 1 e
def Own.bH{w:ab}{p:Nat}(h:Own w g T zs)(hp:g≠p)(v0 b):Own ((w.setCell (p,0) v0).setCell (p,1) b) g T zs:=
 (h.aV (p:=⟨p,0,none⟩) hp v0).aV (p:=⟨p,1,none⟩) hp b
def aD.bH{w:ab}{B p:Nat}(h:aD w B T A c zs)(hp:∀b,A=some b->b.block≠p)(v0 j):aD ((w.setCell (p,0) v0).setCell (p,1) j) B T A c zs:=
 h.same λb e=>(bb _ ⟨p,1,none⟩ j _ (hp b e)).trans (bb _ ⟨p,0,none⟩ v0 _ (hp b e))
def bA{w:ab}{n p:Nat}(h:Below n w w')(hp:n<=p)(v0 b):Below n w ((w'.setCell (p,0) v0).setCell (p,1) b):=
 (h.setCell (p:=⟨p,0,none⟩) hp v0).setCell (p:=⟨p,1,none⟩) hp b
theorem Own.aF{w:ab}{cs:dw}(h:Own w g T zs)(b:aA w m T' cs)(e:T≠T'):g≠m:=by
 rintro rfl;unfold Own at h;unfold aA at b;grind
theorem aD.aF{w:ab}{B:Nat}{cs:dw}(h:aD w B T A c zs)(j:aA w m T' cs)(l:T≠T'):∀b,A=some b->b.block≠m:=by
 intro b e;rcases h.form with⟨rfl,_,_⟩|⟨g,r,rfl,u,hg,_⟩;cases e;cases e;rintro rfl;unfold aA at j;grind
def zAc(h:Γ:=by go_wp2;go_ret;exact⟨bR j.o.symm,dm l hb⟩):=h
def eO(A B:bz)(c d:Nat)(zs xs:au)(w:ab)(hs:zs.length<=1000000)(h:Rd w A zs):
  () 69 #[.agg #[.slice A zs c,.slice B xs d]] w (o0 w (.bool (aw zs xs))):=by
 have l:=(aY w.1.size w).alloc (al _) (.cells #[.slice A zs c,.slice B xs d] 28);have k0:=aA.new w 28 #[.slice A zs c,.slice B xs d];have m:=h.alloc (.cells #[.slice A zs c,.slice B xs d] 28);rcases hr:aH zs with _|_
 .have j:Z (aw zs xs=false):=U (by simp[aw,hr]);have b:Z (bG zs=0/\cB zs=20):=U (by simp[bG,cB,hr]);go_in;go_wp2_with fail;refine(vh A c zs _ hs m).mono ?_;rintro e w1 ⟨rfl,hb⟩;rw[b.o.1,b.o.2];exact zAc
 have b:Z (bG zs=aB zs/\cB zs=0):=U (by simp[bG,cB,hr]);have j:Z (aw zs xs=((xs.length:Int)==aB zs)):=U (by simp[aw,hr];exact zR.2 aI);go_in;go_wp2_with fail;refine(vh A c zs _ hs m).mono ?_;rintro e w1 ⟨rfl,hb⟩;rw[b.o.1,b.o.2];have⟨q0,q1⟩:=bM (k0.keep hb);exact zAc
def pS(A B)(c d)(zs xs)(w)(hs:zs.length<=1000000)(F:xs.length<=1000000)(h:Rd w A zs)(r:Rd w B xs):
  () 71 #[.agg #[.slice A zs c,.slice B xs d]] w (Vv w zs xs):=by
 have l:=λW=>run_make_row' (P:=prog) 26 65 an 8 underlying26 ap rfl .i64 .i64 xs.length Y Y W;rw[jh]at l;have j:=((aY w.1.size w).alloc (al _) (.cells #[.slice A zs c,.slice B xs d] 28)).alloc aI (.cells #[(),()] 28);have b:=λu=>tz (P:=prog) 26 26 u 65 65 underlying26 ap xs B d _ (r.below j);rw[jh]at b;simp only[Qc]at b;go_in;go_wp2_with fail;refine(mC A c zs _ hs (((h.below j)).alloc _)).mono ?_;rintro e w1 ⟨g,rfl,hg,m,hb⟩;have y:=dm (j.alloc j.size (.cells (ints xs) 65)) hb;have k1:=((aA.eF (w.alloc (.cells #[.slice A zs c,.slice B xs d] 28)) 28 #[(),()] (n:=w.1.size+1) aI).alloc (.cells (ints xs) 65)).keep hb;have k2:=(Own.eF ((w.alloc (.cells #[.slice A zs c,.slice B xs d] 28)).alloc (.cells #[(),()] 28)) 65 xs (n:=w.1.size+1+1) aI).keep hb;have⟨q0,q1⟩:=bM k1;have G:=k1.frozen 0;have f1:=k1.frozen 1;simp at hg;go_wp2;have n1:=k2.aF k1 ao;have n2:=m.aF k1 ao;have z:=k1.bP (.slice g zs zs.length) (w.1.size+1+1,xs.length,xs.length);have C:=k2.bH n1 (.slice g zs zs.length) (w.1.size+1+1,xs.length,xs.length);have D:=m.bH n2 (.slice g zs zs.length) (w.1.size+1+1,xs.length,xs.length);have E:=bA y (db _) (.slice g zs zs.length) (w.1.size+1+1,xs.length,xs.length);have⟨q0,q1⟩:=bM z;exact aZ (v:=.agg #[.slice g zs zs.length,(w.1.size+1+1,xs.length,xs.length)]) (by simp[results,results71,go_sem,q0,q1]) rfl<|⟨g,_,rfl,Y,Y,D,C,E⟩
def fF.yes{w:ab}(hg:w.1.size<=g)(b:w.1.size<=m)(u:zs.length<=1000000)(y:xs.length<=1000000)(l:Own w' g 3 zs)(j:Own w' m 65 xs)(hb:Below w.1.size w w')(e:Ending)
  (r:e=.returned (.tuple #[.agg #[.slice g zs zs.length,.slice m xs xs.length],an])):fF w zs xs 0 e w':=
 ⟨_,_,_,_,r,aD.gJ l hg Y,aD.gJ j b Y,hb⟩
def zAi(h:Γ:=by simp[results,results25,go_sem,q0,q1]):=h
def Vw(A B)(c d)(zs xs)(w)(hs:zs.length<=1000000)(h:Rd w A zs)(hr:Z (aw zs xs=false)):
  () 25 #[.slice A zs c,.slice B xs d] w (fF w [] [] 20):=by
 have b:=((aY w.1.size w).alloc (al _) (.cells #[(),()] 28)).alloc aI (.cells #[.slice A zs c,.slice B xs d] 28);have k0:=(aA.new w 28 #[(),()]).alloc (.cells #[.slice A zs c,.slice B xs d] 28);go_in;go_wp2_with fail;refine(eO A B c d zs xs _ hs (h.below b)).mono ?_;rintro e w1 ⟨rfl,hb⟩;rw[hr.o];have k1:=k0.keep hb;have j:=dm b hb;have⟨q0,q1⟩:=bM k1;have r:=k1.frozen 0;have f1:=k1.frozen 1;go_wp2;have l:=k1.bP () ();have m:=bA j (al _) () ();have⟨q0,q1⟩:=bM l;exact aZ (v:=.tuple #[.agg #[(),()],(20:Int)]) zAi rfl<|fF.no rfl rfl m _ rfl
def RH(A B)(c d)(zs xs)(w)(hs:zs.length<=1000000)(y:xs.length<=1000000)(h:Rd w A zs)(D:Rd w B xs)(hr:Z (aw zs xs=true)):
  () 25 #[.slice A zs c,.slice B xs d] w (fF w zs xs 0):=by
 have z:=((aY w.1.size w).alloc (al _) (.cells #[(),()] 28)).alloc aI (.cells #[.slice A zs c,.slice B xs d] 28);have k0:=(aA.new w 28 #[(),()]).alloc (.cells #[.slice A zs c,.slice B xs d] 28);have r:=aA.eF (w.alloc (.cells #[(),()] 28)) 28 #[.slice A zs c,.slice B xs d] (n:=w.1.size+1) aI;go_in;go_wp2_with fail;refine(eO A B c d zs xs _ hs (h.below z)).mono ?_;rintro e w1 ⟨rfl,hb⟩;rw[hr.o];have k1:=k0.keep hb;have u:=r.keep hb;have m:=dm z hb;have⟨p0,p1⟩:=bM u;go_wp2_with fail;refine(pS A B c d zs xs w1 hs y (h.below m) (D.below m)).mono ?_;rintro e w2 ⟨g,b,rfl,hg,E,C,j,l⟩;have k2:=k1.keep l;have F:=dm m l;have⟨q0,q1⟩:=bM k2;have M:=k2.frozen 0;have f1:=k2.frozen 1;have n1:=C.aF k2 ao;have n2:=j.aF k2 ao;have G:=m.size;go_wp2;have I:=k2.bP (.slice g zs zs.length) (.slice b xs xs.length);have J:=bA F (al _) (.slice g zs zs.length) (.slice b xs xs.length);have K:=C.bH n1 (.slice g zs zs.length) (.slice b xs xs.length);have L:=j.bH n2 (.slice g zs zs.length) (.slice b xs xs.length);have⟨q0,q1⟩:=bM I;exact aZ (v:=.tuple #[.agg #[.slice g zs zs.length,.slice b xs xs.length],an]) zAi rfl<|fF.yes Y Y hs y K L J _ rfl
section
variable{X:World}{b f:Nat}{Mx:TypeId}{P:Program}{AM args kx:Array Value}{v:Value}{md:Region.Mode}{ops:Array Oper}{Q:Exit->Act->World->Prop}{listed:Array Bool}{a:Act}
@[grind cases]class Old(b:Nat)(w:World):Prop where
 lt:b<w
@[grind cases]class Bx(w:World)(g:Nat)(T:outParam TypeId)(cs:outParam (Array Value)):Prop where
 ak:aA w g T cs
@[grind cases]class Sl(w:World)(A:Option Addr)(n:Nat)(zs:outParam (List Int)):Prop where
 rd:Rd w A zs
 len:n=zs
section
variable{w:World}{n:Nat}{cs:Array Value}{o o' Mu o3 o4:Obj}
instance(priority:=low) Old.step[p:aj w' w][h:Old b w]:Old b w':=⟨bN h.lt p.st.size⟩
instance(priority:=low) Bx.step[p:aj w' w][h:Bx w g T cs]:Bx w' g T cs:=⟨h.ak.keep p.st⟩
instance Bx.new:Bx (X.alloc (.cells cs T)) X.1.size T cs:=⟨aA.new _ _ _⟩
instance Bx.af4:Bx ((X.alloc o).alloc (.cells cs T)) (X.1.size+1) T cs:=⟨aA.eF _ _ _ aI⟩
instance Bx.af5:Bx (((X.alloc o).alloc o').alloc (.cells cs T)) (X.1.size+1+1) T cs:=⟨aA.eF _ _ _ aI⟩
instance Bx.af6:Bx ((((X.alloc o).alloc o').alloc Mu).alloc (.cells cs T)) (X.1.size+1+1+1) T cs:=⟨aA.eF _ _ _ aI⟩
instance Bx.af7:Bx (((((X.alloc o).alloc o').alloc Mu).alloc o3).alloc (.cells cs T)) (X.1.size+1+1+1+1) T cs:=⟨aA.eF _ _ _ aI⟩
def az[h:Bx w g T cs](i:Nat):w.cell? (g,i)=cs[i]?:=h.ak.cell i
def aP[h:Bx w g T cs](i):w.frozen? ⟨g,i,none⟩=false:=h.ak.frozen i
instance(priority:=low) Sl.step[p:aj w' w][h:Sl w A n zs]:Sl w' A n zs:=⟨h.rd.below p.st,h.len⟩
instance(priority:=low) Sl.empty:Sl w A 0 []:=⟨Rd.nil _ _,rfl⟩
def aA.rdL{k:au}(h:aA w g T (ints k)):Rd w g k:=Own.rd (T:=T) h
section
variable{a b c d e f:Int}
instance Sl.AJ[h:Bx w g T #[a]]:Sl w g 1 [a]:=⟨h.ak.rdL (k:=[a]),rfl⟩
instance Sl.Qg[h:Bx w g T #[a,b]]:Sl w g 2 [a,b]:=⟨h.ak.rdL (k:=[a,b]),rfl⟩
instance Sl.af8[h:Bx w g T #[a,b,c,d]]:Sl w g 4 [a,b,c,d]:=⟨h.ak.rdL (k:=[a,b,c,d]),rfl⟩
end
def bX[p:aj w' w][h:Old b w](i):w'.cell? (b,i)=w.cell? (b,i+0):=p.st.cell (p:=⟨b,i,none⟩) h.lt
def jS[p:aj w' w][h:Old b w](i):w'.frozen? ⟨b,i,none⟩=w.frozen? ⟨b,i+0,none⟩:=p.st.frozen (p:=⟨b,i,none⟩) h.lt
theorem Sl.get(h:Sl w A n zs){k:Nat}(j:k<n):∃b off z,A=some ⟨b,off,none⟩/\Old b w/\w.cell? (b,off+k)=some (.int .i64 z)/\Z (zs[k]?=some z):=by
 have⟨b,off,z,e,hb,hc,hz⟩:=h.rd.get (k:=k) ay;exact⟨b,off,z,e,⟨hb⟩,hc,hz⟩
theorem aG(w w')[l:aM w w']:aj w' w:=⟨l.st⟩
end
def aL(w:ab)(v:Value)(e:Ending)(w':ab):Prop:=e=.returned v/\aj w' w
section
variable{w:World}
def Vx(h:Calls P f args w (o0 w v)):Calls P f args w (aL w v):=h.mono λ_ _ ⟨b,hb⟩=>⟨b,⟨hb⟩⟩
def acP{b:Bool}(h:Calls P f args w (pR w b)):Calls P f args w (aL w (.bool b)):=h.mono λ_ _ ⟨e,n,hb⟩=>⟨e,⟨hb▸below_drewN (aY _ _) n⟩⟩
def er{Q:Ending->World->Prop}{cs:dw}(h:∀u,aj u X->Bx u X.1.size T cs->Calls P f args u Q):Calls P f args (X.alloc (.cells cs T)) Q:=
 h _ (aj.alloc _ _) Bx.new
def pU{Q:Ending->World->Prop}{cs:dw}(h:∀u,aj u X->Bx u X.1.size T cs->Bx u (X.1.size+1) T' kx->Calls P f args u Q):Calls P f args ((X.alloc (.cells cs T)).alloc (.cells kx T')) Q:=
 h _ (aG _ _) am am
def acQ{Q:Ending->World->Prop}{cs:dw}(h:∀u,aj u X->Bx u X.1.size T cs->Bx u (X.1.size+1) T' kx->Bx u (X.1.size+1+1) Mx AM->Calls P f args u Q):Calls P f args (((X.alloc (.cells cs T)).alloc (.cells kx T')).alloc (.cells AM Mx)) Q:=
 h _ (aG _ _) am am am
def bc{S:World->Prop}{cs:dw}
  (h:∀u,aj u X->Bx u X.1.size T cs->wpAnyH P md ops Q S m listed a u):wpAnyH P md ops Q S m listed a (X.alloc (.cells cs T)):=
 h _ (aj.alloc _ _) Bx.new
def ax{id:Nat}(X)[l:aM X w](hm:P.follows .mixedOrders=true)
  (h:∀u,aj u w->wpAnyH P .any ops Q (λw'=>aj w' X) ops.size (Array.replicate ops.size false) a u):(Code.region id ops true).wp P Q a w:=
 wp_region_held_drew hm ⟨l.st.drew⟩ (λ_=>h _ (aj.drew w))
def aU{id:Nat}(X:ab)(R:World->Prop)[l:aM X w](hm:P.follows .mixedOrders=true)(b:R w.drew)
  (h:∀u,aj u w->wpAnyH P .any ops Q (λw'=>aj w' X/\R w') ops.size (Array.replicate ops.size false) a u):(Code.region id ops true).wp P Q a w:=
 wp_region_held_drew hm ⟨⟨l.st.drew⟩,b⟩ (λ_=>h _ (aj.drew w))
def aq{id:Nat}(hm:P.follows .mixedOrders=true)
  (h:∀u,aj u w->wpAnyH P .any ops Q (λw'=>aj w' w) ops.size (Array.replicate ops.size false) a u):(Code.region id ops true).wp P Q a w:=ax w hm h
end
end
section
set_option linter.defProp false
def gW:=And.intro @az (And.intro @bX @aP)
def hY:=And.intro @az @bX
def mD{w:ab}[aM w w']:Below w.1.size w w':=aO w w'
def bF{α:Type}{e:α}{w:ab}[aM w w']:e=e/\aj w' w:=⟨rfl,aG w w'⟩
theorem aC{w:ab}[aM w w']:aj w' w:=aG w w'
end
def D4(n d:Int):Int:=if d<2*(n%d)\/(2*(n%d)=d/\(n/d)%2=1)then n/d+1 else n/d
def kz(neg:Bool):Int:=if neg then-9223372036854775808 else 9223372036854775807
def hh(q:Int)(neg:Bool):Int:=if 9223372036854775808<=q then kz neg else(if neg then-q else q)
def lj(x:Int):Int:=if x<0 then-x else x
def o2(x y:Int):Bool:=decide (x<0) !=decide (y<0)
def bw(x y:Int):Int:=hh (D4 (lj x*lj y) 4294967296) (o2 x y)
def fdiv(x y:Int):Int:=if y=0 then(if x=0 then 0 else kz (decide (x<0)))else hh (D4 (lj x*4294967296) (lj y)) (o2 x y)
def ik(x:Int):Int:=if x< -9223372036854775808 then-9223372036854775808 else if 9223372036854775807<x then 9223372036854775807 else x
def bB(x y:Int):Int:=ik (x+y)
def EX(x:Int):Int:=ik (-x)
def bf(x:Int):Prop:= -9223372036854775808<=x/\x<=9223372036854775807
def iU(h:bf x):0<=lj x/\lj x<=9223372036854775808:=by unfold bf at h;unfold lj;split<;>omega
def AN(x):bf (ik x):=by unfold ik bf;split<;>(try split)<;>omega
def EY{q:Int}(h:0<=q)(b):bf (hh q b):=by unfold hh kz bf;cases b<;>simp<;>split<;>omega
def yt{n d:Int}(b:0<=n)(hd:0<d):0<=D4 n d:=by
 have:=kU b (Int.le_of_lt hd);unfold D4;split<;>omega
theorem jU(b:bf x)(e:bf y):bf (bw x y):=
 EY (yt (jO (iU b).1 (iU e).1) ao) _
theorem hW(x y):bf (bB x y):=AN _
theorem Jb(b:bf x)(e:bf y):bf (fdiv x y):=by
 unfold fdiv;by_cases h:y=0
 .rw[ah h];split;grind;unfold kz bf;split<;>omega
 rw[ag h];refine EY (yt (jO (iU b).1 ao) ?_) _;have:=(iU e).1;unfold lj;split<;>omega
def wrap_toInt(v:BitVec 64):IntKind.i64.wrap (v.toNat:Int)=v.toInt:=by
 rw[a7,BitVec.toInt_eq_toNat_cond];have:=v.isLt;split<;>omega
theorem tS(a)(h:bf a):(BitVec.ofInt 64 a).msb=decide (a<0):=by
 have⟨h1,h2⟩:=h;rw[PU,BitVec.toInt_ofInt];grind
def tA(a b):bits .xor .i64 a b=(BitVec.ofInt 64 a^^^BitVec.ofInt 64 b).toInt:=wrap_toInt _
def D5(a b):bits .and .i64 a b=(BitVec.ofInt 64 a&&&BitVec.ofInt 64 b).toInt:=wrap_toInt _
def AP{s:Int}(b:bf x)(e:bf y)(hs:bf s):
  decide (bits .and .i64 (bits .xor .i64 x s) (bits .xor .i64 y s)<0)=((decide (x<0)^^decide (s<0))&&(decide (y<0)^^decide (s<0))):=by
 rw[tA,tA,D5,PP,PP,<-PU,BitVec.msb_and,PX,PX,tS x b,tS y e,tS s hs]
def My(n):bf (wrap64 n):=by unfold wrap64 bf;omega
def Mz(n):wrap64 n=(n+9223372036854775808)%18446744073709551616-9223372036854775808:=by unfold wrap64;rfl
theorem sJ(a)(b:0<=a)(j:a<=18446744073709551615):bits .and .u64 a 4294967295=a%4294967296:=by
 obtain⟨n,rfl⟩:=bO b;have h:=bits_and_u64_nat n 4294967295 Y Y;have e:n&&&4294967295=n%4294967296:=Nat.and_two_pow_sub_one_eq_mod n 32;grind
theorem Jc(a)(b:0<=a)(e:a<=18446744073709551615):bits .and .u64 a 1=a%2:=by
 obtain⟨n,rfl⟩:=bO b;have h:=bits_and_u64_nat n 1 Y Y;grind
def RI(a b)(j:0<=a)(u:a<4294967296)(l:0<=b)(y:b<4294967296):bits .or .u64 (a*4294967296) b=a*4294967296+b:=by
 obtain⟨n,rfl⟩:=bO j;obtain⟨m,rfl⟩:=bO l;have r:(n:Int)*4294967296=((n*4294967296:Nat):Int):=by omega
 rw[r,Qd (n*4294967296) m Y Y];have e:n*4294967296|||m=n*4294967296+m:=by have:=PG (i:=32) (b:=m) Y n;rw[show(2:Nat)^32=4294967296 from rfl]at this;rw[PL];omega
 rw[e];omega
def sK(x)(w)(h:bf x):() 216 #[x] w λe w'=>e=.returned (.int .u64 (lj x))/\w=w':=by
 have⟨h1,h2⟩:=h;by_cases h:x<0
 .go_in;go_wp2;go_ret;refine⟨bI ?_,rfl⟩;rw[bE,bE,lj,ah h];omega
 go_in;go_wp2;go_ret;exact⟨bI (by rw[lj,ag Y]),rfl⟩
def ml(b)(w):() 217 #[.bool b] w λe w'=>e=.returned (kz b:Int)/\w=w':=by
 cases b;exact zA2;exact zA2
def zA9(h:Γ:=by go_wp2;go_ret;exact⟨bI (by rw[hh,ag Y];rfl),rfl⟩):=h
def jt(q)(b)(w)(l:0<=q)(m:q<=18446744073709551615):
  () 218 #[.int .u64 q,.bool b] w λe w'=>e=.returned (hh q b:Int)/\w=w':=by
 by_cases h:9223372036854775807<q
 .have j:Z (hh q b=kz b):=U (by rw[hh,ah Y]);go_in;go_wp2_with fail;refine(ml b w).mono ?_;rintro e w' ⟨rfl,rfl⟩;go_wp2;go_ret;exact⟨bI j.o.symm,rfl⟩
 go_in;cases b;exact zA9;exact zA9
theorem Jd(x y:Nat)(F:x<18446744073709551616)(G:y<18446744073709551616)(w:ab):
  () 215 #[.int .u64 x,.int .u64 y] w λe w'=>e=.returned (.tuple #[.int .u64 ((x*y/18446744073709551616:Nat):Int),.int .u64 ((x*y%18446744073709551616:Nat):Int)])/\w=w':=by
 have l:∀a:Nat,a<18446744073709551616->bits .and .u64 (a:Int) 4294967295=((a%4294967296:Nat):Int):=λa I=>by rw[sJ a Y Y];omega
 have r:∀a:Nat,(a:Int)/4294967296=((a/4294967296:Nat):Int):=λa=>Y;have u:∀a b:Nat,(a:Int)*(b:Int)=((a*b:Nat):Int):=ay;have z:∀a b:Nat,(a:Int)+(b:Int)=((a+b:Nat):Int):=ay;have j:∀a:Nat,a<18446744073709551616->IntKind.u64.wrap (a:Int)=(a:Int):=λa I=>by rw[bE];omega
 have m:∀a:Nat,IntKind.u64.wrap (a:Int)=((a%18446744073709551616:Nat):Int):=λa=>by rw[bE];omega
 change Z _ at l r u z j m;have⟨bd,bt,bw,hhi⟩:=Lib.mul64_hi x y F G;have K:=Lib.half_mul_le (a:=x/4294967296) (b:=y/4294967296) Y Y;have L:=Lib.half_mul_le (a:=x/4294967296) (b:=y%4294967296) Y Y;have M:=Lib.half_mul_le (a:=x%4294967296) (b:=y/4294967296) Y Y;have B:x/4294967296*(y/4294967296)<18446744073709551616:=Y;have C:x/4294967296*(y%4294967296)<18446744073709551616:=Y;have D:x%4294967296*(y/4294967296)<18446744073709551616:=Y;have E:x/4294967296*(y/4294967296)+(x/4294967296*(y%4294967296)+x%4294967296*(y%4294967296)/4294967296)/4294967296<18446744073709551616:=Y;have J:x/4294967296*(y/4294967296)+(x/4294967296*(y%4294967296)+x%4294967296*(y%4294967296)/4294967296)/4294967296+((x/4294967296*(y%4294967296)+x%4294967296*(y%4294967296)/4294967296)%4294967296+x%4294967296*(y/4294967296))/4294967296<18446744073709551616:=Y;go_in;go_wp2;simp only[l.o x F,l.o y G,r.o,u.o,z.o,j.o _ bd,j.o _ C,j.o _ bt,l.o _ bt,j.o _ D,j.o _ bw,j.o _ B,j.o _ E,j.o _ J,m.o (x*y)];rw[hhi];go_ret2;exact⟨rfl,rfl⟩
def MA{p:Int}(_h0:0<=p)(_h1:p/18446744073709551616<2147483648):
  p/18446744073709551616*4294967296+p%18446744073709551616/4294967296=p/4294967296/\p%18446744073709551616%4294967296=p%4294967296:=Y
def zA6(h:Γ:=by rintro e w' ⟨rfl,rfl⟩;go_wp2;go_ret;exact⟨bI m.o.symm,rfl⟩):=h
def rc(x y:Int)(w:ab)(E:bf x)(F:bf y):
  () 170 #[x,y] w λe w'=>e=.returned (bw x y:Int)/\w=w':=by
 have⟨a,ea⟩:=bO (iU E).1;have⟨b,eb⟩:=bO (iU F).1;have S:a<18446744073709551616:=by have:=(iU E).2;omega
 have hb:b<18446744073709551616:=by have:=(iU F).2;omega
 have M:=U (Jd a b S hb);have N:=U (sK x);have O:=U (sK y);rw[ea]at N;rw[eb]at O;have G:Z (bw x y=hh (D4 ((a*b:Nat):Int) 4294967296) (o2 x y)):=U (by rw[bw,ea,eb,cH]);generalize hp:a*b=p at*;have T:((p/18446744073709551616:Nat):Int)=(p:Int)/18446744073709551616:=by omega
 have V:((p%18446744073709551616:Nat):Int)=(p:Int)%18446744073709551616:=by omega
 rw[T,V]at M;have u:0<=(p:Int):=by omega
 generalize(p:Int)=P at*;have Q:=U (MA (p:=P) u);generalize I:P/18446744073709551616=hi at*;generalize X:P%18446744073709551616=lo at*;have b1:0<=hi:=Y;have b2:0<=lo:=Y;have b3:lo<=18446744073709551615:=Y;have z:=U I;go_in;go_wp2_with fail;refine(N.o w E).mono ?_;rintro e w' ⟨rfl,rfl⟩;go_wp2_with fail;refine(O.o w F).mono ?_;rintro e w' ⟨rfl,rfl⟩;go_wp2_with fail;refine(M.o w).mono ?_;rintro e w' ⟨rfl,rfl⟩;have D:Z ((!decide (x<0)==decide (y<0))=o2 x y):=rfl;by_cases B:2147483648<=hi
 .have m:Z (bw x y=kz (o2 x y)):=U (by
   have:=z.o;rw[G.o,hh,ah];unfold D4;split<;>omega)
  clear u;go_wp2_with fail;rw[D.o];refine(ml _ w).mono ?_;exact zA6
 have J:hi<2147483648:=Y;have⟨HQ,HM⟩:=Q.o J;have hq:=RI hi (lo/4294967296) b1 Y Y Y;rw[HQ]at hq;have hr:=sJ lo b2 b3;rw[HM]at hr;have K:0<=P/4294967296:=Y;have RJ:P/4294967296<9223372036854775808:=by have:=z.o;omega
 have ho:=Jc (P/4294967296) K Y;have hr0:0<=P%4294967296:=Y;have hr1:P%4294967296<4294967296:=Y;have R:Z (D4 P 4294967296=if 4294967296<2*(P%4294967296)\/(2*(P%4294967296)=4294967296/\(P/4294967296)%2=1)then P/4294967296+1 else P/4294967296):=rfl;clear HQ HM B Q;generalize P/4294967296=q at*;generalize P%4294967296=r at*;generalize L:q%2=o at*;have lN:0<=o/\o<=1:=Y;clear L;by_cases j:2147483648<r\/(r=2147483648/\o=1)
 .have m:Z (bw x y=hh (q+1) (o2 x y)):=U (by rw[G.o,R.o,ah Y]);rcases j with j|⟨j,C⟩;rotate_left;(focus subst C;subst j);all_goals go_wp2_with fail;rw[D.o];refine(jt (q+1) _ w Y Y).mono ?_;rintro e w' ⟨rfl,rfl⟩;go_wp2_with fail;go_ret;exact⟨bI m.o.symm,rfl⟩
 have m:Z (bw x y=hh q (o2 x y)):=U (by rw[G.o,R.o,ag Y]);by_cases l:r=2147483648
 .subst l;obtain rfl:o=0:=Y;clear j;go_wp2_with fail;rw[D.o];refine(jt q _ w Y Y).mono ?_;rintro e w' ⟨rfl,rfl⟩;go_wp2_with fail;go_ret;exact⟨bI m.o.symm,rfl⟩
 have Vy:r<2147483648:=Y;have hr4:(r==2147483648)=false:=by simpa using l
 clear j l;go_wp2_with fail;rw[D.o];refine(jt q _ w Y Y).mono ?_;exact zA6
theorem mE(x y)(w)(l:bf x)(m:bf y):() 171 #[x,y] w λe w'=>e=.returned (bB x y:Int)/\w=w':=by
 have r:=U l;have u:=U m;obtain⟨D,E⟩:=l;obtain⟨F,G⟩:=m;by_cases j: -9223372036854775808<=x+y/\x+y<=9223372036854775807
 .obtain⟨i1,i2⟩:=j;have ht:=AP r.o u.o (s:=x+y) ⟨i1,i2⟩;(have B:decide (bits .and .i64 (bits .xor .i64 x (x+y)) (bits .xor .i64 y (x+y))<0)=false:=by rw[ht];by_cases a:x<0<;>by_cases b:y<0<;>by_cases c:x+y<0<;>simp[a,b,c]<;>omega);clear ht;go_in;go_wp2_with fail;go_ret;exact⟨bI (by rw[bB,ik,ag Y,ag Y]),rfl⟩
 have z:=Mz (x+y);have AQ:=My (x+y);have ht:=AP r.o u.o (s:=wrap64 (x+y)) AQ;have B:decide (bits .and .i64 (bits .xor .i64 x (wrap64 (x+y))) (bits .xor .i64 y (wrap64 (x+y)))<0)=true:=by rw[ht,z];by_cases a:x<0;grind;grind
 have C:Z (bB x y=kz (decide (x<0))):=U (by
  rw[bB,ik];by_cases a:x<0
  .rw[ah Y];simp[kz,a]
  .rw[ag Y,ah Y];simp[kz,a])
 clear z ht AQ;go_in;go_wp2_with fail;refine(ml _ w).mono ?_;rintro e w' ⟨rfl,rfl⟩;go_wp2;go_ret;exact⟨bI C.o.symm,rfl⟩
def Vz(x)(w)(b:bf x):() 224 #[x] w λe w'=>e=.returned (EX x:Int)/\w=w':=by
 have⟨h1,h2⟩:=b;by_cases hm:x= -9223372036854775808
 .subst hm;go_in;go_wp2;go_ret;exact⟨bI ao,rfl⟩
 have hb:(x== -9223372036854775808)=false:=by simpa using hm
 have j: -9223372036854775808<x:=Y;go_in;go_wp2;go_ret;exact⟨bI (by rw[EX,ik,ag Y,ag Y]),rfl⟩
def mF(n:Int):Int:=ik (n*4294967296)
def Je(n):bf (mF n):=AN _
def o7(n:Int)(w:ab):() 26 #[n] w λe w'=>e=.returned (mF n:Int)/\w=w':=by
 by_cases b:2147483648<=n
 .go_in;go_wp2;go_ret;exact⟨bI (by rw[mF,ik,ag Y,ah Y]),rfl⟩
 by_cases j:n< -2147483648
 .go_in;go_wp2;go_ret;exact⟨bI (by rw[mF,ik,ah Y]),rfl⟩
 go_in;go_wp2;go_ret;exact⟨bI (by rw[mF,ik,ag Y,ag Y]),rfl⟩
def io(x low high:Int):Int:=if high<x then high else if x<low then low else x
def MB(x low high:Int)(w:ab):() 262 #[x,low,high] w λe w'=>e=.returned (io x low high:Int)/\w=w':=by
 by_cases b:high<x
 .go_in;go_wp2;go_ret;exact⟨bI (by rw[io,ah b]),rfl⟩
 by_cases j:x<low
 .go_in;go_wp2;go_ret;exact⟨bI (by rw[io,ag Y,ah j]),rfl⟩
 go_in;go_wp2;go_ret;exact⟨bI (by rw[io,ag Y,ag Y]),rfl⟩
def o8(l:au):Int:=l.foldl bB 0
def AR(l)(x):o8 (l++[x])=bB (o8 l) x:=by simp[o8]
def AS(l):bf (o8 l):=by
 rcases List.eq_nil_or_concat l with rfl|⟨m,x,rfl⟩;exact⟨ao,ao⟩;rw[List.concat_eq_append,AR];exact hW _ _
def VA(A)(c)(l)(w)(hs:l.length<=1000000)(hb:Z (∀z∈l,bf z))(h:Rd w A l):
  () 211 #[.slice A l c] w λe w'=>e=.returned (o8 l:Int)/\w=w':=by
 go_in;go_wp2_with fail;go_loop [3,8] (λs i=>∃k:Nat,k<=l.length/\i=.int .i64 k/\s=.int .i64 (o8 (l.take k))) (λ_ i=>l.length-(intOf i).toNat);case atStart=>exact zA8
 case round=>
  obtain⟨k,u,rfl,rfl⟩:=hrel;by_cases j:k<l.length
  .obtain⟨b,off,z,rfl,r,y,m⟩:=h.get j;have CA:=U (mE (o8 (l.take k)) z w (AS _) (hb.o z (aK m.o)));go_wp2_with fail;refine CA.o.mono ?_;rintro e w' ⟨rfl,rfl⟩;go_wp2;go_round;(case rel=>exact⟨k+1,Y,by go_num,by rw[take_at m.o,AR]⟩);case measure=>exact ou
  have e:Z (l.take k=l):=U (bV Y);go_wp2;go_ret;exact⟨bI (by rw[e.o]),rfl⟩

section
variable{h:Int}{P:Program}{f:Nat}{args:Array Value}{v:Value}
@[grind cases]class I6(x:Int):Prop where
 bd:bf x
@[grind cases]class cm(xs:List Int):Prop where
 bd:∀z∈xs,bf z
instance I6.mul[a:I6 x][b:I6 y]:I6 (bw x y):=⟨jU a.bd b.bd⟩
instance:I6 0:=⟨ao,ao⟩
instance:I6 1:=⟨ao,ao⟩
instance:I6 2:=⟨ao,ao⟩
instance:I6 3:=⟨ao,ao⟩
instance:I6 4:=⟨ao,ao⟩
instance:I6 5:=⟨ao,ao⟩
instance:I6 6:=⟨ao,ao⟩
instance:I6 7:=⟨ao,ao⟩
instance:I6 (-1):=⟨ao,ao⟩
instance:I6 1073741824:=⟨ao,ao⟩
instance:I6 2147483648:=⟨ao,ao⟩
instance:I6 4294967296:=⟨ao,ao⟩
instance:I6 (-4294967296):=⟨ao,ao⟩
instance:I6 9223372036854775807:=⟨ao,ao⟩
def cm.hid[a:cm xs]:Z (∀z∈xs,bf z):=U a.bd
theorem cm.at[cm xs]{k:Nat}(h:xs[k]?=some x):I6 x:=⟨ay⟩
def ll{w:ab}(h:Calls P f args w λe w'=>e=.returned v/\w=w'):Calls P f args w (aL w v):=
 h.mono λ_ _ ⟨b,j⟩=>⟨b,j▸aC⟩
def aaO{w:ab}(h:Calls P f args w λe w'=>e=.returned v/\Below w.1.size w w'):Calls P f args w (aL w v):=
 h.mono λ_ _ ⟨b,j⟩=>⟨b,⟨j⟩⟩
section
variable{w:World}
def gK[a:I6 x][b:I6 y]:() 170 #[x,y] w (aL w (bw x y:Int)):=ll (rc x y w a.bd b.bd)
def ma[a:I6 x][b:I6 y]:() 171 #[x,y] w (aL w (bB x y:Int)):=ll (mE x y w a.bd b.bd)
def Qh[a:I6 x]:() 224 #[x] w (aL w (EX x:Int)):=ll (Vz x w a.bd)
def EZ{l:Int}:() 262 #[x,l,h] w (aL w (io x l h:Int)):=ll (MB x l h w)
end
end
variable{B C D:Option Addr}{R c' d d' m':Nat}{ys:List Int}
structure Tn where
 A:Option Addr
 c:Nat
 zs:List Int
 B:Option Addr
 d:Nat
 xs:List Int
@[grind cases]structure MC(w:World)(b o:Nat)(t:Tn):Prop where
 old:b<w
 c0:w.cell? (b,o)=some (.slice t.A t.zs.length t.c)
 c1:w.cell? (b,o+1)=some (.slice t.B t.xs.length t.d)
 s:Rd w t.A t.zs
 x:Rd w t.B t.xs
 le:t.xs.length<=t.d
 bd:∀z∈t.xs,bf z
def MC.below{w w':ab}{b o:Nat}{t:Tn}(h:MC w b o t)(hb:Below w.1.size w w'):MC w' b o t:=
 ⟨bN h.old hb.size,(hb.cell (p:=⟨b,o,none⟩) h.old).trans h.c0,(hb.cell (p:=⟨b,o+1,none⟩) h.old).trans h.c1,h.s.below hb,h.x.below hb,h.le,h.bd⟩
def nu(w:ab)(A:bz)(ts:List Tn):Prop:=
 ∀j t,ts[j]?=some t->∃b o,A=some ⟨b,o,none⟩/\MC w b (o+j*2) t
def nu.below{w w':ab}{A:bz}{ts:List Tn}(h:nu w A ts)(hb:Below w.1.size w w'):nu w' A ts:=λj t l=>by
 have⟨b,o,e,k⟩:=h j t l;exact⟨b,o,e,k.below hb⟩
def nu.nil(w)(A):nu w A []:=λj t b=>by simp at b
@[grind cases]class Ts(w:World)(A:Option Addr)(n:Nat)(ts:outParam (List Tn)):Prop where
 rd:nu w A ts
 len:n=ts
section
variable{w:World}{n:Nat}{ts:List Tn}
instance(priority:=low) Ts.step[p:aj w' w][h:Ts w A n ts]:Ts w' A n ts:=⟨h.rd.below p.st,h.len⟩
instance(priority:=low) Ts.empty:Ts w A 0 []:=⟨nu.nil _ _,rfl⟩
theorem Ts.get(h:Ts w A n ts){k:Nat}(m:k<n):∃b o j c1 zs l d1 xs,A=some ⟨b,o,none⟩/\Old b w/\w.cell? (b,o+k*2)=some (.slice j zs.length c1)/\w.cell? (b,o+k*2+1)=some (.slice l xs.length d1)/\
  Sl w j zs.length zs/\Sl w l xs.length xs/\xs.length<=d1/\cm xs/\Z (ts[k]?=some ⟨j,c1,zs,l,d1,xs⟩):=by
 have e:ts[k]?=some (ts[k]'(by grind)):=ay;obtain⟨b,o,rfl,t⟩:=h.rd k _ e;exact⟨b,o,_,_,_,_,_,_,rfl,⟨t.old⟩,t.c0,t.c1,⟨t.s,rfl⟩,⟨t.x,rfl⟩,t.le,⟨t.bd⟩,e⟩
end
section
variable{w:World}{n:Nat}{ts:List Int}
def Af{v:ab}{o:Nat}{t:Tn}{cs:dw}(h:aA v g T cs)(b:cs[o]?=some (.slice t.A t.zs.length t.c))(e:cs[o+1]?=some (.slice t.B t.xs.length t.d))(s:Rd v t.A t.zs)(x:Rd v t.B t.xs)(le:t.xs.length<=t.d)(bd:∀z∈t.xs,bf z):MC v g o t:=
 ⟨h.lt,(h.cell o).trans b,(h.cell (o+1)).trans e,s,x,le,bd⟩
@[grind cases]class Le(a b:Nat):Prop where
 le:a<=b
instance Le.same(a:Nat):Le a a:=⟨al _⟩
instance Ts.AJ[h:Bx w g T #[(A,n,c),(B,m,d)]][s:Sl w A n zs][x:Sl w B m xs][l:Le m d][i:cm xs]:Ts w g 1 [⟨A,c,zs,B,d,xs⟩]:=
 ⟨λj t b=>by
  cases j with
  |zero=>
   simp at b;subst b;obtain⟨s,rfl⟩:=s;obtain⟨x,rfl⟩:=x;exact⟨g,0,rfl,Af h.ak rfl rfl s x l.le i.bd⟩
  |succ j=>simp at b,rfl⟩
instance Ts.Qg[h:Bx w g T #[(A,n,c),(B,m,d),(C,R,c'),(D,m',d')]][s:Sl w A n zs][x:Sl w B m xs][l:Le m d][i:cm xs][e:Sl w C R ts][r:Sl w D m' ys][u:Le m' d'][y:cm ys]:Ts w g 2 [⟨A,c,zs,B,d,xs⟩,⟨C,c',ts,D,d',ys⟩]:=
 ⟨λj t b=>by
  obtain⟨s,rfl⟩:=s;obtain⟨x,rfl⟩:=x;obtain⟨e,rfl⟩:=e;obtain⟨r,rfl⟩:=r
  match j with
  |0=>simp at b;subst b;exact⟨g,0,rfl,Af h.ak rfl rfl s x l.le i.bd⟩
  |1=>simp at b;subst b;exact⟨g,0,rfl,Af h.ak rfl rfl e r u.le y.bd⟩
  |j+2=>simp at b,rfl⟩
end
variable{H:Type}{enc:TypeId×Value->H}{base:Nat}{held:Bool}{v:Value}
section
open Go.RowKit Go.ChangeShapes Go.WideShapes Go.Deep
theorem AT{a:Addr}(h:W.cell? a=some v):∃b o,a=⟨b,o,none⟩:=by
 have⟨b,off,sp⟩:=a;cases sp with
 |none=>grind
 |some s=>exfalso;simp[World.cell?]at h;grind
theorem add_plain(b o k):(⟨b,o,none⟩:Addr).add k=⟨b,o+k,none⟩:=by
 unfold Addr.add;grind
theorem MD{cs:ki}{x:DataW H×List MemPlace}(h:DataW.trod enc prog W base (λ_=>true) held m 28 cs=some x)(j:cs.length=2):
  ∃A c zs B d xs,cs=[.slice A zs.length c,.slice B xs.length d]/\kZ W A c zs/\kZ W B d xs:=by
 match cs,j with
 |[v0,v1],_=>have⟨_,_,b⟩:=fld underlying28 h 0 _ rfl;have⟨_,_,e⟩:=fld underlying28 h 1 _ rfl;replace b:DataW.trod enc prog W base (λ_=>true) held _ 25 [v0]=some _:=b;replace e:DataW.trod enc prog W base (λ_=>true) held _ 26 [v1]=some _:=e;obtain⟨A,c,zs,rfl,l⟩:=tQ underlying25 underlying3 ap b;obtain⟨B,d,xs,rfl,i1⟩:=tQ underlying26 underlying65 ap e;grind
end
section
open Go.RowKit Go.ChangeShapes Go.WideShapes Go.Deep
def Wt(t:TypeId)(d:DataW H):Prop:=∀n∈d.weights prog t,n<=reachBytes
abbrev jV:Nat:=17592186043904
def VB{ts:List TypeId}{b:List (DataW H)}(h:(DataW.weightsEach prog ts b).all (· <=reachBytes)=true){t:TypeId}{d:DataW H}(ht:ts[j]?=some t)(hd:b[j]?=some d):Wt t d:=
 λn e=>by simpa using dL.1 h _ (zU ht hd n e)
theorem yu{E:TypeId}{x:DataW H×List MemPlace}(r:prog.underlying T=some (.slice E))(hE:prog.underlying E=some (.int .i64))(u:prog.cellsOf E=1)(hb:prog.bytesOf E=8)
  (h:DataW.trod enc prog W base (λ_=>true) held m T [v]=some x) (y:Wt T x.1):∃A c zs,v=.slice A (List.length zs) c/\kZ W A c zs/\zs.length<=jV:=by
 obtain⟨A,c,zs,rfl,hi⟩:=tQ r hE u h;refine⟨A,c,zs,rfl,hi,?_⟩;rcases open_ints r hE u h with⟨b,_⟩|⟨a,l,c,j,b,_,C,hm,z,B,_,_⟩;grind;injection b with b;injection b with _ e _;subst B;have:=y ((((j.take l).length+(j.drop l).length))*8) (by simp[DataW.weights,r,hb,lits]);simp only[vc]at z;simp[reachBytes]at this;grind
theorem yv{cs:ki}{x:DataW H×List MemPlace}(h:DataW.trod enc prog W base (λ_=>true) held m 28 cs=some x)(r:cs.length=2)(u:Wt 28 x.1):
  ∃A c zs B d xs,cs=[.slice A (List.length zs) c,.slice B (List.length xs) d]/\kZ W A c zs/\kZ W B d xs/\zs.length<=jV/\xs.length<=jV:=by
 match cs,r with
 |[v0,v1],_=>
  have⟨ys,n,_,hx,_,vi,hg⟩:=G1 underlying28 h;match ys,vi with
  |[y0,y1],_=>have y:DataW.trod enc prog W base (λ_=>true) held n 25 [v0]=some y0:=hg 0 _ rfl;have z:DataW.trod enc prog W base (λ_=>true) held n 26 [v1]=some y1:=hg 1 _ rfl;(have e:x.1=.agg [y0.1,y1.1]:=by rw[hx];rfl);(have b:∀n∈DataW.weightsEach prog [25,26] [y0.1,y1.1],n<=reachBytes:=by intro n l;refine u n ?_;rw[e];simp only[DataW.weights,underlying28];exact l);obtain⟨A,c,zs,rfl,C,D⟩:=yu underlying25 underlying3 ap ap y (λn l=>b n (zU (j:=0) rfl rfl n l));obtain⟨B,d,xs,rfl,i1,l1⟩:=yu underlying26 underlying65 ap ap z (λn l=>b n (zU (j:=1) rfl rfl n l));grind
def qI{e:TypeId}:∀{l:List (DataW H)} {d:DataW H},d∈l->∀n∈d.weights prog e,n∈DataW.weightsAll prog e l
 |a::l,d,h,n,b=>by simp only[DataW.weightsAll,cu];rcases dE.1 h with rfl|h;exact .inl b;exact .inr (qI h n b)
structure VC(W:World)(A:Option Addr)(c:Nat)(ts:List Tn):Prop where
 rd:nu W A ts
 big:∀t∈ts,t.zs<=jV/\t.xs<=jV
 ad3:∀t∈ts,t.zs.length<=t.c
 len:ts.length*48<=140737488351232
 cap:ts<=c
theorem Jf{x:DataW H×List MemPlace}(h:DataW.trod enc prog W base (λ_=>true) held j 23 [v]=some x)(I:Wt 23 x.1):∃A c ts,v=.slice A (List.length ts) c/\VC W A c ts:=by
 rcases open_slice underlying23 h with⟨l,_⟩|⟨a,len,cap,m,n,D,Pl,l,_,M,hm,r,J,hi⟩;cases l;exact⟨none,0,[],rfl,nu.nil _ _,aI,aI,aI,al _⟩;cases l;simp only[vc]at r;subst r;have K:prog.cellsOf 28=2:=ap;have N:prog.bytesOf 28=48:=ap;have E:∀i,i<len->Wt 28 (D i):=λi hi n O=>by refine I n ?_;rw[J];simp only[DataW.weights,underlying23,dE,cu];exact .inr (.inl (qI ay n O))
 have e:len*48<=140737488351232:=by have:=I ((len+(m-len))*48) (by rw[J];simp[DataW.weights,underlying23,N]);simp[reachBytes]at this;omega
 have key:∀i,i<len->∃(b o:Nat) (t:Tn),a=⟨b,o,none⟩/\MC W b (o+i*2) t/\t.zs.length<=jV/\t.xs.length<=jV/\t.zs.length<=t.c:=by intro i F;have⟨kx,hc,ht⟩:=hi i Y;rw[K]at hc;have⟨_,vj,RK⟩:=P5 hc;obtain⟨A,c,zs,B,d,xs,rfl,L,i1,P,l1⟩:=yv ht vj (E i F);have y:=RK 0 Y;have G:=RK 1 Y;rw[Go.Deep.add_add]at y G;(have Q:∃b o,a=⟨b,o,none⟩:=by have⟨cs0,mG,ht0⟩:=hi 0 Y;rw[K]at mG;have⟨_,ad4,ad5⟩:=P5 mG;obtain⟨_,_,_,_,_,_,rfl,_,_⟩:=MD ht0 ad4;have g:=ad5 0 Y;rw[Go.Deep.add_add]at g;exact AT (show W.cell? (a.add 0)=some _ from g));obtain⟨R,S,rfl⟩:=Q;rw[add_plain]at y G;exact⟨R,S,⟨A,c,zs,B,d,xs⟩,rfl,⟨GG W _ y,y,G,L.rd,i1.rd,i1.2.1,λz T=>Ay (i1.2.2.2 z T)⟩,P,l1,L.2.1⟩
 have all:∀k,k<=len->∃ts:List Tn,ts.length=k/\nu W (some a) ts/\∀t∈ts,t.zs.length<=jV/\t.xs.length<=jV/\t.zs.length<=t.c:=by
  intro k;induction k with
  |zero=>intro _;exact⟨[],rfl,nu.nil _ _,aI⟩
  |succ k V=>intro hk;have⟨ts,e,wW,E0⟩:=V Y;obtain⟨b,o,t,rfl,ht,M⟩:=key k Y;refine⟨ts++[t],by simp[e],λaa u C=>?_,λu hu=>?_⟩;by_cases X:aa<k;rw[uE Y]at C;exact wW aa u C;(have:aa=k:=by have:=(bj.1 C).1;simp at this;omega);subst this;rw[eT Y,e]at C;grind;grind
 have⟨ts,hts,wW,E0⟩:=all len (al _);exact⟨some a,m,ts,by rw[hts],wW,λt ht=>⟨(E0 t ht).1,(E0 t ht).2.1⟩,λt ht=>(E0 t ht).2.2,Y,Y⟩
end
variable{l:Nat}{fs:Array Field}{spare:Nat->Bool}
section
open Go.RowKit Go.ChangeShapes Go.WideShapes Go.Deep
theorem Jg{cs:ki}{x:DataW H×List MemPlace}(b:prog.underlying T=some (.struct fs))(h:DataW.trod enc prog W base spare held l T cs=some x)(r:Wt T x.1)
  (i:Nat) (f:Field) (e:fs[i]?=some f):∃n y,DataW.trod enc prog W base spare held n f.type ((cs.drop f.offset).take (prog.cellsOf f.type))=some y/\Wt f.type y.1:=by
 obtain⟨xs,n,_,u,_,z,hg⟩:=G1 b h;have hi:i<xs:=by rw[z];exact ay
 refine⟨n,xs[i],(hg i f e).trans (bk hi),λm hm=>r m ?_⟩;rw[u];simp only[DataW.weights,b];refine zU (j:=i) (t:=f.type) (d:=xs[i].1) ?_ ?_ m hm;simp[e];grind
end
def ME{n k:Nat}{v:Int}(b:k<n):(List.replicate k v++List.replicate (n-k) 0).set k v=List.replicate (k+1) v++List.replicate (n-(k+1)) 0:=by
 rw[ky _ _ aI];simp only[fe,eV];rw[show n-k=(n-(k+1))+1 from Y,jM,i4,List.replicate_succ',hM];rfl
theorem VD{n k:Nat}{v:Int}(b:k<n):(List.replicate k v++List.replicate (n-k) 0)[k]?=some 0:=by
 grind
theorem cG(h:aH zs=true):∃n:Nat,aB zs=(n:Int)/\1<=n/\n<=65536:=by
 have⟨_,h4,tU,hp⟩:=(ba zs).1 h;have b:=(pQ zs tU h4).1;exact⟨(aB zs).toNat,Y,Y,Y⟩
def acR(w:ab)(zs xs:au)(e:Ending)(w':ab):Prop:=
 ∃g b,e=.returned (.tuple #[.agg #[.slice (some ⟨g,0,none⟩) zs zs.length,.slice (some ⟨b,0,none⟩) xs xs.length],an])/\w.1.size<=g/\w.1.size<=b/\Own w' g 3 zs/\Own w' b 65 xs/\Below w.1.size w w'
def yw(A:bz)(c:Nat)(zs:au)(b:Int)(n:Nat)(w:ab)(hs:zs.length<=1000000)(h:Rd w A zs)(hr:Z (aH zs=true))(D:Z (aB zs=(n:Int))):
  () 62 #[.slice A zs c,b] w (acR w zs (List.replicate n b)):=by
 have⟨r1,r4,q9,rpr⟩:=(ba zs).1 hr;have K:n<=65536:=by have:=D.o;omega
 have E:=(aY w.1.size w).alloc (al _) (.cells #[(),()] 28);have k0:=aA.new w 28 #[(),()];have F:Z (bG zs=(n:Int)/\cB zs=0):=U (by simp[bG,cB,hr.o,D.o]);have B:=λW=>run_make_row' (P:=prog) 26 65 an 8 underlying26 ap rfl .i64 .i64 n Y Y W;rw[jh]at B;go_in;go_wp2_with fail;refine(vh A c zs _ hs (h.below E)).mono ?_;rintro e w1 ⟨rfl,hb⟩;rw[F.o.1,F.o.2];have k1:=k0.keep hb;have G:=dm E hb;have u:=G.size;go_wp2;go_loopw [23] (λi wr=>∃k:Nat,k<=n/\i=.int .i64 k/\Own wr w1.1.size 65 (List.replicate k b++List.replicate (n-k) 0)/\aA wr w.1.size 28 #[(),()]/\Below w.1.size w wr) (λi _=>n-(intOf i).toNat);exact⟨0,aR _,rfl,Own.new _ _ _,k1.alloc _,G.alloc u _⟩;obtain⟨k,T,rfl,j,m,l⟩:=hrel;by_cases y:k<n
 .have V:=j.cell (VD (v:=b) y);have X:=j.frozen k;have z:=U (j.av k b);rw[ME y]at z;have C:=j.aF m ao;have L:=U (m.aV (p:=⟨w1.1.size,k,none⟩) C.symm b);go_wp2;go_roundw;exact⟨k+1,Y,by go_num,z,L,l.setCell u _⟩;exact zAb
 have e:List.replicate k b++List.replicate (n-k) 0=List.replicate n b:=by obtain rfl:k=n:=Y;simp
 rw[e]at j;have z:=U j;go_wp2_with fail;refine(mC A c zs wr hs (h.below l)).mono ?_;rintro e w2 ⟨g,rfl,hg,I,r⟩;have k2:=m.keep r;have J:=z.o.keep r;have M:=dm l r;have⟨q0,q1⟩:=bM k2;have f0:=k2.frozen 0;have f1:=k2.frozen 1;have n1:=I.aF k2 ao;have n2:=J.aF k2 ao;have N:=l.size;go_wp2;have O:=k2.bP (.slice g zs zs.length) (w1,n,n);have Q:=bA M (al _) (.slice g zs zs.length) (w1,n,n);have R:=I.bH n1 (.slice g zs zs.length) (w1,n,n);have S:=J.bH n2 (.slice g zs zs.length) (w1,n,n);have⟨q0,q1⟩:=bM O;exact aZ (v:=.tuple #[.agg #[.slice g zs zs.length,(w1,n,n)],an]) (by simp[results,results62,go_sem,q0,q1]) rfl<|⟨_,_,by rw[fe],Y,Y,R,S,Q⟩
def Jh(p)(w):
  CallsD prog 184 #[.pointer (some p)] .returning w λe b w'=>e=.returned (.tuple #[])/\b=.returning/\w'=w:=by
 refine callsD_of_wpS func184 rfl λj cs hu=>?_;apply wpS_seq;apply wpS_region;simp[wpOpsS,go_sem,recoverD,hu,ntmps184,Exit.thenS];refine wpS_cond (t:=false) (by simp[Act.eval,Array.replicate]) ?_;simp only[Bool.false_eq_true,if_false];refine wpS_of_wp (wp_skip ?_);cases j;simp_all [bodyPostS,results,results184]
def zA0(h:Γ:=by refine leaves_cons (f:=184) (args:= #[.pointer w.1.size]) aI (by simp[go_sem]) ?_;refine(Jh ⟨w.1.size,0,none⟩ _).mono ?_;rintro e R F ⟨rfl,rfl,rfl⟩;rw[E.o];simp[Leaves,settle,results,results116,go_sem];exact⟨rfl,(aY _ _).alloc (al _) _⟩):=h
def aaP(A B)(c d)(xs l)(w)(S:xs.length<=1000000)(G:Z (xs.length=l.length))(h:Rd w A xs)(L:Rd w B l):
  () 116 #[.slice A xs c,.slice B l d] w (o0 w (.bool (decide (xs=l)))):=by
 have I:=(aY w.1.size w).alloc (al _) (.cells #[.bool false] 4);have g:=h.below I;have M:=L.below I;go_enter_defers func116,ntmps116;go_wp2_with fail;go_loop [10] (λi=>∃k:Nat,k<=xs.length/\i=.int .i64 k/\xs.take k=l.take k) (λi=>xs.length-(intOf i).toNat);exact zA8;obtain⟨k,T,rfl,r⟩:=hrel;have J:=U r;clear r;by_cases m:k<xs.length
 .obtain⟨b,off,x,rfl,hb,N,u⟩:=g.get m;(have z:k<l.length:=by rwa[<-G.o]);obtain⟨V,K,y,rfl,O,P,C⟩:=M.get z;by_cases j:x=y
  .have Q:(x !=y)=false:=by simp[j]
   have D:=U j;go_wp2;go_round;exact⟨k+1,Y,by go_num,by rw[take_at u.o,take_at C.o,J.o,D.o]⟩;exact zAb
  have Q:(x !=y)=true:=by simp[j]
  have E:Z (decide (xs=l)=false):=U (by simpa using Vo u.o C.o j);go_wp2;exact zA0
 have E:Z (decide (xs=l)=true):=U (by simpa using vf G J m);go_wp2_with fail;exact zA0
def zAa(h:Γ:=by go_wp2;go_ret;exact⟨bR y.o.symm,below_drewN j n⟩):=h
theorem VE(A B C D)(c d m d')(zs xs ts b)(w)(z:zs.length<=1000000)(I:xs.length<=1000000)(ht:ts.length<=1000000)
  (E:Rd w A zs) (J:Rd w B xs) (F:Rd w C ts) (K:Rd w D b):
  () 67 #[.agg #[.slice A zs c,.slice B xs d],.agg #[.slice C ts m,.slice D b d']] w (o0 w (.bool (decide (zs=ts)&&decide (xs=b)))):=by
 have j:=((aY w.1.size w).alloc (al _) (.cells #[.slice A zs c,.slice B xs d] 28)).alloc aI (.cells #[.slice C ts m,.slice D b d'] 28);have k0:=(aA.new w 28 #[.slice A zs c,.slice B xs d]).alloc (.cells #[.slice C ts m,.slice D b d'] 28);have u:=aA.eF (w.alloc (.cells #[.slice A zs c,.slice B xs d] 28)) 28 #[.slice C ts m,.slice D b d'] (n:=w.1.size+1) aI;by_cases r:zs=ts
 .have l:Z (decide (zs=ts)=true):=U (by simpa using r);clear r;by_cases G:xs.length=b.length
  .have L:=U G;(have M:((xs.length:Int)==(b.length:Int))=true:=by simp;omega);have y:Z ((decide (zs=ts)&&decide (xs=b))=decide (xs=b)):=U (by rw[l.o];simp);clear G;go_in;go_wp2_with fail;refine(mj A C c m zs ts _ z ht (E.below j) (F.below j)).mono ?_;rintro e w1 ⟨rfl,n,rfl⟩;rw[l.o];have⟨p0,p1⟩:=bM (k0.drewN n);obtain⟨q0,N⟩:=bM (u.drewN n);go_wp2_with fail;refine(aaP B D d d' xs b _ I L ((J.below j).drewN n) ((K.below j).drewN n)).mono ?_;rintro e w2 ⟨rfl,hb⟩;go_wp2_with fail;go_ret;exact⟨bR y.o.symm,dm j (Vm hb)⟩
  have M:((xs.length:Int)==(b.length:Int))=false:=by simp;omega
  have y:Z ((decide (zs=ts)&&decide (xs=b))=false):=U ay;clear G;go_in;go_wp2_with fail;refine(mj A C c m zs ts _ z ht (E.below j) (F.below j)).mono ?_;rintro e w1 ⟨rfl,n,rfl⟩;rw[l.o];have⟨p0,p1⟩:=bM (k0.drewN n);have⟨q0,N⟩:=bM (u.drewN n);exact zAa
 have l:Z (decide (zs=ts)=false):=U (by simpa using r);have y:Z ((decide (zs=ts)&&decide (xs=b))=false):=ay;go_in;go_wp2_with fail;refine(mj A C c m zs ts _ z ht (E.below j) (F.below j)).mono ?_;rintro e w1 ⟨rfl,n,rfl⟩;rw[l.o];exact zAa
section
variable{w:World}{n:Nat}{ts:List Int}
def bK[a:Sl w A n zs][b:Sl w B m xs](e:n<=1000000):() 69 #[.agg #[(A,n,c),(B,m,d)]] w (aL w (.bool (aw zs xs))):=by
 obtain⟨a,rfl⟩:=a;obtain⟨b,rfl⟩:=b;exact Vx (eO A B c d zs xs w e a)
def ga[a:Sl w A n zs][b:Sl w B m xs](e:n<=1000000)(hm:m<=1000000):() 70 #[(A,n,c),(B,m,d)] w (aL w (.bool (decide (zs=xs)))):=by
 obtain⟨a,rfl⟩:=a;obtain⟨b,rfl⟩:=b;exact acP (mj A B c d zs xs w e hm a b)
def E1[a:Sl w A n zs][b:Sl w B m xs][a':Sl w C R ts][e:Sl w D m' ys](l:n<=1000000)(hm:m<=1000000)(j:R<=1000000):() 67 #[.agg #[(A,n,c),(B,m,d)],.agg #[(C,R,c'),(D,m',d')]] w (aL w (.bool (decide (zs=ts)&&decide (xs=ys)))):=by
 obtain⟨a,rfl⟩:=a;obtain⟨b,rfl⟩:=b;obtain⟨a',rfl⟩:=a';obtain⟨e,rfl⟩:=e;exact Vx (VE A B C D c d c' d' zs xs ts ys w l hm j a b a' e)
def ad6(w:ab)(zs xs:au)(e:Ending)(w':ab):Prop:=
 ∃g b,e=.returned (.agg #[.slice (some ⟨g,0,none⟩) zs zs.length,.slice (some ⟨b,0,none⟩) xs xs.length])/\w.1.size<=g/\w.1.size<=b/\Own w' g 3 zs/\Own w' b 65 xs/\aj w' w
def gX[a:Sl w A n zs][b:Sl w B m xs](e:n<=1000000)(hm:m<=1000000):() 71 #[.agg #[(A,n,c),(B,m,d)]] w (ad6 w zs xs):=by
 obtain⟨a,rfl⟩:=a;obtain⟨b,rfl⟩:=b;exact(pS A B c d zs xs w e hm a b).mono λ_ _ ⟨g,j,l,r,u,o1,y,hb⟩=>⟨g,j,l,r,u,o1,y,⟨hb⟩⟩
end
