/- Lemmas. -/
import Derived.Test.YtmkjnlifimffkaaGreatProg
import Derived.WalkKit
import Derived.WalkSpells
import Derived.WalkLawsBesides
import Derived.Deep.QuietTactic
import Derived.BigQuiet
import Derived.Deep.Draws
import Derived.Lib.Hide
import Derived.Laws.CopyOwn
import Derived.Deep.OwnRows
import Derived.ProofKit
import Derived.OpenShut
import Derived.ChangeOld
import Derived.Lib.SmallJoins
import Derived.Deep.Slices
import Derived.Maps.AppendAt
import Derived.OwnWalk
import Derived.Deep.RegionHeld3
import Derived.Lib.SliceRun
import Derived.Deep.Upon
namespace Go.Proofs.YtmkjnlifimffkaaGreat
open Go.RowKit Tryz
set_option linter.all false
set_option maxRecDepth 100000
set_option maxHeartbeats 0
variable{Γ:Prop}
def Hx(p:Prop):Prop:=p
theorem Hx.o{p:Prop}(h:Hx p):p:=h
theorem ae{p:Prop}(h:p):Hx p:=h
def Rd(w:World)(A:Option Addr)(zs:List Int):Prop:=
 ∀j z,zs[j]?=some z->∃b off,A=some ⟨b,off,none⟩/\b<w.heap.size/\w.cell? ⟨b,off+j,none⟩=some (.int .i64 z)
def zAb(h:Γ:=by simp):=h
theorem Rd.nil(w:World)(A:Option Addr):Rd w A []:=fun j _ hj=>absurd hj zAb
theorem Rd.get{w:World}{A:Option Addr}{zs:List Int}(h:Rd w A zs){k:Nat}(hk:k<zs.length):
  ∃b off z,A=some ⟨b,off,none⟩/\b<w.heap.size/\w.cell? ⟨b,off+k,none⟩=some (.int .i64 z)/\Hx (zs[k]?=some z):=by
 have e:zs[k]?=some zs[k]:=List.getElem?_eq_getElem hk;obtain⟨b,off,rfl,hb,hc⟩:=h k _ e;exact⟨b,off,_,rfl,hb,hc,e⟩
theorem Rd.all{w:World}{b off:Nat}{zs:List Int}(h:Rd w (some ⟨b,off,none⟩) zs){k:Nat}{z:Int}(hk:zs[k]?=some z):w.cell? ⟨b,off+k,none⟩=some (.int .i64 z):=by
 obtain⟨b',abk,he,_,hc⟩:=h k z hk;injection he with he;injection he with h1 h2;subst h1;subst h2;exact hc
theorem Rd.keep{w w':World}{A:Option Addr}{zs:List Int}(h:Rd w A zs)(hs:w.heap.size<=w'.heap.size)(hk:∀p:Addr,p.block<w.heap.size->w'.cell? p=w.cell? p):Rd w' A zs:=by
 intro j z hj;obtain⟨b,off,e,hb,hc⟩:=h j z hj;exact⟨b,off,e,by omega,(hk _ hb).trans hc⟩
theorem Rd.below{w w':World}{A:Option Addr}{zs:List Int}(h:Rd w A zs)(hb:Below w.heap.size w w'):Rd w' A zs:=
 h.keep hb.size fun _ hp=>hb.cell hp
theorem Rd.alloc{w:World}{A:Option Addr}{zs:List Int}(h:Rd w A zs)(o:Obj):Rd (w.alloc o) A zs:=
 h.keep zAb fun p hp=>World.cell?_alloc_lt w o p hp
theorem Rd.drewN{w:World}{A:Option Addr}{zs:List Int}(h:Rd w A zs)(n:Nat):Rd (w.drewN n) A zs:=h
def ints(zs:List Int):Array Value:=(zs.map (Value.int .i64)).toArray
theorem yH(zs:List Int):(ints zs).size=zs.length:=by simp[ints]
theorem u4(zs:List Int)(j:Nat):(ints zs)[j]?=zs[j]?.map (Value.int .i64):=by simp[ints]
theorem ints_set(zs:List Int)(k:Nat)(z:Int):(ints zs).setIfInBounds k (.int .i64 z)=ints (zs.set k z):=by
 simp[ints,List.setIfInBounds_toArray,List.map_set]
theorem kj(n:Nat):madeCells #[.int .i64 0] n=ints (List.replicate n 0):=by
 apply Array.ext';rw[toList_madeCells_one];simp[ints]
def Own(w:World)(g:Nat)(T:TypeId)(zs:List Int):Prop:=w.heap[g]?=some (.cells (ints zs) T (0,0))
section
variable{w w':World}{g:Nat}{T:TypeId}{zs:List Int}
def zAa(h:Γ:=by rw[Array.getElem?_eq_none tx]at h;cases h):=h
theorem Own.lt(h:Own w g T zs):g<w.heap.size:=by
 rcases Nat.lt_or_ge g w.heap.size with bE|tx;exact bE;unfold Own at h;exact zAa
theorem Own.cell(h:Own w g T zs){i:Nat}{z:Int}(hz:zs[i]?=some z):w.cell? ⟨g,i,none⟩=some (.int .i64 z):=by
 unfold Own at h;simp[World.cell?,h,u4,hz]
theorem Own.frozen(h:Own w g T zs)(i:Nat):w.frozen? ⟨g,i,none⟩=false:=by
 unfold Own at h;simp[World.frozen?,h]
theorem Own.rd(h:Own w g T zs):Rd w (some ⟨g,0,none⟩) zs:=fun j z hj=>⟨g,0,rfl,h.lt,by rw[Nat.zero_add];exact h.cell hj⟩
theorem Own.new(w:World)(T:TypeId)(zs:List Int):Own (w.alloc (.cells (ints zs) T)) w.heap.size T zs:=heap_alloc_new w _
theorem Own.ew(w:World)(T:TypeId)(zs:List Int){n:Nat}(h:w.heap.size=n):Own (w.alloc (.cells (ints zs) T)) n T zs:=h▸Own.new w T zs
theorem Own.drew(h:Own w g T zs):Own w.drew g T zs:=h
theorem Own.drewN(h:Own w g T zs)(n:Nat):Own (w.drewN n) g T zs:=h
theorem Own.alloc(h:Own w g T zs)(o:Obj):Own (w.alloc o) g T zs:=(Below.heap_alloc w o g h.lt).trans h
theorem Own.av(h:Own w g T zs)(i:Nat)(z:Int):Own (w.setCell ⟨g,i,none⟩ (.int .i64 z)) g T (zs.set i z):=by
 unfold Own at h⊢;simp[World.setCell,Array.getElem?_modify,h,ints_set]
theorem Own.aY(h:Own w g T zs){p:Addr}(hp:g≠p.block)(u:Value):Own (w.setCell p u) g T zs:=(Below.heap_setCell w p u g hp).trans h
theorem Own.below{B:Nat}(h:Own w g T zs)(hb:Below B w w')(hg:g<B):Own w' g T zs:=(hb.block g hg).trans h
theorem Own.keep(h:Own w g T zs)(hb:Below w.heap.size w w'):Own w' g T zs:=h.below hb h.lt
end
def az(w:World)(g:Nat)(T:TypeId)(cs:Array Value):Prop:=w.heap[g]?=some (.cells cs T (0,0))
section
variable{w w':World}{g:Nat}{T:TypeId}{cs:Array Value}
theorem az.lt(h:az w g T cs):g<w.heap.size:=by
 rcases Nat.lt_or_ge g w.heap.size with bE|tx;exact bE;unfold az at h;exact zAa
theorem az.cell(h:az w g T cs)(i:Nat):w.cell? ⟨g,i,none⟩=cs[i]?:=by
 unfold az at h;simp[World.cell?,h]
theorem az.frozen(h:az w g T cs)(i:Nat):w.frozen? ⟨g,i,none⟩=false:=by
 unfold az at h;simp[World.frozen?,h]
theorem az.new(w:World)(T:TypeId)(cs:Array Value):az (w.alloc (.cells cs T)) w.heap.size T cs:=heap_alloc_new w _
theorem az.ew(w:World)(T:TypeId)(cs:Array Value){n:Nat}(h:w.heap.size=n):az (w.alloc (.cells cs T)) n T cs:=h▸az.new w T cs
theorem az.drew(h:az w g T cs):az w.drew g T cs:=h
theorem az.drewN(h:az w g T cs)(n:Nat):az (w.drewN n) g T cs:=h
theorem az.alloc(h:az w g T cs)(o:Obj):az (w.alloc o) g T cs:=(Below.heap_alloc w o g h.lt).trans h
theorem az.av(h:az w g T cs)(i:Nat)(u:Value):az (w.setCell ⟨g,i,none⟩ u) g T (cs.setIfInBounds i u):=by
 unfold az at h⊢;simp[World.setCell,Array.getElem?_modify,h]
theorem az.aY(h:az w g T cs){p:Addr}(hp:g≠p.block)(u:Value):az (w.setCell p u) g T cs:=(Below.heap_setCell w p u g hp).trans h
theorem az.below{B:Nat}(h:az w g T cs)(hb:Below B w w')(hg:g<B):az w' g T cs:=(hb.block g hg).trans h
theorem az.keep(h:az w g T cs)(hb:Below w.heap.size w w'):az w' g T cs:=h.below hb h.lt
end
def Rr(w:World)(T:TypeId)(zs:List Int)(e:Ending)(w':World):Prop:=
 ∃g,e=.returned (.slice (some ⟨g,0,none⟩) zs.length zs.length)/\w.heap.size<=g/\Own w' g T zs/\Below w.heap.size w w'
theorem G4(W:World)(X Y:Array Value)(E:TypeId):(W.alloc (.cells X E)).setRow W.heap.size Y=W.alloc (.cells Y E):=by
 simp only[World.setRow,World.alloc];congr 1;apply Array.ext_getElem?;intro i;rw[Array.getElem?_modify,Array.getElem?_push,Array.getElem?_push];by_cases h:i=W.heap.size;simp[h];simp[h,Ne.symm h]
theorem sj{P:Program}(dT sT ty elem E:TypeId)(hu:P.underlying dT=some (.slice elem))(hs:(P.info? elem).map (·.size)=some 1)
  (zs:List Int) (A:Option Addr) (c:Nat) (W:World) (h:Rd W A zs):
  (Builtin.copy_ #[dT,sT] ty #[.slice (some ⟨W.heap.size,0,none⟩) zs.length zs.length,.slice A zs.length c]).run P (W.alloc (.cells (madeCells #[.int .i64 0] zs.length) E))=.ok (.int .i64 zs.length) (W.alloc (.cells (ints zs) E)):=by
 by_cases h0:zs.length=0;have e:zs=[]:=List.eq_nil_of_length_eq_zero h0;subst e;have:=run_copy_none (P:=P) (W.alloc (.cells (madeCells #[.int .i64 0] 0) E)) dT sT ty elem (some ⟨W.heap.size,0,none⟩) A 0 0 0 c hu hs rfl;rw[kj]at this⊢;exact this;obtain⟨b,off,z,rfl,hb,_,_⟩:=h.get (k:=0) (by omega)
 have:=run_copy_row (P:=P) (W.alloc (.cells (madeCells #[.int .i64 0] zs.length) E)) dT sT ty elem W.heap.size 0 zs.length zs.length ⟨b,off,none⟩ zs.length c
  (madeCells #[.int .i64 0] zs.length) E (zs.map (Value.int .i64)) hu hs (heap_alloc_new W _) zAb (fun j v hv=>by
   rw[List.getElem?_map]at hv;obtain⟨z,hz,rfl⟩:=Option.map_eq_some_iff.1 hv;rw[World.cell?_alloc_lt _ _ _ (by unfold Addr.add;split<;>exact hb)];have:=h.all hz;unfold Addr.add
   split
   ·rename_i e;subst e;exact this
   ·exact this) (by simp[size_madeCells]) (by simp[Value.oneCell'])
 rw[this];have e:((madeCells #[Value.int .i64 0] zs.length).toList.take 0++zs.map (Value.int .i64)++(madeCells #[Value.int .i64 0] zs.length).toList.drop (0+(zs.map (Value.int .i64)).length)).toArray=ints zs:=by simp[ints,toList_madeCells_one]
 rw[e,G4];simp[goInt]
theorem below_drewN{B:Nat}{a w:World}(h:Below B a w)(n:Nat):Below B a (w.drewN n):=⟨h.os,h.tape,h.output,h.size,h.block⟩
theorem Rs{w w':World}{n:Nat}(h:Below (w.drewN n).heap.size (w.drewN n) w'):Below w.heap.size w w':=⟨h.os,h.tape,h.output,h.size,h.block⟩
theorem du{w a b:World}(h:Below w.heap.size w a)(k:Below a.heap.size a b):Below w.heap.size w b:=h.trans (k.mono h.size)
theorem bC{k:IntKind}{a b:Int}(h:a=b):Ending.returned (.int k a)=.returned (.int k b):=by rw[h]
theorem bU{a b:Bool}(h:a=b):Ending.returned (.bool a)=.returned (.bool b):=by rw[h]
section
set_option linter.defProp false
def aQ:=@List.getD_eq_getElem?_getD
def al:=@Nat.le_refl
def aC:=@List.mem_of_getElem?
def a5:=@List.getElem?_eq_getElem
def a8:=@List.getElem?_eq_some_iff
def bt:=@Option.map_eq_some_iff
def bY:=@List.take_of_length_le
def bu:=@Nat.lt_of_lt_of_le
def aM:=@Nat.zero_le
def aL:=@Nat.le_trans
def bh:=@List.length_append
def bJ:=@Int.eq_ofNat_of_zero_le
def a7:=@Go.IntKind.wrap_i64
def aX:=@Go.bodyPost_ret
def bK:=@Bool.and_eq_true
def aZ:=@Int.toNat_natCast
def bf:=@List.getElem?_map
def ba:=@Go.RowKit.Below.heap_setCell
def dP:=@Array.getElem?_eq_some_iff
def bZ:=@decide_eq_true_eq
def cm:=@List.mem_cons_self
def aV:=@Go.RowKit.Below.refl
def bq:=@Go.IntKind.wrap_u64
def cw:=@List.mem_cons
def bj:=@List.length_map
def dp:=@List.mem_cons_of_mem
def bO:=@List.length_take
def cZ:=@List.mem_singleton
def cE:=@List.mem_of_mem_take
def cF:=@Go.results_cell_tmp
def bM:=@List.mem_append
def eX:=@Array.getElem?_setIfInBounds_ne
def cU:=@Nat.mul_le_mul_right
def fa:=@List.take_append_of_le_length
def eE:=@List.getElem?_append_right
def di:=@List.map_cons
def dC:=@List.take_append_drop
def ed:=@List.drop_eq_getElem_cons
def c9:=@List.map_append
def dz:=@List.all_eq_true
def cH:=@Option.some.inj
def bw:=@List.mem_map
def dA:=@List.mem_of_mem_drop
def eF:=@List.drop_of_length_le
def eN:=@List.getElem?_of_mem
def dj:=@List.length_cons
def d9:=@Go.World.cell?_of_block
def fb:=@List.getElem?_drop
def eY:=@List.length_replicate
def cn:=@Go.Addr.add_lit
def eG:=@List.getElem?_take
def cf:=@Nat.zero_add
def bX:=@trivial
def en:=@List.append_nil
def cz:=@Nat.le_succ
def hB:=@List.eq_nil_of_length_eq_zero
def d3:=@List.length_set
def dQ:=@Nat.min_eq_left
def eO:=@List.append_assoc
def b8:=@Int.natCast_mul
def fc:=@List.getElem?_eq_none
def dR:=@List.take_length
def ee:=@Int.natCast_add
def eo:=@List.length_drop
def fF:=@List.getElem?_set_self
def nR:=@List.not_mem_nil
def fX:=@List.take_succ_cons
def jy:=@List.getElem?_replicate
def fY:=@List.sum_cons
def dW:=@List.take_zero
def fd:=@List.take_take
def d5:=@Nat.succ_mul
def jz:=@List.map_nil
def eP:=@Prod.mk.injEq
def eH:=@List.eq_of_mem_replicate
def iA:=@List.map_congr_left
def cq:=@congrArg
def sE:=@List.nodup_cons
def fZ:=@List.ext_getElem?
def nS:=@List.pairwise_iff_getElem
def iB:=@List.drop_succ_cons
def iC:=@Array.length_toList
def ef:=@Nat.add_zero
def iD:=@List.getElem?_set
def lA:=@List.set_append_right
def gC:=@decide_eq_true
def iE:=@List.pairwise_cons
def jA:=@List.replicate_succ
def eI:=@Int.le_refl
def fe:=@Nat.sub_self
def gD:=@decide_eq_false
def g5:=@List.range_succ
def hI:=@Int.mul_assoc
def ei:=@Nat.le_of_eq
def vf:=@Array.getElem?_modify
def aal:=@not_false_eq_true
def g6:=@List.flatMap_cons
def o0:=@List.getElem_mem
def jB:=@Int.mul_comm
def fo:=@List.drop_zero
def gE:=@List.take_left'
def iS:=@List.set_cons_zero
def hA:=@List.mem_or_eq_of_mem_set
def lK:=@List.getElem?_append_left
def dN:=@Go.run_slice_l
def fS:=@Nat.mul_le_mul_left
def MA:=@List.nodup_nil
def ih:=@List.getElem?_range
def jC:=@List.take_add_one
def ty:=@Array.getElem?_setIfInBounds_self_of_lt
def jE:=@List.nil_append
def jD:=@List.foldl_cons
def kH:=@List.getElem?_set_ne
def jF:=@Int.mul_nonneg
def eQ:=@Prod.mk.inj
def fp:=@Nat.mul_one
def jG:=@List.flatMap_append
def xM:=@Int.mul_le_mul_of_nonneg_right
def jH:=@Go.heap_alloc_new
def ij:=@List.size_toArray
def nb:=@List.mem_append_left
def rp:=@Int.mul_le_mul_of_nonneg_left
def kI:=@Int.ediv_nonneg
def jI:=@List.mem_flatMap
def gF:=@Go.run_underlying
def nf:=@List.mem_append_right
def o5:=@List.getElem?_cons_succ
def tz:=@List.setIfInBounds_toArray
def nh:=@List.pairwise_append
def iU:=@List.mem_range
def o2:=@or_false
def e6:=@Nat.zero_mul
def lL:=@Nat.not_lt_zero
def nj:=@Go.RowKit.Below.heap_alloc
def xN:=@Int.emod_lt_of_pos
def xO:=@List.map_toArray
def rq:=@List.filter_cons_of_neg
def iV:=@Int.add_mul
def gG:=@Go.wpStill_nil
def lM:=@Nat.add_assoc
def o6:=@of_decide_eq_true
def dO:=@Ne.symm
def hC:=@Nat.not_lt
def fq:=@Nat.le_of_lt
def xP:=@List.take_succ_eq_append_getElem
def rr:=@List.nodup_append
def lN:=@List.foldl_append
def xQ:=@List.exists_cons_of_ne_nil
def lO:=@Int.mul_le_mul
def tA:=@Array.toList_setIfInBounds
def xR:=@Go.Result.andThen_ok
def nk:=@List.sum_append
def iW:=@List.length_nil
def gH:=@Go.rounds_succ
def lP:=@Nat.min_self
def gI:=@List.map_take
def xS:=@Int.emod_nonneg
def Eh:=@Nat.two_pow_add_eq_or_of_lt
def xT:=@List.drop_sublist_drop_left
def MB:=@Int.ediv_eq_zero_of_lt
def WM:=@Int.add_mul_emod_self_right
def tB:=@Option.getD_some
def ru:=@Nat.lt_or_gt_of_ne
def Ei:=@List.length_singleton
def xU:=@List.getElem?_reverse
def tC:=@List.countP_le_length
def tD:=@Int.ediv_lt_of_lt_mul
def rv:=@Go.grownCap_le_maxLen
def rx:=@List.mem_filter
def o7:=@List.drop_left'
def WN:=@and_true
def jJ:=@List.map_set
def ry:=@List.filter_congr
def rz:=@List.all_eq_false
def MC:=@Int.zero_add
def xV:=@List.Sublist.append_left
def xW:=@Go.run_append_own_at
def lQ:=@Go.run_makeSlice
def rA:=@List.take_set_of_le
def tE:=@Nat.add_sub_cancel_left
def xX:=@List.filter_cons_of_pos
def tF:=@List.drop_length
def Ej:=@List.any_eq_true
def lR:=@Go.wp_loop_rounds
def lS:=@Nat.one_mul
def hx:=@Nat.add_mul
def hD:=@Go.IntWalk.i64_in
def tG:=@Nat.mul_comm
def lT:=@List.map_map
def xY:=@Int.le_ediv_iff_mul_le
def WO:=@Int.add_mul_ediv_right
def lU:=@Go.run_slice_h
def MD:=@Int.mul_ediv_mul_of_pos_left
def Ek:=@Bool.or_eq_true
def kJ:=@Go.run_slice_lh
def xZ:=@Go.Sem.run_pure
def x8:=@Go.Sem.run_bind
def o8:=@Nat.lt_irrefl
def kK:=@List.map_drop
def x9:=@List.eq_replicate_iff
def tH:=@List.count_append
def jK:=@Nat.mul_pos
def ME:=@Nat.mod_two_eq_zero_or_one
def tI:=@List.drop_take
def o9:=@Nat.lt_succ_self
def rC:=@List.take_append
def tJ:=@List.getElem_set
def El:=@Int.pow_succ
def tK:=@Go.wpList_append_own_at
def Em:=@Go.toList_madeCells_one
def En:=@List.getElem?_eq_none_iff
def Eo:=@Decidable.byContradiction
def ya:=@List.countP_eq_zero
def tL:=@Nat.div_le_self
def tM:=@Int.natCast_pow
def tN:=@Bool.eq_iff_iff
def yb:=@List.filter_append
def MF:=@BitVec.ofInt_toInt
def pa:=@Array.ext'
def Ep:=@Nat.le_mul_of_pos_right
def Er:=@Int.pow_pos
def rD:=@Int.one_mul
def pb:=@Go.grownCap_ge
def Es:=@Go.World.block_lt_of_cell?
def tO:=@Nat.succ_pos
def Et:=@Nat.lt_trichotomy
def Eu:=@Nat.le_mul_of_pos_left
def yc:=@Go.MapKept.run_getObj_map
def Ev:=@List.contains_iff_mem
def MG:=@Int.mul_ediv_add_emod
def yd:=@Go.DataW.weights_mem_each
def ye:=@List.ext_getElem
def tP:=@List.cons_append
def tQ:=@Nat.mul_assoc
def tR:=@Bool.or_false
def Ew:=@List.count_singleton
def Ex:=@Go.ChangeMaps.heap_setBlock_other
def yf:=@List.all_append
def yg:=@Go.MapKept.run_checkKey
def yh:=@Go.MapKept.findNow_spec
def yi:=@List.length_zipWith
def MH:=@List.length_pos_iff
def Ey:=@Go.ChangeMaps.heap_setBlock_same
def MI:=@BitVec.msb_eq_toInt
def Ez:=@Array.toList_append
def EA:=@Go.run_firstCells_some
def EB:=@Nat.eq_zero_or_pos
def yj:=@Go.MapKept.run_findKey
def EC:=@List.set_cons_succ
def yk:=@List.count_nil
def ED:=@List.countP_append
def EE:=@Int.cast_ofNat_Int
def MK:=@BitVec.msb_xor
def ML:=@List.getLastD_eq_getLast?
def WP:=@List.getElem?_zip_eq_some
def MM:=@Array.getElem?_eq_getElem
def EF:=@Int.mul_add
def EG:=@Bool.not_eq_true'
def EH:=@Bool.eq_false_iff
def MN:=@List.length_erase_of_mem
def yl:=@List.drop_set
def WQ:=@List.all_cons
def EI:=@Int.ofNat.inj
def EJ:=@Bool.true_and
def MO:=@Go.World.cells?_some
def WR:=@Nat.min_eq_right
def MP:=@List.countP_cons_of_pos
def ym:=@Int.natCast_ediv
def yn:=@if_true
def tS:=@bne_iff_ne
def yo:=@Nat.sub_zero
def tU:=@Nat.add_comm
def yp:=@List.set_set
def MQ:=@List.length_pos_of_mem
def WS:=@Int.zero_mul
def MR:=@Int.add_zero
def MT:=@Int.add_comm
def yq:=@Option.map_some
def EK:=@Go.MapKept.run_setObj_map
def yr:=@Nat.mul_le_mul
def MU:=@Int.sub_mul
def MV:=@Int.pow_add
def pc:=@and_assoc
def EL:=@Go.growslice_fits
def EM:=@Go.World.cell?_alloc_at
def yt:=@Go.run_slice_lhm
def rE:=@Nat.ne_of_lt
def EN:=@Int.le_trans
def EO:=@Int.emod_def
def EP:=@Decidable.em
def EQ:=@Go.run_storeCells_at
def ER:=@Go.World.ownsRow_nil
def ES:=@Go.DataW.trod_struct
def MW:=@Go.World.size_alloc
def MX:=@Go.bits_or_u64_nat
def ag:=@if_neg
def ah:=@if_pos
theorem lh{α:Type}(t:α):∃y,t=y:=⟨_,rfl⟩
theorem lg{α:Type}(t:α):∃y,y=t:=⟨_,rfl⟩
theorem kS{α:Type}(t:α):∃y,Hx (t=y):=⟨_,rfl⟩
theorem lgH{α:Type}(t:α):∃y,Hx (y=t):=⟨_,rfl⟩
theorem om{p:Prop}(h:p:=by omega):p:=h
theorem ao{p:Prop}(h:p:=by kernel_rfl):p:=h
theorem nlr{n:Nat}:n<=n:=Nat.le_refl n
theorem nzl{n:Nat}:0<=n:=Nat.zero_le n
theorem am{p:Prop}(h:p:=by decide):p:=h
theorem aD{p:Prop}(h:p:=by simp):p:=h
theorem nT{p:Prop}(h:p:=by simp[intOf];omega):p:=h
theorem cr{p:Prop}(h:p:=by simp;omega):p:=h
abbrev cAt:=Calls Tryz.prog
def aq:=@inferInstance.{0}
instance:Coe Int Value:=⟨Value.int .i64⟩
instance:Coe Nat Value:=⟨fun n=>Value.int .i64 (n:Int)⟩
instance:Coe World Nat:=⟨fun w=>w.heap.size⟩
instance{α:Type}:CoeOut (List α) Nat:=⟨List.length⟩
instance:Coe Nat (Option Addr):=⟨fun g=>some ⟨g,0,none⟩⟩
instance{A:Option Addr}{n c:Nat}:CoeDep (Option Addr×Nat×Nat) (A,n,c) Value:=⟨.slice A n c⟩
instance{g n c:Nat}:CoeDep (Nat×Nat×Nat) (g,n,c) Value:=⟨.slice (some ⟨g,0,none⟩) n c⟩
instance{w:World}{n c:Nat}:CoeDep (World×Nat×Nat) (w,n,c) Value:=⟨.slice (some ⟨w.heap.size,0,none⟩) n c⟩
instance{b o:Nat}:CoeDep (Nat×Nat) (b,o) Addr:=⟨⟨b,o,none⟩⟩
inductive Zr0 where
 |z
def an:=Zr0.z
instance:Coe Zr0 Value:=⟨fun _=>.int .i64 0⟩
instance:Coe Unit Value:=⟨fun _=>.slice none 0 0⟩
instance:CoeFun Unit (fun _=>FuncId->Array Value->World->(Ending->World->Prop)->Prop):=⟨fun _=>Calls Tryz.prog⟩
theorem mv{P:Program}{f:FuncId}{a:Array Value}{w:World}{v:Ending}{R:World->Prop}{Q:Ending->World->Prop}(h:Calls P f a w (fun e u=>e=v/\R u))(k:∀u,R u->Q v u):Calls P f a w Q:=h.mono fun _ u ⟨e,r⟩=>e▸k u r
abbrev au:=List Int
abbrev bF:=Option Addr
abbrev aa:=World
abbrev j7:=List Value
abbrev m0:=Array Value
abbrev f0:=List (List Int)
end
section
variable{W u:World}{A:Option Addr}{base c m:Nat}{zs:List Int}{H:Type}{enc:TypeId×Value->H}{P:Program}{held:Bool}{T:TypeId}{v:Value}{fs:Array Field}{spare:Nat->Bool}{vs:List Value}{cs:Array Value}
section
open Go.ChangeShapes Go.WideShapes Go.ChangeAt Go.RowKit
def kL(W:aa)(A:bF)(c:Nat)(zs:au):Prop:=Rd W A zs/\zs.length<=c/\c<=maxLen/\∀z∈zs,(Lit.int .i64 z).wf=true
def kL.rd(h:kL W A c zs):Rd W A zs:=h.1
def sF{E:TypeId}{x:DataW H×List MemPlace}(M:P.underlying T=some (.slice E))(hE:P.underlying E=some (.int .i64))(N:P.cellsOf E=1)
  (h:DataW.trod enc P W base (λ_=>true) held m T [v]=some x):∃A c zs,v=.slice A zs.length c/\kL W A c zs:=by
 rcases open_ints M hE N h with⟨B,_⟩|⟨a,l,c,zs,B,_,O,hm,L,_,r,D⟩;cases B;exact⟨none,0,[],rfl,Rd.nil _ _,al _,aM _,aD⟩;cases B;simp only[yn]at L;refine⟨some a,c,zs.take l,by simp[L,dQ O],λj z C=>?_,by simp;omega,hm,λz F=>D z (cE F)⟩;have G:j<zs.length:=by have:=(a8.1 C).1;simp at this;omega
 have I:zs.getD j 0=z:=by (have Q:zs[j]?=some z:=by rw[eG]at C;split at C;exact C;cases C);simp[List.getD,Q]
 have u:=r j G;rw[I]at u;have⟨b,off,sp⟩:=a;have J:sp=none:=by
  cases sp with
  |none=>rfl
  |some s=>exfalso;have K:=r 0 om;simp[Addr.add,World.cell?]at K;split at K<;>simp at K
 subst J;have y:W.cell? (b,off+j)=some (.int .i64 z):=by unfold Addr.add at u;split at u;rename_i e;subst e;exact u;exact u
 exact⟨b,off,rfl,Es W _ y,y⟩
def yI{x:DataW H×List MemPlace}(b:P.underlying T=some (.int .i64))
  (h:DataW.trod enc P W base (λ_=>true) held m T [v]=some x):∃n,v=.int .i64 n/\(Lit.int .i64 n).wf=true:=by
 have⟨n,e,_,hw⟩:=DataW.trod_int b h;simp at e;subst e;exact⟨n,rfl,hw⟩
def fld{cs:j7}{x:DataW H×List MemPlace}(e:P.underlying T=some (.struct fs))(h:DataW.trod enc P W base spare held m T cs=some x)
  (i:Nat) (f:Field) (b:fs[i]?=some f):∃n y,DataW.trod enc P W base spare held n f.type ((cs.drop f.offset).take (P.cellsOf f.type))=some y:=by
 obtain⟨xs,n,_,_,_,j,hg⟩:=ES e h;have hi:i<xs.length:=by rw[j];exact(dP.1 b).1
 exact⟨n,xs[i],(hg i f b).trans (a5 hi)⟩
def yJ(z:laidOutB P=true){ts:List TypeId}{j:List (DataW H)}{ps:List MemPlace}(e:∀t∈ts,P.readableRec t=true/\t<P.types.size)
  (h:DataW.TrodAll enc P W 0 (λ_=>true) true ts vs j ps) (hb:Below W.1.size W u):DataW.TrodAll enc P u 0 (λb=>decide (b<W.1.size)) true ts vs j ps:=by
 induction ts generalizing vs j ps with
 |nil=>obtain⟨rfl,rfl,rfl⟩:=trodAll_nil h;exact trodAll_mk0
 |cons t ts B=>obtain⟨v,C,d,D,p,q,rfl,rfl,rfl,y,r0⟩:=trodAll_cons h;(have l:∀x∈p,x.block<W.1.size:=by obtain⟨m,hm⟩:=y;exact DataW.trod_lt m _ _ _ hm);exact trodAll_cons_mk (Below.trod z (e t cm).1 (e t cm).2 y hb l) (B (λE r=>e E (dp _ r)) r0)
def abl(h:cs.size=6):∃c0 c1 c2 c3 c4 b,cs= #[c0,c1,c2,c3,c4,b]:=by
 have⟨l⟩:=cs;match l,h with
 |[c0,c1,c2,c3,c4,b],_=>exact⟨_,_,_,_,_,_,rfl⟩
def yK{n:Int}(h:(Lit.int .i64 n).wf=true): -9223372036854775808<=n/\n<=9223372036854775807:=bounds_i64 h
def BS:ownKnob prog.godebug=none:=ao
def ET:laidOutB prog=true:=ao
def Rt(W:aa)(e:Ending)(b:aa):Prop:=e=.returned (.bool true)/\Below W.1.size W b
end
end
section
variable{w w':World}{A:Option Addr}{B' c:Nat}{zs:List Int}{P:Program}{ops:Array Oper}{a:Act}{Q:Exit->Act->World->Prop}
def aB(w:aa)(B:Nat)(E:TypeId)(A:bF)(c:Nat)(zs:au):Prop:=w.ownsRow B E 1 (.slice A zs c) zs.length (zs.map (Value.int .i64))
variable{B:Nat}{E:TypeId}
def aB.nil(w)(B)(E):aB w B E none 0 []:=ER w B E 1
def aB.form(h:aB w B E A c zs):(A=none/\zs=[]/\c=0)\/∃g b,A=some ⟨g,0,none⟩/\B<=g/\w.heap[g]?=some (.cells b E (0,0))/\zs.length<=c/\c<=maxLen/\b.size=c/\b.toList.take zs.length=zs.map (Value.int .i64):=by
 rcases h.2 with⟨hv,l⟩|⟨g,cap,b,hv,m,hg,r,hm,u,ht⟩;injection hv with e y j;exact .inl ⟨e,hB l,j⟩;injection hv with e y j;subst j;exact .inr ⟨g,b,e,m,hg,r,hm,by simpa using u,by simpa using ht⟩
def aB.rd(h:aB w B E A c zs):Rd w A zs:=by
 rcases h.form with⟨_,rfl,_⟩|⟨g,b,rfl,u,hg,y,hm,C,ht⟩;exact Rd.nil _ _;intro j z m;refine⟨g,0,rfl,(dP.1 hg).1,?_⟩;have l:j<zs.length:=(a8.1 m).1;have e:b[j]?=some (.int .i64 z):=by (have r:(b.toList.take zs.length)[j]?=some (.int .i64 z):=by rw[ht,bf,m];rfl);rw[eG,ah l]at r;simpa using r
 simp[World.cell?,hg,e]
def aB.fresh(h:aB w B E A c zs):∀b,A=some b->B<=b.block:=by
 rcases h.form with⟨rfl,_,_⟩|⟨g,e,rfl,j,_⟩;intro b h;cases h;intro b h;cases h;exact j
def aB.lt(h:aB w B E A c zs):∀b,A=some b->b.block<w.1.size:=by
 rcases h.form with⟨rfl,_,_⟩|⟨g,e,rfl,j,hg,_⟩;intro b h;cases h;intro b h;cases h;exact(dP.1 hg).1
def aB.ii(h:aB w B E A c zs):zs.length<=c:=by
 rcases h.form with⟨_,rfl,rfl⟩|⟨_,_,_,_,_,b,_⟩;exact al _;exact b
def aB.same(h:aB w B E A c zs)(l:∀b,A=some b->w'.heap[b.block]?=w.heap[b.block]?):aB w' B E A c zs:=by
 refine⟨h.1,?_⟩;rcases h.2 with m|⟨g,cap,e,hv,r,hg,rest⟩;exact .inl m;injection hv with j y u;exact .inr ⟨g,cap,e,by rw[j,u],r,by rw[<-hg];exact l _ j,rest⟩
def aB.keep(h:aB w B E A c zs)(hb:Below w.1.size w w'):aB w' B E A c zs:=h.same λb e=>hb.block _ (h.lt b e)
def aB.alloc(h:aB w B E A c zs)(o):aB (w.alloc o) B E A c zs:=h.same λb e=>nj w o _ (h.lt b e)
def aB.more(h:aB w B E A c zs)(j:B'<=B):aB w B' E A c zs:=by
 refine⟨h.1,?_⟩;rcases h.2 with e|⟨g,cap,b,hv,hb,r⟩;exact .inl e;exact .inr ⟨g,cap,b,hv,om,r⟩
def iJ{rest:List Oper}{o:Oper}(G:o.guard=none)(s x:Operand)(t:TypeId)
  (R:o.op=.call {callee:=.builtin .append,args:= #[s,x],argTypes:= #[t,t]}) (E:TypeId) (ht:P.underlying t=some (.slice E))
  (l:(P.info? E).map (λi=>(i.zero,i.size,i.bytes))=some (some (.int .i64 0),1,8))
  (B:Nat) (A:bF) (c:Nat) (zs:au) (hs:a.eval s=.slice A zs c) (b:aB w B E A c zs) (y:Int)
  (S:a.eval x=.slice w.1.size 1 1) (M:zs.length<=1000000000) (T:B<=w.1.size)
  (h:∀N O w',aB w' B E N O (zs++[y])->Below B w w'->(∀k,k<w.1.size->(∀C,A=some C->C.block≠k)->w'.heap[k]?=w.heap[k]?)->w.1.size<w'.1.size->
   wpList P ops Q rest (a.put o.dst (.slice N (zs.length+1) O)) w'):
  wpList P ops Q (o::rest) a (w.alloc (.cells #[y] E)):=by
 have⟨i,hi,eZ⟩:=bt.1 l;simp only[eP]at eZ;obtain⟨I,J,K⟩:=eZ;have m:=b.alloc (.cells #[y] E)
 refine tK (w.alloc (.cells #[y] E)) G s x t R B E i an 1 8 ht hi I J K rfl am _ _ _ hs m ⟨w.1.size,0,none⟩ 1 1 [.int .i64 y] S rfl
  (λj u hu=>?_) (by simp[Value.oneCell']) (by unfold maxLen;omega) om cr ?_
 have U:j=0:=by
  cases j with
  |zero=>rfl
  |succ j=>simp at hu
 subst U;simp at hu;subst hu;simp[Addr.add,EM];intro V w' r hg _ _;have X:(zs++[y]).length=zs.length+1:=aD;rcases r.2 with⟨hv,hn⟩|⟨g,cap,Y,hv,Z,qp,EU,WT,JT,WU⟩;omega;have D:V=.slice g (zs.length+1) cap:=hv;rw[D];rw[D]at r;refine h _ _ _ ?_ ?_ ?_ ?_;unfold aB;rw[X,c9];exact r;refine((aV B w).alloc T _).grown hg cr ?_;intro k F;have:Value.ownBlock (.slice A zs c)=A.map (·.block):=by cases A<;>rfl
 rw[this]at F;obtain⟨C,z,rfl⟩:=bt.1 F;exact b.fresh C z;intro k F L;rw[hg.block k cr ?_,nj _ _ _ F];have:Value.ownBlock (.slice A zs c)=A.map (·.block):=by cases A<;>rfl
 rw[this];intro e;obtain⟨C,z,rfl⟩:=bt.1 e.symm;exact L C z rfl;have:=hg.size;simp at this;omega
end
variable{g k:Nat}{W w w' wr:World}{T:TypeId}{cs:Array Value}{zs:List Int}{A:Option Addr}
structure Aside(g:Nat)(W wr:World):Prop where
 size:W.1.size<=wr.1.size
 same:∀k,k<W.1.size->k≠g->wr.heap[k]?=W.heap[k]?
def Aside.refl(g)(W):Aside g W W:=⟨al _,λ_ _ _=>rfl⟩
def Aside.av(h:Aside g W wr)(i:Nat)(v:Value):Aside g W (wr.setCell (g,i) v):=
 ⟨by have:=h.size;simp;omega,λk b hg=>(ba wr ⟨g,i,none⟩ v k hg).trans (h.same k b hg)⟩
def Aside.drew(h:Aside g W wr):Aside g W wr.drew:=⟨h.size,h.same⟩
def Aside.below(h:Aside g W wr)(hb:Below wr.1.size wr w'):Aside g W w':=
 ⟨aL h.size hb.size,λk b hg=>(hb.block k (bu b h.size)).trans (h.same k b hg)⟩
def Aside.ak(h:Aside g W wr)(hb:az W k T cs)(b:k≠g):az wr k T cs:=(h.same k hb.lt b).trans hb
def Aside.own(h:Aside g W wr)(hb:Own W k T zs)(b:k≠g):Own wr k T zs:=(h.same k hb.lt b).trans hb
def zA5(h:Γ:=by intro j z u;have⟨b,off,e,hb,hc⟩:=r j z u;refine⟨b,off,e,bu hb h.size,?_⟩;rw[<-hc];exact d9 (h.same b hb (l _ e))):=h
def Aside.rd(h:Aside g W wr)(r:Rd W A zs)(l:∀m,A=some m->m.block≠g):Rd wr A zs:=by
 exact zA5
def Rd.old(h:Rd w A zs)(l:zs≠[]):∀j,A=some j->j.block<w.1.size:=by
 intro j e;obtain⟨z,t,rfl⟩:=xQ l;have⟨b,off,e2,hb,_⟩:=h 0 z rfl;rw[e]at e2;cases e2;exact hb
def Aside.fT(h:Aside g W wr)(j:Rd w A zs)(l:Rd W A zs)(hg:w.1.size<=g):Rd wr A zs:=by
 by_cases b:zs=[];subst b;exact Rd.nil _ _;exact h.rd l λm e=>by have:=j.old b m e;omega
section
variable{X u:World}{c d i m:Nat}{P:Program}{ops:Array Oper}{Q:Exit->Act->World->Prop}{md:Region.Mode}{oi:Oper}{v:Value}{listed:Array Bool}{df:List Deferred}{l':List Value}
class aj(w':World)(w:outParam World):Prop where
 st:Below w.1.size w w'
class aT(w w':World):Prop where
 st:Below w.1.size w w'
instance(priority:=high) aT.same(w:aa):aT w w:=⟨aV _ _⟩
instance aT.step{x:aa}[p:aj w' x][l:aT w x]:aT w w':=⟨du l.st p.st⟩
instance aj.alloc(w:aa)(o:Obj):aj (w.alloc o) w:=⟨(aV _ _).alloc (al _) _⟩
instance aj.drew(w:aa):aj w.drew w:=⟨(aV _ _).drew⟩
instance aj.drewN(w:aa)(n:Nat):aj (w.drewN n) w:=⟨below_drewN (aV _ _) n⟩
def Rd.at(h:Rd w A zs)[l:aT w w']:Rd w' A zs:=h.below l.st
def az.at(h:az w g T cs)[l:aT w w']:az w' g T cs:=h.keep l.st
def Own.at(h:Own w g T zs)[l:aT w w']:Own w' g T zs:=h.keep l.st
def aB.at{B:Nat}(h:aB w B T A c zs)[l:aT w w']:aB w' B T A c zs:=h.keep l.st
def ai[l:aT w w']:w.1.size<=w'.1.size:=l.st.size
def Aside.trans{a:aa}(h:Aside g W a)(k:Aside g a u):Aside g W u:=
 ⟨aL h.size k.size,λj e hg=>(k.same j (bu e h.size) hg).trans (h.same j e hg)⟩
def aP(w w')[l:aT w w']:Below w.1.size w w':=l.st
section
variable{S:World->Prop}
def b9{l:j7}(hi:ops[i]?=some oi)(hd:oi.dst=some d)
  (hs:Region.noSelect ops=true) (b:Region.free md ops listed i=true) (hr:(Region.ready md ops listed).contains i=true)
  (e:∀c a w,Q (.panic c) (a.put oi.dst v) w->Q (.panic c) a w) (j:Region.wanted oi (yielded ops l.toArray)=true) (hS:S w)
  (r:∀u,S u->(execOp (Act.eval ⟨l.toArray,df⟩) oi).run P u=.ok (.value v) u)
  (h:wpAnyH P md ops Q S m (listed.setIfInBounds i true) ⟨(l.set d v).toArray,df⟩ w):wpAnyH P md ops Q S (m+1) listed ⟨l.toArray,df⟩ w:=by
 refine wpAnyH_take hi hs b hr e (.inl ⟨j,r⟩) hS ?_;rw[hd];simpa[Act.put]using h
def qq{l:j7}(hi:ops[i]?=some oi)(hd:oi.dst=some d)
  (hs:Region.noSelect ops=true) (b:Region.free md ops listed i=true) (hr:(Region.ready md ops listed).contains i=true)
  (e:∀c a w,Q (.panic c) (a.put oi.dst undef) w->Q (.panic c) a w) (j:Region.wanted oi (yielded ops l.toArray)=false) (hS:S w)
  (h:wpAnyH P md ops Q S m (listed.setIfInBounds i true) ⟨(l.set d undef).toArray,df⟩ w):wpAnyH P md ops Q S (m+1) listed ⟨l.toArray,df⟩ w:=by
 refine wpAnyH_take hi hs b hr e (.inr ⟨j,rfl⟩) hS ?_;rw[hd];simpa[Act.put]using h
end
def jL(i d){l:j7}[aT X w]
  (h:wpAnyH P md ops Q (λw'=>aj w' X) m (listed.setIfInBounds i true) ⟨l'.toArray,df⟩ w)
  (hi:ops[i]?=some oi:=by rfl) (hd:oi.dst=some d:=by rfl)
  (hs:Region.noSelect ops=true:=by kernel_rfl) (b:Region.free md ops listed i=true:=by kernel_rfl) (hr:(Region.ready md ops listed).contains i=true:=by kernel_rfl)
  (e:∀c a w,Q (.panic c) (a.put oi.dst v) w->Q (.panic c) a w:=by exact λ_ _ _ h=>h) (j:Region.wanted oi (yielded ops l.toArray)=true:=by kernel_rfl)
  (r:∀u,aj u X->(execOp (Act.eval ⟨l.toArray,df⟩) oi).run P u=.ok (.value v) u:=by intro u _;go_simp;try(with_reducible rfl))
  (y:l.set d v=l':=by try simp only[List.set];try rfl)
  :wpAnyH P md ops Q (λw'=>aj w' X) (m+1) listed ⟨l.toArray,df⟩ w:=by
 subst y;exact b9 hi hd hs b hr e j ⟨aP X w⟩ r h
def ou(i d){l:j7}[aT X w]
  (h:wpAnyH P md ops Q (λw'=>aj w' X) m (listed.setIfInBounds i true) ⟨l'.toArray,df⟩ w)
  (hi:ops[i]?=some oi:=by rfl) (hd:oi.dst=some d:=by rfl)
  (hs:Region.noSelect ops=true:=by kernel_rfl) (b:Region.free md ops listed i=true:=by kernel_rfl) (hr:(Region.ready md ops listed).contains i=true:=by kernel_rfl)
  (e:∀c a w,Q (.panic c) (a.put oi.dst undef) w->Q (.panic c) a w:=by exact λ_ _ _ h=>h) (j:Region.wanted oi (yielded ops l.toArray)=false:=by kernel_rfl)
  (r:l.set d undef=l':=by try simp only[List.set];try rfl)
  :wpAnyH P md ops Q (λw'=>aj w' X) (m+1) listed ⟨l.toArray,df⟩ w:=by
 subst r;exact qq hi hd hs b hr e j ⟨aP X w⟩ h
end
section
variable{X:World}{df:List Deferred}
inductive Qs(P:Program)(ops:Array Oper)(Q:Exit->Act->World->Prop)(md:Region.Mode)(S:World->Prop)(df:List Deferred):Nat->Array Bool->List Value->List Nat->Nat->Array Bool->List Value->Prop
 |nil {f:Nat} {listed:Array Bool} {l:List Value}:Qs P ops Q md S df f listed l [] f listed l
 |on {i:Nat} {is:List Nat} {f f' d:Nat} {oi:Oper} {v:Value} {listed hM:Array Bool} {l l1 l':List Value}
  (hi:ops[i]?=some oi) (hd:oi.dst=some d) (hs:Region.noSelect ops=true) (hf:Region.free md ops listed i=true) (hr:(Region.ready md ops listed).contains i=true)
  (hQ:∀c a w,Q (.panic c) (a.put oi.dst v) w->Q (.panic c) a w) (hw:Region.wanted oi (yielded ops l.toArray)=true)
  (hy:∀u,S u->(execOp (Act.eval ⟨l.toArray,df⟩) oi).run P u=.ok (.value v) u) (hl:l.set d v=l1)
  (h:Qs P ops Q md S df f (listed.setIfInBounds i true) l1 is f' hM l'):Qs P ops Q md S df (f+1) listed l (i::is) f' hM l'
 |off {i:Nat} {is:List Nat} {f f' d:Nat} {oi:Oper} {listed hM:Array Bool} {l l1 l':List Value}
  (hi:ops[i]?=some oi) (hd:oi.dst=some d) (hs:Region.noSelect ops=true) (hf:Region.free md ops listed i=true) (hr:(Region.ready md ops listed).contains i=true)
  (hQ:∀c a w,Q (.panic c) (a.put oi.dst undef) w->Q (.panic c) a w) (hw:Region.wanted oi (yielded ops l.toArray)=false)
  (hl:l.set d undef=l1)
  (h:Qs P ops Q md S df f (listed.setIfInBounds i true) l1 is f' hM l'):Qs P ops Q md S df (f+1) listed l ((i+500)::is) f' hM l'
theorem WV{P:Program}{ops:Array Oper}{Q:Exit->Act->World->Prop}{md:Region.Mode}{S:World->Prop}{w:World}{f f':Nat}{listed hM:Array Bool}{l l':List Value}{is:List Nat}(hS:S w)
  (hq:Qs P ops Q md S df f listed l is f' hM l') (h:wpAnyH P md ops Q S f' hM ⟨l'.toArray,df⟩ w):wpAnyH P md ops Q S f listed ⟨l.toArray,df⟩ w:=by
 induction hq with
 |nil=>exact h
 |on hi hd hs hf hr hQ hw hy hl _ ih=>subst hl;exact b9 hi hd hs hf hr hQ hw hS hy (ih h)
 |off hi hd hs hf hr hQ hw hl _ ih=>subst hl;exact qq hi hd hs hf hr hQ hw hS (ih h)
variable{P:Program}{ops:Array Oper}{Q:Exit->Act->World->Prop}{md:Region.Mode}{w:World}{f f':Nat}{listed hM:Array Bool}{l l':List Value}
theorem qL(is:List Nat)[aT X w](h:wpAnyH P md ops Q (fun w'=>aj w' X) f' hM ⟨l'.toArray,df⟩ w)
  (hq:Qs P ops Q md (fun w'=>aj w' X) df f listed l is f' hM l':=by
   repeat
    first
    |exact .nil
    |apply Qs.off
     ·exact rfl
     ·exact rfl
     ·kernel_rfl
     ·kernel_rfl
     ·kernel_rfl
     ·exact fun _ _ _ h=>h
     ·kernel_rfl
     ·try simp only[List.set]
      try rfl
    |apply Qs.on
     ·exact rfl
     ·exact rfl
     ·kernel_rfl
     ·kernel_rfl
     ·kernel_rfl
     rotate_left
     ·kernel_rfl
     ·intro u hu
      try dsimp only at hu
      go_simp
      try(with_reducible rfl)
     ·try simp only[List.set]
      try rfl
     rotate_right
     ·exact fun _ _ _ h=>h)
  :wpAnyH P md ops Q (fun w'=>aj w' X) f listed ⟨l.toArray,df⟩ w:=WV ⟨aP X w⟩ hq h
end
section
variable{P:Program}{ops:Array Oper}{Q:Exit->Act->World->Prop}{md:Region.Mode}{S:World->Prop}{w:World}
theorem oA(i:Nat){d:Nat}{oi:Oper}{v:Value}{fuel:Nat}{listed:Array Bool}{l l':List Value}{df:List Deferred}
  (h:wpAnyH P md ops Q S fuel (listed.setIfInBounds i true) ⟨l'.toArray,df⟩ w)
  (hi:ops[i]?=some oi:=by rfl) (hd:oi.dst=some d:=by rfl)
  (hs:Region.noSelect ops=true:=by kernel_rfl) (hf:Region.free md ops listed i=true:=by kernel_rfl) (hr:(Region.ready md ops listed).contains i=true:=by kernel_rfl)
  (hQ:∀c a w,Q (.panic c) (a.put oi.dst v) w->Q (.panic c) a w:=by exact fun _ _ _ h=>h) (hw:Region.wanted oi (yielded ops l.toArray)=true:=by kernel_rfl)
  (hS:S w:=by assumption) (hy:∀u,S u->(execOp (Act.eval ⟨l.toArray,df⟩) oi).run P u=.ok (.value v) u:=by intro w hSw;(try dsimp only at hSw);go_simp;try(with_reducible rfl))
  (hl:l.set d v=l':=by try simp only[List.set];try rfl):wpAnyH P md ops Q S (fuel+1) listed ⟨l.toArray,df⟩ w:=by
 subst hl;exact b9 hi hd hs hf hr hQ hw hS hy h
theorem fA(i:Nat){d:Nat}{oi:Oper}{fuel:Nat}{listed:Array Bool}{l l':List Value}{df:List Deferred}
  (h:wpAnyH P md ops Q S fuel (listed.setIfInBounds i true) ⟨l'.toArray,df⟩ w)
  (hi:ops[i]?=some oi:=by rfl) (hd:oi.dst=some d:=by rfl)
  (hs:Region.noSelect ops=true:=by kernel_rfl) (hf:Region.free md ops listed i=true:=by kernel_rfl) (hr:(Region.ready md ops listed).contains i=true:=by kernel_rfl)
  (hQ:∀c a w,Q (.panic c) (a.put oi.dst undef) w->Q (.panic c) a w:=by exact fun _ _ _ h=>h) (hw:Region.wanted oi (yielded ops l.toArray)=false:=by kernel_rfl)
  (hS:S w:=by first|assumption|exact⟨aR _ _,inferInstance⟩|exact⟨aR _ _,inferInstance,inferInstance⟩|exact⟨aR _ _,inferInstance,inferInstance,inferInstance⟩)
  (hl:l.set d undef=l':=by try simp only[List.set];try rfl):wpAnyH P md ops Q S (fuel+1) listed ⟨l.toArray,df⟩ w:=by
 subst hl;exact qq hi hd hs hf hr hQ hw hS h
theorem bR(i:Nat){d:Nat}{oi:Oper}{v:Value}{fuel:Nat}{listed:Array Bool}{l l':List Value}{df:List Deferred}
  (h:wpAnyH P md ops Q S fuel (listed.setIfInBounds i true) ⟨l'.toArray,df⟩ w)
  (hi:ops[i]?=some oi:=by rfl) (hd:oi.dst=some d:=by rfl)
  (hs:Region.noSelect ops=true:=by kernel_rfl) (hf:Region.free md ops listed i=true:=by kernel_rfl) (hr:(Region.ready md ops listed).contains i=true:=by kernel_rfl)
  (hQ:∀c a w,Q (.panic c) (a.put oi.dst v) w->Q (.panic c) a w:=by exact fun _ _ _ h=>h) (hw:Region.wanted oi (yielded ops l.toArray)=true:=by kernel_rfl)
  (hS:S w:=by exact⟨aR _ _,inferInstance⟩) (hy:∀u,S u->(execOp (Act.eval ⟨l.toArray,df⟩) oi).run P u=.ok (.value v) u:=by rintro uu ⟨pu,r1⟩;go_simp;try(with_reducible rfl))
  (hl:l.set d v=l':=by try simp only[List.set];try rfl):wpAnyH P md ops Q S (fuel+1) listed ⟨l.toArray,df⟩ w:=
 oA i h hi hd hs hf hr hQ hw hS hy hl
theorem bT(i:Nat){d:Nat}{oi:Oper}{v:Value}{fuel:Nat}{listed:Array Bool}{l l':List Value}{df:List Deferred}
  (h:wpAnyH P md ops Q S fuel (listed.setIfInBounds i true) ⟨l'.toArray,df⟩ w)
  (hi:ops[i]?=some oi:=by rfl) (hd:oi.dst=some d:=by rfl)
  (hs:Region.noSelect ops=true:=by kernel_rfl) (hf:Region.free md ops listed i=true:=by kernel_rfl) (hr:(Region.ready md ops listed).contains i=true:=by kernel_rfl)
  (hQ:∀c a w,Q (.panic c) (a.put oi.dst v) w->Q (.panic c) a w:=by exact fun _ _ _ h=>h) (hw:Region.wanted oi (yielded ops l.toArray)=true:=by kernel_rfl)
  (hS:S w:=by exact⟨aR _ _,inferInstance,inferInstance⟩) (hy:∀u,S u->(execOp (Act.eval ⟨l.toArray,df⟩) oi).run P u=.ok (.value v) u:=by rintro uu ⟨pu,r1,r2⟩;go_simp;try(with_reducible rfl))
  (hl:l.set d v=l':=by try simp only[List.set];try rfl):wpAnyH P md ops Q S (fuel+1) listed ⟨l.toArray,df⟩ w:=
 oA i h hi hd hs hf hr hQ hw hS hy hl
theorem bL(i:Nat){d:Nat}{oi:Oper}{v:Value}{fuel:Nat}{listed:Array Bool}{l l':List Value}{df:List Deferred}
  (h:wpAnyH P md ops Q S fuel (listed.setIfInBounds i true) ⟨l'.toArray,df⟩ w)
  (hi:ops[i]?=some oi:=by rfl) (hd:oi.dst=some d:=by rfl)
  (hs:Region.noSelect ops=true:=by kernel_rfl) (hf:Region.free md ops listed i=true:=by kernel_rfl) (hr:(Region.ready md ops listed).contains i=true:=by kernel_rfl)
  (hQ:∀c a w,Q (.panic c) (a.put oi.dst v) w->Q (.panic c) a w:=by exact fun _ _ _ h=>h) (hw:Region.wanted oi (yielded ops l.toArray)=true:=by kernel_rfl)
  (hS:S w:=by exact⟨aR _ _,inferInstance,inferInstance,inferInstance⟩) (hy:∀u,S u->(execOp (Act.eval ⟨l.toArray,df⟩) oi).run P u=.ok (.value v) u:=by rintro uu ⟨pu,r1,r2,r3⟩;go_simp;try(with_reducible rfl))
  (hl:l.set d v=l':=by try simp only[List.set];try rfl):wpAnyH P md ops Q S (fuel+1) listed ⟨l.toArray,df⟩ w:=
 oA i h hi hd hs hf hr hQ hw hS hy hl
theorem ff(i:Nat){d:Nat}{X:World}{oi:Oper}{v:Value}{fuel:Nat}{listed:Array Bool}{l l':List Value}{df:List Deferred}[aT X w]
  (h:wpAnyH P md ops Q (fun w'=>aj w' X) fuel (listed.setIfInBounds i true) ⟨l'.toArray,df⟩ w)
  (hi:ops[i]?=some oi:=by rfl) (hd:oi.dst=some d:=by rfl)
  (hs:Region.noSelect ops=true:=by kernel_rfl) (hf:Region.free md ops listed i=true:=by kernel_rfl) (hr:(Region.ready md ops listed).contains i=true:=by kernel_rfl)
  (hQ:∀c a w,Q (.panic c) (a.put oi.dst v) w->Q (.panic c) a w:=by exact fun _ _ _ h=>h) (hw:Region.wanted oi (yielded ops l.toArray)=true:=by kernel_rfl)
  (hy:∀u,aj u X->(execOp (Act.eval ⟨l.toArray,df⟩) oi).run P u=.ok (.value v) u:=by intro u _;go_simp;try(with_reducible rfl))
  (hl:l.set d v=l':=by try simp only[List.set];try rfl)
  :wpAnyH P md ops Q (fun w'=>aj w' X) (fuel+1) listed ⟨l.toArray,df⟩ w:=
 jL i d h hi hd hs hf hr hQ hw hy hl
theorem adf(i:Nat){d:Nat}{X:World}{oi:Oper}{fuel:Nat}{listed:Array Bool}{l l':List Value}{df:List Deferred}[aT X w]
  (h:wpAnyH P md ops Q (fun w'=>aj w' X) fuel (listed.setIfInBounds i true) ⟨l'.toArray,df⟩ w)
  (hi:ops[i]?=some oi:=by rfl) (hd:oi.dst=some d:=by rfl)
  (hs:Region.noSelect ops=true:=by kernel_rfl) (hf:Region.free md ops listed i=true:=by kernel_rfl) (hr:(Region.ready md ops listed).contains i=true:=by kernel_rfl)
  (hQ:∀c a w,Q (.panic c) (a.put oi.dst undef) w->Q (.panic c) a w:=by exact fun _ _ _ h=>h) (hw:Region.wanted oi (yielded ops l.toArray)=false:=by kernel_rfl)
  (hl:l.set d undef=l':=by try simp only[List.set];try rfl)
  :wpAnyH P md ops Q (fun w'=>aj w' X) (fuel+1) listed ⟨l.toArray,df⟩ w:=
 ou i d h hi hd hs hf hr hQ hw hl
variable{fuel:Nat}{listed:Array Bool}{a a':Act}{o o' JU:Oper}
theorem aK(i:Nat)
  (h:∀K':Act->World->Prop,Shut (∀a w,S w->(S w->wpAnyH P md ops Q S fuel (listed.setIfInBounds i true) a w)->K' a w)->if Region.wanted o (yielded ops a.tmps)=true then Oper.wp P o a w K' Q else K' (a.put o.dst undef) w)
  (hr:Region.ready md ops listed=[i]:=by kernel_rfl) (ho:ops[i]?=some o:=by rfl):wpAnyH P md ops Q S (fuel+1) listed a w:=
 wpAnyH_ready hr zAb (AllReadyH.cons ho h AllReadyH.nil)
theorem qr(i j:Nat)
  (h:∀K':Act->World->Prop,Shut (∀a w,S w->(S w->wpAnyH P md ops Q S fuel (listed.setIfInBounds i true) a w)->K' a w)->if Region.wanted o (yielded ops a.tmps)=true then Oper.wp P o a w K' Q else K' (a.put o.dst undef) w)
  (h':∀K':Act->World->Prop,Shut (∀a w,S w->(S w->wpAnyH P md ops Q S fuel (listed.setIfInBounds j true) a w)->K' a w)->if Region.wanted o' (yielded ops a.tmps)=true then Oper.wp P o' a w K' Q else K' (a.put o'.dst undef) w)
  (hr:Region.ready md ops listed=[i,j]:=by kernel_rfl) (ho:ops[i]?=some o:=by rfl) (Ru:ops[j]?=some o':=by rfl):wpAnyH P md ops Q S (fuel+1) listed a w:=
 wpAnyH_ready hr zAb (AllReadyH.cons ho h (AllReadyH.cons Ru h' AllReadyH.nil))
inductive Tg:Nat->Prop
 |mk (n:Nat):Tg n
theorem j8(i:Nat)(h:wpAnyH P md ops Q S fuel listed a w)(_hr:(Region.ready md ops listed).contains i=true:=by decide+kernel):wpAnyH P md ops Q S fuel listed a w:=h
theorem fg(i:Nat)
  (h:Tg i->∀K':Act->World->Prop,Shut (∀a w,S w->(S w->wpAnyH P md ops Q S fuel (listed.setIfInBounds i true) a w)->K' a w)->if Region.wanted o (yielded ops a.tmps)=true then Oper.wp P o a w K' Q else K' (a.put o.dst undef) w)
  (hr:Region.ready md ops listed=[i]:=by decide+kernel) (ho:ops[i]?=some o:=by rfl):wpAnyH P md ops Q S (fuel+1) listed a w:=
 wpAnyH_ready hr zAb (AllReadyH.cons ho (h (.mk i)) AllReadyH.nil)
theorem mf(i j:Nat)
  (h:Tg i->∀K':Act->World->Prop,Shut (∀a w,S w->(S w->wpAnyH P md ops Q S fuel (listed.setIfInBounds i true) a w)->K' a w)->if Region.wanted o (yielded ops a.tmps)=true then Oper.wp P o a w K' Q else K' (a.put o.dst undef) w)
  (h':Tg j->∀K':Act->World->Prop,Shut (∀a w,S w->(S w->wpAnyH P md ops Q S fuel (listed.setIfInBounds j true) a w)->K' a w)->if Region.wanted o' (yielded ops a.tmps)=true then Oper.wp P o' a w K' Q else K' (a.put o'.dst undef) w)
  (hr:Region.ready md ops listed=[i,j]:=by decide+kernel) (ho:ops[i]?=some o:=by rfl) (Ru:ops[j]?=some o':=by rfl):wpAnyH P md ops Q S (fuel+1) listed a w:=
 wpAnyH_ready hr zAb (AllReadyH.cons ho (h (.mk i)) (AllReadyH.cons Ru (h' (.mk j)) AllReadyH.nil))
theorem rz3(i j k:Nat)
  (h:Tg i->∀K':Act->World->Prop,Shut (∀a w,S w->(S w->wpAnyH P md ops Q S fuel (listed.setIfInBounds i true) a w)->K' a w)->if Region.wanted o (yielded ops a.tmps)=true then Oper.wp P o a w K' Q else K' (a.put o.dst undef) w)
  (h':Tg j->∀K':Act->World->Prop,Shut (∀a w,S w->(S w->wpAnyH P md ops Q S fuel (listed.setIfInBounds j true) a w)->K' a w)->if Region.wanted o' (yielded ops a.tmps)=true then Oper.wp P o' a w K' Q else K' (a.put o'.dst undef) w)
  (h'':Tg k->∀K':Act->World->Prop,Shut (∀a w,S w->(S w->wpAnyH P md ops Q S fuel (listed.setIfInBounds k true) a w)->K' a w)->if Region.wanted JU (yielded ops a.tmps)=true then Oper.wp P JU a w K' Q else K' (a.put JU.dst undef) w)
  (hr:Region.ready md ops listed=[i,j,k]:=by decide+kernel) (ho:ops[i]?=some o:=by rfl) (Ru:ops[j]?=some o':=by rfl) (abm:ops[k]?=some JU:=by rfl):wpAnyH P md ops Q S (fuel+1) listed a w:=
 wpAnyH_ready hr zAb (AllReadyH.cons ho (h (.mk i)) (AllReadyH.cons Ru (h' (.mk j)) (AllReadyH.cons abm (h'' (.mk k)) AllReadyH.nil)))
theorem BU(h:Q .normal a w)(hr:Region.ready md ops listed=[]:=by decide+kernel):wpAnyH P md ops Q S fuel listed a w:=wpAnyH_done hr h _
theorem a9{a:Act}(h:Q .normal a w)(hr:Region.ready md ops listed=[]:=by kernel_rfl):wpAnyH P md ops Q S fuel listed a w:=wpAnyH_done hr h _
theorem aG{K':Act->World->Prop}(hK:Shut (∀a w,S w->(S w->wpAnyH P md ops Q S fuel listed a w)->K' a w))(h:wpAnyH P md ops Q S fuel listed a' w)(hS:S w:=by exact aR _ _)
  (ha:a=a':=by(try dsimp only[Act.put,List.setIfInBounds_toArray,List.set_cons_zero,List.set_cons_succ]);try rfl):K' a w:=by
 subst ha;exact hK.out _ _ hS fun _=>h
theorem qt{K':Act->World->Prop}(hK:Shut (∀a w,S w->(S w->wpAnyH P md ops Q S fuel listed a w)->K' a w))(h:S w->wpAnyH P md ops Q S fuel listed a' w)(hS:S w:=by exact aR _ _)
  (ha:a=a':=by(try dsimp only[Act.put,List.setIfInBounds_toArray,List.set_cons_zero,List.set_cons_succ]);try rfl):K' a w:=by
 subst ha;exact hK.out _ _ hS h
end
section
variable{X:World}{m:Nat}{xs:List Int}{P:Program}{md:Region.Mode}{ops:Array Oper}{Q:Exit->Act->World->Prop}{listed:Array Bool}{a:Act}
structure ik(bs:List Nat)(W wr:World):Prop where
 size:W.1.size<=wr.1.size
 same:∀k,k<W.1.size->k∉bs->wr.heap[k]?=W.heap[k]?
variable{bs:List Nat}
def ik.refl(bs)(W):ik bs W W:=⟨al _,λ_ _ _=>rfl⟩
def ik.av(h:ik bs W wr)(hg:g∈bs)(i:Nat)(v:Value):ik bs W (wr.setCell (g,i) v):=
 ⟨by have:=h.size;simp;omega,λk j b=>(ba wr ⟨g,i,none⟩ v k (λe=>b (e▸hg))).trans (h.same k j b)⟩
def ik.drew(h:ik bs W wr):ik bs W wr.drew:=⟨h.size,h.same⟩
def ik.below(h:ik bs W wr)(hb:Below wr.1.size wr w'):ik bs W w':=
 ⟨aL h.size hb.size,λk b hg=>(hb.block k (bu b h.size)).trans (h.same k b hg)⟩
def ik.ak(h:ik bs W wr)(hb:az W k T cs)(b:k∉bs):az wr k T cs:=(h.same k hb.lt b).trans hb
def ik.own(h:ik bs W wr)(hb:Own W k T zs)(b:k∉bs):Own wr k T zs:=(h.same k hb.lt b).trans hb
def ik.rd(h:ik bs W wr)(r:Rd W A zs)(l:∀m,A=some m->m.block∉bs):Rd wr A zs:=by
 exact zA5
def ik.fT(h:ik bs W wr)(j:Rd w A zs)(l:Rd W A zs)(hg:∀g∈bs,w.1.size<=g):Rd wr A zs:=by
 by_cases b:zs=[];subst b;exact Rd.nil _ _;exact h.rd l λm e hm=>by have:=j.old b m e;have:=hg _ hm;omega
def fG{bs:List Nat}{W:aa}{g:Nat}(hg:g∈bs):∀(b:j7) (o:Nat) {wr:aa},ik bs W wr->ik bs W (wr.setCells g o b)
 |[],_,_,h=>h
 |v::b,o,_,h=>fG hg b (o+1) (h.av hg o v)
def dG{n g:Nat}{w:aa}(hg:n<=g):∀(b:j7) (o:Nat) {wr:aa},Below n w wr->Below n w (wr.setCells g o b)
 |[],_,_,h=>h
 |v::b,o,_,h=>dG hg b (o+1) (h.setCell (p:=⟨g,o,none⟩) hg v)
def sk{g:Nat}{T:TypeId}:∀(b:au) (o:Nat) {w:aa} {xs:au},Own w g T xs->o+b.length<=xs.length->Own (w.setCells g o (b.map (Value.int .i64))) g T (xs.take o++b++xs.drop (o+b.length))
 |[],o,w,xs,h,_=>by simpa[World.setCells]using h
 |v::b,o,w,xs,h,j=>by have l:=sk b (o+1) (h.av o v) (by simp at j⊢;omega);(have e:(xs.set o v).take (o+1)++b++(xs.set o v).drop (o+1+b.length)=xs.take o++(v::b)++xs.drop (o+(v::b).length):=by simp at j;rw[yl,ah om,xP cr,rA (al o)];simp[tU];omega);rw[e]at l;exact l
def Own.clear(h:Own w g T xs):Own (w.setCells g 0 (List.replicate xs.length an)) g T (List.replicate xs.length 0):=by
 have:=sk (List.replicate xs.length 0) 0 h aD;simpa using this
def hU(t e b)(ht:P.underlying t=some (.slice e))(l:(P.info? e).map (·.zero)=some (some (.int .i64 0)))(h:Own w g T xs)(m:0<xs.length)(c):
  (Builtin.clear_ #[t] b #[.slice g xs c]).run P w=.ok (.tuple #[]) (w.setCells g 0 (List.replicate xs.length an)):=by
 have⟨i,hi,xb⟩:=bt.1 l;refine Lib.run_clear_slice w t e b an ht (λw=>?_) rfl rfl g 0 xs.length c m (λj r=>?_) (λj _=>by rw[cf];exact h.frozen j)
 .simp[zeroValue,typeInfo,hi,xb,go_sem]
 rw[cf,h.cell (a5 r)];rfl
def nl{S:World->Prop}
  (h:∀u,aj u X->az u X.1.size T cs->u.1.size=X.1.size+1->wpAnyH P md ops Q S m listed a u):wpAnyH P md ops Q S m listed a (X.alloc (.cells cs T)):=
 h _ (aj.alloc _ _) (az.new _ _ _) aD
def yL{S:World->Prop}
  (h:∀u,aj u X->wpAnyH P md ops Q S m listed a u):wpAnyH P md ops Q S m listed a X.drew:=h _ (aj.drew _)
end
variable{z:Int}
def ax(zs:au):Int:=zs.foldl (· * ·) 1
def ct(zs:au):Bool:=zs.all λz=>decide (1<=z)&&decide (z<=1024)
def aA(zs:au):Bool:=decide (1<=zs.length)&&decide (zs.length<=4)&&ct zs&&decide (ax zs<=65536)
def jg(l)(z):ax (l++[z])=ax l*z:=by simp[ax]
def take_at{α:Type}{l:List α}{z:α}(h:l[k]?=some z):l.take (k+1)=l.take k++[z]:=by
 obtain⟨b,rfl⟩:=a8.1 h;exact xP b
def BV(l)(z):ct (l++[z])=(ct l&&(decide (1<=z)&&decide (z<=1024))):=by simp[ct]
def b0{l:au}(h:ct l=true)(b:z∈l):1<=z/\z<=1024:=by
 have:=dz.1 h z b;simpa using this
def dH{l:au}(h:ct l=true)(b:l[k]?=some z):1<=z/\z<=1024:=
 b0 h (aC b)
def nU{l:au}(h:ct l=true)(k):ct (l.take k)=true:=
 dz.2 λz b=>dz.1 h z (cE b)
def yM{l:au}(b:l[k]?=some z)(h:¬(1<=z/\z<=1024)):ct l=false:=by
 rcases hb:ct l with _|_;rfl;exact absurd (dH hb b) h
def BW{l:au}(h:ct l=false):aA l=false:=by simp[aA,h]
def G5{l:au}(h:¬(1<=l.length/\l.length<=4)):aA l=false:=by
 simp[aA];omega
def EV{l:au}(b:1<=l.length)(e:l.length<=4)(h:ct l=true):aA l=decide (ax l<=65536):=by simp[aA,b,e,h]
def lV{a c:Int}(l:1<=a)(e:a<=c)(hb:1<=z)(j:z<=1024):1<=a*z/\a*z<=c*1024:=by
 have m:a*z<=c*z:=xM e om;have r:c*z<=c*1024:=rp j om;have u:1*1<=a*z:=lO l hb om om;omega
def CP(l)(h:ct l=true):1<=ax l/\ax l<=1024^l.length:=by
 have key:∀(m:au) (a c:Int),ct m=true->1<=a->a<=c->1<=m.foldl (· * ·) a/\m.foldl (· * ·) a<=c*1024^m.length:=by
  intro m;induction m with
  |nil=>intro a c _ j r;simpa using⟨j,r⟩
  |cons z m B=>intro a c hm j r;have y:=b0 hm (cm);(have u:ct m=true:=by simp[ct]at hm⊢;exact hm.2);have b:=lV j r y.1 y.2;have:=B (a*z) (c*1024) u b.1 b.2;simp only[jD,dj];refine⟨this.1,?_⟩;(have e:c*1024^(m.length+1)=c*1024*1024^m.length:=by rw[El,jB (1024^m.length) 1024,<-hI]);rw[e];exact this.2
 have:=key l 1 1 h om om;simpa[ax]using this
def pd(l)(h:ct l=true)(b:l.length<=4):1<=ax l/\ax l<=1099511627776:=by
 have⟨h1,h2⟩:=CP l h;refine⟨h1,?_⟩;have:l.length=0\/l.length=1\/l.length=2\/l.length=3\/l.length=4:=om;rcases this with e|e|e|e|e<;>rw[e]at h2<;>omega
def mg(l)(h:ct l=true)(b:l.length<=4)(k):1<=ax (l.take k)/\ax (l.take k)<=1099511627776:=
 pd _ (nU h k) cr
def a2(zs):aA zs=true↔1<=zs.length/\zs.length<=4/\ct zs=true/\ax zs<=65536:=by
 simp[aA,pc]
def i5{l:au}(h:∀z∈l,1<=z):1<=ax l:=by
 have key:∀(m:au) (a:Int),(∀z∈m,1<=z)->1<=a->a<=m.foldl (· * ·) a:=by
  intro m;induction m with
  |nil=>intro a _ _;exact eI a
  |cons z m e=>intro a hm u;have j:=hm z cm;have b:a*1<=a*z:=rp j om;rw[Int.mul_one]at b;exact EN b (e (a*z) (λy r=>hm y (dp _ r)) om)
 exact key l 1 h (eI 1)
def nV(a b):ax (a++b)=ax a*ax b:=by
 have key:∀(m:au) (x:Int),m.foldl (· * ·) x=x*m.foldl (· * ·) 1:=by
  intro m;induction m with
  |nil=>intro x;simp
  |cons z m e=>intro x;simp only[jD];rw[e (x*z),e (1*z)];simp[hI]
 simp only[ax,lN];rw[key]
def yN{l:au}(h:∀z∈l,1<=z)(k):ax (l.take k)<=ax l:=by
 have m:1<=ax (l.take k):=i5 λz b=>h z (cE b);have j:1<=ax (l.drop k):=i5 λz b=>h z (dA b);have e:ax l=ax (l.take k)*ax (l.drop k):=by rw[<-nV,dC]
 rw[e];have:ax (l.take k)*1<=ax (l.take k)*ax (l.drop k):=rp j om;rwa[Int.mul_one]at this
def bz(zs:au):Int:=if aA zs then ax zs else 0
def cA(zs:au):Int:=if aA zs then 0 else 20
def wA(z)(zs):ax (z::zs)=z*ax zs:=by
 have:=nV [z] zs;simpa[ax]using this
def yO{α:Type}{l:List α}{z:α}(h:l[k]?=some z):l.drop k=z::l.drop (k+1):=by
 obtain⟨b,rfl⟩:=a8.1 h;exact ed b
def nW{l:au}(h:ct l=true)(k):ct (l.drop k)=true:=
 dz.2 λz b=>dz.1 h z (dA b)
variable{V xs:List Int}{x y:Int}
def pf(w:aa)(b:Bool)(e:Ending)(w':aa):Prop:=e=.returned (.bool b)/\∃n,w'=w.drewN n
def Rv(e:xs[k]?=some x)(b:V[k]?=some y)(h:x≠y):xs≠V:=by
 rintro rfl;rw[e]at b;injection b with b;exact h b
def tV(b:xs.length=V.length)(h:xs.take k=V.take k)(e:¬k<xs.length):xs=V:=by
 rw[bY om,bY om]at h;exact h
def gJ(z:Int):Bool:=decide (0<=z)&&decide (z<=1099511627776)
def qu(z:Int)(w:aa):() 77 #[z] w λe w'=>e=.returned (.bool (gJ z))/\w=w':=by
 go_in;go_wp2;all_goals go_ret;exact⟨bU (by simp_all [gJ];try omega),rfl⟩
def JV(z:Int)(w:aa):() 131 #[z] w λe w'=>e=.returned (.bool (z !=0))/\w=w':=by
 go_in;go_wp2;go_ret;exact⟨rfl,rfl⟩
def kl(F:Nat)(f:Int->Bool)(hF:∀z w,() F #[.int .i64 z] w λe w'=>e=.returned (.bool (f z))/\w=w')
  (m:∀z w,Sem.run prog (callFunc F #[.int .i64 z]) w=.ok (.enter F #[.int .i64 z]) w)
  (A:bF) (c:Nat) (zs:au) (w:aa) (hs:zs.length<=1000000) (h:Rd w A zs):
  () 76 #[.slice A zs c,.func (.func F) #[] #[]] w λe w'=>e=.returned (.bool (zs.all f))/\w=w':=by
 have u:=ae hF;go_in;go_wp2_with fail;go_loop [9] (λi=>∃k:Nat,k<=zs.length/\i=.int .i64 k/\(zs.take k).all f=true) (λi=>zs.length-(intOf i).toNat);case atStart=>exact⟨0,aM _,rfl,rfl⟩
 case round=>
  obtain⟨k,E,rfl,j⟩:=hrel;have y:=ae j;clear j;by_cases r:k<zs.length
  .obtain⟨b,off,z,rfl,hb,G,B⟩:=h.get r;rcases BX:f z with _|_
   .have l:=ae BX;(have C:Hx (zs.all f=false):=by refine rz.2 ⟨z,aC B.o,?_⟩;rw[l.o];simp);go_wp2;refine(u.o z _).mono ?_;rintro e w' ⟨rfl,rfl⟩;rw[l.o];go_wp2;go_ret;exact⟨bU (by rw[C.o]),rfl⟩
   have l:=ae BX;go_wp2;refine(u.o z _).mono ?_;rintro e w' ⟨rfl,rfl⟩;rw[l.o];go_wp2;go_round;(case rel=>exact⟨k+1,om,by go_num,by rw[take_at B.o,yf,y.o];simp[l.o]⟩);case measure=>exact nT
  (have D:Hx (zs.all f=true):=by have:=y.o;rwa[bY om]at this);go_wp2;go_ret;exact⟨bU (by rw[D.o]),rfl⟩
def yP(w:aa)(p z:Int)(hp:1<=p)(j:1<=z)(l:p<=1099511627776)(h:p*z<=1099511627776):
  () 132 #[z,.pointer w.1.size] (w.alloc (.cells #[p] 3)) λe w'=>e=.returned (.bool true)/\w.alloc (.cells #[.int .i64 (p*z)] 3)=w':=by
 have m:¬(1099511627776/p<z):=by have:=(xY (a:=z) (b:=1099511627776) (c:=p) om).2 (by rw[jB];exact h);omega
 have r:1<=p*z:=by have:=lO hp j om om;omega
 go_in;go_wp2;go_ret;exact⟨rfl,rfl⟩
def BY(w:aa)(p z:Int)(hp:1<=p)(_hz:1<=z)(j:p<=1099511627776)(h:¬p*z<=1099511627776):
  () 132 #[z,.pointer w.1.size] (w.alloc (.cells #[p] 3)) λe w'=>e=.returned (.bool false)/\w.alloc (.cells #[p] 3)=w':=by
 have m:1099511627776/p<z:=by by_cases l:1099511627776/p<z;exact l;exact absurd (by have:=(xY (a:=z) (b:=1099511627776) (c:=p) om).1 om;rwa[jB]at this) h
 go_in;go_wp2;go_ret;exact⟨rfl,rfl⟩
def Oe(w:aa)(zs:au)(e:Ending)(w':aa):Prop:=
 e=.returned (.bool (decide (ax zs<=1099511627776)))/\∃p,w'=w.alloc (.cells #[.int .i64 p] 3)/\(ax zs<=1099511627776->p=ax zs)
def xc(A:bF)(c:Nat)(zs:au)(w:aa)(hs:zs.length<=1000000)(h:Rd w A zs)(j:Hx (∀z∈zs,1<=z)):
  () 76 #[.slice A zs c,.func (.func 132) #[] #[.pointer w.1.size]] (w.alloc (.cells #[(1:Int)] 3)) (Oe w zs):=by
 have I:=h.alloc (.cells #[(1:Int)] 3);go_in;go_wp2_with fail;go_loopw [9] (λi wr=>∃k:Nat,k<=zs.length/\i=.int .i64 k/\ax (zs.take k)<=1099511627776/\wr=w.alloc (.cells #[.int .i64 (ax (zs.take k))] 3)) (λi _=>zs.length-(intOf i).toNat);exact⟨0,aM _,rfl,by simp[ax],rfl⟩;obtain⟨k,J,rfl,l,rfl⟩:=hrel;have u:1<=ax (zs.take k):=i5 λz r=>j.o z (cE r);by_cases B:k<zs.length
 .have E:=h.alloc (.cells #[.int .i64 (ax (zs.take k))] 3);obtain⟨b,off,z,rfl,hb,K,r⟩:=h.get B;have y:1<=z:=j.o z (aC r.o);have F:=E.all r.o;by_cases m:ax (zs.take k)*z<=1099511627776
  .go_wp2_with fail;refine(yP w _ z u y l m).mono ?_;rintro e w' ⟨rfl,rfl⟩;go_wp2;go_roundw;exact⟨k+1,om,by go_num,by rw[take_at r.o,jg];exact m,by rw[take_at r.o,jg]⟩;simp[intOf];omega
  have C:Hx (1099511627776<ax zs):=ae (by
   have:=yN j (k+1);rw[take_at r.o,jg]at this;omega)
  go_wp2_with fail;refine(BY w _ z u y l om).mono ?_;rintro e w' ⟨rfl,rfl⟩;go_wp2_with fail;go_ret;exact⟨bU (by simpa using C.o),_,rfl,λG=>absurd G (by have:=C.o;omega)⟩
 have D:Hx (zs.take k=zs):=bY om;go_wp2;go_ret;rw[D.o]at l;exact⟨bU (by simpa using l),_,rfl,λ_=>by rw[D.o]⟩
def mh(zs:au):Int:=if zs.all gJ&&zs.all (· !=0)&&decide (ax zs<=1099511627776)then ax zs else 0
def mi(zs:au):Int:=if zs.all gJ then(if zs.all (· !=0)&& !decide (ax zs<=1099511627776)then 17 else 0)else 11
def zA8(h:Γ:=by go_wp2_with fail;go_ret2;exact⟨by rw[l.o,m.o];rfl,aV _ _⟩):=h
def vh(A:bF)(c:Nat)(zs:au)(w:aa)(hs:zs.length<=1000000)(h:Rd w A zs):
  () 75 #[.slice A zs c] w λe w'=>e=.returned (.tuple #[.int .i64 (mh zs),.int .i64 (mi zs)])/\Below w.1.size w w':=by
 have c1:=kl 77 gJ qu (λ_ _=>rfl) A c zs w hs h;have c2:=kl 131 (· !=0) JV (λ_ _=>rfl) A c zs w hs h;have B:=ae c1;have D:=ae c2;clear c1 c2;rcases h1:zs.all gJ with _|_
 .have r:=ae h1;have l:Hx (mh zs=0):=ae (by simp[mh,h1]);have m:Hx (mi zs=11):=ae (by simp[mi,h1]);clear h1;go_in;go_wp2_with fail;refine B.o.mono ?_;rintro e w' ⟨rfl,rfl⟩;rw[r.o];exact zA8
 rcases h2:zs.all (· !=0)with _|_
 .have r:=ae h1;have C:=ae h2;have l:Hx (mh zs=0):=ae (by simp[mh,h1,h2]);have m:Hx (mi zs=0):=ae (by simp[mi,h1,h2]);clear h1 h2;go_in;go_wp2_with fail;refine B.o.mono ?_;rintro e w' ⟨rfl,rfl⟩;rw[r.o];go_wp2_with fail;refine D.o.mono ?_;rintro e w' ⟨rfl,rfl⟩;rw[C.o];exact zA8
 have r:=ae h1;have C:=ae h2;have u:Hx (∀z∈zs,1<=z):=by intro z G;have a:=dz.1 h1 z G;have b:=dz.1 h2 z G;simp[gJ]at a b;omega
 have I:=ae (xc A c zs w hs h u);by_cases j:ax zs<=1099511627776
 .have l:Hx (mh zs=ax zs):=ae (by simp[mh,h1,h2,j]);have m:Hx (mi zs=0):=ae (by simp[mi,h1,h2,j]);have E:Hx (decide (ax zs<=1099511627776)=true):=ae (by simpa using j);have F:=ae j;clear h1 h2 j;go_in;go_wp2_with fail;refine B.o.mono ?_;rintro e w' ⟨rfl,rfl⟩;rw[r.o];go_wp2_with fail;refine D.o.mono ?_;rintro e w' ⟨rfl,rfl⟩;rw[C.o];go_wp2_with fail;refine I.o.mono ?_;rintro e w' ⟨rfl,p,rfl,hp⟩;have J:=ae (hp F.o);clear hp;rw[E.o];go_wp2_with fail;go_ret2;exact⟨by rw[l.o,m.o,<-J.o];rfl,(aV _ _).alloc (al _) _⟩
 have y:1099511627776<ax zs:=om;have l:Hx (mh zs=0):=ae (by simp[mh,h1,h2,j]);have m:Hx (mi zs=17):=ae (by simp[mi,h1,h2,y]);have E:Hx (decide (ax zs<=1099511627776)=false):=ae (by simpa using j);clear h1 h2 j y;go_in;go_wp2_with fail;refine B.o.mono ?_;rintro e w' ⟨rfl,rfl⟩;rw[r.o];go_wp2_with fail;refine D.o.mono ?_;rintro e w' ⟨rfl,rfl⟩;rw[C.o];go_wp2_with fail;refine I.o.mono ?_;rintro e w' ⟨rfl,p,rfl,hp⟩;rw[E.o];go_wp2;go_ret2;exact⟨by rw[l.o,m.o];rfl,(aV _ _).alloc (al _) _⟩
def yQ(h:ct zs=true)(e:zs.length<=4):mh zs=ax zs/\mi zs=0:=by
 have hb:=pd zs h e;have j:zs.all gJ=true:=dz.2 λz b=>by have:=b0 h b;simp[gJ];omega
 have l:zs.all (· !=0)=true:=dz.2 λz b=>by have:=b0 h b;simp;omega
 simp[mh,mi,j,l,hb.2]
def ov(w:aa)(v:Value)(e:Ending)(w':aa):Prop:=e=.returned v/\Below w.1.size w w'
def Of(A B)(c d)(xs e)(w)(hs:xs.length<=1000000)(I:e.length<=1000000)(h:Rd w A xs)(J:Rd w B e):
  () 118 #[.slice A xs c,.slice B e d] w (pf w (decide (xs=e))):=by
 by_cases u:xs.length=e.length
 .have K:((xs.length:Int) !=(e.length:Int))=false:=by rw[u];simp
  have C:=ae u;go_in;go_wp2;go_loopw [13] (λi wr=>∃k n:Nat,k<=xs.length/\i=.int .i64 k/\wr=w.drewN n/\xs.take k=e.take k) (λi _=>xs.length-(intOf i).toNat);exact⟨0,0,aM _,rfl,rfl,rfl⟩;obtain⟨k,n,P,rfl,rfl,ht⟩:=hrel;have D:=ae ht;clear ht;by_cases l:k<xs.length
  .obtain⟨b,off,x,rfl,hb,Q,E⟩:=h.get l;(have m:k<e.length:=by rw[<-C.o];exact l);obtain⟨R,F,y,rfl,L,M,G⟩:=J.get m;by_cases j:x=y
   .have r:(x !=y)=false:=by simp[j]
    have N:=ae j;go_wp2;go_quiet (fail);go_wp2;go_roundw;exact⟨k+1,_,om,by go_num,rfl,by rw[take_at E.o,take_at G.o,D.o,N.o]⟩;simp[intOf];omega
   have r:(x !=y)=true:=by simp[j]
   have z:Hx (decide (xs=e)=false):=gD (Rv E.o G.o j);go_wp2;go_quiet (fail);go_wp2;go_ret;exact⟨bU (by rw[z.o]),_,World.drewN_drewN _ _ _⟩
  have O:Hx (decide (xs=e)=true):=gC (tV C.o D.o l);go_wp2;go_ret;exact⟨bU (by rw[O.o]),_,rfl⟩
 have r:((xs.length:Int) !=(e.length:Int))=true:=by simp;omega
 have z:Hx (decide (xs=e)=false):=by refine gD ?_;rintro rfl;exact u rfl
 go_in;go_wp2;go_ret;exact⟨bU (by rw[z.o]),0,rfl⟩
def l7(A B)(c d)(xs b)(w)(hs:xs.length<=1000000)(j:b.length<=1000000)(h:Rd w A xs)(l:Rd w B b):
  () 70 #[.slice A xs c,.slice B b d] w (pf w (decide (xs=b))):=by
 go_in;go_wp2_with fail;refine(Of A B c d xs b w hs j h l).mono ?_;rintro e w' ⟨rfl,n,rfl⟩;go_wp2;go_ret;exact⟨rfl,n,rfl⟩
def zA9(h:Γ:=by first|(go_ret;exact⟨bU (by rw[y.o]),aV _ _⟩)|omega):=h
def dq(A)(c)(zs)(w)(hs:zs.length<=1000000)(h:Rd w A zs):
  () 119 #[.slice A zs c] w (ov w (.bool (aA zs))):=by
 by_cases r:1<=zs.length/\zs.length<=4
 .have⟨r,h4⟩:=r;go_in;go_wp2_with fail;go_loop [17] (λi=>∃k:Nat,k<=zs.length/\i=.int .i64 k/\ct (zs.take k)=true) (λi=>zs.length-(intOf i).toNat);exact⟨0,aM _,rfl,rfl⟩;obtain⟨k,E,rfl,l⟩:=hrel;have j:=ae l;clear l;by_cases u:k<zs.length
  .obtain⟨b,off,z,rfl,hb,F,B⟩:=h.get u;by_cases m:1<=z/\z<=1024
   .have⟨hH,jM⟩:=m;go_wp2;go_round;exact⟨k+1,om,by go_num,by rw[take_at B.o,BV,j.o];simp[hH,jM]⟩;simp[intOf];omega
   have y:=ae (BW (yM B.o m));go_wp2_with fail;all_goals exact zA9
  have e:zs.take k=zs:=bY om;rw[e]at j;have D:=ae (EV r h4 j);have C:=ae (yQ j h4);go_wp2_with fail;refine(vh A c zs w hs h).mono ?_;rintro e w' ⟨rfl,hb⟩;rw[C.o.1,C.o.2];go_wp2;go_ret;exact⟨bU (by rw[D.o]),hb⟩
 have y:=ae (G5 r);go_in;go_wp2;all_goals exact zA9
def tW(A)(c)(zs)(w)(hs:zs.length<=1000000)(h:Rd w A zs):
  () 73 #[.slice A zs c] w (ov w (.tuple #[.int .i64 (bz zs),.int .i64 (cA zs)])):=by
 rcases hr:aA zs with _|_
 .have b:Hx (bz zs=0):=ae (by simp[bz,hr]);have j:Hx (cA zs=20):=ae (by simp[cA,hr]);have l:=ae hr;go_in;go_wp2_with fail;refine(dq A c zs w hs h).mono ?_;rintro e w' ⟨rfl,hb⟩;rw[l.o];go_wp2;go_ret2;exact⟨by rw[b.o,j.o];rfl,hb⟩
 have b:Hx (bz zs=ax zs):=ae (by simp[bz,hr]);have j:Hx (cA zs=0):=ae (by simp[cA,hr]);have l:=ae hr;have r:=ae (yQ ((a2 zs).1 hr).2.2.1 ((a2 zs).1 hr).2.1);go_in;go_wp2_with fail;refine(dq A c zs w hs h).mono ?_;rintro e u ⟨rfl,hb⟩;rw[l.o];go_wp2_with fail;refine(vh A c zs u hs (h.below hb)).mono ?_;rintro e y ⟨rfl,m⟩;rw[r.o.1,r.o.2];go_wp2;go_ret2;exact⟨by rw[b.o,j.o];rfl,hb.trans (m.mono hb.size)⟩
def mj(A)(c)(zs)(w)(hs:zs.length<=1000000)(h:Rd w A zs):
  () 103 #[.slice A zs c] w (Rr w 3 zs):=by
 have b:=λW=>run_make_row' (P:=prog) 25 3 an 8 underlying25 ao rfl .i64 .i64 zs.length om om W;have e:=λj=>sj (P:=prog) 25 25 j 3 3 underlying25 ao zs A c w h;go_in;go_wp2;go_ret;exact⟨w.1.size,rfl,al _,Own.new _ _ _,(aV _ _).alloc (al _) _⟩
def f7(a b c:Int):Bool:=decide (1<=a)&&decide (a<=1024)&&decide (1<=b)&&decide (b<=1024)&&decide (1<=c)&&decide (c<=1024)&&decide (b<=a)
def kT(a b c:Int):Int:=if f7 a b c then 1+(a-b)/c else 0
def jh(a b c:Int):Int:=if f7 a b c then 0 else 11
def zA4(h:Γ:=by rw[gH];go_wp2;all_goals first|omega|(go_ret2;exact⟨by rw[j.o,l.o];rfl,rfl⟩)):=h
def zA6(h:Γ:=by go_in;go_wp2;refine lR 4 ?_;(iterate 4 (rw[gH];go_wp2));go_ret2;exact⟨by rw[j.o,l.o];rfl,rfl⟩):=h
def yR(a b c:Int)(w:aa):
  () 190 #[a,b,c] w λe w'=>e=.returned (.tuple #[.int .i64 (kT a b c),.int .i64 (jh a b c)])/\w=w':=by
 have u:∀w,(Instr.index 267 (.agg #[a,b,c]) an).run prog w=.ok a w:=λ_=>ao;have i1:∀w,(Instr.index 267 (.agg #[a,b,c]) (1:Int)).run prog w=.ok b w:=λ_=>ao;have i2:∀w,(Instr.index 267 (.agg #[a,b,c]) (2:Int)).run prog w=.ok c w:=λ_=>ao;by_cases h:f7 a b c=true;have j:Hx (kT a b c=1+(a-b)/c):=ae (by simp[kT,h]);have l:Hx (jh a b c=0):=ae (by simp[jh,h]);simp only[f7,bK,bZ,pc]at h;have⟨h1,h2,h3,h4,h5,h6,h7⟩:=h;have m:0<=(a-b)/c:=kI om om;have r:(a-b)/c<=1024:=EN (Int.ediv_le_self _ om) om;exact zA6;have j:Hx (kT a b c=0):=ae (by simp[kT,h]);have l:Hx (jh a b c=11):=ae (by simp[jh,h]);simp only[f7,bK,bZ,pc]at h;by_cases y:1<=a/\a<=1024
 .by_cases hb:1<=b/\b<=1024
  .by_cases z:1<=c/\c<=1024;have hd:¬b<=a:=om;exact zA6;clear h;go_in;go_wp2;refine lR 3 ?_;rw[gH];go_wp2;rw[gH];go_wp2;exact zA4
  clear h;go_in;go_wp2;refine lR 2 ?_;rw[gH];go_wp2;exact zA4
 clear h;go_in;go_wp2;refine lR 1 ?_;exact zA4
variable{E:Int}
def g9(w:aa)(zs:au)(E:Int)(e:Ending)(w':aa):Prop:=
 ∃A c,e=.returned (.tuple #[.slice A zs c,E])/\Rd w' A zs/\Below w.1.size w w'/\(∀b,A=some b->w.1.size<=b.block)/\zs.length<=c
def g9.none_(b:zs=[])(hb:Below w.1.size w w')(e:Ending)(j:e=.returned (.tuple #[(),E])):g9 w zs E e w':=by
 subst b;exact⟨none,0,j,Rd.nil _ _,hb,(λ_ h=>by cases h),al _⟩
def g9.own{T:Nat}(hg:w.1.size<=g)(b:Own w' g T zs)(hb:Below w.1.size w w')(e:Ending)(j:e=.returned (.tuple #[.slice g zs zs.length,an])):g9 w zs 0 e w':=
 ⟨_,_,j,b.rd,hb,(λ_ h=>by cases h;exact hg),al _⟩
def gm(zs:au)(e a b:Int):Int:=
 if aA zs then(if decide (0<=e)&&decide (e<zs.length)&&decide (0<=a)&&decide (b<=zs.getD e.toNat 0)&&decide (a<b)then 0 else 11)else 20
def hG(zs:au)(e a b:Int):List Int:=if gm zs e a b=0 then zs.set e.toNat (b-a)else[]
def zA7(h:Γ:=by go_wp2;all_goals first|omega|(go_ret2;exact g9.none_ m hb _ (by rw[l.o];rfl))):=h
def zAc(h:Γ:=by simp[hG,l.o]):=h
def MY(A:bF)(c:Nat)(zs:au)(j a b:Int)(w:aa)(hs:zs.length<=1000000)(h:Rd w A zs):
  () 129 #[.slice A zs c,j,a,b] w (g9 w (hG zs j a b) (gm zs j a b)):=by
 rcases hr:aA zs with _|_
 .have l:Hx (gm zs j a b=20):=ae (by simp[gm,hr]);have m:Hx (hG zs j a b=[]):=ae zAc;have u:=ae hr;go_in;go_wp2_with fail;refine(dq A c zs w hs h).mono ?_;rintro e C ⟨rfl,hb⟩;rw[u.o];go_wp2;go_ret2;exact g9.none_ m hb _ (by rw[l.o];rfl)
 have u:=ae hr;obtain⟨r1,Q,E,K⟩:=(a2 zs).1 hr;by_cases F:0<=j/\j<zs.length
 .obtain⟨n,rfl⟩:=bJ F.1;have L:n<zs.length:=om;obtain⟨R,off,z,rfl,M,S,r⟩:=h.get L;have⟨hH,jM⟩:=dH E r.o;by_cases G:0<=a/\b<=z/\a<b
  .have⟨ha,hbz,bE⟩:=G;have l:Hx (gm zs n a b=0):=ae (by
    rw[gm,ah hr,ah];simp only[bK,bZ,aZ];simp[List.getD,r.o];omega)
   have m:Hx (hG zs n a b=zs.set n (b-a)):=ae zAc;go_in;go_wp2_with fail;refine(dq _ c zs w hs h).mono ?_;rintro e C ⟨rfl,hb⟩;rw[u.o];have I:=(h.below hb).all r.o;go_wp2_with fail;refine(mj _ c zs C hs (h.below hb)).mono ?_;rintro e T ⟨g,rfl,hg,D,J⟩;have N:=D.cell r.o;have O:=D.frozen n;have P:=ae (D.av n (b-a));clear D;have y:(zs.set n (b-a)).length=zs.length:=aD;have B:=ae y;go_wp2_with fail;go_ret2;rw[m.o,l.o];exact g9.own (aL hb.size hg) P.o ((hb.trans (J.mono hb.size)).setCell (aL hb.size hg) _) _ (by rw[B.o];rfl)
  have l:Hx (gm zs n a b=11):=ae (by
   rw[gm,ah hr,ag];simp only[bK,bZ,aZ];simp[List.getD,r.o];omega)
  have m:Hx (hG zs n a b=[]):=ae zAc;go_in;go_wp2_with fail;refine(dq _ c zs w hs h).mono ?_;rintro e C ⟨rfl,hb⟩;rw[u.o];have I:=(h.below hb).all r.o;exact zA7
 have l:Hx (gm zs j a b=11):=ae (by
  rw[gm,ah hr,ag];simp only[bK,bZ];omega)
 have m:Hx (hG zs j a b=[]):=ae zAc;go_in;go_wp2_with fail;refine(dq _ c zs w hs h).mono ?_;rintro e C ⟨rfl,hb⟩;rw[u.o];exact zA7
variable{j n:Nat}
def f8(zs ts:au)(n:Nat):Bool:=decide (zs.take n=ts.take n)&&decide (zs.drop (n+1)=ts.drop (n+1))
def hR(zs ts:au)(n:Nat):List Int:=zs.set n (zs.getD n 0+ts.getD n 0)
def ea(zs ts:au)(b:Int):Int:=
 if aA zs&&aA ts&&decide (zs.length=ts.length)then
  (if decide (0<=b)&&decide (b<zs.length)then(if f8 zs ts b.toNat&&aA (hR zs ts b.toNat)then 0 else 20)else 11)
 else 20
def dD(zs ts:au)(b:Int):List Int:=if ea zs ts b=0 then hR zs ts b.toNat else[]
def iX(zs ts:au)(n k:Nat):List Int:=if n<k then hR zs ts n else zs
def MZ(zs ts:au)(n k:Nat):Prop:=∀j z t,j<k->j≠n->zs[j]?=some z->ts[j]?=some t->z=t
def EW{ts:au}(u:zs.length=ts.length)(h:MZ zs ts n k)(y:zs.length<=k):f8 zs ts n=true:=by
 have key:∀j,j≠n->zs[j]?=ts[j]?:=by intro j r;by_cases b:j<zs.length;have e:=a5 b;have m:=a5 (l:=ts) (i:=j) om;rw[e,m,h j _ _ om r e m];rw[fc om,fc om]
 simp only[f8,bK,bZ];constructor
 .apply fZ;intro j;rw[eG,eG];split;exact key j om;rfl
 apply fZ;intro j;rw[fb,fb];exact key _ om
def BZ{ts:au}{t:Int}(m:j≠n)(e:zs[j]?=some z)(ht:ts[j]?=some t)(h:z≠t):f8 zs ts n=false:=by
 rcases hb:f8 zs ts n with _|_;rfl;simp only[f8,bK,bZ]at hb;exfalso;rcases ru m with b|hgt;have:=cq (λl=>l[j]?) hb.1;simp only[eG,ah b,e,ht]at this;injection this with this;exact h this;have:=cq (λl=>l[j-(n+1)]?) hb.2;simp only[fb]at this;rw[show n+1+(j-(n+1))=j from om,e,ht]at this;injection this with this;exact h this
def JX{ts:au}(b:k<=n)(h:zs[n]?=some z):(iX zs ts n k)[n]?=some z:=by rw[iX,ag (by omega)];exact h
def EX{ts:au}{t:Int}(b:zs[n]?=some z)(ht:ts[n]?=some t):(iX zs ts n n).set n (z+t)=iX zs ts n (n+1):=by
 rw[iX,ag om,iX,ah om,hR];simp[List.getD,b,ht]
def EY{ts:au}(h:k≠n):iX zs ts n (k+1)=iX zs ts n k:=by
 unfold iX;by_cases b:n<k;rw[ah b,ah om];rw[ag b,ag om]
def zAd(h:Γ:=by simp[dD,F.o]):=h
def zAe(h:Γ:=by rw[F.o];rfl):=h
def Rw(A B:bF)(c d:Nat)(zs ts:au)(l:Int)(w:aa)(hs:zs.length<=1000000)(K:ts.length<=1000000)(h:Rd w A zs)(h':Rd w B ts):
  () 191 #[.slice A zs c,.slice B ts d,l] w (g9 w (dD zs ts l) (ea zs ts l)):=by
 rcases hr:aA zs with _|_
 .have F:Hx (ea zs ts l=20):=ae (by simp[ea,hr]);have R:Hx (dD zs ts l=[]):=ae zAd;have S:=ae hr;clear hr;go_in;go_wp2_with fail;refine(dq A c zs w hs h).mono ?_;rintro e O ⟨rfl,hb⟩;rw[S.o];go_wp2_with fail;go_ret2;exact g9.none_ R.o hb _ zAe
 rcases nX:aA ts with _|_
 .have F:Hx (ea zs ts l=20):=ae (by simp[ea,nX]);have R:Hx (dD zs ts l=[]):=ae zAd;have S:=ae hr;have G:=ae nX;clear hr nX;go_in;go_wp2_with fail;refine(dq A c zs w hs h).mono ?_;rintro e O ⟨rfl,hb⟩;rw[S.o];go_wp2_with fail;refine(dq B d ts O K (h'.below hb)).mono ?_;rintro e w2 ⟨rfl,D⟩;rw[G.o];go_wp2_with fail;go_ret2;exact g9.none_ R.o (hb.trans (D.mono hb.size)) _ zAe
 have S:=ae hr;have G:=ae nX;by_cases P:zs.length=ts.length
 .have js:((zs.length:Int) !=(ts.length:Int))=false:=by rw[P];simp
  have HL:=ae P;by_cases hsd:0<=l/\l<zs.length
  .obtain⟨n,rfl⟩:=bJ hsd.1;have hn:n<zs.length:=om;have HJ0:Hx (f8 zs ts n=false->ea zs ts n=20):=ae (λT=>by simp[ea,hr,nX,P,T];omega);have Rx:Hx (f8 zs ts n=true->ea zs ts n=if aA (hR zs ts n)then 0 else 20):=ae (λT=>by simp[ea,hr,nX,P,T];omega);have HJV:Hx (ea zs ts n=20->dD zs ts n=[]):=ae (λT=>by simp[dD,T]);have Ry:Hx (ea zs ts n=0->dD zs ts n=hR zs ts n):=ae (λT=>by simp[dD,T]);obtain⟨r1,r4,tX,WW⟩:=(a2 zs).1 hr;obtain⟨r1',r4',Q,adg⟩:=(a2 ts).1 nX;have RIN:=ae tX;have abn:=ae Q;clear hr nX P tX Q;go_in;go_wp2_with fail;refine(dq A c zs w hs h).mono ?_;rintro e O ⟨rfl,hb⟩;rw[S.o];go_wp2_with fail;refine(dq B d ts O K (h'.below hb)).mono ?_;rintro e w2 ⟨rfl,D⟩;rw[G.o];have C:=hb.trans (D.mono hb.size);go_wp2_with fail;refine(mj A c zs w2 hs (h.below C)).mono ?_;rintro e w3 ⟨g,rfl,hg,ho,qv⟩;have abo:=C.trans (qv.mono C.size);have U:w.1.size<=g:=aL C.size hg;have HO:=ae ho;clear ho hb D qv;go_wp2_with fail;go_loopw [37] (λi wr=>∃k:Nat,k<=zs.length/\i=.int .i64 k/\Own wr g 3 (iX zs ts n k)/\Below w.1.size w wr/\MZ zs ts n k) (λi _=>zs.length-(intOf i).toNat);(case atStart=>exact⟨0,aM _,rfl,HO.o,abo,λj z t J=>absurd J om⟩);case round=>
    obtain⟨k,hk,rfl,m,r,EZ⟩:=hrel;have V:=ae EZ;clear EZ;by_cases X:k<zs.length
    .obtain⟨b,off,z,rfl,hbb,hc,hz⟩:=(h.below r).get X;obtain⟨b',abk,t,rfl,adh,hc',ht⟩:=(h'.below r).get (k:=k) (by rw[<-HL.o];exact X);(have adi:k<ts.length:=by rw[<-HL.o];exact X);obtain⟨hH,jM⟩:=dH RIN.o hz.o;obtain⟨ht1,ht2⟩:=dH abn.o ht.o;by_cases L:k=n
     .subst L;have sG:=m.cell (JX (ts:=ts) (al k) hz.o);have tY:=m.frozen k;have E:=ae (m.av k (z+t));rw[EX hz.o ht.o]at E;clear m;(have WX:((k:Int)==(k:Int))=true:=by simp);go_wp2_with fail;go_region;(all_goals go_wp2_with fail);all_goals go_roundw;(case rel=>exact⟨k+1,om,by go_num,by first|exact E.o|exact E.o.drew,by first|exact(r.drew).setCell U _|exact(r.setCell U _).drew,λj y u J Y Z hu=>V.o j y u om Y Z hu⟩);case measure=>exact nT
     have WX:((k:Int)==(n:Int))=false:=by simp;omega
     have E:=ae m;rw[<-EY L]at E;clear m;by_cases M:z=t
     .have abp:(z !=t)=false:=by simp[M]
      have HZT:=ae M;have HKN:=ae L;go_wp2_with fail;go_quiet (fail);go_wp2;go_roundw;refine⟨k+1,om,by go_num,E.o.drewN _,below_drewN r _,λj y u J Y Z hu=>?_⟩;by_cases hjk:j<k;exact V.o j y u hjk Y Z hu;obtain rfl:j=k:=om;rw[hz.o]at Z;rw[ht.o]at hu;injection Z with Z;injection hu with hu;rw[<-Z,<-hu,HZT.o];simp[intOf];omega
     have abp:(z !=t)=true:=by simp[M]
     have HF:=ae (HJ0.o (BZ L hz.o ht.o M));go_wp2;go_quiet (fail);go_wp2;go_ret2;exact g9.none_ (HJV.o HF) (below_drewN r _) _ (by rw[HF.o];rfl)
    have HT:=ae (Rx.o (EW HL.o V.o om));(have e:iX zs ts n k=hR zs ts n:=by rw[iX,ah om]);rw[e]at m;have E:=ae m;(have I:(hR zs ts n).length=zs.length:=by simp[hR]);have CR:=ae (dq g (hR zs ts n).length (hR zs ts n) wr om m.rd);rw[I]at CR;have Rz:=ae I;clear m e I;rcases J:aA (hR zs ts n)with _|_
    .have HJ:=ae J;rw[J]at HT;clear J;go_wp2_with fail;refine CR.o.mono ?_;rintro e w4 ⟨rfl,N⟩;rw[HJ.o];go_wp2_with fail;go_ret2;exact g9.none_ (HJV.o HT.o) (r.trans (N.mono r.size)) _ (by rw[HT.o];rfl)
    have HJ:=ae J;rw[J]at HT;clear J;go_wp2_with fail;refine CR.o.mono ?_;rintro e w4 ⟨rfl,N⟩;rw[HJ.o];go_wp2_with fail;go_ret2;rw[Ry.o HT.o,HT.o];exact g9.own U (E.o.keep N) (r.trans (N.mono r.size)) _ (by rw[Rz.o];rfl)
  have F:Hx (ea zs ts l=11):=ae (by
   rw[ea,ah (by simp[hr,nX,P]),ag];simp only[bK,bZ];omega)
  have R:Hx (dD zs ts l=[]):=ae zAd;clear hr nX P;go_in;go_wp2_with fail;refine(dq A c zs w hs h).mono ?_;rintro e O ⟨rfl,hb⟩;rw[S.o];go_wp2_with fail;refine(dq B d ts O K (h'.below hb)).mono ?_;rintro e w2 ⟨rfl,D⟩;rw[G.o];have C:=hb.trans (D.mono hb.size);go_wp2_with fail;all_goals first|omega|(go_ret2;exact g9.none_ R.o C _ zAe)
 have js:((zs.length:Int) !=(ts.length:Int))=true:=by simp;omega
 have F:Hx (ea zs ts l=20):=ae (by simp[ea,P]);have R:Hx (dD zs ts l=[]):=ae zAd;clear hr nX;go_in;go_wp2_with fail;refine(dq A c zs w hs h).mono ?_;rintro e O ⟨rfl,hb⟩;rw[S.o];go_wp2_with fail;refine(dq B d ts O K (h'.below hb)).mono ?_;rintro e w2 ⟨rfl,D⟩;rw[G.o];have C:=hb.trans (D.mono hb.size);go_wp2;go_ret2;exact g9.none_ R C _ zAe
end Go.Proofs.YtmkjnlifimffkaaGreat
