/- Lemmas. No condition. -/
import Derived.Shelf.Spec.SlicesInsertGrow
import Derived.Shelf.Slices.Cells
import Derived.Shelf.Slices.Clone
import Derived.Shelf.Slices.SearchI
import Derived.Shelf.Slices.Empties
import Derived.Shelf.Slices.Turned
import Derived.Test.YtmkjnlifimffkaaGreatS08
import Derived.Laws.ResultCell
import Derived.Lib.MinMax
namespace Go.Proofs.YtmkjnlifimffkaaGreat
open Go.RowKit
set_option linter.all false
set_option maxRecDepth 100000
set_option maxHeartbeats 16000000
section
open Go.RowKit Go.Shelf
def rI:Ren:=⟨fun n=>if n=15 then 86 else if n=21 then 189 else if n=23 then 187 else if n=25 then 188 else if n=27 then 229 else if n=28 then 230 else if n=31 then 227 else if n=32 then 228 else if n=35 then 266 else if n=37 then 265 else if n=39 then 281 else if n=107 then 140 else if n=108 then 192 else 0,
 fun n=>if n=0 then 0 else if n=3 then 3 else if n=4 then 4 else if n=22 then 24 else if n=28 then 24 else if n=40 then 96 else 0,fun n=>n⟩
theorem bR:Lays2.n21 Tryz.prog rI where
 mixed:=aj
 f21:=Tryz.func189
 f27:=Tryz.func229
 f28:=Tryz.func230
 f35:=Tryz.func266
 f39:=Tryz.func281
 t0:=Tryz.underlying0
 a0:=Tryz.isAgg0
 z0:=Tryz.sizeOf0
 v0:=Tryz.zeroValue0
 t3:=Tryz.underlying3
 a3:=Tryz.isAgg3
 z3:=Tryz.sizeOf3
 v3:=Tryz.zeroValue3
 t4:=Tryz.underlying4
 a4:=Tryz.isAgg4
 z4:=Tryz.sizeOf4
 v4:=Tryz.zeroValue4
 t22:=Tryz.underlying24
 a22:=Tryz.isAgg24
 z22:=Tryz.sizeOf24
 v22:=Tryz.zeroValue24
 i3:=aj
theorem agO:Lays2.n23 Tryz.prog rI:=⟨bR.mixed,Tryz.func187,bR.t0,bR.a0,bR.z0,bR.v0,bR.t3,bR.a3,bR.z3,bR.v3,bR.t4,bR.a4,bR.z4,bR.v4,bR.t22,bR.a22,bR.z22,bR.v22,bR.i3⟩
theorem Ye:Lays2.n25 Tryz.prog rI:=⟨bR.mixed,Tryz.func188,Tryz.func227,Tryz.func228,Tryz.func265,bR.t0,bR.a0,bR.z0,bR.v0,bR.t3,bR.a3,bR.z3,bR.v3,bR.t4,bR.a4,bR.z4,bR.v4,bR.t22,bR.a22,bR.z22,bR.v22,Tryz.underlying96,Tryz.isAgg96,Tryz.sizeOf96,Tryz.zeroValue96⟩
theorem QM:Lays2.n15 Tryz.prog rI:=⟨bR.mixed,Tryz.func86,bR.t3,bR.a3,bR.z3,bR.v3,bR.t4,bR.a4,bR.z4,bR.v4,bR.t22,bR.a22,bR.z22,bR.v22,bR.i3⟩
theorem Yf:Lays.n107 Tryz.prog rI:=⟨bR.mixed,Tryz.func140,Tryz.func192,bR.t0,bR.a0,bR.z0,bR.v0,bR.t3,bR.a3,bR.z3,bR.v3,bR.t4,bR.a4,bR.z4,bR.v4,bR.t22,bR.a22,bR.z22,bR.v22⟩
section
variable{w w':World}{B:Nat}{A:Option Addr}{c n g:Nat}{zs:List Int}{x:Int}
theorem aG.row(h:aG w B 3 A c zs):aP w B 3 1 A c zs.length (zs.map (Value.int .i64)):=h
theorem aP.own(h:aP w B 3 1 A c n (zs.map (Value.int .i64))):aG w B 3 A c zs/\n=zs.length:=by
 have e:n=zs.length:=by have:=h.1;simp at this;exact this.symm
 subst e;exact⟨h,rfl⟩
theorem MC{b off:Nat}(h:Rd w (some ⟨b,off,none⟩) zs):∀j,j<zs.length->w.cell? ⟨b,off+j,none⟩=some (.int .i64 (zs.getD j 0)):=fun j e=>by
 rw[aQ,aW e];exact h.all (aW e)
theorem agP{α:Type}{L Z:List α}{v:α}{n:Nat}(h:L.length=n):(L++v::Z).take (n+1)=L++[v]:=by
 rw[show L++v::Z=(L++[v])++Z from au,qz (by simp[h])]
theorem ME(zs:List Int):∀v∈zs.map (Value.int .i64),v.oneCell'=true:=fun v hv=>by
 obtain⟨z,_,rfl⟩:=dG.1 hv;rfl
theorem agQ(h:aG w B 3 A c zs){x y:Int}{i j:Nat}(u:x=(i:Int))(z:y=(j:Int))(l:i<=j)(C:j<=zs.length)(D:0<zs.length):
  Calls Tryz.prog 187 #[.slice A zs.length c,x,y] w fun e w'=>e=.returned (.slice A (zs.take i++zs.drop j).length c)/\aG w' B 3 A c (zs.take i++zs.drop j)/\bS A A w w':=by
 subst u z;have m:=h.rd;rcases h.form with⟨_,rfl,_⟩|⟨g,cur,rfl,E,hg,F,hm,G,ht⟩
 ·simp at D
 have r:∀j,w.frozen? ⟨g,0+j,none⟩=false:=fun j=>by simp[World.frozen?,hg]
 refine(Any.slices_Delete_int_cells agO g 0 zs.length c i j zs w (az _) F (by unfold maxLen at hm;omega) l C (MC m) (fun j _=>r j)).mono ?_;rintro e w' ⟨rfl,q,rfl⟩;have el:(zs.take i++zs.drop j).length=zs.length-(j-i):=by simp;omega
 have b:((w.drewN q).setCells g 0 (((zs.take zs.length).take i++(zs.take zs.length).drop j++List.replicate (j-i) 0).map (Value.int .i64))).heap[g]?=some (.cells (tF cur 0 (((zs.take zs.length).take i++(zs.take zs.length).drop j++List.replicate (j-i) 0).map (Value.int .i64))) 3 (0,0)):=
  Dt g _ 0 _ cur _ _ hg
 refine⟨by rw[el],?_,((bS.refl _ w).drewN q).setCells 0 _ rfl⟩;refine((aP.mk' (k:=1) (n:=(zs.take i++zs.drop j).length) E b om hm (by rw[zY];omega) ?_).own (zs:=zs.take i++zs.drop j)).1;rw[Dr _ _ _ bD,jq];simp only[jr,Bo,nR,gV,jX];rw[<-jX,<-gV,lu au,dB au]
theorem agR(h:Rd w A zs)(r:zs.length<=1000000000)(hs:zs.Pairwise (· <= ·)):
  Calls Tryz.prog 188 #[.slice A zs.length c,x] w (aM w (.tuple #[.int .i64 (zs.countP (· <x):Nat),.bool (zs.contains x)])):=by
 by_cases m:zs=[]
 ·subst m;exact(Any.slices_BinarySearch_int_empty Ye A c x w).mono fun e w' ⟨j,l⟩=>⟨j,l▸ai _ _⟩
 ·obtain⟨z,t,rfl⟩:=Lc m;obtain⟨b,off,rfl,hb,_⟩:=h 0 z rfl;have:=Any.slices_BinarySearch_int Ye b off (z::t).length c (z::t) x w (az _) om (MC h) (by rw[jq];exact hs);rw[jq]at this;exact this.mono fun e w' ⟨j,q,l⟩=>⟨j,l▸ai _ _⟩
def agS(w:World)(B:Nat)(A:Option Addr)(zs:List Int)(e:Ending)(w':World):Prop:=∃A' c',e=.returned (.slice A' zs.length c')/\aG w' B 3 A' c' zs/\bS A A' w w'
theorem agT(h:aG w B 3 A c zs){y:Int}{i vb:Nat}[hb:Bx w vb 3 #[x]](hv:∀ad,A=some ad->vb≠ad.block)(V:y=(i:Int))(hi:i<=zs.length)(Y:zs.length<=1000000000)(P:B<=w.heap.size):
  Calls Tryz.prog 189 #[.slice A zs.length c,y,.slice vb 1 1] w (agS w B A (zs.take i++x::zs.drop i)):=by
 subst V;have Q:=h.rd;have R:=hb.blk.cell 0;have m:∀j v,[Value.int .i64 x][j]?=some v->w.cell? ⟨vb,0+j,none⟩=some v:=fun j v l=>by
  cases j with
  |zero=>simp at l;subst l;exact R
  |succ j=>simp at l
 have r:∀v∈[Value.int .i64 x],v.oneCell'=true:=fun v hv=>by rw[gm.1 hv];rfl
 have b:(zs.take i++x::zs.drop i).length=zs.length+1:=by simp;omega
 have E:(zs.take i++x::zs.drop i).map (Value.int .i64)=(zs.map (Value.int .i64)).take i++[Value.int .i64 x]++(zs.map (Value.int .i64)).drop i:=au;rcases h.form with⟨rfl,rfl,rfl⟩|⟨g,cur,rfl,K,hg,hl,hm,U,ht⟩
 ·obtain rfl:i=0:=by simpa using hi
  refine(Any2.slices_Insert_int_end_grow bR none 0 0 vb 0 1 1 [] [Value.int .i64 x] w om om om om rfl rfl (fun _=>rfl) (fun a e=>by cases e) m r).mono ?_;rintro e w' ⟨rfl,rfl⟩;refine⟨some ⟨w.heap.size,0,none⟩,_,rfl,?_,bS.fresh ((bq _ _).drew.alloc (az _) _) (az _)⟩;refine((aP.mk' (k:=1) (n:=1) (vs:=[x].map (Value.int .i64)) P (xe w.drew _) (aZ (az 1) (Dj w _ _ _)) (Fa w _ _ _ (by unfold maxLen;omega)) ?_ ?_).own).1
  ·have:=Dj w (0+1) 0 (rI.t 3);generalize grownCap w (0+1) 0 (rI.t 3)=G at this⊢;simp[Builtin.zeroCells,Value.cells];omega
  ·simp
 have u:∀j,j<c->(w.cell? ⟨g,j,none⟩).isSome=true:=fun j l=>by simp[World.cell?,hg,U,l]
 have L:∀j,w.frozen? ⟨g,j,none⟩=false:=fun j=>by simp[World.frozen?,hg]
 have M:c<=9223372036854775807:=by unfold maxLen at hm;omega
 have F:∀j v,(zs.map (Value.int .i64))[j]?=some v->w.cell? ⟨g,0+j,none⟩=some v:=fun j v l=>by
  rw[dE]at l;obtain⟨z,X,rfl⟩:=bN.1 l;exact Q.all X
 have N:cur.toList.take zs.length=zs.map (Value.int .i64):=by simpa using ht
 by_cases C:zs.length+1<=c
 ·by_cases I:i<zs.length
  ·refine(Any2.slices_Insert_int_shift bR g 0 zs.length c i vb 0 1 1 (zs.map (Value.int .i64)) [Value.int .i64 x] w I om C M (hv _ rfl) au rfl F (fun j l=>by rw[fo];exact u j om) (fun j _=>by rw[fo];exact L j) m (ME zs) r 3 3 1 c (by have:=hb.blk;unfold aD at this;simp[World.shape?,this]) (by simp[World.shape?,hg,U]) om (hb.blk.frozen _) (hb.blk.frozen _)).mono ?_;rintro e w' ⟨rfl,rfl⟩;refine⟨some ⟨g,0,none⟩,c,by rw[b],?_,((((bS.refl _ w).drew).setCells _ _ rfl).setCells _ _ rfl)⟩;have D:=Dt g ((zs.map (Value.int .i64)).drop i) (0+(i+1)) w.drew cur _ _ hg;have J:=Dt g [Value.int .i64 x] (0+i) _ _ _ _ D;refine((aP.mk' (k:=1) (n:=(zs.take i++x::zs.drop i).length) K J om hm (by rw[zY,zY];omega) ?_).own (zs:=zs.take i++x::zs.drop i)).1;have:=afF (cur:=cur) (cs:=zs.map (Value.int .i64)) (vs:=[.int .i64 x]) (a:=i) bD (by rw[dF];exact N) bD;rw[E,b,nR,<-this];simp
  ·obtain rfl:i=zs.length:=om;refine(Any2.slices_Insert_int_end_room bR g 0 zs.length c vb 0 1 1 [Value.int .i64 x] w om C M rfl (fun j l=>by rw[fo];exact u _ om) (fun j _=>by rw[fo];exact L _) m r).mono ?_;rintro e w' ⟨rfl,rfl⟩;refine⟨some ⟨g,0,none⟩,c,by rw[b],?_,(bS.refl _ w).setCells _ _ rfl⟩;have D:=Dt g [Value.int .i64 x] (0+zs.length) w cur _ _ hg;refine((aP.mk' (k:=1) (n:=(zs.take zs.length++x::zs.drop zs.length).length) K D om hm (by rw[zY];omega) ?_).own (zs:=zs.take zs.length++x::zs.drop zs.length)).1;have:=afG (cur:=cur) (cs:=zs.map (Value.int .i64)) (vs:=[.int .i64 x]) (by rw[dF];exact N) bD;rw[b,nR];simp at this⊢;exact this
 ·have S:c=zs.length:=om;subst S;by_cases I:i<zs.length
  ·refine(Any2.slices_Insert_int_grow bR g 0 zs.length zs.length i vb 0 1 1 (zs.map (Value.int .i64)) [Value.int .i64 x] w I om (az _) om om au rfl F m (ME zs) r).mono ?_;rintro e w' ⟨rfl,rfl⟩;have O:Below w.heap.size w (((w.alloc (.cells (((zs.map (Value.int .i64)).take i).toArray++Builtin.zeroCells (Value.int .i64 0).cells (zs.length+1-i)++Builtin.zeroCells (Value.int .i64 0).cells (grownCap w (zs.length+1) zs.length (rI.t 3)-(zs.length+1))) (rI.t 3))).drew.setCells w.heap.size i [Value.int .i64 x]).drew):=
    (Fq (az _) _ _ ((bq _ w).alloc (az _) _).drew).drew
   refine⟨some ⟨w.heap.size,0,none⟩,_,by rw[b],?_,bS.fresh (Fq (az _) _ _ O) (az _)⟩;have D:=Dt w.heap.size [Value.int .i64 x] i (w.alloc (.cells (((zs.map (Value.int .i64)).take i).toArray++Builtin.zeroCells (Value.int .i64 0).cells (zs.length+1-i)++Builtin.zeroCells (Value.int .i64 0).cells (grownCap w (zs.length+1) zs.length (rI.t 3)-(zs.length+1))) (rI.t 3))).drew _ _ _ (xe w _);have J:=Dt w.heap.size ((zs.map (Value.int .i64)).drop i) (i+1) (((w.alloc (.cells (((zs.map (Value.int .i64)).take i).toArray++Builtin.zeroCells (Value.int .i64 0).cells (zs.length+1-i)++Builtin.zeroCells (Value.int .i64 0).cells (grownCap w (zs.length+1) zs.length (rI.t 3)-(zs.length+1))) (rI.t 3))).drew.setCells w.heap.size i [Value.int .i64 x]).drew) _ _ _ D;have T:=Dj w (zs.length+1) zs.length (rI.t 3);refine((aP.mk' (k:=1) (n:=(zs.take i++x::zs.drop i).length) P J om (Fa w _ _ _ (by unfold maxLen;omega)) (by rw[zY,zY];simp[Builtin.zeroCells,Value.cells];omega) ?_).own (zs:=zs.take i++x::zs.drop i)).1;have:=afH (cs:=zs.map (Value.int .i64)) (vs:=[.int .i64 x]) (a:=i) (cur:=((zs.map (Value.int .i64)).take i).toArray++Builtin.zeroCells (Value.int .i64 0).cells (zs.length+1-i)++Builtin.zeroCells (Value.int .i64 0).cells (grownCap w (zs.length+1) zs.length (rI.t 3)-(zs.length+1))) (Z:=(Builtin.zeroCells (Value.int .i64 0).cells (zs.length+1-i)++Builtin.zeroCells (Value.int .i64 0).cells (grownCap w (zs.length+1) zs.length (rI.t 3)-(zs.length+1))).toList) bD au (by simp[Builtin.zeroCells,Value.cells];omega);rw[E,b,nR,<-this];simp
  ·obtain rfl:i=zs.length:=om;refine(Any2.slices_Insert_int_end_grow bR (some ⟨g,0,none⟩) zs.length zs.length vb 0 1 1 (zs.map (Value.int .i64)) [Value.int .i64 x] w om (az _) om om au rfl (fun e=>by cases e) (fun a e j v l=>by injection e with e;subst e;rw[eu];exact F j v l) m r).mono ?_;rintro e w' ⟨rfl,rfl⟩;refine⟨some ⟨w.heap.size,0,none⟩,_,by rw[b],?_,bS.fresh ((bq _ _).drew.alloc (az _) _) (az _)⟩;have T:=Dj w (zs.length+1) zs.length (rI.t 3);refine((aP.mk' (k:=1) (n:=(zs.take zs.length++x::zs.drop zs.length).length) P (xe w.drew _) om (Fa w _ _ _ (by unfold maxLen;omega)) ?_ ?_).own (zs:=zs.take zs.length++x::zs.drop zs.length)).1
   ·simp[Builtin.zeroCells,Value.cells];omega
   ·rw[b,nR];simp;exact agP au
def Iu(w:World)(zs:List Int)(e:Ending)(w':World):Prop:=∃A c,e=.returned (.slice A zs.length c)/\aG w' w.heap.size 3 A c zs/\ak w' w
theorem agU[a:Sl w A n zs](u:n<=1000000):Calls Tryz.prog 86 #[.slice A n c] w (Iu w zs):=by
 obtain⟨a,rfl⟩:=a
 match A,a with
 |none,a=>
  obtain rfl:zs=[]:=by
   cases zs with
   |nil=>rfl
   |cons z t=>obtain⟨b,off,e,_⟩:=a 0 z rfl;cases e
  exact(Any.slices_Clone_int_nil QM 0 c w).mono fun e w' ⟨m,r⟩=>⟨none,0,m,aG.nil _ _ _,r▸ai _ _⟩
 |some ad,a=>
  have fin:∀(e:Ending) (w':World),(∃v',e=.returned v'/\w'.ownsRow w.heap.size 3 1 v' zs.length (zs.map (Value.int .i64))/\v'≠.slice none 0 0/\Below w.heap.size w w')->Iu w zs e w':=by
   rintro e w' ⟨v',rfl,l,_,hb⟩;rcases l.2 with⟨rfl,j⟩|⟨g,cap,cur,rfl,_⟩
   ·exact⟨none,0,by rw[j],by unfold aG;rw[j]at l⊢;exact l,⟨hb⟩⟩
   ·exact⟨some ⟨g,0,none⟩,cap,rfl,l,⟨hb⟩⟩
  by_cases j:zs=[]
  ·subst j;exact(Any.slices_Clone_int_zero QM ad c w).mono fun e w' h=>fin e w' h
  ·obtain⟨z,t,rfl⟩:=Lc j;obtain⟨b,off,e,hb,_⟩:=a 0 z rfl;injection e with e
   subst e;have:=Any.slices_Clone_int QM b off (z::t).length c (z::t) w (az _) om (MC a);rw[jq]at this;exact this.mono fun e w' h=>fin e w' h
theorem Yg[a:Sl w A n zs](r:n<=1000000){v:Bool}(hv:Hid (zs.contains x=v)):Calls Tryz.prog 140 #[.slice A n c,x] w (aM w (.bool v)):=by
 obtain⟨a,rfl⟩:=a;by_cases m:zs=[]
 ·subst m;refine(Any.slices_Contains_int_empty Yf A c x w).mono fun e w' ⟨j,l⟩=>⟨?_,l▸ai _ _⟩;rw[j,<-hv.out];rfl
 ·obtain⟨z,t,rfl⟩:=Lc m;obtain⟨b,off,rfl,hb,_⟩:=a 0 z rfl;have:=Any.slices_Contains_int Yf b off (z::t).length c (z::t) x w (az _) om (MC a);rw[jq,hv.out]at this;exact this.mono fun e w' ⟨j,l⟩=>⟨j,l▸ai _ _⟩
end
end
section
open Go.RowKit Go.Shelf
section
variable{w w' u:World}{B r g k n i j c m d:Nat}{a a':oo}{v v':bL}{b:dW}{bs:List dW}{A A':Option Addr}{x:Value}{y z h:Int}{zs xs:List Int}
theorem agW[s:Sl w (some ⟨g,j,none⟩) n zs](X:n<=1000000):Calls Tryz.prog 261 #[.slice (some ⟨g,j,none⟩) n c] w (fun e w'=>∃A c,e=.returned (.slice A n c)/\aG w' w.heap.size 65 A c zs/\ak w' w):=by
 obtain⟨i,hi,l⟩:=bN.1 (show(Tryz.prog.info? 65).map (fun i=>(i.zero,i.size,i.bytes))=some (some (.int .i64 0),1,8)from by kernel_rfl);simp only[jZ]at l;obtain⟨C,D,E⟩:=l;have J:n=zs.length:=s.len;have p1:ak (w.alloc (.cells #[] 65)) w:=iin;have K:(w.alloc (.cells #[] 65)).ownsRow w.heap.size 65 1 (.slice w.heap.size 0 0) 0 []:=aP.mk' (cur:= #[]) (az _) (xe w _) (az _) (aS _) rfl rfl;have N:Sl (w.alloc (.cells #[] 65)) (some ⟨g,j,none⟩) n zs:=iin;have R:=fun O=>Li (P:=Tryz.prog) (w.alloc (.cells #[] 65)) w.heap.size 26 O 65 i _ 1 8 aj hi C D E rfl ah _ 0 _ K ⟨g,j,none⟩ n c (zs.map (Value.int .i64)) (by simp[J]) (fun k u hu=>by
  rw[dE]at hu;obtain⟨z,Q,rfl⟩:=bN.1 hu;rw[eu];exact N.rd.all Q) (ME zs) (by unfold maxLen;omega) om au
 obtain⟨v',w',hr,F,hg,-,-⟩:=R 26;have S:∀W,(binOp .eql 26 (.slice (some ⟨g,j,none⟩) n c) (.slice none 0 0)).run Tryz.prog W=.ok (.bool false) W:=fun W=>Lib.run_eql_slice_nil W 26 65 _ _ _ _ _ aj;have T:=ae F;have U:=ae hg;have L:=ae J;clear R K F hg J hi C D E;go_enter Tryz.func261,Tryz.ntmps261
 go_wp2_with (at_builtin;refine Lib.wpList_append_run _ rfl _ _ 26 26 rfl _ _ rfl rfl _ _ hr ?_)
 go_ret;have hb:Below w.heap.size w w':=((bq w.heap.size w).alloc (az _) _).grown U.out au (fun k I=>by
  rw[xn]at I;injection I with I
  show w.heap.size<=k
  exact lH I)
 have G:=T.out;rw[fo,Bo]at G;rcases G.2 with⟨rfl,V⟩|⟨g,cap,cur,rfl,_⟩
 ·have M:=L.out;rw[V]at M G⊢;obtain rfl:zs=[]:=rZ M.symm;exact⟨none,0,rfl,aG.nil _ _ _,⟨hb⟩⟩
 ·refine⟨some ⟨g,0,none⟩,cap,rfl,?_,⟨hb⟩⟩;rw[L.out]at G;exact G
theorem QN{fr wd:Nat}(e: -4611686018427387904<=(fr:Int)-y/\(fr:Int)-y<=4611686018427387904):Calls Tryz.prog 260 #[.agg #[z,fr,wd],y] w (aM w (.int .i64 ((fr:Int)-y))):=by
 have l:=@bf;have C:IntKind.i64.wrap ((fr:Int)-y)=(fr:Int)-y:=by rw[bF];omega
 go_enter Tryz.func260,Tryz.ntmps260
 go_wp2_with fail
 go_ret;exact⟨rfl,ai _ _⟩
theorem Yh(l:jJ bs m){i j:Nat}{a b:dW}(e:i<j)(C:bs[i]?=some a)(hb:bs[j]?=some b):a.fr<b.fr:=by
 have D:=l.lt e C hb;have E:=(l.bd a (aK C)).1;omega
theorem agX(N:Hid (aP w B 311 3 A c n (gY bs)))(K:Hid (jJ bs m))(hm:Hid (m<=16777216))(X:Hid (bs.length=n))(Z:n<=16777216)(hi:Hid (bs[i]?=some b))(L:Hid (y=(b.fr:Int))):
  Calls Tryz.prog 259 #[.slice A n c,y,.func (.func 260) #[] #[]] w (aM w (.tuple #[i,.bool true])):=by
 have CP:=@kQ;have CC:=@jK;have EG:∀args w,(callFunc 260 args).run Tryz.prog w=.ok (.enter 260 args) w:=enters_of Tryz.func260 aj rfl;have O:i<n:=by have:=(aY.1 hi.out).1;rw[X.out]at this;exact this
 have G:Hid (∀k,k<n->∃(g:Nat) (e:dW),A=some ⟨g,0,none⟩/\Old g w/\Cl w g (k*3) (.int .i64 e.h)/\Cl w g (k*3+1) (.int .i64 e.fr)/\Cl w g (k*3+2) (.int .i64 e.wd)/\Hid (bs[k]?=some e)/\e.fr<=16777216):=ae fun k P=>by
  have l:bs[k]?=some (bs[k]'(by rw[X.out];exact P)):=aW _;obtain⟨c0,c1,c2⟩:=QK l;obtain⟨g,e,Q⟩:=N.out.cell c0;obtain⟨g1,D,R⟩:=N.out.cell c1;obtain⟨g2,E,h2⟩:=N.out.cell c2;rw[e]at D E;injection D with D;injection D with D
  injection E with E;injection E with E
  subst D E;have:=K.out.bd _ (aK l);exact⟨g,_,e,⟨ku Q⟩,⟨Q⟩,⟨R⟩,⟨h2⟩,ae l,by have:=hm.out;omega⟩
 have I:=ae O;have hfr:b.fr<=16777216:=by have:=K.out.bd _ (aK hi.out);have:=hm.out;omega
 go_enter Tryz.func259,Tryz.ntmps259
 go_wp2_with fail
 go_loopw [9,10] (fun s t wr=>∃lo hi:Nat,lo<=i/\i<=hi/\hi<=n/\s=.int .i64 (lo:Int)/\t=.int .i64 (hi:Int)/\ak wr w) (fun s t _=>(intOf t-intOf s).toNat)
 case atStart=>exact⟨0,n,aS _,zR I.out,az _,rfl,rfl,ai _ _⟩
 case round=>
  obtain⟨lo,F,S,T,U,rfl,rfl,hp⟩:=hrel;by_cases hlt:lo<F
  ·obtain⟨k,P⟩:=lg ((lo+F)/2:Nat);obtain⟨g,e,rfl,ob,c0,c1,c2,l,V⟩:=G.out k om;have hdv:((lo:Int)+(F:Int))/2=(k:Int):=by omega
   have hml:lo<=k:=om;have hmh:k<F:=om;have J: -4611686018427387904<=(e.fr:Int)-y/\(e.fr:Int)-y<=4611686018427387904:=by have:=L.out;omega
   have C:=ae J;clear P J;by_cases hx:k<i
   ·have hc:decide ((e.fr:Int)-y<0)=true:=by
     have:=Yh K.out hx l.out hi.out;have:=L.out;simp;omega
    go_wp2_with (go_at_fn 260;(with_reducible refine(QN C.out).mono ?_);rintro e u ⟨rfl,_⟩)
    go_roundw
    case rel=>exact⟨k+1,F,om,T,U,by go_num,rfl,ai _ _⟩
    case measure=>simp[intOf];omega
   ·have hc:decide ((e.fr:Int)-y<0)=false:=by
     have Q:=L.out;by_cases R:k=i
     ·subst R;have M:=l.out.symm.trans hi.out;obtain rfl:=eP M;simp;omega
     ·have:=Yh K.out (show i<k by omega) hi.out l.out;simp;omega
    go_wp2_with (go_at_fn 260;(with_reducible refine(QN C.out).mono ?_);rintro e u ⟨rfl,_⟩)
    go_roundw
    case rel=>exact⟨lo,k,S,om,om,rfl,rfl,ai _ _⟩
    case measure=>simp[intOf];omega
  ·obtain rfl:lo=F:=om;obtain rfl:lo=i:=om;obtain⟨g,e,rfl,ob,c0,c1,c2,l,V⟩:=G.out lo I.out;have M:=l.out.symm.trans hi.out;obtain rfl:=eP M;have Y:(e.fr:Int)-y=0:=by have:=L.out;omega
   have C:Hid (-4611686018427387904<=(e.fr:Int)-y/\(e.fr:Int)-y<=4611686018427387904):=ae om;have d2:((e.fr:Int)-y==0)=true:=by rw[Y];rfl
   clear M Y
   go_wp2_with (go_at_fn 260;(with_reducible refine(QN C.out).mono ?_);rintro e u ⟨rfl,_⟩)
   go_ret2;exact⟨rfl,ai _ _⟩
theorem Yi(C:bQ w B r a v)(hv:dw v)(hi:v.bs[i]?=some b):Calls Tryz.prog 207 #[.pointer r,.int .i64 b.h] w (aM w (.tuple #[i,.bool true])):=by
 have S:=@bf;have F:Bx w r 197 (jh a v):=⟨C.hd⟩;have J:=C.mp.look hv.BL (hv.yN b (aK hi)) w rfl;have G:=ae C.bs;have K:=ae hv.lay;have I:Hid (v.cs.length<=16777216):=ae (by have:=hv.cl;have:=hv.cap;omega);have M:=ae hi;have l:v.bs.length<=16777216:=by
  have T:=hv.Il;have U:=I.out;have V:v.bs.length<=(v.bs.map (·.wd)).sum:=by
   have:∀L:List dW,(∀b∈L,1<=b.wd)->L.length<=(L.map (·.wd)).sum:=by
    intro L
    induction L with
    |nil=>intro _;simp
    |cons x t N=>
     intro hL;have O:=hL x dN;have X:=N fun y P=>hL y (fI _ P);simp only[fe,jR,iJ];omega
   exact this _ fun b hb=>(hv.lay.bd b hb).1
  have O:=hv.lv;omega
 have Q:=ae l;have R:Hid (v.bs.length=v.bs.length)\/True:=.inr bO;clear R;obtain⟨n,D⟩:=lh v.bs.length;dsimp only[jh]at F;rw[D]at F G l;have E:=ae D;clear D hi hv C Q;go_enter Tryz.func207,Tryz.ntmps207
 go_wp2_with (go_at_call 259;refine(agX G K I E l M (ae rfl)).mono ?_;rintro e Y ⟨rfl,_⟩)
 go_ret2;exact⟨rfl,ai _ _⟩
end
end
section
variable{p w w' u:World}{B r g k n i j c m d:Nat}{a a':oo}{v v':bL}{b:dW}{bs:List dW}{A A':Option Addr}{x:Value}{y z h:Int}{zs xs:List Int}
theorem Iw{Q:World->Prop}{X:World}{T:TypeId}{cs:Array Value}(h:∀u,ak u X->Bx u X.heap.size T cs->Q u):Q (X.alloc (.cells cs T)):=h _ (ai _ _) iin
theorem Yj(l:bQ w B r a v)(hv:dw v)(hi:v.bs[i]?=some b):Calls Tryz.prog 251 #[.pointer r,b.h] w (aM w (.tuple #[.agg #[b.h,b.fr,b.wd],(0:Int)])):=by
 obtain⟨K,L⟩:=lM;have M:=@jK;have N:=@dV;have D:Bx w r 197 (jh a v):=⟨l.hd⟩;obtain⟨g,E,c0,c1,c2⟩:=l.blk hi;have O:Old g w:=⟨ku c1.eq⟩;have C:=(aY.1 hi).1;obtain⟨m,hm⟩:=lh v.bs.length;have F:=ae l;have G:=ae hv;have I:=ae hi;obtain⟨Ac,cc,Ab,cb,q⟩:=a;dsimp only at E;subst E;dsimp only[jh]at D;rw[hm]at D C;have i1:(i:Int)<(m:Int):=by omega
 clear l hv hi hm;go_enter Tryz.func251,Tryz.ntmps251
 go_upto_region 1 with fail
 refine Iw (fun P _ k0=>?_)
 go_upto_region 4 with(go_at_call 207;refine(Yi F.out.at G.out I.out).mono ?_;rintro e J ⟨rfl,_⟩)
 go_wp2_with fail
 refine bM (v:=.tuple #[.agg #[b.h,b.fr,b.wd],(0:Int)]) ?_ rfl ⟨rfl,⟨(((aL w J).setCell (p:=⟨w.heap.size,0,none⟩) (az _) _).setCell (p:=⟨w.heap.size,1,none⟩) (az _) _).setCell (p:=⟨w.heap.size,2,none⟩) (az _) _⟩⟩;rw[eG rfl];go_simp
theorem bQ.row(F:bQ w B r a v)(hv:dw v)(hi:v.bs[i]?=some b):∃g,a.Ac=some ⟨g,0,none⟩/\Sl w (some ⟨g,b.fr,none⟩) b.wd (cont v.cs b)/\v.cs.length<=a.cc/\a.cc<=maxLen/\b.fr+b.wd<=v.cs.length/\1<=b.wd/\v.cs.length<=16777216/\
  ∀W:World,(Instr.slice 26 (.slice (some ⟨g,0,none⟩) v.cs.length a.cc) (some (.int .i64 (b.fr:Int))) (some (.int .i64 ((b.fr:Int)+(b.wd:Int)))) none).run Tryz.prog W=.ok (.slice (some ⟨g,b.fr,none⟩) b.wd (a.cc-b.fr)) W:=by
 have hb:=hv.lay.bd b (aK hi);have K:=F.cs.uB;rcases F.cs.form with⟨_,L,_⟩|⟨g,cur,J,Q,hg,M,hm,R,ht⟩
 ·rw[L]at hb;simp at hb;omega
 ·have N:=hv.cl;have O:=hv.cap;refine⟨g,J,⟨fun j z E=>?_,(BK hb.2).symm⟩,K,hm,hb.2,hb.1,om,fun W=>?_⟩
  ·rw[Fy]at E
   split at E
   ·obtain⟨S,o1,e,G,l⟩:=F.cs.rd _ _ E;rw[J]at e;injection e with e;injection e with C D
    subst C D;exact⟨g,b.fr,rfl,G,by rw[fo]at l;exact l⟩
   ·cases E
  ·have I:∀W,(sizeOf (Tryz.prog.elem 26)).run Tryz.prog W=.ok 1 W:=fun W=>by
    obtain⟨T,C,D⟩:=bN.1 (show(Tryz.prog.info? (Tryz.prog.elem 26)).map (·.size)=some 1 from by kernel_rfl);simp[sizeOf,typeInfo,C,D]
   rw[BD W 26 (some ⟨g,0,none⟩) v.cs.length a.cc aj .i64 .i64 (b.fr:Int) ((b.fr:Int)+(b.wd:Int)) om om om,I];have C:((b.fr:Int)+(b.wd:Int)).toNat=b.fr+b.wd:=om;have D:¬a.cc=b.fr:=om;have P:b.fr+b.wd-b.fr=b.wd:=om;simp[Result.andThen,sliced,C,D,P,eu]
theorem agY(C:bQ w B r a v)(hv:dw v)(hi:v.bs[i]?=some b)(G:b.wd<=65536):Calls Tryz.prog 209 #[.pointer r,b.h] w (fun e w'=>∃A c,e=.returned (.tuple #[.slice A b.wd c,(0:Int)])/\aG w' w.heap.size 65 A c (cont v.cs b)/\ak w' w):=by
 have U:=@bf;have V:=@dV;have D:Bx w r 197 (jh a v):=⟨C.hd⟩;obtain⟨g,E,X,l1,I,J,Y,L,l⟩:=C.row hv hi;have M:=ae C;have N:=ae hv;have O:=ae hi;obtain⟨Ac,cc,Ab,cb,q⟩:=a;dsimp only at E l1 I l;subst E;dsimp only[jh]at D;obtain⟨m,hm⟩:=lh v.cs.length;rw[hm]at D l l1 J L;have Z:IntKind.i64.wrap ((b.fr:Int)+(b.wd:Int))=(b.fr:Int)+(b.wd:Int):=by rw[bF];omega
 clear C hv hi hm;go_enter Tryz.func209,Tryz.ntmps209
 go_upto_region 4 with(go_at_call 251;refine(Yj M.out N.out O.out).mono ?_;rintro e u1 ⟨rfl,_⟩)
 refine Iw (fun F _ k0=>?_);have P:Sl F (some ⟨g,b.fr,none⟩) b.wd (cont v.cs b):=iin;refine eU F aj (fun Q _=>?_);refine ag 0 17 ?_;refine ag 1 18 ?_;refine ag 2 19 ?_;refine ag 3 20 ?_;refine ag 4 21 ?_;refine ag 5 22 ?_;refine ag 6 23 ?_;refine ag 7 24 ?_;refine ag 8 25 ?_;refine ag 9 26 ?_;refine ag 10 27 ?_;refine ag 11 28 ?_;refine ay 12 fun K hK=>?_;go_simp
 (with_reducible refine(agW om).mono ?_)
 rintro e Q ⟨R,S,rfl,T,_⟩;dsimp only;refine av hK ?_;clear hK K;refine ag 13 4 ?_;refine ag 14 5 ?_;refine aO ?_
 go_wp2_with fail
 go_ret2;exact⟨R,S,rfl,T.more aH,ai _ _⟩
theorem Yk{ad:Addr}{t:Nat}(h:aG w B 65 (some ⟨g,0,none⟩) c zs)(D:∀(j:Nat) (z:Int),xs[j]?=some z->w.cell? (ad.add j)=some (.int .i64 z))(ht:t+xs.length<=zs.length):
  ∃X,(∀l dc sc,(Builtin.copy_ #[26,26] l #[.slice (some ⟨g,t,none⟩) xs.length dc,.slice (some ad) xs.length sc]).run Tryz.prog w=.ok (goInt (xs.length:Int)) (w.setRow g X))/\aG (w.setRow g X) B 65 (some ⟨g,0,none⟩) c (iM zs t xs):=by
 rcases h.form with⟨F,_⟩|⟨N,cur,e,G,hg,I,hm,J,hv⟩
 ·cases F
 injection e with e;injection e with K O;subst K
 refine⟨(cur.toList.take t++xs.map (Value.int .i64)++cur.toList.drop (t+(xs.map (Value.int .i64)).length)).toArray,fun l dc sc=>?_,?_⟩
 ·have:=yR (P:=Tryz.prog) (w:=w) (E:=65) (k:=1) (g:=g) (o:=t) (cs:=xs.map (Value.int .i64)) (cur:=cur) 26 26 l xs.length dc ad xs.length sc aj aj hg au (fun j v C=>by
   rw[dE]at C;obtain⟨z,L,rfl⟩:=bN.1 C;exact D j z L) bD (ME xs)
  rw[Aa (az _)]at this;exact this
 ·have M:=BJ (cs:=zs) (p:=t) (xs:=xs) ht;have hs:cur.toList.length=c:=by simpa using J
  have:=aP.mk' (w:=w.setRow g (cur.toList.take t++xs.map (Value.int .i64)++cur.toList.drop (t+(xs.map (Value.int .i64)).length)).toArray) (E:=65) (k:=1) (n:=zs.length) (c:=c) (vs:=(iM zs t xs).map (Value.int .i64)) G (nX hg _) I hm bD (by
   show List.take (zs.length*1) (cur.toList.take t++xs.map (Value.int .i64)++cur.toList.drop (t+(xs.map (Value.int .i64)).length))=_
   rw[nR,dF,iM,gV,gV,yJ,Dh,<-hv];rw[kM,iY om];rw[Hz,dB bD];congr 1;rw[Hw];congr 1;simp;omega)
  unfold aG;rw[M];exact this
theorem bQ.cells{X:Array Value}(C:bQ w B r a v)(E:a.Ac=some ⟨g,0,none⟩)(F:aG (w.setRow g X) B 65 (some ⟨g,0,none⟩) a.cc zs)(G:zs.length=v.cs.length):bQ (w.setRow g X) B r a {v with cs:=zs}:=by
 obtain⟨p1,D,J⟩:=C.apart;have l:AF a.Ac g:=⟨_,E,rfl⟩;refine⟨?_,?_,?_,?_,C.hr,C.hq⟩
 ·have:jh a {v with cs:=zs}=jh a v:=by dsimp only[jh];rw[G]
  rw[this];exact(mK (lI (D g l).1) X).trans C.hd
 ·rw[E];exact F
 ·exact C.bs.same fun ad e=>mK (fun I=>(D g l).2.2 (by rw[<-I];exact⟨ad,e,rfl⟩)) X
 ·exact C.mp.same (mK (lI (D g l).2.1) X)
theorem MF{F:Nat->Prop}(hg:F g)(X:Array Value):Kf F F w (w.setRow g X):=
 ⟨⟨rfl,rfl,rfl,by rw[size_setRow];exact az _,fun b hb=>absurd hb (yH _)⟩,by rw[size_setRow];exact az _,fun b _ l=>mK (fun e=>l (by rw[e];exact hg)) X,fun _ h=>.inl h⟩
theorem agZ[Later p w](M:bQ w p.heap.size r a v)(hv:dw v)(hi:v.bs[i]?=some b)[N:Sl w A n xs](Z:n=b.wd):Calls Tryz.prog 204 #[.pointer r,.int .i64 b.h,.slice A n c] w (fun e w'=>e=.returned (.int .i64 0)/\bQ w' p.heap.size r a (v.put b xs)/\Kf (a.F r) (a.F r) w w'):=by
 have CB:=@bf;have CC:=@jK;have FB:=@dV;obtain⟨g,O,-,l1,l2,l3,l4,l5,hsl⟩:=M.row hv hi;have I:xs.length=b.wd:=by rw[<-Z,N.len]
 obtain⟨b1,o1,z1,rfl,vX,-,-⟩:=N.get (k:=0) om;have c1:Cl w r 1 (.slice g v.cs.length a.cc):=⟨by rw[M.hd.cell 1,<-O];rfl⟩;have P:=ae M;have HV:=ae hv;have HI:=ae hi;have Q:=ae O;have G:=ae I;have J:=ae l3;have SX:=ae N;subst Z;have hw:IntKind.i64.wrap ((b.fr:Int)+(b.wd:Int))=(b.fr:Int)+(b.wd:Int):=by rw[bF];omega
 clear M hv hi O I;go_enter Tryz.func204,Tryz.ntmps204
 go_upto_region 4 with(go_at_call 251;refine(Yj P.out HV.out HI.out).mono ?_;rintro e R ⟨rfl,_⟩)
 refine Iw (fun u0 Ah k0=>?_)
 go_upto_region 6 with fail
 refine j6 p (fun w9=>Cl w9 r 1 (.slice g v.cs.length a.cc)/\Bx w9 R.heap.size 311 #[.int .i64 b.h,.int .i64 (b.fr:Int),.int .i64 (b.wd:Int)]) aj ⟨iin,iin⟩ (fun C _=>?_);refine bu 0 23 ?_;refine bu 1 24 ?_;refine bu 2 25 ?_;refine bu 3 26 ?_;refine bu 4 27 ?_;refine bu 5 28 ?_;refine bu 6 29 ?_;refine bu 7 30 ?_;refine bu 8 31 ?_;refine bu 9 32 ?_;refine bu 10 33 ?_;refine bu 11 34 ?_;refine bu 12 35 ?_;refine ay 13 fun K hK=>?_;have D:=P.out.at (w':=C);have l:=D.cs;rw[Q.out]at l;obtain⟨X,L,S⟩:=Yk (ad:=⟨b1,o1,none⟩) (t:=b.fr) (xs:=xs) l (fun j z hj=>by rw[eu];exact(SX.out.rd.below (aL w C)).all hj) (by rw[G.out];exact J.out);rw[G.out]at L;have E:AF a.Ac g:=by rw[Q.out];exact⟨_,rfl,rfl⟩
 have T:g≠r:=(D.apart.2.1 g E).1;have Ai:p.heap.size<=g:=(D.lt g (.inr (.inr (.inl E)))).1;have U:g≠R.heap.size:=by have:=(P.out.lt g (.inr (.inr (.inl E)))).2;have:=aH (w:=w) (w':=R);omega
 have V:=ae (D.cells Q.out S (BJ (by rw[G.out];exact J.out)));have Y:Hid (Kf (a.F r) (a.F r) w (C.setRow g X)):=ae ((Kf.later _ (w:=w)).trans (MF (.inr (.inr (.inl E))) X));refine Dx rfl _ _ 26 26 rfl _ _ rfl rfl (L _ _ _) ?_;refine av hK ?_ ⟨⟨⟨(aL p C).os,(aL p C).tape,(aL p C).output,by rw[size_setRow];exact(aL p C).size,fun b hb=>by rw[mK om];exact(aL p C).block b hb⟩⟩,⟨(jG (mK (lI T) X)).trans (Cl.eq (w:=C))⟩,⟨(mK (lI U) X).trans (Bx.blk (w:=C))⟩⟩;clear hK K;refine aO ?_
 go_wp2_with fail
 go_ret;exact⟨rfl,V.out,Y.out⟩
end
section
variable{p w w' u w1:World}{B r g k n i j c m d c':Nat}{a a':oo}{v v':bL}{b:dW}{bs bs':List dW}{A A':Option Addr}{x:Value}{y z h:Int}{zs xs:List Int}{mp:List (Int×Int)}{t:Value}
theorem bQ.Yl(l:bQ w B r a v)(E:bS a.Ab A' w w')(hr:aP w' B 311 3 A' c' bs'.length (gY bs')):bQ (w'.setCell ⟨r,2,none⟩ (.slice A' bs'.length c')) B r {a with Ab:=A',cb:=c'} {v with bs:=bs'}/\Kf (a.F r) (({a with Ab:=A',cb:=c'}:oo).F r) w (w'.setCell ⟨r,2,none⟩ (.slice A' bs'.length c')):=by
 obtain⟨p1,L,M⟩:=l.apart;have G:aD w' r 197 (jh a v):=E.blk l.hd fun ad e C=>(M r ⟨ad,e,C⟩).1 rfl;have I:aG w' B 65 a.Ac a.cc v.cs:=l.cs.same fun ad e=>E.off _ (l.cs.lt ad e) fun tC N C=>(L ad.block ⟨ad,e,rfl⟩).2.2 ⟨tC,N,C⟩;have J:jL w' a.q v.mp:=l.mp.same (E.off _ l.mp.lt fun ad e C=>(M a.q ⟨ad,e,C⟩).2 rfl);have K:∀ad,A'=some ad->ad.block≠r:=fun ad e C=>by
  obtain⟨_,_,cur,D⟩:=hr.af ⟨ad,e,C⟩;unfold aD at G;rw[G]at D;injection D with D;injection D with _ D;exact absurd D ah
 refine⟨⟨?_,?_,?_,?_,l.hr,l.hq⟩,?_⟩
 ·exact G.aF 2 _
 ·exact I.same fun ad e=>dM w' ⟨r,2,none⟩ _ _ (L ad.block ⟨ad,e,rfl⟩).1
 ·exact hr.same fun ad e=>dM w' ⟨r,2,none⟩ _ _ (K ad e)
 ·exact J.same (dM w' ⟨r,2,none⟩ _ _ (lI p1))
 ·refine Kf.aF ((Kf.iq E).more (fun b hb=>.inr (.inr (.inr hb))) (fun b hb=>?_)) (.inl rfl) _;rcases hb with hb|hb|hb|hb
  ·exact .inr (.inl (.inl hb))
  ·exact .inr (.inl (.inr (.inl hb)))
  ·exact .inr (.inl (.inr (.inr (.inl hb))))
  ·exact .inl hb
theorem bQ.QO(l:bQ w B r a v)(hm:jL w1 a.q mp)(C:∀b,b≠a.q->w1.heap[b]?=w.heap[b]?):bQ w1 B r a {v with mp:=mp}:=by
 obtain⟨p1,D,E⟩:=l.apart;exact⟨(C r p1).trans l.hd,l.cs.same fun ad e=>C _ (D ad.block ⟨ad,e,rfl⟩).2.1,l.bs.same fun ad e=>C _ (E ad.block ⟨ad,e,rfl⟩).2,hm,l.hr,l.hq⟩
theorem QP{F:Nat->Prop}{q:Nat}(hq:F q)(l:∀b,b≠q->w1.heap[b]?=w.heap[b]?)(hs:w1.heap.size=w.heap.size)(hb:Below 0 w w1):Kf F F w w1:=
 ⟨hb,lH hs.symm,fun b _ C=>l b fun e=>C (by rw[e];exact hq),fun _ h=>.inl h⟩
theorem Cl.far{b k:Nat}{x:Value}(h:Cl w g i t)(e:g≠b\/i≠k):Cl (w.setCell ⟨b,k,none⟩ x) g i t:=
 ⟨(World.cell?_setCell_other _ _ _ _ bD).trans h.eq⟩
theorem dw.ag0(hv:dw v)(hi:v.bs[i]?=some b):b.wd<=v.lv:=by
 rw[hv.lv,BM hi];simp;omega
theorem ag1[Later p w](Y:bQ w p.heap.size r a v)(hv:dw v)(hi:v.bs[i]?=some b):Calls Tryz.prog 153 #[.pointer r,.int .i64 b.h] w (fun e w'=>e=.returned (.int .i64 0)/\bQ w' p.heap.size r a (v.free i b)/\Kf (a.F r) (a.F r) w w'):=by
 have CB:=@bf;have CC:=@jK;have FB:=@dV;obtain⟨g,hA,-,-,c2⟩:=Y.blk hi;have Z:=(aY.1 hi).1;have hwl:=hv.ag0 hi;have hsm:=hv.small hi;have hlv:=hv.Il;have hcl:=hv.cl;have hcp:=hv.cap;have l:Cl w r 2 (.slice g v.bs.length a.cb):=⟨by rw[Y.hd.cell 2,<-hA];rfl⟩;have ch6:Cl w r 6 (.int .i64 (v.lv:Int)):=⟨Y.hd.cell 6⟩;have HV:=ae hv;have HI:=ae hi;have HM:=ae Y;have HA:=ae hA;have S:g≠r:=(Y.apart.2.2 g (by rw[hA];exact⟨_,rfl,rfl⟩)).1;have hsub:(v.lv:Int)-(b.wd:Int)=((v.lv-b.wd:Nat):Int):=om;have hw:IntKind.i64.wrap ((v.lv-b.wd:Nat):Int)=((v.lv-b.wd:Nat):Int):=by rw[bF];omega
 obtain⟨m,hm⟩:=lh v.bs.length;have G:=ae hm;rw[hm]at Z l;have i1:(i:Int)<(m:Int):=by omega
 have O:v.bs.length<=16777216:=by
  have h3:v.bs.length<=(v.bs.map (·.wd)).sum:=by
   have:∀L:List dW,(∀b∈L,1<=b.wd)->L.length<=(L.map (·.wd)).sum:=by
    intro L
    induction L with
    |nil=>intro _;simp
    |cons x t ih=>
     intro hL;have h4:=hL x dN;have h5:=ih fun y hy=>hL y (fI _ hy);simp only[fe,jR,iJ];omega
   exact this _ fun b hb=>(hv.lay.bd b hb).1
  have h4:=hv.lv;omega
 have yT:Hid (m<=16777216):=ae (by rw[<-hm];exact O);clear Y hv hi hA hm O;go_enter Tryz.func153,Tryz.ntmps153
 go_upto_region 4 with(go_at_call 207;refine(Yi HM.out.at HV.out HI.out).mono ?_;rintro e u1 ⟨rfl,_⟩)
 refine j6 p (fun w9=>Cl w9 r 2 (.slice g m a.cb)/\Cl w9 g (i*3+2) (.int .i64 (b.wd:Int))) aj ⟨iin,iin⟩ (fun P _=>?_);refine bu 0 15 ?_;refine bu 1 16 ?_;refine bu 2 17 ?_;refine bu 4 19 ?_;refine bu 5 20 ?_;refine bu 6 21 ?_;refine bu 7 22 ?_;refine bu 8 23 ?_;refine bu 9 24 ?_;refine bu 10 25 ?_;refine bu 11 26 ?_;refine ay 3 fun K hK=>?_;go_simp;refine av hK ?_ ⟨ai p P,⟨iin,iin⟩⟩;clear hK K;refine bu 12 27 ?_;refine bu 13 28 ?_;refine bu 14 29 ?_;refine ay 15 fun K hK=>?_;have QQ:P.cell? ⟨r,6,none⟩=some (.int .i64 (v.lv:Int)):=(HM.out.at (w':=P)).hd.cell 6;have QR:P.frozen? ⟨r,6,none⟩=false:=(HM.out.at (w':=P)).hd.frozen 6;go_simp;refine av hK ?_ ⟨⟨(aL p P).setCell (p:=⟨r,6,none⟩) HM.out.hr _⟩,⟨Cl.far iin (.inr ah),Cl.far iin (.inl S)⟩⟩;clear hK K QQ QR;refine aO ?_
 skip
 obtain⟨v1,I⟩:=lg ({v with lv:=v.lv-b.wd}:bL);obtain⟨W1,J⟩:=lg (P.setCell ⟨r,6,none⟩ (.int .i64 ((v.lv-b.wd:Nat):Int)));have D:bQ W1 p.heap.size r a v1:=by
  rw[J,I];exact(HM.out.at (w':=P)).setH (v':={v with lv:=v.lv-b.wd}) (i:=6) (by rfl) rfl rfl rfl
 have hK1:Kf (a.F r) (a.F r) w W1:=by rw[J];exact(Kf.later _ (w:=w)).aF (.inl rfl) _
 have T:=ae D;have uM:=ae hK1;have e1:v1.bs=v.bs:=by rw[I]
 have kh1:Bx W1 r 197 (jh a v1):=⟨D.hd⟩;have HB1:Hid (aP W1 p.heap.size 311 3 (some ⟨g,0,none⟩) a.cb m (gY v.bs)):=ae (by have:=D.bs;rwa[HA.out,e1,G.out]at this);have M:=ae I;have atm:Cl W1 r 2 (.slice g m a.cb):=⟨by rw[D.hd.cell 2,<-HA.out,<-G.out,<-e1];rfl⟩;have HN9:Hid (m<=100000)\/True:=.inr bO;have wi:IntKind.i64.wrap ((i:Int)+1)=(i:Int)+1:=by have:=yT.out;rw[bF];omega
 rw[<-J];clear J D hK1 I e1 HN9 l ch6 c2 FB CB kh1
 go_upto_region 6 with(go_at_call 208;refine(agb (HB1.out) (Yb _) rfl rfl Z (by have:=yT.out;omega)).mono ?_;rintro e u2 ⟨rfl,r2,l⟩;rw[<-Yc,<-Yd,<-FI]at r2;obtain⟨QS,-⟩:(∀i,u2.frozen? ⟨r,i,none⟩=false)/\True:=⟨fun i=>((l.blk T.out.hd fun ad e hx=>S (by injection e with e;subst e;exact hx)).frozen i),bO⟩;obtain⟨Ym,-⟩:Cl u2 r 2 (.slice g m a.cb)/\True:=⟨⟨(jG (l.off r T.out.hd.lt fun ad e hx=>S (by injection e with e;subst e;exact hx))).trans (Cl.eq (w:=W1))⟩,bO⟩)
 obtain⟨Yn,C⟩:=lg (v.bs.take i++v.bs.drop (i+1));have U:Yn.length=m-1:=by rw[C,<-G.out];have:=G.out;simp;omega
 obtain⟨W2,V⟩:=lg (u2.setCell ⟨r,2,none⟩ (.slice g (m-1) a.cb));have E:bQ W2 p.heap.size r a {v1 with bs:=Yn}/\Kf (a.F r) (a.F r) W1 W2:=by
  rw[<-C,<-U]at r2;have h9:=T.out.Yl (A':=some ⟨g,0,none⟩) (c':=a.cb) (by rw[HA.out];exact l) r2;have e9:({a with Ab:=some ⟨g,0,none⟩,cb:=a.cb}:oo)=a:=by
   obtain⟨Ac,cc,Ab,cb,q⟩:=a;have h8:=HA.out;dsimp only at h8;rw[h8]
  rw[e9,U,<-V]at h9;exact h9
 have Q:b.h∈v.mp.map (·.1):=dG.2 ⟨_,HV.out.yN b (aK HI.out),rfl⟩;have R:jL W2 a.q v.mp:=by have:=E.1.mp;rw[M.out]at this;exact this
 obtain⟨W3,hdel,Iy,X,hs3,hb3⟩:=R.del HV.out.BL Q;have N:=E.1.QO Iy X;have hK3:Kf (a.F r) (a.F r) w W3:=(uM.out.trans E.2).trans (QP (.inr (.inl rfl)) X hs3 hb3);have cq2:Cl W2 r 3 (.map (some a.q)):=⟨E.1.hd.cell 3⟩;have cp3:Cl W3 r 4 (.int .i64 (v.pk:Int)):=⟨by rw[N.hd.cell 4,M.out];rfl⟩;have fr3:∀i,W3.frozen? ⟨r,i,none⟩=false:=fun i=>N.hd.frozen i;have MG:=ae N;have rf:=ae hK3;have hmin:min (v.pk:Int) (i:Int)=((min v.pk i:Nat):Int):=by omega
 rw[<-V];have HB2:=ae C;clear V E Q R Iy X hs3 hb3 N hK3 U r2 l C QS Ym
 go_wp2_with fail
 go_ret;refine⟨rfl,?_,?_⟩
 ·have h9:=MG.out.setH (v':=v.free i b) (i:=4) (x:=.int .i64 ((min v.pk i:Nat):Int)) (by rw[M.out,HB2.out];rfl) (by rw[M.out];rfl) (by rw[HB2.out];rfl) (by rfl);exact h9
 ·exact rf.out.aF (.inl rfl) _
end
end Go.Proofs.YtmkjnlifimffkaaGreat
