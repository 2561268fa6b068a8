/- Lemmas. No condition. -/
import Derived.Lib.Strings
import Derived.Lib.Slices
import Derived.Lib.Small
import Derived.Lib.Walk
import Derived.Lib.BitFns
import Derived.Test.YtmkjnlifimffkaaGreatS04
import Derived.Deep.DeepCutAuto
import Derived.Shelf.Abstract
import Derived.Lib.AppendZerosOnto
import Derived.Laws.CopyRow
import Derived.Lib.Overlaps
import Derived.Laws.Externs
namespace Go.Proofs.YtmkjnlifimffkaaGreat
open Go.RowKit
set_option linter.all false
set_option maxRecDepth 100000
set_option maxHeartbeats 16000000
def ic(ps:List (Int×Int)):List Value:=ps.flatMap fun x=>[.int .i64 x.1,.int .i64 x.2]
theorem Dv(ps b:List (Int×Int)):ic (ps++b)=ic ps++ic b:=by simp[ic]
theorem Ml(ps:List (Int×Int)):(ic ps).length=ps.length*2:=by
 induction ps with
 |nil=>rfl
 |cons t l b=>simp[ic]at b⊢;omega
theorem Mm:∀{ps:List (Int×Int)} {j:Nat} {x:Int×Int},ps[j]?=some x->(ic ps)[j*2]?=some (.int .i64 x.1)/\(ic ps)[j*2+1]?=some (.int .i64 x.2)
 |u::l,0,x,h=>by simp at h;subst h;simp[ic]
 |u::l,j+1,x,h=>by
  have:=Mm (ps:=l) (j:=j) (x:=x) (by simpa using h);have e:ic (u::l)=[.int .i64 u.1,.int .i64 u.2]++ic l:=by simp[ic]
  rw[e,lC bD,lC bD];simp only[iJ,E8];rw[show(j+1)*2-(0+1+1)=j*2 from om,show(j+1)*2+1-(0+1+1)=j*2+1 from om];exact this
def BQ(w:World)(A:Option Addr)(ps:List (Int×Int)):Prop:=
 ∀(j:Nat) (x:Int×Int),ps[j]?=some x->∃b off,A=some ⟨b,off,none⟩/\b<w.heap.size/\w.cell? ⟨b,off+j*2,none⟩=some (.int .i64 x.1)/\w.cell? ⟨b,off+j*2+1,none⟩=some (.int .i64 x.2)
theorem BQ.nil(w:World)(A:Option Addr):BQ w A []:=fun j _ b=>absurd b au
theorem BQ.below{w w':World}{A:Option Addr}{ps:List (Int×Int)}(h:BQ w A ps)(hb:Below w.heap.size w w'):BQ w' A ps:=fun j x m=>by
 obtain⟨b,off,e,l,r,u⟩:=h j x m;exact⟨b,off,e,bV l hb.size,(hb.cell (p:=⟨b,off+j*2,none⟩) l).trans r,(hb.cell (p:=⟨b,off+j*2+1,none⟩) l).trans u⟩
class Is(w:World)(A:Option Addr)(n:Nat)(ps:outParam (List (Int×Int))):Prop where
 rd:BQ w A ps
 len:n=ps.length
section
variable{w w':World}{A:Option Addr}{n B c:Nat}{ps qs:List (Int×Int)}
instance(priority:=low) Is.step[p:ak w' w][h:Is w A n ps]:Is w' A n ps:=⟨h.rd.below p.st,h.len⟩
theorem Is.get(h:Is w A n ps){k:Nat}(j:k<n):∃b off x y,A=some ⟨b,off,none⟩/\Old b w/\w.cell? ⟨b,off+k*2,none⟩=some (.int .i64 x)/\w.cell? ⟨b,off+k*2+1,none⟩=some (.int .i64 y)/\Hid (ps[k]?=some (x,y)):=by
 have e:ps[k]?=some (ps[k]'(by rw[<-h.len];exact j)):=aW _;obtain⟨b,off,rfl,hb,l,m⟩:=h.rd k _ e;exact⟨b,off,_,_,rfl,⟨hb⟩,l,m,ae e⟩
def bX(w:World)(B:Nat)(A:Option Addr)(c:Nat)(ps:List (Int×Int)):Prop:=w.ownsRow B 98 2 (.slice A ps.length c) ps.length (ic ps)
theorem bX.nil(w:World)(B:Nat):bX w B none 0 []:=Qb w B 98 2
theorem bX.form(h:bX w B A c ps):(A=none/\ps=[]/\c=0)\/∃g cur,A=some ⟨g,0,none⟩/\B<=g/\w.heap[g]?=some (.cells cur 98 (0,0))/\cur.toList.take (ps.length*2)=ic ps:=by
 rcases h.2 with⟨hv,j⟩|⟨g,cap,cur,hv,l,hg,r,hm,u,ht⟩
 ·injection hv with b m e
  exact .inl ⟨b,rZ j,e⟩
 ·injection hv with b m e
  exact .inr ⟨g,cur,b,l,hg,ht⟩
theorem bX.rd(h:bX w B A c ps):BQ w A ps:=by
 rcases h.form with⟨_,rfl,_⟩|⟨g,cur,rfl,r,hg,ht⟩
 ·exact BQ.nil _ _
 ·intro j x b;obtain⟨a0,e⟩:=Mm b;have l:=(aY.1 b).1;have look:∀k v,k<ps.length*2->(ic ps)[k]?=some v->w.cell? ⟨g,k,none⟩=some v:=by
   intro k v m hv;rw[<-ht,l7,if_pos m]at hv;have:cur[k]?=some v:=by simpa using hv
   simp[World.cell?,hg,this]
  refine⟨g,0,rfl,(nz.1 hg).1,?_,?_⟩
  ·rw[fo];exact look _ _ om a0
  ·rw[fo];exact look _ _ om e
theorem bX.lt(h:bX w B A c ps):∀ad,A=some ad->ad.block<w.heap.size:=by
 rcases h.form with⟨rfl,_,_⟩|⟨g,cur,rfl,b,hg,_⟩
 ·intro ad h;cases h
 ·intro ad h;injection h with h;subst h;exact(nz.1 hg).1
theorem bX.fresh(h:bX w B A c ps):∀ad,A=some ad->B<=ad.block:=by
 rcases h.form with⟨rfl,_,_⟩|⟨g,cur,rfl,b,hg,_⟩
 ·intro ad h;cases h
 ·intro ad h;injection h with h;subst h;exact b
theorem bX.same(h:bX w B A c ps)(b:∀ad,A=some ad->w'.heap[ad.block]?=w.heap[ad.block]?):bX w' B A c ps:=by
 refine⟨h.1,?_⟩;rcases h.2 with h|⟨g,cap,cur,hv,e,hg,r⟩
 ·exact .inl h
 ·refine .inr ⟨g,cap,cur,hv,e,?_,r⟩;injection hv with hv
  rw[<-hg];exact b _ hv
theorem bX.at(h:bX w B A c ps)[l:Later w w']:bX w' B A c ps:=h.same fun ad e=>l.st.block _ (h.lt ad e)
theorem bX.typ(h:bX w B A c ps):∀ad,A=some ad->∃cs fz,w.heap[ad.block]?=some (.cells cs 98 fz):=by
 rcases h.form with⟨rfl,_,_⟩|⟨g,cur,rfl,b,hg,_⟩
 ·intro ad h;cases h
 ·intro ad h;injection h with h;subst h;exact⟨_,_,hg⟩
theorem bX.bP{g:Nat}{T:TypeId}{cs:Array Value}(h:bX w B A c ps)(b:aD w g T cs)(j:T≠98):∀ad,A=some ad->ad.block≠g:=by
 intro ad e hb;obtain⟨m,fz,l⟩:=h.typ ad e;rw[hb]at l;unfold aD at b;rw[l]at b;injection b with b;injection b with _ r
 exact j r.symm
theorem afQ{D:Array Oper}{rest:List Oper}{o:Oper}{a:Act}{Q:Exit->Act->World->Prop}(I:o.guard=none)(s x:Operand)(t:TypeId)
  (O:o.op=.call {callee:=.builtin .append,args:= #[s,x],argTypes:= #[t,t]}) (ht:Tryz.prog.underlying t=some (.slice 98))
  (hs:a.eval s=.slice A ps.length c) (b:bX w B A c ps) (y z:Int)
  (P:a.eval x=.slice w.heap.size 1 1) (N:ps.length<=1000000000) (R:B<=w.heap.size)
  (h:∀A' c' w',bX w' B A' c' (ps++[(y,z)])->Below B w w'->(∀k,k<w.heap.size->(∀ad,A=some ad->ad.block≠k)->w'.heap[k]?=w.heap[k]?)->
   wpList Tryz.prog D Q rest (a.put o.dst (.slice A' (ps.length+1) c')) w'):
  wpList Tryz.prog D Q (o::rest) a (w.alloc (.cells #[y,z] 98)):=by
 have l:(Tryz.prog.info? 98).map (fun i=>(i.zero,i.size,i.bytes))=some (some (.agg #[(0:Int),(0:Int)]),2,16):=by kernel_rfl
 obtain⟨i,hi,E⟩:=bN.1 l;simp only[jZ]at E;obtain⟨J,K,L⟩:=E;have m:bX (w.alloc (.cells #[y,z] 98)) B A c ps:=b.at;refine Lu (w.alloc (.cells #[y,z] 98)) I s x t O B 98 i _ 2 16 ht hi J K L rfl ah _ _ _ hs m ⟨w.heap.size,0,none⟩ 1 1 [.int .i64 y,.int .i64 z] P rfl
  (fun j u hu=>?_) (by simp[Value.oneCell']) (by unfold maxLen;omega) om bD ?_
 ·have S:j=0\/j=1:=by
   have:=(aY.1 hu).1;simp at this;omega
  rcases S with rfl|rfl
  ·simp at hu;subst hu;simp[Addr.add,P5]
  ·simp at hu;subst hu;simp[Addr.add,P5]
 ·intro v' w' r hg _ _;have T:(ps++[(y,z)]).length=ps.length+1:=au;rcases r.2 with⟨hv,hn⟩|⟨g,cap,cur,hv,U,V,X,Y,Z,htk⟩
  ·omega
  ·have F:v'=.slice g (ps.length+1) cap:=hv;rw[F];rw[F]at r;refine h _ _ _ ?_ ?_ ?_
   ·unfold bX;rw[T,Dv];exact r
   ·refine((bq B w).alloc R _).grown hg bD ?_;intro k G;have:Value.ownBlock (.slice A ps.length c)=A.map (·.block):=by cases A<;>rfl
    rw[this]at G;obtain⟨ad,C,rfl⟩:=bN.1 G;exact b.fresh ad C
   ·intro k G M;rw[hg.block k bD ?_,CZ _ _ _ G];have:Value.ownBlock (.slice A ps.length c)=A.map (·.block):=by cases A<;>rfl
    rw[this];intro e;obtain⟨ad,C,rfl⟩:=bN.1 e.symm;exact M ad C rfl
end
section
variable{w:World}{B c g:Nat}{E:TypeId}{A:Option Addr}{zs:List Int}
theorem aG.addr(h:aG w B E A c zs)(b:0<zs.length):∃g,A=some ⟨g,0,none⟩/\B<=g/\g<w.heap.size:=by
 rcases h.form with⟨_,rfl,_⟩|⟨g,cur,rfl,e,hg,_⟩
 ·simp at b
 ·exact⟨g,rfl,e,(nz.1 hg).1⟩
theorem aG.frozen(h:aG w B E (some ⟨g,0,none⟩) c zs)(k:Nat):w.frozen? ⟨g,k,none⟩=false:=by
 rcases h.form with⟨b,_,_⟩|⟨l,cur,e,m,hg,_⟩
 ·cases b
 ·injection e with e;injection e with j r;subst j
  simp[World.frozen?,hg]
theorem aG.cell(h:aG w B E (some ⟨g,0,none⟩) c zs){k:Nat}{z:Int}(b:zs[k]?=some z):w.cell? ⟨g,k,none⟩=some (.int .i64 z):=by
 have:=h.rd.all b;rwa[fo]at this
theorem aG.aF(h:aG w B E (some ⟨g,0,none⟩) c zs)(k:Nat)(z:Int):aG (w.setCell ⟨g,k,none⟩ (.int .i64 z)) B E (some ⟨g,0,none⟩) c (zs.set k z):=by
 rcases h.form with⟨b,_,_⟩|⟨u,cur,e,j,hg,l,hm,m,ht⟩
 ·cases b
 ·injection e with e;injection e with r y;subst r
  refine⟨au,.inr ⟨g,c,cur.setIfInBounds k (.int .i64 z),rfl,j,?_,by simpa using l,hm,by simpa using m,?_⟩⟩
  ·simp[World.setCell,CW,hg]
  ·rw[nR,jQ,Hf,Bw,<-ht,List.take_set]
end
section
theorem afR(x:Nat)(j:0<x)(h:x<18446744073709551616):x<2^Lib.bitLen x/\2^Lib.bitLen x<=2*x:=by
 induction x using Nat.strongRecOn with
 |_ x b=>
  rw[Lib.bitLen_half x om h,LW,Nat.pow_succ];by_cases e:x=1
  ·subst e;have:Lib.bitLen (1/2)=0:=rfl;rw[this];decide
  ·obtain⟨i1,i2⟩:=b (x/2) om om om;omega
theorem BR(i:Int)(b:0<=i)(e:i<=255):Lib.len8 i=(Lib.bitLen i.toNat:Int)/\Lib.bitLen i.toNat<=8:=⟨Lib.len8_of i b e,Lib.bitLen_le8' i b e⟩
theorem XN(x:Int)(w:World)(B:0<=x)(C:x<=18446744073709551615):
  Calls Tryz.prog 233 #[.int .u64 x] w fun e w'=>e=.returned (.int .i64 (Lib.bitLen x.toNat))/\w=w':=by
 by_cases c0:x<256
 ·obtain⟨i,hi⟩:=lg x;have j:0<=x:=om;have i1:x<=255:=om;obtain⟨b,m⟩:=BR (x) j i1;have u:Hid (0+Lib.len8 (x)=(Lib.bitLen x.toNat:Int)):=ae (by rw[b];omega);have y:0<=Lib.len8 (x):=om;have z:Lib.len8 (x)<=8:=om;have l:=fun W=>Lib.run_index_len8tab (P:=Tryz.prog) W 9 .u8 (x) Tryz.underlying9 j i1;clear hi i b m;go_enter Tryz.func233,Tryz.ntmps233
  go_wp2_with fail
  go_ret;exact⟨gT (by have:=u.out;omega),rfl⟩
 by_cases c1:x<65536
 ·obtain⟨i,hi⟩:=lg (x/256);have j:0<=x/256:=om;have i1:x/256<=255:=om;obtain⟨b,m⟩:=BR (x/256) j i1;have sh:=Lib.bitLen_shift8 x.toNat om om;have r:(x/256).toNat=x.toNat/256:=om;rw[r]at b m;have u:Hid (8+Lib.len8 (x/256)=(Lib.bitLen x.toNat:Int)):=ae (by rw[b,sh];omega);have y:0<=Lib.len8 (x/256):=om;have z:Lib.len8 (x/256)<=8:=om;have l:=fun W=>Lib.run_index_len8tab (P:=Tryz.prog) W 9 .u8 (x/256) Tryz.underlying9 j i1;clear hi i b m sh r;go_enter Tryz.func233,Tryz.ntmps233
  go_wp2_with fail
  go_ret;exact⟨gT (by have:=u.out;omega),rfl⟩
 by_cases c2:x<16777216
 ·obtain⟨i,hi⟩:=lg (x/65536);have j:0<=x/65536:=om;have i1:x/65536<=255:=om;obtain⟨b,m⟩:=BR (x/65536) j i1;have sh:=Lib.bitLen_shift16 x.toNat om om;have r:(x/65536).toNat=x.toNat/65536:=om;rw[r]at b m;have u:Hid (16+Lib.len8 (x/65536)=(Lib.bitLen x.toNat:Int)):=ae (by rw[b,sh];omega);have y:0<=Lib.len8 (x/65536):=om;have z:Lib.len8 (x/65536)<=8:=om;have l:=fun W=>Lib.run_index_len8tab (P:=Tryz.prog) W 9 .u8 (x/65536) Tryz.underlying9 j i1;clear hi i b m sh r;go_enter Tryz.func233,Tryz.ntmps233
  go_wp2_with fail
  go_ret;exact⟨gT (by have:=u.out;omega),rfl⟩
 by_cases c3:x<4294967296
 ·obtain⟨i,hi⟩:=lg (x/65536/256);have j:0<=x/65536/256:=om;have i1:x/65536/256<=255:=om;obtain⟨b,m⟩:=BR (x/65536/256) j i1;have sh:=Lib.bitLen_shift24 x.toNat om om;have r:(x/65536/256).toNat=x.toNat/16777216:=om;rw[r]at b m;have u:Hid (24+Lib.len8 (x/65536/256)=(Lib.bitLen x.toNat:Int)):=ae (by rw[b,sh];omega);have y:0<=Lib.len8 (x/65536/256):=om;have z:Lib.len8 (x/65536/256)<=8:=om;have l:=fun W=>Lib.run_index_len8tab (P:=Tryz.prog) W 9 .u8 (x/65536/256) Tryz.underlying9 j i1;clear hi i b m sh r;go_enter Tryz.func233,Tryz.ntmps233
  go_wp2_with fail
  go_ret;exact⟨gT (by have:=u.out;omega),rfl⟩
 by_cases c4:x<1099511627776
 ·obtain⟨i,hi⟩:=lg (x/4294967296);have j:0<=x/4294967296:=om;have i1:x/4294967296<=255:=om;obtain⟨b,m⟩:=BR (x/4294967296) j i1;have sh:=Lib.bitLen_shift32 x.toNat om om;have r:(x/4294967296).toNat=x.toNat/4294967296:=om;rw[r]at b m;have u:Hid (32+Lib.len8 (x/4294967296)=(Lib.bitLen x.toNat:Int)):=ae (by rw[b,sh];omega);have y:0<=Lib.len8 (x/4294967296):=om;have z:Lib.len8 (x/4294967296)<=8:=om;have l:=fun W=>Lib.run_index_len8tab (P:=Tryz.prog) W 9 .u8 (x/4294967296) Tryz.underlying9 j i1;clear hi i b m sh r;go_enter Tryz.func233,Tryz.ntmps233
  go_wp2_with fail
  go_ret;exact⟨gT (by have:=u.out;omega),rfl⟩
 by_cases D:x<281474976710656
 ·obtain⟨i,hi⟩:=lg (x/4294967296/256);have j:0<=x/4294967296/256:=om;have i1:x/4294967296/256<=255:=om;obtain⟨b,m⟩:=BR (x/4294967296/256) j i1;have sh:=Lib.bitLen_shift40 x.toNat om om;have r:(x/4294967296/256).toNat=x.toNat/1099511627776:=om;rw[r]at b m;have u:Hid (40+Lib.len8 (x/4294967296/256)=(Lib.bitLen x.toNat:Int)):=ae (by rw[b,sh];omega);have y:0<=Lib.len8 (x/4294967296/256):=om;have z:Lib.len8 (x/4294967296/256)<=8:=om;have l:=fun W=>Lib.run_index_len8tab (P:=Tryz.prog) W 9 .u8 (x/4294967296/256) Tryz.underlying9 j i1;clear hi i b m sh r;go_enter Tryz.func233,Tryz.ntmps233
  go_wp2_with fail
  go_ret;exact⟨gT (by have:=u.out;omega),rfl⟩
 by_cases E:x<72057594037927936
 ·obtain⟨i,hi⟩:=lg (x/4294967296/65536);have j:0<=x/4294967296/65536:=om;have i1:x/4294967296/65536<=255:=om;obtain⟨b,m⟩:=BR (x/4294967296/65536) j i1;have sh:=Lib.bitLen_shift48 x.toNat om om;have r:(x/4294967296/65536).toNat=x.toNat/281474976710656:=om;rw[r]at b m;have u:Hid (48+Lib.len8 (x/4294967296/65536)=(Lib.bitLen x.toNat:Int)):=ae (by rw[b,sh];omega);have y:0<=Lib.len8 (x/4294967296/65536):=om;have z:Lib.len8 (x/4294967296/65536)<=8:=om;have l:=fun W=>Lib.run_index_len8tab (P:=Tryz.prog) W 9 .u8 (x/4294967296/65536) Tryz.underlying9 j i1;clear hi i b m sh r;go_enter Tryz.func233,Tryz.ntmps233
  go_wp2_with fail
  go_ret;exact⟨gT (by have:=u.out;omega),rfl⟩
 obtain⟨i,hi⟩:=lg (x/4294967296/65536/256);have j:0<=x/4294967296/65536/256:=om;have i1:x/4294967296/65536/256<=255:=om;obtain⟨b,m⟩:=BR (x/4294967296/65536/256) j i1;have sh:=Lib.bitLen_shift56 x.toNat om om;have r:(x/4294967296/65536/256).toNat=x.toNat/72057594037927936:=om;rw[r]at b m;have u:Hid (56+Lib.len8 (x/4294967296/65536/256)=(Lib.bitLen x.toNat:Int)):=ae (by rw[b,sh];omega);have y:0<=Lib.len8 (x/4294967296/65536/256):=om;have z:Lib.len8 (x/4294967296/65536/256)<=8:=om;have l:=fun W=>Lib.run_index_len8tab (P:=Tryz.prog) W 9 .u8 (x/4294967296/65536/256) Tryz.underlying9 j i1;clear hi i b m sh r;go_enter Tryz.func233,Tryz.ntmps233
 go_wp2_with fail
 go_ret;exact⟨gT (by have:=u.out;omega),rfl⟩
def afS(x:Int)(w:World)(e:Ending)(w':World):Prop:=∃s:Nat,e=.returned (.int .i64 s)/\w=w'/\s<=63/\9223372036854775808<=x*2^s/\x*2^s<=18446744073709551615
theorem afT(x:Int)(w:World)(z:1<=x)(r:x<=18446744073709551615):Calls Tryz.prog 264 #[.int .u64 x] w (afS x w):=by
 have hb:=afR x.toNat om om;have u:Lib.bitLen x.toNat<=64:=by
  by_cases h:Lib.bitLen x.toNat<=64
  ·exact h
  ·have:2^65<=2^Lib.bitLen x.toNat:=Nat.pow_le_pow_right ah om;omega
 have y:1<=Lib.bitLen x.toNat:=by
  by_cases h:1<=Lib.bitLen x.toNat
  ·exact h
  ·have e:Lib.bitLen x.toNat=0:=om;rw[e]at hb;omega
 have l:=ae hb;clear hb;go_enter Tryz.func264,Tryz.ntmps264
 go_wp2_with fail
 refine(XN x w om r).mono ?_;rintro e w' ⟨rfl,rfl⟩;generalize Lib.bitLen x.toNat=n at*
 go_wp2_with fail
 go_ret;refine⟨64-n,gT om,rfl,om,?_,?_⟩
 ·have e:(2:Nat)^n*2^(64-n)=2^64:=by rw[<-Nat.pow_add];congr 1;omega
  have b:=qV (2^(64-n)) l.out.2;rw[e]at b;obtain⟨m,rfl⟩:=eF (show 0<=x by omega);have j:((m:Int)*2^(64-n))=((m*2^(64-n):Nat):Int):=by rw[yx,H8];rfl
  rw[j];rw[dD,aeB]at b;omega
 ·have e:(2:Nat)^n*2^(64-n)=2^64:=by rw[<-Nat.pow_add];congr 1;omega
  have hp:0<2^(64-n):=Nat.two_pow_pos _;have b:=Nat.mul_lt_mul_of_pos_right l.out.1 hp;rw[e]at b;obtain⟨m,rfl⟩:=eF (show 0<=x by omega);have j:((m:Int)*2^(64-n))=((m*2^(64-n):Nat):Int):=by rw[yx,H8];rfl
  rw[j];rw[dD]at b;omega
end
def yO:Nat->List Int->List Int
 |0,L=>L
 |j+1,L=>if L.getD (j+1) 0<L.getD j 0 then yO j ((L.set (j+1) (L.getD j 0)).set j (L.getD (j+1) 0))else L
def z8(L:List Int):Nat->List Int
 |0=>L
 |k+1=>yO (k+1) (z8 L k)
def yP(L:List Int):List Int:=z8 L (L.length-1)
section
variable{w w':World}{B c n:Nat}{A:Option Addr}{zs:List Int}
theorem XO:∀(j:Nat) (L:List Int),(yO j L).length=L.length
 |0,_=>rfl
 |j+1,L=>by
  unfold yO
  split
  ·rw[XO j];simp
  ·rfl
theorem Qy(L:List Int):∀k,(z8 L k).length=L.length
 |0=>rfl
 |k+1=>by rw[z8,XO,Qy L k]
theorem XP(L:List Int):(yP L).length=L.length:=Qy L _
theorem Mo(x:Int):Calls Tryz.prog 265 #[x] w (fun e w'=>e=.returned (.bool false)/\w'=w):=by
 go_enter Tryz.func265,Tryz.ntmps265
 go_wp2_with fail
 go_ret;exact⟨rfl,rfl⟩
theorem aG.hp{E:TypeId}(h:aG w B E A c zs)(e:w'.heap=w.heap):aG w' B E A c zs:=by
 unfold aG World.ownsRow at h⊢;rw[e];exact h
theorem Qz(h:Below B w w')(q:Nat):Below B w (w'.drewN q):=⟨h.os,h.tape,h.output,h.size,h.block⟩
theorem XQ(x y:Int):Calls Tryz.prog 227 #[x,y] w (fun e w'=>e=.returned (.bool (decide (x<y)))/\w'=w):=by
 go_enter Tryz.func227,Tryz.ntmps227
 go_wp2_with (go_at_call 265;refine(Mo _).mono ?_;rintro e b ⟨rfl,rfl⟩)
 go_ret;exact⟨rfl,rfl⟩
def QA(w:World)(B:Nat)(A:Option Addr)(c:Nat)(zs:List Int)(e:Ending)(w':World):Prop:=e=.returned (.tuple #[])/\aG w' B 3 A c zs/\Below B w w'
theorem afU{j:Nat}{L:List Int}{x y:Int}(b:L[j+1]?=some x)(e:L[j]?=some y)(h:x<y):yO (j+1) L=yO j ((L.set (j+1) y).set j x):=by
 rw[yO,aQ,aQ,b,e,if_pos (by simpa using h)];rfl
theorem afV{j:Nat}{L:List Int}{x y:Int}(b:L[j+1]?=some x)(e:L[j]?=some y)(h:¬x<y):yO (j+1) L=L:=by
 rw[yO,aQ,aQ,b,e,if_neg (by simpa using h)]
theorem afW(h:Hid (aG w B 3 A c zs))(M:B<=w.heap.size)(N:n<=12)(E:Hid (zs.length=n)):Calls Tryz.prog 267 #[.slice A n c,(0:Int),n] w (QA w B A c (yP zs)):=by
 go_enter Tryz.func267,Tryz.ntmps267
 go_wp2_with fail
 go_loopw [6] (fun i wr=>∃(k:Nat),k+1<=max n 1/\i=.int .i64 (k+1:Nat)/\Hid (aG wr B 3 A c (z8 zs k))/\Hid (Below B w wr)) (fun i _=>n-(intOf i).toNat)
 case atStart=>exact⟨0,om,rfl,h,ae (bq _ _)⟩
 case round=>
  obtain⟨k,O,rfl,b,m⟩:=hrel;have l:(z8 zs k).length=n:=by rw[Qy];exact E.out
  by_cases J:k+1<n
  ·obtain⟨g,rfl,r,-⟩:=b.out.addr om
   go_wp2_with fail
   go_loopw [7] (fun i F=>∃(j:Nat) (L:List Int),j<=k+1/\i=.int .i64 j/\Hid (aG F B 3 (some ⟨g,0,none⟩) c L)/\Hid (Below B w F)/\L.length=n/\Hid (yO j L=z8 zs (k+1))) (fun i _=>(intOf i).toNat)
   case atStart=>exact⟨k+1,z8 zs k,az _,rfl,b,m,l,ae rfl⟩
   case round=>
    clear b m l;obtain⟨j,L,P,rfl,b,m,hL,u⟩:=hrel;by_cases K:0<j
    ·obtain⟨j,rfl⟩:∃i,j=i+1:=⟨j-1,om⟩;obtain⟨x,z⟩:∃x,L[j+1]?=some x:=⟨_,aW om⟩;obtain⟨y,C⟩:∃x,L[j]?=some x:=⟨_,aW om⟩;have c1:=b.out.cell z;have c2:=b.out.cell C;have f1:=b.out.frozen (j+1);have f2:=b.out.frozen j;have G:=ae z;have I:=ae C;clear z C;have i1:((j+1:Nat):Int)<(n:Int):=by omega
     have i2:(j:Int)<(n:Int):=by omega
     go_wp2_with fail
     go_quiet (first|(go_at_call 227;refine Calls.quiet_of_same (XQ _ _)))
     by_cases e:x<y
     ·have d1:decide (x<y)=true:=by simpa using e
      have D:=ae e
      go_wp2_with fail
      go_region
      all_goals go_wp2_with fail
      all_goals
       go_roundw
       case rel=>exact⟨j,(L.set (j+1) y).set j x,om,by go_num,ae (((b.out.hp (w':=wr.drewN (nq+1)) rfl).aF (j+1) y).aF j x),ae (((Qz m.out (nq+1)).setCell (p:=⟨g,j+1,none⟩) r (.int .i64 y)).setCell (p:=⟨g,j,none⟩) r (.int .i64 x)),by simpa using hL,ae (by rw[<-u.out,afU G.out I.out D.out])⟩
       case measure=>simp[intOf]
     ·have d1:decide (x<y)=false:=by simpa using e
      have D:=ae e
      go_wp2_with fail
      go_roundw
      case rel=>exact⟨k+1,om,by go_num,ae (by rw[<-u.out,afV G.out I.out D.out];exact b.out.hp rfl),ae (Qz m.out nq)⟩
      case measure=>simp[intOf];omega
    ·obtain rfl:j=0:=om
     go_wp2_with fail
     go_quiet (first|(go_at_call 227;refine Calls.quiet_of_same (XQ _ _)))
     go_wp2_with fail
     go_roundw
     case rel=>exact⟨k+1,om,by go_num,ae (by rw[<-u.out];exact b.out.hp rfl),ae (Qz m.out nq)⟩
     case measure=>simp[intOf];omega
  ·have hs:yP zs=z8 zs k:=by rw[yP,E.out,show n-1=k by omega]
   go_wp2_with fail
   exact⟨rfl,.tuple #[],by simp[results,Tryz.results267,go_sem],rfl,by rw[hs];exact b.out,m.out⟩
theorem XR(x:Int)(w:World)(b:0<=x)(j:x<=18446744073709551615):Calls Tryz.prog 194 #[.int .u64 x] w fun e w'=>e=.returned (.int .i64 (Lib.bitLen x.toNat))/\w'=w:=by
 go_enter Tryz.func194,Tryz.ntmps194
 go_wp2_with (go_at_call 233;refine(XN _ _ b j).mono ?_;rintro e l ⟨rfl,rfl⟩)
 go_ret;exact⟨rfl,rfl⟩
theorem afX(h:Hid (aG w B 3 A c zs))(b:B<=w.heap.size)(l:n<=12)(m:Hid (zs.length=n))(x:Int):Calls Tryz.prog 231 #[.slice A n c,(0:Int),n,x] w (QA w B A c (yP zs)):=by
 have r:decide ((n:Int)<=12)=true:=by simp;omega
 have u:(n:Int)-0=n:=by omega
 go_enter Tryz.func231,Tryz.ntmps231
 go_wp2_with fail
 go_loopw [1,2] (fun i j wr=>i=.int .i64 0/\j=.int .i64 n/\wr=w) (fun _ _ _=>0)
 case atStart=>exact⟨rfl,rfl,rfl⟩
 case round=>
  obtain⟨rfl,rfl,rfl⟩:=hrel
  go_wp2_with (go_at_call 267;refine(afW h b l m).mono ?_;rintro e C ⟨rfl,y,z⟩)
  exact⟨rfl,.tuple #[],by simp[results,Tryz.results231,go_sem],rfl,y,z⟩
theorem afY:∀n,n<=12->0<n->Lib.bitLen n=1\/Lib.bitLen n=2\/Lib.bitLen n=3\/Lib.bitLen n=4:=ah
theorem afZ:∀n,n<=12->(Lib.bitLen n<=2↔n<=3):=ah
def xu(n:Nat):Nat->Nat->Nat
 |0,r=>r
 |k+1,r=>xu n k (if r+2^k<=n/(r+2^k)then r+2^k else r)
def tH(n:Nat):Nat:=xu n (if n<=3 then 1 else 2) 0
def Dw:Nat->Nat
 |0=>0
 |k+1=>2^k
theorem XT{r b:Nat}(e:n<=12):wrap64 ((n:Int)/((r:Int)+(b:Int)))=((n/(r+b):Nat):Int):=by
 rw[<-mF,<-PU];have:=H7 n (r+b);generalize n/(r+b)=q at*;unfold wrap64;omega
theorem af0(E:1<=n)(y:n<=12):Calls Tryz.prog 142 #[n] w (aM w (.int .i64 (tH n))):=by
 obtain⟨b,hb⟩:=lh (Lib.bitLen n);have z:b=1\/b=2\/b=3\/b=4:=by rw[<-hb];exact afY n y E
 have F:(b<=2↔n<=3):=by
  rw[<-hb];exact afZ n y
 have D:=ae hb;clear hb;go_enter Tryz.func142,Tryz.ntmps142;rcases z with rfl|rfl|rfl|rfl
 all_goals
  go_wp2_with (first|(go_at_call 194;refine(XR _ _ om om).mono ?_;rintro e J ⟨rfl,hu⟩;obtain rfl:=hu.symm;rw[dD,D.out]))
  clear D;go_loopw [3,4] (fun i j wr=>∃(k r:Nat),k<=2/\r<=12/\i=.int .i64 r/\j=.int .i64 (Dw k)/\Hid (xu n k r=tH n)/\wr=w) (fun _ j _=>(intOf j).toNat)
  case atStart=>first|exact⟨1,0,om,om,rfl,rfl,ae (by rw[tH,if_pos om]),rfl⟩|exact⟨2,0,om,om,rfl,rfl,ae (by rw[tH,if_neg om]),rfl⟩
  case round=>
   obtain⟨k,r,K,hr,rfl,rfl,u,rfl⟩:=hrel;rcases k with _|_|_|k
   ·go_wp2_with fail
    go_ret;exact⟨by rw[<-u.out];rfl,ai _ _⟩
   ·have G:(Dw (0+1):Int)=1:=rfl;have C:((r:Int)+1==0)=false:=by simp;omega
    obtain⟨q,hq⟩:=lh (n/(r+1));have I:wrap64 ((n:Int)/((r:Int)+1))=(q:Int):=by rw[<-hq];exact XT y
    by_cases l:r+1<=q
    ·have d1:decide ((r:Int)+1<=(q:Int))=true:=by simp;omega
     have m:Hid (xu n 0 (r+1)=tH n/\r+1<=12):=ae ⟨by rw[<-u.out];show _=xu n 0 (if r+1<=n/(r+1)then r+1 else r);rw[if_pos (by rw[hq];exact l)],by have:=H7 n (r+1);omega⟩;clear hq l
     go_wp2_with fail
     go_roundw
     case rel=>exact⟨0,r+1,om,m.out.2,by go_num,rfl,ae m.out.1,bO⟩
     case measure=>simp[intOf,Dw]
    ·have d1:decide ((r:Int)+1<=(q:Int))=false:=by simp;omega
     have m:Hid (xu n 0 r=tH n):=ae (by rw[<-u.out];show _=xu n 0 (if r+1<=n/(r+1)then r+1 else r);rw[if_neg (by rw[hq];exact l)]);clear hq l
     go_wp2_with fail
     go_roundw
     case rel=>exact⟨0,r,om,om,rfl,rfl,m,bO⟩
     case measure=>simp[intOf,Dw]
   ·have G:(Dw (0+1+1):Int)=2:=rfl;have C:((r:Int)+2==0)=false:=by simp;omega
    obtain⟨q,hq⟩:=lh (n/(r+2));have I:wrap64 ((n:Int)/((r:Int)+2))=(q:Int):=by rw[<-hq];exact XT y
    by_cases l:r+2<=q
    ·have d1:decide ((r:Int)+2<=(q:Int))=true:=by simp;omega
     have m:Hid (xu n 1 (r+2)=tH n/\r+2<=12):=ae ⟨by rw[<-u.out];show _=xu n 1 (if r+2<=n/(r+2)then r+2 else r);rw[if_pos (by rw[hq];exact l)],by have:=H7 n (r+2);omega⟩;clear hq l
     go_wp2_with fail
     go_roundw
     case rel=>exact⟨1,r+2,om,m.out.2,by go_num,rfl,ae m.out.1,bO⟩
     case measure=>simp[intOf,Dw]
    ·have d1:decide ((r:Int)+2<=(q:Int))=false:=by simp;omega
     have m:Hid (xu n 1 r=tH n):=ae (by rw[<-u.out];show _=xu n 1 (if r+2<=n/(r+2)then r+2 else r);rw[if_neg (by rw[hq];exact l)]);clear hq l
     go_wp2_with fail
     go_roundw
     case rel=>exact⟨1,r,om,om,rfl,rfl,m,bO⟩
     case measure=>simp[intOf,Dw]
   ·omega
theorem af1(h:Hid (aG w B 3 A c zs))(b:B<=w.heap.size)(j:n<=12)(l:Hid (zs.length=n)):Calls Tryz.prog 193 #[.slice A n c] w (QA w B A c (yP zs)):=by
 go_enter Tryz.func193,Tryz.ntmps193
 go_wp2_with (first|(go_at_call 194;refine(XR _ _ om om).mono ?_;rintro e u ⟨rfl,rfl⟩)|(go_at_call 231;refine(afX h b j l _).mono ?_;rintro e y ⟨rfl,m,r⟩))
 exact⟨rfl,.tuple #[],by simp[results,Tryz.results193,go_sem],rfl,m,r⟩
end
class Cl(w:World)(g i:Nat)(v:outParam Value):Prop where
 eq:w.cell? ⟨g,i,none⟩=some v
def uI(x y:Int):Int:=if x<y then-1 else if y<x then 1 else 0
section
variable{w w' u:World}{A:Option Addr}{g o q r b1 b2 n c c2 d i k:Nat}{v:Value}{ps:List (Int×Int)}{z x y:Int}{p:Bool}{T1 T2:TypeId}
theorem ku(h:w.cell? ⟨g,i,none⟩=some v):g<w.heap.size:=by
 unfold World.cell? at h;cases hg:w.heap[g]? with
 |none=>rw[hg]at h;simp at h
 |some o=>exact(nz.1 hg).1
theorem jK[h:Cl w g i v]:w.cell? ⟨g,i,none⟩=some v:=h.eq
instance(priority:=low) Cl.step[p:ak w' w][h:Cl w g i v]:Cl w' g i v:=⟨(p.st.cell (p:=⟨g,i,none⟩) (ku h.eq)).trans h.eq⟩
theorem XU:Calls Tryz.prog 254 #[x,y] w (aM w (.int .i64 (uI x y))):=by
 go_enter Tryz.func254,Tryz.ntmps254;unfold uI;by_cases b:x<y
 ·rw[if_pos b]
  go_wp2_with (go_at_call 265;refine(Mo _).mono ?_;rintro e j ⟨rfl,rfl⟩)
  go_ret;exact⟨rfl,ai _ _⟩
 ·rw[if_neg b];by_cases l:y<x
  ·rw[if_pos l]
   go_wp2_with (go_at_call 265;refine(Mo _).mono ?_;rintro e j ⟨rfl,rfl⟩)
   go_ret;exact⟨rfl,ai _ _⟩
  ·rw[if_neg l]
   go_wp2_with (go_at_call 265;refine(Mo _).mono ?_;rintro e j ⟨rfl,rfl⟩)
   go_ret;exact⟨rfl,ai _ _⟩
theorem af2(h:x<y):uI x y= -1:=if_pos h
theorem af3(h:¬x<y):0<=uI x y:=by unfold uI;rw[if_neg h];split<;>decide
theorem af4:(uI x y==0)=decide (x=y):=by
 unfold uI
 split
 ·rename_i h;simp;omega
 ·split
  ·simp;omega
  ·simp;omega
theorem af5[Bx w b1 T1 #[.pointer (some ⟨g,o,none⟩)]][Bx w b2 T2 #[y]][b:Cl w g o (.slice q 1 c)][j:Cl w q 0 (.slice r n c2)][l:Cl w r 0 (.int .i64 x)](B:0<n):
  Calls Tryz.prog 253 #[(0:Int),.pointer b1,.pointer b2] w (aM w (.bool (decide (0<uI x y)))):=by
 obtain⟨C,D⟩:=lM;have E:=@jK;have o1:Old g w:=⟨ku b.eq⟩;have F:Old q w:=⟨ku j.eq⟩;have G:Old r w:=⟨ku l.eq⟩;go_enter Tryz.func253,Tryz.ntmps253
 go_upto_region 1 with fail
 refine bZ aj (fun m _=>?_);refine ag 0 5 ?_;refine ag 1 6 ?_;refine ag 2 7 ?_;refine ag 3 8 ?_;refine ag 4 9 ?_;refine ag 5 10 ?_;refine ag 6 11 ?_;refine ag 7 12 ?_;refine ag 8 13 ?_;refine ag 9 14 ?_;refine ag 10 15 ?_;refine ay 11 fun K hK=>?_;go_simp
 (with_reducible refine(XU).mono ?_)
 rintro e m ⟨rfl,_⟩;dsimp only;refine av hK ?_;clear hK K;refine ag 12 17 ?_;refine ag 13 4 ?_;refine aO ?_
 go_wp2_with fail
 go_ret;exact⟨rfl,ai _ _⟩
theorem QB:Calls Tryz.prog 256 #[.agg #[x,z],y] w (aM w (.int .i64 (uI x y))):=by
 have b:=@bf;go_enter Tryz.func256,Tryz.ntmps256
 go_wp2_with (go_at_call 254;(try(with_reducible refine qZ (fun u _ _=>?_)));(with_reducible refine XU.mono ?_);rintro e u ⟨rfl,_⟩)
 go_ret;exact⟨rfl,ai _ _⟩
theorem af6:Calls Tryz.prog 252 #[(0:Int),v] w (aM w (.int .i64 0)):=by
 go_enter Tryz.func252,Tryz.ntmps252
 go_wp2_with fail
 go_loopw [5,6] (fun i j wr=>i=.int .i64 0/\j=.int .i64 0/\ak wr w) (fun _ _ _=>0)
 case atStart=>exact⟨rfl,rfl,ai _ _⟩
 case round=>
  obtain⟨rfl,rfl,hp⟩:=hrel
  go_wp2_with fail
  go_ret;exact⟨rfl,ai _ _⟩
theorem XV{E F:Value}{r:Nat}(hr:Hid (r=if p=true then 0 else 1))(G:Hid (∀(u:World) (i:Nat),Hid (i=0)->ak u w->Calls Tryz.prog 253 #[.int .i64 (i:Int),E,F] u (aM u (.bool p)))):
  Calls Tryz.prog 252 #[(1:Int),.func (.func 253) #[] #[E,F]] w (aM w (.int .i64 (r:Int))):=by
 have M:∀args w,(callFunc 253 args).run Tryz.prog w=.ok (.enter 253 args) w:=enters_of Tryz.func253 aj rfl;go_enter Tryz.func252,Tryz.ntmps252
 go_wp2_with fail
 go_loopw [5,6] (fun i j wr=>∃a b:Nat,i=.int .i64 (a:Int)/\j=.int .i64 (b:Int)/\a<=b/\b<=1/\ak wr w/\Hid (a<b\/(a=r/\b=r))) (fun i j _=>(intOf j-intOf i).toNat)
 case atStart=>exact⟨0,1,rfl,rfl,ah,az _,ai _ _,ae (.inl ah)⟩
 case round=>
  obtain⟨a,b,rfl,rfl,I,C,hp,l⟩:=hrel;by_cases J:a<b
  ·obtain⟨m,hm⟩:=lg ((a+b)/2:Nat);have K:((a:Int)+(b:Int))/2=(m:Int):=by omega
   have B:Hid (m=0):=ae om;have D:a<=m:=om;have L:m<b:=om;clear hm;rcases p with _|_
   ·go_wp2_with (go_at_call 253;refine(G.out _ _ B (ai _ _)).mono ?_;rintro e u ⟨rfl,_⟩)
    go_roundw
    case rel=>exact⟨m+1,b,by go_num,rfl,om,C,ai _ _,ae (.inr (by have:=hr.out;have:=B.out;simp at*;omega))⟩
    case measure=>simp[intOf];omega
   ·go_wp2_with (go_at_call 253;refine(G.out _ _ B (ai _ _)).mono ?_;rintro e u ⟨rfl,_⟩)
    go_roundw
    case rel=>exact⟨a,m,rfl,rfl,D,om,ai _ _,ae (.inr (by have:=hr.out;have:=B.out;simp at*;omega))⟩
    case measure=>simp[intOf];omega
  ·obtain rfl:a=b:=om;obtain rfl:a=r:=by have:=l.out;omega
   clear l hr
   go_wp2_with fail
   go_ret;exact⟨rfl,ai _ _⟩
theorem XW:∀{ps:Tb} {i:Nat},i<=ps.length->(∀t e,t<i->ps[t]?=some e->e.1<y)->(∀t e,i<=t->ps[t]?=some e->y<=e.1)->gX ps y=i
 |[],i,h,_,_=>by simp at h;subst h;rfl
 |a::t,0,_,_,h2=>by
  unfold gX;rw[Lv];intro e b;obtain⟨j,l⟩:=jF b;simpa using h2 j e (aS _) l
 |a::t,i+1,h,h1,h2=>by
  rw[Qv (h1 0 a (Fp _) rfl),XW (ps:=t) (i:=i) (by simpa using h) (fun j e l b=>h1 (j+1) e om (by simpa using b)) (fun j e l b=>h2 (j+1) e om (by simpa using b))]
theorem XX(hr:kT ps){i j:Nat}{a b:Int×Int}(h:i<j)(e:ps[i]?=some a)(hb:ps[j]?=some b):a.1<b.1:=by
 obtain⟨l,rfl⟩:=aY.1 e;obtain⟨m,rfl⟩:=aY.1 hb;exact(yz.1 hr) i j l m h
theorem af7(hr:kT ps):qB ps y=(match ps[gX ps y]? with|some e=>decide (e.1=y)|none=>false):=by
 cases h:qB ps y with
 |true=>
  obtain⟨z,b⟩:=Im.1 h;rw[Fz hr b];simp
 |false=>
  have j:=Qx.1 h;cases l:ps[gX ps y]? with
  |none=>rfl
  |some e=>
   have:e.1≠y:=fun m=>j e.2 (by rw[<-m];exact aK l);simpa using this
theorem af8[a:Is w A n ps](hr:Hid (kT ps))(Z:n<=100000){j:Nat}{b:Bool}(P:Hid (gX ps y=j))(hb:Hid (qB ps y=b)):
  Calls Tryz.prog 255 #[.slice A n c,y,.func (.func 256) #[] #[]] w (aM w (.tuple #[j,.bool b])):=by
 have CP:=@kQ;have G:Hid (n=ps.length):=ae a.len;have EG:∀args w,(callFunc 256 args).run Tryz.prog w=.ok (.enter 256 args) w:=enters_of Tryz.func256 aj rfl;go_enter Tryz.func255,Tryz.ntmps255
 go_wp2_with fail
 go_loopw [9,10] (fun s t wr=>∃lo hi:Nat,lo<=hi/\hi<=n/\s=.int .i64 (lo:Int)/\t=.int .i64 (hi:Int)/\Hid (∀t e,t<lo->ps[t]?=some e->e.1<y)/\Hid (∀t e,hi<=t->ps[t]?=some e->y<=e.1)/\ak wr w) (fun s t _=>(intOf t-intOf s).toNat)
 case atStart=>exact⟨0,n,aS _,az _,rfl,rfl,ae (fun t e h=>absurd h (yH _)),ae (fun t e h Q=>by have:=(aY.1 Q).1;have:=G.out;omega),ai _ _⟩
 case round=>
  obtain⟨lo,hi,R,E,rfl,rfl,N,O,hp⟩:=hrel;by_cases S:lo<hi
  ·obtain⟨m,hm⟩:=lg ((lo+hi)/2:Nat);obtain⟨T,q0,x,z,rfl,ob,v1,v2,D⟩:=a.get (k:=m) om;have U:((lo:Int)+(hi:Int))/2=(m:Int):=by omega
   have I:lo<=m:=om;have V:m<hi:=om;clear hm;by_cases J:x<y
   ·have K:Hid (∀t e,t<m+1->ps[t]?=some e->e.1<y):=ae fun t e ht C=>by
     by_cases h:t=m
     ·subst h;rw[D.out]at C;obtain rfl:=eP C;exact J
     ·have:=XX hr.out (show t<m by omega) C D.out;dsimp only at this;omega
    have X:=af2 J
    go_wp2_with (go_at_fn 256;(with_reducible refine QB.mono ?_);rintro e u ⟨rfl,_⟩)
    go_roundw
    case rel=>exact⟨m+1,hi,om,E,by go_num,rfl,K,O,ai _ _⟩
    case measure=>simp[intOf];omega
   ·have K:Hid (∀t e,m<=t->ps[t]?=some e->y<=e.1):=ae fun t e ht C=>by
     by_cases h:t=m
     ·subst h;rw[D.out]at C;obtain rfl:=Option.some.inj C;dsimp only;omega
     ·have:=XX hr.out (show m<t by omega) D.out C;dsimp only at this;omega
    have X:=af3 J;have Y:decide (uI x y<0)=false:=by simp;omega
    go_wp2_with (go_at_fn 256;(with_reducible refine QB.mono ?_);rintro e u ⟨rfl,_⟩)
    go_roundw
    case rel=>exact⟨lo,m,I,om,rfl,rfl,N,K,ai _ _⟩
    case measure=>simp[intOf];omega
  ·obtain rfl:lo=hi:=om;have B:gX ps y=lo:=XW (by rw[<-G.out];exact E) N.out O.out;obtain rfl:lo=j:=by rw[<-P.out,B]
   have l:qB ps y=(match ps[lo]? with|some e=>decide (e.1=y)|none=>false):=by
    have:=af7 (y:=y) hr.out;rwa[B]at this
   rw[hb.out]at l;by_cases F:lo<n
   ·obtain⟨T,q0,x,z,rfl,ob,v1,v2,D⟩:=a.get (k:=lo) F;rw[D.out]at l;have L:Hid ((uI x y==0)=b):=ae (by rw[af4];exact l.symm);have d1:decide ((lo:Int)<(n:Int))=true:=by simpa using F
    clear l B
    go_wp2_with (go_at_fn 256;(with_reducible refine QB.mono ?_);rintro e u ⟨rfl,_⟩)
    go_ret2;exact⟨by rw[<-L.out];rfl,ai _ _⟩
   ·have M:ps[lo]?=none:=mE (by have:=G.out;omega);rw[M]at l;subst l;have d1:decide ((lo:Int)<(n:Int))=false:=by simp;omega
    clear B
    go_wp2_with fail
    go_ret2;exact⟨rfl,ai _ _⟩
end
section
variable{P:Program}{w:World}{B g k n c i o m:Nat}{E:TypeId}{A:Option Addr}{vs us cs:List Value}{cur:Array Value}{z:Value}
theorem yQ{a b:Nat}(h:a<=b):Nat.min a b=a:=iY h
theorem Aa{a b:Nat}(h:b<=a):Nat.min a b=b:=aeE h
theorem nX(hg:w.heap[g]?=some (.cells cur E (0,0)))(X:Array Value):(w.setRow g X).heap[g]?=some (.cells X E (0,0)):=setRow_heap w g cur X E (0,0) hg
theorem mK{b:Nat}(hb:b≠g)(X:Array Value):(w.setRow g X).heap[b]?=w.heap[b]?:=by
 rw[World.setRow,CW,if_neg (lI hb)]
theorem size_setRow(X:Array Value):(w.setRow g X).heap.size=w.heap.size:=by simp[World.setRow]
theorem xw(_:g<w.heap.size)(X:Array Value):bS (some ⟨g,0,none⟩) (some ⟨g,0,none⟩) w (w.setRow g X):=
 ⟨⟨rfl,rfl,rfl,by rw[size_setRow];exact az _,fun b hb=>absurd hb (yH _)⟩,by rw[size_setRow];exact az _,fun b _ j=>mK (fun e=>j _ rfl (by rw[e])) X,fun ad e=>.inl ⟨_,rfl,by injection e with e;rw[<-e]⟩⟩
theorem yR(r u y:TypeId)(dLen dCap:Nat)(a:Addr)(sLen sCap:Nat)(hu:P.underlying r=some (.slice E))(hs:(P.info? E).map (·.size)=some k)
  (hg:w.heap[g]?=some (.cells cur E (0,0))) (C:cs.length=Nat.min sLen dLen*k)
  (b:∀j v,cs[j]?=some v->w.cell? (a.add j)=some v) (e:o+cs.length<=cur.size) (D:∀v∈cs,v.oneCell'=true):
  (Builtin.copy_ #[r,u] y #[.slice (some ⟨g,o,none⟩) dLen dCap,.slice (some a) sLen sCap]).run P w=
   .ok (goInt (Nat.min sLen dLen)) (w.setRow g (cur.toList.take o++cs++cur.toList.drop (o+cs.length)).toArray):=by
 have F:=run_loadCells_list (P:=P) w a cs b;have l:=Qa P g o E cs 0 cur w hg (by simpa using e) D;cases hq:P.info? E with
 |none=>simp[hq]at hs
 |some i=>
  have hi:i.size=k:=by simpa[hq]using hs
  simp[Builtin.copy_,vQ hu,Builtin.lenOf,Builtin.firstCells,sizeOf,typeInfo,hq,hi,<-C,F,l]
theorem Mq(t j:TypeId)(ht:P.underlying t=some (.slice E))(hv:∀w,(zeroValue E).run P w=.ok z w)(l:(Builtin.zeroCells z.cells n).toList=us)(r:∀v∈us,v.oneCell'=true)(u:0<n){cap:Nat}
  (hg:w.heap[g]?=some (.cells cur E (0,0))) (b:o+us.length<=cur.size):
  (Builtin.clear_ #[t] j #[.slice (some ⟨g,o,none⟩) n cap]).run P w=.ok (.tuple #[]) (w.setRow g (cur.toList.take o++us++cur.toList.drop (o+us.length)).toArray):=by
 have e:=Qa P g o E us 0 cur w hg (by simpa using b) r;obtain⟨m,rfl⟩:∃m,n=m+1:=⟨n-1,om⟩;simp[Builtin.clear_,vQ ht,hv,l,e]
theorem af9{L:List Value}{a:Nat}(h:a<=n)(hL:cur.toList.take (n*k)=L):cur.toList.take (a*k)=L.take (a*k):=by
 rw[<-hL,kM,iY (qV k h)]
theorem QC(h:aP w B E k (some ⟨g,0,none⟩) c n vs)(hi:i<n)(t N:TypeId)(ht:P.underlying t=some (.slice E))(hs:(P.info? E).map (·.size)=some k)(S:∀v∈vs,v.oneCell'=true){off:Nat}(T:i+1<n->off=(i+1)*k):
  ∃X,(Builtin.append_ #[t,t] N #[.slice g i c,.slice (some ⟨g,off,none⟩) (n-(i+1)) (c-(i+1))]).run P w=.ok (.slice g (n-1) c) (w.setRow g X)/\
   X.size=c*k/\X.toList.take ((n-1)*k)=vs.take (i*k)++vs.drop ((i+1)*k):=by
 rcases h.form with⟨G,_⟩|⟨V,cur,e,Y,hg,Z,hm,O,hv⟩
 ·cases G
 injection e with e;injection e with U F;subst U
 obtain⟨Q,I,b⟩:=bN.1 hs;have y:vs.length=n*k:=h.1;have r:(vs.drop ((i+1)*k)).length=(n-(i+1))*Q.size:=by rw[b,jY,y,Nat.sub_mul]
 have J:i*k+(n-(i+1))*k=(n-1)*k:=by rw[<-Hr];congr 1;omega
 have K:(n-1)*k<=c*k:=qV k om;have R:=run_append_room (P:=P) w t N E Q ht I g i c cur hg ⟨g,off,none⟩ (n-(i+1)) (c-(i+1)) (vs.drop ((i+1)*k)) r (fun j u L=>by
  have C:=(aY.1 L).1;rw[r,b]at C;have M:i+1<n:=by
   refine Pv fun hx=>?_;rw[show n-(i+1)=0 from om,yG]at C;exact absurd C (yH _)
  rw[lD]at L;obtain⟨g2,F,D⟩:=h.cell L;injection F with F;injection F with F;subst F
  rw[T M,show(Addr.add ⟨g,(i+1)*k,none⟩ j)=⟨g,(i+1)*k+j,none⟩from by by_cases G:j=0<;>simp[Addr.add,G]];exact D) (fun u hu=>S u (jo hu)) om (by rw[r,b,O,J];exact K)
 rw[show i+(n-(i+1))=n-1 by omega]at R;rw[b]at R;refine⟨_,R,?_,?_⟩
 ·have h3:i*k<=c*k:=qV k om;rw[b]at r;rw[zP,cu,cu,dO,jY (l:=cur.toList),qx,O,r];omega
 ·rw[af9 (zR hi) hv];rw[lu (by rw[cu,dO,r,b,y,iY (qV k (zR hi))];omega)];rw[dB (by rw[cu,dO,r,b,y,iY (qV k (zR hi))];omega)]
theorem aP.whole(h:aP w B E k (some ⟨g,0,none⟩) c n vs):∃cur,w.heap[g]?=some (.cells cur E (0,0))/\B<=g/\n<=c/\c<=maxLen/\cur.size=c*k/\cur.toList.take (n*k)=vs/\g<w.heap.size:=by
 rcases h.form with⟨j,_⟩|⟨C,cur,e,l,hg,r,b,u,hv⟩
 ·cases j
 injection e with e;injection e with y D;subst y
 exact⟨cur,hg,l,r,b,u,hv,(nz.1 hg).1⟩
theorem QD(h:aP w B E k A c n vs)(t Q:TypeId)(ht:P.underlying t=some (.slice E))(bytes:Nat)(l:(P.info? E).map (fun i=>(i.zero,i.size,i.bytes))=some (some z,k,bytes))(F:z.cells.size=k)(R:0<k)(G:bytes<=1000)
  {vb:Nat} (hb:aD w vb E us.toArray) (S:us.length=k) (T:∀u∈us,u.oneCell'=true) (D:n<=100000000) (U:B<=w.heap.size):
  ∃A' c' w',(Builtin.append_ #[t,t] Q #[.slice A n c,.slice vb 1 1]).run P w=.ok (.slice A' (n+1) c') w'/\aP w' B E k A' c' (n+1) (vs++us)/\bS A A' w w':=by
 obtain⟨i,hi,C⟩:=bN.1 l;simp only[jZ]at C;obtain⟨I,J,K⟩:=C;have L:(n+1)*bytes<=140737488355328:=by
  have:=EX (n+1) G;omega
 obtain⟨v',w',hr,r,hg,-,y⟩:=Li (P:=P) w B t Q E i z k bytes ht hi I J K F R _ _ _ h ⟨vb,0,none⟩ 1 1 us (by rw[S];omega)
  (fun j u hu=>by
   have e:(⟨vb,0,none⟩:Addr).add j=⟨vb,j,none⟩:=by rw[eu,fo]
   rw[e,hb.cell j];simpa using hu) T (by unfold maxLen;omega) L U
 rcases r.2 with⟨hv,h0⟩|⟨g,cap,cur,hv,V,X,Y,Z,hcs,htk⟩
 ·omega
 ·rw[hv]at r y hr;refine⟨_,_,w',hr,r,?_,hg.size,fun b hb M=>?_,fun ad e=>?_⟩
  ·exact(bq 0 w).grown hg om (fun k R=>aS _)
  ·rw[hg.block b hb ?_];rw[xn];intro e;obtain⟨ad,N,rfl⟩:=bN.1 e.symm;exact M ad N rfl
  ·injection e with e
   subst e;rw[xn,xn]at y;rcases y with D|D
   ·obtain⟨O,h3,h4⟩:=bN.1 D.symm;exact .inl ⟨O,h3,h4.symm⟩
   ·right;simp at D
    show w.heap.size<=g
    omega
theorem QE{b:Array Oper}{o:Oper}{a:Act}{w:World}{K:Act->World->Prop}{Q:Exit->Act->World->Prop}{E:Prop}
  (hg:o.guard=none) (d x:Operand) (j l:TypeId) (e:o.op=Op.call {callee:=Callee.builtin Builtin.append,args:= #[d,x],argTypes:= #[j,l]})
  (v u:Value) (hd:a.eval d=v) (r:a.eval x=u) {v':Value} {w':World} (hr:(Builtin.append_ #[j,l] o.type #[v,u]).run P w=.ok v' w') (hK:K (a.put o.dst v') w'):
  if Region.wanted o (yielded b a.tmps)=true then Oper.wp P o a w K Q else E:=by
 have y:Region.wanted o (yielded b a.tmps)=true:=by simp[Region.wanted,hg]
 rw[if_pos y];unfold Oper.wp;simp[execOp,e,resolve,invoke,builtin,hd,r,hr,Result.andThen];exact hK
theorem Dx{b:Array Oper}{o:Oper}{a:Act}{w:World}{K:Act->World->Prop}{Q:Exit->Act->World->Prop}{E:Prop}
  (hg:o.guard=none) (d x:Operand) (j l:TypeId) (e:o.op=Op.call {callee:=Callee.builtin Builtin.copy,args:= #[d,x],argTypes:= #[j,l]})
  (v u:Value) (hd:a.eval d=v) (r:a.eval x=u) {v':Value} {w':World} (hr:(Builtin.copy_ #[j,l] o.type #[v,u]).run P w=.ok v' w') (hK:K (a.put o.dst v') w'):
  if Region.wanted o (yielded b a.tmps)=true then Oper.wp P o a w K Q else E:=by
 have y:Region.wanted o (yielded b a.tmps)=true:=by simp[Region.wanted,hg]
 rw[if_pos y];unfold Oper.wp;simp[execOp,e,resolve,invoke,builtin,hd,r,hr,Result.andThen];exact hK
theorem Mr(w:World){b:Array Oper}{rest:List Oper}{o:Oper}{a:Act}{Q:Exit->Act->World->Prop}(e:o.guard=none)(d s:Operand)(t j:TypeId)
  (l:o.op=.call {callee:=.builtin .copy,args:= #[d,s],argTypes:= #[t,j]}) (v u:Value) (hd:a.eval d=v) (hs:a.eval s=u) {v':Value} {w':World}
  (hr:(Builtin.copy_ #[t,j] o.type #[v,u]).run P w=.ok v' w') (h:wpList P b Q rest (a.put o.dst v') w'):wpList P b Q (o::rest) a w:=
 wpList_plain e fun _ hK=>by
  unfold Oper.wp execOp;simp only[l,resolve,invoke,builtin,Lr,Lp,Ld,K9,fe,lG,hd,hs,hr];exact hK _ _ h
end
end Go.Proofs.YtmkjnlifimffkaaGreat
