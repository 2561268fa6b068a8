/- Lemmas. -/
import Derived.Lib.Strings
import Derived.Lib.Slices
import Derived.Lib.Small
import Derived.Lib.Walk
import Derived.Lib.BitFns
import Derived.Test.YtmkjnlifimffkaaGreatS03
import Derived.Deep.DeepCutAuto
import Derived.Shelf.Abstract
import Derived.Lib.AppendZerosOnto
import Derived.Laws.CopyRow
import Derived.Lib.Overlaps
import Derived.Laws.Externs
import Derived.Shelf.RegionOpenPlain
namespace Go.Proofs.YtmkjnlifimffkaaGreat
open Go.RowKit Tryz
set_option linter.all false
set_option maxRecDepth 100000
set_option maxHeartbeats 0
variable{Γ:Prop}
attribute[local irreducible]Calls
section
variable{w w':World}{A:Option Addr}{c g k n:Nat}{qs:List (Int×Int)}{T:TypeId}{cs:Array Value}{ops:Array Oper}{a:Act}{Q:Exit->Act->World->Prop}
def ic(ps:List (Int×Int)):List Value:=ps.flatMap λx=>[.int .i64 x.1,.int .i64 x.2]
def i7(ps b):ic (ps++b)=ic ps++ic b:=by simp[ic]
def pn(ps):(ic ps).length=ps.length*2:=by
 induction ps with
 |nil=>rfl
 |cons t l b=>simp[ic]at b⊢;omega
def xEE(h:Γ:=by simpa using h):=h
def E2:∀{ps:List (Int×Int)} {j:Nat} {x:Int×Int},ps[j]?=some x->(ic ps)[j*2]?=some (.int .i64 x.1)/\(ic ps)[j*2+1]?=some (.int .i64 x.2)
 |u::l,0,x,h=>by simp at h;subst h;simp[ic]
 |u::l,j+1,x,h=>by have:=E2 (ps:=l) (j:=j) (x:=x) xEE;(have e:ic (u::l)=[.int .i64 u.1,.int .i64 u.2]++ic l:=by simp[ic]);rw[e,eE cr,eE cr];simp only[dj,iW];rw[show(j+1)*2-(0+1+1)=j*2 from om,show(j+1)*2+1-(0+1+1)=j*2+1 from om];exact this
def Hg(w:aa)(A:bF)(ps:List (Int×Int)):Prop:=
 ∀(j:Nat) (x:Int×Int),ps[j]?=some x->∃b off,A=some ⟨b,off,none⟩/\b<w.1.size/\w.cell? (b,off+j*2)=some (.int .i64 x.1)/\w.cell? (b,off+j*2+1)=some (.int .i64 x.2)
def Hg.nil(w)(A):Hg w A []:=λj _ b=>absurd b aD
def Hg.below{ps:List (Int×Int)}(h:Hg w A ps)(hb:Below w.1.size w w'):Hg w' A ps:=λj x l=>by
 have⟨b,off,e,bE,h1,h2⟩:=h j x l;exact⟨b,off,e,bu bE hb.size,(hb.cell (p:=⟨b,off+j*2,none⟩) bE).trans h1,(hb.cell (p:=⟨b,off+j*2+1,none⟩) bE).trans h2⟩
class Is(w:World)(A:Option Addr)(n:Nat)(ps:outParam (List (Int×Int))):Prop where
 rd:Hg w A ps
 len:n=ps
variable{B:Nat}{ps:List (Int×Int)}
instance(priority:=low) Is.step[p:aj w' w][h:Is w A n ps]:Is w' A n ps:=⟨h.rd.below p.st,h.len⟩
def Is.get(h:Is w A n ps)(j:k<n):∃b off x y,A=some ⟨b,off,none⟩/\Old b w/\w.cell? (b,off+k*2)=some (.int .i64 x)/\w.cell? (b,off+k*2+1)=some (.int .i64 y)/\Hx (ps[k]?=some (x,y)):=by
 have e:ps[k]?=some (ps[k]'(by rw[<-h.len];exact j)):=a5 _;obtain⟨b,off,rfl,hb,l,m⟩:=h.rd k _ e;exact⟨b,off,_,_,rfl,⟨hb⟩,l,m,ae e⟩
def ce(w:aa)(B:Nat)(A:bF)(c:Nat)(ps:List (Int×Int)):Prop:=w.ownsRow B 98 2 (.slice A ps c) ps.length (ic ps)
def ce.nil(w)(B):ce w B none 0 []:=ER w B 98 2
def ce.form(h:ce w B A c ps):(A=none/\ps=[]/\c=0)\/∃g b,A=some ⟨g,0,none⟩/\B<=g/\w.heap[g]?=some (.cells b 98 (0,0))/\b.toList.take (ps.length*2)=ic ps:=by
 rcases h.2 with⟨hv,l⟩|⟨g,cap,b,hv,m,hg,u,hm,y,ht⟩;injection hv with e r j;exact .inl ⟨e,hB l,j⟩;injection hv with e r j;exact .inr ⟨g,b,e,m,hg,ht⟩
def ce.rd(h:ce w B A c ps):Hg w A ps:=by
 rcases h.form with⟨_,rfl,_⟩|⟨g,b,rfl,r,hg,ht⟩;exact Hg.nil _ _;intro j x e;have⟨a0,a1⟩:=E2 e;have l:=(a8.1 e).1;have look:∀k v,k<ps.length*2->(ic ps)[k]?=some v->w.cell? (g,k)=some v:=by intro k v m hv;rw[<-ht,eG,ah m]at hv;(have:b[k]?=some v:=by simpa using hv);simp[World.cell?,hg,this]
 refine⟨g,0,rfl,(dP.1 hg).1,?_,?_⟩;rw[cf];exact look _ _ om a0;rw[cf];exact look _ _ om a1
def ce.lt(h:ce w B A c ps):∀b,A=some b->b.block<w.1.size:=by
 rcases h.form with⟨rfl,_,_⟩|⟨g,e,rfl,j,hg,_⟩;intro b h;cases h;intro b h;cases h;exact(dP.1 hg).1
def ce.fresh(h:ce w B A c ps):∀b,A=some b->B<=b.block:=by
 rcases h.form with⟨rfl,_,_⟩|⟨g,e,rfl,j,hg,_⟩;intro b h;cases h;intro b h;cases h;exact j
def ce.same(h:ce w B A c ps)(j:∀b,A=some b->w'.heap[b.block]?=w.heap[b.block]?):ce w' B A c ps:=by
 refine⟨h.1,?_⟩;rcases h.2 with h|⟨g,cap,e,hv,l,hg,r⟩;exact .inl h;refine .inr ⟨g,cap,e,hv,l,?_,r⟩;injection hv with hv;rw[<-hg];exact j _ hv
def ce.at(h:ce w B A c ps)[l:aT w w']:ce w' B A c ps:=h.same λb e=>l.st.block _ (h.lt b e)
def ce.typ(h:ce w B A c ps):∀b,A=some b->∃cs e,w.heap[b.block]?=some (.cells cs 98 e):=by
 rcases h.form with⟨rfl,_,_⟩|⟨g,j,rfl,l,hg,_⟩;intro b h;cases h;intro b h;cases h;exact⟨_,_,hg⟩
def ce.aH(h:ce w B A c ps)(b:az w g T cs)(l:T≠98):∀j,A=some j->j.block≠g:=by
 intro j e hb;have⟨lW,fz,h1⟩:=h.typ j e;rw[hb]at h1;unfold az at b;rw[h1]at b;injection b with b;injection b with _ m;exact l m.symm
def xEz(h:Γ:=by simp[Value.oneCell']):=h
def xEA(h:Γ:=by unfold maxLen;omega):=h
def B3{rest:List Oper}{o:Oper}(G:o.guard=none)(s x:Operand)(t:TypeId)
  (P:o.op=.call {callee:=.builtin .append,args:= #[s,x],argTypes:= #[t,t]}) (ht:prog.underlying t=some (.slice 98))
  (hs:a.eval s=.slice A ps c) (b:ce w B A c ps) (y z:Int)
  (R:a.eval x=.slice w.1.size 1 1) (M:ps.length<=1000000000) (S:B<=w.1.size)
  (h:∀N O w',ce w' B N O (ps++[(y,z)])->Below B w w'->(∀k,k<w.1.size->(∀D,A=some D->D.block≠k)->w'.heap[k]?=w.heap[k]?)->
   wpList prog ops Q rest (a.put o.dst (.slice N (ps.length+1) O)) w'):
  wpList prog ops Q (o::rest) a (w.alloc (.cells #[y,z] 98)):=by
 have l:(prog.info? 98).map (λi=>(i.zero,i.size,i.bytes))=some (some (.agg #[an,an]),2,16):=ao;have⟨i,hi,eZ⟩:=bt.1 l;simp only[eP]at eZ;obtain⟨I,J,K⟩:=eZ;have m:ce (w.alloc (.cells #[y,z] 98)) B A c ps:=b.at
 refine tK (w.alloc (.cells #[y,z] 98)) G s x t P B 98 i _ 2 16 ht hi I J K rfl am _ _ _ hs m ⟨w.1.size,0,none⟩ 1 1 [.int .i64 y,.int .i64 z] R rfl
  (λj u hu=>?_) xEz xEA om cr ?_
 have T:j=0\/j=1:=by have:=(a8.1 hu).1;simp at this;omega
 rcases T with rfl|rfl;simp at hu;subst hu;simp[Addr.add,EM];simp at hu;subst hu;simp[Addr.add,EM];intro U w' r hg _ _;have V:(ps++[(y,z)]).length=ps.length+1:=aD;rcases r.2 with⟨hv,hn⟩|⟨g,cap,X,hv,Y,Z,EU,WT,JT,WU⟩;omega;have E:U=.slice g (ps.length+1) cap:=hv;rw[E];rw[E]at r;refine h _ _ _ ?_ ?_ ?_;unfold ce;rw[V,i7];exact r;refine((aV B w).alloc S _).grown hg cr ?_;intro k F;have:Value.ownBlock (.slice A ps c)=A.map (·.block):=by cases A<;>rfl
 rw[this]at F;obtain⟨D,C,rfl⟩:=bt.1 F;exact b.fresh D C;intro k F L;rw[hg.block k cr ?_,nj _ _ _ F];have:Value.ownBlock (.slice A ps c)=A.map (·.block):=by cases A<;>rfl
 rw[this];intro e;obtain⟨D,C,rfl⟩:=bt.1 e.symm;exact L D C rfl
end
variable{w:World}{c g k:Nat}{A:Option Addr}{zs:List Int}{z:Int}
variable{B:Nat}{E:TypeId}
def aB.addr(h:aB w B E A c zs)(b:0<zs.length):∃g,A=some ⟨g,0,none⟩/\B<=g/\g<w.1.size:=by
 rcases h.form with⟨_,rfl,_⟩|⟨g,e,rfl,j,hg,_⟩;simp at b;exact⟨g,rfl,j,(dP.1 hg).1⟩
def aB.frozen(h:aB w B E g c zs)(k):w.frozen? ⟨g,k,none⟩=false:=by
 rcases h.form with⟨b,_,_⟩|⟨l,j,e,m,hg,_⟩;cases b;cases e;simp[World.frozen?,hg]
def aB.cell(h:aB w B E g c zs)(b:zs[k]?=some z):w.cell? (g,k)=some (.int .i64 z):=by
 have:=h.rd.all b;rwa[cf]at this
def aB.av(h:aB w B E g c zs)(k:Nat)(z:Int):aB (w.setCell (g,k) z) B E g c (zs.set k z):=by
 rcases h.form with⟨j,_,_⟩|⟨u,b,e,l,hg,m,hm,r,ht⟩;cases j;cases e;refine⟨aD,.inr ⟨g,c,b.setIfInBounds k z,rfl,l,?_,by simpa using m,hm,by simpa using r,?_⟩⟩;simp[World.setCell,vf,hg];rw[fp,d3,tA,jJ,<-ht,List.take_set]
def y6(x)(j:0<x)(h:x<18446744073709551616):x<2^Lib.bitLen x/\2^Lib.bitLen x<=2*x:=by
 induction x using Nat.strongRecOn with
 |_ x b=>rw[Lib.bitLen_half x om h,tU,Nat.pow_succ];by_cases e:x=1;subst e;have:Lib.bitLen (1/2)=0:=rfl;rw[this];decide;have⟨i1,i2⟩:=b (x/2) om om om;omega
def kZ(i)(b:0<=i)(e:i<=255):Lib.len8 i=(Lib.bitLen i.toNat:Int)/\Lib.bitLen i.toNat<=8:=⟨Lib.len8_of i b e,Lib.bitLen_le8' i b e⟩
def xE5(h:Γ:=by go_in;go_wp2;go_ret;exact⟨bC (by have:=l.o;omega),rfl⟩):=h
def xEx(h:Γ:=by rw[e8,sh];omega):=h
def wI(x)(w)(y:0<=x)(z:x<=18446744073709551615):
  () 233 #[.int .u64 x] w λe w'=>e=.returned (Lib.bitLen x.toNat:Int)/\w=w':=by
 by_cases c0:x<256;obtain⟨i,hi⟩:=lg x;have b:0<=x:=om;have i1:x<=255:=om;have⟨e8,l8⟩:=kZ (x) b i1;have l:Hx (0+Lib.len8 (x)=(Lib.bitLen x.toNat:Int)):=ae (by rw[e8];omega);have r:0<=Lib.len8 (x):=om;have u:Lib.len8 (x)<=8:=om;have j:=λW=>Lib.run_index_len8tab (P:=prog) W 9 .u8 (x) underlying9 b i1;exact xE5;by_cases c1:x<65536;obtain⟨i,hi⟩:=lg (x/256);have b:0<=x/256:=om;have i1:x/256<=255:=om;have⟨e8,l8⟩:=kZ (x/256) b i1;have sh:=Lib.bitLen_shift8 x.toNat om om;have m:(x/256).toNat=x.toNat/256:=om;rw[m]at e8 l8;have l:Hx (8+Lib.len8 (x/256)=(Lib.bitLen x.toNat:Int)):=ae xEx;have r:0<=Lib.len8 (x/256):=om;have u:Lib.len8 (x/256)<=8:=om;have j:=λW=>Lib.run_index_len8tab (P:=prog) W 9 .u8 (x/256) underlying9 b i1;exact xE5;by_cases c2:x<16777216;obtain⟨i,hi⟩:=lg (x/65536);have b:0<=x/65536:=om;have i1:x/65536<=255:=om;have⟨e8,l8⟩:=kZ (x/65536) b i1;have sh:=Lib.bitLen_shift16 x.toNat om om;have m:(x/65536).toNat=x.toNat/65536:=om;rw[m]at e8 l8;have l:Hx (16+Lib.len8 (x/65536)=(Lib.bitLen x.toNat:Int)):=ae xEx;have r:0<=Lib.len8 (x/65536):=om;have u:Lib.len8 (x/65536)<=8:=om;have j:=λW=>Lib.run_index_len8tab (P:=prog) W 9 .u8 (x/65536) underlying9 b i1;exact xE5;by_cases c3:x<4294967296;obtain⟨i,hi⟩:=lg (x/65536/256);have b:0<=x/65536/256:=om;have i1:x/65536/256<=255:=om;have⟨e8,l8⟩:=kZ (x/65536/256) b i1;have sh:=Lib.bitLen_shift24 x.toNat om om;have m:(x/65536/256).toNat=x.toNat/16777216:=om;rw[m]at e8 l8;have l:Hx (24+Lib.len8 (x/65536/256)=(Lib.bitLen x.toNat:Int)):=ae xEx;have r:0<=Lib.len8 (x/65536/256):=om;have u:Lib.len8 (x/65536/256)<=8:=om;have j:=λW=>Lib.run_index_len8tab (P:=prog) W 9 .u8 (x/65536/256) underlying9 b i1;exact xE5;by_cases c4:x<1099511627776;obtain⟨i,hi⟩:=lg (x/4294967296);have b:0<=x/4294967296:=om;have i1:x/4294967296<=255:=om;have⟨e8,l8⟩:=kZ (x/4294967296) b i1;have sh:=Lib.bitLen_shift32 x.toNat om om;have m:(x/4294967296).toNat=x.toNat/4294967296:=om;rw[m]at e8 l8;have l:Hx (32+Lib.len8 (x/4294967296)=(Lib.bitLen x.toNat:Int)):=ae xEx;have r:0<=Lib.len8 (x/4294967296):=om;have u:Lib.len8 (x/4294967296)<=8:=om;have j:=λW=>Lib.run_index_len8tab (P:=prog) W 9 .u8 (x/4294967296) underlying9 b i1;exact xE5;by_cases B:x<281474976710656;obtain⟨i,hi⟩:=lg (x/4294967296/256);have b:0<=x/4294967296/256:=om;have i1:x/4294967296/256<=255:=om;have⟨e8,l8⟩:=kZ (x/4294967296/256) b i1;have sh:=Lib.bitLen_shift40 x.toNat om om;have m:(x/4294967296/256).toNat=x.toNat/1099511627776:=om;rw[m]at e8 l8;have l:Hx (40+Lib.len8 (x/4294967296/256)=(Lib.bitLen x.toNat:Int)):=ae xEx;have r:0<=Lib.len8 (x/4294967296/256):=om;have u:Lib.len8 (x/4294967296/256)<=8:=om;have j:=λW=>Lib.run_index_len8tab (P:=prog) W 9 .u8 (x/4294967296/256) underlying9 b i1;exact xE5;by_cases C:x<72057594037927936;obtain⟨i,hi⟩:=lg (x/4294967296/65536);have b:0<=x/4294967296/65536:=om;have i1:x/4294967296/65536<=255:=om;have⟨e8,l8⟩:=kZ (x/4294967296/65536) b i1;have sh:=Lib.bitLen_shift48 x.toNat om om;have m:(x/4294967296/65536).toNat=x.toNat/281474976710656:=om;rw[m]at e8 l8;have l:Hx (48+Lib.len8 (x/4294967296/65536)=(Lib.bitLen x.toNat:Int)):=ae xEx;have r:0<=Lib.len8 (x/4294967296/65536):=om;have u:Lib.len8 (x/4294967296/65536)<=8:=om;have j:=λW=>Lib.run_index_len8tab (P:=prog) W 9 .u8 (x/4294967296/65536) underlying9 b i1;exact xE5;obtain⟨i,hi⟩:=lg (x/4294967296/65536/256);have b:0<=x/4294967296/65536/256:=om;have i1:x/4294967296/65536/256<=255:=om;have⟨e8,l8⟩:=kZ (x/4294967296/65536/256) b i1;have sh:=Lib.bitLen_shift56 x.toNat om om;have m:(x/4294967296/65536/256).toNat=x.toNat/72057594037927936:=om;rw[m]at e8 l8;have l:Hx (56+Lib.len8 (x/4294967296/65536/256)=(Lib.bitLen x.toNat:Int)):=ae xEx;have r:0<=Lib.len8 (x/4294967296/65536/256):=om;have u:Lib.len8 (x/4294967296/65536/256)<=8:=om;have j:=λW=>Lib.run_index_len8tab (P:=prog) W 9 .u8 (x/4294967296/65536/256) underlying9 b i1;exact xE5
def aap(x:Int)(w:aa)(e:Ending)(w':aa):Prop:=∃s:Nat,e=.returned s/\w=w'/\s<=63/\9223372036854775808<=x*2^s/\x*2^s<=18446744073709551615
def J8(x)(w)(z:1<=x)(r:x<=18446744073709551615):() 264 #[.int .u64 x] w (aap x w):=by
 have hb:=y6 x.toNat om om;have u:Lib.bitLen x.toNat<=64:=by by_cases h:Lib.bitLen x.toNat<=64;exact h;have:2^65<=2^Lib.bitLen x.toNat:=Nat.pow_le_pow_right am om;omega
 have y:1<=Lib.bitLen x.toNat:=by by_cases h:1<=Lib.bitLen x.toNat;exact h;have e:Lib.bitLen x.toNat=0:=om;rw[e]at hb;omega
 have l:=ae hb;go_in;go_wp2_with fail;refine(wI x w om r).mono ?_;rintro e w' ⟨rfl,rfl⟩;generalize Lib.bitLen x.toNat=n at*;go_wp2;go_ret;refine⟨64-n,bC om,rfl,om,?_,?_⟩;have e:(2:Nat)^n*2^(64-n)=2^64:=by rw[<-Nat.pow_add];congr 1;omega
 have b:=cU (2^(64-n)) l.o.2;rw[e]at b;obtain⟨m,rfl⟩:=bJ (show 0<=x by omega);have j:((m:Int)*2^(64-n))=((m*2^(64-n):Nat):Int):=by rw[b8,tM];rfl
 rw[j];rw[aZ,tQ]at b;omega;have e:(2:Nat)^n*2^(64-n)=2^64:=by rw[<-Nat.pow_add];congr 1;omega
 have hp:0<2^(64-n):=Nat.two_pow_pos _;have b:=Nat.mul_lt_mul_of_pos_right l.o.1 hp;rw[e]at b;obtain⟨m,rfl⟩:=bJ (show 0<=x by omega);have j:((m:Int)*2^(64-n))=((m*2^(64-n):Nat):Int):=by rw[b8,tM];rfl
 rw[j];rw[aZ]at b;omega
variable{w':World}{b j n r:Nat}{T:TypeId}{x y:Int}
def n3:Nat->List Int->List Int
 |0,L=>L
 |j+1,L=>if L.getD (j+1) 0<L.getD j 0 then n3 j ((L.set (j+1) (L.getD j 0)).set j (L.getD (j+1) 0))else L
def po(L:au):Nat->List Int
 |0=>L
 |k+1=>n3 (k+1) (po L k)
def n4(L:au):List Int:=po L (L.length-1)
def y7:∀(j:Nat) (L:au),(n3 j L).length=L.length
 |0,_=>rfl
 |j+1,L=>by unfold n3;split;rw[y7 j];simp;rfl
def sK(L):∀k,(po L k).length=L.length
 |0=>rfl
 |k+1=>by rw[po,y7,sK L k]
def y8(L):(n4 L).length=L.length:=sK L _
def yv(x:Int):() 265 #[x] w (λe w'=>e=.returned (.bool false)/\w'=w):=by
 go_in;go_wp2;go_ret;exact⟨rfl,rfl⟩
def aB.hp(h:aB w B T A c zs)(e:w'.heap=w.heap):aB w' B T A c zs:=by
 unfold aB World.ownsRow at h⊢;rw[e];exact h
def E3(h:Below B w w')(q):Below B w (w'.drewN q):=⟨h.os,h.tape,h.output,h.size,h.block⟩
def M5(x y:Int):() 227 #[x,y] w (λe w'=>e=.returned (.bool (decide (x<y)))/\w'=w):=by
 go_in;go_wp2_with (go_at_call 265;refine(yv _).mono ?_;rintro e b ⟨rfl,rfl⟩);go_ret;exact⟨rfl,rfl⟩
def y9(w:aa)(B:Nat)(A:bF)(c:Nat)(zs:au)(e:Ending)(w':aa):Prop:=e=.returned (.tuple #[])/\aB w' B 3 A c zs/\Below B w w'
def On{L:au}(b:L[j+1]?=some x)(e:L[j]?=some y)(h:x<y):n3 (j+1) L=n3 j ((L.set (j+1) y).set j x):=by
 rw[n3,aQ,aQ,b,e,ah xEE];rfl
def Hh{L:au}(b:L[j+1]?=some x)(e:L[j]?=some y)(h:¬x<y):n3 (j+1) L=L:=by
 rw[n3,aQ,aQ,b,e,ag xEE]
def Oo(h:Hx (aB w B 3 A c zs))(J:B<=w.1.size)(K:n<=12)(E:Hx (zs.length=n)):() 267 #[(A,n,c),an,n] w (y9 w B A c (n4 zs)):=by
 go_in;go_wp2_with fail;go_loopw [6] (λi wr=>∃(k:Nat),k+1<=max n 1/\i=.int .i64 (k+1:Nat)/\Hx (aB wr B 3 A c (po zs k))/\Hx (Below B w wr)) (λi _=>n-(intOf i).toNat);case atStart=>exact⟨0,om,rfl,h,ae (aV _ _)⟩
 case round=>
  obtain⟨k,M,rfl,b,l⟩:=hrel;(have m:(po zs k).length=n:=by rw[sK];exact E.o);by_cases G:k+1<n
  .obtain⟨g,rfl,r,-⟩:=b.o.addr om;go_wp2_with fail;go_loopw [7] (λi F=>∃(j:Nat) (L:au),j<=k+1/\i=.int .i64 j/\Hx (aB F B 3 (some ⟨g,0,none⟩) c L)/\Hx (Below B w F)/\L.length=n/\Hx (n3 j L=po zs (k+1))) (λi _=>(intOf i).toNat);(case atStart=>exact⟨k+1,po zs k,al _,rfl,b,l,m,ae rfl⟩);case round=>
    obtain⟨j,L,N,rfl,b,l,hL,C⟩:=hrel;by_cases I:0<j
    .obtain⟨j,rfl⟩:∃i,j=i+1:=⟨j-1,om⟩;obtain⟨x,u⟩:∃x,L[j+1]?=some x:=⟨_,a5 om⟩;obtain⟨y,z⟩:∃x,L[j]?=some x:=⟨_,a5 om⟩;have c1:=b.o.cell u;have c2:=b.o.cell z;have f1:=b.o.frozen (j+1);have f2:=b.o.frozen j;change Hx _ at u z;(have i1:((j+1:Nat):Int)<(n:Int):=by omega);(have i2:(j:Int)<(n:Int):=by omega);go_wp2_with fail;go_quiet (first|(go_at_call 227;refine Calls.quiet_of_same (M5 _ _)));by_cases e:x<y
     .have d1:decide (x<y)=true:=by simpa using e
      have D:=ae e;go_wp2;go_region;(all_goals go_wp2);all_goals go_roundw;(case rel=>exact⟨j,(L.set (j+1) y).set j x,om,by go_num,ae (((b.o.hp (w':=wr.drewN (nq+1)) rfl).av (j+1) y).av j x),ae (((E3 l (nq+1)).setCell (p:=⟨g,j+1,none⟩) r y).setCell (p:=⟨g,j,none⟩) r (.int .i64 x)),by simpa using hL,ae (by rw[<-C.o,On u.o z.o D.o])⟩);case measure=>simp[intOf]
     have d1:decide (x<y)=false:=by simpa using e
     have D:=ae e;go_wp2;go_roundw;(case rel=>exact⟨k+1,om,by go_num,ae (by rw[<-C.o,Hh u.o z.o D.o];exact b.o.hp rfl),ae (E3 l nq)⟩);case measure=>exact nT
    obtain rfl:j=0:=om;go_wp2_with fail;go_quiet (first|(go_at_call 227;refine Calls.quiet_of_same (M5 _ _)));go_wp2;go_roundw;exact⟨k+1,om,by go_num,ae (by rw[<-C.o];exact b.o.hp rfl),ae (E3 l nq)⟩;simp[intOf];omega
  (have hs:n4 zs=po zs k:=by rw[n4,E.o,show n-1=k by omega]);go_wp2;exact⟨rfl,.tuple #[],by simp[results,results267,go_sem],rfl,by rw[hs];exact b.o,l⟩
def CX(x:Int)(w:aa)(b:0<=x)(j:x<=18446744073709551615):() 194 #[.int .u64 x] w λe w'=>e=.returned (Lib.bitLen x.toNat:Int)/\w'=w:=by
 go_in;go_wp2_with (go_at_call 233;refine(wI _ _ b j).mono ?_;rintro e l ⟨rfl,rfl⟩);go_ret;exact⟨rfl,rfl⟩
def aaq(h:Hx (aB w B 3 A c zs))(b:B<=w.1.size)(l:n<=12)(m:Hx (zs.length=n))(x):() 231 #[(A,n,c),an,n,x] w (y9 w B A c (n4 zs)):=by
 have r:decide ((n:Int)<=12)=true:=by simp;omega
 have u:(n:Int)-0=n:=by omega
 go_in;go_wp2;go_loopw [1,2] (λi j wr=>i=.int .i64 0/\j=.int .i64 n/\wr=w) (λ_ _ _=>0);exact⟨rfl,rfl,rfl⟩;obtain⟨rfl,rfl,rfl⟩:=hrel;go_wp2_with (go_at_call 267;refine(Oo h b l m).mono ?_;rintro e C ⟨rfl,y,z⟩);exact⟨rfl,.tuple #[],by simp[results,results231,go_sem],rfl,y,z⟩
def RL:∀n,n<=12->0<n->Lib.bitLen n=1\/Lib.bitLen n=2\/Lib.bitLen n=3\/Lib.bitLen n=4:=am
def J9:∀n,n<=12->(Lib.bitLen n<=2↔n<=3):=am
def qz(n:Nat):Nat->Nat->Nat
 |0,r=>r
 |k+1,r=>qz n k (if r+2^k<=n/(r+2^k)then r+2^k else r)
def t7(n:Nat):Nat:=qz n (if n<=3 then 1 else 2) 0
def za:Nat->Nat
 |0=>0
 |k+1=>2^k
def CY(e:n<=12):wrap64 ((n:Int)/((r:Int)+(b:Int)))=((n/(r+b):Nat):Int):=by
 rw[<-ee,<-ym];have:=tL n (r+b);generalize n/(r+b)=q at*;unfold wrap64;omega
def xEC(h:Γ:=by rw[hq];exact e):=h
def Oq(C:1<=n)(u:n<=12):() 142 #[n] w (aJ w (t7 n:Int)):=by
 obtain⟨b,hb⟩:=lh (Lib.bitLen n);have y:b=1\/b=2\/b=3\/b=4:=by rw[<-hb];exact RL n u C
 have D:(b<=2↔n<=3):=by rw[<-hb];exact J9 n u
 have E:=ae hb;go_in;rcases y with rfl|rfl|rfl|rfl;all_goals
  go_wp2_with (go_at_call 194;refine mv (CX _ _ om om) λI hu=>?_;obtain rfl:=hu.symm;rw[aZ,E.o]);go_loopw [3,4] (λi j wr=>∃(k r:Nat),k<=2/\r<=12/\i=.int .i64 r/\j=.int .i64 (za k)/\Hx (qz n k r=t7 n)/\wr=w) (λ_ j _=>(intOf j).toNat)
  .first|exact⟨1,0,om,om,rfl,rfl,ae (by rw[t7,ah om]),rfl⟩|exact⟨2,0,om,om,rfl,rfl,ae (by rw[t7,ag om]),rfl⟩
  obtain⟨k,r,J,hr,rfl,rfl,m,rfl⟩:=hrel;rcases k with _|_|_|k
  .go_wp2;go_ret;exact⟨by rw[<-m.o];rfl,aF⟩
  .have F:(za (0+1):Int)=1:=rfl;(have z:((r:Int)+1==0)=false:=by simp;omega);obtain⟨q,hq⟩:=lh (n/(r+1));(have G:wrap64 ((n:Int)/((r:Int)+1))=(q:Int):=by rw[<-hq];exact CY u);by_cases e:r+1<=q
   .have d1:decide ((r:Int)+1<=(q:Int))=true:=by simp;omega
    have l:Hx (qz n 0 (r+1)=t7 n/\r+1<=12):=ae ⟨by rw[<-m.o];show _=qz n 0 (if r+1<=n/(r+1)then r+1 else r);rw[ah xEC],by have:=tL n (r+1);omega⟩;go_wp2;go_roundw;exact⟨0,r+1,om,l.o.2,by go_num,rfl,ae l.o.1,bX⟩;simp[intOf,za]
   have d1:decide ((r:Int)+1<=(q:Int))=false:=by simp;omega
   have l:Hx (qz n 0 r=t7 n):=ae (by rw[<-m.o];show _=qz n 0 (if r+1<=n/(r+1)then r+1 else r);rw[ag xEC]);go_wp2;go_roundw;exact⟨0,r,om,om,rfl,rfl,l,bX⟩;simp[intOf,za]
  .have F:(za (0+1+1):Int)=2:=rfl;(have z:((r:Int)+2==0)=false:=by simp;omega);obtain⟨q,hq⟩:=lh (n/(r+2));(have G:wrap64 ((n:Int)/((r:Int)+2))=(q:Int):=by rw[<-hq];exact CY u);by_cases e:r+2<=q
   .have d1:decide ((r:Int)+2<=(q:Int))=true:=by simp;omega
    have l:Hx (qz n 1 (r+2)=t7 n/\r+2<=12):=ae ⟨by rw[<-m.o];show _=qz n 1 (if r+2<=n/(r+2)then r+2 else r);rw[ah xEC],by have:=tL n (r+2);omega⟩;go_wp2;go_roundw;exact⟨1,r+2,om,l.o.2,by go_num,rfl,ae l.o.1,bX⟩;simp[intOf,za]
   have d1:decide ((r:Int)+2<=(q:Int))=false:=by simp;omega
   have l:Hx (qz n 1 r=t7 n):=ae (by rw[<-m.o];show _=qz n 1 (if r+2<=n/(r+2)then r+2 else r);rw[ag xEC]);go_wp2;go_roundw;exact⟨1,r,om,om,rfl,rfl,l,bX⟩;simp[intOf,za]
  omega
def RM(h:Hx (aB w B 3 A c zs))(b:B<=w.1.size)(j:n<=12)(l:Hx (zs.length=n)):() 193 #[(A,n,c)] w (y9 w B A c (n4 zs)):=by
 go_in;go_wp2_with (first|(go_at_call 194;refine(CX _ _ om om).mono ?_;rintro e u ⟨rfl,rfl⟩)|(go_at_call 231;refine(aaq h b j l _).mono ?_;rintro e y ⟨rfl,m,r⟩));exact⟨rfl,.tuple #[],by simp[results,results193,go_sem],rfl,m,r⟩
variable{u:World}{R b2 c2 d i q:Nat}{v:Value}{T1 T2:TypeId}
class Cl(w:World)(g i:Nat)(v:outParam Value):Prop where
 eq:w.cell? (g,i)=some v
def oF(x y:Int):Int:=if x<y then-1 else if y<x then 1 else 0
section
variable{o:Nat}{ps:List (Int×Int)}{p:Bool}
def de(h:w.cell? (g,i)=some v):g<w.1.size:=by
 unfold World.cell? at h;cases hg:w.heap[g]? with
 |none=>rw[hg]at h;simp at h
 |some o=>exact(dP.1 hg).1
def cQ[h:Cl w g i v]:w.cell? (g,i)=some v:=h.eq
instance(priority:=low) Cl.step[p:aj w' w][h:Cl w g i v]:Cl w' g i v:=⟨(p.st.cell (p:=⟨g,i,none⟩) (de h.eq)).trans h.eq⟩
def xE9(h:Γ:=by go_wp2_with (go_at_call 265;refine(yv _).mono ?_;rintro e j ⟨rfl,rfl⟩);go_ret;exact bB):=h
def RN:() 254 #[x,y] w (aJ w (oF x y:Int)):=by
 go_in;unfold oF;by_cases b:x<y;rw[ah b];exact xE9;rw[ag b];by_cases l:y<x;rw[ah l];exact xE9;rw[ag l];exact xE9
def RO(h:x<y):oF x y= -1:=ah h
def RP(h:¬x<y):0<=oF x y:=by unfold oF;rw[ag h];split<;>decide
def Ka:(oF x y==0)=decide (x=y):=by
 unfold oF;split;rename_i h;simp;omega;split;simp;omega;simp;omega
def aar[Bx w R T1 #[.pointer (some ⟨g,o,none⟩)]][Bx w b2 T2 #[y]][b:Cl w g o (q,1,c)][j:Cl w q 0 (r,n,c2)][l:Cl w r 0 x](B:0<n):
  () 253 #[an,.pointer R,.pointer b2] w (aJ w (.bool (decide (0<oF x y)))):=by
 obtain⟨C,D⟩:=kU;have E:=@cQ;have o1:Old g w:=⟨de b.eq⟩;have F:Old q w:=⟨de j.eq⟩;have G:Old r w:=⟨de l.eq⟩;go_in;go_upto_region 1 with fail;refine aw ao (λm _=>?_);refine qL [0,1,2,3,4,5,6,7,8,9,10] ?_;refine aK 11 λK hK=>?_;go_simp;refine(RN).mono ?_;rintro e m ⟨rfl,_⟩;dsimp only;refine aG hK ?_;refine qL [12,13] ?_;refine a9 ?_;go_wp2_with fail;go_ret;exact bB
def Kb:() 256 #[.agg #[x,z],y] w (aJ w (oF x y:Int)):=by
 have b:=@ay;go_in;go_wp2_with (go_at_call 254;(try refine ey (λu _ _=>?_));refine RN.mono ?_;rintro e u ⟨rfl,_⟩);go_ret;exact bB
def RQ:() 252 #[an,v] w (aJ w an):=by
 go_in;go_wp2_with fail;go_loopw [5,6] (λi j wr=>i=.int .i64 0/\j=.int .i64 0/\aj wr w) (λ_ _ _=>0);case atStart=>exact⟨rfl,rfl,aF⟩
 case round=>obtain⟨rfl,rfl,hp⟩:=hrel;go_wp2_with fail;go_ret;exact bB
def xEI(h:Γ:=by have:=hr.o;have:=l.o;simp at*;omega):=h
def M6{D E:Value}{r:Nat}(hr:Hx (r=if p=true then 0 else 1))(F:Hx (∀(u:aa) (i:Nat),Hx (i=0)->aj u w->() 253 #[.int .i64 (i:Int),D,E] u (aJ u (.bool p)))):
  () 252 #[(1:Int),.func (.func 253) #[] #[D,E]] w (aJ w (r:Int)):=by
 have L:∀args w,(callFunc 253 args).run prog w=.ok (.enter 253 args) w:=enters_of func253 ao rfl;go_in;go_wp2_with fail;go_loopw [5,6] (λi j wr=>∃a b:Nat,i=.int .i64 (a:Int)/\j=.int .i64 (b:Int)/\a<=b/\b<=1/\aj wr w/\Hx (a<b\/(a=r/\b=r))) (λi j _=>(intOf j-intOf i).toNat);case atStart=>exact⟨0,1,rfl,rfl,am,al _,aF,ae (.inl am)⟩
 case round=>
  obtain⟨a,b,rfl,rfl,G,B,hp,e⟩:=hrel;by_cases I:a<b
  .obtain⟨m,hm⟩:=lg ((a+b)/2:Nat);(have J:((a:Int)+(b:Int))/2=(m:Int):=by omega);have l:Hx (m=0):=ae om;have C:a<=m:=om;have K:m<b:=om;clear hm;rcases p with _|_
   .go_wp2_with (go_at_call 253;refine mv (F.o _ _ l (aF)) λu _=>?_);go_roundw;(case rel=>exact⟨m+1,b,by go_num,rfl,om,B,aF,ae (.inr xEI)⟩);case measure=>exact nT
   go_wp2_with (go_at_call 253;refine mv (F.o _ _ l (aF)) λu _=>?_);go_roundw;(case rel=>exact⟨a,m,rfl,rfl,C,om,aF,ae (.inr xEI)⟩);case measure=>exact nT
  obtain rfl:a=b:=om;(obtain rfl:a=r:=by have:=e.o;omega);clear e hr;go_wp2_with fail;go_ret;exact bB
def xEL(h:Γ:=by simpa using b):=h
def M7:∀{ps:Tb} {i:Nat},i<=ps.length->(∀t e,t<i->ps[t]?=some e->e.1<y)->(∀t e,i<=t->ps[t]?=some e->y<=e.1)->hX ps y=i
 |[],i,h,_,_=>by simp at h;subst h;rfl
 |a::t,0,_,_,h2=>by unfold hX;rw[ya];intro e b;obtain⟨j,l⟩:=eN b;simpa using h2 j e (aM _) l
 |a::t,i+1,h,h1,h2=>by rw[pm (h1 0 a (tO _) rfl),M7 (ps:=t) (i:=i) xEE (λj e l b=>h1 (j+1) e om xEL) (λj e l b=>h2 (j+1) e om xEL)]
def Hi(hr:hZ ps){i:Nat}{a b:Int×Int}(h:i<j)(e:ps[i]?=some a)(hb:ps[j]?=some b):a.1<b.1:=by
 obtain⟨l,rfl⟩:=a8.1 e;obtain⟨m,rfl⟩:=a8.1 hb;exact(nS.1 hr) i j l m h
def Ot(hr:hZ ps):iF ps y=(match ps[hX ps y]? with|some e=>decide (e.1=y)|none=>false):=by
 cases h:iF ps y with
 |true=>obtain⟨z,b⟩:=mq.1 h;rw[oE hr b];simp
 |false=>
  have j:=vk.1 h;cases l:ps[hX ps y]? with
  |none=>rfl
  |some e=>have:e.1≠y:=λm=>j e.2 (by rw[<-m];exact aC l);simpa using this
def abv[a:Is w A n ps](hr:Hx (hZ ps))(hn:n<=100000){b:Bool}(P:Hx (hX ps y=j))(hb:Hx (iF ps y=b)):
  () 255 #[(A,n,c),y,.func (.func 256) #[] #[]] w (aJ w (.tuple #[j,.bool b])):=by
 have CP:=@bW;have G:Hx (n=ps.length):=ae a.len;have EG:∀args w,(callFunc 256 args).run prog w=.ok (.enter 256 args) w:=enters_of func256 ao rfl;go_in;go_wp2_with fail;go_loopw [9,10] (λs t wr=>∃lo hi:Nat,lo<=hi/\hi<=n/\s=.int .i64 (lo:Int)/\t=.int .i64 (hi:Int)/\Hx (∀t e,t<lo->ps[t]?=some e->e.1<y)/\Hx (∀t e,hi<=t->ps[t]?=some e->y<=e.1)/\aj wr w) (λs t _=>(intOf t-intOf s).toNat);case atStart=>exact⟨0,n,aM _,al _,rfl,rfl,ae (λt e h=>absurd h (lL _)),ae (λt e h Q=>by have:=(a8.1 Q).1;have:=G.o;omega),aF⟩
 case round=>
  obtain⟨lo,hi,S,E,rfl,rfl,N,O,hp⟩:=hrel;by_cases T:lo<hi
  .obtain⟨m,hm⟩:=lg ((lo+hi)/2:Nat);obtain⟨U,q0,x,z,rfl,ob,V,X,D⟩:=a.get (k:=m) om;(have Y:((lo:Int)+(hi:Int))/2=(m:Int):=by omega);have I:lo<=m:=om;have Z:m<hi:=om;clear hm;by_cases J:x<y
   .have K:Hx (∀t e,t<m+1->ps[t]?=some e->e.1<y):=ae λt e ht C=>by by_cases h:t=m;subst h;rw[D.o]at C;obtain rfl:=cH C;exact J;have:=Hi hr.o (show t<m by omega) C D.o;dsimp only at this;omega
    have hc:=RO J;go_wp2_with (go_at_fn 256;refine Kb.mono ?_;rintro e u ⟨rfl,_⟩);go_roundw;(case rel=>exact⟨m+1,hi,om,E,by go_num,rfl,K,O,aF⟩);case measure=>exact nT
   have K:Hx (∀t e,m<=t->ps[t]?=some e->y<=e.1):=ae λt e ht C=>by by_cases h:t=m;subst h;rw[D.o]at C;obtain rfl:=Option.some.inj C;dsimp only;omega;have:=Hi hr.o (show m<t by omega) D.o C;dsimp only at this;omega
   have hc:=RP J;(have E4:decide (oF x y<0)=false:=by simp;omega);go_wp2_with (go_at_fn 256;refine Kb.mono ?_;rintro e u ⟨rfl,_⟩);go_roundw;(case rel=>exact⟨lo,m,I,om,rfl,rfl,N,K,aF⟩);case measure=>exact nT
  obtain rfl:lo=hi:=om;have B:hX ps y=lo:=M7 (by rw[<-G.o];exact E) N.o O.o;(obtain rfl:lo=j:=by rw[<-P.o,B]);(have l:iF ps y=(match ps[lo]? with|some e=>decide (e.1=y)|none=>false):=by have:=Ot (y:=y) hr.o;rwa[B]at this);rw[hb.o]at l;by_cases F:lo<n
  .obtain⟨U,q0,x,z,rfl,ob,V,X,D⟩:=a.get (k:=lo) F;rw[D.o]at l;have L:Hx ((oF x y==0)=b):=ae (by rw[Ka];exact l.symm);(have d1:decide ((lo:Int)<(n:Int))=true:=by simpa using F);clear l B;go_wp2_with (go_at_fn 256;refine Kb.mono ?_;rintro e u ⟨rfl,_⟩);go_ret2;exact⟨by rw[<-L.o];rfl,aF⟩
  have M:ps[lo]?=none:=fc (by have:=G.o;omega);rw[M]at l;subst l;(have d1:decide ((lo:Int)<(n:Int))=false:=by simp;omega);clear B;go_wp2_with fail;go_ret2;exact bB
end
section
variable{P:Program}{m off:Nat}{vs:List Value}{cur:Array Value}{ops:Array Oper}{a:Act}{K:Act->World->Prop}{Q:Exit->Act->World->Prop}
section
variable{o:Nat}{us cs:List Value}{z:Value}
def kN{a:Nat}(h:a<=b):Nat.min a b=a:=dQ h
def lX{a:Nat}(h:b<=a):Nat.min a b=b:=WR h
def bV(hg:w.heap[g]?=some (.cells cur E (0,0)))(X):(w.setRow g X).heap[g]?=some (.cells X E (0,0)):=setRow_heap w g cur X E (0,0) hg
def bk(hb:b≠g)(X):(w.setRow g X).heap[b]?=w.heap[b]?:=by
 rw[World.setRow,vf,ag (dO hb)]
def size_setRow(X):(w.setRow g X).1.size=w.1.size:=by simp[World.setRow]
def ep(_:g<w.1.size)(X):dm g (some ⟨g,0,none⟩) w (w.setRow g X):=
 ⟨⟨rfl,rfl,rfl,by rw[size_setRow];exact al _,λb hb=>absurd hb (lL _)⟩,by rw[size_setRow];exact al _,λb _ j=>bk (λe=>j _ rfl (by rw[e])) X,λl e=>.inl ⟨_,rfl,by injection e with e;rw[<-e]⟩⟩
def fI(D F G)(b l)(a)(e r)(hu:P.underlying D=some (.slice E))(hs:(P.info? E).map (·.size)=some k)
  (hg:w.heap[g]?=some (.cells cur E (0,0))) (I:cs.length=Nat.min e b*k)
  (u:∀j v,cs[j]?=some v->w.cell? (a.add j)=some v) (y:o+cs.length<=cur.size) (J:∀v∈cs,v.oneCell'=true):
  (Builtin.copy_ #[D,F] G #[.slice (some ⟨g,o,none⟩) b l,.slice (some a) e r]).run P w=
   .ok (goInt (Nat.min e b)) (w.setRow g (cur.toList.take o++cs++cur.toList.drop (o+cs.length)).toArray):=by
 have K:=run_loadCells_list (P:=P) w a cs u;have C:=EQ P g o E cs 0 cur w hg (by simpa using y) J;cases hq:P.info? E with
 |none=>simp[hq]at hs
 |some i=>(have hi:i.size=k:=by simpa[hq]using hs);simp[Builtin.copy_,gF hu,Builtin.lenOf,Builtin.firstCells,sizeOf,typeInfo,hq,hi,<-I,K,C]
def nt(t j)(ht:P.underlying t=some (.slice E))(hv:∀w,(zeroValue E).run P w=.ok z w)(l:(Builtin.zeroCells z.cells n).toList=us)(r:∀v∈us,v.oneCell'=true)(u:0<n){cap:Nat}
  (hg:w.heap[g]?=some (.cells cur E (0,0))) (b:o+us.length<=cur.size):
  (Builtin.clear_ #[t] j #[.slice (some ⟨g,o,none⟩) n cap]).run P w=.ok (.tuple #[]) (w.setRow g (cur.toList.take o++us++cur.toList.drop (o+us.length)).toArray):=by
 have e:=EQ P g o E us 0 cur w hg xEL r;obtain⟨m,rfl⟩:∃m,n=m+1:=⟨n-1,om⟩;simp[Builtin.clear_,gF ht,hv,l,e]
def Ou{L:j7}{a:Nat}(h:a<=n)(hL:cur.toList.take (n*k)=L):cur.toList.take (a*k)=L.take (a*k):=by
 rw[<-hL,fd,dQ (cU k h)]
def xEG(h:Γ:=by rw[bh,bO,r,b,y,dQ (cU k (fq hi))];omega):=h
def sL(h:aU w B E k g c n vs)(hi:i<n)(t M)(ht:P.underlying t=some (.slice E))(hs:(P.info? E).map (·.size)=some k)(Q:∀v∈vs,v.oneCell'=true)(S:i+1<n->off=(i+1)*k):
  ∃X,(Builtin.append_ #[t,t] M #[(g,i,c),.slice (some ⟨g,off,none⟩) (n-(i+1)) (c-(i+1))]).run P w=.ok (.slice g (n-1) c) (w.setRow g X)/\
   X.size=c*k/\X.toList.take ((n-1)*k)=vs.take (i*k)++vs.drop ((i+1)*k):=by
 rcases h.form with⟨D,_⟩|⟨T,cur,e,U,hg,V,hm,N,hv⟩;cases D;cases e;obtain⟨O,F,b⟩:=bt.1 hs;have y:vs.length=n*k:=h.1;have r:(vs.drop ((i+1)*k)).length=(n-(i+1))*O.size:=by rw[b,eo,y,Nat.sub_mul]
 have G:i*k+(n-(i+1))*k=(n-1)*k:=by rw[<-hx];congr 1;omega
 have I:(n-1)*k<=c*k:=cU k om;have R:=run_append_room (P:=P) w t M E O ht F g i c cur hg ⟨g,off,none⟩ (n-(i+1)) (c-(i+1)) (vs.drop ((i+1)*k)) r (λj u J=>by
  have C:=(a8.1 J).1;rw[r,b]at C;have K:i+1<n:=by
   refine Eo λY=>?_;rw[show n-(i+1)=0 from om,e6]at C;exact absurd C (lL _)
  rw[fb]at J;have⟨g2,L,kn⟩:=h.cell J;injection L with L;cases L
  rw[S K,show(Addr.add ⟨g,(i+1)*k,none⟩ j)=⟨g,(i+1)*k+j,none⟩from by by_cases D:j=0<;>simp[Addr.add,D]];exact kn) (λu hu=>Q u (dA hu)) om (by rw[r,b,N,G];exact I)
 rw[show i+(n-(i+1))=n-1 by omega]at R;rw[b]at R;refine⟨_,R,?_,?_⟩;have Z:i*k<=c*k:=cU k om;rw[b]at r;rw[ij,bh,bh,bO,eo (l:=cur.toList),iC,N,r];omega;rw[Ou (fq hi) hv];rw[fa xEG];rw[bY xEG]
def aU.whole(h:aU w B E k g c n vs):∃cur,w.heap[g]?=some (.cells cur E (0,0))/\B<=g/\n<=c/\c<=maxLen/\cur.size=c*k/\cur.toList.take (n*k)=vs/\g<w.1.size:=by
 rcases h.form with⟨j,_⟩|⟨y,cur,e,l,hg,r,b,u,hv⟩;cases j;cases e;exact⟨cur,hg,l,r,b,u,hv,(dP.1 hg).1⟩
def sM(h:aU w B E k A c n vs)(t K)(ht:P.underlying t=some (.slice E))(bytes)(l:(P.info? E).map (λi=>(i.zero,i.size,i.bytes))=some (some z,k,bytes))(C:z.cells.size=k)(L:0<k)(D:bytes<=1000)
   (hb:az w j E us.toArray) (O:us.length=k) (Q:∀u∈us,u.oneCell'=true) (hn:n<=100000000) (R:B<=w.1.size):
  ∃F M w',(Builtin.append_ #[t,t] K #[(A,n,c),(j,1,1)]).run P w=.ok (.slice F (n+1) M) w'/\aU w' B E k F M (n+1) (vs++us)/\dm A F w w':=by
 have⟨i,hi,eZ⟩:=bt.1 l;simp only[eP]at eZ;have⟨hJ,hH,jM⟩:=eZ;have G:(n+1)*bytes<=140737488355328:=by have:=fS (n+1) D;omega
 obtain⟨Z,w',hr,r,hg,-,y⟩:=xW (P:=P) w B t K E i z k bytes ht hi hJ hH jM C L _ _ _ h ⟨j,0,none⟩ 1 1 us (by rw[O];omega)
  (λaa u hu=>by
   have e:(⟨j,0,none⟩:Addr).add aa=⟨j,aa,none⟩:=by rw[cn,cf]
   rw[e,hb.cell aa];simpa using hu) Q xEA G R
 rcases r.2 with⟨hv,h0⟩|⟨g,cap,cur,hv,S,T,U,V,X,Y⟩;omega;rw[hv]at r y hr;refine⟨_,_,w',hr,r,?_,hg.size,λb hb I=>?_,λN e=>?_⟩;exact(aV 0 w).grown hg om (λk L=>aM _);rw[hg.block b hb ?_];rw[c5];intro e;obtain⟨N,J,rfl⟩:=bt.1 e.symm;exact I N J rfl;injection e with e;subst e;rw[c5,c5]at y;rcases y with hn|hn;have⟨ad0,h3,h4⟩:=bt.1 hn.symm;exact .inl ⟨ad0,h3,h4.symm⟩;right;simp at hn;show w.1.size<=g;omega
def xEa(h:Γ:=by (have y:Region.wanted o (yielded ops a.tmps)=true:=by simp[Region.wanted,hg]);rw[ah y];unfold Oper.wp;simp[execOp,b,resolve,invoke,builtin,hd,r,hr,Result.andThen];exact hK):=h
def n5{o:Oper}{w:aa}{E:Prop}
  (hg:o.guard=none) (d x) (e j) (b:o.op=Op.call {callee:=Callee.builtin Builtin.append,args:= #[d,x],argTypes:= #[e,j]})
  (v u) (hd:a.eval d=v) (r:a.eval x=u) {l:Value}  (hr:(Builtin.append_ #[e,j] o.type #[v,u]).run P w=.ok l w') (hK:K (a.put o.dst l) w'):
  if Region.wanted o (yielded ops a.tmps)=true then Oper.wp P o a w K Q else E:=by
 exact xEa
def d7{o:Oper}{w:aa}{E:Prop}
  (hg:o.guard=none) (d x) (e j) (b:o.op=Op.call {callee:=Callee.builtin Builtin.copy,args:= #[d,x],argTypes:= #[e,j]})
  (v u) (hd:a.eval d=v) (r:a.eval x=u) {l:Value}  (hr:(Builtin.copy_ #[e,j] o.type #[v,u]).run P w=.ok l w') (hK:K (a.put o.dst l) w'):
  if Region.wanted o (yielded ops a.tmps)=true then Oper.wp P o a w K Q else E:=by
 exact xEa
def hk(w){rest:List Oper}{o:Oper}(b:o.guard=none)(d s)(t e)
  (l:o.op=.call {callee:=.builtin .copy,args:= #[d,s],argTypes:= #[t,e]}) (v u) (hd:a.eval d=v) (hs:a.eval s=u) {j:Value} 
  (hr:(Builtin.copy_ #[t,e] o.type #[v,u]).run P w=.ok j w') (h:wpList P ops Q rest (a.put o.dst j) w'):wpList P ops Q (o::rest) a w:=
 wpList_plain b λ_ hK=>by
 unfold Oper.wp execOp;simp only[l,resolve,invoke,builtin,x8,xZ,xR,xO,di,jz,hd,hs,hr];exact hK _ _ h
end
end
variable{vs:List Value}
def xEy(h:Γ:=by simp[C.o];omega):=h
def xE4(h:Γ:=by
 go_wp2_with fail;go_ret;refine⟨rfl,?_,?_⟩
 .refine .mk' hB (bV V _) om hm xEy ?_;first|(rw[fa xEy,fa xEy,fd,lP,N.o];done)|(rw[fa xEy,fd,lP,N.o];done)|(have L:=N.o;simp only[fp]at L⊢;rw[fa xEy,fd,lP,L])
 exact((dm.refl _ w).drew.trans (ep (w:=w.drew) D X)).trans (ep (by rw[size_setRow];exact D) _)):=h
def xE6(h:Γ:=by (have e:((i:Int)+1).toNat=i+1:=by omega);by_cases M:c=i+1;simp[Result.andThen,sliced,e,M];simp[Result.andThen,sliced,e,M,cn]):=h
def xEb(h:Γ:=by have M:¬c=n-1:=om;have h2:n-(n-1)=1:=om;simp[Result.andThen,sliced,M,h2,cn]):=h
def xEg(h:Γ:=by obtain⟨S,G,r⟩:=bt.1 b;rw[G];simp at r;simp[r]):=h
def xEv(h:Γ:=by simp[Act.eval,Act.put]):=h
def xEw(h:Γ:=by first|rfl|(simp[Builtin.zeroCells,Value.cells];try rfl)):=h
def xEH(h:Γ:=by rw[C.o];simp;omega):=h
def aas(h:aU w B 308 2 (some ⟨g,0,none⟩) c n vs)(Q:∀v∈vs,v.oneCell'=true)(R:x=(i:Int))(Y:y=(i:Int)+1)(hi:i<n)(hn:n<=16777216):
  () 257 #[(g,n,c),x,y] w λe w'=>e=.returned (.slice g (n-1) c)/\aU w' B 308 2 (some ⟨g,0,none⟩) c (n-1) (vs.take (i*2)++vs.drop ((i+1)*2))/\dm g (some ⟨g,0,none⟩) w w':=by
 subst R Y;obtain⟨Z,hg,hB,hl,hm,hc,ht,D⟩:=h.whole;have b:(prog.info? 308).map (λi=>(i.zero,i.size,i.bytes))=some (some (.agg #[an,an]),2,16):=ao;have F:(prog.info? 308).map (·.size)=some 2:=xEg;have j:∀W,(sizeOf (prog.elem 309)).run prog W=.ok 2 W:=λW=>by obtain⟨S,G,r⟩:=bt.1 (show(prog.info? (prog.elem 309)).map (·.size)=some 2 from by kernel_rfl);simp[sizeOf,typeInfo,G,r]
 have l:prog.underlying 309=some (.slice (prog.elem 309)):=ao;obtain⟨T,ko⟩:∃T,∀W,(Instr.slice 309 (g,n,c) (some (.int .i64 (i:Int))) (some (.int .i64 ((i:Int)+1))) (some (.int .i64 (n:Int)))).run prog W=.ok T W:=by refine⟨sliced g ((i:Int)).toNat ((i:Int)+1).toNat ((n:Int)).toNat 2,λW=>?_⟩;rw[yt W 309 (some ⟨g,0,none⟩) n c l .i64 .i64 .i64 i ((i:Int)+1) n om om om om,j];rfl
 obtain⟨off,u⟩:=lg (if c=i+1 then 0 else(i+1)*2:Nat);have zb:∀W,(Instr.slice 309 (g,n,c) none (some (.int .i64 (i:Int))) none).run prog W=.ok (.slice g i c) W:=λW=>by rw[lU W 309 (some ⟨g,0,none⟩) n c l .i64 i om om,j];simp[Result.andThen,sliced,Addr.add]
 have Ov:∀W,(Instr.slice 309 (g,n,c) (some (.int .i64 ((i:Int)+1))) none none).run prog W=.ok (.slice (some ⟨g,off,none⟩) (n-(i+1)) (c-(i+1))) W:=λW=>by rw[dN W 309 (some ⟨g,0,none⟩) n c l .i64 ((i:Int)+1) om om,j,u];exact xE6
 have t8:∀W,(Instr.slice 309 (.slice g (n-1) c) (some (.int .i64 ((n-1:Nat):Int))) (some (.int .i64 (n:Int))) none).run prog W=.ok (.slice (some ⟨g,(n-1)*2,none⟩) 1 (c-(n-1))) W:=λW=>by rw[kJ W 309 (some ⟨g,0,none⟩) (n-1) c l .i64 .i64 ((n-1:Nat):Int) n om om om,j];exact xEb
 have m:i+1<n->off=(i+1)*2:=λR=>by rw[u,ag om]
 have U:∀(W:aa),W.heap=w.heap->∀I,∃X,(Builtin.append_ #[309,309] I #[.slice g i c,.slice (some ⟨g,off,none⟩) (n-(i+1)) (c-(i+1))]).run prog W=.ok (.slice g (n-1) c) (W.setRow g X)/\X.size=c*2/\X.toList.take ((n-1)*2)=vs.take (i*2)++vs.drop ((i+1)*2):=λW hW I=>
  sL (B:=B) (k:=2) (h.same λad _=>by rw[hW]) hi 309 I ao F Q m
 have js:((i:Int)==(i:Int)+1)=false:=by simp;omega
 have HR:=ae U;have HI:=ae b;have mixed:prog.follows .mixedOrders=true:=ao;clear u m U b F hc ht Q h l j;go_in;go_upto_region 5 with fail;obtain⟨X,hX,J,K⟩:=HR.o w.drew rfl 309;have V:=bV (w:=w.drew) hg X;have N:=ae K;have C:=ae J;clear K J;go_region_law_o (refine n5 rfl _ _ 309 309 rfl _ _ xEv xEv hX ?_);have h4:(n-1)*2+2=n*2:=om;have O:=λI=>nt (P:=prog) (w:=w.drew.setRow g X) (E:=308) (z:=.agg #[an,an]) (n:=1) (us:=[.int .i64 0,.int .i64 0]) (o:=(n-1)*2) 309 I ao (λW=>by obtain⟨S,G,r⟩:=bt.1 HI.o;simp at r;simp[zeroValue,typeInfo,G,r]) xEw xEz am (cap:=c-(n-1)) V xEH;try simp only[fp]at O
 exact xE4
def aat(h:aU w B 311 3 (some ⟨g,0,none⟩) c n vs)(Q:∀v∈vs,v.oneCell'=true)(R:x=(i:Int))(Y:y=(i:Int)+1)(hi:i<n)(hn:n<=16777216):
  () 208 #[(g,n,c),x,y] w λe w'=>e=.returned (.slice g (n-1) c)/\aU w' B 311 3 (some ⟨g,0,none⟩) c (n-1) (vs.take (i*3)++vs.drop ((i+1)*3))/\dm g (some ⟨g,0,none⟩) w w':=by
 subst R Y;obtain⟨Z,hg,hB,hl,hm,hc,ht,D⟩:=h.whole;have b:(prog.info? 311).map (λi=>(i.zero,i.size,i.bytes))=some (some (.agg #[an,an,an]),3,24):=ao;have F:(prog.info? 311).map (·.size)=some 3:=xEg;have j:∀W,(sizeOf (prog.elem 194)).run prog W=.ok 3 W:=λW=>by obtain⟨S,G,r⟩:=bt.1 (show(prog.info? (prog.elem 194)).map (·.size)=some 3 from by kernel_rfl);simp[sizeOf,typeInfo,G,r]
 have l:prog.underlying 194=some (.slice (prog.elem 194)):=ao;obtain⟨T,ko⟩:∃T,∀W,(Instr.slice 194 (g,n,c) (some (.int .i64 (i:Int))) (some (.int .i64 ((i:Int)+1))) (some (.int .i64 (n:Int)))).run prog W=.ok T W:=by refine⟨sliced g ((i:Int)).toNat ((i:Int)+1).toNat ((n:Int)).toNat 3,λW=>?_⟩;rw[yt W 194 (some ⟨g,0,none⟩) n c l .i64 .i64 .i64 i ((i:Int)+1) n om om om om,j];rfl
 obtain⟨off,u⟩:=lg (if c=i+1 then 0 else(i+1)*3:Nat);have zb:∀W,(Instr.slice 194 (g,n,c) none (some (.int .i64 (i:Int))) none).run prog W=.ok (.slice g i c) W:=λW=>by rw[lU W 194 (some ⟨g,0,none⟩) n c l .i64 i om om,j];simp[Result.andThen,sliced,Addr.add]
 have Ov:∀W,(Instr.slice 194 (g,n,c) (some (.int .i64 ((i:Int)+1))) none none).run prog W=.ok (.slice (some ⟨g,off,none⟩) (n-(i+1)) (c-(i+1))) W:=λW=>by rw[dN W 194 (some ⟨g,0,none⟩) n c l .i64 ((i:Int)+1) om om,j,u];exact xE6
 have t8:∀W,(Instr.slice 194 (.slice g (n-1) c) (some (.int .i64 ((n-1:Nat):Int))) (some (.int .i64 (n:Int))) none).run prog W=.ok (.slice (some ⟨g,(n-1)*3,none⟩) 1 (c-(n-1))) W:=λW=>by rw[kJ W 194 (some ⟨g,0,none⟩) (n-1) c l .i64 .i64 ((n-1:Nat):Int) n om om om,j];exact xEb
 have m:i+1<n->off=(i+1)*3:=λR=>by rw[u,ag om]
 have U:∀(W:aa),W.heap=w.heap->∀I,∃X,(Builtin.append_ #[194,194] I #[.slice g i c,.slice (some ⟨g,off,none⟩) (n-(i+1)) (c-(i+1))]).run prog W=.ok (.slice g (n-1) c) (W.setRow g X)/\X.size=c*3/\X.toList.take ((n-1)*3)=vs.take (i*3)++vs.drop ((i+1)*3):=λW hW I=>
  sL (B:=B) (k:=3) (h.same λad _=>by rw[hW]) hi 194 I ao F Q m
 have js:((i:Int)==(i:Int)+1)=false:=by simp;omega
 have HR:=ae U;have HI:=ae b;have mixed:prog.follows .mixedOrders=true:=ao;clear u m U b F hc ht Q h l j;go_in;go_upto_region 5 with fail;obtain⟨X,hX,J,K⟩:=HR.o w.drew rfl 194;have V:=bV (w:=w.drew) hg X;have N:=ae K;have C:=ae J;clear K J;go_region_law_o (refine n5 rfl _ _ 194 194 rfl _ _ xEv xEv hX ?_);have h4:(n-1)*3+3=n*3:=om;have O:=λI=>nt (P:=prog) (w:=w.drew.setRow g X) (E:=311) (z:=.agg #[an,an,an]) (n:=1) (us:=[.int .i64 0,.int .i64 0,.int .i64 0]) (o:=(n-1)*3) 194 I ao (λW=>by obtain⟨S,G,r⟩:=bt.1 HI.o;simp at r;simp[zeroValue,typeInfo,G,r]) xEw xEz am (cap:=c-(n-1)) V xEH;try simp only[fp]at O
 exact xE4
def W9(h:aU w B 309 1 (some ⟨g,0,none⟩) c n vs)(Q:∀v∈vs,v.oneCell'=true)(R:x=(i:Int))(Y:y=(i:Int)+1)(hi:i<n)(hn:n<=16777216):
  () 258 #[(g,n,c),x,y] w λe w'=>e=.returned (.slice g (n-1) c)/\aU w' B 309 1 (some ⟨g,0,none⟩) c (n-1) (vs.take (i*1)++vs.drop ((i+1)*1))/\dm g (some ⟨g,0,none⟩) w w':=by
 subst R Y;obtain⟨Z,hg,hB,hl,hm,hc,ht,D⟩:=h.whole;have b:(prog.info? 309).map (λi=>(i.zero,i.size,i.bytes))=some (some (.slice none 0 0),1,24):=ao;have F:(prog.info? 309).map (·.size)=some 1:=xEg;have j:∀W,(sizeOf (prog.elem 135)).run prog W=.ok 1 W:=λW=>by obtain⟨S,G,r⟩:=bt.1 (show(prog.info? (prog.elem 135)).map (·.size)=some 1 from by kernel_rfl);simp[sizeOf,typeInfo,G,r]
 have l:prog.underlying 135=some (.slice (prog.elem 135)):=ao;obtain⟨T,ko⟩:∃T,∀W,(Instr.slice 135 (g,n,c) (some (.int .i64 (i:Int))) (some (.int .i64 ((i:Int)+1))) (some (.int .i64 (n:Int)))).run prog W=.ok T W:=by refine⟨sliced g ((i:Int)).toNat ((i:Int)+1).toNat ((n:Int)).toNat 1,λW=>?_⟩;rw[yt W 135 (some ⟨g,0,none⟩) n c l .i64 .i64 .i64 i ((i:Int)+1) n om om om om,j];rfl
 obtain⟨off,u⟩:=lg (if c=i+1 then 0 else(i+1)*1:Nat);have zb:∀W,(Instr.slice 135 (g,n,c) none (some (.int .i64 (i:Int))) none).run prog W=.ok (.slice g i c) W:=λW=>by rw[lU W 135 (some ⟨g,0,none⟩) n c l .i64 i om om,j];simp[Result.andThen,sliced,Addr.add]
 have Ov:∀W,(Instr.slice 135 (g,n,c) (some (.int .i64 ((i:Int)+1))) none none).run prog W=.ok (.slice (some ⟨g,off,none⟩) (n-(i+1)) (c-(i+1))) W:=λW=>by rw[dN W 135 (some ⟨g,0,none⟩) n c l .i64 ((i:Int)+1) om om,j,u];exact xE6
 have t8:∀W,(Instr.slice 135 (.slice g (n-1) c) (some (.int .i64 ((n-1:Nat):Int))) (some (.int .i64 (n:Int))) none).run prog W=.ok (.slice (some ⟨g,(n-1)*1,none⟩) 1 (c-(n-1))) W:=λW=>by rw[kJ W 135 (some ⟨g,0,none⟩) (n-1) c l .i64 .i64 ((n-1:Nat):Int) n om om om,j];exact xEb
 have m:i+1<n->off=(i+1)*1:=λR=>by rw[u,ag om]
 have U:∀(W:aa),W.heap=w.heap->∀I,∃X,(Builtin.append_ #[135,135] I #[.slice g i c,.slice (some ⟨g,off,none⟩) (n-(i+1)) (c-(i+1))]).run prog W=.ok (.slice g (n-1) c) (W.setRow g X)/\X.size=c*1/\X.toList.take ((n-1)*1)=vs.take (i*1)++vs.drop ((i+1)*1):=λW hW I=>
  sL (B:=B) (k:=1) (h.same λad _=>by rw[hW]) hi 135 I ao F Q m
 have js:((i:Int)==(i:Int)+1)=false:=by simp;omega
 have HR:=ae U;have HI:=ae b;have mixed:prog.follows .mixedOrders=true:=ao;clear u m U b F hc ht Q h l j;go_in;go_upto_region 5 with fail;obtain⟨X,hX,J,K⟩:=HR.o w.drew rfl 135;have V:=bV (w:=w.drew) hg X;have N:=ae K;have C:=ae J;clear K J;go_region_law_o (refine n5 rfl _ _ 135 135 rfl _ _ xEv xEv hX ?_);have h4:(n-1)*1+1=n*1:=om;have O:=λI=>nt (P:=prog) (w:=w.drew.setRow g X) (E:=309) (z:=.slice none 0 0) (n:=1) (us:=[.slice none 0 0]) (o:=(n-1)*1) 135 I ao (λW=>by obtain⟨S,G,r⟩:=bt.1 HI.o;simp at r;simp[zeroValue,typeInfo,G,r]) xEw xEz am (cap:=c-(n-1)) V xEH;try simp only[fp]at O
 exact xE4
variable{m:Nat}
def k7(w:aa)(B:Nat)(E:TypeId)(k:Nat)(A:bF)(n:Nat)(l:j7)(e:Ending)(w':aa):Prop:=∃b j,e=.returned (.slice b n j)/\aU w' B E k b j n l/\dm A b w w'
variable{us:List Value}
def Kc(h:aU w B 308 2 A c n vs)(hb:az w m 308 us.toArray)(y:us.length=2)(l:∀u∈us,u.oneCell'=true)(D:n<=16777216)(C:B<=w.1.size):
  () 248 #[(A,n,c),n,(m,1,1)] w (k7 w B 308 2 A (n+1) (vs++us)):=by
 have⟨A',c',w1,hr,h2,h3⟩:=sM (P:=prog) h 309 309 ao 16 (z:=.agg #[an,an]) ao (by rfl) am am hb y l om C;have b:prog.underlying 309=some (.slice (prog.elem 309)):=ao;have e:∀W,(sizeOf (prog.elem 309)).run prog W=.ok 2 W:=λW=>by have⟨ii,e1,e2⟩:=bt.1 (show(prog.info? (prog.elem 309)).map (·.size)=some 2 from by kernel_rfl);simp[sizeOf,typeInfo,e1,e2]
 have j:∃r,∀W,(Instr.slice 309 (A,n,c) (some (.int .i64 (n:Int))) none none).run prog W=.ok (.slice r 0 (c-n)) W:=⟨if c=n then A else A.map (·.add (n*2)),λW=>by
  rw[dN W 309 A n c b .i64 n om om,e];cases A<;>simp[Result.andThen,sliced]⟩
 have⟨r,j⟩:=j;clear b e;go_in;go_wp2_with (at_builtin;refine Lib.wpList_append_run _ rfl _ _ 309 309 rfl _ _ rfl rfl _ _ hr ?_);go_ret;exact⟨A',c',rfl,h2,h3⟩
def xEK(h:Γ:=by rw[bO,r];omega):=h
def xE8(h:Γ:=by go_ret;refine⟨some ⟨g,0,none⟩,c,rfl,?_,((dm.refl _ w).drew.trans (ep (w:=w.drew) N X)).trans (ep (by rw[size_setRow];exact N) _)⟩;exact .mk' hB (bV Q Y) hr hm R.o S.o):=h
def xEc(h:Γ:=by have O:¬c=i:=om;simp[Result.andThen,sliced,O,cn]):=h
def xEd(h:Γ:=by (have e:((i:Int)+1).toNat=i+1:=by omega);have O:¬c=i+1:=om;have h2:n+1-(i+1)=n-i:=om;simp[Result.andThen,sliced,O,e,h2,cn]):=h
def xEh(h:Γ:=by (have e:((n:Int)+1).toNat=n+1:=by omega);simp[Result.andThen,sliced,Addr.add,e]):=h
def xEi(h:Γ:=by rw[fd,dQ om,fa xEK,fd,dQ om]at this;rw[this,<-ht,fd,dQ om]):=h
def xEj(h:Γ:=by rw[Z,fa (by rw[bh,bO,l,r];omega),bY (by rw[bh,bO,l,r];omega)]):=h
def xEk(h:Γ:=by rw[kN (show 1<=n+1-i by omega)]at this;rw[hY];exact this):=h
def xEl(h:Γ:=by rw[lX (show n-i<=n+1-i by omega)]at this;exact this):=h
def xEm(h:Γ:=by have⟨ii,J,D⟩:=bt.1 C;simp[sizeOf,typeInfo,J,D]):=h
def xEr(h:Γ:=by rw[hY];rw[rC,e3,bY (by rw[e3,M];omega),<-D,J,tI]):=h
def xEB(h:Γ:=by have:=hb;unfold az at this;simp[World.shape?,this,M]):=h
def xEF(h:Γ:=by simp only[M,kN (show 1<=n+1-i by omega),lS]):=h
def xEM(h:Γ:=by simp[World.shape?,hg,U]):=h
def E5(h:aU w B 308 2 (some ⟨g,0,none⟩) c n vs)(h1:∀v∈vs,v.oneCell'=true)(hb:az w m 308 us.toArray)(M:us.length=2)(Kd:∀u∈us,u.oneCell'=true)(hv:m≠g)(hi:i<n)(hr:n+1<=c)(hn:n<=16777216):
  () 248 #[(g,n,c),i,(m,1,1)] w (k7 w B 308 2 (some ⟨g,0,none⟩) (n+1) (vs.take (i*2)++us++vs.drop (i*2))):=by
 obtain⟨cur,hg,hB,hle,hm,U,ht,N⟩:=h.whole;have pp:vs.length=n*2:=h.1;have y:prog.underlying 309=some (.slice (prog.elem 309)):=ao;have b:prog.underlying 309=some (.slice 308):=ao;have C:(prog.info? 308).map (·.size)=some 2:=ao;have G:∀W,(sizeOf 308).run prog W=.ok 2 W:=λW=>xEm;have z:∀W,(sizeOf (prog.elem 309)).run prog W=.ok 2 W:=λW=>by obtain⟨ii,J,D⟩:=bt.1 (show(prog.info? (prog.elem 309)).map (·.size)=some 2 from by kernel_rfl);simp[sizeOf,typeInfo,J,D]
 have hm9:c<=9223372036854775807:=by unfold maxLen at hm;omega
 have sa:∀W,(Instr.slice 309 (g,n,c) (some (.int .i64 (i:Int))) none none).run prog W=.ok (.slice (some ⟨g,i*2,none⟩) (n-i) (c-i)) W:=λW=>by rw[dN W 309 (some ⟨g,0,none⟩) n c y .i64 i om om,z];exact xEc
 have zb:∀W,(Instr.slice 309 (g,n,c) none (some (.int .i64 ((n:Int)+1))) none).run prog W=.ok (.slice g (n+1) c) W:=λW=>by rw[lU W 309 (some ⟨g,0,none⟩) n c y .i64 ((n:Int)+1) om om,z];exact xEh
 have Ov:∀W,(Instr.slice 309 (.slice g (n+1) c) (some (.int .i64 ((i:Int)+1))) none none).run prog W=.ok (.slice (some ⟨g,(i+1)*2,none⟩) (n-i) (c-(i+1))) W:=λW=>by rw[dN W 309 (some ⟨g,0,none⟩) (n+1) c y .i64 ((i:Int)+1) om om,z];exact xEd
 have t8:∀W,(Instr.slice 309 (.slice g (n+1) c) (some (.int .i64 (i:Int))) none none).run prog W=.ok (.slice (some ⟨g,i*2,none⟩) (n+1-i) (c-i)) W:=λW=>by rw[dN W 309 (some ⟨g,0,none⟩) (n+1) c y .i64 i om om,z];exact xEc
 have hov:∀lb cb,(callFunc 277 #[(m,1,1),.slice (some ⟨g,(i+1)*2,none⟩) lb cb]).run prog w=.ok (.value (.bool false)) w:=λlb cb=>by
  rw[run_callFunc_extern func277 ao ao ao (e:=Extern.SlicesOverlaps.overlaps #[309,309] #[4]) ao,
   Lib.run_overlaps_apart w 309 4 308 b 2 G ⟨m,0,none⟩ ⟨g,(i+1)*2,none⟩ 1 1 lb cb hv 308 308 2 (c*2) xEB xEM om (hb.frozen _) (hb.frozen _)]
  rfl
 have l:(vs.drop (i*2)).length=(n-i)*2:=by rw[eo,pp];omega
 have I:∀K,(Builtin.copy_ #[309,309] K #[.slice (some ⟨g,(i+1)*2,none⟩) (n-i) (c-(i+1)),.slice (some ⟨g,i*2,none⟩) (n+1-i) (c-i)]).run prog w.drew=.ok (goInt ((n-i:Nat):Int)) (w.drew.setRow g (cur.toList.take ((i+1)*2)++vs.drop (i*2)++cur.toList.drop ((i+1)*2+(vs.drop (i*2)).length)).toArray):=λK=>by
  have:=fI (P:=prog) (w:=w.drew) (E:=308) (k:=2) (g:=g) (o:=(i+1)*2) (cs:=vs.drop (i*2)) (cur:=cur) 309 309 K (n-i) (c-(i+1)) ⟨g,i*2,none⟩ (n+1-i) (c-i) b C hg (by rw[l,lX om]) (λj v V=>by
   rw[fb]at V;have⟨g2,D,kn⟩:=h.cell V;injection D with D;cases D
   rw[cn];exact kn) (by rw[l,U];omega) (λv hv=>h1 v (dA hv))
  exact xEl
 obtain⟨X,Z⟩:=lg ((cur.toList.take ((i+1)*2)++vs.drop (i*2)++cur.toList.drop ((i+1)*2+(vs.drop (i*2)).length)).toArray);rw[<-Z]at I;have r:cur.toList.length=c*2:=by rw[iC];exact U
 have F:X.size=c*2:=by rw[Z,ij,bh,bh,bO,l,eo,r];omega
 have L:X.toList.take ((n+1)*2)=cur.toList.take ((i+1)*2)++vs.drop (i*2):=xEj;have Q:=bV (w:=w.drew) hg X;obtain⟨Y,hY⟩:=lg ((X.toList.take (i*2)++us++X.toList.drop (i*2+us.length)).toArray);have R:Y.size=c*2:=by rw[hY,ij,bh,bh,bO,eo,iC,F,M];omega
 have S:Y.toList.take ((n+1)*2)=vs.take (i*2)++us++vs.drop (i*2):=by (have J:X.toList.take (i*2)=vs.take (i*2):=by have:=cq (List.take (i*2)) L;exact xEi);(have D:(X.toList.take ((n+1)*2)).drop (i*2+us.length)=vs.drop (i*2):=by rw[L,M,o7 xEK]);(have e3:(X.toList.take (i*2)++us).length=i*2+us.length:=by rw[bh,bO,iC,F];omega);exact xEr
 have T:∀(W:aa),W.heap=(w.drew.setRow g X).heap->∀K,(Builtin.copy_ #[309,309] K #[.slice (some ⟨g,i*2,none⟩) (n+1-i) (c-i),(m,1,1)]).run prog W=.ok (goInt 1) (W.setRow g Y):=λW hW K=>by
  have:=fI (P:=prog) (w:=W) (E:=308) (k:=2) (g:=g) (o:=i*2) (cs:=us) (cur:=X) 309 309 K (n+1-i) (c-i) ⟨m,0,none⟩ 1 1 b C (by rw[hW];exact Q) xEF (λj v V=>by
   rw[cn,cf];have J:W.heap[m]?=some (.cells us.toArray 308 (0,0)):=by rw[hW,bk hv];exact hb
   simp[World.cell?,J];simpa using V) (by rw[M,F];omega) Kd
  exact xEk
 change Hx _ at R S;have mixed:prog.follows .mixedOrders=true:=ao;clear hY Z F L r l y z b G C U ht h1 h;have jM:((i:Int)==(n:Int))=false:=by simp;omega
 have hz3:decide ((c:Int)<(n:Int)+1)=false:=by simp;omega
 have RR:IntKind.i64.wrap ((i:Int)+1)=(i:Int)+1:=by rw[a7];omega
 go_in;go_wp2_with (simp only[hov]);go_region_law_o (refine d7 rfl _ _ 309 309 rfl _ _ xEv xEv (I _) ?_);go_wp2_with (at_builtin;refine hk _ rfl _ _ 309 309 rfl _ _ rfl rfl (T _ rfl _) ?_);exact xE8
def xE7(h:Γ:=by refine⟨some ⟨w.1.size,0,none⟩,G,rfl,?_,dm.fresh ⟨p2.st.os,p2.st.tape,p2.st.output,by rw[size_setRow];exact p2.st.size,λb hb=>by rw[bk om];exact p2.st.block b hb⟩ (al _)⟩;exact .mk' hB (bV hh Y) hGn RS RV.o RW.o):=h
def xEe(h:Γ:=by (have e:((i:Int)+1).toNat=i+1:=by omega);have U:¬G=i+1:=om;have h2:n+1-(i+1)=n-i:=om;simp[Result.andThen,sliced,U,e,h2,cn]):=h
def xEn(h:Γ:=by have U:¬n=i:=om;simp[Result.andThen,sliced,U,cn]):=h
def xEo(h:Γ:=by rw[y];simp[Builtin.zeroCells,Value.cells,z];omega):=h
def xEp(h:Γ:=by have U:¬G=i:=om;simp[Result.andThen,sliced,U,cn]):=h
def xEq(h:Γ:=by rw[kN (show 1<=n+1-i by omega)]at this;exact this):=h
def xEs(h:Γ:=by rw[y];simp only[Ez];rw[eO,gE (by simp[z];omega)]):=h
def xEt(h:Γ:=by rw[hX];rw[RT,gE (by rw[bh,bO,z,hl];omega)]):=h
def xEu(h:Γ:=by rw[lX (al (n-i))]at this;rw[hY];exact this):=h
def xED(h:Γ:=by simp only[hl,kN (show 1<=n+1-i by omega),lS]):=h
def xEN(h:Γ:=by rw[E7,S];exact EL om om):=h
def xEO(h:Γ:=by rw[bh,bO,iC,M,J];omega):=h
def Hj(h:aU w B 308 2 (some ⟨g,0,none⟩) n n vs)(h1:∀v∈vs,v.oneCell'=true)(hb:az w m 308 us.toArray)(hl:us.length=2)(Kd:∀u∈us,u.oneCell'=true)(hi:i<n)(hn:n<=16777216)(hB:B<=w.1.size):
  () 248 #[(g,n,n),.int .i64 (i:Int),(m,1,1)] w (k7 w B 308 2 (some ⟨g,0,none⟩) (n+1) (vs.take (i*2)++us++vs.drop (i*2))):=by
 obtain⟨cur,hg,-,-,hm,hc,ht,n6⟩:=h.whole;have z:vs.length=n*2:=h.1;have C:prog.underlying 309=some (.slice (prog.elem 309)):=ao;have r:prog.underlying 309=some (.slice 308):=ao;have N:(prog.info? 308).map (λi=>(i.zero,i.size,i.bytes))=some (some (.agg #[an,an]),2,16):=ao;have R:(prog.info? 308).map (·.size)=some 2:=ao;have⟨ii,E6,eZ⟩:=bt.1 N;simp only[eP]at eZ;have⟨hJ,qg,E7⟩:=eZ;have D:∀W,(sizeOf (prog.elem 309)).run prog W=.ok 2 W:=λW=>by have⟨ii,e1,K⟩:=bt.1 (show(prog.info? (prog.elem 309)).map (·.size)=some 2 from by kernel_rfl);simp[sizeOf,typeInfo,e1,K]
 have sa:∀W,(Instr.slice 309 (g,n,n) (some (.int .i64 (i:Int))) none none).run prog W=.ok (.slice (some ⟨g,i*2,none⟩) (n-i) (n-i)) W:=λW=>by rw[dN W 309 (some ⟨g,0,none⟩) n n C .i64 i om om,D];exact xEn
 have zb:∀W,(Instr.slice 309 (g,n,n) none (some (.int .i64 (i:Int))) none).run prog W=.ok (.slice g i n) W:=λW=>by rw[lU W 309 (some ⟨g,0,none⟩) n n C .i64 i om om,D];simp[Result.andThen,sliced,Addr.add]
 have V:(n:Int)+1-(i:Int)=((n+1-i:Nat):Int):=by omega
 have S:i+(n+1-i)=n+1:=om;have O:(Builtin.firstCells ii.size i (.slice g i n)).run prog w.drew=.ok (vs.take (i*2)).toArray w.drew:=by
  rw[qg];exact EA w.drew 2 i ⟨g,0,none⟩ i n (vs.take (i*2)) (by rw[bO,z];omega) (λj v L=>by
   rw[cn,cf];rw[eG]at L
   split at L
   .have⟨g2,K,kn⟩:=h.cell L;injection K with K;cases K
    exact kn
   .cases L)
 obtain⟨G,Z⟩:=lg (grownCap w (n+1) n 308);obtain⟨l,y⟩:∃l:Array Value,l=(vs.take (i*2)).toArray++Builtin.zeroCells (Value.cells (.agg #[an,an])) (n+1-i)++Builtin.zeroCells (Value.cells (.agg #[an,an])) (G-(n+1)):=⟨_,rfl⟩
 have t9:∀F,(Builtin.append_ #[309,3] F #[.slice g i n,.int .i64 ((n:Int)+1-(i:Int))]).run prog w=
   .ok (.slice w.1.size (n+1) G) (w.drew.alloc (.cells l 308)):=λF=>by
  have h:=Lib.run_append_grow_zeros (P:=prog) w 309 3 F 308 ii _ .i64 .i64 r ao E6 hJ g i n (vs.take (i*2)) O (n+1-i) om (by rw[qg];decide) om om (by rw[E7];omega) xEN;rw[S]at h;rw[V,Z,y,Z];exact h
 have hGn:n+1<=G:=by rw[Z];exact pb w _ _ _
 have RS:G<=maxLen:=by rw[Z];exact rv w (n+1) n 308 xEA
 have T:l.size=G*2:=xEo;have RT:l.toList.take (i*2)=vs.take (i*2):=xEs;have hn2:∀W,(Instr.slice 309 (.slice w.1.size (n+1) G) (some (.int .i64 (i:Int))) none none).run prog W=.ok (.slice (some ⟨w.1.size,i*2,none⟩) (n+1-i) (G-i)) W:=λW=>by rw[dN W 309 (some ⟨w.1.size,0,none⟩) (n+1) G C .i64 i om om,D];exact xEp
 have hn3:∀W,(Instr.slice 309 (.slice w.1.size (n+1) G) (some (.int .i64 ((i:Int)+1))) none none).run prog W=.ok (.slice (some ⟨w.1.size,(i+1)*2,none⟩) (n-i) (G-(i+1))) W:=λW=>by rw[dN W 309 (some ⟨w.1.size,0,none⟩) (n+1) G C .i64 ((i:Int)+1) om om,D];exact xEe
 obtain⟨W1,I⟩:=lg (w.drew.alloc (.cells l 308));rw[<-I]at t9;have p1:aj W1 w:=I▸⟨((aV _ w).drew).alloc (al _) _⟩;have k1:W1.heap[w.1.size]?=some (.cells l 308 (0,0)):=by rw[I];exact jH w.drew _
 have k2:az W1 m 308 us.toArray:=hb.keep p1.st;have k3:aU W1 B 308 2 (some ⟨g,0,none⟩) n n vs:=h.keep p1.st;have s1:W1.1.size=w.1.size+1:=by rw[I];simp
 have Q:∀(W:aa),W.heap=W1.heap->∀F,(Builtin.copy_ #[309,309] F #[.slice (some ⟨w.1.size,i*2,none⟩) (n+1-i) (G-i),(m,1,1)]).run prog W=.ok (goInt 1) (W.setRow w.1.size (l.toList.take (i*2)++us++l.toList.drop (i*2+us.length)).toArray):=λW hW F=>by
  have:=fI (P:=prog) (w:=W) (E:=308) (k:=2) (g:=w.1.size) (o:=i*2) (cs:=us) (cur:=l) 309 309 F (n+1-i) (G-i) ⟨m,0,none⟩ 1 1 r R (by rw[hW];exact k1) xED (λj v L=>by
   rw[cn,cf];have e1:W.heap[m]?=some (.cells us.toArray 308 (0,0)):=by rw[hW];exact k2
   simp[World.cell?,e1];simpa using L) (by rw[hl,T];omega) Kd
  exact xEq
 obtain⟨X,hX⟩:=lg ((l.toList.take (i*2)++us++l.toList.drop (i*2+us.length)).toArray);rw[<-hX]at Q;have M:X.size=G*2:=by rw[hX,ij,bh,bh,bO,eo,iC,hl,T];omega
 have RU:X.toList.take ((i+1)*2)=vs.take (i*2)++us:=xEt;have J:(vs.drop (i*2)).length=(n-i)*2:=by rw[eo,z];omega
 have k4:(W1.setRow w.1.size X).heap[w.1.size]?=some (.cells X 308 (0,0)):=bV k1 X;have hgN:g≠w.1.size:=om;obtain⟨Y,hY⟩:=lg ((X.toList.take ((i+1)*2)++vs.drop (i*2)++X.toList.drop ((i+1)*2+(vs.drop (i*2)).length)).toArray);have RV:Y.size=G*2:=by rw[hY,ij,bh,bh,bO,J,eo,iC,M];omega
 have RW:Y.toList.take ((n+1)*2)=vs.take (i*2)++us++vs.drop (i*2):=by rw[hY];show List.take ((n+1)*2) (X.toList.take ((i+1)*2)++vs.drop (i*2)++X.toList.drop ((i+1)*2+(vs.drop (i*2)).length))=_;rw[gE xEO,RU]
 have RX:∀(W:aa),W.heap=(W1.setRow w.1.size X).heap->∀F,(Builtin.copy_ #[309,309] F #[.slice (some ⟨w.1.size,(i+1)*2,none⟩) (n-i) (G-(i+1)),.slice (some ⟨g,i*2,none⟩) (n-i) (n-i)]).run prog W=.ok (goInt ((n-i:Nat):Int)) (W.setRow w.1.size Y):=λW hW F=>by
  have k5:aU W B 308 2 (some ⟨g,0,none⟩) n n vs:=k3.same λad e=>by cases e;rw[hW,bk hgN]
  have:=fI (P:=prog) (w:=W) (E:=308) (k:=2) (g:=w.1.size) (o:=(i+1)*2) (cs:=vs.drop (i*2)) (cur:=X) 309 309 F (n-i) (G-(i+1)) ⟨g,i*2,none⟩ (n-i) (n-i) r R (by rw[hW];exact k4) (by rw[J,lX om]) (λj v L=>by
   rw[fb]at L;have⟨g2,K,kn⟩:=k5.cell L;injection K with K;cases K
   rw[cn];exact kn) (by rw[J,M];omega) (λv hv=>h1 v (dA hv))
  exact xEu
 change Hx _ at RV RW;clear hY V S O y Z hX M RU J T RT s1 I C D r R N E6 hJ qg E7 hc ht h1 h;have mixed:prog.follows .mixedOrders=true:=ao;have jM:((i:Int)==(n:Int))=false:=by simp;omega
 have hz3:decide ((n:Int)<(n:Int)+1)=true:=by simp;omega
 have RR:IntKind.i64.wrap ((i:Int)+1)=(i:Int)+1:=by rw[a7];omega
 go_in
 go_wp2_with (first
  |(at_builtin;refine Lib.wpList_append_run _ rfl _ _ 309 3 rfl _ _ rfl rfl _ _ (t9 _) ?_)
  |(at_builtin;refine hk _ rfl _ _ 309 309 rfl _ _ rfl rfl (Q _ rfl _) ?_))
 go_region_law_o (refine d7 rfl _ _ 309 309 rfl _ _ xEv xEv (RX (W1.setRow w.1.size X).drew rfl _) ?_);go_wp2;go_ret;have p2:aj (W1.setRow w.1.size X) w:=⟨⟨p1.st.os,p1.st.tape,p1.st.output,by rw[size_setRow];exact p1.st.size,λb hb=>by rw[bk om];exact p1.st.block b hb⟩⟩;have hh:(W1.setRow w.1.size X).drew.heap[w.1.size]?=some (.cells X 308 (0,0)):=k4;exact xE7
def aau(h:aU w B 308 2 A c n vs)(z:∀v∈vs,v.oneCell'=true)(hb:az w m 308 us.toArray)(j:us.length=2)(b:∀u∈us,u.oneCell'=true)(hv:∀C,A=some C->C.block≠m)(E:y=(i:Int))(hi:i<=n)(l:n<=16777216)(D:B<=w.1.size):
  () 248 #[(A,n,c),y,(m,1,1)] w (k7 w B 308 2 A (n+1) (vs.take (i*2)++us++vs.drop (i*2))):=by
 subst E;have r:vs.length=n*2:=h.1;have F:=h.le;by_cases G:i=n;subst G;have:=Kc h hb j b l D;rwa[show vs.take (i*2)++us++vs.drop (i*2)=vs++us from by rw[<-r,dR,tF,en]];rcases h.form with⟨_,rfl,_⟩|⟨g,I,rfl,_⟩;omega;by_cases J:n+1<=c;exact E5 h z hb j b (λe=>hv _ rfl e.symm) om J l;obtain rfl:c=n:=om;exact Hj h z hb j b om l D
def Kh(h:aU w B 311 3 A c n vs)(hb:az w m 311 us.toArray)(y:us.length=3)(l:∀u∈us,u.oneCell'=true)(D:n<=16777216)(C:B<=w.1.size):
  () 247 #[(A,n,c),n,(m,1,1)] w (k7 w B 311 3 A (n+1) (vs++us)):=by
 have⟨A',c',w1,hr,h2,h3⟩:=sM (P:=prog) h 194 194 ao 24 (z:=.agg #[an,an,an]) ao (by rfl) am am hb y l om C;have b:prog.underlying 194=some (.slice (prog.elem 194)):=ao;have e:∀W,(sizeOf (prog.elem 194)).run prog W=.ok 3 W:=λW=>by have⟨ii,e1,e2⟩:=bt.1 (show(prog.info? (prog.elem 194)).map (·.size)=some 3 from by kernel_rfl);simp[sizeOf,typeInfo,e1,e2]
 have j:∃r,∀W,(Instr.slice 194 (A,n,c) (some (.int .i64 (n:Int))) none none).run prog W=.ok (.slice r 0 (c-n)) W:=⟨if c=n then A else A.map (·.add (n*3)),λW=>by
  rw[dN W 194 A n c b .i64 n om om,e];cases A<;>simp[Result.andThen,sliced]⟩
 have⟨r,j⟩:=j;clear b e;go_in;go_wp2_with (at_builtin;refine Lib.wpList_append_run _ rfl _ _ 194 194 rfl _ _ rfl rfl _ _ hr ?_);go_ret;exact⟨A',c',rfl,h2,h3⟩
def E8(h:aU w B 311 3 (some ⟨g,0,none⟩) c n vs)(h1:∀v∈vs,v.oneCell'=true)(hb:az w m 311 us.toArray)(M:us.length=3)(Kd:∀u∈us,u.oneCell'=true)(hv:m≠g)(hi:i<n)(hr:n+1<=c)(hn:n<=16777216):
  () 247 #[(g,n,c),i,(m,1,1)] w (k7 w B 311 3 (some ⟨g,0,none⟩) (n+1) (vs.take (i*3)++us++vs.drop (i*3))):=by
 obtain⟨cur,hg,hB,hle,hm,U,ht,N⟩:=h.whole;have pp:vs.length=n*3:=h.1;have y:prog.underlying 194=some (.slice (prog.elem 194)):=ao;have b:prog.underlying 194=some (.slice 311):=ao;have C:(prog.info? 311).map (·.size)=some 3:=ao;have G:∀W,(sizeOf 311).run prog W=.ok 3 W:=λW=>xEm;have z:∀W,(sizeOf (prog.elem 194)).run prog W=.ok 3 W:=λW=>by obtain⟨ii,J,D⟩:=bt.1 (show(prog.info? (prog.elem 194)).map (·.size)=some 3 from by kernel_rfl);simp[sizeOf,typeInfo,J,D]
 have hm9:c<=9223372036854775807:=by unfold maxLen at hm;omega
 have sa:∀W,(Instr.slice 194 (g,n,c) (some (.int .i64 (i:Int))) none none).run prog W=.ok (.slice (some ⟨g,i*3,none⟩) (n-i) (c-i)) W:=λW=>by rw[dN W 194 (some ⟨g,0,none⟩) n c y .i64 i om om,z];exact xEc
 have zb:∀W,(Instr.slice 194 (g,n,c) none (some (.int .i64 ((n:Int)+1))) none).run prog W=.ok (.slice g (n+1) c) W:=λW=>by rw[lU W 194 (some ⟨g,0,none⟩) n c y .i64 ((n:Int)+1) om om,z];exact xEh
 have Ov:∀W,(Instr.slice 194 (.slice g (n+1) c) (some (.int .i64 ((i:Int)+1))) none none).run prog W=.ok (.slice (some ⟨g,(i+1)*3,none⟩) (n-i) (c-(i+1))) W:=λW=>by rw[dN W 194 (some ⟨g,0,none⟩) (n+1) c y .i64 ((i:Int)+1) om om,z];exact xEd
 have t8:∀W,(Instr.slice 194 (.slice g (n+1) c) (some (.int .i64 (i:Int))) none none).run prog W=.ok (.slice (some ⟨g,i*3,none⟩) (n+1-i) (c-i)) W:=λW=>by rw[dN W 194 (some ⟨g,0,none⟩) (n+1) c y .i64 i om om,z];exact xEc
 have hov:∀lb cb,(callFunc 275 #[(m,1,1),.slice (some ⟨g,(i+1)*3,none⟩) lb cb]).run prog w=.ok (.value (.bool false)) w:=λlb cb=>by
  rw[run_callFunc_extern func275 ao ao ao (e:=Extern.SlicesOverlaps.overlaps #[194,194] #[4]) ao,
   Lib.run_overlaps_apart w 194 4 311 b 3 G ⟨m,0,none⟩ ⟨g,(i+1)*3,none⟩ 1 1 lb cb hv 311 311 3 (c*3) xEB xEM om (hb.frozen _) (hb.frozen _)]
  rfl
 have l:(vs.drop (i*3)).length=(n-i)*3:=by rw[eo,pp];omega
 have I:∀K,(Builtin.copy_ #[194,194] K #[.slice (some ⟨g,(i+1)*3,none⟩) (n-i) (c-(i+1)),.slice (some ⟨g,i*3,none⟩) (n+1-i) (c-i)]).run prog w.drew=.ok (goInt ((n-i:Nat):Int)) (w.drew.setRow g (cur.toList.take ((i+1)*3)++vs.drop (i*3)++cur.toList.drop ((i+1)*3+(vs.drop (i*3)).length)).toArray):=λK=>by
  have:=fI (P:=prog) (w:=w.drew) (E:=311) (k:=3) (g:=g) (o:=(i+1)*3) (cs:=vs.drop (i*3)) (cur:=cur) 194 194 K (n-i) (c-(i+1)) ⟨g,i*3,none⟩ (n+1-i) (c-i) b C hg (by rw[l,lX om]) (λj v V=>by
   rw[fb]at V;have⟨g2,D,kn⟩:=h.cell V;injection D with D;cases D
   rw[cn];exact kn) (by rw[l,U];omega) (λv hv=>h1 v (dA hv))
  exact xEl
 obtain⟨X,Z⟩:=lg ((cur.toList.take ((i+1)*3)++vs.drop (i*3)++cur.toList.drop ((i+1)*3+(vs.drop (i*3)).length)).toArray);rw[<-Z]at I;have r:cur.toList.length=c*3:=by rw[iC];exact U
 have F:X.size=c*3:=by rw[Z,ij,bh,bh,bO,l,eo,r];omega
 have L:X.toList.take ((n+1)*3)=cur.toList.take ((i+1)*3)++vs.drop (i*3):=xEj;have Q:=bV (w:=w.drew) hg X;obtain⟨Y,hY⟩:=lg ((X.toList.take (i*3)++us++X.toList.drop (i*3+us.length)).toArray);have R:Y.size=c*3:=by rw[hY,ij,bh,bh,bO,eo,iC,F,M];omega
 have S:Y.toList.take ((n+1)*3)=vs.take (i*3)++us++vs.drop (i*3):=by (have J:X.toList.take (i*3)=vs.take (i*3):=by have:=cq (List.take (i*3)) L;exact xEi);(have D:(X.toList.take ((n+1)*3)).drop (i*3+us.length)=vs.drop (i*3):=by rw[L,M,o7 xEK]);(have e3:(X.toList.take (i*3)++us).length=i*3+us.length:=by rw[bh,bO,iC,F];omega);exact xEr
 have T:∀(W:aa),W.heap=(w.drew.setRow g X).heap->∀K,(Builtin.copy_ #[194,194] K #[.slice (some ⟨g,i*3,none⟩) (n+1-i) (c-i),(m,1,1)]).run prog W=.ok (goInt 1) (W.setRow g Y):=λW hW K=>by
  have:=fI (P:=prog) (w:=W) (E:=311) (k:=3) (g:=g) (o:=i*3) (cs:=us) (cur:=X) 194 194 K (n+1-i) (c-i) ⟨m,0,none⟩ 1 1 b C (by rw[hW];exact Q) xEF (λj v V=>by
   rw[cn,cf];have J:W.heap[m]?=some (.cells us.toArray 311 (0,0)):=by rw[hW,bk hv];exact hb
   simp[World.cell?,J];simpa using V) (by rw[M,F];omega) Kd
  exact xEk
 change Hx _ at R S;have mixed:prog.follows .mixedOrders=true:=ao;clear hY Z F L r l y z b G C U ht h1 h;have jM:((i:Int)==(n:Int))=false:=by simp;omega
 have hz3:decide ((c:Int)<(n:Int)+1)=false:=by simp;omega
 have RR:IntKind.i64.wrap ((i:Int)+1)=(i:Int)+1:=by rw[a7];omega
 go_in;go_wp2_with (simp only[hov]);go_region_law_o (refine d7 rfl _ _ 194 194 rfl _ _ xEv xEv (I _) ?_);go_wp2_with (at_builtin;refine hk _ rfl _ _ 194 194 rfl _ _ rfl rfl (T _ rfl _) ?_);exact xE8
def Hk(h:aU w B 311 3 (some ⟨g,0,none⟩) n n vs)(h1:∀v∈vs,v.oneCell'=true)(hb:az w m 311 us.toArray)(hl:us.length=3)(Kd:∀u∈us,u.oneCell'=true)(hi:i<n)(hn:n<=16777216)(hB:B<=w.1.size):
  () 247 #[(g,n,n),.int .i64 (i:Int),(m,1,1)] w (k7 w B 311 3 (some ⟨g,0,none⟩) (n+1) (vs.take (i*3)++us++vs.drop (i*3))):=by
 obtain⟨cur,hg,-,-,hm,hc,ht,n6⟩:=h.whole;have z:vs.length=n*3:=h.1;have C:prog.underlying 194=some (.slice (prog.elem 194)):=ao;have r:prog.underlying 194=some (.slice 311):=ao;have N:(prog.info? 311).map (λi=>(i.zero,i.size,i.bytes))=some (some (.agg #[an,an,an]),3,24):=ao;have R:(prog.info? 311).map (·.size)=some 3:=ao;have⟨ii,E6,eZ⟩:=bt.1 N;simp only[eP]at eZ;have⟨hJ,qg,E7⟩:=eZ;have D:∀W,(sizeOf (prog.elem 194)).run prog W=.ok 3 W:=λW=>by have⟨ii,e1,K⟩:=bt.1 (show(prog.info? (prog.elem 194)).map (·.size)=some 3 from by kernel_rfl);simp[sizeOf,typeInfo,e1,K]
 have sa:∀W,(Instr.slice 194 (g,n,n) (some (.int .i64 (i:Int))) none none).run prog W=.ok (.slice (some ⟨g,i*3,none⟩) (n-i) (n-i)) W:=λW=>by rw[dN W 194 (some ⟨g,0,none⟩) n n C .i64 i om om,D];exact xEn
 have zb:∀W,(Instr.slice 194 (g,n,n) none (some (.int .i64 (i:Int))) none).run prog W=.ok (.slice g i n) W:=λW=>by rw[lU W 194 (some ⟨g,0,none⟩) n n C .i64 i om om,D];simp[Result.andThen,sliced,Addr.add]
 have V:(n:Int)+1-(i:Int)=((n+1-i:Nat):Int):=by omega
 have S:i+(n+1-i)=n+1:=om;have O:(Builtin.firstCells ii.size i (.slice g i n)).run prog w.drew=.ok (vs.take (i*3)).toArray w.drew:=by
  rw[qg];exact EA w.drew 3 i ⟨g,0,none⟩ i n (vs.take (i*3)) (by rw[bO,z];omega) (λj v L=>by
   rw[cn,cf];rw[eG]at L
   split at L
   .have⟨g2,K,kn⟩:=h.cell L;injection K with K;cases K
    exact kn
   .cases L)
 obtain⟨G,Z⟩:=lg (grownCap w (n+1) n 311);obtain⟨l,y⟩:∃l:Array Value,l=(vs.take (i*3)).toArray++Builtin.zeroCells (Value.cells (.agg #[an,an,an])) (n+1-i)++Builtin.zeroCells (Value.cells (.agg #[an,an,an])) (G-(n+1)):=⟨_,rfl⟩
 have t9:∀F,(Builtin.append_ #[194,3] F #[.slice g i n,.int .i64 ((n:Int)+1-(i:Int))]).run prog w=
   .ok (.slice w.1.size (n+1) G) (w.drew.alloc (.cells l 311)):=λF=>by
  have h:=Lib.run_append_grow_zeros (P:=prog) w 194 3 F 311 ii _ .i64 .i64 r ao E6 hJ g i n (vs.take (i*3)) O (n+1-i) om (by rw[qg];decide) om om (by rw[E7];omega) xEN;rw[S]at h;rw[V,Z,y,Z];exact h
 have hGn:n+1<=G:=by rw[Z];exact pb w _ _ _
 have RS:G<=maxLen:=by rw[Z];exact rv w (n+1) n 311 xEA
 have T:l.size=G*3:=xEo;have RT:l.toList.take (i*3)=vs.take (i*3):=xEs;have hn2:∀W,(Instr.slice 194 (.slice w.1.size (n+1) G) (some (.int .i64 (i:Int))) none none).run prog W=.ok (.slice (some ⟨w.1.size,i*3,none⟩) (n+1-i) (G-i)) W:=λW=>by rw[dN W 194 (some ⟨w.1.size,0,none⟩) (n+1) G C .i64 i om om,D];exact xEp
 have hn3:∀W,(Instr.slice 194 (.slice w.1.size (n+1) G) (some (.int .i64 ((i:Int)+1))) none none).run prog W=.ok (.slice (some ⟨w.1.size,(i+1)*3,none⟩) (n-i) (G-(i+1))) W:=λW=>by rw[dN W 194 (some ⟨w.1.size,0,none⟩) (n+1) G C .i64 ((i:Int)+1) om om,D];exact xEe
 obtain⟨W1,I⟩:=lg (w.drew.alloc (.cells l 311));rw[<-I]at t9;have p1:aj W1 w:=I▸⟨((aV _ w).drew).alloc (al _) _⟩;have k1:W1.heap[w.1.size]?=some (.cells l 311 (0,0)):=by rw[I];exact jH w.drew _
 have k2:az W1 m 311 us.toArray:=hb.keep p1.st;have k3:aU W1 B 311 3 (some ⟨g,0,none⟩) n n vs:=h.keep p1.st;have s1:W1.1.size=w.1.size+1:=by rw[I];simp
 have Q:∀(W:aa),W.heap=W1.heap->∀F,(Builtin.copy_ #[194,194] F #[.slice (some ⟨w.1.size,i*3,none⟩) (n+1-i) (G-i),(m,1,1)]).run prog W=.ok (goInt 1) (W.setRow w.1.size (l.toList.take (i*3)++us++l.toList.drop (i*3+us.length)).toArray):=λW hW F=>by
  have:=fI (P:=prog) (w:=W) (E:=311) (k:=3) (g:=w.1.size) (o:=i*3) (cs:=us) (cur:=l) 194 194 F (n+1-i) (G-i) ⟨m,0,none⟩ 1 1 r R (by rw[hW];exact k1) xED (λj v L=>by
   rw[cn,cf];have e1:W.heap[m]?=some (.cells us.toArray 311 (0,0)):=by rw[hW];exact k2
   simp[World.cell?,e1];simpa using L) (by rw[hl,T];omega) Kd
  exact xEq
 obtain⟨X,hX⟩:=lg ((l.toList.take (i*3)++us++l.toList.drop (i*3+us.length)).toArray);rw[<-hX]at Q;have M:X.size=G*3:=by rw[hX,ij,bh,bh,bO,eo,iC,hl,T];omega
 have RU:X.toList.take ((i+1)*3)=vs.take (i*3)++us:=xEt;have J:(vs.drop (i*3)).length=(n-i)*3:=by rw[eo,z];omega
 have k4:(W1.setRow w.1.size X).heap[w.1.size]?=some (.cells X 311 (0,0)):=bV k1 X;have hgN:g≠w.1.size:=om;obtain⟨Y,hY⟩:=lg ((X.toList.take ((i+1)*3)++vs.drop (i*3)++X.toList.drop ((i+1)*3+(vs.drop (i*3)).length)).toArray);have RV:Y.size=G*3:=by rw[hY,ij,bh,bh,bO,J,eo,iC,M];omega
 have RW:Y.toList.take ((n+1)*3)=vs.take (i*3)++us++vs.drop (i*3):=by rw[hY];show List.take ((n+1)*3) (X.toList.take ((i+1)*3)++vs.drop (i*3)++X.toList.drop ((i+1)*3+(vs.drop (i*3)).length))=_;rw[gE xEO,RU]
 have RX:∀(W:aa),W.heap=(W1.setRow w.1.size X).heap->∀F,(Builtin.copy_ #[194,194] F #[.slice (some ⟨w.1.size,(i+1)*3,none⟩) (n-i) (G-(i+1)),.slice (some ⟨g,i*3,none⟩) (n-i) (n-i)]).run prog W=.ok (goInt ((n-i:Nat):Int)) (W.setRow w.1.size Y):=λW hW F=>by
  have k5:aU W B 311 3 (some ⟨g,0,none⟩) n n vs:=k3.same λad e=>by cases e;rw[hW,bk hgN]
  have:=fI (P:=prog) (w:=W) (E:=311) (k:=3) (g:=w.1.size) (o:=(i+1)*3) (cs:=vs.drop (i*3)) (cur:=X) 194 194 F (n-i) (G-(i+1)) ⟨g,i*3,none⟩ (n-i) (n-i) r R (by rw[hW];exact k4) (by rw[J,lX om]) (λj v L=>by
   rw[fb]at L;have⟨g2,K,kn⟩:=k5.cell L;injection K with K;cases K
   rw[cn];exact kn) (by rw[J,M];omega) (λv hv=>h1 v (dA hv))
  exact xEu
 change Hx _ at RV RW;clear hY V S O y Z hX M RU J T RT s1 I C D r R N E6 hJ qg E7 hc ht h1 h;have mixed:prog.follows .mixedOrders=true:=ao;have jM:((i:Int)==(n:Int))=false:=by simp;omega
 have hz3:decide ((n:Int)<(n:Int)+1)=true:=by simp;omega
 have RR:IntKind.i64.wrap ((i:Int)+1)=(i:Int)+1:=by rw[a7];omega
 go_in
 go_wp2_with (first
  |(at_builtin;refine Lib.wpList_append_run _ rfl _ _ 194 3 rfl _ _ rfl rfl _ _ (t9 _) ?_)
  |(at_builtin;refine hk _ rfl _ _ 194 194 rfl _ _ rfl rfl (Q _ rfl _) ?_))
 go_region_law_o (refine d7 rfl _ _ 194 194 rfl _ _ xEv xEv (RX (W1.setRow w.1.size X).drew rfl _) ?_);go_wp2;go_ret;have p2:aj (W1.setRow w.1.size X) w:=⟨⟨p1.st.os,p1.st.tape,p1.st.output,by rw[size_setRow];exact p1.st.size,λb hb=>by rw[bk om];exact p1.st.block b hb⟩⟩;have hh:(W1.setRow w.1.size X).drew.heap[w.1.size]?=some (.cells X 311 (0,0)):=k4;exact xE7
def aav(h:aU w B 311 3 A c n vs)(z:∀v∈vs,v.oneCell'=true)(hb:az w m 311 us.toArray)(j:us.length=3)(b:∀u∈us,u.oneCell'=true)(hv:∀C,A=some C->C.block≠m)(E:y=(i:Int))(hi:i<=n)(l:n<=16777216)(D:B<=w.1.size):
  () 247 #[(A,n,c),y,(m,1,1)] w (k7 w B 311 3 A (n+1) (vs.take (i*3)++us++vs.drop (i*3))):=by
 subst E;have r:vs.length=n*3:=h.1;have F:=h.le;by_cases G:i=n;subst G;have:=Kh h hb j b l D;rwa[show vs.take (i*3)++us++vs.drop (i*3)=vs++us from by rw[<-r,dR,tF,en]];rcases h.form with⟨_,rfl,_⟩|⟨g,I,rfl,_⟩;omega;by_cases J:n+1<=c;exact E8 h z hb j b (λe=>hv _ rfl e.symm) om J l;obtain rfl:c=n:=om;exact Hk h z hb j b om l D
variable{X:World}{h:Int}{T':TypeId}{cs lW:Array Value}
def qh(w:aa)(B:Nat)(A:bF)(n c:Nat)(F:Nat->Prop)(t:Tb):Prop:=
 (n=0/\t=[]/\∀b,¬F b)\/(n=1/\∃q r e,A=some ⟨q,0,none⟩/\aU w B 309 1 (some ⟨q,0,none⟩) c 1 [.slice (some ⟨r,0,none⟩) t e]/\aU w B 308 2 (some ⟨r,0,none⟩) e t.length (ic t)/\0<t.length/\∀b,F b↔b=q\/b=r)
section
variable{o:Nat}{t:Tb}{F:Nat->Prop}{b:Bool}
theorem aU.is_(h:aU w B 308 2 A c k (ic t)):Is w A t.length t:=by
 refine⟨λj x C=>?_,rfl⟩;obtain⟨a0,D⟩:=E2 C;obtain⟨g,e,E⟩:=h.cell a0;obtain⟨m,l,G⟩:=h.cell D;have I:m=g:=by rw[e]at l;injection l with l;injection l with l;exact l.symm
 subst I;exact⟨m,0,e,h.lt _ e,by rw[cf];exact E,by rw[cf];exact G⟩
def M8(t:Tb):∀v∈ic t,v.oneCell'=true:=λv hv=>by
 obtain⟨x,_,e⟩:=jI.1 hv;simp at e;rcases e with rfl|rfl<;>rfl
def qh.keep(h:qh w B A n c F t)(D:∀b,F b->w'.heap[b]?=w.heap[b]?):qh w' B A n c F t:=by
 rcases h with⟨j,l,m⟩|⟨j,q,r,R,l,m,E,G,C⟩;exact .inl ⟨j,l,m⟩;exact .inr ⟨j,q,r,R,l,m.same λI e=>by injection e with e;subst e;exact D q ((C q).2 (.inl rfl)),E.same λI e=>by injection e with e;subst e;exact D r ((C r).2 (.inr rfl)),G,C⟩
def qh.at(h:qh w B A n c F t)[aT w w']:qh w' B A n c F t:=by
 rcases h with⟨e,j,l⟩|⟨e,q,r,R,j,l,m,C,D⟩;exact .inl ⟨e,j,l⟩;exact .inr ⟨e,q,r,R,j,l.at,m.at,C,D⟩
def zc{Q:World->Prop}(h:∀u,aj u X->Bx u X.1.size T cs->Bx u (X.1.size+1) T' lW->Q u):Q ((X.alloc (.cells cs T)).alloc (.cells lW T')):=
 h _ (aF) aq aq
def xEJ(h:Γ:=by simp[results,results205,go_sem]):=h
def xEf(h:Γ:=by refine aX (v:=.tuple #[an,an,.bool false]) xEJ rfl ⟨by rw[P.o,Q.o];rfl,aF⟩):=h
def ua[k0:Cl w g o (A,n,c)](J:Hx (qh w B A n c F t))(hr:Hx (hZ t))(hn:Hx (t.length<=1000))(L:Hx (hX t y=j))(hb:Hx (iF t y=b)):
  () 205 #[.pointer (some ⟨g,o,none⟩),y] w (aJ w (.tuple #[an,j,.bool b])):=by
 obtain⟨CB,CP⟩:=kU;have CC:=@cQ;have o1:Old g w:=⟨de k0.eq⟩;rcases J.o with⟨M,G,-⟩|⟨M,q,r,R,G,h3,N,O,-⟩
 .subst M;have P:Hx (j=0):=ae (by rw[<-L.o,G];rfl);have Q:Hx (b=false):=ae (by rw[<-hb.o,G];rfl);clear J G;go_in;go_upto_region 1 with fail;refine zc (λS _ kp T=>?_);go_wp2_with (go_at_call 252;refine mv RQ λu1 _=>?_);exact xEf
 subst M G;obtain⟨⟨x,hx⟩,I,ht⟩:∃e I,t=e::I:=by
  cases t with
  |nil=>simp at O
  |cons e I=>exact⟨e,I,rfl⟩
 have c1:Cl w q 0 (.slice r t R):=⟨by obtain⟨g,e,U⟩:=h3.cell (j:=0) rfl;injection e with e;injection e with e;subst e;exact U⟩;have c2:Cl w r 0 x:=⟨by obtain⟨g,e,U⟩:=N.cell (j:=0) (v:=.int .i64 x) (by rw[ht];rfl);injection e with e;injection e with e;subst e;exact U⟩;have i1:Is w r t.length t:=N.is_;have o2:Old q w:=⟨de c1.eq⟩;obtain⟨m,hm⟩:=lh t.length;have HM:Hx (m<=100000):=ae (by rw[<-hm];have:=hn.o;omega);rw[hm]at c1 i1 O;obtain⟨p,hp⟩:=lh (decide (0<oF x y));have D:Hx (∀(u:aa) (V X:Nat) (T1 T2:TypeId),Bx u V T1 #[.pointer (some ⟨g,o,none⟩)]->Bx u X T2 #[y]->aT w u->∀(v:aa) (i:Nat),Hx (i=0)->aj v u->() 253 #[.int .i64 (i:Int),.pointer (some ⟨V,0,none⟩),.pointer (some ⟨X,0,none⟩)] v (aJ v (.bool p))):=ae λu V X T1 T2 k1 k2 l v i hi pv=>by have Y:i=0:=hi.o;subst Y;rw[<-hp];have pw:aj v w:=⟨du l.st pv.st⟩;exact aar (g:=g) (o:=o) (q:=q) (r:=r) O
 have HP:=ae hp;have HT:=ae ht;clear hp ht hm h3 N J;go_in;go_upto_region 1 with fail;refine zc (λS _ kp T=>?_);rcases p with _|_
 .have Z:Hx ((1:Nat)=if false=true then 0 else 1):=ae rfl;have E:=ae (D.o S _ _ _ _ kp T aq);have w0:IntKind.i64.wrap 0=0:=am;clear D;go_upto_region 4 with(go_at_call 252;refine mv (M6 Z E) λu1 _=>?_);refine aw ao (λux _=>?_);refine qL [0,1,2,3,4,5,6,7,8] ?_;refine aK 9 λK hK=>?_;go_simp;refine(abv hr HM.o L hb).mono ?_;rintro e ux ⟨rfl,_⟩;dsimp only;refine aG hK ?_;refine qL [10,11,12,13,14] ?_;refine a9 ?_;go_wp2_with fail;refine aX (v:=.tuple #[an,j,.bool b]) xEJ rfl ⟨rfl,aF⟩
 have Z:Hx ((0:Nat)=if true=true then 0 else 1):=ae rfl;have E:=ae (D.o S _ _ _ _ kp T aq);have bE:y<x:=by have:=HP.o;simp at this;unfold oF at this;split at this;omega;split at this;assumption;omega
 have C:∀e∈t,¬e.1<=y:=λe he=>by rw[HT.o]at he;rcases cw.1 he with rfl|he;dsimp only;omega;have h9:=hr.o;rw[HT.o]at h9;have:=(iE.1 h9).1 e he;dsimp only at this;omega
 have P:Hx (j=0):=ae (by rw[<-L.o];exact CV λe he=>by have:=C e he;omega);have Q:Hx (b=false):=ae (by rw[<-hb.o];exact vk.2 λz hz=>C _ hz (eI _));clear D bE C;go_wp2_with (go_at_call 252;refine mv (M6 Z E) λu1 _=>?_);exact xEf
end
end Go.Proofs.YtmkjnlifimffkaaGreat
