/- Lemmas. -/
import Derived.Lib.Strings
import Derived.Lib.Slices
import Derived.Lib.Small
import Derived.Lib.Walk
import Derived.Lib.BitFns
import Derived.Test.YtmkjnlifimffkaaGreatF03
import Derived.Deep.DeepCutAuto
import Derived.Shelf.Abstract
import Derived.Lib.AppendZerosOnto
import Derived.Laws.CopyRow
import Derived.Lib.Overlaps
import Derived.Laws.Externs
import Derived.Shelf.RegionOpenPlain
namespace Go.Proofs.YtmkjnlifimffkaaGreat
open Go.RowKit Tryz
set_option linter.all false
set_option maxRecDepth 100000
set_option maxHeartbeats 0
section
variable{w':World}{A:Option Addr}{ps qs:List (Int×Int)}{c g:Nat}{T:TypeId}{ops:Array Oper}{a:Act}{Q:Exit->Act->World->Prop}
def ic(ps:List (Int×Int)):List Value:=ps.flatMap λx=>[.int .i64 x.1,.int .i64 x.2]
def i9(ps b):ic (ps++b)=ic ps++ic b:=by simp[ic]
def nK(ps):(ic ps).length=ps.length*2:=by
 induction ps with
 |nil=>rfl
 |cons t l b=>simp[ic]at b⊢;omega
def CN:∀{ps:List (Int×Int)} {j:Nat} {x:Int×Int},ps[j]?=some x->(ic ps)[j*2]?=some (.int .i64 x.1)/\(ic ps)[j*2+1]?=some (.int .i64 x.2)
 |u::l,0,x,h=>by simp at h;subst h;simp[ic]
 |u::l,j+1,x,h=>by
  have:=CN (ps:=l) (j:=j) (x:=x) (by simpa using h);have e:ic (u::l)=[.int .i64 u.1,.int .i64 u.2]++ic l:=by simp[ic]
  rw[e,ew bY,ew bY];simp only[dm,nn];rw[show(j+1)*2-(0+1+1)=j*2 from om,show(j+1)*2+1-(0+1+1)=j*2+1 from om];exact this
def Ey(w:ay)(A:cD)(ps:List (Int×Int)):Prop:=
 ∀(j:Nat) (x:Int×Int),ps[j]?=some x->∃b off,A=some ⟨b,off,none⟩/\b<w.1.size/\w.cell? (b,off+j*2)=some (.int .i64 x.1)/\w.cell? (b,off+j*2+1)=some (.int .i64 x.2)
def Ey.nil(w)(A):Ey w A []:=λj _ b=>absurd b aG
def Ey.below{w:ay}(h:Ey w A ps)(hb:Below w.1.size w w'):Ey w' A ps:=λj x l=>by
 have⟨b,off,e,bK,h1,h2⟩:=h j x l;exact⟨b,off,e,bu bK hb.size,(hb.cell (p:=⟨b,off+j*2,none⟩) bK).trans h1,(hb.cell (p:=⟨b,off+j*2+1,none⟩) bK).trans h2⟩
class Is(w:World)(A:Option Addr)(n:Nat)(ps:outParam (List (Int×Int))):Prop where
 rd:Ey w A ps
 len:n=ps
section
variable{w:World}{n B:Nat}
instance(priority:=low) Is.step[p:aj w' w][h:Is w A n ps]:Is w' A n ps:=⟨h.rd.below p.st,h.len⟩
def Is.get(h:Is w A n ps){k:Nat}(j:k<n):∃b off x y,A=some ⟨b,off,none⟩/\Old b w/\w.cell? (b,off+k*2)=some (.int .i64 x)/\w.cell? (b,off+k*2+1)=some (.int .i64 y)/\Hx (ps[k]?=some (x,y)):=by
 have e:ps[k]?=some (ps[k]'(by rw[<-h.len];exact j)):=bc _;obtain⟨b,off,rfl,hb,l,m⟩:=h.rd k _ e;exact⟨b,off,_,_,rfl,⟨hb⟩,l,m,ae e⟩
def bM(w:ay)(B:Nat)(A:cD)(c:Nat)(ps:List (Int×Int)):Prop:=w.ownsRow B 98 2 (.slice A ps c) ps.length (ic ps)
def bM.nil(w)(B):bM w B none 0 []:=wo w B 98 2
def bM.form(h:bM w B A c ps):(A=none/\ps=[]/\c=0)\/∃g b,A=some ⟨g,0,none⟩/\B<=g/\w.heap[g]?=some (.cells b 98 (0,0))/\b.toList.take (ps.length*2)=ic ps:=by
 rcases h.2 with⟨hv,l⟩|⟨g,cap,b,hv,m,hg,u,hm,y,ht⟩
 .injection hv with e r j
  exact .inl ⟨e,jY l,j⟩
 .injection hv with e r j
  exact .inr ⟨g,b,e,m,hg,ht⟩
def bM.rd(h:bM w B A c ps):Ey w A ps:=by
 rcases h.form with⟨_,rfl,_⟩|⟨g,b,rfl,r,hg,ht⟩
 .exact Ey.nil _ _
 .intro j x e;have⟨a0,a1⟩:=CN e;have l:=(a5.1 e).1;have look:∀k v,k<ps.length*2->(ic ps)[k]?=some v->w.cell? (g,k)=some v:=by
   intro k v m hv;rw[<-ht,eY,ah m]at hv;have:b[k]?=some v:=by simpa using hv
   simp[World.cell?,hg,this]
  refine⟨g,0,rfl,(eX.1 hg).1,?_,?_⟩
  .rw[bX];exact look _ _ om a0
  .rw[bX];exact look _ _ om a1
def bM.lt(h:bM w B A c ps):∀b,A=some b->b.block<w.1.size:=by
 rcases h.form with⟨rfl,_,_⟩|⟨g,e,rfl,j,hg,_⟩
 .intro b h;cases h
 .intro b h;cases h;exact(eX.1 hg).1
def bM.fresh(h:bM w B A c ps):∀b,A=some b->B<=b.block:=by
 rcases h.form with⟨rfl,_,_⟩|⟨g,e,rfl,j,hg,_⟩
 .intro b h;cases h
 .intro b h;cases h;exact j
def bM.same(h:bM w B A c ps)(j:∀b,A=some b->w'.heap[b.block]?=w.heap[b.block]?):bM w' B A c ps:=by
 refine⟨h.1,?_⟩;rcases h.2 with h|⟨g,cap,e,hv,l,hg,r⟩
 .exact .inl h
 .refine .inr ⟨g,cap,e,hv,l,?_,r⟩;injection hv with hv
  rw[<-hg];exact j _ hv
def bM.at(h:bM w B A c ps)[l:aF w w']:bM w' B A c ps:=h.same λb e=>l.st.block _ (h.lt b e)
def bM.HD(h:bM w B A c ps):∀b,A=some b->∃cs e,w.heap[b.block]?=some (.cells cs 98 e):=by
 rcases h.form with⟨rfl,_,_⟩|⟨g,j,rfl,l,hg,_⟩
 .intro b h;cases h
 .intro b h;cases h;exact⟨_,_,hg⟩
def bM.aS{cs:eL}(h:bM w B A c ps)(b:aB w g T cs)(l:T≠98):∀j,A=some j->j.block≠g:=by
 intro j e hb;have⟨i4,fz,h1⟩:=h.HD j e;rw[hb]at h1;unfold aB at b;rw[h1]at b;injection b with b;injection b with _ m
 exact l m.symm
def qB{rest:List Oper}{o:Oper}(G:o.guard=none)(s x:Operand)(t:TypeId)
  (P:o.op=.call {callee:=.builtin .append,args:= #[s,x],argTypes:= #[t,t]}) (ht:prog.underlying t=some (.slice 98))
  (hs:a.eval s=.slice A ps c) (b:bM w B A c ps) (y z:Int)
  (R:a.eval x=.slice w.1.size 1 1) (M:ps.length<=1000000000) (S:B<=w.1.size)
  (h:∀N O w',bM w' B N O (ps++[(y,z)])->Below B w w'->(∀k,k<w.1.size->(∀D,A=some D->D.block≠k)->w'.heap[k]?=w.heap[k]?)->
   wpList prog ops Q rest (a.put o.dst (.slice N (ps.length+1) O)) w'):
  wpList prog ops Q (o::rest) a (w.alloc (.cells #[y,z] 98)):=by
 have l:(prog.info? 98).map (λi=>(i.zero,i.size,i.bytes))=some (some (.agg #[au,au]),2,16):=aq;have⟨i,hi,fk⟩:=bD.1 l;simp only[dL]at fk;obtain⟨I,J,K⟩:=fk;have m:bM (w.alloc (.cells #[y,z] 98)) B A c ps:=b.at;refine vU (w.alloc (.cells #[y,z] 98)) G s x t P B 98 i _ 2 16 ht hi I J K rfl ak _ _ _ hs m ⟨w.1.size,0,none⟩ 1 1 [.int .i64 y,.int .i64 z] R rfl
  (λj u hu=>?_) (by simp[Value.oneCell']) (by unfold maxLen;omega) om bY ?_
 .have T:j=0\/j=1:=by
   have:=(a5.1 hu).1;simp at this;omega
  rcases T with rfl|rfl
  .simp at hu;subst hu;simp[Addr.add,Cs]
  .simp at hu;subst hu;simp[Addr.add,Cs]
 .intro U w' r hg _ _;have V:(ps++[(y,z)]).length=ps.length+1:=aG;rcases r.2 with⟨hv,hn⟩|⟨g,cap,X,hv,Y,Z,CC,LG,Xw,Xx⟩
  .omega
  .have E:U=.slice g (ps.length+1) cap:=hv;rw[E];rw[E]at r;refine h _ _ _ ?_ ?_ ?_
   .unfold bM;rw[V,i9];exact r
   .refine((aY B w).alloc S _).grown hg bY ?_;intro k F;have:Value.ownBlock (.slice A ps c)=A.map (·.block):=by cases A<;>rfl
    rw[this]at F;obtain⟨D,C,rfl⟩:=bD.1 F;exact b.fresh D C
   .intro k F L;rw[hg.block k bY ?_,nj _ _ _ F];have:Value.ownBlock (.slice A ps c)=A.map (·.block):=by cases A<;>rfl
    rw[this];intro e;obtain⟨D,C,rfl⟩:=bD.1 e.symm;exact L D C rfl
end
end
variable{c g:Nat}{A:Option Addr}{zs:List Int}
section
variable{w:World}{B:Nat}{E:TypeId}
def az.addr(h:az w B E A c zs)(b:0<zs.length):∃g,A=some ⟨g,0,none⟩/\B<=g/\g<w.1.size:=by
 rcases h.form with⟨_,rfl,_⟩|⟨g,e,rfl,j,hg,_⟩
 .simp at b
 .exact⟨g,rfl,j,(eX.1 hg).1⟩
def az.frozen(h:az w B E g c zs)(k):w.frozen? ⟨g,k,none⟩=false:=by
 rcases h.form with⟨b,_,_⟩|⟨l,j,e,m,hg,_⟩
 .cases b
 .cases e;simp[World.frozen?,hg]
def az.cell(h:az w B E g c zs){k:Nat}{z:Int}(b:zs[k]?=some z):w.cell? (g,k)=some (.int .i64 z):=by
 have:=h.rd.all b;rwa[bX]at this
def az.ax(h:az w B E g c zs)(k:Nat)(z:Int):az (w.setCell (g,k) z) B E g c (zs.set k z):=by
 rcases h.form with⟨j,_,_⟩|⟨u,b,e,l,hg,m,hm,r,ht⟩
 .cases j
 .cases e;refine⟨aG,.inr ⟨g,c,b.setIfInBounds k z,rfl,l,?_,by simpa using m,hm,by simpa using r,?_⟩⟩
  .simp[World.setCell,qO,hg]
  .rw[eG,ej,pX,kq,<-ht,List.take_set]
end
def w6(x)(j:0<x)(h:x<18446744073709551616):x<2^Lib.bitLen x/\2^Lib.bitLen x<=2*x:=by
 induction x using Nat.strongRecOn with
 |_ x b=>
  rw[Lib.bitLen_half x om h,r6,Nat.pow_succ];by_cases e:x=1
  .subst e;have:Lib.bitLen (1/2)=0:=rfl;rw[this];decide
  .have⟨i1,i2⟩:=b (x/2) om om om;omega
def jM(i)(b:0<=i)(e:i<=255):Lib.len8 i=(Lib.bitLen i.toNat:Int)/\Lib.bitLen i.toNat<=8:=⟨Lib.len8_of i b e,Lib.bitLen_le8' i b e⟩
def uu(x)(w)(y:0<=x)(z:x<=18446744073709551615):
  () 233 #[.int .u64 x] w λe w'=>e=.returned (Lib.bitLen x.toNat:Int)/\w=w':=by
 by_cases c0:x<256
 .obtain⟨i,hi⟩:=lg x;have b:0<=x:=om;have i1:x<=255:=om;have⟨e8,l8⟩:=jM (x) b i1;have l:Hx (0+Lib.len8 (x)=(Lib.bitLen x.toNat:Int)):=ae (by rw[e8];omega);have r:0<=Lib.len8 (x):=om;have u:Lib.len8 (x)<=8:=om;have j:=λW=>Lib.run_index_len8tab (P:=prog) W 9 .u8 (x) underlying9 b i1
  go_in
  go_wp2
  go_ret;exact⟨bz (by have:=l.o;omega),rfl⟩
 by_cases c1:x<65536
 .obtain⟨i,hi⟩:=lg (x/256);have b:0<=x/256:=om;have i1:x/256<=255:=om;have⟨e8,l8⟩:=jM (x/256) b i1;have sh:=Lib.bitLen_shift8 x.toNat om om;have m:(x/256).toNat=x.toNat/256:=om;rw[m]at e8 l8;have l:Hx (8+Lib.len8 (x/256)=(Lib.bitLen x.toNat:Int)):=ae (by rw[e8,sh];omega);have r:0<=Lib.len8 (x/256):=om;have u:Lib.len8 (x/256)<=8:=om;have j:=λW=>Lib.run_index_len8tab (P:=prog) W 9 .u8 (x/256) underlying9 b i1
  go_in
  go_wp2
  go_ret;exact⟨bz (by have:=l.o;omega),rfl⟩
 by_cases c2:x<16777216
 .obtain⟨i,hi⟩:=lg (x/65536);have b:0<=x/65536:=om;have i1:x/65536<=255:=om;have⟨e8,l8⟩:=jM (x/65536) b i1;have sh:=Lib.bitLen_shift16 x.toNat om om;have m:(x/65536).toNat=x.toNat/65536:=om;rw[m]at e8 l8;have l:Hx (16+Lib.len8 (x/65536)=(Lib.bitLen x.toNat:Int)):=ae (by rw[e8,sh];omega);have r:0<=Lib.len8 (x/65536):=om;have u:Lib.len8 (x/65536)<=8:=om;have j:=λW=>Lib.run_index_len8tab (P:=prog) W 9 .u8 (x/65536) underlying9 b i1
  go_in
  go_wp2
  go_ret;exact⟨bz (by have:=l.o;omega),rfl⟩
 by_cases c3:x<4294967296
 .obtain⟨i,hi⟩:=lg (x/65536/256);have b:0<=x/65536/256:=om;have i1:x/65536/256<=255:=om;have⟨e8,l8⟩:=jM (x/65536/256) b i1;have sh:=Lib.bitLen_shift24 x.toNat om om;have m:(x/65536/256).toNat=x.toNat/16777216:=om;rw[m]at e8 l8;have l:Hx (24+Lib.len8 (x/65536/256)=(Lib.bitLen x.toNat:Int)):=ae (by rw[e8,sh];omega);have r:0<=Lib.len8 (x/65536/256):=om;have u:Lib.len8 (x/65536/256)<=8:=om;have j:=λW=>Lib.run_index_len8tab (P:=prog) W 9 .u8 (x/65536/256) underlying9 b i1
  go_in
  go_wp2
  go_ret;exact⟨bz (by have:=l.o;omega),rfl⟩
 by_cases c4:x<1099511627776
 .obtain⟨i,hi⟩:=lg (x/4294967296);have b:0<=x/4294967296:=om;have i1:x/4294967296<=255:=om;have⟨e8,l8⟩:=jM (x/4294967296) b i1;have sh:=Lib.bitLen_shift32 x.toNat om om;have m:(x/4294967296).toNat=x.toNat/4294967296:=om;rw[m]at e8 l8;have l:Hx (32+Lib.len8 (x/4294967296)=(Lib.bitLen x.toNat:Int)):=ae (by rw[e8,sh];omega);have r:0<=Lib.len8 (x/4294967296):=om;have u:Lib.len8 (x/4294967296)<=8:=om;have j:=λW=>Lib.run_index_len8tab (P:=prog) W 9 .u8 (x/4294967296) underlying9 b i1
  go_in
  go_wp2
  go_ret;exact⟨bz (by have:=l.o;omega),rfl⟩
 by_cases B:x<281474976710656
 .obtain⟨i,hi⟩:=lg (x/4294967296/256);have b:0<=x/4294967296/256:=om;have i1:x/4294967296/256<=255:=om;have⟨e8,l8⟩:=jM (x/4294967296/256) b i1;have sh:=Lib.bitLen_shift40 x.toNat om om;have m:(x/4294967296/256).toNat=x.toNat/1099511627776:=om;rw[m]at e8 l8;have l:Hx (40+Lib.len8 (x/4294967296/256)=(Lib.bitLen x.toNat:Int)):=ae (by rw[e8,sh];omega);have r:0<=Lib.len8 (x/4294967296/256):=om;have u:Lib.len8 (x/4294967296/256)<=8:=om;have j:=λW=>Lib.run_index_len8tab (P:=prog) W 9 .u8 (x/4294967296/256) underlying9 b i1
  go_in
  go_wp2
  go_ret;exact⟨bz (by have:=l.o;omega),rfl⟩
 by_cases C:x<72057594037927936
 .obtain⟨i,hi⟩:=lg (x/4294967296/65536);have b:0<=x/4294967296/65536:=om;have i1:x/4294967296/65536<=255:=om;have⟨e8,l8⟩:=jM (x/4294967296/65536) b i1;have sh:=Lib.bitLen_shift48 x.toNat om om;have m:(x/4294967296/65536).toNat=x.toNat/281474976710656:=om;rw[m]at e8 l8;have l:Hx (48+Lib.len8 (x/4294967296/65536)=(Lib.bitLen x.toNat:Int)):=ae (by rw[e8,sh];omega);have r:0<=Lib.len8 (x/4294967296/65536):=om;have u:Lib.len8 (x/4294967296/65536)<=8:=om;have j:=λW=>Lib.run_index_len8tab (P:=prog) W 9 .u8 (x/4294967296/65536) underlying9 b i1
  go_in
  go_wp2
  go_ret;exact⟨bz (by have:=l.o;omega),rfl⟩
 obtain⟨i,hi⟩:=lg (x/4294967296/65536/256);have b:0<=x/4294967296/65536/256:=om;have i1:x/4294967296/65536/256<=255:=om;have⟨e8,l8⟩:=jM (x/4294967296/65536/256) b i1;have sh:=Lib.bitLen_shift56 x.toNat om om;have m:(x/4294967296/65536/256).toNat=x.toNat/72057594037927936:=om;rw[m]at e8 l8;have l:Hx (56+Lib.len8 (x/4294967296/65536/256)=(Lib.bitLen x.toNat:Int)):=ae (by rw[e8,sh];omega);have r:0<=Lib.len8 (x/4294967296/65536/256):=om;have u:Lib.len8 (x/4294967296/65536/256)<=8:=om;have j:=λW=>Lib.run_index_len8tab (P:=prog) W 9 .u8 (x/4294967296/65536/256) underlying9 b i1
 go_in
 go_wp2
 go_ret;exact⟨bz (by have:=l.o;omega),rfl⟩
def XI(x:Int)(w:ay)(e:Ending)(w':ay):Prop:=∃s:Nat,e=.returned s/\w=w'/\s<=63/\9223372036854775808<=x*2^s/\x*2^s<=18446744073709551615
def HE(x)(w)(z:1<=x)(r:x<=18446744073709551615):() 264 #[.int .u64 x] w (XI x w):=by
 have hb:=w6 x.toNat om om;have u:Lib.bitLen x.toNat<=64:=by
  by_cases h:Lib.bitLen x.toNat<=64
  .exact h
  .have:2^65<=2^Lib.bitLen x.toNat:=Nat.pow_le_pow_right ak om;omega
 have y:1<=Lib.bitLen x.toNat:=by
  by_cases h:1<=Lib.bitLen x.toNat
  .exact h
  .have e:Lib.bitLen x.toNat=0:=om;rw[e]at hb;omega
 have l:=ae hb
 go_in
 go_wp2_with fail
 refine(uu x w om r).mono ?_;rintro e w' ⟨rfl,rfl⟩;generalize Lib.bitLen x.toNat=n at*
 go_wp2
 go_ret;refine⟨64-n,bz om,rfl,om,?_,?_⟩
 .have e:(2:Nat)^n*2^(64-n)=2^64:=by rw[<-Nat.pow_add];congr 1;omega
  have b:=hZ (2^(64-n)) l.o.2;rw[e]at b;obtain⟨m,rfl⟩:=cf (show 0<=x by omega);have j:((m:Int)*2^(64-n))=((m*2^(64-n):Nat):Int):=by rw[mm,rW];rfl
  rw[j];rw[bI,Uh]at b;omega
 .have e:(2:Nat)^n*2^(64-n)=2^64:=by rw[<-Nat.pow_add];congr 1;omega
  have hp:0<2^(64-n):=Nat.two_pow_pos _;have b:=Nat.mul_lt_mul_of_pos_right l.o.1 hp;rw[e]at b;obtain⟨m,rfl⟩:=cf (show 0<=x by omega);have j:((m:Int)*2^(64-n))=((m*2^(64-n):Nat):Int):=by rw[mm,rW];rfl
  rw[j];rw[bI]at b;omega
variable{w':World}{b j r:Nat}{T:TypeId}{x y:Int}
def mu:Nat->List Int->List Int
 |0,L=>L
 |j+1,L=>if L.getD (j+1) 0<L.getD j 0 then mu j ((L.set (j+1) (L.getD j 0)).set j (L.getD (j+1) 0))else L
def nL(L:av):Nat->List Int
 |0=>L
 |k+1=>mu (k+1) (nL L k)
def mw(L:av):List Int:=nL L (L.length-1)
section
variable{w:World}{B n:Nat}
def w7:∀(j:Nat) (L:av),(mu j L).length=L.length
 |0,_=>rfl
 |j+1,L=>by
  unfold mu
  split
  .rw[w7 j];simp
  .rfl
def qW(L):∀k,(nL L k).length=L.length
 |0=>rfl
 |k+1=>by rw[nL,w7,qW L k]
def w8(L):(mw L).length=L.length:=qW L _
def wq(x:Int):() 265 #[x] w (λe w'=>e=.returned (.bool false)/\w'=w):=by
 go_in
 go_wp2
 go_ret;exact⟨rfl,rfl⟩
def az.hp(h:az w B T A c zs)(e:w'.heap=w.heap):az w' B T A c zs:=by
 unfold az World.ownsRow at h⊢;rw[e];exact h
def CO(h:Below B w w')(q):Below B w (w'.drewN q):=⟨h.os,h.tape,h.output,h.size,h.block⟩
def KD(x y:Int):() 227 #[x,y] w (λe w'=>e=.returned (.bool (decide (x<y)))/\w'=w):=by
 go_in
 go_wp2_with (go_at_call 265;refine(wq _).mono ?_;rintro e b ⟨rfl,rfl⟩)
 go_ret;exact⟨rfl,rfl⟩
def w9(w:ay)(B:Nat)(A:cD)(c:Nat)(zs:av)(e:Ending)(w':ay):Prop:=e=.returned (.tuple #[])/\az w' B 3 A c zs/\Below B w w'
def LS{L:av}(b:L[j+1]?=some x)(e:L[j]?=some y)(h:x<y):mu (j+1) L=mu j ((L.set (j+1) y).set j x):=by
 rw[mu,aX,aX,b,e,ah (by simpa using h)];rfl
def Ez{L:av}(b:L[j+1]?=some x)(e:L[j]?=some y)(h:¬x<y):mu (j+1) L=L:=by
 rw[mu,aX,aX,b,e,ag (by simpa using h)]
def LU(h:Hx (az w B 3 A c zs))(J:B<=w.1.size)(K:n<=12)(E:Hx (zs.length=n)):() 267 #[(A,n,c),au,n] w (w9 w B A c (mw zs)):=by
 go_in
 go_wp2_with fail
 go_loopw [6] (λi wr=>∃(k:Nat),k+1<=max n 1/\i=.int .i64 (k+1:Nat)/\Hx (az wr B 3 A c (nL zs k))/\Hx (Below B w wr)) (λi _=>n-(intOf i).toNat)
 case atStart=>exact⟨0,om,rfl,h,ae (aY _ _)⟩
 case round=>
  obtain⟨k,M,rfl,b,l⟩:=hrel;have m:(nL zs k).length=n:=by rw[qW];exact E.o
  by_cases G:k+1<n
  .obtain⟨g,rfl,r,-⟩:=b.o.addr om
   go_wp2_with fail
   go_loopw [7] (λi F=>∃(j:Nat) (L:av),j<=k+1/\i=.int .i64 j/\Hx (az F B 3 (some ⟨g,0,none⟩) c L)/\Hx (Below B w F)/\L.length=n/\Hx (mu j L=nL zs (k+1))) (λi _=>(intOf i).toNat)
   case atStart=>exact⟨k+1,nL zs k,an _,rfl,b,l,m,ae rfl⟩
   case round=>
    obtain⟨j,L,N,rfl,b,l,hL,C⟩:=hrel;by_cases I:0<j
    .obtain⟨j,rfl⟩:∃i,j=i+1:=⟨j-1,om⟩;obtain⟨x,u⟩:∃x,L[j+1]?=some x:=⟨_,bc om⟩;obtain⟨y,z⟩:∃x,L[j]?=some x:=⟨_,bc om⟩;have c1:=b.o.cell u;have c2:=b.o.cell z;have f1:=b.o.frozen (j+1);have f2:=b.o.frozen j;change Hx _ at u z;have i1:((j+1:Nat):Int)<(n:Int):=by omega
     have i2:(j:Int)<(n:Int):=by omega
     go_wp2_with fail
     go_quiet (first|(go_at_call 227;refine Calls.quiet_of_same (KD _ _)))
     by_cases e:x<y
     .have d1:decide (x<y)=true:=by simpa using e
      have D:=ae e
      go_wp2
      go_region
      all_goals go_wp2
      all_goals
       go_roundw
       case rel=>exact⟨j,(L.set (j+1) y).set j x,om,by go_num,ae (((b.o.hp (w':=wr.drewN (nq+1)) rfl).ax (j+1) y).ax j x),ae (((CO l (nq+1)).setCell (p:=⟨g,j+1,none⟩) r y).setCell (p:=⟨g,j,none⟩) r (.int .i64 x)),by simpa using hL,ae (by rw[<-C.o,LS u.o z.o D.o])⟩
       case measure=>simp[intOf]
     .have d1:decide (x<y)=false:=by simpa using e
      have D:=ae e
      go_wp2
      go_roundw
      case rel=>exact⟨k+1,om,by go_num,ae (by rw[<-C.o,Ez u.o z.o D.o];exact b.o.hp rfl),ae (CO l nq)⟩
      case measure=>exact e6
    .obtain rfl:j=0:=om
     go_wp2_with fail
     go_quiet (first|(go_at_call 227;refine Calls.quiet_of_same (KD _ _)))
     go_wp2
     go_roundw
     .exact⟨k+1,om,by go_num,ae (by rw[<-C.o];exact b.o.hp rfl),ae (CO l nq)⟩
     .simp[intOf];omega
  .have hs:mw zs=nL zs k:=by rw[mw,E.o,show n-1=k by omega]
   go_wp2
   exact⟨rfl,.tuple #[],by simp[results,results267,go_sem],rfl,by rw[hs];exact b.o,l⟩
def AE(x:Int)(w:ay)(b:0<=x)(j:x<=18446744073709551615):() 194 #[.int .u64 x] w λe w'=>e=.returned (Lib.bitLen x.toNat:Int)/\w'=w:=by
 go_in
 go_wp2_with (go_at_call 233;refine(uu _ _ b j).mono ?_;rintro e l ⟨rfl,rfl⟩)
 go_ret;exact⟨rfl,rfl⟩
def XJ(h:Hx (az w B 3 A c zs))(b:B<=w.1.size)(l:n<=12)(m:Hx (zs.length=n))(x):() 231 #[(A,n,c),au,n,x] w (w9 w B A c (mw zs)):=by
 have r:decide ((n:Int)<=12)=true:=by simp;omega
 have u:(n:Int)-0=n:=by omega
 go_in
 go_wp2
 go_loopw [1,2] (λi j wr=>i=.int .i64 0/\j=.int .i64 n/\wr=w) (λ_ _ _=>0)
 .exact⟨rfl,rfl,rfl⟩
 ·
  obtain⟨rfl,rfl,rfl⟩:=hrel
  go_wp2_with (go_at_call 267;refine(LU h b l m).mono ?_;rintro e C ⟨rfl,y,z⟩)
  exact⟨rfl,.tuple #[],by simp[results,results231,go_sem],rfl,y,z⟩
def Ph:∀n,n<=12->0<n->Lib.bitLen n=1\/Lib.bitLen n=2\/Lib.bitLen n=3\/Lib.bitLen n=4:=ak
def HF:∀n,n<=12->(Lib.bitLen n<=2↔n<=3):=ak
def pd(n:Nat):Nat->Nat->Nat
 |0,r=>r
 |k+1,r=>pd n k (if r+2^k<=n/(r+2^k)then r+2^k else r)
def sf(n:Nat):Nat:=pd n (if n<=3 then 1 else 2) 0
def xa:Nat->Nat
 |0=>0
 |k+1=>2^k
def AG(e:n<=12):wrap64 ((n:Int)/((r:Int)+(b:Int)))=((n/(r+b):Nat):Int):=by
 rw[<-fH,<-Cq];have:=rV n (r+b);generalize n/(r+b)=q at*;unfold wrap64;omega
def LW(C:1<=n)(u:n<=12):() 142 #[n] w (aD w (sf n:Int)):=by
 obtain⟨b,hb⟩:=lh (Lib.bitLen n);have y:b=1\/b=2\/b=3\/b=4:=by rw[<-hb];exact Ph n u C
 have D:(b<=2↔n<=3):=by
  rw[<-hb];exact HF n u
 have E:=ae hb
 go_in
 rcases y with rfl|rfl|rfl|rfl
 all_goals
  go_wp2_with (go_at_call 194;refine mv (AE _ _ om om) λI hu=>?_;obtain rfl:=hu.symm;rw[bI,E.o])
  go_loopw [3,4] (λi j wr=>∃(k r:Nat),k<=2/\r<=12/\i=.int .i64 r/\j=.int .i64 (xa k)/\Hx (pd n k r=sf n)/\wr=w) (λ_ j _=>(intOf j).toNat)
  .first|exact⟨1,0,om,om,rfl,rfl,ae (by rw[sf,ah om]),rfl⟩|exact⟨2,0,om,om,rfl,rfl,ae (by rw[sf,ag om]),rfl⟩
  ·
   obtain⟨k,r,J,hr,rfl,rfl,m,rfl⟩:=hrel;rcases k with _|_|_|k
   .go_wp2
    go_ret;exact⟨by rw[<-m.o];rfl,aK⟩
   .have F:(xa (0+1):Int)=1:=rfl;have z:((r:Int)+1==0)=false:=by simp;omega
    obtain⟨q,hq⟩:=lh (n/(r+1));have G:wrap64 ((n:Int)/((r:Int)+1))=(q:Int):=by rw[<-hq];exact AG u
    by_cases e:r+1<=q
    .have d1:decide ((r:Int)+1<=(q:Int))=true:=by simp;omega
     have l:Hx (pd n 0 (r+1)=sf n/\r+1<=12):=ae ⟨by rw[<-m.o];show _=pd n 0 (if r+1<=n/(r+1)then r+1 else r);rw[ah (by rw[hq];exact e)],by have:=rV n (r+1);omega⟩
     go_wp2
     go_roundw
     .exact⟨0,r+1,om,l.o.2,by go_num,rfl,ae l.o.1,bA⟩
     .simp[intOf,xa]
    .have d1:decide ((r:Int)+1<=(q:Int))=false:=by simp;omega
     have l:Hx (pd n 0 r=sf n):=ae (by rw[<-m.o];show _=pd n 0 (if r+1<=n/(r+1)then r+1 else r);rw[ag (by rw[hq];exact e)])
     go_wp2
     go_roundw
     .exact⟨0,r,om,om,rfl,rfl,l,bA⟩
     .simp[intOf,xa]
   .have F:(xa (0+1+1):Int)=2:=rfl;have z:((r:Int)+2==0)=false:=by simp;omega
    obtain⟨q,hq⟩:=lh (n/(r+2));have G:wrap64 ((n:Int)/((r:Int)+2))=(q:Int):=by rw[<-hq];exact AG u
    by_cases e:r+2<=q
    .have d1:decide ((r:Int)+2<=(q:Int))=true:=by simp;omega
     have l:Hx (pd n 1 (r+2)=sf n/\r+2<=12):=ae ⟨by rw[<-m.o];show _=pd n 1 (if r+2<=n/(r+2)then r+2 else r);rw[ah (by rw[hq];exact e)],by have:=rV n (r+2);omega⟩
     go_wp2
     go_roundw
     .exact⟨1,r+2,om,l.o.2,by go_num,rfl,ae l.o.1,bA⟩
     .simp[intOf,xa]
    .have d1:decide ((r:Int)+2<=(q:Int))=false:=by simp;omega
     have l:Hx (pd n 1 r=sf n):=ae (by rw[<-m.o];show _=pd n 1 (if r+2<=n/(r+2)then r+2 else r);rw[ag (by rw[hq];exact e)])
     go_wp2
     go_roundw
     .exact⟨1,r,om,om,rfl,rfl,l,bA⟩
     .simp[intOf,xa]
   .omega
def Pj(h:Hx (az w B 3 A c zs))(b:B<=w.1.size)(j:n<=12)(l:Hx (zs.length=n)):() 193 #[(A,n,c)] w (w9 w B A c (mw zs)):=by
 go_in
 go_wp2_with (first|(go_at_call 194;refine(AE _ _ om om).mono ?_;rintro e u ⟨rfl,rfl⟩)|(go_at_call 231;refine(XJ h b j l _).mono ?_;rintro e y ⟨rfl,m,r⟩))
 exact⟨rfl,.tuple #[],by simp[results,results193,go_sem],rfl,m,r⟩
end
variable{u:World}{R b2 c2 d i q:Nat}{v:Value}{ps:List (Int×Int)}{z:Int}{T1 T2:TypeId}
class Cl(w:World)(g i:Nat)(v:outParam Value):Prop where
 eq:w.cell? (g,i)=some v
def mQ(x y:Int):Int:=if x<y then-1 else if y<x then 1 else 0
section
variable{w:World}{o n k:Nat}{p:Bool}
def cE(h:w.cell? (g,i)=some v):g<w.1.size:=by
 unfold World.cell? at h;cases hg:w.heap[g]? with
 |none=>rw[hg]at h;simp at h
 |some o=>exact(eX.1 hg).1
def ct[h:Cl w g i v]:w.cell? (g,i)=some v:=h.eq
instance(priority:=low) Cl.step[p:aj w' w][h:Cl w g i v]:Cl w' g i v:=⟨(p.st.cell (p:=⟨g,i,none⟩) (cE h.eq)).trans h.eq⟩
def Pk:() 254 #[x,y] w (aD w (mQ x y:Int)):=by
 go_in
 unfold mQ;by_cases b:x<y
 .rw[ah b]
  go_wp2_with (go_at_call 265;refine(wq _).mono ?_;rintro e j ⟨rfl,rfl⟩)
  go_ret;exact bq
 .rw[ag b];by_cases l:y<x
  .rw[ah l]
   go_wp2_with (go_at_call 265;refine(wq _).mono ?_;rintro e j ⟨rfl,rfl⟩)
   go_ret;exact bq
  .rw[ag l]
   go_wp2_with (go_at_call 265;refine(wq _).mono ?_;rintro e j ⟨rfl,rfl⟩)
   go_ret;exact bq
def Pl(h:x<y):mQ x y= -1:=ah h
def Pm(h:¬x<y):0<=mQ x y:=by unfold mQ;rw[ag h];split<;>decide
def HG:(mQ x y==0)=decide (x=y):=by
 unfold mQ
 split
 .rename_i h;simp;omega
 .split
  .simp;omega
  .simp;omega
def XK[Bx w R T1 #[.pointer (some ⟨g,o,none⟩)]][Bx w b2 T2 #[y]][b:Cl w g o (q,1,c)][j:Cl w q 0 (r,n,c2)][l:Cl w r 0 x](B:0<n):
  () 253 #[au,.pointer R,.pointer b2] w (aD w (.bool (decide (0<mQ x y)))):=by
 obtain⟨C,D⟩:=h5;have E:=@ct;have o1:Old g w:=⟨cE b.eq⟩;have F:Old q w:=⟨cE j.eq⟩;have G:Old r w:=⟨cE l.eq⟩
 go_in
 go_upto_region 1 with fail
 refine am aq (λm _=>?_);refine qL [0,1,2,3,4,5,6,7,8,9,10] ?_;refine aM 11 λK hK=>?_;go_simp
 (with_reducible refine(Pk).mono ?_)
 rintro e m ⟨rfl,_⟩;dsimp only;refine aL hK ?_;refine qL [12,13] ?_;refine aZ ?_
 go_wp2_with fail
 go_ret;exact bq
def HH:() 256 #[.agg #[x,z],y] w (aD w (mQ x y:Int)):=by
 have b:=@aa
 go_in
 go_wp2_with (go_at_call 254;(try(with_reducible refine dO (λu _ _=>?_)));(with_reducible refine Pk.mono ?_);rintro e u ⟨rfl,_⟩)
 go_ret;exact bq
def Pn:() 252 #[au,v] w (aD w au):=by
 go_in
 go_wp2_with fail
 go_loopw [5,6] (λi j wr=>i=.int .i64 0/\j=.int .i64 0/\aj wr w) (λ_ _ _=>0)
 case atStart=>exact⟨rfl,rfl,aK⟩
 case round=>
  obtain⟨rfl,rfl,hp⟩:=hrel
  go_wp2_with fail
  go_ret;exact bq
def KE{D E:Value}{r:Nat}(hr:Hx (r=if p=true then 0 else 1))(F:Hx (∀(u:ay) (i:Nat),Hx (i=0)->aj u w->() 253 #[.int .i64 (i:Int),D,E] u (aD u (.bool p)))):
  () 252 #[(1:Int),.func (.func 253) #[] #[D,E]] w (aD w (r:Int)):=by
 have L:∀args w,(callFunc 253 args).run prog w=.ok (.enter 253 args) w:=enters_of func253 aq rfl
 go_in
 go_wp2_with fail
 go_loopw [5,6] (λi j wr=>∃a b:Nat,i=.int .i64 (a:Int)/\j=.int .i64 (b:Int)/\a<=b/\b<=1/\aj wr w/\Hx (a<b\/(a=r/\b=r))) (λi j _=>(intOf j-intOf i).toNat)
 case atStart=>exact⟨0,1,rfl,rfl,ak,an _,aK,ae (.inl ak)⟩
 case round=>
  obtain⟨a,b,rfl,rfl,G,B,hp,e⟩:=hrel;by_cases I:a<b
  .obtain⟨m,hm⟩:=lg ((a+b)/2:Nat);have J:((a:Int)+(b:Int))/2=(m:Int):=by omega
   have l:Hx (m=0):=ae om;have C:a<=m:=om;have K:m<b:=om;clear hm;rcases p with _|_
   .go_wp2_with (go_at_call 253;refine mv (F.o _ _ l (aK)) λu _=>?_)
    go_roundw
    case rel=>exact⟨m+1,b,by go_num,rfl,om,B,aK,ae (.inr (by have:=hr.o;have:=l.o;simp at*;omega))⟩
    case measure=>exact e6
   .go_wp2_with (go_at_call 253;refine mv (F.o _ _ l (aK)) λu _=>?_)
    go_roundw
    case rel=>exact⟨a,m,rfl,rfl,C,om,aK,ae (.inr (by have:=hr.o;have:=l.o;simp at*;omega))⟩
    case measure=>exact e6
  .obtain rfl:a=b:=om;obtain rfl:a=r:=by have:=e.o;omega
   clear e hr
   go_wp2_with fail
   go_ret;exact bq
def KF:∀{ps:Tb} {i:Nat},i<=ps.length->(∀t e,t<i->ps[t]?=some e->e.1<y)->(∀t e,i<=t->ps[t]?=some e->y<=e.1)->gI ps y=i
 |[],i,h,_,_=>by simp at h;subst h;rfl
 |a::t,0,_,_,h2=>by
  unfold gI;rw[vV];intro e b;obtain⟨j,l⟩:=eA b;simpa using h2 j e (aT _) l
 |a::t,i+1,h,h1,h2=>by
  rw[nJ (h1 0 a (rY _) rfl),KF (ps:=t) (i:=i) (by simpa using h) (λj e l b=>h1 (j+1) e om (by simpa using b)) (λj e l b=>h2 (j+1) e om (by simpa using b))]
def EA(hr:gK ps){i:Nat}{a b:Int×Int}(h:i<j)(e:ps[i]?=some a)(hb:ps[j]?=some b):a.1<b.1:=by
 obtain⟨l,rfl⟩:=a5.1 e;obtain⟨m,rfl⟩:=a5.1 hb;exact(mn.1 hr) i j l m h
def LX(hr:gK ps):g9 ps y=(match ps[gI ps y]? with|some e=>decide (e.1=y)|none=>false):=by
 cases h:g9 ps y with
 |true=>
  obtain⟨z,b⟩:=kP.1 h;rw[mP hr b];simp
 |false=>
  have j:=tx.1 h;cases l:ps[gI ps y]? with
  |none=>rfl
  |some e=>
   have:e.1≠y:=λm=>j e.2 (by rw[<-m];exact aC l);simpa using this
def aaL[a:Is w A n ps](hr:Hx (gK ps))(hn:n<=100000){b:Bool}(P:Hx (gI ps y=j))(hb:Hx (g9 ps y=b)):
  () 255 #[(A,n,c),y,.func (.func 256) #[] #[]] w (aD w (.tuple #[j,.bool b])):=by
 have CP:=@bL;have G:Hx (n=ps.length):=ae a.len;have EG:∀args w,(callFunc 256 args).run prog w=.ok (.enter 256 args) w:=enters_of func256 aq rfl
 go_in
 go_wp2_with fail
 go_loopw [9,10] (λs t wr=>∃lo hi:Nat,lo<=hi/\hi<=n/\s=.int .i64 (lo:Int)/\t=.int .i64 (hi:Int)/\Hx (∀t e,t<lo->ps[t]?=some e->e.1<y)/\Hx (∀t e,hi<=t->ps[t]?=some e->y<=e.1)/\aj wr w) (λs t _=>(intOf t-intOf s).toNat)
 case atStart=>exact⟨0,n,aT _,an _,rfl,rfl,ae (λt e h=>absurd h (ju _)),ae (λt e h Q=>by have:=(a5.1 Q).1;have:=G.o;omega),aK⟩
 case round=>
  obtain⟨lo,hi,S,E,rfl,rfl,N,O,hp⟩:=hrel;by_cases T:lo<hi
  .obtain⟨m,hm⟩:=lg ((lo+hi)/2:Nat);obtain⟨U,q0,x,z,rfl,ob,V,X,D⟩:=a.get (k:=m) om;have Y:((lo:Int)+(hi:Int))/2=(m:Int):=by omega
   have I:lo<=m:=om;have Z:m<hi:=om;clear hm;by_cases J:x<y
   .have K:Hx (∀t e,t<m+1->ps[t]?=some e->e.1<y):=ae λt e ht C=>by
     by_cases h:t=m
     .subst h;rw[D.o]at C;obtain rfl:=cn C;exact J
     .have:=EA hr.o (show t<m by omega) C D.o;dsimp only at this;omega
    have hc:=Pl J
    go_wp2_with (go_at_fn 256;(with_reducible refine HH.mono ?_);rintro e u ⟨rfl,_⟩)
    go_roundw
    case rel=>exact⟨m+1,hi,om,E,by go_num,rfl,K,O,aK⟩
    case measure=>exact e6
   .have K:Hx (∀t e,m<=t->ps[t]?=some e->y<=e.1):=ae λt e ht C=>by
     by_cases h:t=m
     .subst h;rw[D.o]at C;obtain rfl:=Option.some.inj C;dsimp only;omega
     .have:=EA hr.o (show m<t by omega) D.o C;dsimp only at this;omega
    have hc:=Pm J;have ve:decide (mQ x y<0)=false:=by simp;omega
    go_wp2_with (go_at_fn 256;(with_reducible refine HH.mono ?_);rintro e u ⟨rfl,_⟩)
    go_roundw
    case rel=>exact⟨lo,m,I,om,rfl,rfl,N,K,aK⟩
    case measure=>exact e6
  .obtain rfl:lo=hi:=om;have B:gI ps y=lo:=KF (by rw[<-G.o];exact E) N.o O.o;obtain rfl:lo=j:=by rw[<-P.o,B]
   have l:g9 ps y=(match ps[lo]? with|some e=>decide (e.1=y)|none=>false):=by
    have:=LX (y:=y) hr.o;rwa[B]at this
   rw[hb.o]at l;by_cases F:lo<n
   .obtain⟨U,q0,x,z,rfl,ob,V,X,D⟩:=a.get (k:=lo) F;rw[D.o]at l;have L:Hx ((mQ x y==0)=b):=ae (by rw[HG];exact l.symm);have d1:decide ((lo:Int)<(n:Int))=true:=by simpa using F
    clear l B
    go_wp2_with (go_at_fn 256;(with_reducible refine HH.mono ?_);rintro e u ⟨rfl,_⟩)
    go_ret2;exact⟨by rw[<-L.o];rfl,aK⟩
   .have M:ps[lo]?=none:=c6 (by have:=G.o;omega);rw[M]at l;subst l;have d1:decide ((lo:Int)<(n:Int))=false:=by simp;omega
    clear B
    go_wp2_with fail
    go_ret2;exact bq
end
section
variable{P:Program}{m off:Nat}{vs:List Value}{cur:Array Value}{ops:Array Oper}{a:Act}{Q:Exit->Act->World->Prop}
section
variable{w:World}{B k n o:Nat}{E:TypeId}{us cs:List Value}{z:Value}
def jA{a:Nat}(h:a<=b):Nat.min a b=a:=dt h
def ku{a:Nat}(h:b<=a):Nat.min a b=b:=Ul h
def bH(hg:w.heap[g]?=some (.cells cur E (0,0)))(X):(w.setRow g X).heap[g]?=some (.cells X E (0,0)):=setRow_heap w g cur X E (0,0) hg
def ba(hb:b≠g)(X):(w.setRow g X).heap[b]?=w.heap[b]?:=by
 rw[World.setRow,qO,ag (dF hb)]
def size_setRow(X):(w.setRow g X).1.size=w.1.size:=by simp[World.setRow]
def d5(_:g<w.1.size)(X):cP g (some ⟨g,0,none⟩) w (w.setRow g X):=
 ⟨⟨rfl,rfl,rfl,by rw[size_setRow];exact an _,λb hb=>absurd hb (ju _)⟩,by rw[size_setRow];exact an _,λb _ j=>ba (λe=>j _ rfl (by rw[e])) X,λl e=>.inl ⟨_,rfl,by injection e with e;rw[<-e]⟩⟩
def e0(D F G)(b l)(a)(e r)(hu:P.underlying D=some (.slice E))(hs:(P.info? E).map (·.size)=some k)
  (hg:w.heap[g]?=some (.cells cur E (0,0))) (I:cs.length=Nat.min e b*k)
  (u:∀j v,cs[j]?=some v->w.cell? (a.add j)=some v) (y:o+cs.length<=cur.size) (J:∀v∈cs,v.oneCell'=true):
  (Builtin.copy_ #[D,F] G #[.slice (some ⟨g,o,none⟩) b l,.slice (some a) e r]).run P w=
   .ok (goInt (Nat.min e b)) (w.setRow g (cur.toList.take o++cs++cur.toList.drop (o+cs.length)).toArray):=by
 have K:=run_loadCells_list (P:=P) w a cs u;have C:=Cw P g o E cs 0 cur w hg (by simpa using y) J;cases hq:P.info? E with
 |none=>simp[hq]at hs
 |some i=>
  have hi:i.size=k:=by simpa[hq]using hs
  simp[Builtin.copy_,dU hu,Builtin.lenOf,Builtin.firstCells,sizeOf,typeInfo,hq,hi,<-I,K,C]
def l0(t j)(ht:P.underlying t=some (.slice E))(hv:∀w,(zeroValue E).run P w=.ok z w)(l:(Builtin.zeroCells z.cells n).toList=us)(r:∀v∈us,v.oneCell'=true)(u:0<n){cap:Nat}
  (hg:w.heap[g]?=some (.cells cur E (0,0))) (b:o+us.length<=cur.size):
  (Builtin.clear_ #[t] j #[.slice (some ⟨g,o,none⟩) n cap]).run P w=.ok (.tuple #[]) (w.setRow g (cur.toList.take o++us++cur.toList.drop (o+us.length)).toArray):=by
 have e:=Cw P g o E us 0 cur w hg (by simpa using b) r;obtain⟨m,rfl⟩:∃m,n=m+1:=⟨n-1,om⟩;simp[Builtin.clear_,dU ht,hv,l,e]
def LY{L:iP}{a:Nat}(h:a<=n)(hL:cur.toList.take (n*k)=L):cur.toList.take (a*k)=L.take (a*k):=by
 rw[<-hL,ez,dt (hZ k h)]
def qX(h:aI w B E k g c n vs)(hi:i<n)(t M)(ht:P.underlying t=some (.slice E))(hs:(P.info? E).map (·.size)=some k)(Q:∀v∈vs,v.oneCell'=true)(S:i+1<n->off=(i+1)*k):
  ∃X,(Builtin.append_ #[t,t] M #[(g,i,c),.slice (some ⟨g,off,none⟩) (n-(i+1)) (c-(i+1))]).run P w=.ok (.slice g (n-1) c) (w.setRow g X)/\
   X.size=c*k/\X.toList.take ((n-1)*k)=vs.take (i*k)++vs.drop ((i+1)*k):=by
 rcases h.form with⟨D,_⟩|⟨T,cur,e,U,hg,V,hm,N,hv⟩
 .cases D
 cases e;obtain⟨O,F,b⟩:=bD.1 hs;have y:vs.length=n*k:=h.1;have r:(vs.drop ((i+1)*k)).length=(n-(i+1))*O.size:=by rw[b,dZ,y,Nat.sub_mul]
 have G:i*k+(n-(i+1))*k=(n-1)*k:=by rw[<-rP];congr 1;omega
 have I:(n-1)*k<=c*k:=hZ k om;have R:=run_append_room (P:=P) w t M E O ht F g i c cur hg ⟨g,off,none⟩ (n-(i+1)) (c-(i+1)) (vs.drop ((i+1)*k)) r (λj u J=>by
  have C:=(a5.1 J).1;rw[r,b]at C;have K:i+1<n:=by
   refine B9 λY=>?_;rw[show n-(i+1)=0 from om,jt]at C;exact absurd C (ju _)
  rw[ff]at J;have⟨g2,L,ja⟩:=h.cell J;injection L with L;cases L
  rw[S K,show(Addr.add ⟨g,(i+1)*k,none⟩ j)=⟨g,(i+1)*k+j,none⟩from by by_cases D:j=0<;>simp[Addr.add,D]];exact ja) (λu hu=>Q u (dC hu)) om (by rw[r,b,N,G];exact I)
 rw[show i+(n-(i+1))=n-1 by omega]at R;rw[b]at R;refine⟨_,R,?_,?_⟩
 .have Z:i*k<=c*k:=hZ k om;rw[b]at r;rw[km,a1,a1,bB,dZ (l:=cur.toList),g5,N,r];omega
 .rw[LY (gV hi) hv];rw[eK (by rw[a1,bB,r,b,y,dt (hZ k (gV hi))];omega)];rw[bR (by rw[a1,bB,r,b,y,dt (hZ k (gV hi))];omega)]
def aI.whole(h:aI w B E k g c n vs):∃cur,w.heap[g]?=some (.cells cur E (0,0))/\B<=g/\n<=c/\c<=maxLen/\cur.size=c*k/\cur.toList.take (n*k)=vs/\g<w.1.size:=by
 rcases h.form with⟨j,_⟩|⟨y,cur,e,l,hg,r,b,u,hv⟩
 .cases j
 cases e;exact⟨cur,hg,l,r,b,u,hv,(eX.1 hg).1⟩
def qY(h:aI w B E k A c n vs)(t K)(ht:P.underlying t=some (.slice E))(bytes)(l:(P.info? E).map (λi=>(i.zero,i.size,i.bytes))=some (some z,k,bytes))(C:z.cells.size=k)(L:0<k)(D:bytes<=1000)
   (hb:aB w j E us.toArray) (O:us.length=k) (Q:∀u∈us,u.oneCell'=true) (hn:n<=100000000) (R:B<=w.1.size):
  ∃F M w',(Builtin.append_ #[t,t] K #[(A,n,c),(j,1,1)]).run P w=.ok (.slice F (n+1) M) w'/\aI w' B E k F M (n+1) (vs++us)/\cP A F w w':=by
 have⟨i,hi,fk⟩:=bD.1 l;simp only[dL]at fk;have⟨iQ,lD,tr⟩:=fk;have G:(n+1)*bytes<=140737488355328:=by
  have:=pS (n+1) D;omega
 obtain⟨Z,w',hr,r,hg,-,y⟩:=vN (P:=P) w B t K E i z k bytes ht hi iQ lD tr C L _ _ _ h ⟨j,0,none⟩ 1 1 us (by rw[O];omega)
  (λaa u hu=>by
   have e:(⟨j,0,none⟩:Addr).add aa=⟨j,aa,none⟩:=by rw[bQ,bX]
   rw[e,hb.cell aa];simpa using hu) Q (by unfold maxLen;omega) G R
 rcases r.2 with⟨hv,h0⟩|⟨g,cap,cur,hv,S,T,U,V,X,Y⟩
 .omega
 .rw[hv]at r y hr;refine⟨_,_,w',hr,r,?_,hg.size,λb hb I=>?_,λN e=>?_⟩
  .exact(aY 0 w).grown hg om (λk L=>aT _)
  .rw[hg.block b hb ?_];rw[b0];intro e;obtain⟨N,J,rfl⟩:=bD.1 e.symm;exact I N J rfl
  .injection e with e
   subst e;rw[b0,b0]at y;rcases y with hn|hn
   .have⟨XH,h3,h4⟩:=bD.1 hn.symm;exact .inl ⟨XH,h3,h4.symm⟩
   .right;simp at hn
    show w.1.size<=g
    omega
def my{o:Oper}{w:ay}{K:Act->World->Prop}{E:Prop}
  (hg:o.guard=none) (d x:Operand) (e j) (b:o.op=Op.call {callee:=Callee.builtin Builtin.append,args:= #[d,x],argTypes:= #[e,j]})
  (v u) (hd:a.eval d=v) (r:a.eval x=u) {l:Value}  (hr:(Builtin.append_ #[e,j] o.type #[v,u]).run P w=.ok l w') (hK:K (a.put o.dst l) w'):
  if Region.wanted o (yielded ops a.tmps)=true then Oper.wp P o a w K Q else E:=by
 have y:Region.wanted o (yielded ops a.tmps)=true:=by simp[Region.wanted,hg]
 rw[ah y];unfold Oper.wp;simp[execOp,b,resolve,invoke,builtin,hd,r,hr,Result.andThen];exact hK
def eg{o:Oper}{w:ay}{K:Act->World->Prop}{E:Prop}
  (hg:o.guard=none) (d x:Operand) (e j) (b:o.op=Op.call {callee:=Callee.builtin Builtin.copy,args:= #[d,x],argTypes:= #[e,j]})
  (v u) (hd:a.eval d=v) (r:a.eval x=u) {l:Value}  (hr:(Builtin.copy_ #[e,j] o.type #[v,u]).run P w=.ok l w') (hK:K (a.put o.dst l) w'):
  if Region.wanted o (yielded ops a.tmps)=true then Oper.wp P o a w K Q else E:=by
 have y:Region.wanted o (yielded ops a.tmps)=true:=by simp[Region.wanted,hg]
 rw[ah y];unfold Oper.wp;simp[execOp,b,resolve,invoke,builtin,hd,r,hr,Result.andThen];exact hK
def gy(w){rest:List Oper}{o:Oper}(b:o.guard=none)(d s:Operand)(t e)
  (l:o.op=.call {callee:=.builtin .copy,args:= #[d,s],argTypes:= #[t,e]}) (v u) (hd:a.eval d=v) (hs:a.eval s=u) {j:Value} 
  (hr:(Builtin.copy_ #[t,e] o.type #[v,u]).run P w=.ok j w') (h:wpList P ops Q rest (a.put o.dst j) w'):wpList P ops Q (o::rest) a w:=
 wpList_plain b λ_ hK=>by
  unfold Oper.wp execOp;simp only[l,resolve,invoke,builtin,rQ,B5,rK,B1,dX,jZ,hd,hs,hr];exact hK _ _ h
end
end
variable{vs:List Value}
section
variable{w:World}{B n:Nat}
def XL(h:aI w B 308 2 (some ⟨g,0,none⟩) c n vs)(Q:∀v∈vs,v.oneCell'=true)(R:x=(i:Int))(Y:y=(i:Int)+1)(hi:i<n)(hn:n<=16777216):
  () 257 #[(g,n,c),x,y] w λe w'=>e=.returned (.slice g (n-1) c)/\aI w' B 308 2 (some ⟨g,0,none⟩) c (n-1) (vs.take (i*2)++vs.drop ((i+1)*2))/\cP g (some ⟨g,0,none⟩) w w':=by
 subst R Y;obtain⟨Z,hg,hB,hl,hm,hc,ht,D⟩:=h.whole;have b:(prog.info? 308).map (λi=>(i.zero,i.size,i.bytes))=some (some (.agg #[au,au]),2,16):=aq;have F:(prog.info? 308).map (·.size)=some 2:=by
  obtain⟨S,G,r⟩:=bD.1 b;rw[G];simp at r;simp[r]
 have j:∀W,(sizeOf (prog.elem 309)).run prog W=.ok 2 W:=λW=>by
  obtain⟨S,G,r⟩:=bD.1 (show(prog.info? (prog.elem 309)).map (·.size)=some 2 from by kernel_rfl);simp[sizeOf,typeInfo,G,r]
 have l:prog.underlying 309=some (.slice (prog.elem 309)):=aq;obtain⟨T,qZ⟩:∃T,∀W,(Instr.slice 309 (g,n,c) (some (.int .i64 (i:Int))) (some (.int .i64 ((i:Int)+1))) (some (.int .i64 (n:Int)))).run prog W=.ok T W:=by
  refine⟨sliced g ((i:Int)).toNat ((i:Int)+1).toNat ((n:Int)).toNat 2,λW=>?_⟩;rw[wn W 309 (some ⟨g,0,none⟩) n c l .i64 .i64 .i64 i ((i:Int)+1) n om om om om,j];rfl
 obtain⟨off,u⟩:=lg (if c=i+1 then 0 else(i+1)*2:Nat);have xb:∀W,(Instr.slice 309 (g,n,c) none (some (.int .i64 (i:Int))) none).run prog W=.ok (.slice g i c) W:=λW=>by
  rw[kr W 309 (some ⟨g,0,none⟩) n c l .i64 i om om,j];simp[Result.andThen,sliced,Addr.add]
 have LZ:∀W,(Instr.slice 309 (g,n,c) (some (.int .i64 ((i:Int)+1))) none none).run prog W=.ok (.slice (some ⟨g,off,none⟩) (n-(i+1)) (c-(i+1))) W:=λW=>by
  rw[dk W 309 (some ⟨g,0,none⟩) n c l .i64 ((i:Int)+1) om om,j,u];have e:((i:Int)+1).toNat=i+1:=by omega
  by_cases M:c=i+1
  .simp[Result.andThen,sliced,e,M]
  .simp[Result.andThen,sliced,e,M,bQ]
 have vf:∀W,(Instr.slice 309 (.slice g (n-1) c) (some (.int .i64 ((n-1:Nat):Int))) (some (.int .i64 (n:Int))) none).run prog W=.ok (.slice (some ⟨g,(n-1)*2,none⟩) 1 (c-(n-1))) W:=λW=>by
  rw[lR W 309 (some ⟨g,0,none⟩) (n-1) c l .i64 .i64 ((n-1:Nat):Int) n om om om,j];have M:¬c=n-1:=om;have h2:n-(n-1)=1:=om;simp[Result.andThen,sliced,M,h2,bQ]
 have m:i+1<n->off=(i+1)*2:=λR=>by rw[u,ag om]
 have U:∀(W:ay),W.heap=w.heap->∀I,∃X,(Builtin.append_ #[309,309] I #[.slice g i c,.slice (some ⟨g,off,none⟩) (n-(i+1)) (c-(i+1))]).run prog W=.ok (.slice g (n-1) c) (W.setRow g X)/\X.size=c*2/\X.toList.take ((n-1)*2)=vs.take (i*2)++vs.drop ((i+1)*2):=λW hW I=>
  qX (B:=B) (k:=2) (h.same λad _=>by rw[hW]) hi 309 I aq F Q m
 have lA:((i:Int)==(i:Int)+1)=false:=by simp;omega
 have HR:=ae U;have HI:=ae b;have mixed:prog.follows .mixedOrders=true:=aq;clear u m U b F hc ht Q h l j
 go_in
 go_upto_region 5 with fail
 obtain⟨X,hX,J,K⟩:=HR.o w.drew rfl 309;have V:=bH (w:=w.drew) hg X;have N:=ae K;have C:=ae J;clear K J
 go_region_law_o (refine my rfl _ _ 309 309 rfl _ _ (by simp[Act.eval,Act.put]) (by simp[Act.eval,Act.put]) hX ?_)
 have h4:(n-1)*2+2=n*2:=om;have O:=λI=>l0 (P:=prog) (w:=w.drew.setRow g X) (E:=308) (z:=.agg #[au,au]) (n:=1) (us:=[.int .i64 0,.int .i64 0]) (o:=(n-1)*2) 309 I aq (λW=>by obtain⟨S,G,r⟩:=bD.1 HI.o;simp at r;simp[zeroValue,typeInfo,G,r]) (by first|rfl|(simp[Builtin.zeroCells,Value.cells];try rfl)) (by simp[Value.oneCell']) ak (cap:=c-(n-1)) V (by rw[C.o];simp;omega)
 try simp only[eG]at O
 go_wp2_with fail
 go_ret;refine⟨rfl,?_,?_⟩
 .refine .mk' hB (bH V _) om hm (by simp[C.o];omega) ?_
  first|(rw[eK (by simp[C.o];omega),eK (by simp[C.o];omega),ez,ko,N.o];done)|(rw[eK (by simp[C.o];omega),ez,ko,N.o];done)|(have L:=N.o;simp only[eG]at L⊢;rw[eK (by simp[C.o];omega),ez,ko,L])
 .exact((cP.refl _ w).drew.trans (d5 (w:=w.drew) D X)).trans (d5 (by rw[size_setRow];exact D) _)
def XM(h:aI w B 311 3 (some ⟨g,0,none⟩) c n vs)(Q:∀v∈vs,v.oneCell'=true)(R:x=(i:Int))(Y:y=(i:Int)+1)(hi:i<n)(hn:n<=16777216):
  () 208 #[(g,n,c),x,y] w λe w'=>e=.returned (.slice g (n-1) c)/\aI w' B 311 3 (some ⟨g,0,none⟩) c (n-1) (vs.take (i*3)++vs.drop ((i+1)*3))/\cP g (some ⟨g,0,none⟩) w w':=by
 subst R Y;obtain⟨Z,hg,hB,hl,hm,hc,ht,D⟩:=h.whole;have b:(prog.info? 311).map (λi=>(i.zero,i.size,i.bytes))=some (some (.agg #[au,au,au]),3,24):=aq;have F:(prog.info? 311).map (·.size)=some 3:=by
  obtain⟨S,G,r⟩:=bD.1 b;rw[G];simp at r;simp[r]
 have j:∀W,(sizeOf (prog.elem 194)).run prog W=.ok 3 W:=λW=>by
  obtain⟨S,G,r⟩:=bD.1 (show(prog.info? (prog.elem 194)).map (·.size)=some 3 from by kernel_rfl);simp[sizeOf,typeInfo,G,r]
 have l:prog.underlying 194=some (.slice (prog.elem 194)):=aq;obtain⟨T,qZ⟩:∃T,∀W,(Instr.slice 194 (g,n,c) (some (.int .i64 (i:Int))) (some (.int .i64 ((i:Int)+1))) (some (.int .i64 (n:Int)))).run prog W=.ok T W:=by
  refine⟨sliced g ((i:Int)).toNat ((i:Int)+1).toNat ((n:Int)).toNat 3,λW=>?_⟩;rw[wn W 194 (some ⟨g,0,none⟩) n c l .i64 .i64 .i64 i ((i:Int)+1) n om om om om,j];rfl
 obtain⟨off,u⟩:=lg (if c=i+1 then 0 else(i+1)*3:Nat);have xb:∀W,(Instr.slice 194 (g,n,c) none (some (.int .i64 (i:Int))) none).run prog W=.ok (.slice g i c) W:=λW=>by
  rw[kr W 194 (some ⟨g,0,none⟩) n c l .i64 i om om,j];simp[Result.andThen,sliced,Addr.add]
 have LZ:∀W,(Instr.slice 194 (g,n,c) (some (.int .i64 ((i:Int)+1))) none none).run prog W=.ok (.slice (some ⟨g,off,none⟩) (n-(i+1)) (c-(i+1))) W:=λW=>by
  rw[dk W 194 (some ⟨g,0,none⟩) n c l .i64 ((i:Int)+1) om om,j,u];have e:((i:Int)+1).toNat=i+1:=by omega
  by_cases M:c=i+1
  .simp[Result.andThen,sliced,e,M]
  .simp[Result.andThen,sliced,e,M,bQ]
 have vf:∀W,(Instr.slice 194 (.slice g (n-1) c) (some (.int .i64 ((n-1:Nat):Int))) (some (.int .i64 (n:Int))) none).run prog W=.ok (.slice (some ⟨g,(n-1)*3,none⟩) 1 (c-(n-1))) W:=λW=>by
  rw[lR W 194 (some ⟨g,0,none⟩) (n-1) c l .i64 .i64 ((n-1:Nat):Int) n om om om,j];have M:¬c=n-1:=om;have h2:n-(n-1)=1:=om;simp[Result.andThen,sliced,M,h2,bQ]
 have m:i+1<n->off=(i+1)*3:=λR=>by rw[u,ag om]
 have U:∀(W:ay),W.heap=w.heap->∀I,∃X,(Builtin.append_ #[194,194] I #[.slice g i c,.slice (some ⟨g,off,none⟩) (n-(i+1)) (c-(i+1))]).run prog W=.ok (.slice g (n-1) c) (W.setRow g X)/\X.size=c*3/\X.toList.take ((n-1)*3)=vs.take (i*3)++vs.drop ((i+1)*3):=λW hW I=>
  qX (B:=B) (k:=3) (h.same λad _=>by rw[hW]) hi 194 I aq F Q m
 have lA:((i:Int)==(i:Int)+1)=false:=by simp;omega
 have HR:=ae U;have HI:=ae b;have mixed:prog.follows .mixedOrders=true:=aq;clear u m U b F hc ht Q h l j
 go_in
 go_upto_region 5 with fail
 obtain⟨X,hX,J,K⟩:=HR.o w.drew rfl 194;have V:=bH (w:=w.drew) hg X;have N:=ae K;have C:=ae J;clear K J
 go_region_law_o (refine my rfl _ _ 194 194 rfl _ _ (by simp[Act.eval,Act.put]) (by simp[Act.eval,Act.put]) hX ?_)
 have h4:(n-1)*3+3=n*3:=om;have O:=λI=>l0 (P:=prog) (w:=w.drew.setRow g X) (E:=311) (z:=.agg #[au,au,au]) (n:=1) (us:=[.int .i64 0,.int .i64 0,.int .i64 0]) (o:=(n-1)*3) 194 I aq (λW=>by obtain⟨S,G,r⟩:=bD.1 HI.o;simp at r;simp[zeroValue,typeInfo,G,r]) (by first|rfl|(simp[Builtin.zeroCells,Value.cells];try rfl)) (by simp[Value.oneCell']) ak (cap:=c-(n-1)) V (by rw[C.o];simp;omega)
 try simp only[eG]at O
 go_wp2_with fail
 go_ret;refine⟨rfl,?_,?_⟩
 .refine .mk' hB (bH V _) om hm (by simp[C.o];omega) ?_
  first|(rw[eK (by simp[C.o];omega),eK (by simp[C.o];omega),ez,ko,N.o];done)|(rw[eK (by simp[C.o];omega),ez,ko,N.o];done)|(have L:=N.o;simp only[eG]at L⊢;rw[eK (by simp[C.o];omega),ez,ko,L])
 .exact((cP.refl _ w).drew.trans (d5 (w:=w.drew) D X)).trans (d5 (by rw[size_setRow];exact D) _)
def Uz(h:aI w B 309 1 (some ⟨g,0,none⟩) c n vs)(Q:∀v∈vs,v.oneCell'=true)(R:x=(i:Int))(Y:y=(i:Int)+1)(hi:i<n)(hn:n<=16777216):
  () 258 #[(g,n,c),x,y] w λe w'=>e=.returned (.slice g (n-1) c)/\aI w' B 309 1 (some ⟨g,0,none⟩) c (n-1) (vs.take (i*1)++vs.drop ((i+1)*1))/\cP g (some ⟨g,0,none⟩) w w':=by
 subst R Y;obtain⟨Z,hg,hB,hl,hm,hc,ht,D⟩:=h.whole;have b:(prog.info? 309).map (λi=>(i.zero,i.size,i.bytes))=some (some (.slice none 0 0),1,24):=aq;have F:(prog.info? 309).map (·.size)=some 1:=by
  obtain⟨S,G,r⟩:=bD.1 b;rw[G];simp at r;simp[r]
 have j:∀W,(sizeOf (prog.elem 135)).run prog W=.ok 1 W:=λW=>by
  obtain⟨S,G,r⟩:=bD.1 (show(prog.info? (prog.elem 135)).map (·.size)=some 1 from by kernel_rfl);simp[sizeOf,typeInfo,G,r]
 have l:prog.underlying 135=some (.slice (prog.elem 135)):=aq;obtain⟨T,qZ⟩:∃T,∀W,(Instr.slice 135 (g,n,c) (some (.int .i64 (i:Int))) (some (.int .i64 ((i:Int)+1))) (some (.int .i64 (n:Int)))).run prog W=.ok T W:=by
  refine⟨sliced g ((i:Int)).toNat ((i:Int)+1).toNat ((n:Int)).toNat 1,λW=>?_⟩;rw[wn W 135 (some ⟨g,0,none⟩) n c l .i64 .i64 .i64 i ((i:Int)+1) n om om om om,j];rfl
 obtain⟨off,u⟩:=lg (if c=i+1 then 0 else(i+1)*1:Nat);have xb:∀W,(Instr.slice 135 (g,n,c) none (some (.int .i64 (i:Int))) none).run prog W=.ok (.slice g i c) W:=λW=>by
  rw[kr W 135 (some ⟨g,0,none⟩) n c l .i64 i om om,j];simp[Result.andThen,sliced,Addr.add]
 have LZ:∀W,(Instr.slice 135 (g,n,c) (some (.int .i64 ((i:Int)+1))) none none).run prog W=.ok (.slice (some ⟨g,off,none⟩) (n-(i+1)) (c-(i+1))) W:=λW=>by
  rw[dk W 135 (some ⟨g,0,none⟩) n c l .i64 ((i:Int)+1) om om,j,u];have e:((i:Int)+1).toNat=i+1:=by omega
  by_cases M:c=i+1
  .simp[Result.andThen,sliced,e,M]
  .simp[Result.andThen,sliced,e,M,bQ]
 have vf:∀W,(Instr.slice 135 (.slice g (n-1) c) (some (.int .i64 ((n-1:Nat):Int))) (some (.int .i64 (n:Int))) none).run prog W=.ok (.slice (some ⟨g,(n-1)*1,none⟩) 1 (c-(n-1))) W:=λW=>by
  rw[lR W 135 (some ⟨g,0,none⟩) (n-1) c l .i64 .i64 ((n-1:Nat):Int) n om om om,j];have M:¬c=n-1:=om;have h2:n-(n-1)=1:=om;simp[Result.andThen,sliced,M,h2,bQ]
 have m:i+1<n->off=(i+1)*1:=λR=>by rw[u,ag om]
 have U:∀(W:ay),W.heap=w.heap->∀I,∃X,(Builtin.append_ #[135,135] I #[.slice g i c,.slice (some ⟨g,off,none⟩) (n-(i+1)) (c-(i+1))]).run prog W=.ok (.slice g (n-1) c) (W.setRow g X)/\X.size=c*1/\X.toList.take ((n-1)*1)=vs.take (i*1)++vs.drop ((i+1)*1):=λW hW I=>
  qX (B:=B) (k:=1) (h.same λad _=>by rw[hW]) hi 135 I aq F Q m
 have lA:((i:Int)==(i:Int)+1)=false:=by simp;omega
 have HR:=ae U;have HI:=ae b;have mixed:prog.follows .mixedOrders=true:=aq;clear u m U b F hc ht Q h l j
 go_in
 go_upto_region 5 with fail
 obtain⟨X,hX,J,K⟩:=HR.o w.drew rfl 135;have V:=bH (w:=w.drew) hg X;have N:=ae K;have C:=ae J;clear K J
 go_region_law_o (refine my rfl _ _ 135 135 rfl _ _ (by simp[Act.eval,Act.put]) (by simp[Act.eval,Act.put]) hX ?_)
 have h4:(n-1)*1+1=n*1:=om;have O:=λI=>l0 (P:=prog) (w:=w.drew.setRow g X) (E:=309) (z:=.slice none 0 0) (n:=1) (us:=[.slice none 0 0]) (o:=(n-1)*1) 135 I aq (λW=>by obtain⟨S,G,r⟩:=bD.1 HI.o;simp at r;simp[zeroValue,typeInfo,G,r]) (by first|rfl|(simp[Builtin.zeroCells,Value.cells];try rfl)) (by simp[Value.oneCell']) ak (cap:=c-(n-1)) V (by rw[C.o];simp;omega)
 try simp only[eG]at O
 go_wp2_with fail
 go_ret;refine⟨rfl,?_,?_⟩
 .refine .mk' hB (bH V _) om hm (by simp[C.o];omega) ?_
  first|(rw[eK (by simp[C.o];omega),eK (by simp[C.o];omega),ez,ko,N.o];done)|(rw[eK (by simp[C.o];omega),ez,ko,N.o];done)|(have L:=N.o;simp only[eG]at L⊢;rw[eK (by simp[C.o];omega),ez,ko,L])
 .exact((cP.refl _ w).drew.trans (d5 (w:=w.drew) D X)).trans (d5 (by rw[size_setRow];exact D) _)
end
variable{m:Nat}
def jN(w:ay)(B:Nat)(E:TypeId)(k:Nat)(A:cD)(n:Nat)(l:iP)(e:Ending)(w':ay):Prop:=∃b j,e=.returned (.slice b n j)/\aI w' B E k b j n l/\cP A b w w'
section
variable{w:World}{B n:Nat}{us:List Value}
def HI(h:aI w B 308 2 A c n vs)(hb:aB w m 308 us.toArray)(y:us.length=2)(l:∀u∈us,u.oneCell'=true)(D:n<=16777216)(C:B<=w.1.size):
  () 248 #[(A,n,c),n,(m,1,1)] w (jN w B 308 2 A (n+1) (vs++us)):=by
 have⟨A',c',w1,hr,h2,h3⟩:=qY (P:=prog) h 309 309 aq 16 (z:=.agg #[au,au]) aq (by rfl) ak ak hb y l om C;have b:prog.underlying 309=some (.slice (prog.elem 309)):=aq;have e:∀W,(sizeOf (prog.elem 309)).run prog W=.ok 2 W:=λW=>by
  have⟨ii,e1,e2⟩:=bD.1 (show(prog.info? (prog.elem 309)).map (·.size)=some 2 from by kernel_rfl);simp[sizeOf,typeInfo,e1,e2]
 have j:∃r,∀W,(Instr.slice 309 (A,n,c) (some (.int .i64 (n:Int))) none none).run prog W=.ok (.slice r 0 (c-n)) W:=⟨if c=n then A else A.map (·.add (n*2)),λW=>by
  rw[dk W 309 A n c b .i64 n om om,e];cases A<;>simp[Result.andThen,sliced]⟩
 have⟨r,j⟩:=j;clear b e
 go_in
 go_wp2_with (at_builtin;refine Lib.wpList_append_run _ rfl _ _ 309 309 rfl _ _ rfl rfl _ _ hr ?_)
 go_ret;exact⟨A',c',rfl,h2,h3⟩
def CP(h:aI w B 308 2 (some ⟨g,0,none⟩) c n vs)(h1:∀v∈vs,v.oneCell'=true)(hb:aB w m 308 us.toArray)(M:us.length=2)(HJ:∀u∈us,u.oneCell'=true)(hv:m≠g)(hi:i<n)(hr:n+1<=c)(hn:n<=16777216):
  () 248 #[(g,n,c),i,(m,1,1)] w (jN w B 308 2 (some ⟨g,0,none⟩) (n+1) (vs.take (i*2)++us++vs.drop (i*2))):=by
 obtain⟨cur,hg,hB,hle,hm,U,ht,N⟩:=h.whole;have vg:vs.length=n*2:=h.1;have y:prog.underlying 309=some (.slice (prog.elem 309)):=aq;have b:prog.underlying 309=some (.slice 308):=aq;have C:(prog.info? 308).map (·.size)=some 2:=aq;have G:∀W,(sizeOf 308).run prog W=.ok 2 W:=λW=>by
  have⟨ii,J,D⟩:=bD.1 C;simp[sizeOf,typeInfo,J,D]
 have z:∀W,(sizeOf (prog.elem 309)).run prog W=.ok 2 W:=λW=>by
  obtain⟨ii,J,D⟩:=bD.1 (show(prog.info? (prog.elem 309)).map (·.size)=some 2 from by kernel_rfl);simp[sizeOf,typeInfo,J,D]
 have XN:c<=9223372036854775807:=by unfold maxLen at hm;omega
 have pf:∀W,(Instr.slice 309 (g,n,c) (some (.int .i64 (i:Int))) none none).run prog W=.ok (.slice (some ⟨g,i*2,none⟩) (n-i) (c-i)) W:=λW=>by
  rw[dk W 309 (some ⟨g,0,none⟩) n c y .i64 i om om,z];have O:¬c=i:=om;simp[Result.andThen,sliced,O,bQ]
 have xb:∀W,(Instr.slice 309 (g,n,c) none (some (.int .i64 ((n:Int)+1))) none).run prog W=.ok (.slice g (n+1) c) W:=λW=>by
  rw[kr W 309 (some ⟨g,0,none⟩) n c y .i64 ((n:Int)+1) om om,z];have e:((n:Int)+1).toNat=n+1:=by omega
  simp[Result.andThen,sliced,Addr.add,e]
 have LZ:∀W,(Instr.slice 309 (.slice g (n+1) c) (some (.int .i64 ((i:Int)+1))) none none).run prog W=.ok (.slice (some ⟨g,(i+1)*2,none⟩) (n-i) (c-(i+1))) W:=λW=>by
  rw[dk W 309 (some ⟨g,0,none⟩) (n+1) c y .i64 ((i:Int)+1) om om,z];have e:((i:Int)+1).toNat=i+1:=by omega
  have O:¬c=i+1:=om;have h2:n+1-(i+1)=n-i:=om;simp[Result.andThen,sliced,O,e,h2,bQ]
 have vf:∀W,(Instr.slice 309 (.slice g (n+1) c) (some (.int .i64 (i:Int))) none none).run prog W=.ok (.slice (some ⟨g,i*2,none⟩) (n+1-i) (c-i)) W:=λW=>by
  rw[dk W 309 (some ⟨g,0,none⟩) (n+1) c y .i64 i om om,z];have O:¬c=i:=om;simp[Result.andThen,sliced,O,bQ]
 have XO:∀lb cb,(callFunc 277 #[(m,1,1),.slice (some ⟨g,(i+1)*2,none⟩) lb cb]).run prog w=.ok (.value (.bool false)) w:=λlb cb=>by
  rw[run_callFunc_extern func277 aq aq aq (e:=Extern.SlicesOverlaps.overlaps #[309,309] #[4]) aq,
   Lib.run_overlaps_apart w 309 4 308 b 2 G ⟨m,0,none⟩ ⟨g,(i+1)*2,none⟩ 1 1 lb cb hv 308 308 2 (c*2) (by have:=hb;unfold aB at this;simp[World.shape?,this,M]) (by simp[World.shape?,hg,U]) om (hb.frozen _) (hb.frozen _)]
  rfl
 have l:(vs.drop (i*2)).length=(n-i)*2:=by rw[dZ,vg];omega
 have I:∀K,(Builtin.copy_ #[309,309] K #[.slice (some ⟨g,(i+1)*2,none⟩) (n-i) (c-(i+1)),.slice (some ⟨g,i*2,none⟩) (n+1-i) (c-i)]).run prog w.drew=.ok (goInt ((n-i:Nat):Int)) (w.drew.setRow g (cur.toList.take ((i+1)*2)++vs.drop (i*2)++cur.toList.drop ((i+1)*2+(vs.drop (i*2)).length)).toArray):=λK=>by
  have:=e0 (P:=prog) (w:=w.drew) (E:=308) (k:=2) (g:=g) (o:=(i+1)*2) (cs:=vs.drop (i*2)) (cur:=cur) 309 309 K (n-i) (c-(i+1)) ⟨g,i*2,none⟩ (n+1-i) (c-i) b C hg (by rw[l,ku om]) (λj v V=>by
   rw[ff]at V;have⟨g2,D,ja⟩:=h.cell V;injection D with D;cases D
   rw[bQ];exact ja) (by rw[l,U];omega) (λv hv=>h1 v (dC hv))
  rw[ku (show n-i<=n+1-i by omega)]at this;exact this
 obtain⟨X,Z⟩:=lg ((cur.toList.take ((i+1)*2)++vs.drop (i*2)++cur.toList.drop ((i+1)*2+(vs.drop (i*2)).length)).toArray);rw[<-Z]at I;have r:cur.toList.length=c*2:=by rw[g5];exact U
 have F:X.size=c*2:=by rw[Z,km,a1,a1,bB,l,dZ,r];omega
 have L:X.toList.take ((n+1)*2)=cur.toList.take ((i+1)*2)++vs.drop (i*2):=by
  rw[Z,eK (by rw[a1,bB,l,r];omega),bR (by rw[a1,bB,l,r];omega)]
 have Q:=bH (w:=w.drew) hg X;obtain⟨Y,hY⟩:=lg ((X.toList.take (i*2)++us++X.toList.drop (i*2+us.length)).toArray);have R:Y.size=c*2:=by rw[hY,km,a1,a1,bB,dZ,g5,F,M];omega
 have S:Y.toList.take ((n+1)*2)=vs.take (i*2)++us++vs.drop (i*2):=by
  have J:X.toList.take (i*2)=vs.take (i*2):=by
   have:=cv (List.take (i*2)) L;rw[ez,dt om,eK (by rw[bB,r];omega),ez,dt om]at this;rw[this,<-ht,ez,dt om]
  have D:(X.toList.take ((n+1)*2)).drop (i*2+us.length)=vs.drop (i*2):=by
   rw[L,M,nt (by rw[bB,r];omega)]
  have e3:(X.toList.take (i*2)++us).length=i*2+us.length:=by rw[a1,bB,g5,F];omega
  rw[hY];rw[rT,e3,bR (by rw[e3,M];omega),<-D,J,rS]
 have T:∀(W:ay),W.heap=(w.drew.setRow g X).heap->∀K,(Builtin.copy_ #[309,309] K #[.slice (some ⟨g,i*2,none⟩) (n+1-i) (c-i),(m,1,1)]).run prog W=.ok (goInt 1) (W.setRow g Y):=λW hW K=>by
  have:=e0 (P:=prog) (w:=W) (E:=308) (k:=2) (g:=g) (o:=i*2) (cs:=us) (cur:=X) 309 309 K (n+1-i) (c-i) ⟨m,0,none⟩ 1 1 b C (by rw[hW];exact Q) (by simp only[M,jA (show 1<=n+1-i by omega),ny]) (λj v V=>by
   rw[bQ,bX];have J:W.heap[m]?=some (.cells us.toArray 308 (0,0)):=by rw[hW,ba hv];exact hb
   simp[World.cell?,J];simpa using V) (by rw[M,F];omega) HJ
  rw[jA (show 1<=n+1-i by omega)]at this;rw[hY];exact this
 change Hx _ at R S;have mixed:prog.follows .mixedOrders=true:=aq;clear hY Z F L r l y z b G C U ht h1 h;have tr:((i:Int)==(n:Int))=false:=by simp;omega
 have XP:decide ((c:Int)<(n:Int)+1)=false:=by simp;omega
 have UA:IntKind.i64.wrap ((i:Int)+1)=(i:Int)+1:=by rw[aV];omega
 go_in
 go_wp2_with (simp only[XO])
 go_region_law_o (refine eg rfl _ _ 309 309 rfl _ _ (by simp[Act.eval,Act.put]) (by simp[Act.eval,Act.put]) (I _) ?_)
 go_wp2_with (at_builtin;refine gy _ rfl _ _ 309 309 rfl _ _ rfl rfl (T _ rfl _) ?_)
 go_ret;refine⟨some ⟨g,0,none⟩,c,rfl,?_,((cP.refl _ w).drew.trans (d5 (w:=w.drew) N X)).trans (d5 (by rw[size_setRow];exact N) _)⟩;exact .mk' hB (bH Q Y) hr hm R.o S.o
def EB(h:aI w B 308 2 (some ⟨g,0,none⟩) n n vs)(h1:∀v∈vs,v.oneCell'=true)(hb:aB w m 308 us.toArray)(hl:us.length=2)(HJ:∀u∈us,u.oneCell'=true)(hi:i<n)(hn:n<=16777216)(hB:B<=w.1.size):
  () 248 #[(g,n,n),.int .i64 (i:Int),(m,1,1)] w (jN w B 308 2 (some ⟨g,0,none⟩) (n+1) (vs.take (i*2)++us++vs.drop (i*2))):=by
 obtain⟨cur,hg,-,-,hm,hc,ht,EC⟩:=h.whole;have z:vs.length=n*2:=h.1;have C:prog.underlying 309=some (.slice (prog.elem 309)):=aq;have r:prog.underlying 309=some (.slice 308):=aq;have N:(prog.info? 308).map (λi=>(i.zero,i.size,i.bytes))=some (some (.agg #[au,au]),2,16):=aq;have R:(prog.info? 308).map (·.size)=some 2:=aq;have⟨ii,L0,fk⟩:=bD.1 N;simp only[dL]at fk;have⟨iQ,oQ,CQ⟩:=fk;have D:∀W,(sizeOf (prog.elem 309)).run prog W=.ok 2 W:=λW=>by
  have⟨ii,e1,K⟩:=bD.1 (show(prog.info? (prog.elem 309)).map (·.size)=some 2 from by kernel_rfl);simp[sizeOf,typeInfo,e1,K]
 have pf:∀W,(Instr.slice 309 (g,n,n) (some (.int .i64 (i:Int))) none none).run prog W=.ok (.slice (some ⟨g,i*2,none⟩) (n-i) (n-i)) W:=λW=>by
  rw[dk W 309 (some ⟨g,0,none⟩) n n C .i64 i om om,D];have U:¬n=i:=om;simp[Result.andThen,sliced,U,bQ]
 have xb:∀W,(Instr.slice 309 (g,n,n) none (some (.int .i64 (i:Int))) none).run prog W=.ok (.slice g i n) W:=λW=>by
  rw[kr W 309 (some ⟨g,0,none⟩) n n C .i64 i om om,D];simp[Result.andThen,sliced,Addr.add]
 have V:(n:Int)+1-(i:Int)=((n+1-i:Nat):Int):=by omega
 have S:i+(n+1-i)=n+1:=om;have O:(Builtin.firstCells ii.size i (.slice g i n)).run prog w.drew=.ok (vs.take (i*2)).toArray w.drew:=by
  rw[oQ];exact Ci w.drew 2 i ⟨g,0,none⟩ i n (vs.take (i*2)) (by rw[bB,z];omega) (λj v L=>by
   rw[bQ,bX];rw[eY]at L
   split at L
   .have⟨g2,K,ja⟩:=h.cell L;injection K with K;cases K
    exact ja
   .cases L)
 obtain⟨G,Z⟩:=lg (grownCap w (n+1) n 308);obtain⟨l,y⟩:∃l:Array Value,l=(vs.take (i*2)).toArray++Builtin.zeroCells (Value.cells (.agg #[au,au])) (n+1-i)++Builtin.zeroCells (Value.cells (.agg #[au,au])) (G-(n+1)):=⟨_,rfl⟩;have vh:∀F,(Builtin.append_ #[309,3] F #[.slice g i n,.int .i64 ((n:Int)+1-(i:Int))]).run prog w=
   .ok (.slice w.1.size (n+1) G) (w.drew.alloc (.cells l 308)):=λF=>by
  have h:=Lib.run_append_grow_zeros (P:=prog) w 309 3 F 308 ii _ .i64 .i64 r aq L0 iQ g i n (vs.take (i*2)) O (n+1-i) om (by rw[oQ];decide) om om (by rw[CQ];omega) (by rw[CQ,S];exact Cr om om);rw[S]at h;rw[V,Z,y,Z];exact h
 have XQ:n+1<=G:=by rw[Z];exact nA w _ _ _
 have Po:G<=maxLen:=by rw[Z];exact p0 w (n+1) n 308 (by unfold maxLen;omega)
 have T:l.size=G*2:=by
  rw[y];simp[Builtin.zeroCells,Value.cells,z];omega
 have Pp:l.toList.take (i*2)=vs.take (i*2):=by
  rw[y];simp only[Cg];rw[dg,e9 (by simp[z];omega)]
 have XR:∀W,(Instr.slice 309 (.slice w.1.size (n+1) G) (some (.int .i64 (i:Int))) none none).run prog W=.ok (.slice (some ⟨w.1.size,i*2,none⟩) (n+1-i) (G-i)) W:=λW=>by
  rw[dk W 309 (some ⟨w.1.size,0,none⟩) (n+1) G C .i64 i om om,D];have U:¬G=i:=om;simp[Result.andThen,sliced,U,bQ]
 have hn3:∀W,(Instr.slice 309 (.slice w.1.size (n+1) G) (some (.int .i64 ((i:Int)+1))) none none).run prog W=.ok (.slice (some ⟨w.1.size,(i+1)*2,none⟩) (n-i) (G-(i+1))) W:=λW=>by
  rw[dk W 309 (some ⟨w.1.size,0,none⟩) (n+1) G C .i64 ((i:Int)+1) om om,D];have e:((i:Int)+1).toNat=i+1:=by omega
  have U:¬G=i+1:=om;have h2:n+1-(i+1)=n-i:=om;simp[Result.andThen,sliced,U,e,h2,bQ]
 obtain⟨W1,I⟩:=lg (w.drew.alloc (.cells l 308));rw[<-I]at vh;have p1:aj W1 w:=I▸⟨((aY _ w).drew).alloc (an _) _⟩;have k1:W1.heap[w.1.size]?=some (.cells l 308 (0,0)):=by rw[I];exact hx w.drew _
 have k2:aB W1 m 308 us.toArray:=hb.keep p1.st;have k3:aI W1 B 308 2 (some ⟨g,0,none⟩) n n vs:=h.keep p1.st;have s1:W1.1.size=w.1.size+1:=by rw[I];simp
 have Q:∀(W:ay),W.heap=W1.heap->∀F,(Builtin.copy_ #[309,309] F #[.slice (some ⟨w.1.size,i*2,none⟩) (n+1-i) (G-i),(m,1,1)]).run prog W=.ok (goInt 1) (W.setRow w.1.size (l.toList.take (i*2)++us++l.toList.drop (i*2+us.length)).toArray):=λW hW F=>by
  have:=e0 (P:=prog) (w:=W) (E:=308) (k:=2) (g:=w.1.size) (o:=i*2) (cs:=us) (cur:=l) 309 309 F (n+1-i) (G-i) ⟨m,0,none⟩ 1 1 r R (by rw[hW];exact k1) (by simp only[hl,jA (show 1<=n+1-i by omega),ny]) (λj v L=>by
   rw[bQ,bX];have e1:W.heap[m]?=some (.cells us.toArray 308 (0,0)):=by rw[hW];exact k2
   simp[World.cell?,e1];simpa using L) (by rw[hl,T];omega) HJ
  rw[jA (show 1<=n+1-i by omega)]at this;exact this
 obtain⟨X,hX⟩:=lg ((l.toList.take (i*2)++us++l.toList.drop (i*2+us.length)).toArray);rw[<-hX]at Q;have M:X.size=G*2:=by rw[hX,km,a1,a1,bB,dZ,g5,hl,T];omega
 have Pq:X.toList.take ((i+1)*2)=vs.take (i*2)++us:=by
  rw[hX];rw[Pp,e9 (by rw[a1,bB,z,hl];omega)]
 have J:(vs.drop (i*2)).length=(n-i)*2:=by rw[dZ,z];omega
 have k4:(W1.setRow w.1.size X).heap[w.1.size]?=some (.cells X 308 (0,0)):=bH k1 X;have XS:g≠w.1.size:=om;obtain⟨Y,hY⟩:=lg ((X.toList.take ((i+1)*2)++vs.drop (i*2)++X.toList.drop ((i+1)*2+(vs.drop (i*2)).length)).toArray);have Pr:Y.size=G*2:=by rw[hY,km,a1,a1,bB,J,dZ,g5,M];omega
 have Ps:Y.toList.take ((n+1)*2)=vs.take (i*2)++us++vs.drop (i*2):=by
  rw[hY]
  show List.take ((n+1)*2) (X.toList.take ((i+1)*2)++vs.drop (i*2)++X.toList.drop ((i+1)*2+(vs.drop (i*2)).length))=_
  rw[e9 (by rw[a1,bB,g5,M,J];omega),Pq]
 have Pt:∀(W:ay),W.heap=(W1.setRow w.1.size X).heap->∀F,(Builtin.copy_ #[309,309] F #[.slice (some ⟨w.1.size,(i+1)*2,none⟩) (n-i) (G-(i+1)),.slice (some ⟨g,i*2,none⟩) (n-i) (n-i)]).run prog W=.ok (goInt ((n-i:Nat):Int)) (W.setRow w.1.size Y):=λW hW F=>by
  have k5:aI W B 308 2 (some ⟨g,0,none⟩) n n vs:=k3.same λad e=>by
   cases e;rw[hW,ba XS]
  have:=e0 (P:=prog) (w:=W) (E:=308) (k:=2) (g:=w.1.size) (o:=(i+1)*2) (cs:=vs.drop (i*2)) (cur:=X) 309 309 F (n-i) (G-(i+1)) ⟨g,i*2,none⟩ (n-i) (n-i) r R (by rw[hW];exact k4) (by rw[J,ku om]) (λj v L=>by
   rw[ff]at L;have⟨g2,K,ja⟩:=k5.cell L;injection K with K;cases K
   rw[bQ];exact ja) (by rw[J,M];omega) (λv hv=>h1 v (dC hv))
  rw[ku (an (n-i))]at this;rw[hY];exact this
 change Hx _ at Pr Ps;clear hY V S O y Z hX M Pq J T Pp s1 I C D r R N L0 iQ oQ CQ hc ht h1 h;have mixed:prog.follows .mixedOrders=true:=aq;have tr:((i:Int)==(n:Int))=false:=by simp;omega
 have XP:decide ((n:Int)<(n:Int)+1)=true:=by simp;omega
 have UA:IntKind.i64.wrap ((i:Int)+1)=(i:Int)+1:=by rw[aV];omega
 go_in
 go_wp2_with (first
  |(at_builtin;refine Lib.wpList_append_run _ rfl _ _ 309 3 rfl _ _ rfl rfl _ _ (vh _) ?_)
  |(at_builtin;refine gy _ rfl _ _ 309 309 rfl _ _ rfl rfl (Q _ rfl _) ?_))
 go_region_law_o (refine eg rfl _ _ 309 309 rfl _ _ (by simp[Act.eval,Act.put]) (by simp[Act.eval,Act.put]) (Pt (W1.setRow w.1.size X).drew rfl _) ?_)
 go_wp2
 go_ret;have p2:aj (W1.setRow w.1.size X) w:=⟨⟨p1.st.os,p1.st.tape,p1.st.output,by rw[size_setRow];exact p1.st.size,λb hb=>by rw[ba om];exact p1.st.block b hb⟩⟩;have hh:(W1.setRow w.1.size X).drew.heap[w.1.size]?=some (.cells X 308 (0,0)):=k4;refine⟨some ⟨w.1.size,0,none⟩,G,rfl,?_,cP.fresh ⟨p2.st.os,p2.st.tape,p2.st.output,by rw[size_setRow];exact p2.st.size,λb hb=>by rw[ba om];exact p2.st.block b hb⟩ (an _)⟩;exact .mk' hB (bH hh Y) XQ Po Pr.o Ps.o
def XT(h:aI w B 308 2 A c n vs)(z:∀v∈vs,v.oneCell'=true)(hb:aB w m 308 us.toArray)(j:us.length=2)(b:∀u∈us,u.oneCell'=true)(hv:∀C,A=some C->C.block≠m)(E:y=(i:Int))(hi:i<=n)(l:n<=16777216)(D:B<=w.1.size):
  () 248 #[(A,n,c),y,(m,1,1)] w (jN w B 308 2 A (n+1) (vs.take (i*2)++us++vs.drop (i*2))):=by
 subst E;have r:vs.length=n*2:=h.1;have F:=h.le;by_cases G:i=n
 .subst G;have:=HI h hb j b l D;rwa[show vs.take (i*2)++us++vs.drop (i*2)=vs++us from by rw[<-r,dJ,rO,fG]]
 .rcases h.form with⟨_,rfl,_⟩|⟨g,I,rfl,_⟩
  .omega
  .by_cases J:n+1<=c
   .exact CP h z hb j b (λe=>hv _ rfl e.symm) om J l
   .obtain rfl:c=n:=om;exact EB h z hb j b om l D
def HK(h:aI w B 311 3 A c n vs)(hb:aB w m 311 us.toArray)(y:us.length=3)(l:∀u∈us,u.oneCell'=true)(D:n<=16777216)(C:B<=w.1.size):
  () 247 #[(A,n,c),n,(m,1,1)] w (jN w B 311 3 A (n+1) (vs++us)):=by
 have⟨A',c',w1,hr,h2,h3⟩:=qY (P:=prog) h 194 194 aq 24 (z:=.agg #[au,au,au]) aq (by rfl) ak ak hb y l om C;have b:prog.underlying 194=some (.slice (prog.elem 194)):=aq;have e:∀W,(sizeOf (prog.elem 194)).run prog W=.ok 3 W:=λW=>by
  have⟨ii,e1,e2⟩:=bD.1 (show(prog.info? (prog.elem 194)).map (·.size)=some 3 from by kernel_rfl);simp[sizeOf,typeInfo,e1,e2]
 have j:∃r,∀W,(Instr.slice 194 (A,n,c) (some (.int .i64 (n:Int))) none none).run prog W=.ok (.slice r 0 (c-n)) W:=⟨if c=n then A else A.map (·.add (n*3)),λW=>by
  rw[dk W 194 A n c b .i64 n om om,e];cases A<;>simp[Result.andThen,sliced]⟩
 have⟨r,j⟩:=j;clear b e
 go_in
 go_wp2_with (at_builtin;refine Lib.wpList_append_run _ rfl _ _ 194 194 rfl _ _ rfl rfl _ _ hr ?_)
 go_ret;exact⟨A',c',rfl,h2,h3⟩
def CR(h:aI w B 311 3 (some ⟨g,0,none⟩) c n vs)(h1:∀v∈vs,v.oneCell'=true)(hb:aB w m 311 us.toArray)(M:us.length=3)(HJ:∀u∈us,u.oneCell'=true)(hv:m≠g)(hi:i<n)(hr:n+1<=c)(hn:n<=16777216):
  () 247 #[(g,n,c),i,(m,1,1)] w (jN w B 311 3 (some ⟨g,0,none⟩) (n+1) (vs.take (i*3)++us++vs.drop (i*3))):=by
 obtain⟨cur,hg,hB,hle,hm,U,ht,N⟩:=h.whole;have vg:vs.length=n*3:=h.1;have y:prog.underlying 194=some (.slice (prog.elem 194)):=aq;have b:prog.underlying 194=some (.slice 311):=aq;have C:(prog.info? 311).map (·.size)=some 3:=aq;have G:∀W,(sizeOf 311).run prog W=.ok 3 W:=λW=>by
  have⟨ii,J,D⟩:=bD.1 C;simp[sizeOf,typeInfo,J,D]
 have z:∀W,(sizeOf (prog.elem 194)).run prog W=.ok 3 W:=λW=>by
  obtain⟨ii,J,D⟩:=bD.1 (show(prog.info? (prog.elem 194)).map (·.size)=some 3 from by kernel_rfl);simp[sizeOf,typeInfo,J,D]
 have XN:c<=9223372036854775807:=by unfold maxLen at hm;omega
 have pf:∀W,(Instr.slice 194 (g,n,c) (some (.int .i64 (i:Int))) none none).run prog W=.ok (.slice (some ⟨g,i*3,none⟩) (n-i) (c-i)) W:=λW=>by
  rw[dk W 194 (some ⟨g,0,none⟩) n c y .i64 i om om,z];have O:¬c=i:=om;simp[Result.andThen,sliced,O,bQ]
 have xb:∀W,(Instr.slice 194 (g,n,c) none (some (.int .i64 ((n:Int)+1))) none).run prog W=.ok (.slice g (n+1) c) W:=λW=>by
  rw[kr W 194 (some ⟨g,0,none⟩) n c y .i64 ((n:Int)+1) om om,z];have e:((n:Int)+1).toNat=n+1:=by omega
  simp[Result.andThen,sliced,Addr.add,e]
 have LZ:∀W,(Instr.slice 194 (.slice g (n+1) c) (some (.int .i64 ((i:Int)+1))) none none).run prog W=.ok (.slice (some ⟨g,(i+1)*3,none⟩) (n-i) (c-(i+1))) W:=λW=>by
  rw[dk W 194 (some ⟨g,0,none⟩) (n+1) c y .i64 ((i:Int)+1) om om,z];have e:((i:Int)+1).toNat=i+1:=by omega
  have O:¬c=i+1:=om;have h2:n+1-(i+1)=n-i:=om;simp[Result.andThen,sliced,O,e,h2,bQ]
 have vf:∀W,(Instr.slice 194 (.slice g (n+1) c) (some (.int .i64 (i:Int))) none none).run prog W=.ok (.slice (some ⟨g,i*3,none⟩) (n+1-i) (c-i)) W:=λW=>by
  rw[dk W 194 (some ⟨g,0,none⟩) (n+1) c y .i64 i om om,z];have O:¬c=i:=om;simp[Result.andThen,sliced,O,bQ]
 have XO:∀lb cb,(callFunc 275 #[(m,1,1),.slice (some ⟨g,(i+1)*3,none⟩) lb cb]).run prog w=.ok (.value (.bool false)) w:=λlb cb=>by
  rw[run_callFunc_extern func275 aq aq aq (e:=Extern.SlicesOverlaps.overlaps #[194,194] #[4]) aq,
   Lib.run_overlaps_apart w 194 4 311 b 3 G ⟨m,0,none⟩ ⟨g,(i+1)*3,none⟩ 1 1 lb cb hv 311 311 3 (c*3) (by have:=hb;unfold aB at this;simp[World.shape?,this,M]) (by simp[World.shape?,hg,U]) om (hb.frozen _) (hb.frozen _)]
  rfl
 have l:(vs.drop (i*3)).length=(n-i)*3:=by rw[dZ,vg];omega
 have I:∀K,(Builtin.copy_ #[194,194] K #[.slice (some ⟨g,(i+1)*3,none⟩) (n-i) (c-(i+1)),.slice (some ⟨g,i*3,none⟩) (n+1-i) (c-i)]).run prog w.drew=.ok (goInt ((n-i:Nat):Int)) (w.drew.setRow g (cur.toList.take ((i+1)*3)++vs.drop (i*3)++cur.toList.drop ((i+1)*3+(vs.drop (i*3)).length)).toArray):=λK=>by
  have:=e0 (P:=prog) (w:=w.drew) (E:=311) (k:=3) (g:=g) (o:=(i+1)*3) (cs:=vs.drop (i*3)) (cur:=cur) 194 194 K (n-i) (c-(i+1)) ⟨g,i*3,none⟩ (n+1-i) (c-i) b C hg (by rw[l,ku om]) (λj v V=>by
   rw[ff]at V;have⟨g2,D,ja⟩:=h.cell V;injection D with D;cases D
   rw[bQ];exact ja) (by rw[l,U];omega) (λv hv=>h1 v (dC hv))
  rw[ku (show n-i<=n+1-i by omega)]at this;exact this
 obtain⟨X,Z⟩:=lg ((cur.toList.take ((i+1)*3)++vs.drop (i*3)++cur.toList.drop ((i+1)*3+(vs.drop (i*3)).length)).toArray);rw[<-Z]at I;have r:cur.toList.length=c*3:=by rw[g5];exact U
 have F:X.size=c*3:=by rw[Z,km,a1,a1,bB,l,dZ,r];omega
 have L:X.toList.take ((n+1)*3)=cur.toList.take ((i+1)*3)++vs.drop (i*3):=by
  rw[Z,eK (by rw[a1,bB,l,r];omega),bR (by rw[a1,bB,l,r];omega)]
 have Q:=bH (w:=w.drew) hg X;obtain⟨Y,hY⟩:=lg ((X.toList.take (i*3)++us++X.toList.drop (i*3+us.length)).toArray);have R:Y.size=c*3:=by rw[hY,km,a1,a1,bB,dZ,g5,F,M];omega
 have S:Y.toList.take ((n+1)*3)=vs.take (i*3)++us++vs.drop (i*3):=by
  have J:X.toList.take (i*3)=vs.take (i*3):=by
   have:=cv (List.take (i*3)) L;rw[ez,dt om,eK (by rw[bB,r];omega),ez,dt om]at this;rw[this,<-ht,ez,dt om]
  have D:(X.toList.take ((n+1)*3)).drop (i*3+us.length)=vs.drop (i*3):=by
   rw[L,M,nt (by rw[bB,r];omega)]
  have e3:(X.toList.take (i*3)++us).length=i*3+us.length:=by rw[a1,bB,g5,F];omega
  rw[hY];rw[rT,e3,bR (by rw[e3,M];omega),<-D,J,rS]
 have T:∀(W:ay),W.heap=(w.drew.setRow g X).heap->∀K,(Builtin.copy_ #[194,194] K #[.slice (some ⟨g,i*3,none⟩) (n+1-i) (c-i),(m,1,1)]).run prog W=.ok (goInt 1) (W.setRow g Y):=λW hW K=>by
  have:=e0 (P:=prog) (w:=W) (E:=311) (k:=3) (g:=g) (o:=i*3) (cs:=us) (cur:=X) 194 194 K (n+1-i) (c-i) ⟨m,0,none⟩ 1 1 b C (by rw[hW];exact Q) (by simp only[M,jA (show 1<=n+1-i by omega),ny]) (λj v V=>by
   rw[bQ,bX];have J:W.heap[m]?=some (.cells us.toArray 311 (0,0)):=by rw[hW,ba hv];exact hb
   simp[World.cell?,J];simpa using V) (by rw[M,F];omega) HJ
  rw[jA (show 1<=n+1-i by omega)]at this;rw[hY];exact this
 change Hx _ at R S;have mixed:prog.follows .mixedOrders=true:=aq;clear hY Z F L r l y z b G C U ht h1 h;have tr:((i:Int)==(n:Int))=false:=by simp;omega
 have XP:decide ((c:Int)<(n:Int)+1)=false:=by simp;omega
 have UA:IntKind.i64.wrap ((i:Int)+1)=(i:Int)+1:=by rw[aV];omega
 go_in
 go_wp2_with (simp only[XO])
 go_region_law_o (refine eg rfl _ _ 194 194 rfl _ _ (by simp[Act.eval,Act.put]) (by simp[Act.eval,Act.put]) (I _) ?_)
 go_wp2_with (at_builtin;refine gy _ rfl _ _ 194 194 rfl _ _ rfl rfl (T _ rfl _) ?_)
 go_ret;refine⟨some ⟨g,0,none⟩,c,rfl,?_,((cP.refl _ w).drew.trans (d5 (w:=w.drew) N X)).trans (d5 (by rw[size_setRow];exact N) _)⟩;exact .mk' hB (bH Q Y) hr hm R.o S.o
def ED(h:aI w B 311 3 (some ⟨g,0,none⟩) n n vs)(h1:∀v∈vs,v.oneCell'=true)(hb:aB w m 311 us.toArray)(hl:us.length=3)(HJ:∀u∈us,u.oneCell'=true)(hi:i<n)(hn:n<=16777216)(hB:B<=w.1.size):
  () 247 #[(g,n,n),.int .i64 (i:Int),(m,1,1)] w (jN w B 311 3 (some ⟨g,0,none⟩) (n+1) (vs.take (i*3)++us++vs.drop (i*3))):=by
 obtain⟨cur,hg,-,-,hm,hc,ht,EC⟩:=h.whole;have z:vs.length=n*3:=h.1;have C:prog.underlying 194=some (.slice (prog.elem 194)):=aq;have r:prog.underlying 194=some (.slice 311):=aq;have N:(prog.info? 311).map (λi=>(i.zero,i.size,i.bytes))=some (some (.agg #[au,au,au]),3,24):=aq;have R:(prog.info? 311).map (·.size)=some 3:=aq;have⟨ii,L0,fk⟩:=bD.1 N;simp only[dL]at fk;have⟨iQ,oQ,CQ⟩:=fk;have D:∀W,(sizeOf (prog.elem 194)).run prog W=.ok 3 W:=λW=>by
  have⟨ii,e1,K⟩:=bD.1 (show(prog.info? (prog.elem 194)).map (·.size)=some 3 from by kernel_rfl);simp[sizeOf,typeInfo,e1,K]
 have pf:∀W,(Instr.slice 194 (g,n,n) (some (.int .i64 (i:Int))) none none).run prog W=.ok (.slice (some ⟨g,i*3,none⟩) (n-i) (n-i)) W:=λW=>by
  rw[dk W 194 (some ⟨g,0,none⟩) n n C .i64 i om om,D];have U:¬n=i:=om;simp[Result.andThen,sliced,U,bQ]
 have xb:∀W,(Instr.slice 194 (g,n,n) none (some (.int .i64 (i:Int))) none).run prog W=.ok (.slice g i n) W:=λW=>by
  rw[kr W 194 (some ⟨g,0,none⟩) n n C .i64 i om om,D];simp[Result.andThen,sliced,Addr.add]
 have V:(n:Int)+1-(i:Int)=((n+1-i:Nat):Int):=by omega
 have S:i+(n+1-i)=n+1:=om;have O:(Builtin.firstCells ii.size i (.slice g i n)).run prog w.drew=.ok (vs.take (i*3)).toArray w.drew:=by
  rw[oQ];exact Ci w.drew 3 i ⟨g,0,none⟩ i n (vs.take (i*3)) (by rw[bB,z];omega) (λj v L=>by
   rw[bQ,bX];rw[eY]at L
   split at L
   .have⟨g2,K,ja⟩:=h.cell L;injection K with K;cases K
    exact ja
   .cases L)
 obtain⟨G,Z⟩:=lg (grownCap w (n+1) n 311);obtain⟨l,y⟩:∃l:Array Value,l=(vs.take (i*3)).toArray++Builtin.zeroCells (Value.cells (.agg #[au,au,au])) (n+1-i)++Builtin.zeroCells (Value.cells (.agg #[au,au,au])) (G-(n+1)):=⟨_,rfl⟩;have vh:∀F,(Builtin.append_ #[194,3] F #[.slice g i n,.int .i64 ((n:Int)+1-(i:Int))]).run prog w=
   .ok (.slice w.1.size (n+1) G) (w.drew.alloc (.cells l 311)):=λF=>by
  have h:=Lib.run_append_grow_zeros (P:=prog) w 194 3 F 311 ii _ .i64 .i64 r aq L0 iQ g i n (vs.take (i*3)) O (n+1-i) om (by rw[oQ];decide) om om (by rw[CQ];omega) (by rw[CQ,S];exact Cr om om);rw[S]at h;rw[V,Z,y,Z];exact h
 have XQ:n+1<=G:=by rw[Z];exact nA w _ _ _
 have Po:G<=maxLen:=by rw[Z];exact p0 w (n+1) n 311 (by unfold maxLen;omega)
 have T:l.size=G*3:=by
  rw[y];simp[Builtin.zeroCells,Value.cells,z];omega
 have Pp:l.toList.take (i*3)=vs.take (i*3):=by
  rw[y];simp only[Cg];rw[dg,e9 (by simp[z];omega)]
 have XR:∀W,(Instr.slice 194 (.slice w.1.size (n+1) G) (some (.int .i64 (i:Int))) none none).run prog W=.ok (.slice (some ⟨w.1.size,i*3,none⟩) (n+1-i) (G-i)) W:=λW=>by
  rw[dk W 194 (some ⟨w.1.size,0,none⟩) (n+1) G C .i64 i om om,D];have U:¬G=i:=om;simp[Result.andThen,sliced,U,bQ]
 have hn3:∀W,(Instr.slice 194 (.slice w.1.size (n+1) G) (some (.int .i64 ((i:Int)+1))) none none).run prog W=.ok (.slice (some ⟨w.1.size,(i+1)*3,none⟩) (n-i) (G-(i+1))) W:=λW=>by
  rw[dk W 194 (some ⟨w.1.size,0,none⟩) (n+1) G C .i64 ((i:Int)+1) om om,D];have e:((i:Int)+1).toNat=i+1:=by omega
  have U:¬G=i+1:=om;have h2:n+1-(i+1)=n-i:=om;simp[Result.andThen,sliced,U,e,h2,bQ]
 obtain⟨W1,I⟩:=lg (w.drew.alloc (.cells l 311));rw[<-I]at vh;have p1:aj W1 w:=I▸⟨((aY _ w).drew).alloc (an _) _⟩;have k1:W1.heap[w.1.size]?=some (.cells l 311 (0,0)):=by rw[I];exact hx w.drew _
 have k2:aB W1 m 311 us.toArray:=hb.keep p1.st;have k3:aI W1 B 311 3 (some ⟨g,0,none⟩) n n vs:=h.keep p1.st;have s1:W1.1.size=w.1.size+1:=by rw[I];simp
 have Q:∀(W:ay),W.heap=W1.heap->∀F,(Builtin.copy_ #[194,194] F #[.slice (some ⟨w.1.size,i*3,none⟩) (n+1-i) (G-i),(m,1,1)]).run prog W=.ok (goInt 1) (W.setRow w.1.size (l.toList.take (i*3)++us++l.toList.drop (i*3+us.length)).toArray):=λW hW F=>by
  have:=e0 (P:=prog) (w:=W) (E:=311) (k:=3) (g:=w.1.size) (o:=i*3) (cs:=us) (cur:=l) 194 194 F (n+1-i) (G-i) ⟨m,0,none⟩ 1 1 r R (by rw[hW];exact k1) (by simp only[hl,jA (show 1<=n+1-i by omega),ny]) (λj v L=>by
   rw[bQ,bX];have e1:W.heap[m]?=some (.cells us.toArray 311 (0,0)):=by rw[hW];exact k2
   simp[World.cell?,e1];simpa using L) (by rw[hl,T];omega) HJ
  rw[jA (show 1<=n+1-i by omega)]at this;exact this
 obtain⟨X,hX⟩:=lg ((l.toList.take (i*3)++us++l.toList.drop (i*3+us.length)).toArray);rw[<-hX]at Q;have M:X.size=G*3:=by rw[hX,km,a1,a1,bB,dZ,g5,hl,T];omega
 have Pq:X.toList.take ((i+1)*3)=vs.take (i*3)++us:=by
  rw[hX];rw[Pp,e9 (by rw[a1,bB,z,hl];omega)]
 have J:(vs.drop (i*3)).length=(n-i)*3:=by rw[dZ,z];omega
 have k4:(W1.setRow w.1.size X).heap[w.1.size]?=some (.cells X 311 (0,0)):=bH k1 X;have XS:g≠w.1.size:=om;obtain⟨Y,hY⟩:=lg ((X.toList.take ((i+1)*3)++vs.drop (i*3)++X.toList.drop ((i+1)*3+(vs.drop (i*3)).length)).toArray);have Pr:Y.size=G*3:=by rw[hY,km,a1,a1,bB,J,dZ,g5,M];omega
 have Ps:Y.toList.take ((n+1)*3)=vs.take (i*3)++us++vs.drop (i*3):=by
  rw[hY]
  show List.take ((n+1)*3) (X.toList.take ((i+1)*3)++vs.drop (i*3)++X.toList.drop ((i+1)*3+(vs.drop (i*3)).length))=_
  rw[e9 (by rw[a1,bB,g5,M,J];omega),Pq]
 have Pt:∀(W:ay),W.heap=(W1.setRow w.1.size X).heap->∀F,(Builtin.copy_ #[194,194] F #[.slice (some ⟨w.1.size,(i+1)*3,none⟩) (n-i) (G-(i+1)),.slice (some ⟨g,i*3,none⟩) (n-i) (n-i)]).run prog W=.ok (goInt ((n-i:Nat):Int)) (W.setRow w.1.size Y):=λW hW F=>by
  have k5:aI W B 311 3 (some ⟨g,0,none⟩) n n vs:=k3.same λad e=>by
   cases e;rw[hW,ba XS]
  have:=e0 (P:=prog) (w:=W) (E:=311) (k:=3) (g:=w.1.size) (o:=(i+1)*3) (cs:=vs.drop (i*3)) (cur:=X) 194 194 F (n-i) (G-(i+1)) ⟨g,i*3,none⟩ (n-i) (n-i) r R (by rw[hW];exact k4) (by rw[J,ku om]) (λj v L=>by
   rw[ff]at L;have⟨g2,K,ja⟩:=k5.cell L;injection K with K;cases K
   rw[bQ];exact ja) (by rw[J,M];omega) (λv hv=>h1 v (dC hv))
  rw[ku (an (n-i))]at this;rw[hY];exact this
 change Hx _ at Pr Ps;clear hY V S O y Z hX M Pq J T Pp s1 I C D r R N L0 iQ oQ CQ hc ht h1 h;have mixed:prog.follows .mixedOrders=true:=aq;have tr:((i:Int)==(n:Int))=false:=by simp;omega
 have XP:decide ((n:Int)<(n:Int)+1)=true:=by simp;omega
 have UA:IntKind.i64.wrap ((i:Int)+1)=(i:Int)+1:=by rw[aV];omega
 go_in
 go_wp2_with (first
  |(at_builtin;refine Lib.wpList_append_run _ rfl _ _ 194 3 rfl _ _ rfl rfl _ _ (vh _) ?_)
  |(at_builtin;refine gy _ rfl _ _ 194 194 rfl _ _ rfl rfl (Q _ rfl _) ?_))
 go_region_law_o (refine eg rfl _ _ 194 194 rfl _ _ (by simp[Act.eval,Act.put]) (by simp[Act.eval,Act.put]) (Pt (W1.setRow w.1.size X).drew rfl _) ?_)
 go_wp2
 go_ret;have p2:aj (W1.setRow w.1.size X) w:=⟨⟨p1.st.os,p1.st.tape,p1.st.output,by rw[size_setRow];exact p1.st.size,λb hb=>by rw[ba om];exact p1.st.block b hb⟩⟩;have hh:(W1.setRow w.1.size X).drew.heap[w.1.size]?=some (.cells X 311 (0,0)):=k4;refine⟨some ⟨w.1.size,0,none⟩,G,rfl,?_,cP.fresh ⟨p2.st.os,p2.st.tape,p2.st.output,by rw[size_setRow];exact p2.st.size,λb hb=>by rw[ba om];exact p2.st.block b hb⟩ (an _)⟩;exact .mk' hB (bH hh Y) XQ Po Pr.o Ps.o
def XU(h:aI w B 311 3 A c n vs)(z:∀v∈vs,v.oneCell'=true)(hb:aB w m 311 us.toArray)(j:us.length=3)(b:∀u∈us,u.oneCell'=true)(hv:∀C,A=some C->C.block≠m)(E:y=(i:Int))(hi:i<=n)(l:n<=16777216)(D:B<=w.1.size):
  () 247 #[(A,n,c),y,(m,1,1)] w (jN w B 311 3 A (n+1) (vs.take (i*3)++us++vs.drop (i*3))):=by
 subst E;have r:vs.length=n*3:=h.1;have F:=h.le;by_cases G:i=n
 .subst G;have:=HK h hb j b l D;rwa[show vs.take (i*3)++us++vs.drop (i*3)=vs++us from by rw[<-r,dJ,rO,fG]]
 .rcases h.form with⟨_,rfl,_⟩|⟨g,I,rfl,_⟩
  .omega
  .by_cases J:n+1<=c
   .exact CR h z hb j b (λe=>hv _ rfl e.symm) om J l
   .obtain rfl:c=n:=om;exact ED h z hb j b om l D
end
variable{X:World}{h:Int}{T':TypeId}{i4:Array Value}
def oR(w:ay)(B:Nat)(A:cD)(n c:Nat)(F:Nat->Prop)(t:Tb):Prop:=
 (n=0/\t=[]/\∀b,¬F b)\/(n=1/\∃q r e,A=some ⟨q,0,none⟩/\aI w B 309 1 (some ⟨q,0,none⟩) c 1 [.slice (some ⟨r,0,none⟩) t e]/\aI w B 308 2 (some ⟨r,0,none⟩) e t.length (ic t)/\0<t.length/\∀b,F b↔b=q\/b=r)
section
variable{w:World}{o n B k:Nat}{t:Tb}{F:Nat->Prop}{b:Bool}
theorem aI.is_(h:aI w B 308 2 A c k (ic t)):Is w A t.length t:=by
 refine⟨λj x C=>?_,rfl⟩;obtain⟨a0,D⟩:=CN C;obtain⟨g,e,E⟩:=h.cell a0;obtain⟨m,l,G⟩:=h.cell D;have I:m=g:=by rw[e]at l;injection l with l;injection l with l;exact l.symm
 subst I;exact⟨m,0,e,h.lt _ e,by rw[bX];exact E,by rw[bX];exact G⟩
def KG(t:Tb):∀v∈ic t,v.oneCell'=true:=λv hv=>by
 obtain⟨x,_,e⟩:=nf.1 hv;simp at e;rcases e with rfl|rfl<;>rfl
def oR.keep(h:oR w B A n c F t)(D:∀b,F b->w'.heap[b]?=w.heap[b]?):oR w' B A n c F t:=by
 rcases h with⟨j,l,m⟩|⟨j,q,r,R,l,m,E,G,C⟩
 .exact .inl ⟨j,l,m⟩
 .exact .inr ⟨j,q,r,R,l,m.same λI e=>by injection e with e;subst e;exact D q ((C q).2 (.inl rfl)),E.same λI e=>by injection e with e;subst e;exact D r ((C r).2 (.inr rfl)),G,C⟩
def oR.at(h:oR w B A n c F t)[aF w w']:oR w' B A n c F t:=by
 rcases h with⟨e,j,l⟩|⟨e,q,r,R,j,l,m,C,D⟩
 .exact .inl ⟨e,j,l⟩
 .exact .inr ⟨e,q,r,R,j,l.at,m.at,C,D⟩
def xc{Q:World->Prop}{cs:eL}(h:∀u,aj u X->Bx u X.1.size T cs->Bx u (X.1.size+1) T' i4->Q u):Q ((X.alloc (.cells cs T)).alloc (.cells i4 T')):=
 h _ (aK) ao ao
def sg[k0:Cl w g o (A,n,c)](I:Hx (oR w B A n c F t))(hr:Hx (gK t))(hn:Hx (t.length<=1000))(J:Hx (gI t y=j))(hb:Hx (g9 t y=b)):
  () 205 #[.pointer (some ⟨g,o,none⟩),y] w (aD w (.tuple #[au,j,.bool b])):=by
 obtain⟨CB,CP⟩:=h5;have CC:=@ct;have o1:Old g w:=⟨cE k0.eq⟩;rcases I.o with⟨L,G,-⟩|⟨L,q,r,R,G,h3,M,N,-⟩
 .subst L;have O:Hx (j=0):=ae (by rw[<-J.o,G];rfl);have P:Hx (b=false):=ae (by rw[<-hb.o,G];rfl);clear I G
  go_in
  go_upto_region 1 with fail
  refine xc (λQ _ kp S=>?_)
  go_wp2_with (go_at_call 252;refine mv Pn λu1 _=>?_)
  refine a8 (v:=.tuple #[au,au,.bool false]) (by simp[results,results205,go_sem]) rfl ⟨by rw[O.o,P.o];rfl,aK⟩
 .subst L G;obtain⟨⟨x,hx⟩,tl,ht⟩:∃e tl,t=e::tl:=by
   cases t with
   |nil=>simp at N
   |cons e tl=>exact⟨e,tl,rfl⟩
  have c1:Cl w q 0 (.slice r t R):=⟨by obtain⟨g,e,T⟩:=h3.cell (j:=0) rfl;injection e with e;injection e with e;subst e;exact T⟩;have c2:Cl w r 0 x:=⟨by obtain⟨g,e,T⟩:=M.cell (j:=0) (v:=.int .i64 x) (by rw[ht];rfl);injection e with e;injection e with e;subst e;exact T⟩;have i1:Is w r t.length t:=M.is_;have o2:Old q w:=⟨cE c1.eq⟩;obtain⟨m,hm⟩:=lh t.length;have HM:Hx (m<=100000):=ae (by rw[<-hm];have:=hn.o;omega);rw[hm]at c1 i1 N;obtain⟨p,hp⟩:=lh (decide (0<mQ x y));have D:Hx (∀(u:ay) (U V:Nat) (T1 T2:TypeId),Bx u U T1 #[.pointer (some ⟨g,o,none⟩)]->Bx u V T2 #[y]->aF w u->∀(v:ay) (i:Nat),Hx (i=0)->aj v u->() 253 #[.int .i64 (i:Int),.pointer (some ⟨U,0,none⟩),.pointer (some ⟨V,0,none⟩)] v (aD v (.bool p))):=ae λu U V T1 T2 k1 k2 l v i hi pv=>by
   have X:i=0:=hi.o;subst X;rw[<-hp];have pw:aj v w:=⟨dW l.st pv.st⟩;exact XK (g:=g) (o:=o) (q:=q) (r:=r) N
  have HP:=ae hp;have HT:=ae ht;clear hp ht hm h3 M I
  go_in
  go_upto_region 1 with fail
  refine xc (λQ _ kp S=>?_);rcases p with _|_
  .have Y:Hx ((1:Nat)=if false=true then 0 else 1):=ae rfl;have E:=ae (D.o Q _ _ _ _ kp S ao);have w0:IntKind.i64.wrap 0=0:=ak;clear D
   go_upto_region 4 with(go_at_call 252;refine mv (KE Y E) λu1 _=>?_)
   refine am aq (λux _=>?_);refine qL [0,1,2,3,4,5,6,7,8] ?_;refine aM 9 λK hK=>?_;go_simp
   (with_reducible refine(aaL hr HM.o J hb).mono ?_)
   rintro e ux ⟨rfl,_⟩;dsimp only;refine aL hK ?_;refine qL [10,11,12,13,14] ?_;refine aZ ?_
   go_wp2_with fail
   refine a8 (v:=.tuple #[au,j,.bool b]) (by simp[results,results205,go_sem]) rfl ⟨rfl,aK⟩
  .have Y:Hx ((0:Nat)=if true=true then 0 else 1):=ae rfl;have E:=ae (D.o Q _ _ _ _ kp S ao);have Z:y<x:=by
    have:=HP.o;simp at this;unfold mQ at this
    split at this
    .omega
    .split at this
     .assumption
     .omega
   have C:∀e∈t,¬e.1<=y:=λe he=>by
    rw[HT.o]at he;rcases bT.1 he with rfl|he
    .dsimp only;omega
    .have h9:=hr.o;rw[HT.o]at h9;have:=(g6.1 h9).1 e he;dsimp only at this;omega
   have O:Hx (j=0):=ae (by rw[<-J.o];exact AB λe he=>by have:=C e he;omega);have P:Hx (b=false):=ae (by rw[<-hb.o];exact tx.2 λz hz=>C _ hz (dM _));clear D Z C
   go_wp2_with (go_at_call 252;refine mv (KE Y E) λu1 _=>?_)
   refine a8 (v:=.tuple #[au,au,.bool false]) (by simp[results,results205,go_sem]) rfl ⟨by rw[O.o,P.o];rfl,aK⟩
end
