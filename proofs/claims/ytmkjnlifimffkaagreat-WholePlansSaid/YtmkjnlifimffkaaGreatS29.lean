/- Lemmas. -/
import Derived.Laws.BitsLemmas
import Derived.Test.YtmkjnlifimffkaaGreatS20
namespace Go.Proofs.YtmkjnlifimffkaaGreat
open Go.RowKit Tryz
set_option linter.all false
set_option maxRecDepth 100000
set_option maxHeartbeats 0
variable{Γ:Prop}
attribute[local irreducible]Calls
variable{p w w':World}{A B:Option Addr}{b c d g k m n off:Nat}{L' zs:List Int}{x z:Int}
class Bs(w:World)(A:Option Addr)(n:Nat)(zs:outParam (List Int)):Prop where
 rd:∀(j:Nat) (z:Int),zs[j]?=some z->∃b off,A=some ⟨b,off,none⟩/\b<w.1.size/\w.cell? (b,off+j)=some (.int .u8 z)/\0<=z/\z<256
 len:n=zs
section
variable{L:List Int}{sh:Bool}
instance(priority:=low) Bs.step[p:aj w' w][h:Bs w A n zs]:Bs w' A n zs:=⟨λj z l=>by
 obtain⟨b,off,e,hb,r,u⟩:=h.rd j z l;exact⟨b,off,e,bu hb p.st.size,(p.st.cell (p:=⟨b,off+j,none⟩) hb).trans r,u⟩,h.len⟩
def Bs.get(h:Bs w A n zs){k:Nat}(j:k<n):∃b off z,A=some ⟨b,off,none⟩/\Old b w/\w.cell? (b,off+k)=some (.int .u8 z)/\0<=z/\z<256/\Hx (zs[k]?=some z):=by
 have e:zs[k]?=some (zs[k]'(by rw[<-h.len];exact j)):=a5 _;obtain⟨b,off,rfl,hb,l,r,u⟩:=h.rd k _ e;exact⟨b,off,_,rfl,⟨hb⟩,l,r,u,ae e⟩
theorem Bs.drop(h:Bs w (some ⟨b,off,none⟩) n zs):Bs w (some ⟨b,off+k,none⟩) (n-k) (zs.drop k):=by
 refine⟨λj z l=>?_,by rw[h.len,eo]⟩;rw[fb]at l;obtain⟨C,r,e,hb,u,y⟩:=h.rd (k+j) z l;cases e;exact⟨b,off+k,rfl,hb,by rw[lM];exact u,y⟩
theorem Bs.take(h:Bs w A n zs)(e:k<=n):Bs w A k (zs.take k):=by
 refine⟨λj z b=>?_,by rw[bO,<-h.len,dQ e]⟩;rw[eG]at b;split at b;exact h.rd j z b;cases b
theorem Bs.nil:Bs w A 0 []:=⟨λj z b=>by simp at b,rfl⟩
def Bs.all(h:Bs w A n zs):∀z∈zs,0<=z/\z<256:=λz b=>by
 obtain⟨j,e⟩:=eN b;obtain⟨_,_,_,_,_,l⟩:=h.rd j z e;exact l
def num(zs:au):Int:=zs.foldl (λn z=>n*256+z) 0
def QL(zs:au)(z:Int):num (zs++[z])=num zs*256+z:=by simp[num]
def DP:∀(zs:au) (n:Int) (a:Nat),0<=n->n<256^a->(∀z∈zs,0<=z/\z<256)->0<=zs.foldl (λn z=>n*256+z) n/\zs.foldl (λn z=>n*256+z) n<256^(a+zs.length)
 |[],n,a,b,e,_=>⟨b,e⟩
 |z::t,n,a,b,e,h=>by have l:=h z cm;have:=DP t (n*256+z) (a+1) om (by rw[El];omega) λx j=>h x (dp _ j);rw[jD,dj,show a+(t.length+1)=a+1+t.length from om];exact this
def r5{zs:au}(h:∀z∈zs,0<=z/\z<256):0<=num zs/\num zs<256^zs.length:=by
 have:=DP zs 0 0 (eI _) am h;rwa[cf]at this
def U8(e:0<=x)(l:x<72057594037927936)(j:0<=z)(r:z<256):bits .or .u64 (x*256) z=x*256+z:=by
 have b:(2:Int)^8=256:=by decide
 have:=H3 x z 8 e (by rw[b];omega) j (by rw[b];omega) om;rwa[b]at this
def U9(u:0<=x)(E:x<256)(y:0<=z)(F:z<256):bits .or .i64 (x*256) z=x*256+z:=by
 obtain⟨n,rfl⟩:=bJ u;obtain⟨m,rfl⟩:=bJ y;have C:(n:Int)*256=((n*256:Nat):Int):=by omega
 have j:(2:Nat)^16=65536:=by decide
 have l:(2:Int)^16=65536:=by decide
 rw[C,(bits_nat .i64 16 am (λn h D=>by rw[l]at D;rw[a7];omega) (n*256) m (by rw[j];omega) (by rw[j];omega)).2];have e:n*256|||m=n*256+m:=by have:=Eh (i:=8) (b:=m) om n;(have r:(2:Nat)^8=256:=by decide);rw[r]at this;rw[tG];omega
 rw[e];omega
def Va{m:Nat}(h:m<=7):(256:Int)^m<=72057594037927936:=by
 have b:=Nat.pow_le_pow_right (n:=256) am h;have e:(256:Nat)^7=72057594037927936:=by decide
 rw[e]at b;have j:(256:Int)^m=((256^m:Nat):Int):=by rw[tM];rfl
 rw[j];exact Int.ofNat_le.2 b
def uY(b o n c k:Nat)(l:k<=n)(r:n<=c):
  ∃j,(∀w,(Instr.slice 22 (.slice (some ⟨b,o,none⟩) n c) (some (.int .i64 (k:Int))) none none).run prog w=.ok (.slice j (n-k) (c-k)) w)/\(k<n->j=some ⟨b,o+k,none⟩):=by
 have hs:∀w,(sizeOf (prog.elem 22)).run prog w=.ok 1 w:=λw=>by obtain⟨i,hi,e⟩:=bt.1 (show(prog.info? (prog.elem 22)).map (·.size)=some 1 from by kernel_rfl);simp[sizeOf,typeInfo,hi,e]
 refine⟨if c=k then some ⟨b,o,none⟩else(⟨b,o,none⟩:Addr).add k,λw=>?_,λh=>?_⟩;rw[dN w 22 (some ⟨b,o,none⟩) n c ao .i64 k om om,hs];simp[Result.andThen,sliced];rw[ag om,cn]
def getM(k:Nat)(L:au)(sh:Bool):Int×List Int×Bool:=if sh=true\/k<1\/8<k\/L<k then(0,L,true)else(num (L.take k),L.drop k,false)
structure xI(p w:World)(g:Nat)(L:List Int)(sh:Bool):Prop where
 prev:aj w p
 bx:∃A c,az w g 124 #[.slice A L c,.bool sh]/\Bs p A L.length L/\L.length<=c
 hg:p<=g
structure Kg(g:Nat)(w w':World):Prop where
 size:w.1.size<=w'.1.size
 keep:∀b,b<w.1.size->b≠g->w'.heap[b]?=w.heap[b]?
 base:Below 0 w w'
def Kg.of[k:aT w w']:Kg g w w':=⟨k.st.size,λb hb _=>k.st.block b hb,k.st.mono (aM _)⟩
def Kg.av(h:Kg g w w')(i:Nat)(v:Value):Kg g w (w'.setCell (g,i) v):=
 ⟨by have:=h.size;simpa using this,λb hb e=>by rw[ba w' ⟨g,i,none⟩ v b e];exact h.keep b hb e,h.base.setCell (p:=⟨g,i,none⟩) (aM _) _⟩
def xI.at(h:xI p w g L sh)[k:aT w w']:xI p w' g L sh:=by
 obtain⟨A,c,b,e⟩:=h.bx;exact⟨⟨du h.prev.st k.st⟩,⟨A,c,b.at,e⟩,h.hg⟩
def YP(p:aa)(g:Nat)(w:aa)(v:Int)(L:au)(sh:Bool)(e:Ending)(w':aa):Prop:=e=.returned (.int .u64 v)/\Hx (xI p w' g L sh)/\Hx (Kg g w w')
def xd0(h:Γ:=by go_wp2_with fail;go_ret;obtain⟨f1,f2⟩:=l.o w ⟨aV _ _⟩;exact⟨rfl,ae f1,ae f2⟩):=h
def GK(h:Hx (xI p w g L sh)){k:Nat}(hk:k<100)(hL:L.length<=100000){v:Int}{sh':Bool}(N:Hx (getM k L sh=(v,L',sh'))):() 46 #[.pointer g,k] w (YP p g w v L' sh'):=by
 obtain⟨CB,CP,FB⟩:=ia;obtain⟨A,c,r,bs,O⟩:=h.o.bx;have P:Bx w g 124 #[.slice A L c,.bool sh]:=⟨r⟩;have p9:=h.o.prev;clear r;have hg:=N.o;unfold getM at hg;go_in;by_cases hb:sh=true\/k<1\/8<k\/L<k
 .rw[ah hb]at hg;(obtain⟨rfl,rfl,rfl⟩:0=v/\L=L'/\true=sh':=by simpa using hg);clear hg N
  have fin:∀u:World,aj u w->xI p (u.setCell (g,1) (.bool true)) g L true/\Kg g w (u.setCell (g,1) (.bool true)):=λu _=>
   ⟨⟨⟨(aP p u).setCell (p:=⟨g,1,none⟩) h.o.hg _⟩,⟨A,c,P.ak.at.av 1 _,bs,O⟩,h.o.hg⟩,Kg.of.av 1 _⟩
  have l:=ae fin;clear fin;cases hs:sh with
  |true=>clear hb;subst hs;exact xd0
  |false=>subst hs;by_cases F:k<1;(have Q:decide ((k:Int)<1)=true:=by simp;omega);clear hb;exact xd0;(have Q:decide ((k:Int)<1)=false:=by simp;omega);by_cases G:8<k;(have R:decide ((8:Int)<k)=true:=by simp;omega);clear hb F;exact xd0;(have R:decide ((8:Int)<k)=false:=by simp;omega);(have t3:decide (L<k)=true:=by rcases hb with h|h|h|h;cases h;exact absurd h F;exact absurd h G;simpa using h);clear hb F G;exact xd0
 rw[ag hb]at hg;obtain⟨rfl,rfl,rfl⟩:num (L.take k)=v/\L.drop k=L'/\false=sh':=by simpa using hg
 simp only[not_or]at hb;obtain⟨S,s2,s3,s4⟩:=hb;obtain rfl:sh=false:=by simpa using S
 have Q:decide ((k:Int)<1)=false:=by simp;omega
 have R:decide ((8:Int)<k)=false:=by simp;omega
 have t3:decide ((L.length:Int)<k)=false:=by simp;omega
 obtain⟨b,off,z,rfl,ob,T,z0,z1,I⟩:=bs.get (k:=0) om;clear hg S T z0 z1 I;have y:=bs.all;go_upto_region 6 with fail;go_loop [5,39] (λt i=>∃j:Nat,j<=k/\i=.int .i64 j/\t=.int .u64 (num (L.take j))) (λ_ i=>k-(intOf i).toNat);exact⟨0,aM _,rfl,rfl⟩;obtain⟨j,hj,rfl,rfl⟩:=hrel;by_cases U:j<k
 .obtain⟨G,o2,z,e,V,T,z0,z1,I⟩:=bs.get (k:=j) om;cases e;have E:=r5 (zs:=L.take j) λz X=>y z (cE X);have hN:Hx (num (L.take (j+1))=num (L.take j)*256+z):=ae (by rw[take_at I.o,QL]);obtain⟨x,J⟩:=lh (num (L.take j));rw[J]at E⊢;have Y:=ae J;clear J;(have C:x<72057594037927936:=by have Z:=E.2;rw[bO]at Z;have h2:=Va (m:=min j L.length) om;omega);(have w1:IntKind.u64.wrap (x*256)=x*256:=by rw[bq];omega);have w2:bits .or .u64 (x*256) z=x*256+z:=U8 E.1 C z0 z1;clear E C;go_wp2_with fail;exact⟨⟨j+1,om,by go_num,by rw[hN.o,Y.o]⟩,by simp[intOf];omega⟩
 obtain rfl:j=k:=om;obtain⟨A',hA,D⟩:=uY b off L.length c j om O;have K:=ae D;clear D;go_wp2_with fail;go_ret;refine⟨rfl,ae ⟨⟨(aP p w).setCell (p:=⟨g,0,none⟩) h.o.hg _⟩,⟨A',c-j,by rw[eo];exact az.av P.ak 0 _,?_,by rw[eo];omega⟩,h.o.hg⟩,ae (Kg.of.av 0 _)⟩;rw[eo];by_cases M:j<L;rw[K.o M];exact bs.drop;rw[show L.drop j=[]from eF om,show L.length-j=0 from om];exact Bs.nil
end
def mX:Nat->List Int->Int
 |_,[]=>0
 |i,z::t=>((i:Int)+1)*z+mX (i+1) t
def pZ(b:0<=x)(e:x<4294967296):IntKind.u32.wrap x=x:=by
 show x%4294967296=x;omega
def xd4(h:Γ:=by go_wp2_with fail;go_ret;exact bB):=h
def YQ[b:Bs w A n zs](G:n<=4000):() 92 #[(A,n,c)] w (aJ w (.int .u32 (mX 0 zs))):=by
 have I:=@bW;have B:Hx (n=zs):=b.len;go_in;go_wp2_with fail;go_loopw [3,8] (λs i wr=>∃(j:Nat) (S:Int),j<=n/\i=.int .i64 j/\s=.int .u32 S/\0<=S/\S<=(j:Int)*1020000/\Hx (S+mX j (zs.drop j)=mX 0 zs)/\aj wr w) (λ_ i _=>n-(intOf i).toNat);exact⟨0,0,aM _,rfl,rfl,am,am,ae aD,aF⟩;obtain⟨j,S,J,rfl,rfl,K,L,u,hp⟩:=hrel;by_cases l:j<n
 .obtain⟨M,o1,z,rfl,C,N,z0,z1,D⟩:=b.get l;obtain⟨q,hq⟩:=lh (((j:Int)+1)*z);(have q0:0<=q:=by rw[<-hq];exact jF om z0);have O:q<=1020000:=by have y:=lO (show(j:Int)+1<=4000 by omega) (show z<=255 by omega) z0 am;rw[hq]at y;exact y
  have m:Hx ((S+q)+mX (j+1) (zs.drop (j+1))=mX 0 zs):=ae (by
   obtain⟨E,F⟩:=a8.1 D.o;rw[<-u.o,ed E,F,mX,hq,Int.add_assoc])
  have k1:IntKind.u32.wrap ((j:Int)+1)=(j:Int)+1:=pZ om om;have k2:IntKind.u32.wrap z=z:=pZ om om;(have P:IntKind.u32.wrap (((j:Int)+1)*z)=q:=by rw[hq];exact pZ (by omega) (by omega));have Q:IntKind.u32.wrap (S+q)=S+q:=pZ om om;(have e:S+q<=((j:Int)+1)*1020000:=by omega);have r:=ae e;clear hq e;go_wp2_with fail;go_roundw;exact⟨j+1,S+q,om,by go_num,rfl,om,by have:=r.o;rwa[ee],m,aF⟩;simp[intOf];omega
 obtain rfl:j=n:=om;have hs:S=mX 0 zs:=by have:=u.o;rw[eF (by rw[<-B.o];exact al _)]at this;simpa[mX]using this
 subst hs;exact xd4
def acv(L:au)(sh:Bool):Int:=if sh=true then 16 else if L=[]then 0 else 10
def NS{L:au}{sh:Bool}(h:Hx (xI p w g L sh)):() 49 #[.pointer g] w (aJ w (acv L sh:Int)):=by
 have l:=@ay;obtain⟨A,c,e,-,-⟩:=h.o.bx;have j:Bx w g 124 #[.slice A L c,.bool sh]:=⟨e⟩;clear e;cases sh;case true=>go_in;exact xd4
 case false=>
  cases L with
  |nil=>go_in;exact xd4
  |cons x t=>obtain⟨n,b⟩:=lh ((x::t).length);(have m:0<n:=by rw[<-b];simp);rw[b]at j;clear b;go_in;exact xd4
def bp(k:Nat):Option (List Int)->Int×Option (List Int)
 |none=>(0,none)
 |some L=>if L.length<k then(0,none)else(num (L.take k),some (L.drop k))
def dh:Nat->Option (List Int)->List Int×Option (List Int)
 |0,o=>([],o)
 |c+1,o=>if(bp 2 o).2=none then([],none)else if(dh c (bp 2 o).2).2=none then([],none)else((bp 2 o).1::(dh c (bp 2 o).2).1,(dh c (bp 2 o).2).2)
def m9(o:Option (List Int)):List Int×Option (List Int):=dh (bp 1 o).1.toNat (bp 1 o).2
def j2:Nat->Option (List Int)->List Int×Option (List Int)
 |0,o=>([],o)
 |_+1,none=>([],none)
 |c+1,some L=>((bp 2 (some L)).1::(j2 c (bp 2 (some L)).2).1,(j2 c (bp 2 (some L)).2).2)
def ki:Nat->Option (List Int)->List (List Int)×Option (List Int)
 |0,o=>([],o)
 |_+1,none=>([],none)
 |c+1,some L=>((m9 (some L)).1::(ki c (m9 (some L)).2).1,(ki c (m9 (some L)).2).2)
abbrev fR:=Option (List Int)
structure NdP where
 k0:Int×fR
 k1:Int×fR
 f1:Int×fR
 f2:Int×fR
 f3:Int×fR
 f4:Int×fR
 f5:Int×fR
 s:List Int×fR
 ci:Int×fR
 i:List Int×fR
 cp:Int×fR
 p:List (List Int)×fR
def uZ(o:fR):NdP:=
 let k0:=bp 1 o
 let k1:=bp 8 k0.2
 let f1:=bp 2 k1.2
 let f2:=bp 2 f1.2
 let f3:=bp 2 f2.2
 let f4:=bp 2 f3.2
 let f5:=bp 2 f4.2
 let s:=m9 f5.2
 let ci:=bp 1 s.2
 let i:=j2 ci.1.toNat ci.2
 let cp:=bp 1 i.2
 ⟨k0,k1,f1,f2,f3,f4,f5,s,ci,i,cp,ki cp.1.toNat cp.2⟩
def Br(o:fR):et×fR:=(⟨⟨(uZ o).k0.1,IntKind.i64.wrap (uZ o).k1.1,(uZ o).f1.1,(uZ o).f2.1,(uZ o).f3.1,(uZ o).f4.1,(uZ o).f5.1,(uZ o).s.1⟩,(uZ o).i.1,(uZ o).p.1⟩,(uZ o).p.2)
def p0:Nat->fR->List et×fR
 |0,o=>([],o)
 |_+1,none=>([],none)
 |c+1,some L=>((Br (some L)).1::(p0 c (Br (some L)).2).1,(p0 c (Br (some L)).2).2)
def gi:Nat->Int->List Int
 |0,_=>[]
 |k+1,n=>n/256^k%256::gi k n
def DQ(S:au):List Int:=gi 1 S.length++S.flatMap (gi 2)
def Bt(v:et):List Int:=gi 1 v.o.kd++gi 8 (IntKind.u64.wrap v.o.k)++gi 2 v.o.wd++gi 2 v.o.st++gi 2 v.o.sd++gi 2 v.o.fr++gi 2 v.o.tt++DQ v.o.S++gi 1 v.ins.length++v.ins.flatMap (gi 2)++gi 1 v.P.length++v.P.flatMap DQ
def Vb(N:bm):List Int:=gi 4 1096042545++DQ N.dV++gi 2 N.nodes.length++N.nodes.flatMap Bt
structure DcP where
 m4:Int×fR
 dV:List Int×fR
 c:Int×fR
 nd:List et×fR
def rk(L:au):DcP:=
 let m4:=bp 4 (some L)
 let dV:=m9 m4.2
 let c:=bp 2 dV.2
 ⟨m4,dV,c,p0 c.1.toNat c.2⟩
def s1(L:au):bm:=⟨(rk L).dV.1,(rk L).nd.1⟩
section
variable{L:List Int}{o:fR}{n a:Int}
def wn:∀(zs:au) (n:Int),zs.foldl (λn z=>n*256+z) n=n*256^zs.length+num zs
 |[],n=>by simp[num]
 |z::t,n=>by have b:=wn t (n*256+z);have e:=wn t (0*256+z);unfold num;rw[jD,jD,b,e,dj,Int.pow_succ',iV,iV,<-hI];omega
def QM(z:Int)(t:au):num (z::t)=z*256^t.length+num t:=by
 have:=wn t (0*256+z);unfold num at this⊢;rw[jD,this,WS,MC]
def jr(m:Nat):(0:Int)<256^m:=Er am
def DR:∀(k:Nat) (n:Int),(gi k n).length=k
 |0,_=>rfl
 |k+1,n=>by rw[gi,dj,DR k n]
def DS(a x:Int)(m:Nat):∀k,k<=m->gi k (a*256^m+x)=gi k x
 |0,_=>rfl
 |k+1,h=>by rw[gi,gi,DS a x m k om];obtain⟨j,rfl⟩:∃j,m=k+(j+1):=⟨m-k-1,om⟩;(have e:a*(256:Int)^(k+(j+1))=256^k*(a*256^j*256):=by rw[MV,El,jB (256^k),<-hI,<-hI];exact jB _ _);rw[e,Int.mul_add_ediv_left _ _ (Int.ne_of_gt (jr k)),MT,WM]
def DT:∀zs:List Int,(∀z∈zs,0<=z/\z<256)->gi zs.length (num zs)=zs
 |[],_=>rfl
 |z::t,h=>by have e:=h z cm;have ht:∀y∈t,0<=y/\y<256:=λy b=>h y (dp _ b);have hb:=r5 ht;rw[dj,gi,QM,DS _ _ _ _ (al _),DT t ht,jB z,Int.mul_add_ediv_left _ _ (Int.ne_of_gt (jr _)),MB hb.1 hb.2,MR];rw[show z%256=z from om]
abbrev na(L:List Int):Prop:=∀z∈L,0<=z/\z<256
def eD(h:na L)(b:(bp k (some L)).2=some L'):L=gi k (bp k (some L)).1++L'/\na L'/\0<=(bp k (some L)).1/\(bp k (some L)).1<256^k:=by
 unfold bp at b⊢;dsimp only at b⊢;split at b;cases b;rename_i u;rw[ag u];have e:=cH b;subst e;have ht:na (L.take k):=λz j=>h z (cE j);have l:=DT (L.take k) ht;have r:(L.take k).length=k:=by rw[bO];omega
 rw[r]at l;have hb:=r5 ht;rw[r]at hb;exact⟨by rw[l,dC],λz j=>h z (dA j),hb⟩
def gV(h:(bp k o).2=some L'):∃L,o=some L:=by
 cases o with
 |none=>cases h
 |some L=>exact⟨L,rfl⟩
def w8:∀(c:Nat) {L L':au},na L->(dh c (some L)).2=some L'->L=(dh c (some L)).1.flatMap (gi 2)++L'/\na L'/\(dh c (some L)).1.length=c
 |0,L,L',h,e=>by have e:=cH e;subst e;exact⟨by simp[dh],h,rfl⟩
 |c+1,L,L',h,e=>by unfold dh at e⊢;split at e;cases e;rename_i j;rw[ag j];split at e;cases e;rename_i l;rw[ag l];obtain⟨D,b⟩:=Option.ne_none_iff_exists'.1 j;obtain⟨r,u,_⟩:=eD h b;rw[b]at e⊢;obtain⟨y,B,C⟩:=w8 c u e;refine⟨?_,B,by rw[dj,C]⟩;dsimp only;rw[g6,eO,<-y];exact r
def u0(c:Nat):(dh c none).2=none:=by
 cases c<;>simp[dh,bp]
def QN:(m9 none).2=none:=u0 _
def Bu(h:na L)(e:(m9 (some L)).2=some L'):L=DQ (m9 (some L)).1++L'/\na L'/\(m9 (some L)).1.length<256:=by
 unfold m9 at e⊢;cases b:(bp 1 (some L)).2 with
 |none=>rw[b,u0]at e;cases e
 |some j=>rw[b]at e;obtain⟨l,r,D,E⟩:=eD h b;obtain⟨u,y,B⟩:=w8 _ r e;(have C:((dh (bp 1 (some L)).1.toNat (some j)).1.length:Int)=(bp 1 (some L)).1:=by rw[B];omega);refine⟨?_,y,om⟩;rw[DQ,C,eO,<-u];exact l
def xd7(h:Γ:=by rw[b]at e;cases c<;>cases e):=h
def DU:∀(c:Nat) {L L':au},na L->(j2 c (some L)).2=some L'->L=(j2 c (some L)).1.flatMap (gi 2)++L'/\na L'/\(j2 c (some L)).1.length=c
 |0,L,L',h,e=>by have e:=cH e;subst e;exact⟨by simp[j2],h,rfl⟩
 |c+1,L,L',h,e=>
  by
   unfold j2 at e⊢;dsimp only at e⊢;cases b:(bp 2 (some L)).2 with
   |none=>exact xd7
   |some B=>obtain⟨j,l,_⟩:=eD h b;rw[b]at e;obtain⟨r,u,y⟩:=DU c l e;refine⟨?_,u,by rw[dj,y]⟩;rw[g6,eO,<-r];exact j
def xd3(h:Γ:=by refine⟨?_,y,by rw[dj,B],λs hs=>?_⟩;rw[g6,eO,<-u];exact j;rcases cw.1 hs with rfl|hs;exact r;exact C s hs):=h
def DV:∀(c:Nat) {L L':au},na L->(ki c (some L)).2=some L'->L=(ki c (some L)).1.flatMap DQ++L'/\na L'/\(ki c (some L)).1.length=c/\∀s∈(ki c (some L)).1,s.length<256
 |0,L,L',h,e=>by have e:=cH e;subst e;exact⟨by simp[ki],h,rfl,λs hs=>by simp[ki]at hs⟩
 |c+1,L,L',h,e=>
  by
   unfold ki at e⊢;dsimp only at e⊢;cases b:(m9 (some L)).2 with
   |none=>exact xd7
   |some D=>obtain⟨j,l,r⟩:=Bu h b;rw[b]at e;obtain⟨u,y,B,C⟩:=DV c l e;exact xd3
def Ma(h:(j2 c o).2=some L'):∃L,o=some L:=by
 cases o with
 |none=>cases c<;>cases h
 |some L=>exact⟨L,rfl⟩
def Mb(h:(ki c o).2=some L'):∃L,o=some L:=by
 cases o with
 |none=>cases c<;>cases h
 |some L=>exact⟨L,rfl⟩
def DW(h:(m9 o).2=some L'):∃L,o=some L:=by
 cases o with
 |none=>rw[QN]at h;cases h
 |some L=>exact⟨L,rfl⟩
def Vc{x:Int}(b:0<=x)(e:x<18446744073709551616):IntKind.u64.wrap (IntKind.i64.wrap x)=x:=by
 rw[bq,a7];omega
structure Vd(v:et):Prop where
 s:v.o.S.length<256
 i:v.ins.length<256
 p:v.P.length<256
 ps:∀s∈v.P,s.length<256
def Ve(h:na L)(e:(Br (some L)).2=some L'):L=Bt (Br (some L)).1++L'/\na L'/\Vd (Br (some L)).1:=by
 have e:(uZ (some L)).p.2=some L':=e;obtain⟨P,hP⟩:=lh (uZ (some L));have O:P.k0=bp 1 (some L):=by rw[<-hP];rfl
 have T:P.k1=bp 8 P.k0.2:=by rw[<-hP];rfl
 have a3:P.f1=bp 2 P.k1.2:=by rw[<-hP];rfl
 have a4:P.f2=bp 2 P.f1.2:=by rw[<-hP];rfl
 have U:P.f3=bp 2 P.f2.2:=by rw[<-hP];rfl
 have V:P.f4=bp 2 P.f3.2:=by rw[<-hP];rfl
 have X:P.f5=bp 2 P.f4.2:=by rw[<-hP];rfl
 have Y:P.s=m9 P.f5.2:=by rw[<-hP];rfl
 have Z:P.ci=bp 1 P.s.2:=by rw[<-hP];rfl
 have y:P.i=j2 P.ci.1.toNat P.ci.2:=by rw[<-hP];rfl
 have B:P.cp=bp 1 P.i.2:=by rw[<-hP];rfl
 have C:P.p=ki P.cp.1.toNat P.cp.2:=by rw[<-hP];rfl
 unfold Br;rw[hP]at e⊢;rw[C]at e;obtain⟨L11,b⟩:=Mb e;rw[B]at b;obtain⟨L10,j⟩:=gV b;rw[y]at j;obtain⟨L9,D⟩:=Ma j;rw[Z]at D;obtain⟨L8,E⟩:=gV D;rw[Y]at E;obtain⟨L7,F⟩:=DW E;rw[X]at F;obtain⟨L6,G⟩:=gV F;rw[V]at G;obtain⟨L5,I⟩:=gV G;rw[U]at I;obtain⟨L4,J⟩:=gV I;rw[a4]at J;obtain⟨L3,K⟩:=gV J;rw[a3]at K;obtain⟨L2,M⟩:=gV K;rw[T]at M;obtain⟨L1,Q⟩:=gV M;rw[O]at Q;rw[<-O]at Q;have t1:=eD h (O▸Q);rw[<-O]at t1;rw[Q]at T M;have N:=eD t1.2.1 M;rw[<-T]at N M;rw[M]at a3 K;have t3:=eD N.2.1 K;rw[<-a3]at t3 K;rw[K]at a4 J;have t4:=eD t3.2.1 J;rw[<-a4]at t4 J;rw[J]at U I;have t5:=eD t4.2.1 I;rw[<-U]at t5 I;rw[I]at V G;have t6:=eD t5.2.1 G;rw[<-V]at t6 G;rw[G]at X F;have t7:=eD t6.2.1 F;rw[<-X]at t7 F;rw[F]at Y E;have R:=Bu t7.2.1 E;rw[<-Y]at R E;rw[E]at Z D;have S:=eD R.2.1 D;rw[<-Z]at S D;rw[D]at y j;have r:=DU _ S.2.1 j;rw[<-y]at r j;rw[j]at B b;have u:=eD r.2.1 b;rw[<-B]at u b;rw[b]at C e;have l:=DV _ u.2.1 e;rw[<-C]at l;have k2:IntKind.u64.wrap (IntKind.i64.wrap P.k1.1)=P.k1.1:=Vc N.2.2.1 (by
  have:=N.2.2.2;have e:(256:Int)^8=18446744073709551616:=by decide
  rw[e]at this;exact this)
 have l1:((P.i.1.length:Nat):Int)=P.ci.1:=by rw[r.2.2];have:=S.2.2.1;omega
 have l2:((P.p.1.length:Nat):Int)=P.cp.1:=by rw[l.2.2.1];have:=u.2.2.1;omega
 refine⟨?_,l.2.1,R.2.2,by show P.i.1.length<256;omega,by show P.p.1.length<256;omega,l.2.2.2⟩;unfold Bt;dsimp only;rw[k2,l1,l2];simp only[eO];rw[<-l.1,<-u.1,<-r.1,<-S.1,<-R.1,<-t7.1,<-t6.1,<-t5.1,<-t4.1,<-t3.1,<-N.1,<-t1.1]
def I8:∀(c:Nat) {L L':au},na L->(p0 c (some L)).2=some L'->L=(p0 c (some L)).1.flatMap Bt++L'/\na L'/\(p0 c (some L)).1.length=c/\∀v∈(p0 c (some L)).1,Vd v
 |0,L,L',h,e=>by have e:=cH e;subst e;exact⟨by simp[p0],h,rfl,λs hs=>by simp[p0]at hs⟩
 |c+1,L,L',h,e=>
  by
   unfold p0 at e⊢;dsimp only at e⊢;cases b:(Br (some L)).2 with
   |none=>exact xd7
   |some D=>obtain⟨j,l,r⟩:=Ve h b;rw[b]at e;obtain⟨u,y,B,C⟩:=I8 c l e;exact xd3
def QO(h:(p0 c o).2=some L'):∃L,o=some L:=by
 cases o with
 |none=>cases c<;>cases h
 |some L=>exact⟨L,rfl⟩
def YR(h:na L)(hm:(rk L).m4.1=1096042545)(j:(rk L).nd.2=some []):Vb (s1 L)=L/\(s1 L).dV.length<256/\(s1 L).nodes.length<65536/\∀v∈(s1 L).nodes,Vd v:=by
 unfold s1;obtain⟨P,hP⟩:=lh (rk L);have y:P.m4=bp 4 (some L):=by rw[<-hP];rfl
 have r:P.dV=m9 P.m4.2:=by rw[<-hP];rfl
 have a3:P.c=bp 2 P.dV.2:=by rw[<-hP];rfl
 have a4:P.nd=p0 P.c.1.toNat P.c.2:=by rw[<-hP];rfl
 rw[hP]at hm j⊢;rw[a4]at j;obtain⟨D,b⟩:=QO j;rw[a3]at b;obtain⟨E,e⟩:=gV b;rw[r]at e;obtain⟨F,B⟩:=DW e;have u:=eD h (y▸B);rw[<-y]at u;rw[B]at r e;have l:=Bu u.2.1 e;rw[<-r]at l e;rw[e]at a3 b;have t3:=eD l.2.1 b;rw[<-a3]at t3 b;rw[b]at a4 j;have t4:=I8 _ t3.2.1 j;rw[<-a4]at t4;have l1:((P.nd.1.length:Nat):Int)=P.c.1:=by rw[t4.2.2.1];have:=t3.2.2.1;omega
 refine⟨?_,l.2.2,by show P.nd.1.length<65536;omega,t4.2.2.2⟩;unfold Vb;dsimp only;have C:=t4.1;rw[en]at C;rw[l1,<-hm];simp only[eO];rw[<-C,<-t3.1,<-l.1,<-u.1]
end
section
variable{u:World}{q:Nat}{o':fR}{xs:List Int}{F':Nat->Prop}{A':Option Addr}{y:Int}
def j5(p w:aa)(g:Nat):fR->Prop
 |some L=>L.length<=100000/\xI p w g L false
 |none=>∃L:List Int,L.length<=100000/\xI p w g L true
abbrev Ke(F:Nat->Prop)(w w':World):Prop:=Kf F F w w'
section
variable{B:Nat}{o:fR}{L:List Int}{sh:Bool}{F:Nat->Prop}{E:TypeId}
def Kg.ke(h:Kg g w w'):Ke (λb=>b=g) w w':=⟨h.base,h.size,λb hb e=>h.keep b hb e,λ_ hb=>.inl hb⟩
def xI.kf(h:xI p w g L sh)(e:Kf F F' w w')(hF:∀b,F b->p.1.size<=b)(hg:¬F g):xI p w' g L sh:=by
 obtain⟨A,c,j,m⟩:=h.bx;have l:=h.prev;exact⟨e.prev hF,⟨A,c,e.ak j hg,m⟩,h.hg⟩
def j5.kf(h:j5 p w g o)(e:Kf F F' w w')(hF:∀b,F b->p.1.size<=b)(hg:¬F g):j5 p w' g o:=by
 cases o with
 |some L=>exact⟨h.1,h.2.kf e hF hg⟩
 |none=>obtain⟨L,j,l⟩:=h;exact⟨L,j,l.kf e hF hg⟩
def j5.at(h:j5 p w g o)[aT w w']:j5 p w' g o:=by
 cases o with
 |some L=>exact⟨h.1,h.2.at⟩
 |none=>obtain⟨L,e,j⟩:=h;exact⟨L,e,j.at⟩
theorem j5.prev(h:j5 p w g o):aj w p:=by
 cases o with
 |some L=>exact h.2.prev
 |none=>obtain⟨L,j,e⟩:=h;exact e.prev
def j5.hg(h:j5 p w g o):p<=g/\g<w:=by
 cases o with
 |some L=>obtain⟨A,c,e,_⟩:=h.2.bx;exact⟨h.2.hg,e.lt⟩
 |none=>obtain⟨L,e,j⟩:=h;obtain⟨A,c,l,_⟩:=j.bx;exact⟨j.hg,l.lt⟩
def j5.flag(h:j5 p w g o):∃v cs,Bx w g 124 #[v,.bool cs]/\cs=o.isNone:=by
 cases o with
 |some L=>obtain⟨A,c,e,_⟩:=h.2.bx;exact⟨_,_,⟨e⟩,rfl⟩
 |none=>obtain⟨L,e,j⟩:=h;obtain⟨A,c,l,_⟩:=j.bx;exact⟨_,_,⟨l⟩,rfl⟩
def j5.byt(h:j5 p w g (some L)):na L:=by
 obtain⟨A,c,j,e,_⟩:=h.2.bx;exact e.all
def Bv(h:j5 p w g o)(k:Nat):0<=(bp k o).1/\(bp k o).1<256^k:=by
 cases o with
 |none=>exact⟨eI _,jr k⟩
 |some L=>unfold bp;dsimp only;split;exact⟨eI _,jr k⟩;rename_i j;have hb:=r5 (zs:=L.take k) λz e=>h.byt z (cE e);rw[bO,dQ om]at hb;exact hb
def aa6(p:aa)(g:Nat)(w:aa)(v:Int)(o:fR)(e:Ending)(w':aa):Prop:=e=.returned (.int .u64 v)/\Hx (j5 p w' g o)/\Hx (Ke (λb=>b=g) w w')/\aj w' p
def xd5(h:Γ:=by rintro e w' ⟨rfl,j,z⟩;exact⟨rfl,ae ⟨L,l,j⟩,ae z.o.ke,j.o.prev⟩):=h
def e5(h:Hx (j5 p w g o)){k:Nat}(G:y=(k:Int))(J:1<=k)(K:k<=8){v:Int}(I:Hx (bp k o=(v,o'))):() 46 #[.pointer g,y] w (aa6 p g w v o'):=by
 subst G;have hg:=I.o;cases o with
 |none=>obtain⟨L,l,C⟩:=h.o;injection hg with m r;subst m r;refine(GK (k:=k) C om l (v:=0) (L':=L) (sh':=true) (ae (by unfold getM;rw[ah (.inl rfl)]))).mono ?_;exact xd5
 |some L=>obtain⟨l,C⟩:=h.o;unfold bp at hg;dsimp only at hg;split at hg;rename_i D;injection hg with m r;subst m r;refine(GK (k:=k) C om l (v:=0) (L':=L) (sh':=true) (ae (by unfold getM;rw[ah (.inr (.inr (.inr D)))]))).mono ?_;exact xd5;rename_i D;injection hg with m r;subst m r;refine(GK (k:=k) C om l (v:=num (L.take k)) (L':=L.drop k) (sh':=false) (ae (by unfold getM;rw[ag (by rintro(h|h|h|h)<;>first|(exact absurd h am)|omega)]))).mono ?_;rintro e w' ⟨rfl,j,z⟩;exact⟨rfl,ae ⟨by rw[eo];omega,j⟩,ae z.o.ke,j.o.prev⟩
def Kf.GL(h:Ke F w u)(l:dm A A' u w')(m:∀j,A=some j->w.1.size<=j.block):Ke F w w':=
 ⟨(h.base.trans (l.base.mono (aM _))),aL h.size l.size,λb hb r=>(l.off b (bu hb h.size) λj e=>by have:=m j e;omega).trans (h.keep b hb r),λb hb=>.inl hb⟩
structure FrA(w w':World)(A:Option Addr)(zs:List Int):Prop where
 rd:Rd w' A zs
 lo:∀b,AF A b->w.1.size<=b
 hi:∀b,AF A b->b<w'.1.size
def aa7(p:aa)(g:Nat)(w:aa)(zs:au)(o:fR)(e:Ending)(w':aa):Prop:=∃A c,e=.returned (.slice A zs c)/\FrA w w' A zs/\zs.length<=c/\Hx (j5 p w' g o)/\Hx (Ke (λb=>b=g) w w')/\aj w' p
def aB.fra(h:aB w' w.1.size E A c zs):FrA w w' A zs:=⟨h.rd,λ_ hb=>(h.af hb).1,λ_ hb=>(h.af hb).2.1⟩
def p2(c:Nat)(o:fR):dh (c+1) o=if(bp 2 o).2=none then([],none)else if(dh c (bp 2 o).2).2=none then([],none)else((bp 2 o).1::(dh c (bp 2 o).2).1,(dh c (bp 2 o).2).2):=rfl
def wo(h:Hx (j5 p w g o))(hS:Hx (m9 o=(xs,o'))):() 47 #[.pointer g] w (aa7 p g w xs o'):=by
 have CB:=@ay;have hg0:=h.o.hg;have l:=Bv h 1;obtain⟨⟨cn,o1⟩,I⟩:=lh (bp 1 o);rw[I]at l;have hs:=hS.o;rw[m9,I]at hs;dsimp only at hs l;obtain⟨c,rfl⟩:=bJ l.1;rw[aZ]at hs;have hc:c<256:=by (have m:(256:Int)^1=256:=by decide);have:=l.2;omega
 have HG:=ae I;have HS:=ae hs;clear I hs l;go_in;go_upto_region 3 with(go_at_call 46;refine(e5 (k:=1) (y:=1) h rfl am am HG).mono ?_;rintro e u1 ⟨rfl,Vf,vm,sQ⟩);have ho1:aB u1 w.1.size 3 none 0 []:=aB.nil _ _ _;go_loopw [4,3] (λs4 s3 wr=>∃(q r:Nat) (zs:au) (A:bF) (P:Nat) (C:fR),q+r=c/\zs=q/\s4=.int .u64 (r:Int)/\s3=.slice A q P/\Hx (aB wr w.1.size 3 A P zs)/\Hx (j5 p wr g C)/\Hx (Ke (λb=>b=g) w wr)/\Hx (C=none->zs=[])/\Hx ((if(dh r C).2=none then([],none)else(zs++(dh r C).1,(dh r C).2))=(xs,o'))/\aj wr p) (λs4 _ _=>(intOf s4).toNat)
 .refine⟨0,c,[],none,0,o1,om,rfl,rfl,rfl,ae ho1,Vf,vm,ae (λ_=>rfl),ae ?_,sQ⟩;rw[<-HS.o];by_cases m:(dh c o1).2=none
  .rw[ah m];have:∀(c:Nat) (o:fR),(dh c o).2=none->(dh c o).1=[]:=λc o X=>by
    cases c with
    |zero=>rfl
    |succ c=>rw[p2]at X⊢;split;rfl;rename_i h1;rw[ag h1]at X;split;rfl;rename_i h2;rw[ag h2]at X;exact absurd X h2
   exact Prod.ext (this c o1 m).symm m.symm
  rw[ag m];rfl
 obtain⟨q,r,zs,A,P,C,YS,R,rfl,rfl,Y,HR,Z,HN,HM,hp⟩:=hrel;by_cases hr:r=0
 .subst hr;have hm:=HM.o;have e0:dh 0 C=([],C):=rfl;rw[e0]at hm;dsimp only at hm;(have S:xs=zs/\o'=C:=by by_cases m:C=none;rw[ah m]at hm;injection hm with m1 T;exact⟨by rw[<-m1,HN.o m],by rw[<-T,m]⟩;rw[ag m,en]at hm;injection hm with m1 T;exact⟨m1.symm,T.symm⟩);obtain⟨rfl,rfl⟩:=S;subst R;clear hm e0;go_wp2_with fail;go_ret;exact⟨A,P,rfl,Y.o.fra,Y.o.ii,HR,Z,hp⟩
 .obtain⟨G,rfl⟩:∃G,r=G+1:=⟨r-1,om⟩;have l:=Bv HR 2;obtain⟨⟨sd,o3⟩,I⟩:=lh (bp 2 C);have hm:=HM.o;rw[p2,I]at hm;rw[I]at l;dsimp only at hm l;(have m:(256:Int)^2=65536:=by decide);rw[m]at l;(have w1:IntKind.i64.wrap sd=sd:=by rw[a7];omega);have t1:decide (0<G+1)=true:=aD;have m7:=ae I;have J:=ae hm;obtain⟨R1,M⟩:=lg (G+1:Nat);rw[<-M]at t1⊢;(have w2:IntKind.u64.wrap ((R1:Int)-1)=(G:Int):=by rw[bq];omega);have U:=ae M;clear I hm m hr M;go_upto_region 6 with(go_at_call 46;refine(e5 (k:=2) (y:=2) HR rfl am am m7).mono ?_;rintro e u2 ⟨rfl,N,K,sO⟩);obtain⟨v3,b3,UL,V⟩:=N.o.flag;cases o3 with
  |none=>subst V;have hm:=J.o;rw[ah rfl,ah rfl]at hm;injection hm with m1 T;subst m1 T;clear J;go_wp2_with fail;go_ret;exact⟨none,0,rfl,⟨λj z hj=>by simp at hj,λb ⟨ad,e9,_⟩=>(by cases e9),λb ⟨ad,e9,_⟩=>(by cases e9)⟩,al _,N,ae (Z.o.trans K),sO⟩
  |some Q=>
   subst V;have hm:=J.o;rw[ag (show¬(some Q:fR)=none from by simp)]at hm;have D:Hx (aB u2 w.1.size 3 A P zs):=ae (K.o.own Y λb hb=>by have:=(Y.o.af hb).1;omega);have HMN:Hx ((if(dh G (some Q)).2=none then([],none)else((zs++[sd])++(dh G (some Q)).1,(dh G (some Q)).2))=(xs,o')):=ae (by
    rw[<-hm];by_cases h8:(dh G (some Q)).2=none
    .simp[h8]
    .simp[h8])
   have zZ:Hx (w.1.size<=u2.1.size):=aL Z.o.size K.o.size;subst R;clear hm J;go_wp2_with (at_builtin;refine iL rfl _ _ _ rfl 3 underlying25 ao w.1.size A P zs rfl D sd rfl om zZ ?_;intro A3 c3 w3 qe O _);go_roundw;have hA:=D.o.fresh;(have n6:¬AF A g:=λhx=>by have:=(D.o.af hx).1;omega);exact⟨zs.length+1,G,zs++[sd],A3,c3,some Q,by have:=U.o;omega,aD,rfl,rfl,ae qe,ae (N.o.kf (Kf.jt O) (λb hb=>by have:=(D.o.af hb).1;omega) n6),ae ((Z.o.trans K).GL O hA),ae (λh=>by cases h),HMN,(Kf.jt O).prev λb hb=>by have:=(D.o.af hb).1;omega⟩;simp[intOf];have:=U.o;omega
end
end
section
variable{X u u':World}{i q vb:Nat}{o':fR}{xs:List Int}{cs:Array Value}{F':Nat->Prop}{A':Option Addr}{T:TypeId}{P:Program}{ops:Array Oper}{a:Act}{K:Act->World->Prop}{Q:Exit->Act->World->Prop}
def qn(o:fR):Prop:=∀L,o=some L->na L
structure e8(T:TypeId)(p v v2 u:World)(g vb:Nat)(o:fR)(cs:Array Value):Prop where
 r:j5 p u g o
 k:Ke (λb=>b=g\/b=vb) v u
 k2:Ke (λb=>b=g\/b=vb) v2 u
 bv:az u vb T cs
 ne:vb≠g
 lo:p<=vb
 hv:vb<v
 ti:v.1.size<=v2.1.size
def fO(o:fR):Nat->fR
 |0=>o
 |i+1=>(bp 2 (fO o i)).2
section
variable{v:World}{B:Nat}{o:fR}{L:List Int}{F:Nat->Prop}{E:TypeId}{y:Value}
def j5.byO(h:j5 p w g o):qn o:=λL e=>by subst e;exact h.byt
def qn.get(h:qn o)(k:Nat):qn (bp k o).2/\0<=(bp k o).1/\(bp k o).1<256^k:=by
 cases o with
 |none=>exact⟨λL e=>(by cases e),eI _,jr k⟩
 |some L=>unfold bp;dsimp only;split;exact⟨λL e=>(by cases e),eI _,jr k⟩;rename_i l;have hb:=r5 (zs:=L.take k) λz j=>h L rfl z (cE j);rw[bO,dQ om]at hb;exact⟨λm e z j=>by cases e;exact h L rfl z (dA j),hb⟩
def qn.FX:∀(c:Nat) {o:fR},qn o->qn (dh c o).2
 |0,o,h=>h
 |c+1,o,h=>by rw[p2];split;(exact λL e=>by cases e);split;(exact λL e=>by cases e);exact qn.FX c (h.get 2).1
def qn.sh(h:qn o):qn (m9 o).2:=qn.FX _ (h.get 1).1
def qn.ins:∀(c:Nat) {o:fR},qn o->qn (j2 c o).2
 |0,o,h=>h
 |c+1,none,h=>λL e=>by cases e
 |c+1,some L,h=>qn.ins c (h.get 2).1
def e8.at(h:e8 T p v X u g vb o cs)[aT u u']:e8 T p v X u' g vb o cs:=⟨h.r.at,h.k.trans (Kf.later _),h.k2.trans (Kf.later _),h.bv.at,h.ne,h.lo,h.hv,h.ti⟩
def e8.get(h:e8 T p v X u g vb o cs)(hr:j5 p u' g o')(j:Ke (λb=>b=g) u u'):e8 T p v X u' g vb o' cs:=
 ⟨hr,h.k.trans (j.more (λ_ e=>.inl e) λ_ e=>.inr (.inl e)),h.k2.trans (j.more (λ_ e=>.inl e) λ_ e=>.inr (.inl e)),j.ak h.bv h.ne,h.ne,h.lo,h.hv,h.ti⟩
def e8.set(h:e8 T p v X u g vb o cs)(i:Nat)(y:Value):e8 T p v X (u.setCell (vb,i) y) g vb o (cs.setIfInBounds i y):=
 ⟨h.r.kf (F:=λb=>b=vb) ((Kf.refl (λb=>b=vb) u).av (q:=⟨vb,i,none⟩) rfl y) (λb e=>by rw[e];exact h.lo) λe=>h.ne e.symm,h.k.av (q:=⟨vb,i,none⟩) (.inr rfl) y,h.k2.av (q:=⟨vb,i,none⟩) (.inr rfl) y,h.bv.av i y,h.ne,h.lo,h.hv,h.ti⟩
theorem e8.prev(h:e8 T p v X u g vb o cs):aj u p:=h.r.prev
def e8.jt(h:e8 T p v X u g vb o cs)(l:dm A A' u u')(j:∀b,AF A b->X.1.size<=b)(hg:g<v):e8 T p v X u' g vb o cs:=
 have C:=h.ti
 ⟨h.r.kf (Kf.jt l) (λb hb=>by have:=j b hb;have:=h.lo;have:=h.hv;omega) λm=>(by have:=j g m;omega),h.k.GL l λz e=>aL C (j _ ⟨z,e,rfl⟩),h.k2.GL l λz e=>j _ ⟨z,e,rfl⟩,(Kf.jt l).ak h.bv λm=>(by have:=j vb m;have:=h.hv;omega),h.ne,h.lo,h.hv,C⟩
def e8.from_(h:e8 T p v X u g vb o cs):e8 T p v u u g vb o cs:=⟨h.r,h.k,Kf.refl _ _,h.bv,h.ne,h.lo,h.hv,h.k.size⟩
def e8.rd(h:e8 T p v X u g vb o cs)(hr:Rd X A zs)(j:∀b,AF A b->v.1.size<=b)(hg:g<v):Rd u A zs:=h.k2.rd hr λb hb=>by
 have:=j b hb;have:=h.hv;rintro(e|e)<;>omega
def rl{w:aa}{o:Oper}(G:Region.wanted o (yielded ops a.tmps)=true)(s x:Operand)(t:TypeId)
  (I:o.op=.call {callee:=.builtin .append,args:= #[s,x],argTypes:= #[t,t]}) (E:TypeId) (ht:P.underlying t=some (.slice E)) (k bytes:Nat) (z:Value)
  (e:(P.info? E).map (λi=>(i.zero,i.size,i.bytes))=some (some z,k,bytes)) (r:z.cells.size=k) (J:0<k) (C:bytes<=1000)
  (B:Nat) (A:bF) (c n:Nat) (D:j7) (hs:a.eval s=.slice A n c) (j:aU w B E k A c n D) {vb:Nat} (l:j7) (M:a.eval x=.slice vb 1 1) (hb:az w vb E l.toArray) (N:l=k) (O:∀u∈l,u.oneCell'=true) (R:n<=100000000) (S:B<=w)
  (h:∀A' m w',aU w' B E k A' m (n+1) (D++l)->dm A A' w w'->K (a.put o.dst (.slice A' (n+1) m)) w'):
  if Region.wanted o (yielded ops a.tmps)=true then Oper.wp P o a w K Q else K (a.put o.dst undef) w:=by
 rw[ah G];obtain⟨A',m,w',hr,U,V⟩:=sM (P:=P) j t o.type ht bytes e r J C hb N O R S;unfold Oper.wp execOp;simp only[I,resolve,invoke,builtin,x8,xZ,xR,xO,di,jz,hs,M,hr];exact h A' m w' U V
def L4:() 90 #[.pointer vb] w (λe w'=>∃G,e=.returned (.slice (some ⟨G,0,none⟩) 5 5)/\w.1.size<=G/\az w' G 183 #[.pointer (some ⟨vb,2,none⟩),.pointer (some ⟨vb,3,none⟩),.pointer (some ⟨vb,4,none⟩),.pointer (some ⟨vb,5,none⟩),.pointer (some ⟨vb,6,none⟩)]/\aj w' w):=by
 go_in;go_upto_region 1 with fail;refine ab w ao (λj _=>?_);refine qL [0,1,2,3,4,5,6,7,8,9,10,11,12,13,14] ?_;refine aK 15 λK hK=>?_;go_simp;refine aG hK<|bc (λj _ _=>?_);refine ff 16 ?_;refine a9 ?_;go_wp2_with fail;go_ret;exact⟨_,rfl,ai,Bx.ak,aF⟩
end
end
section
variable{u u':World}{j q vb:Nat}{C:Option Addr}{ss:List Sp}{F':Nat->Prop}{o':fR}{z0 z1 z2 z3 z4 z5 z6 z7:Value}
def NF(x:Nd)(b:Nat):Prop:=AF x.A b\/AF x.I b\/AF x.P b\/∃s∈x.ps,AF s.A b
structure rm(B:Nat)(u:World)(x:Nd):Prop where
 s:Sl u x.A x.n x.o.S
 i:Sl u x.I x.ni x.ins
 p:dZ u x.P x.np x.ps
 ls:x.n<=x.c
 li:x.ni<=x.ci
 lp:x.np<=x.cp
 k6:bb x.o.k
 lo:∀b,NF x b->B<=b
 hi:∀b,NF x b->b<u.1.size
def aa8(p:aa)(g:Nat)(w:aa)(V:et)(o:fR)(e:Ending)(w':aa):Prop:=
 ∃x:Nd,e=.returned (.agg #[x.o.kd,x.o.k,x.o.wd,x.o.st,x.o.sd,x.o.fr,x.o.tt,.slice x.A x.n x.c,.slice x.I x.ni x.ci,.slice x.P x.np x.cp])/\Hx (x.val=V)/\Hx (rm w.1.size w' x)/\Hx (j5 p w' g o)/\Hx (Ke (λb=>b=g) w w')/\aj w' p
def lu.push{B:Nat}{x:Sp}(h:lu w B A c ss)(G:Rd w x.A x.zs)(hm:x.m=x.zs.length)(F:x.m<=x.c)(u:∀b,AF x.A b->B<=b/\b<w.1.size/\¬AF A b)(E:dm A C w w')
  (hr:aU w' B 25 1 C j (ss.length+1) ((gR ss).toList++[.slice x.A x.m x.c])):lu w' B C j (ss++[x]):=by
 have D:∀y∈ss++[x],∀l,y.A=some l->l.block<w.1.size:=λy hy l e=>by rcases bM.1 hy with hy|hy;exact h.lt y hy l e;rw[cZ.1 hy]at e;exact(u _ ⟨l,e,rfl⟩).2.1
 have z:∀y∈ss++[x],∀l bd,y.A=some l->A=some bd->bd.block≠l.block:=λy hy l bd e r=>by rcases bM.1 hy with hy|hy;exact h.ne y hy l bd e r;rw[cZ.1 hy]at e;exact λI=>(u _ ⟨l,e,rfl⟩).2.2 ⟨bd,r,I⟩
 refine⟨?_,λy hy=>?_,λy hy l bd e r=>?_,λy hy l e=>bu (D y hy l e) E.size⟩;rw[bh,II];exact hr;rcases bM.1 hy with hy'|hy';obtain⟨J,K⟩:=h.el y hy';exact⟨J.jt E λl bd e r=>z y hy l bd e r,K⟩;rw[cZ.1 hy']at hy⊢;exact⟨G.jt E λl bd e r=>z x (nf _ (cZ.2 rfl)) l bd e r,hm,F,⟨λl e=>(u _ ⟨l,e,rfl⟩).1⟩⟩;rcases E.new bd r with⟨a0,L,M⟩|tx;rw[M];exact z y hy l a0 e L;have:=D y hy l e;omega
def lu.kf{B:Nat}{F:Nat->Prop}(h:lu w B A c ss)(l:Kf F F' w w')(hF:∀b,B<=b->¬F b):lu w' B A c ss:=
 ⟨l.row h.row λb hb=>hF b (h.row.af hb).1,λx j=>⟨l.rd (h.el x j).1 λb ⟨m,e,r⟩=>hF b (r▸(h.el x j).2.2.2.o m e),(h.el x j).2⟩,h.ne,λx j m e=>bu (h.lt x j m e) l.size⟩
theorem lu.acw{B:Nat}(h:lu w B A c ss):dZ w A ss.length ss:=⟨λj x b=>by
 have hm:=aC b;obtain⟨g,e,l⟩:=h.row.cell (j:=j) (v:=.slice x.A x.m x.c) (by simp[gR,b]);exact⟨g,0,e,(h.row.af ⟨_,e,rfl⟩).2.1,by rw[cf];exact l,(h.el x hm).1,(h.el x hm).2.1,(h.el x hm).2.2.1⟩,rfl⟩
section
variable{v:World}{o:fR}{V:et}
def acx{e j:Value}:Kf (λb=>b=q) (λb=>b=q) u ((((((((((u.setCell (q,0) z0).setCell (q,1) z1).setCell (q,2) z2).setCell (q,3) z3).setCell (q,4) z4).setCell (q,5) z5).setCell (q,6) z6).setCell (q,7) z7).setCell (q,8) e).setCell (q,9) j):=
 ((((((((((Kf.refl (λb=>b=q) u).av (q:=⟨q,0,none⟩) rfl z0).av (q:=⟨q,1,none⟩) rfl z1).av (q:=⟨q,2,none⟩) rfl z2).av (q:=⟨q,3,none⟩) rfl z3).av (q:=⟨q,4,none⟩) rfl z4).av (q:=⟨q,5,none⟩) rfl z5).av (q:=⟨q,6,none⟩) rfl z6).av (q:=⟨q,7,none⟩) rfl z7).av (q:=⟨q,8,none⟩) rfl e).av (q:=⟨q,9,none⟩) rfl j
def rm.kf{w w':aa}{B:Nat}{x:Nd}{F:Nat->Prop}(h:rm B w x)(l:Kf F F' w w')(hF:∀b,NF x b->¬F b):rm B w' x:=
 ⟨l.sl h.s λb hb=>hF b (.inl hb),l.sl h.i λb hb=>hF b (.inr (.inl hb)),⟨λj s y=>by
  obtain⟨b,off,e,m,z,C,D,E⟩:=h.p.rd j s y;have hb:=l.keep b m (hF b (.inr (.inr (.inl ⟨_,e,rfl⟩))));exact⟨b,off,e,bu m l.size,(d9 hb).trans z,l.rd C λG r=>hF G (.inr (.inr (.inr ⟨s,aC y,r⟩))),D,E⟩,h.p.len⟩,h.ls,h.li,h.lp,h.k6,h.lo,λb hb=>bu (h.hi b hb) l.size⟩
def aa9{w v u u':aa}{g:Nat}(j:w.1.size<=v.1.size)[l:aT w v](h:Ke (λb=>b=g\/b=vb) v u)(m:Kf (λb=>b=q) (λb=>b=q) u u')(hq:w<=q/\w<=vb):Ke (λb=>b=g) w u':=
 ⟨(l.st.mono (aM _)).trans (h.base.trans m.base),aL j (aL h.size m.size),λb hb r=>(m.keep b (bu hb (aL j h.size)) (by show¬b=q;omega)).trans ((h.keep b (bu hb j) (by rintro(e|e);exact r e;omega)).trans (l.st.block b hb)),λ_ hb=>.inl hb⟩
def L5(c:Nat):j2 c none=([],none):=by cases c<;>rfl
def L6(c:Nat):ki c none=([],none):=by cases c<;>rfl
def xd1(h:Γ:=by by_cases h9:0<r;exact .inr ⟨by simpa using h9,by cases fl;exact absurd ⟨h9,rfl⟩ T;rfl⟩;exact .inl (by simpa using h9)):=h
def xd6(h:Γ:=by rw[h8,en]at hm;injection hm with m1 m2;exact⟨m1.symm,m2.symm⟩):=h
def xd8(h:Γ:=by show G≠vb;omega):=h
def xd9(h:Γ:=by show¬G=g;omega):=h
def Vg(h:Hx (j5 p w g o))(hN:Hx (Br o=(V,o'))):() 48 #[.pointer g] w (aa8 p g w V o'):=by
 have CB:=@ay;have FB:=@aO;have hg0:=h.o.hg;have Vh:=h.o.byO;have e1:(256:Int)^1=256:=by decide
 have e2:(256:Int)^2=65536:=by decide
 have hn:=hN.o;obtain⟨⟨z0,o0⟩,hJ⟩:=lh (bp 1 o);have Vi:=(Vh).get 1;rw[hJ]at Vi;dsimp only at Vi;have Hz0:=ae hJ;obtain⟨⟨z1,o1⟩,hH⟩:=lh (bp 8 o0);have YT:=(Vi.1).get 8;rw[hH]at YT;dsimp only at YT;have Hz1:=ae hH;obtain⟨⟨f1,E⟩,sf⟩:=lh (bp 2 o1);have Vj:=(YT.1).get 2;rw[sf]at Vj;dsimp only at Vj;have Hf1:=ae sf;obtain⟨⟨f2,o3⟩,I9⟩:=lh (bp 2 E);have Vk:=(Vj.1).get 2;rw[I9]at Vk;dsimp only at Vk;have Hf2:=ae I9;obtain⟨⟨f3,o4⟩,T8⟩:=lh (bp 2 o3);have Vl:=(Vk.1).get 2;rw[T8]at Vl;dsimp only at Vl;have Hf3:=ae T8;obtain⟨⟨f4,o5⟩,YU⟩:=lh (bp 2 o4);have Vm:=(Vl.1).get 2;rw[YU]at Vm;dsimp only at Vm;have Hf4:=ae YU;obtain⟨⟨f5,o6⟩,YV⟩:=lh (bp 2 o5);have Vn:=(Vm.1).get 2;rw[YV]at Vn;dsimp only at Vn;have Hf5:=ae YV;obtain⟨⟨zs,o7⟩,qg⟩:=lh (m9 o6);have YW:=(Vn.1).sh;rw[qg]at YW;dsimp only at YW;have HZS:=ae qg;obtain⟨⟨ci,o8⟩,YX⟩:=lh (bp 1 o7);have Z:=YW.get 1;rw[YX]at Z;dsimp only at Z;rw[e1]at Z;have HCI:=ae YX;obtain⟨⟨is,o9⟩,Vo⟩:=lh (j2 ci.toNat o8);have YY:=qn.ins ci.toNat Z.1;rw[Vo]at YY;dsimp only at YY;obtain⟨⟨cq,o10⟩,TP⟩:=lh (bp 1 o9);have QP:=YY.get 1;rw[TP]at QP;dsimp only at QP;rw[e1]at QP;have HCQ:=ae TP;obtain⟨⟨ps,YZ⟩,xp⟩:=lh (ki cq.toNat o10);rw[e1]at Vi;rw[e2]at Vj Vk Vl Vm Vn;obtain⟨K,hK⟩:=lh (IntKind.i64.wrap z1);have hV:V=⟨⟨z0,K,f1,f2,f3,f4,f5,zs⟩,is,ps⟩/\o'=YZ:=by unfold Br uZ at hn;simp only[hJ,hH,sf,I9,T8,YU,YV,qg,YX,Vo,TP,xp,hK]at hn;injection hn with n1 n2;exact⟨n1.symm,n2.symm⟩
 have HV:=ae hV;obtain⟨c,rfl⟩:=bJ Z.2.1;obtain⟨d,rfl⟩:=bJ QP.2.1;rw[aZ]at Vo xp;have hc:c<256:=by have:=Z.2.2;omega
 have hd:d<256:=by have:=QP.2.2;omega
 have HIS:=ae Vo;have Fo:=ae xp;have w0:IntKind.i64.wrap z0=z0:=by rw[a7];omega
 have w1:IntKind.i64.wrap f1=f1:=by rw[a7];omega
 have w2:IntKind.i64.wrap f2=f2:=by rw[a7];omega
 have w3:IntKind.i64.wrap f3=f3:=by rw[a7];omega
 have w4:IntKind.i64.wrap f4=f4:=by rw[a7];omega
 have w5:IntKind.i64.wrap f5=f5:=by rw[a7];omega
 have hK6:bb K:=by rw[<-hK];unfold bb;rw[a7];omega
 have OJ:=ae hK6;clear hJ hH sf I9 T8 YU YV qg YX Vo TP xp hn hV Vi YT Vj Vk Vl Vm Vn YW Z YY QP Vh e1 e2 hK6;go_in;go_upto_region 2 with fail;refine dg (λv pv k0 k1=>?_);obtain⟨vb,hvb⟩:=lg (w.1.size+1);rw[<-hvb]at k1⊢;have v8:Hx (e8 84 p v v v g vb o #[an,an,an,an,an,an,an,(),(),()]):=ae ⟨h.o.at,Kf.refl _ _,Kf.refl _ _,k1.ak,om,om,k1.ak.lt,al _⟩;have ti:=k1.ak.lt;have B4:g<v.1.size:=om;have HVB:=ae hvb;clear hvb;go_upto_region 3 with(go_at_call 46;refine(e5 (k:=1) (y:=1) (ae v8.o.r) rfl am am Hz0).mono ?_;rintro e u1 ⟨rfl,HR,Y,pu⟩;have Sg:Hx (e8 84 p v v u1 g vb o0 #[an,an,an,an,an,an,an,(),(),()]):=ae (v8.o.get HR Y);have kb:Bx u1 vb 84 #[an,an,an,an,an,an,an,(),(),()]:=⟨Sg.o.bv⟩);obtain⟨W1,k5⟩:=lg (u1.setCell (vb,0) z0);have u6:Hx (e8 84 p v v W1 g vb o0 #[z0,an,an,an,an,an,an,(),(),()]):=ae (by rw[k5];exact Sg.o.set 0 _);rw[<-k5];clear k5;clear k1;go_upto_region 4 with(go_at_call 46;refine(e5 (k:=8) (y:=8) (ae u6.o.r) rfl am am Hz1).mono ?_;rintro e u2 ⟨rfl,vA,acy,sO⟩;have Al:Hx (e8 84 p v v u2 g vb o1 #[z0,an,an,an,an,an,an,(),(),()]):=ae (u6.o.get vA acy);have zh:Bx u2 vb 84 #[z0,an,an,an,an,an,an,(),(),()]:=⟨Al.o.bv⟩);obtain⟨W2,uA⟩:=lg (u2.setCell (vb,1) (.int .i64 K));have l2:Hx (e8 84 p v v W2 g vb o1 #[z0,K,an,an,an,an,an,(),(),()]):=ae (by rw[uA];exact Al.o.set 1 _);rw[<-uA];clear uA;go_upto_region 5 with(go_at_call 90;refine L4.mono ?_;rintro e u3 ⟨G,rfl,hG,kG,Vp⟩);have ID:Hx (e8 84 p v v u3 g vb o1 #[z0,K,an,an,an,an,an,(),(),()]):=l2.o.at;have hGv:v.1.size<=G:=aL l2.o.k.size hG;have HKG:=ae kG;have J:Hx (∀i,i<=5->fO o1 i=(if i=0 then o1 else if i=1 then E else if i=2 then o3 else if i=3 then o4 else if i=4 then o5 else o6)):=λi hi=>by (have a2:fO o1 1=E:=by show(bp 2 o1).2=_;rw[Hf1.o]);(have a3:fO o1 2=o3:=by show(bp 2 (fO o1 1)).2=_;rw[a2,Hf2.o]);(have a4:fO o1 3=o4:=by show(bp 2 (fO o1 2)).2=_;rw[a3,Hf3.o]);(have a5:fO o1 4=o5:=by show(bp 2 (fO o1 3)).2=_;rw[a4,Hf4.o]);(have a6:fO o1 5=o6:=by show(bp 2 (fO o1 4)).2=_;rw[a5,Hf5.o]);have:i=0\/i=1\/i=2\/i=3\/i=4\/i=5:=om;rcases this with rfl|rfl|rfl|rfl|rfl|rfl;rfl;exact a2;exact a3;exact a4;exact a5;exact a6
 clear kG hG;go_loopw [21] (λs21 wr=>∃i:Nat,i<=5/\s21=.int .i64 (i:Int)/\Hx (e8 84 p v v wr g vb (fO o1 i) #[z0,K,.int .i64 (if 0<i then f1 else 0),.int .i64 (if 1<i then f2 else 0),.int .i64 (if 2<i then f3 else 0),.int .i64 (if 3<i then f4 else 0),.int .i64 (if 4<i then f5 else 0),(),(),()])/\Hx (az wr G 183 #[.pointer (some ⟨vb,2,none⟩),.pointer (some ⟨vb,3,none⟩),.pointer (some ⟨vb,4,none⟩),.pointer (some ⟨vb,5,none⟩),.pointer (some ⟨vb,6,none⟩)])/\aj wr p) (λs21 _=>5-(intOf s21).toNat);exact⟨0,am,rfl,ID,HKG,ID.o.prev⟩;clear ID HKG;obtain⟨i,hi,rfl,C,HG,hp⟩:=hrel;have:i=0\/i=1\/i=2\/i=3\/i=4\/i=5:=om;rcases this with rfl|rfl|rfl|rfl|rfl|rfl
 .have z:Hx (e8 84 p v v wr g vb o1 #[z0,K,an,an,an,an,an,(),(),()]):=ae (by have:=C.o;rw[J.o 0 am]at this;exact this);have kG:Bx wr G 183 #[.pointer (some ⟨vb,2,none⟩),.pointer (some ⟨vb,3,none⟩),.pointer (some ⟨vb,4,none⟩),.pointer (some ⟨vb,5,none⟩),.pointer (some ⟨vb,6,none⟩)]:=⟨HG⟩;go_wp2_with (go_at_call 46;refine(e5 (k:=2) (y:=2) (ae z.o.r) rfl am am Hf1).mono ?_;rintro e u4 ⟨rfl,HR,Y,pu⟩;have l:Hx (e8 84 p v v u4 g vb E #[z0,K,an,an,an,an,an,(),(),()]):=ae (z.o.get HR Y);have Y0:Bx u4 vb 84 #[z0,K,an,an,an,an,an,(),(),()]:=⟨l.o.bv⟩);go_roundw;refine⟨1,am,rfl,ae ?_,ae ?_,(l.o.set 2 _).prev⟩;rw[J.o 1 am];exact l.o.set 2 _;have:=Y.o.ak HG xd9;exact this.aY (p:=⟨vb,2,none⟩) xd8 _;simp[intOf]
 .have z:Hx (e8 84 p v v wr g vb E #[z0,K,f1,an,an,an,an,(),(),()]):=ae (by have:=C.o;rw[J.o 1 am]at this;exact this);have kG:Bx wr G 183 #[.pointer (some ⟨vb,2,none⟩),.pointer (some ⟨vb,3,none⟩),.pointer (some ⟨vb,4,none⟩),.pointer (some ⟨vb,5,none⟩),.pointer (some ⟨vb,6,none⟩)]:=⟨HG⟩;go_wp2_with (go_at_call 46;refine(e5 (k:=2) (y:=2) (ae z.o.r) rfl am am Hf2).mono ?_;rintro e u4 ⟨rfl,HR,Y,pu⟩;have l:Hx (e8 84 p v v u4 g vb o3 #[z0,K,f1,an,an,an,an,(),(),()]):=ae (z.o.get HR Y);have Y0:Bx u4 vb 84 #[z0,K,f1,an,an,an,an,(),(),()]:=⟨l.o.bv⟩);go_roundw;refine⟨2,am,rfl,ae ?_,ae ?_,(l.o.set 3 _).prev⟩;rw[J.o 2 am];exact l.o.set 3 _;have:=Y.o.ak HG xd9;exact this.aY (p:=⟨vb,3,none⟩) xd8 _;simp[intOf]
 .have z:Hx (e8 84 p v v wr g vb o3 #[z0,K,f1,f2,an,an,an,(),(),()]):=ae (by have:=C.o;rw[J.o 2 am]at this;exact this);have kG:Bx wr G 183 #[.pointer (some ⟨vb,2,none⟩),.pointer (some ⟨vb,3,none⟩),.pointer (some ⟨vb,4,none⟩),.pointer (some ⟨vb,5,none⟩),.pointer (some ⟨vb,6,none⟩)]:=⟨HG⟩;go_wp2_with (go_at_call 46;refine(e5 (k:=2) (y:=2) (ae z.o.r) rfl am am Hf3).mono ?_;rintro e u4 ⟨rfl,HR,Y,pu⟩;have l:Hx (e8 84 p v v u4 g vb o4 #[z0,K,f1,f2,an,an,an,(),(),()]):=ae (z.o.get HR Y);have Y0:Bx u4 vb 84 #[z0,K,f1,f2,an,an,an,(),(),()]:=⟨l.o.bv⟩);go_roundw;refine⟨3,am,rfl,ae ?_,ae ?_,(l.o.set 4 _).prev⟩;rw[J.o 3 am];exact l.o.set 4 _;have:=Y.o.ak HG xd9;exact this.aY (p:=⟨vb,4,none⟩) xd8 _;simp[intOf]
 .have z:Hx (e8 84 p v v wr g vb o4 #[z0,K,f1,f2,f3,an,an,(),(),()]):=ae (by have:=C.o;rw[J.o 3 am]at this;exact this);have kG:Bx wr G 183 #[.pointer (some ⟨vb,2,none⟩),.pointer (some ⟨vb,3,none⟩),.pointer (some ⟨vb,4,none⟩),.pointer (some ⟨vb,5,none⟩),.pointer (some ⟨vb,6,none⟩)]:=⟨HG⟩;go_wp2_with (go_at_call 46;refine(e5 (k:=2) (y:=2) (ae z.o.r) rfl am am Hf4).mono ?_;rintro e u4 ⟨rfl,HR,Y,pu⟩;have l:Hx (e8 84 p v v u4 g vb o5 #[z0,K,f1,f2,f3,an,an,(),(),()]):=ae (z.o.get HR Y);have Y0:Bx u4 vb 84 #[z0,K,f1,f2,f3,an,an,(),(),()]:=⟨l.o.bv⟩);go_roundw;refine⟨4,am,rfl,ae ?_,ae ?_,(l.o.set 5 _).prev⟩;rw[J.o 4 am];exact l.o.set 5 _;have:=Y.o.ak HG xd9;exact this.aY (p:=⟨vb,5,none⟩) xd8 _;simp[intOf]
 .have z:Hx (e8 84 p v v wr g vb o5 #[z0,K,f1,f2,f3,f4,an,(),(),()]):=ae (by have:=C.o;rw[J.o 4 am]at this;exact this);have kG:Bx wr G 183 #[.pointer (some ⟨vb,2,none⟩),.pointer (some ⟨vb,3,none⟩),.pointer (some ⟨vb,4,none⟩),.pointer (some ⟨vb,5,none⟩),.pointer (some ⟨vb,6,none⟩)]:=⟨HG⟩;go_wp2_with (go_at_call 46;refine(e5 (k:=2) (y:=2) (ae z.o.r) rfl am am Hf5).mono ?_;rintro e u4 ⟨rfl,HR,Y,pu⟩;have l:Hx (e8 84 p v v u4 g vb o6 #[z0,K,f1,f2,f3,f4,an,(),(),()]):=ae (z.o.get HR Y);have Y0:Bx u4 vb 84 #[z0,K,f1,f2,f3,f4,an,(),(),()]:=⟨l.o.bv⟩);go_roundw;refine⟨5,am,rfl,ae ?_,ae ?_,(l.o.set 6 _).prev⟩;rw[J.o 5 am];exact l.o.set 6 _;have:=Y.o.ak HG xd9;exact this.aY (p:=⟨vb,6,none⟩) xd8 _;simp[intOf]
 have z:Hx (e8 84 p v v wr g vb o6 #[z0,K,f1,f2,f3,f4,f5,(),(),()]):=ae (by have:=C.o;rw[J.o 5 am]at this;exact this);clear C J;go_upto_region 10 with(go_at_call 47;refine(wo (ae z.o.r) HZS).mono ?_;rintro e u5 ⟨P,cS,rfl,xr,Vq,HR5,uh,Y1⟩;have wg:Hx (e8 84 p v v u5 g vb o7 #[z0,K,f1,f2,f3,f4,f5,(),(),()]):=ae (z.o.get HR5 uh);have kb6:Bx u5 vb 84 #[z0,K,f1,f2,f3,f4,f5,(),(),()]:=⟨wg.o.bv⟩)
 obtain⟨W6,se⟩:=lg (u5.setCell (vb,7) (.slice P zs cS));have HS6:Hx (e8 84 p v v W6 g vb o7 #[z0,K,f1,f2,f3,f4,f5,.slice P zs cS,(),()]):=ae (by rw[se];exact wg.o.set 7 _);have hvw:v.1.size<=wr.1.size:=z.o.k.size;have NT:Hx (Rd W6 P zs/\∀b,AF P b->v.1.size<=b/\b<W6.1.size):=ae (by
  have h9:Kf (λb=>b=vb) (λb=>b=vb) u5 W6:=by rw[se];exact(Kf.refl (λb=>b=vb) u5).av (q:=⟨vb,7,none⟩) rfl _
  exact⟨h9.rd xr.rd λb hb e=>by have:=xr.lo b hb;omega,λb hb=>⟨aL hvw (xr.lo b hb),bu (xr.hi b hb) h9.size⟩⟩)
 have HLS:=ae Vq;rw[<-se];clear se xr Vq;go_upto_region 11 with(go_at_call 46;refine(e5 (k:=1) (y:=1) (ae HS6.o.r) rfl am am HCI).mono ?_;rintro e u7 ⟨rfl,HR7,B5,pu7⟩);have Vr:Hx (e8 84 p v u7 u7 g vb o8 #[z0,K,f1,f2,f3,f4,f5,.slice P zs cS,(),()]):=(HS6.o.get HR7 B5).from_;have NU:Hx (Rd u7 P zs/\∀b,AF P b->v.1.size<=b/\b<u7.1.size):=ae ⟨B5.o.rd NT.o.1 λb hb=>by have:=(NT.o.2 b hb).1;show¬b=g;omega,λb hb=>⟨(NT.o.2 b hb).1,bu (NT.o.2 b hb).2 B5.o.size⟩⟩;go_loopw [6] (λs6 wr=>∃(q r:Nat) (B:au) (I:bF) (cI:Nat) (E:fR),q+r=c/\B=q/\s6=.int .u64 (r:Int)/\Hx (e8 84 p v u7 wr g vb E #[z0,K,f1,f2,f3,f4,f5,.slice P zs cS,(I,q,cI),()])/\Hx (aB wr u7.1.size 3 I cI B)/\Hx ((B++(j2 r E).1,(j2 r E).2)=(is,o9))/\aj wr p) (λs6 _=>(intOf s6).toNat);exact⟨0,c,[],none,0,o8,om,rfl,rfl,Vr,ae (aB.nil _ _ _),ae (by rw[HIS.o];rfl),pu7⟩;obtain⟨q,r,B,I,cI,E,YS,GM,rfl,C,U,HM,hp⟩:=hrel;obtain⟨v3,fl,UL,S⟩:=C.o.r.flag;have Y2:Bx wr vb 84 #[z0,K,f1,f2,f3,f4,f5,.slice P zs cS,(I,q,cI),()]:=⟨C.o.bv⟩;by_cases T:0<r/\fl=false
 .obtain⟨hr,rfl⟩:=T;cases E with
  |none=>cases S
  |some L2=>
   subst GM;obtain⟨r',rfl⟩:∃r',r=r'+1:=⟨r-1,om⟩;have PG:=Bv C.o.r 2;(have e2:(256:Int)^2=65536:=by decide);rw[e2]at PG;obtain⟨⟨Q,o3⟩,hG⟩:=lh (bp 2 (some L2));have hm:=HM.o;rw[j2,hG]at hm;rw[hG]at PG;dsimp only at hm PG;(have wz:IntKind.i64.wrap Q=Q:=by rw[a7];omega);have t1:decide (0<r'+1)=true:=aD;have m7:=ae hG;have uf:Hx (((B++[Q])++(j2 r' o3).1,(j2 r' o3).2)=(is,o9)):=ae (by rw[<-hm,eO];rfl);obtain⟨R1,xk⟩:=lg (r'+1:Nat);rw[<-xk]at t1⊢;(have wr2:IntKind.u64.wrap ((R1:Int)-1)=(r':Int):=by rw[bq];omega);have Ja:=ae xk;clear hG hm e2 PG xk S hr;go_upto_region 13 with fail;refine ab p ao (λj _=>?_)
   repeat' (first
    |(refine j8 0 ?_
      refine ff 0 ?_;refine jL 2 50 ?_)
    |(refine j8 4 ?_
      refine jL 4 52 ?_)
    |(refine j8 7 ?_
      refine jL 7 55 ?_)
    |(intro (tg:Tg 1) K hK
      clear tg;go_simp;refine aG hK ?_;clear hK K)
    |(intro (tg:Tg 3) K hK
      clear tg;have sa:=C.o.at (u':=j);have L7:=U.o.at (w':=j);go_simp
      refine(e5 (k:=2) (y:=2) (ae sa.r) rfl am am m7).mono ?_
      rintro e j ⟨rfl,Gy,N,Jb⟩;dsimp only;have CN:=ae (sa.get Gy N);have HO9:Hx (aB j u7.1.size 3 I cI B):=ae (N.o.own L7 (λb hb=>by have:=(U.o.af hb).1;have:=Vr.o.ti;show¬b=g;omega));have Z1:Bx j vb 84 _:=⟨CN.o.bv⟩;refine aG hK ?_ Jb;clear hK K)
    |(intro (tg:Tg 5) K hK
      clear tg;go_simp;refine aG hK ?_;refine bc (λj _ _=>?_))
    |(intro (tg:Tg 6) K hK
      clear tg;have QQ:=CN.o.at (u':=j);have ho9:=HO9.o.at (w':=j);refine rl ao _ _ _ rfl 3 underlying24 1 8 an ao rfl am am u7.1.size I cI B.length (B.map (Value.int .i64)) rfl ho9.row [.int .i64 Q] rfl Bx.ak rfl (λu hu=>by rw[cZ.1 hu];rfl) om QQ.k2.size ?_;intro R c3 j qe CE;have X:=ae (QQ.jt CE (λb hb=>(U.o.af hb).1) B4);have Z3:Hx (aB j u7.1.size 3 R c3 (B++[Q])):=ae (by unfold aB;rw[bh,c9];exact qe);have Pc:aj j p:=X.o.prev;have Z4:Bx j vb 84 _:=⟨X.o.bv⟩;refine aG hK ?_ Pc;clear hK K)
    |(intro (tg:Tg 8) K hK
      clear tg;have Pe:=(X.o.at (u':=j)).bv.cell 8;have Vs:=(X.o.at (u':=j)).bv.frozen 8;go_simp;obtain⟨W9,M⟩:=lg (j.setCell (vb,8) (.slice R (B.length+1) c3));have D:=ae ((X.o.at (u':=j)).set 8 (.slice R (B.length+1) c3));have Jc:Hx (aB W9 u7.1.size 3 R c3 (B++[Q])):=ae ((Z3.o.at (w':=j)).same λad e9=>by rw[M];exact ba _ ⟨vb,8,none⟩ _ _ (by have:=Z3.o.fresh ad e9;have:=Vr.o.ti;show ad.block≠vb;omega));rw[<-M]at D⊢;have Vt:aj W9 p:=D.o.prev;clear M Pe Vs;refine aG hK ?_ Vt;clear hK K)
    |refine fg 1 ?_
    |refine fg 6 ?_
    |refine fg 8 ?_
    |refine fg 5 ?_
    |refine fg 3 ?_
    |refine mf 1 3 ?_ ?_
    |refine mf 1 5 ?_ ?_
    |refine BU ?_)
   all_goals go_wp2_with fail;exact⟨⟨B.length+1,r',B++[Q],R,c3,o3,by have:=Ja.o;omega,aD,rfl,D,ae (Jc.o),uf,D.o.prev⟩,by simp[intOf];have:=Ja.o;omega⟩
 have Jd:is=B/\o9=E:=by
  have hm:=HM.o;have h8:j2 r E=([],E):=by
   rcases EB r with h9|h9;subst h9;rfl
   .cases E with
    |none=>exact L5 r
    |some L=>exact absurd ⟨h9,S⟩ T
  exact xd6
 obtain⟨rfl,rfl⟩:=Jd;subst GM;have IE:(decide (0<r)=false)\/(decide (0<r)=true/\fl=true):=xd1;have NV:Hx (Rd wr P zs/\∀b,AF P b->v.1.size<=b/\b<wr.1.size):=ae ⟨C.o.rd NU.o.1 (λb hb=>(NU.o.2 b hb).1) om,λb hb=>⟨(NU.o.2 b hb).1,bu (NU.o.2 b hb).2 C.o.k2.size⟩⟩;clear T S HM;rcases IE with t1|⟨t1,rfl⟩;all_goals
  go_upto_region 15 with(go_at_call 46;refine(e5 (k:=1) (y:=1) (ae C.o.r) rfl am am HCQ).mono ?_;rintro e u9 ⟨rfl,Gy,N,pu9⟩);have CN:Hx (e8 84 p v u9 u9 g vb o10 #[z0,K,f1,f2,f3,f4,f5,.slice P zs cS,.slice I is cI,()]):=(C.o.get Gy N).from_;have NW:Hx (Rd u9 P zs/\∀b,AF P b->v.1.size<=b/\b<u9.1.size):=ae ⟨N.o.rd NV.o.1 λb hb=>by have:=(NV.o.2 b hb).1;show¬b=g;omega,λb hb=>⟨(NV.o.2 b hb).1,bu (NV.o.2 b hb).2 N.o.size⟩⟩;have Y3:Hx (Rd u9 I is/\∀b,AF I b->v.1.size<=b/\b<u9.1.size):=ae ⟨N.o.rd U.o.rd λb hb=>by have:=(U.o.af hb).1;have:=Vr.o.ti;show¬b=g;omega,λb hb=>⟨aL Vr.o.ti (U.o.af hb).1,bu (U.o.af hb).2.1 N.o.size⟩⟩;have acz:Hx (is<=cI):=U.o.ii;clear t1 Y2 UL hp C U;clear YS;go_loopw [7] (λs7 wr=>∃(q r:Nat) (O:List Sp) (R:bF) (c3:Nat) (E:fR),q+r=d/\O=q/\s7=.int .u64 (r:Int)/\Hx (e8 84 p v u9 wr g vb E #[z0,K,f1,f2,f3,f4,f5,.slice P zs cS,.slice I is cI,(R,q,c3)])/\Hx (lu wr u9.1.size R c3 O)/\Hx ((aS O++(ki r E).1,(ki r E).2)=(ps,YZ))/\aj wr p) (λs7 _=>(intOf s7).toNat);exact⟨0,d,[],none,0,o10,om,rfl,rfl,CN,ae lu.nil,ae (by rw[Fo.o];rfl),pu9⟩;obtain⟨q,r,O,R,c3,E,YS,GM,rfl,C,U,HM,hp⟩:=hrel;obtain⟨v3,fl,UL,S⟩:=C.o.r.flag;have Y2:Bx wr vb 84 #[z0,K,f1,f2,f3,f4,f5,.slice P zs cS,.slice I is cI,(R,q,c3)]:=⟨C.o.bv⟩;by_cases T:0<r/\fl=false
  .obtain⟨hr,rfl⟩:=T;cases E with
   |none=>cases S
   |some L2=>
    subst GM;obtain⟨r',rfl⟩:∃r',r=r'+1:=⟨r-1,om⟩;obtain⟨⟨Q,o3⟩,hG⟩:=lh (m9 (some L2));have hm:=HM.o;rw[ki,hG]at hm;dsimp only at hm;have t1:decide (0<r'+1)=true:=aD;have m7:=ae hG;have uf:=ae hm;obtain⟨R1,xk⟩:=lg (r'+1:Nat);rw[<-xk]at t1⊢;(have wr2:IntKind.u64.wrap ((R1:Int)-1)=(r':Int):=by rw[bq];omega);have Ja:=ae xk;clear hG hm xk S hr;go_upto_region 17 with fail;refine ab p ao (λj _=>?_)
    repeat' (first
     |(refine j8 0 ?_
       refine ff 0 ?_;refine jL 2 71 ?_)
     |(refine j8 6 ?_
       refine jL 6 75 ?_)
     |(intro (tg:Tg 1) K hK
       clear tg;go_simp;refine aG hK ?_;clear hK K)
     |(intro (tg:Tg 3) K hK
       clear tg;have sa:=C.o.at (u':=j);have L7:=U.o.at (w':=j);have Je:u9.1.size<=j.1.size:=sa.k2.size;have Jf:∀b,AF R b->b<j.1.size:=λb hb=>(L7.row.af hb).2.1;go_simp
       refine(wo (ae sa.r) m7).mono ?_
       rintro e j ⟨AX,cX,rfl,Vu,hlX,Gy,N,Jb⟩;dsimp only;have Vv:=ae (sa.get Gy N);have S7:Hx (lu j u9.1.size R c3 O):=ae (L7.kf N (λb hb=>by have:=CN.o.k.size;show¬b=g;omega));have Jg:Hx (Rd j AX Q/\(∀b,AF AX b->u9.1.size<=b/\b<j.1.size/\¬AF R b)/\Q<=cX):=ae ⟨Vu.rd,λb hb=>⟨aL Je (Vu.lo b hb),Vu.hi b hb,λhx=>by have:=Vu.lo b hb;have:=Jf b hx;omega⟩,hlX⟩;have Z1:Bx j vb 84 _:=⟨Vv.o.bv⟩;clear Vu hlX Je Jf;refine aG hK ?_ Jb;clear hK K)
     |(intro (tg:Tg 4) K hK
       clear tg;go_simp;refine aG hK ?_;refine bc (λj _ _=>?_))
     |(intro (tg:Tg 5) K hK
       clear tg;have Vw:=Vv.o.at (u':=j);have Vx:=S7.o.at (w':=j);have Vy:Rd j AX Q:=Jg.o.1.below (aP _ j);have acA:∀b,AF AX b->u9.1.size<=b/\b<j.1.size/\¬AF R b:=λb hb=>⟨(Jg.o.2.1 b hb).1,bu (Jg.o.2.1 b hb).2.1 ai,(Jg.o.2.1 b hb).2.2⟩;refine rl ao _ _ _ rfl 25 underlying82 1 24 () ao rfl am am u9.1.size R c3 O.length (gR O).toList rfl Vx.row [.slice AX Q cX] rfl Bx.ak rfl (λu hu=>by rw[cZ.1 hu];rfl) om Vw.k2.size ?_;intro A4 c4 j qe CE;have L8:=ae (Vw.jt CE (λb hb=>(U.o.row.af hb).1) B4);have QR:Hx (lu j u9.1.size A4 c4 (O++[⟨AX,Q.length,cX,Q⟩])):=ae (Vx.push (x:=⟨AX,Q.length,cX,Q⟩) Vy rfl Jg.o.2.2 acA CE qe);have Pc:aj j p:=L8.o.prev;have Z4:Bx j vb 84 _:=⟨L8.o.bv⟩;refine aG hK ?_ Pc;clear hK K)
     |(intro (tg:Tg 7) K hK
       clear tg;have Pe:=(L8.o.at (u':=j)).bv.cell 9;have Vs:=(L8.o.at (u':=j)).bv.frozen 9;go_simp;obtain⟨W9,M⟩:=lg (j.setCell (vb,9) (.slice A4 (O.length+1) c4));have D:=ae ((L8.o.at (u':=j)).set 9 (.slice A4 (O.length+1) c4));have Jc:Hx (lu W9 u9.1.size A4 c4 (O++[⟨AX,Q.length,cX,Q⟩])):=ae ((QR.o.at (w':=j)).kf (F:=λb=>b=vb) (F':=λb=>b=vb) (by rw[M];exact(Kf.refl (λb=>b=vb) j).av (q:=⟨vb,9,none⟩) rfl _) λb hb=>by have:=CN.o.k.size;show¬b=vb;omega);rw[<-M]at D⊢;have Vt:aj W9 p:=D.o.prev;clear M Pe Vs;refine aG hK ?_ Vt;clear hK K)
     |refine fg 1 ?_
     |refine fg 5 ?_
     |refine fg 7 ?_
     |refine fg 4 ?_
     |refine fg 3 ?_
     |refine mf 1 3 ?_ ?_
     |refine mf 1 4 ?_ ?_
     |refine BU ?_)
    all_goals go_wp2_with fail;exact⟨⟨O.length+1,r',O++[⟨AX,Q.length,cX,Q⟩],A4,c4,o3,by have:=Ja.o;omega,aD,rfl,D,Jc,ae (by have:=uf.o;rw[<-this];simp[aS]),D.o.prev⟩,by simp[intOf];have:=Ja.o;omega⟩
  have Jd:ps=aS O/\YZ=E:=by
   have hm:=HM.o;have h8:ki r E=([],E):=by
    rcases EB r with h9|h9;subst h9;rfl
    .cases E with
     |none=>exact L6 r
     |some L=>exact absurd ⟨h9,S⟩ T
   exact xd6
  obtain⟨hp9,rfl⟩:=Jd;have HPE:=ae hp9;subst GM;have IE:(decide (0<r)=false)\/(decide (0<r)=true/\fl=true):=xd1
  have GN:az wr w.1.size 84 #[an,an,an,an,an,an,an,(),(),()]:=C.o.k.ak k0.ak (by have:=HVB.o;rintro(e9|e9)<;>omega);have kr:Bx wr w.1.size 84 #[an,an,an,an,an,an,an,(),(),()]:=⟨GN⟩;have Cd:Hx (rm v.1.size wr ⟨⟨z0,K,f1,f2,f3,f4,f5,zs⟩,P,zs.length,cS,I,is.length,cI,is,R,O.length,c3,O⟩):=ae (by
   have h9:=C.o.ti;refine⟨⟨C.o.rd NW.o.1 (λb hb=>(NW.o.2 b hb).1) om,rfl⟩,⟨C.o.rd Y3.o.1 (λb hb=>(Y3.o.2 b hb).1) om,rfl⟩,U.o.acw,HLS,acz,U.o.row.le,OJ,λb hb=>?_,λb hb=>?_⟩
   .rcases hb with hb|hb|hb|⟨s9,QQ,ad,e9,rfl⟩
    .have:=(NW.o.2 b hb).1;omega
    .have:=(Y3.o.2 b hb).1;omega
    .have:=(U.o.row.af hb).1;omega
    .have:=(U.o.el s9 QQ).2.2.2.o ad e9;omega
   .rcases hb with hb|hb|hb|⟨s9,QQ,ad,e9,rfl⟩
    .have:=(NW.o.2 b hb).2;exact bu this C.o.k2.size
    .have:=(Y3.o.2 b hb).2;exact bu this C.o.k2.size
    .exact(U.o.row.af hb).2.1
    .exact U.o.lt s9 QQ ad e9)
  have HKW:Hx (Ke (λb=>b=g\/b=vb) v wr):=C.o.k;have HRW:Hx (j5 p wr g YZ):=C.o.r;clear T S HM;rcases IE with t1|⟨t1,rfl⟩;all_goals go_wp2_with fail;obtain⟨rfl,rfl⟩:=HV.o;obtain⟨W9,M⟩:=lg ((((((((((wr.setCell (w.1.size,0) z0).setCell (w.1.size,1) (.int .i64 K)).setCell (w.1.size,2) f1).setCell (w.1.size,3) f2).setCell (w.1.size,4) f3).setCell (w.1.size,5) f4).setCell (w.1.size,6) f5).setCell (w.1.size,7) (.slice P zs cS)).setCell (w.1.size,8) (.slice I is cI)).setCell (w.1.size,9) (.slice R O c3));rw[<-M];(have k9:Kf (λb=>b=w.1.size) (λb=>b=w.1.size) wr W9:=by rw[M];exact acx);have b9:=(((((((((GN.av 0 z0).av 1 (.int .i64 K)).av 2 f1).av 3 f2).av 4 f3).av 5 f4).av 6 f5).av 7 (.slice P zs cS)).av 8 (.slice I is cI)).av 9 (.slice R O c3);rw[<-M]at b9;have r0:=b9.cell 0;have r1:=b9.cell 1;have r2:=b9.cell 2;have r3:=b9.cell 3;have r4:=b9.cell 4;have r5:=b9.cell 5;have r6:=b9.cell 6;have r7:=b9.cell 7;have r8:=b9.cell 8;have r9:=b9.cell 9;clear M;refine aX (v:=.agg #[z0,K,f1,f2,f3,f4,f5,.slice P zs cS,.slice I is cI,.slice R O c3]) (by simp[results,results48,go_sem,r0,r1,r2,r3,r4,r5,r6,r7,r8,r9]) rfl ?_;(have hwv:w.1.size<v.1.size:=by have:=HVB.o;omega);(have m:=Cd.o.kf k9 λb hb e9=>by have:=Cd.o.lo b hb;omega);have nd2:rm w.1.size W9 _:=⟨m.s,m.i,m.p,m.ls,m.li,m.lp,m.k6,λb hb=>aL (fq hwv) (m.lo b hb),m.hi⟩;exact⟨⟨⟨z0,K,f1,f2,f3,f4,f5,zs⟩,P,zs.length,cS,I,is.length,cI,is,R,O.length,c3,O⟩,rfl,ae (by show(⟨_,is,aS O⟩:et)=_;rw[HPE.o]),ae nd2,ae (HRW.o.kf k9 (λb e9=>by have:=h.o.hg;omega) λe9=>by omega),ae (aa9 (vb:=vb) ai HKW k9 (by have:=HVB.o;omega)),k9.prev λb e9=>by have:=h.o.hg;omega⟩
end
end
variable{u:World}{E:Int}
def Bw(zs:au):Int:=if zs.length<8 then 16 else if num (zs.drop (zs.length-4))=mX 0 (zs.take (zs.length-4))then 0 else 30
section
variable{o:Nat}
def Jh:∀(zs:au) (i:Nat),i+zs.length<=4000->(∀z∈zs,0<=z/\z<256)->0<=mX i zs/\mX i zs<=zs*1020000
 |[],i,_,_=>by simp[mX]
 |z::t,i,h,e=>by have j:=e z cm;rw[dj]at h;have m:=Jh t (i+1) om λx l=>e x (dp _ l);have r:0<=((i:Int)+1)*z:=jF om j.1;have y:((i:Int)+1)*z<=4000*255:=lO om om j.1 am;rw[mX,dj];omega
def Y4(zs:au):∀v∈zs.map (Value.int .u8),v.oneCell'=true:=λv hv=>by
 obtain⟨z,_,rfl⟩:=bw.1 hv;rfl
def L9[s:Bs w (some ⟨b,o,none⟩) n zs](hn:n<=1000000):() 91 #[.slice (some ⟨b,o,none⟩) n c] w (λe w'=>∃A c,e=.returned (.slice A n c)/\Bs w' A n zs/\n<=c/\aj w' w):=by
 obtain⟨i,hi,l⟩:=bt.1 (show(prog.info? 5).map (λi=>(i.zero,i.size,i.bytes))=some (some (.int .u8 0),1,1)from by kernel_rfl);simp only[eP]at l;obtain⟨m,r,y⟩:=l;have G:n=zs:=s.len;have p1:aj (w.alloc (.cells #[] 5)) w:=aq;have L:(w.alloc (.cells #[] 5)).ownsRow w.1.size 5 1 (w,0,0) 0 []:=aU.mk' (cur:= #[]) (al _) (jH w _) (al _) (aM _) rfl rfl;have O:Bs (w.alloc (.cells #[] 5)) (some ⟨b,o,none⟩) n zs:=aq;have R:=λQ=>xW (P:=prog) (w.alloc (.cells #[] 5)) w.1.size 22 Q 5 i _ 1 1 ao hi m r y rfl am _ 0 _ L ⟨b,o,none⟩ n c (zs.map (Value.int .u8)) (by simp[G]) (λk u hu=>by
  rw[bf]at hu;obtain⟨z,C,rfl⟩:=bt.1 hu;rw[cn];obtain⟨b',o',e,hb,I,_⟩:=O.rd k z C;cases e;exact I) (Y4 zs) (by unfold maxLen;omega) om aD
 obtain⟨S,w',hr,B,hg,-,-⟩:=R 22;have T:∀W,(binOp .eql 22 (.slice (some ⟨b,o,none⟩) n c) ()).run prog W=.ok (.bool false) W:=λW=>Lib.run_eql_slice_nil W 22 5 _ _ _ _ _ ao;have U:=ae B;have V:=ae hg;have M:=ae G;have X:=ae s.all;clear R L B hg G hi m r y;go_in;go_wp2_with (at_builtin;refine Lib.wpList_append_run _ rfl _ _ 22 22 rfl _ _ rfl rfl _ _ hr ?_)
 go_ret;have hb:Below w.1.size w w':=((aV w.1.size w).alloc (al _) _).grown V aD (λk D=>by
  rw[c5]at D;injection D with D
  show w.1.size<=k
  exact ei D)
 have E:=U.o;rw[cf,jE]at E;have Y:∀J K,S=.slice J n K->aU w' w.1.size 5 1 J K n (zs.map (Value.int .u8)):=λJ K e=>by rw[e]at E;exact E
 rcases E.2 with⟨rfl,Z⟩|⟨g,cap,cur,rfl,_⟩;have N:=M.o;rw[Z]at N⊢;obtain rfl:zs=[]:=hB N.symm;exact⟨none,0,rfl,⟨λj z F=>by simp at F,rfl⟩,al _,⟨hb⟩⟩;have hr:=Y _ _ rfl;refine⟨_,_,rfl,⟨λj z F=>?_,M⟩,hr.le,⟨hb⟩⟩;obtain⟨g',e,I⟩:=hr.cell (j:=j) (v:=.int .u8 z) (by rw[bf,F];rfl);have C:=X.o z (aC F);exact⟨g',0,e,hr.lt _ e,by rw[cf];exact I,C.1,C.2⟩
def Vz(w:aa)(L:au)(e:Ending)(w':aa):Prop:=∃g p,e=.returned (.tuple #[.pointer (some ⟨g,0,none⟩),an])/\aj p w/\Hx (j5 p w' g (some L))/\aj w' p
def QS(h:n<8):() 45 #[(A,n,c)] w (aJ w (.tuple #[.pointer none,(16:Int)])):=by
 have d1:decide ((n:Int)<8)=true:=by simp;omega
 go_in;go_wp2_with fail;go_ret2;exact bB
def By[s:Bs w A n zs](hn:n<=4000)(Q:n<=c)(h:8<=n)(hE:Hx (Bw zs=E)):
  () 45 #[(A,n,c)] w (λe w'=>if E=0 then Vz w (zs.take (n-4)) e w' else aJ w (.tuple #[.pointer none,(30:Int)]) e w'):=by
 have CB:=@ay;have FB:=@aO;obtain⟨b,o,z,rfl,ob,-,-,-,-⟩:=s.get (k:=0) om;have hl:n=zs:=s.len;have r:=s.all;obtain⟨m,hm⟩:∃m,n=m+4:=⟨n-4,om⟩;have j:=r5 (zs:=zs.drop m) λz R=>r z (dA R);have B:=Jh (zs.take m) 0 (by rw[bO];omega) λz R=>r z (cE R);rw[eo]at j;rw[bO]at B;have e4:zs.length-m=4:=om;rw[e4]at j;have p4:(256:Int)^4=4294967296:=by decide
 rw[p4]at j;have C:=hE.o;rw[Bw,ag om,show zs.length-4=m from om]at C;rw[show n-4=m from om];obtain⟨A',S,T⟩:=uY b o n c m om Q;obtain rfl:=T om;have sD:Bs w (some ⟨b,o+m,none⟩) 4 (zs.drop m):=by have:=s.drop (k:=m);rwa[show n-m=4 from om]at this
 have sT:Bs w (some ⟨b,o,none⟩) m (zs.take m):=s.take om;obtain⟨O,F⟩:=lh (num (zs.drop m));obtain⟨I,G⟩:=lh (mX 0 (zs.take m));rw[F]at j C;rw[G]at B C;have U:=ae F;have V:=ae G;have l:Hx ((zs.drop m).length=4):=ae (by rw[eo];omega);have w1:IntKind.u64.wrap I=I:=by rw[bq];omega
 have hw4:IntKind.i64.wrap ((n:Int)-4)=(m:Int):=by rw[a7];omega
 have HE:=ae C;have X:m<=4000:=om;have hmc:m<=c:=om;clear hl r j B e4 p4 C F G;go_in;go_upto_region 5 with fail
 refine aE (λu0 Y k0=>?_);have Z:Hx (j5 w u0 w.1.size (some (zs.drop m))):=ae ⟨by rw[l.o];decide,Y,⟨some ⟨b,o+m,none⟩,c-m,by rw[l.o];exact k0.ak,by rw[l.o];exact sD,by rw[l.o];omega⟩,al _⟩;have HG4:Hx (bp 4 (some (zs.drop m))=(O,some ((zs.drop m).drop 4))):=ae (by
  unfold bp;dsimp only;rw[ag (by rw[l.o];omega),bY (by rw[l.o];exact al _),U.o])
 have J:∀W:World,aj W w->() 92 #[.slice (some ⟨b,o,none⟩) m c] W (aJ W (.int .u32 I)):=λW pW=>by rw[<-V.o];exact YQ X
 have L:=ae J;clear J S;refine ab w ao (λP _=>?_);refine qL [1,2,3] ?_;refine aK 0 λK hK=>?_;have M:=Z.o.at (w':=P);go_simp;refine(e5 (k:=4) (y:=4) (ae M) rfl am am HG4).mono ?_;rintro e P ⟨rfl,-,-,sQ⟩;dsimp only;refine aG hK ?_ sQ;clear hK K M;refine aK 4 λK hK=>?_;go_simp;refine(L.o P aq).mono ?_;rintro e P ⟨rfl,_⟩;dsimp only;refine aG hK ?_;refine qL [5,6] ?_;refine a9 ?_;rename World=>uy;by_cases hq:O=I
 .have C:(0:Int)=E:=by have:=HE.o;rwa[ah hq]at this
  subst C;(have b0:(O !=I)=false:=by simp[hq]);clear hq;go_wp2_with (go_at_call 91;refine(L9 om).mono ?_;rintro e N ⟨A5,c5,rfl,s5,l5,Y1⟩);go_ret2;have D:(zs.take m).length=m:=sT.len.symm;exact⟨N.1.size,N,rfl,aR w N,ae ⟨by rw[D];omega,aR N _,⟨A5,c5,by rw[D];exact az.new _ _ _,by rw[D];exact s5,by rw[D];exact l5⟩,al _⟩,aR N _⟩
 have C:(30:Int)=E:=by have:=HE.o;rwa[ag hq]at this
 subst C;have b0:(O !=I)=true:=by simp[hq]
 clear hq;go_wp2_with fail;go_ret2;exact⟨rfl,aR w uy⟩
end
end Go.Proofs.YtmkjnlifimffkaaGreat
