/- Lemmas. -/
import Derived.Laws.BitsLemmas
import Derived.Test.YtmkjnlifimffkaaGreatG14
namespace Go.Proofs.YtmkjnlifimffkaaGreat
open Go.RowKit Tryz
set_option linter.all false
set_option maxRecDepth 100000
set_option maxHeartbeats 0
variable{Γ:Prop}
attribute[local irreducible]Calls
variable{p w':World}{A B:Option Addr}{c d g m:Nat}{L' zs:List Int}{x z:Int}
@[grind cases]class Bs(w:World)(A:Option Addr)(n:Nat)(zs:outParam (List Int)):Prop where
 rd:∀(j:Nat) (z:Int),zs[j]?=some z->∃b off,A=some ⟨b,off,none⟩/\b<w.1.size/\w.cell? (b,off+j)=some (.int .u8 z)/\0<=z/\z<256
 len:n=zs
section
variable{w:World}{n k:Nat}{L:List Int}{sh:Bool}
instance(priority:=low) Bs.step[p:aj w' w][h:Bs w A n zs]:Bs w' A n zs:=⟨λj z l=>by
 obtain⟨b,off,e,hb,r,u⟩:=h.rd j z l;exact⟨b,off,e,bN hb p.st.size,(p.st.cell (p:=⟨b,off+j,none⟩) hb).trans r,u⟩,h.len⟩
theorem Bs.get(h:Bs w A n zs){k:Nat}(u:k<n):∃b off z,A=some ⟨b,off,none⟩/\Old b w/\w.cell? (b,off+k)=some (.int .u8 z)/\0<=z/\z<256/\Z (zs[k]?=some z):=by
 have e:zs[k]?=some (zs[k]'(by grind)):=ay;obtain⟨b,off,rfl,hb,j,l,r⟩:=h.rd k _ e;exact⟨b,off,_,rfl,⟨hb⟩,j,l,r,U e⟩
theorem Bs.drop{b off:Nat}(h:Bs w (some ⟨b,off,none⟩) n zs):Bs w (some ⟨b,off+k,none⟩) (n-k) (zs.drop k):=by
 refine⟨λj z l=>?_,ay⟩;rw[iF]at l;obtain⟨u,r,e,hb,y,C⟩:=h.rd (k+j) z l;cases e;grind
theorem Bs.take(h:Bs w A n zs)(b:k<=n):Bs w A k (zs.take k):=by
 refine⟨λj z e=>?_,ay⟩;grind
theorem Bs.nil:Bs w A 0 []:=⟨ay,rfl⟩
theorem Bs.all(h:Bs w A n zs):∀z∈zs,0<=z/\z<256:=(by grind [List.getElem?_of_mem])
def num(zs:au):Int:=zs.foldl (λn z=>n*256+z) 0
def Uu(zs:au)(z:Int):num (zs++[z])=num zs*256+z:=by simp[num]
theorem FY:∀(zs:au) (n:Int) (a:Nat),0<=n->n<256^a->(∀z∈zs,0<=z/\z<256)->0<=zs.foldl (λn z=>n*256+z) n/\zs.foldl (λn z=>n*256+z) n<256^(a+zs.length)
 |[],n,a,b,e,_=>⟨b,e⟩
 |z::t,n,a,b,e,h=>by have j:=h z dD;have:=FY t (n*256+z) (a+1) Y ay ay;grind
def s6{zs:au}(h:∀z∈zs,0<=z/\z<256):0<=num zs/\num zs<256^zs.length:=by
 have:=FY zs 0 0 (eb _) ao h;rwa[cQ]at this
theorem YE(e:0<=x)(l:x<72057594037927936)(j:0<=z)(r:z<256):bits .or .u64 (x*256) z=x*256+z:=by
 have b:(2:Int)^8=256:=by decide
 have:=Kb x z 8 e (by rw[b];omega) j (by rw[b];omega) Y;grind
theorem YF{m:Nat}(h:m<=7):(256:Int)^m<=72057594037927936:=by
 have b:=Nat.pow_le_pow_right (n:=256) ao h;grind
def wA(b o n c k:Nat)(l:k<=n)(r:n<=c):
  ∃j,(∀w,(Instr.slice 22 (.slice (some ⟨b,o,none⟩) n c) (some (.int .i64 (k:Int))) none none).run prog w=.ok (.slice j (n-k) (c-k)) w)/\(k<n->j=some ⟨b,o+k,none⟩):=by
 have hs:∀w,(sizeOf (prog.elem 22)).run prog w=.ok 1 w:=λw=>by obtain⟨i,hi,e⟩:=bJ.1 (show(prog.info? (prog.elem 22)).map (·.size)=some 1 from by kernel_rfl);simp[sizeOf,typeInfo,hi,e]
 refine⟨if c=k then some ⟨b,o,none⟩else(⟨b,o,none⟩:Addr).add k,λw=>?_,λh=>?_⟩;rw[dB w 22 (some ⟨b,o,none⟩) n c ap .i64 k Y Y,hs];simp[Result.andThen,sliced];rw[ag Y,cf]
def getM(k:Nat)(L:au)(sh:Bool):Int×List Int×Bool:=if sh=true\/k<1\/8<k\/L<k then(0,L,true)else(num (L.take k),L.drop k,false)
structure zv(p w:World)(g:Nat)(L:List Int)(sh:Bool):Prop where
 prev:aj w p
 bx:∃A c,aA w g 124 #[.slice A L c,.bool sh]/\Bs p A L.length L/\L.length<=c
 hg:p<=g
@[grind cases]structure Kg(g:Nat)(w w':World):Prop where
 size:w.1.size<=w'.1.size
 keep:∀b,b<w.1.size->b≠g->w'.heap[b]?=w.heap[b]?
 base:Below 0 w w'
def Kg.of[k:aM w w']:Kg g w w':=⟨k.st.size,λb hb _=>k.st.block b hb,k.st.mono (aR _)⟩
theorem Kg.av(h:Kg g w w')(i:Nat)(v:Value):Kg g w (w'.setCell (g,i) v):=
 ⟨by have:=h.size;simpa using this,(by grind [Below.heap_setCell]),h.base.setCell (p:=⟨g,i,none⟩) (aR _) _⟩
def zv.at(h:zv p w g L sh)[k:aM w w']:zv p w' g L sh:=by
 obtain⟨A,c,b,e⟩:=h.bx;exact⟨⟨dm h.prev.st k.st⟩,⟨A,c,b.at,e⟩,h.hg⟩
def abB(p:ab)(g:Nat)(w:ab)(v:Int)(L:au)(sh:Bool)(e:Ending)(w':ab):Prop:=e=.returned (.int .u64 v)/\Z (zv p w' g L sh)/\Z (Kg g w w')
def zO2(h:Γ:=by go_wp2_with fail;go_ret;obtain⟨f1,f2⟩:=l.o w ⟨aY _ _⟩;exact⟨rfl,U f1,U f2⟩):=h
theorem IF(h:Z (zv p w g L sh)){k:Nat}(hk:k<100)(hL:L.length<=100000){v:Int}{sh':Bool}(K:Z (getM k L sh=(v,L',sh'))):() 46 #[.pointer g,k] w (abB p g w v L' sh'):=by
 obtain⟨CB,CP,FB⟩:=gW;obtain⟨A,c,r,bs,M⟩:=h.o.bx;have N:Bx w g 124 #[.slice A L c,.bool sh]:=⟨r⟩;have p9:=h.o.prev;clear r;have hg:=K.o;unfold getM at hg;go_in;by_cases hb:sh=true\/k<1\/8<k\/L<k
 .rw[ah hb]at hg;(obtain⟨rfl,rfl,rfl⟩:0=v/\L=L'/\true=sh':=by simpa using hg);clear hg K
  have fin:∀u:World,aj u w->zv p (u.setCell (g,1) (.bool true)) g L true/\Kg g w (u.setCell (g,1) (.bool true)):=λu _=>
   ⟨⟨⟨(aO p u).setCell (p:=⟨g,1,none⟩) h.o.hg _⟩,⟨A,c,N.ak.at.av 1 _,bs,M⟩,h.o.hg⟩,Kg.of.av 1 _⟩
  have l:=U fin;clear fin;cases hs:sh with
  |true=>clear hb;subst hs;exact zO2
  |false=>subst hs;by_cases O:k<1;(have P:decide ((k:Int)<1)=true:=by simp;omega);clear hb;exact zO2;(have P:decide ((k:Int)<1)=false:=by simp;omega);by_cases Q:8<k;(have R:decide ((8:Int)<k)=true:=by simp;omega);clear hb O;exact zO2;(have R:decide ((8:Int)<k)=false:=by simp;omega);(have t3:decide (L<k)=true:=by rcases hb with h|h|h|h;cases h;grind;grind;simpa using h);clear hb O Q;exact zO2
 rw[ag hb]at hg;obtain⟨rfl,rfl,rfl⟩:num (L.take k)=v/\L.drop k=L'/\false=sh':=by simpa using hg
 simp only[not_or]at hb;obtain⟨S,s2,s3,s4⟩:=hb;obtain rfl:sh=false:=by simpa using S
 have P:decide ((k:Int)<1)=false:=by simp;omega
 have R:decide ((8:Int)<k)=false:=by simp;omega
 have t3:decide ((L.length:Int)<k)=false:=by simp;omega
 obtain⟨b,off,z,rfl,ob,T,z0,z1,F⟩:=bs.get (k:=0) Y;clear hg S T z0 z1 F;have y:=bs.all;go_upto_region 6 with fail;go_loop [5,39] (λt i=>∃j:Nat,j<=k/\i=.int .i64 j/\t=.int .u64 (num (L.take j))) (λ_ i=>k-(intOf i).toNat);exact⟨0,aR _,rfl,rfl⟩;obtain⟨j,hj,rfl,rfl⟩:=hrel;by_cases V:j<k
 .obtain⟨Q,o2,z,e,X,T,z0,z1,F⟩:=bs.get (k:=j) Y;cases e;have E:=s6 (zs:=L.take j) λz hz=>y z (eS hz);have hN:Z (num (L.take (j+1))=num (L.take j)*256+z):=U (by rw[take_at F.o,Uu]);obtain⟨x,G⟩:=lh (num (L.take j));rw[G]at E⊢;have HX:=U G;clear G;(have C:x<72057594037927936:=by have h1:=E.2;rw[cr]at h1;have h2:=YF (m:=min j L.length) Y;omega);(have w1:IntKind.u64.wrap (x*256)=x*256:=by rw[bE];omega);have w2:bits .or .u64 (x*256) z=x*256+z:=YE E.1 C z0 z1;clear E C;go_wp2_with fail;exact⟨⟨j+1,Y,by go_num,by rw[hN.o,HX.o]⟩,by simp[intOf];omega⟩
 obtain rfl:j=k:=Y;obtain⟨A',hA,D⟩:=wA b off L.length c j Y M;have I:=U D;clear D;go_wp2_with fail;go_ret;refine⟨rfl,U ⟨⟨(aO p w).setCell (p:=⟨g,0,none⟩) h.o.hg _⟩,⟨A',c-j,by rw[e2];exact aA.av N.ak 0 _,?_,by rw[e2];omega⟩,h.o.hg⟩,U (Kg.of.av 0 _)⟩;rw[e2];by_cases J:j<L;rw[I.o J];exact bs.drop;rw[show L.drop j=[]from eU Y,show L.length-j=0 from Y];exact Bs.nil
end
def nl:Nat->List Int->Int
 |_,[]=>0
 |i,z::t=>((i:Int)+1)*z+nl (i+1) t
section
variable{w:World}{n:Nat}
def qy(b:0<=x)(e:x<4294967296):IntKind.u32.wrap x=x:=by
 show x%4294967296=x;omega
def zO8(h:Γ:=by go_wp2_with fail;go_ret;exact bF):=h
def abC[b:Bs w A n zs](G:n<=4000):() 92 #[(A,n,c)] w (aL w (.int .u32 (nl 0 zs))):=by
 have I:=@bX;have B:Z (n=zs):=b.len;go_in;go_wp2_with fail;go_loopw [3,8] (λs i wr=>∃(j:Nat) (S:Int),j<=n/\i=.int .i64 j/\s=.int .u32 S/\0<=S/\S<=(j:Int)*1020000/\Z (S+nl j (zs.drop j)=nl 0 zs)/\aj wr w) (λ_ i _=>n-(intOf i).toNat);exact⟨0,0,aR _,rfl,rfl,ao,ao,U aI,aC⟩;obtain⟨j,S,J,rfl,rfl,K,L,u,hp⟩:=hrel;by_cases l:j<n
 .obtain⟨M,o1,z,rfl,C,N,z0,z1,D⟩:=b.get l;obtain⟨q,hq⟩:=lh (((j:Int)+1)*z);(have q0:0<=q:=by rw[<-hq];exact jO Y z0);have O:q<=1020000:=by have y:=l2 (show(j:Int)+1<=4000 by omega) (show z<=255 by omega) z0 ao;rw[hq]at y;exact y
  have m:Z ((S+q)+nl (j+1) (zs.drop (j+1))=nl 0 zs):=U (by
   obtain⟨E,F⟩:=bj.1 D.o;rw[<-u.o,e7 E,F,nl,hq,Int.add_assoc])
  have k1:IntKind.u32.wrap ((j:Int)+1)=(j:Int)+1:=qy Y Y;have k2:IntKind.u32.wrap z=z:=qy Y Y;(have P:IntKind.u32.wrap (((j:Int)+1)*z)=q:=by rw[hq];exact qy (by omega) (by omega));have Q:IntKind.u32.wrap (S+q)=S+q:=qy Y Y;(have e:S+q<=((j:Int)+1)*1020000:=by omega);have r:=U e;clear hq e;go_wp2_with fail;go_roundw;exact⟨j+1,S+q,Y,by go_num,rfl,Y,by have:=r.o;rwa[en],m,aC⟩;simp[intOf];omega
 obtain rfl:j=n:=Y;have hs:S=nl 0 zs:=by have:=u.o;rw[eU (by rw[<-B.o];exact al _)]at this;simpa[nl]using this
 subst hs;exact zO8
def ae7(L:au)(sh:Bool):Int:=if sh=true then 16 else if L=[]then 0 else 10
def Rc{L:au}{sh:Bool}(h:Z (zv p w g L sh)):() 49 #[.pointer g] w (aL w (ae7 L sh:Int)):=by
 have l:=@az;obtain⟨A,c,e,-,-⟩:=h.o.bx;have j:Bx w g 124 #[.slice A L c,.bool sh]:=⟨e⟩;clear e;cases sh;case true=>go_in;exact zO8
 case false=>
  cases L with
  |nil=>go_in;exact zO8
  |cons x t=>obtain⟨n,b⟩:=lh ((x::t).length);(have m:0<n:=by rw[<-b];simp);rw[b]at j;clear b;go_in;exact zO8
end
def bC(k:Nat):Option (List Int)->Int×Option (List Int)
 |none=>(0,none)
 |some L=>if L.length<k then(0,none)else(num (L.take k),some (L.drop k))
def dh:Nat->Option (List Int)->List Int×Option (List Int)
 |0,o=>([],o)
 |c+1,o=>if(bC 2 o).2=none then([],none)else if(dh c (bC 2 o).2).2=none then([],none)else((bC 2 o).1::(dh c (bC 2 o).2).1,(dh c (bC 2 o).2).2)
def nH(o:Option (List Int)):List Int×Option (List Int):=dh (bC 1 o).1.toNat (bC 1 o).2
def j9:Nat->Option (List Int)->List Int×Option (List Int)
 |0,o=>([],o)
 |_+1,none=>([],none)
 |c+1,some L=>((bC 2 (some L)).1::(j9 c (bC 2 (some L)).2).1,(j9 c (bC 2 (some L)).2).2)
def kt:Nat->Option (List Int)->List (List Int)×Option (List Int)
 |0,o=>([],o)
 |_+1,none=>([],none)
 |c+1,some L=>((nH (some L)).1::(kt c (nH (some L)).2).1,(kt c (nH (some L)).2).2)
abbrev fR:=Option (List Int)
structure NdP where
 k0:Int×fR
 k1:Int×fR
 f1:Int×fR
 f2:Int×fR
 f3:Int×fR
 f4:Int×fR
 f5:Int×fR
 s:List Int×fR
 ci:Int×fR
 i:List Int×fR
 cp:Int×fR
 p:List (List Int)×fR
def wC(o:fR):NdP:=
 let k0:=bC 1 o
 let k1:=bC 8 k0.2
 let f1:=bC 2 k1.2
 let f2:=bC 2 f1.2
 let f3:=bC 2 f2.2
 let f4:=bC 2 f3.2
 let f5:=bC 2 f4.2
 let s:=nH f5.2
 let ci:=bC 1 s.2
 let i:=j9 ci.1.toNat ci.2
 let cp:=bC 1 i.2
 ⟨k0,k1,f1,f2,f3,f4,f5,s,ci,i,cp,kt cp.1.toNat cp.2⟩
def Dc(o:fR):dV×fR:=(⟨⟨(wC o).k0.1,IntKind.i64.wrap (wC o).k1.1,(wC o).f1.1,(wC o).f2.1,(wC o).f3.1,(wC o).f4.1,(wC o).f5.1,(wC o).s.1⟩,(wC o).i.1,(wC o).p.1⟩,(wC o).p.2)
def qz:Nat->fR->List dV×fR
 |0,o=>([],o)
 |_+1,none=>([],none)
 |c+1,some L=>((Dc (some L)).1::(qz c (Dc (some L)).2).1,(qz c (Dc (some L)).2).2)
def gq:Nat->Int->List Int
 |0,_=>[]
 |k+1,n=>n/256^k%256::gq k n
def FZ(S:au):List Int:=gq 1 S.length++S.flatMap (gq 2)
def Dd(v:dV):List Int:=gq 1 v.o.kd++gq 8 (IntKind.u64.wrap v.o.k)++gq 2 v.o.wd++gq 2 v.o.st++gq 2 v.o.sd++gq 2 v.o.fr++gq 2 v.o.tt++FZ v.o.S++gq 1 v.ins.length++v.ins.flatMap (gq 2)++gq 1 v.P.length++v.P.flatMap FZ
def YG(N:a6):List Int:=gq 4 1096042545++FZ N.ed++gq 2 N.nodes.length++N.nodes.flatMap Dd
structure DcP where
 m4:Int×fR
 ed:List Int×fR
 c:Int×fR
 nd:List dV×fR
def sa(L:au):DcP:=
 let m4:=bC 4 (some L)
 let ed:=nH m4.2
 let c:=bC 2 ed.2
 ⟨m4,ed,c,qz c.1.toNat c.2⟩
def ux(L:au):a6:=⟨(sa L).ed.1,(sa L).nd.1⟩
section
variable{k:Nat}{L:List Int}{o:fR}{n a:Int}
theorem xX:∀(zs:au) (n:Int),zs.foldl (λn z=>n*256+z) n=n*256^zs.length+num zs
 |[],n=>by simp[num]
 |z::t,n=>by have b:=xX t (n*256+z);have e:=xX t (0*256+z);unfold num;grind
theorem Uv(z:Int)(t:au):num (z::t)=z*256^t.length+num t:=by
 have:=xX t (0*256+z);unfold num at this⊢;grind
def jD(m:Nat):(0:Int)<256^m:=GF ao
def F0:∀(k:Nat) (n:Int),(gq k n).length=k
 |0,_=>rfl
 |k+1,n=>by rw[gq,fD,F0 k n]
def F1(a x:Int)(m:Nat):∀k,k<=m->gq k (a*256^m+x)=gq k x
 |0,_=>rfl
 |k+1,h=>by rw[gq,gq,F1 a x m k Y];obtain⟨j,rfl⟩:∃j,m=k+(j+1):=⟨m-k-1,Y⟩;(have e:a*(256:Int)^(k+(j+1))=256^k*(a*256^j*256):=by rw[P9,aaE,mw (256^k),<-mr,<-mr];exact mw _ _);rw[e,Int.mul_add_ediv_left _ _ (Int.ne_of_gt (jD k)),P8,aaA]
theorem F3:∀zs:List Int,(∀z∈zs,0<=z/\z<256)->gq zs.length (num zs)=zs
 |[],_=>rfl
 |z::t,h=>by have b:=h z dD;have ht:∀y∈t,0<=y/\y<256:=ay;have hb:=s6 ht;rw[fD,gq,Uv,F1 _ _ _ _ (al _),F3 t ht,mw z,Int.mul_add_ediv_left _ _ (Int.ne_of_gt (jD _)),PH hb.1 hb.2,P7];grind
abbrev nJ(L:List Int):Prop:=∀z∈L,0<=z/\z<256
theorem eM(h:nJ L)(b:(bC k (some L)).2=some L'):L=gq k (bC k (some L)).1++L'/\nJ L'/\0<=(bC k (some L)).1/\(bC k (some L)).1<256^k:=by
 unfold bC at b⊢;dsimp only at b⊢;split at b;cases b;rename_i r;rw[ag r];have e:=cU b;subst e;have ht:nJ (L.take k):=ay;have j:=F3 (L.take k) ht;have l:(L.take k).length=k:=by rw[cr];omega
 rw[l]at j;have hb:=s6 ht;rw[l]at hb;exact⟨by rw[j,d3],λz u=>h z (hJ u),hb⟩
theorem gV(h:(bC k o).2=some L'):∃L,o=some L:=by
 cases o with
 |none=>cases h
 |some L=>grind
theorem yU:∀(c:Nat) {L L':au},nJ L->(dh c (some L)).2=some L'->L=(dh c (some L)).1.flatMap (gq 2)++L'/\nJ L'/\(dh c (some L)).1.length=c
 |0,L,L',h,e=>by have e:=cU e;subst e;exact⟨by simp[dh],h,rfl⟩
 |c+1,L,L',h,e=>by unfold dh at e⊢;split at e;cases e;rename_i j;rw[ag j];split at e;cases e;rename_i l;rw[ag l];obtain⟨u,b⟩:=Option.ne_none_iff_exists'.1 j;obtain⟨y,r,_⟩:=eM h b;rw[b]at e⊢;obtain⟨B,C,D⟩:=yU c r e;grind
def wD(c:Nat):(dh c none).2=none:=by
 cases c<;>simp[dh,bC]
def Uw:(nH none).2=none:=wD _
theorem De(h:nJ L)(e:(nH (some L)).2=some L'):L=FZ (nH (some L)).1++L'/\nJ L'/\(nH (some L)).1.length<256:=by
 unfold nH at e⊢;cases b:(bC 1 (some L)).2 with
 |none=>rw[b,wD]at e;cases e
 |some l=>rw[b]at e;obtain⟨r,j,u,y⟩:=eM h b;obtain⟨B,C,D⟩:=yU _ j e;grind [dh,bC,FZ,List.append_assoc]
def zOb(h:Γ:=by rw[b]at e;cases c<;>cases e):=h
theorem F4:∀(c:Nat) {L L':au},nJ L->(j9 c (some L)).2=some L'->L=(j9 c (some L)).1.flatMap (gq 2)++L'/\nJ L'/\(j9 c (some L)).1.length=c
 |0,L,L',h,e=>by have e:=cU e;subst e;exact⟨by simp[j9],h,rfl⟩
 |c+1,L,L',h,e=>
  by
   unfold j9 at e⊢;dsimp only at e⊢;cases b:(bC 2 (some L)).2 with
   |none=>exact zOb
   |some l=>obtain⟨r,j,_⟩:=eM h b;rw[b]at e;obtain⟨u,y,B⟩:=F4 c j e;grind
theorem F5:∀(c:Nat) {L L':au},nJ L->(kt c (some L)).2=some L'->L=(kt c (some L)).1.flatMap FZ++L'/\nJ L'/\(kt c (some L)).1.length=c/\∀s∈(kt c (some L)).1,s.length<256
 |0,L,L',h,e=>by have e:=cU e;subst e;exact⟨by simp[kt],h,rfl,λs hs=>by simp[kt]at hs⟩
 |c+1,L,L',h,e=>
  by
   unfold kt at e⊢;dsimp only at e⊢;cases b:(nH (some L)).2 with
   |none=>exact zOb
   |some l=>obtain⟨r,j,u⟩:=De h b;rw[b]at e;obtain⟨y,B,C,D⟩:=F5 c j e;grind
theorem OS(h:(j9 c o).2=some L'):∃L,o=some L:=by
 cases o with
 |none=>cases c<;>cases h
 |some L=>grind
def OT(h:(kt c o).2=some L'):∃L,o=some L:=by
 cases o with
 |none=>cases c<;>cases h
 |some L=>exact⟨L,rfl⟩
theorem F6(h:(nH o).2=some L'):∃L,o=some L:=by
 cases o with
 |none=>rw[Uw]at h;cases h
 |some L=>grind
theorem YH{x:Int}(b:0<=x)(e:x<18446744073709551616):IntKind.u64.wrap (IntKind.i64.wrap x)=x:=by
 grind [IntKind.wrap_u64,IntKind.wrap_i64]
structure YI(v:dV):Prop where
 s:v.o.S.length<256
 i:v.ins.length<256
 p:v.P.length<256
 ps:∀s∈v.P,s.length<256
def YJ(h:nJ L)(e:(Dc (some L)).2=some L'):L=Dd (Dc (some L)).1++L'/\nJ L'/\YI (Dc (some L)).1:=by
 have e:(wC (some L)).p.2=some L':=e;obtain⟨P,hP⟩:=lh (wC (some L));have O:P.k0=bC 1 (some L):=by rw[<-hP];rfl
 have T:P.k1=bC 8 P.k0.2:=by rw[<-hP];rfl
 have a3:P.f1=bC 2 P.k1.2:=by rw[<-hP];rfl
 have a4:P.f2=bC 2 P.f1.2:=by rw[<-hP];rfl
 have V:P.f3=bC 2 P.f2.2:=by rw[<-hP];rfl
 have X:P.f4=bC 2 P.f3.2:=by rw[<-hP];rfl
 have a7:P.f5=bC 2 P.f4.2:=by rw[<-hP];rfl
 have a8:P.s=nH P.f5.2:=by rw[<-hP];rfl
 have a9:P.ci=bC 1 P.s.2:=by rw[<-hP];rfl
 have y:P.i=j9 P.ci.1.toNat P.ci.2:=by rw[<-hP];rfl
 have B:P.cp=bC 1 P.i.2:=by rw[<-hP];rfl
 have C:P.p=kt P.cp.1.toNat P.cp.2:=by rw[<-hP];rfl
 unfold Dc;rw[hP]at e⊢;rw[C]at e;obtain⟨L11,b⟩:=OT e;rw[B]at b;obtain⟨L10,j⟩:=gV b;rw[y]at j;obtain⟨L9,D⟩:=OS j;rw[a9]at D;obtain⟨L8,E⟩:=gV D;rw[a8]at E;obtain⟨L7,F⟩:=F6 E;rw[a7]at F;obtain⟨L6,G⟩:=gV F;rw[X]at G;obtain⟨L5,I⟩:=gV G;rw[V]at I;obtain⟨L4,J⟩:=gV I;rw[a4]at J;obtain⟨L3,K⟩:=gV J;rw[a3]at K;obtain⟨L2,M⟩:=gV K;rw[T]at M;obtain⟨L1,Q⟩:=gV M;rw[O]at Q;rw[<-O]at Q;have t1:=eM h (O▸Q);rw[<-O]at t1;rw[Q]at T M;have N:=eM t1.2.1 M;rw[<-T]at N M;rw[M]at a3 K;have t3:=eM N.2.1 K;rw[<-a3]at t3 K;rw[K]at a4 J;have t4:=eM t3.2.1 J;rw[<-a4]at t4 J;rw[J]at V I;have t5:=eM t4.2.1 I;rw[<-V]at t5 I;rw[I]at X G;have t6:=eM t5.2.1 G;rw[<-X]at t6 G;rw[G]at a7 F;have t7:=eM t6.2.1 F;rw[<-a7]at t7 F;rw[F]at a8 E;have R:=De t7.2.1 E;rw[<-a8]at R E;rw[E]at a9 D;have S:=eM R.2.1 D;rw[<-a9]at S D;rw[D]at y j;have r:=F4 _ S.2.1 j;rw[<-y]at r j;rw[j]at B b;have u:=eM r.2.1 b;rw[<-B]at u b;rw[b]at C e;have l:=F5 _ u.2.1 e;rw[<-C]at l;have k2:IntKind.u64.wrap (IntKind.i64.wrap P.k1.1)=P.k1.1:=YH N.2.2.1 (by
  have:=N.2.2.2;have e:(256:Int)^8=18446744073709551616:=by decide
  rw[e]at this;exact this)
 have l1:((P.i.1.length:Nat):Int)=P.ci.1:=by rw[r.2.2];have:=S.2.2.1;omega
 have l2:((P.p.1.length:Nat):Int)=P.cp.1:=by rw[l.2.2.1];have:=u.2.2.1;omega
 refine⟨?_,l.2.1,R.2.2,by show P.i.1.length<256;omega,by show P.p.1.length<256;omega,l.2.2.2⟩;unfold Dd;dsimp only;rw[k2,l1,l2];simp only[hM];rw[<-l.1,<-u.1,<-r.1,<-S.1,<-R.1,<-t7.1,<-t6.1,<-t5.1,<-t4.1,<-t3.1,<-N.1,<-t1.1]
def Ll:∀(c:Nat) {L L':au},nJ L->(qz c (some L)).2=some L'->L=(qz c (some L)).1.flatMap Dd++L'/\nJ L'/\(qz c (some L)).1.length=c/\∀v∈(qz c (some L)).1,YI v
 |0,L,L',h,e=>by have e:=cU e;subst e;exact⟨by simp[qz],h,rfl,λs hs=>by simp[qz]at hs⟩
 |c+1,L,L',h,e=>
  by
   unfold qz at e⊢;dsimp only at e⊢;cases b:(Dc (some L)).2 with
   |none=>exact zOb
   |some D=>obtain⟨j,l,r⟩:=YJ h b;rw[b]at e;obtain⟨u,y,B,C⟩:=Ll c l e;refine⟨?_,y,by rw[fD,B],λs hs=>?_⟩;rw[mu,hM,<-u];exact j;rcases dE.1 hs with rfl|hs;exact r;exact C s hs
theorem Ux(h:(qz c o).2=some L'):∃L,o=some L:=by
 cases o with
 |none=>cases c<;>cases h
 |some L=>grind
theorem abD(h:nJ L)(hm:(sa L).m4.1=1096042545)(j:(sa L).nd.2=some []):YG (ux L)=L/\(ux L).ed.length<256/\(ux L).nodes.length<65536/\∀v∈(ux L).nodes,YI v:=by
 unfold ux;obtain⟨P,hP⟩:=lh (sa L);have r:P.m4=bC 4 (some L):=by rw[<-hP];rfl
 have l:P.ed=nH P.m4.2:=by rw[<-hP];rfl
 have a3:P.c=bC 2 P.ed.2:=by rw[<-hP];rfl
 have a4:P.nd=qz P.c.1.toNat P.c.2:=by rw[<-hP];rfl
 rw[hP]at hm j⊢;rw[a4]at j;obtain⟨C,b⟩:=Ux j;rw[a3]at b;obtain⟨D,e⟩:=gV b;rw[l]at e;obtain⟨E,u⟩:=F6 e;have y:=eM h (r▸u);rw[<-r]at y;rw[u]at l e;have B:=De y.2.1 e;rw[<-l]at B e;rw[e]at a3 b;have t3:=eM B.2.1 b;rw[<-a3]at t3 b;rw[b]at a4 j;have t4:=Ll _ t3.2.1 j;rw[<-a4]at t4;have l1:((P.nd.1.length:Nat):Int)=P.c.1:=by rw[t4.2.2.1];have:=t3.2.2.1;omega
 grind [YG,List.append_assoc]
end
section
variable{u:World}{b q:Nat}{o':fR}{xs:List Int}{F':Nat->Prop}{A':Option Addr}{y:Int}
def ka(p w:ab)(g:Nat):fR->Prop
 |some L=>L.length<=100000/\zv p w g L false
 |none=>∃L:List Int,L.length<=100000/\zv p w g L true
abbrev Ke(F:Nat->Prop)(w w':World):Prop:=Kf F F w w'
section
variable{w:World}{k n B:Nat}{o:fR}{L:List Int}{sh:Bool}{F:Nat->Prop}{E:TypeId}
def Kg.ke(h:Kg g w w'):Ke (λb=>b=g) w w':=⟨h.base,h.size,λb hb e=>h.keep b hb e,λ_ hb=>.inl hb⟩
def zv.kf(h:zv p w g L sh)(e:Kf F F' w w')(hF:∀b,F b->p.1.size<=b)(hg:¬F g):zv p w' g L sh:=by
 obtain⟨A,c,j,m⟩:=h.bx;have l:=h.prev;exact⟨e.prev hF,⟨A,c,e.ak j hg,m⟩,h.hg⟩
def ka.kf(h:ka p w g o)(e:Kf F F' w w')(hF:∀b,F b->p.1.size<=b)(hg:¬F g):ka p w' g o:=by
 cases o with
 |some L=>exact⟨h.1,h.2.kf e hF hg⟩
 |none=>obtain⟨L,j,l⟩:=h;exact⟨L,j,l.kf e hF hg⟩
def ka.at(h:ka p w g o)[aM w w']:ka p w' g o:=by
 cases o with
 |some L=>exact⟨h.1,h.2.at⟩
 |none=>obtain⟨L,e,j⟩:=h;exact⟨L,e,j.at⟩
theorem ka.prev(h:ka p w g o):aj w p:=by
 cases o with
 |some L=>exact h.2.prev
 |none=>obtain⟨L,j,e⟩:=h;exact e.prev
def ka.hg(h:ka p w g o):p<=g/\g<w:=by
 cases o with
 |some L=>obtain⟨A,c,e,_⟩:=h.2.bx;exact⟨h.2.hg,e.lt⟩
 |none=>obtain⟨L,e,j⟩:=h;obtain⟨A,c,l,_⟩:=j.bx;exact⟨j.hg,l.lt⟩
def ka.flag(h:ka p w g o):∃v cs,Bx w g 124 #[v,.bool cs]/\cs=o.isNone:=by
 cases o with
 |some L=>obtain⟨A,c,e,_⟩:=h.2.bx;exact⟨_,_,⟨e⟩,rfl⟩
 |none=>obtain⟨L,e,j⟩:=h;obtain⟨A,c,l,_⟩:=j.bx;exact⟨_,_,⟨l⟩,rfl⟩
def ka.byt(h:ka p w g (some L)):nJ L:=by
 obtain⟨A,c,j,e,_⟩:=h.2.bx;exact e.all
def Df(h:ka p w g o)(k:Nat):0<=(bC k o).1/\(bC k o).1<256^k:=by
 cases o with
 |none=>exact⟨eb _,jD k⟩
 |some L=>unfold bC;dsimp only;split;exact⟨eb _,jD k⟩;rename_i j;have hb:=s6 (zs:=L.take k) λz e=>h.byt z (eS e);rw[cr,d5 Y]at hb;exact hb
def adA(p:ab)(g:Nat)(w:ab)(v:Int)(o:fR)(e:Ending)(w':ab):Prop:=e=.returned (.int .u64 v)/\Z (ka p w' g o)/\Z (Ke (λb=>b=g) w w')/\aj w' p
def zO9(h:Γ:=by rintro e w' ⟨rfl,j,z⟩;exact⟨rfl,U ⟨L,l,j⟩,U z.o.ke,j.o.prev⟩):=h
def fa(h:Z (ka p w g o)){k:Nat}(G:y=(k:Int))(J:1<=k)(K:k<=8){v:Int}(I:Z (bC k o=(v,o'))):() 46 #[.pointer g,y] w (adA p g w v o'):=by
 subst G;have hg:=I.o;cases o with
 |none=>obtain⟨L,l,C⟩:=h.o;injection hg with m r;subst m r;refine(IF (k:=k) C Y l (v:=0) (L':=L) (sh':=true) (U (by unfold getM;rw[ah (.inl rfl)]))).mono ?_;exact zO9
 |some L=>obtain⟨l,C⟩:=h.o;unfold bC at hg;dsimp only at hg;split at hg;rename_i D;injection hg with m r;subst m r;refine(IF (k:=k) C Y l (v:=0) (L':=L) (sh':=true) (U (by unfold getM;rw[ah (.inr (.inr (.inr D)))]))).mono ?_;exact zO9;rename_i D;injection hg with m r;subst m r;refine(IF (k:=k) C Y l (v:=num (L.take k)) (L':=L.drop k) (sh':=false) (U (by unfold getM;rw[ag (by rintro(h|h|h|h)<;>first|(exact absurd h ao)|omega)]))).mono ?_;rintro e w' ⟨rfl,j,z⟩;exact⟨rfl,U ⟨by rw[e2];omega,j⟩,U z.o.ke,j.o.prev⟩
def Kf.IG(h:Ke F w u)(l:dj A A' u w')(m:∀j,A=some j->w.1.size<=j.block):Ke F w w':=
 ⟨(h.base.trans (l.base.mono (aR _))),aQ h.size l.size,λb hb r=>(l.off b (bN hb h.size) λj e=>by have:=m j e;omega).trans (h.keep b hb r),λb hb=>.inl hb⟩
structure FrA(w w':World)(A:Option Addr)(zs:List Int):Prop where
 rd:Rd w' A zs
 lo:∀b,AF A b->w.1.size<=b
 hi:∀b,AF A b->b<w'.1.size
def adB(p:ab)(g:Nat)(w:ab)(zs:au)(o:fR)(e:Ending)(w':ab):Prop:=∃A c,e=.returned (.slice A zs c)/\FrA w w' A zs/\zs.length<=c/\Z (ka p w' g o)/\Z (Ke (λb=>b=g) w w')/\aj w' p
def aD.fra(h:aD w' w.1.size E A c zs):FrA w w' A zs:=⟨h.rd,λ_ hb=>(h.af hb).1,λ_ hb=>(h.af hb).2.1⟩
def qA(c:Nat)(o:fR):dh (c+1) o=if(bC 2 o).2=none then([],none)else if(dh c (bC 2 o).2).2=none then([],none)else((bC 2 o).1::(dh c (bC 2 o).2).1,(dh c (bC 2 o).2).2):=rfl
def xY(h:Z (ka p w g o))(hS:Z (nH o=(xs,o'))):() 47 #[.pointer g] w (adB p g w xs o'):=by
 have CB:=@az;have hg0:=h.o.hg;have l:=Df h 1;obtain⟨⟨cn,o1⟩,I⟩:=lh (bC 1 o);rw[I]at l;have hs:=hS.o;rw[nH,I]at hs;dsimp only at hs l;obtain⟨c,rfl⟩:=bO l.1;rw[a9]at hs;have hc:c<256:=by (have m:(256:Int)^1=256:=by decide);have:=l.2;omega
 have HG:=U I;have HS:=U hs;clear I hs l;go_in;go_upto_region 3 with(go_at_call 46;refine(fa (k:=1) (y:=1) h rfl ao ao HG).mono ?_;rintro e u1 ⟨rfl,YK,rk,t7⟩);have ho1:aD u1 w.1.size 3 none 0 []:=aD.nil _ _ _;go_loopw [4,3] (λs4 s3 wr=>∃(q r:Nat) (zs:au) (A:bz) (P:Nat) (C:fR),q+r=c/\zs=q/\s4=.int .u64 (r:Int)/\s3=.slice A q P/\Z (aD wr w.1.size 3 A P zs)/\Z (ka p wr g C)/\Z (Ke (λb=>b=g) w wr)/\Z (C=none->zs=[])/\Z ((if(dh r C).2=none then([],none)else(zs++(dh r C).1,(dh r C).2))=(xs,o'))/\aj wr p) (λs4 _ _=>(intOf s4).toNat)
 .refine⟨0,c,[],none,0,o1,Y,rfl,rfl,rfl,U ho1,YK,rk,U (λ_=>rfl),U ?_,t7⟩;rw[<-HS.o];by_cases m:(dh c o1).2=none
  .rw[ah m];have:∀(c:Nat) (o:fR),(dh c o).2=none->(dh c o).1=[]:=λc o hn=>by
    cases c with
    |zero=>rfl
    |succ c=>rw[qA]at hn⊢;split;rfl;rename_i h1;rw[ag h1]at hn;split;rfl;rename_i h2;rw[ag h2]at hn;exact absurd hn h2
   exact Prod.ext (this c o1 m).symm m.symm
  rw[ag m];rfl
 obtain⟨q,r,zs,A,P,C,hqr,R,rfl,rfl,HO,HR,HK,HN,HM,hp⟩:=hrel;by_cases hr:r=0
 .subst hr;have hm:=HM.o;have e0:dh 0 C=([],C):=rfl;rw[e0]at hm;dsimp only at hm;(have S:xs=zs/\o'=C:=by by_cases m:C=none;rw[ah m]at hm;injection hm with m1 T;exact⟨by rw[<-m1,HN.o m],by rw[<-T,m]⟩;rw[ag m,ev]at hm;injection hm with m1 T;exact⟨m1.symm,T.symm⟩);obtain⟨rfl,rfl⟩:=S;subst R;clear hm e0;go_wp2_with fail;go_ret;exact⟨A,P,rfl,HO.o.fra,HO.o.hD,HR,HK,hp⟩
 .obtain⟨G,rfl⟩:∃G,r=G+1:=⟨r-1,Y⟩;have l:=Df HR 2;obtain⟨⟨sd,o3⟩,I⟩:=lh (bC 2 C);have hm:=HM.o;rw[qA,I]at hm;rw[I]at l;dsimp only at hm l;(have m:(256:Int)^2=65536:=by decide);rw[m]at l;(have w1:IntKind.i64.wrap sd=sd:=by rw[a7];omega);have t1:decide (0<G+1)=true:=aI;have nF:=U I;have J:=U hm;obtain⟨R1,M⟩:=lg (G+1:Nat);rw[<-M]at t1⊢;(have w2:IntKind.u64.wrap ((R1:Int)-1)=(G:Int):=by rw[bE];omega);have V:=U M;clear I hm m hr M;go_upto_region 6 with(go_at_call 46;refine(fa (k:=2) (y:=2) HR rfl ao ao nF).mono ?_;rintro e u2 ⟨rfl,N,K,t8⟩);obtain⟨v3,b3,Uj,X⟩:=N.o.flag;cases o3 with
  |none=>subst X;have hm:=J.o;rw[ah rfl,ah rfl]at hm;injection hm with m1 T;subst m1 T;clear J;go_wp2_with fail;go_ret;exact⟨none,0,rfl,⟨λj z hj=>by simp at hj,λb ⟨ad,e9,_⟩=>(by cases e9),λb ⟨ad,e9,_⟩=>(by cases e9)⟩,al _,N,U (HK.o.trans K),t8⟩
  |some Q=>
   subst X;have hm:=J.o;rw[ag (show¬(some Q:fR)=none from by simp)]at hm;have D:Z (aD u2 w.1.size 3 A P zs):=U (K.o.own HO λb hb=>by have:=(HO.o.af hb).1;omega);have Yb:Z ((if(dh G (some Q)).2=none then([],none)else((zs++[sd])++(dh G (some Q)).1,(dh G (some Q)).2))=(xs,o')):=U (by
    rw[<-hm];by_cases h8:(dh G (some Q)).2=none
    .simp[h8]
    .simp[h8])
   have BV:Z (w.1.size<=u2.1.size):=aQ HK.o.size K.o.size;subst R;clear hm J;go_wp2_with (at_builtin;refine iV rfl _ _ _ rfl 3 underlying25 ap w.1.size A P zs rfl D sd rfl Y BV ?_;intro A3 c3 w3 lN O _);go_roundw;have hA:=D.o.fresh;(have oH:¬AF A g:=λhx=>by have:=(D.o.af hx).1;omega);exact⟨zs.length+1,G,zs++[sd],A3,c3,some Q,by have:=V.o;omega,aI,rfl,rfl,U lN,U (N.o.kf (Kf.jE O) (λb hb=>by have:=(D.o.af hb).1;omega) oH),U ((HK.o.trans K).IG O hA),U (λh=>by cases h),Yb,(Kf.jE O).prev λb hb=>by have:=(D.o.af hb).1;omega⟩;simp[intOf];have:=V.o;omega
end
end
section
variable{X u u':World}{b i q vb:Nat}{o':fR}{xs:List Int}{F':Nat->Prop}{A':Option Addr}{T:TypeId}{P:Program}{ops:Array Oper}{a:Act}{K:Act->World->Prop}{Q:Exit->Act->World->Prop}
def q6(o:fR):Prop:=∀L,o=some L->nJ L
structure fc(T:TypeId)(p v v2 u:World)(g vb:Nat)(o:fR)(cs:Array Value):Prop where
 r:ka p u g o
 k:Ke (λb=>b=g\/b=vb) v u
 k2:Ke (λb=>b=g\/b=vb) v2 u
 bv:aA u vb T cs
 ne:vb≠g
 lo:p<=vb
 hv:vb<v
 uo:v.1.size<=v2.1.size
def fO(o:fR):Nat->fR
 |0=>o
 |i+1=>(bC 2 (fO o i)).2
section
variable{w v:World}{k n B:Nat}{o:fR}{L:List Int}{cs:Array Value}{F:Nat->Prop}{E:TypeId}{y:Value}
def ka.byO(h:ka p w g o):q6 o:=λL e=>by subst e;exact h.byt
def q6.get(h:q6 o)(k:Nat):q6 (bC k o).2/\0<=(bC k o).1/\(bC k o).1<256^k:=by
 cases o with
 |none=>exact⟨λL e=>(by cases e),eb _,jD k⟩
 |some L=>unfold bC;dsimp only;split;exact⟨λL e=>(by cases e),eb _,jD k⟩;rename_i l;have hb:=s6 (zs:=L.take k) λz j=>h L rfl z (eS j);rw[cr,d5 Y]at hb;exact⟨λm e z j=>by cases e;exact h L rfl z (hJ j),hb⟩
def q6.HV:∀(c:Nat) {o:fR},q6 o->q6 (dh c o).2
 |0,o,h=>h
 |c+1,o,h=>by rw[qA];split;(exact λL e=>by cases e);split;(exact λL e=>by cases e);exact q6.HV c (h.get 2).1
def q6.sh(h:q6 o):q6 (nH o).2:=q6.HV _ (h.get 1).1
def q6.ins:∀(c:Nat) {o:fR},q6 o->q6 (j9 c o).2
 |0,o,h=>h
 |c+1,none,h=>λL e=>by cases e
 |c+1,some L,h=>q6.ins c (h.get 2).1
def fc.at{e:ab}(h:fc T p v e u g vb o cs)[aM u u']:fc T p v e u' g vb o cs:=⟨h.r.at,h.k.trans (Kf.later _),h.k2.trans (Kf.later _),h.bv.at,h.ne,h.lo,h.hv,h.uo⟩
def fc.get(h:fc T p v X u g vb o cs)(hr:ka p u' g o')(j:Ke (λb=>b=g) u u'):fc T p v X u' g vb o' cs:=
 ⟨hr,h.k.trans (j.more (λ_ e=>.inl e) λ_ e=>.inr (.inl e)),h.k2.trans (j.more (λ_ e=>.inl e) λ_ e=>.inr (.inl e)),j.ak h.bv h.ne,h.ne,h.lo,h.hv,h.uo⟩
def fc.set(h:fc T p v X u g vb o cs)(i:Nat)(y:Value):fc T p v X (u.setCell (vb,i) y) g vb o (cs.setIfInBounds i y):=
 ⟨h.r.kf (F:=λb=>b=vb) ((Kf.refl (λb=>b=vb) u).av (q:=⟨vb,i,none⟩) rfl y) (λb e=>by rw[e];exact h.lo) λe=>h.ne e.symm,h.k.av (q:=⟨vb,i,none⟩) (.inr rfl) y,h.k2.av (q:=⟨vb,i,none⟩) (.inr rfl) y,h.bv.av i y,h.ne,h.lo,h.hv,h.uo⟩
theorem fc.prev{e:ab}(h:fc T p v e u g vb o cs):aj u p:=h.r.prev
def fc.jE{m:ab}(h:fc T p v m u g vb o cs)(l:dj A A' u u')(j:∀b,AF A b->m.1.size<=b)(hg:g<v):fc T p v m u' g vb o cs:=
 have D:=h.uo
 ⟨h.r.kf (Kf.jE l) (λb hb=>by have:=j b hb;have:=h.lo;have:=h.hv;omega) λz=>(by have:=j g z;omega),h.k.IG l λC e=>aQ D (j _ ⟨C,e,rfl⟩),h.k2.IG l λC e=>j _ ⟨C,e,rfl⟩,(Kf.jE l).ak h.bv λz=>(by have:=j vb z;have:=h.hv;omega),h.ne,h.lo,h.hv,D⟩
def fc.from_(h:fc T p v X u g vb o cs):fc T p v u u g vb o cs:=⟨h.r,h.k,Kf.refl _ _,h.bv,h.ne,h.lo,h.hv,h.k.size⟩
def fc.rd{j:ab}(h:fc T p v j u g vb o cs)(hr:Rd j A zs)(l:∀b,AF A b->v.1.size<=b)(hg:g<v):Rd u A zs:=h.k2.rd hr λb hb=>by
 have:=l b hb;have:=h.hv;rintro(e|e)<;>omega
def se{w:ab}{o:Oper}(G:Region.wanted o (yielded ops a.tmps)=true)(s x:Operand)(t:TypeId)
  (I:o.op=.call {callee:=.builtin .append,args:= #[s,x],argTypes:= #[t,t]}) (E:TypeId) (ht:P.underlying t=some (.slice E)) (k bytes:Nat) (z:Value)
  (e:(P.info? E).map (λi=>(i.zero,i.size,i.bytes))=some (some z,k,bytes)) (r:z.cells.size=k) (J:0<k) (C:bytes<=1000)
  (B:Nat) (A:bz) (c n:Nat) (D:ki) (hs:a.eval s=.slice A n c) (j:aT w B E k A c n D) {vb:Nat} (l:ki) (M:a.eval x=.slice vb 1 1) (hb:aA w vb E l.toArray) (N:l=k) (O:∀u∈l,u.oneCell'=true) (R:n<=100000000) (S:B<=w)
  (h:∀A' m w',aT w' B E k A' m (n+1) (D++l)->dj A A' w w'->K (a.put o.dst (.slice A' (n+1) m)) w'):
  if Region.wanted o (yielded ops a.tmps)=true then Oper.wp P o a w K Q else K (a.put o.dst undef) w:=by
 rw[ah G];obtain⟨A',m,w',hr,V,X⟩:=tZ (P:=P) j t o.type ht bytes e r J C hb N O R S;unfold Oper.wp execOp;simp only[I,resolve,invoke,builtin,uP,zO,uI,zG,eh,lM,hs,M,hr];exact h A' m w' V X
def OU:() 90 #[.pointer vb] w (λe w'=>∃G,e=.returned (.slice (some ⟨G,0,none⟩) 5 5)/\w.1.size<=G/\aA w' G 183 #[.pointer (some ⟨vb,2,none⟩),.pointer (some ⟨vb,3,none⟩),.pointer (some ⟨vb,4,none⟩),.pointer (some ⟨vb,5,none⟩),.pointer (some ⟨vb,6,none⟩)]/\aj w' w):=by
 go_in;go_upto_region 1 with fail;refine ax w ap (λj _=>?_);refine qL [0,1,2,3,4,5,6,7,8,9,10,11,12,13,14] ?_;refine aJ 15 λK hK=>?_;go_simp;refine aE hK<|bc (λj _ _=>?_);refine eE 16 ?_;refine a8 ?_;go_wp2_with fail;go_ret;exact⟨_,rfl,ai,Bx.ak,aC⟩
end
end
section
variable{u u':World}{j q vb:Nat}{C:Option Addr}{ss:List Sp}{F':Nat->Prop}{o':fR}{z0 z1 z2 z3 z4 z5 z6 z7:Value}
def NF(x:Nd)(b:Nat):Prop:=AF x.A b\/AF x.I b\/AF x.P b\/∃s∈x.ps,AF s.A b
structure sf(B:Nat)(u:World)(x:Nd):Prop where
 s:Sl u x.A x.n x.o.S
 i:Sl u x.I x.ni x.ins
 p:dX u x.P x.np x.ps
 ls:x.n<=x.c
 li:x.ni<=x.ci
 lp:x.np<=x.cp
 k6:bf x.o.k
 lo:∀b,NF x b->B<=b
 hi:∀b,NF x b->b<u.1.size
def adC(p:ab)(g:Nat)(w:ab)(V:dV)(o:fR)(e:Ending)(w':ab):Prop:=
 ∃x:Nd,e=.returned (.agg #[x.o.kd,x.o.k,x.o.wd,x.o.st,x.o.sd,x.o.fr,x.o.tt,.slice x.A x.n x.c,.slice x.I x.ni x.ci,.slice x.P x.np x.cp])/\Z (x.val=V)/\Z (sf w.1.size w' x)/\Z (ka p w' g o)/\Z (Ke (λb=>b=g) w w')/\aj w' p
def kM.push{w:ab}{B:Nat}{x:Sp}(h:kM w B A c ss)(G:Rd w x.A x.zs)(hm:x.m=x.zs.length)(F:x.m<=x.c)(u:∀b,AF x.A b->B<=b/\b<w.1.size/\¬AF A b)(E:dj A C w w')
  (hr:aT w' B 25 1 C j (ss.length+1) ((gR ss).toList++[.slice x.A x.m x.c])):kM w' B C j (ss++[x]):=by
 have D:∀y∈ss++[x],∀l,y.A=some l->l.block<w.1.size:=λy hy l e=>by rcases cu.1 hy with hy|hy;exact h.lt y hy l e;rw[de.1 hy]at e;exact(u _ ⟨l,e,rfl⟩).2.1
 have z:∀y∈ss++[x],∀l bd,y.A=some l->A=some bd->bd.block≠l.block:=λy hy l bd e r=>by rcases cu.1 hy with hy|hy;exact h.ne y hy l bd e r;rw[de.1 hy]at e;exact λI=>(u _ ⟨l,e,rfl⟩).2.2 ⟨bd,r,I⟩
 refine⟨?_,λy hy=>?_,λy hy l bd e r=>?_,λy hy l e=>bN (D y hy l e) E.size⟩;rw[bh,KS];exact hr;rcases cu.1 hy with hy'|hy';obtain⟨J,K⟩:=h.el y hy';exact⟨J.jE E λl bd e r=>z y hy l bd e r,K⟩;rw[de.1 hy']at hy⊢;exact⟨G.jE E λl bd e r=>z x (zD _ (de.2 rfl)) l bd e r,hm,F,⟨λl e=>(u _ ⟨l,e,rfl⟩).1⟩⟩;rcases E.new bd r with⟨a0,L,M⟩|Au;rw[M];exact z y hy l a0 e L;have:=D y hy l e;omega
def kM.kf{w:ab}{B:Nat}{F:Nat->Prop}(h:kM w B A c ss)(l:Kf F F' w w')(hF:∀b,B<=b->¬F b):kM w' B A c ss:=
 ⟨l.row h.row λb hb=>hF b (h.row.af hb).1,λx j=>⟨l.rd (h.el x j).1 λb ⟨m,e,r⟩=>hF b (r▸(h.el x j).2.2.2.o m e),(h.el x j).2⟩,h.ne,λx j m e=>bN (h.lt x j m e) l.size⟩
theorem kM.ae8{w:ab}{B:Nat}(h:kM w B A c ss):dX w A ss.length ss:=⟨λj x b=>by
 have hm:=aK b;obtain⟨g,e,l⟩:=h.row.cell (j:=j) (v:=.slice x.A x.m x.c) (by simp[gR,b]);exact⟨g,0,e,(h.row.af ⟨_,e,rfl⟩).2.1,by rw[cQ];exact l,(h.el x hm).1,(h.el x hm).2.1,(h.el x hm).2.2.1⟩,rfl⟩
section
variable{w v:World}{o:fR}{V:dV}
def ae9{e j:Value}:Kf (λb=>b=q) (λb=>b=q) u ((((((((((u.setCell (q,0) z0).setCell (q,1) z1).setCell (q,2) z2).setCell (q,3) z3).setCell (q,4) z4).setCell (q,5) z5).setCell (q,6) z6).setCell (q,7) z7).setCell (q,8) e).setCell (q,9) j):=
 ((((((((((Kf.refl (λb=>b=q) u).av (q:=⟨q,0,none⟩) rfl z0).av (q:=⟨q,1,none⟩) rfl z1).av (q:=⟨q,2,none⟩) rfl z2).av (q:=⟨q,3,none⟩) rfl z3).av (q:=⟨q,4,none⟩) rfl z4).av (q:=⟨q,5,none⟩) rfl z5).av (q:=⟨q,6,none⟩) rfl z6).av (q:=⟨q,7,none⟩) rfl z7).av (q:=⟨q,8,none⟩) rfl e).av (q:=⟨q,9,none⟩) rfl j
def sf.kf{w w':ab}{B:Nat}{x:Nd}{F:Nat->Prop}(h:sf B w x)(l:Kf F F' w w')(hF:∀b,NF x b->¬F b):sf B w' x:=
 ⟨l.sl h.s λb hb=>hF b (.inl hb),l.sl h.i λb hb=>hF b (.inr (.inl hb)),⟨λj s y=>by
  obtain⟨b,off,e,m,z,C,D,E⟩:=h.p.rd j s y;have hb:=l.keep b m (hF b (.inr (.inr (.inl ⟨_,e,rfl⟩))));exact⟨b,off,e,bN m l.size,(d4 hb).trans z,l.rd C λG r=>hF G (.inr (.inr (.inr ⟨s,aK y,r⟩))),D,E⟩,h.p.len⟩,h.ls,h.li,h.lp,h.k6,h.lo,λb hb=>bN (h.hi b hb) l.size⟩
def adD{w v u u':ab}{g:Nat}(j:w.1.size<=v.1.size)[l:aM w v](h:Ke (λb=>b=g\/b=vb) v u)(m:Kf (λb=>b=q) (λb=>b=q) u u')(hq:w<=q/\w<=vb):Ke (λb=>b=g) w u':=
 ⟨(l.st.mono (aR _)).trans (h.base.trans m.base),aQ j (aQ h.size m.size),λb hb r=>(m.keep b (bN hb (aQ j h.size)) (by show¬b=q;omega)).trans ((h.keep b (bN hb j) (by rintro(e|e);exact r e;omega)).trans (l.st.block b hb)),λ_ hb=>.inl hb⟩
def OV(c:Nat):j9 c none=([],none):=by cases c<;>rfl
def OW(c:Nat):kt c none=([],none):=by cases c<;>rfl
def zO4(h:Γ:=by by_cases h9:0<r;exact .inr ⟨by simpa using h9,by cases fl;exact absurd ⟨h9,rfl⟩ T;rfl⟩;exact .inl (by simpa using h9)):=h
def zO5(h:Γ:=by rw[h8,ev]at hm;injection hm with m1 m2;exact⟨m1.symm,m2.symm⟩):=h
def zOd(h:Γ:=by show G≠vb;omega):=h
def zOe(h:Γ:=by show¬G=g;omega):=h
def YL(h:Z (ka p w g o))(hN:Z (Dc o=(V,o'))):() 48 #[.pointer g] w (adC p g w V o'):=by
 have CB:=@az;have FB:=@aP;have hg0:=h.o.hg;have YM:=h.o.byO;have e1:(256:Int)^1=256:=by decide
 have e2:(256:Int)^2=65536:=by decide
 have hn:=hN.o;obtain⟨⟨z0,o0⟩,fN⟩:=lh (bC 1 o);have YN:=(YM).get 1;rw[fN]at YN;dsimp only at YN;have Hz0:=U fN;obtain⟨⟨z1,o1⟩,gu⟩:=lh (bC 8 o0);have bz1:=(YN.1).get 8;rw[gu]at bz1;dsimp only at bz1;have Hz1:=U gu;obtain⟨⟨f1,E⟩,nC⟩:=lh (bC 2 o1);have YO:=(bz1.1).get 2;rw[nC]at YO;dsimp only at YO;have Hf1:=U nC;obtain⟨⟨f2,o3⟩,Lm⟩:=lh (bC 2 E);have YP:=(YO.1).get 2;rw[Lm]at YP;dsimp only at YP;have Hf2:=U Lm;obtain⟨⟨f3,o4⟩,XI⟩:=lh (bC 2 o3);have YQ:=(YP.1).get 2;rw[XI]at YQ;dsimp only at YQ;have Hf3:=U XI;obtain⟨⟨f4,o5⟩,hf4⟩:=lh (bC 2 o4);have YR:=(YQ.1).get 2;rw[hf4]at YR;dsimp only at YR;have Hf4:=U hf4;obtain⟨⟨f5,o6⟩,hf5⟩:=lh (bC 2 o5);have YS:=(YR.1).get 2;rw[hf5]at YS;dsimp only at YS;have Hf5:=U hf5;obtain⟨⟨zs,o7⟩,vq⟩:=lh (nH o6);have bzs:=(YS.1).sh;rw[vq]at bzs;dsimp only at bzs;have HZS:=U vq;obtain⟨⟨ci,o8⟩,hci⟩:=lh (bC 1 o7);have OX:=bzs.get 1;rw[hci]at OX;dsimp only at OX;rw[e1]at OX;have HCI:=U hci;obtain⟨⟨is,o9⟩,YT⟩:=lh (j9 ci.toNat o8);have bis:=q6.ins ci.toNat OX.1;rw[YT]at bis;dsimp only at bis;obtain⟨⟨cq,o10⟩,Tj⟩:=lh (bC 1 o9);have Uy:=bis.get 1;rw[Tj]at Uy;dsimp only at Uy;rw[e1]at Uy;have HCQ:=U Tj;obtain⟨⟨ps,o11⟩,Eh⟩:=lh (kt cq.toNat o10);rw[e1]at YN;rw[e2]at YO YP YQ YR YS;obtain⟨K,hK⟩:=lh (IntKind.i64.wrap z1);have hV:V=⟨⟨z0,K,f1,f2,f3,f4,f5,zs⟩,is,ps⟩/\o'=o11:=by unfold Dc wC at hn;simp only[fN,gu,nC,Lm,XI,hf4,hf5,vq,hci,YT,Tj,Eh,hK]at hn;injection hn with n1 n2;exact⟨n1.symm,n2.symm⟩
 have HV:=U hV;obtain⟨c,rfl⟩:=bO OX.2.1;obtain⟨d,rfl⟩:=bO Uy.2.1;rw[a9]at YT Eh;have hc:c<256:=by have:=OX.2.2;omega
 have hd:d<256:=by have:=Uy.2.2;omega
 have HIS:=U YT;have M5:=U Eh;have w0:IntKind.i64.wrap z0=z0:=by rw[a7];omega
 have w1:IntKind.i64.wrap f1=f1:=by rw[a7];omega
 have w2:IntKind.i64.wrap f2=f2:=by rw[a7];omega
 have w3:IntKind.i64.wrap f3=f3:=by rw[a7];omega
 have w4:IntKind.i64.wrap f4=f4:=by rw[a7];omega
 have w5:IntKind.i64.wrap f5=f5:=by rw[a7];omega
 have hK6:bf K:=by rw[<-hK];unfold bf;rw[a7];omega
 have Sc:=U hK6;clear fN gu nC Lm XI hf4 hf5 vq hci YT Tj Eh hn hV YN bz1 YO YP YQ YR YS bzs OX bis Uy YM e1 e2 hK6;go_in;go_upto_region 2 with fail;refine dd (λv pv k0 k1=>?_);obtain⟨vb,hvb⟩:=lg (w.1.size+1);rw[<-hvb]at k1⊢;have uu:Z (fc 84 p v v v g vb o #[an,an,an,an,an,an,an,(),(),()]):=U ⟨h.o.at,Kf.refl _ _,Kf.refl _ _,k1.ak,Y,Y,k1.ak.lt,al _⟩;have uo:=k1.ak.lt;have D6:g<v.1.size:=Y;have HVB:=U hvb;clear hvb;go_upto_region 3 with(go_at_call 46;refine(fa (k:=1) (y:=1) (U uu.o.r) rfl ao ao Hz0).mono ?_;rintro e u1 ⟨rfl,HR,HK,pu⟩;have V7:Z (fc 84 p v v u1 g vb o0 #[an,an,an,an,an,an,an,(),(),()]):=U (uu.o.get HR HK);have kb:Bx u1 vb 84 #[an,an,an,an,an,an,an,(),(),()]:=⟨V7.o.bv⟩);obtain⟨W1,lu⟩:=lg (u1.setCell (vb,0) z0);have wE:Z (fc 84 p v v W1 g vb o0 #[z0,an,an,an,an,an,an,(),(),()]):=U (by rw[lu];exact V7.o.set 0 _);rw[<-lu];clear lu;clear k1;go_upto_region 4 with(go_at_call 46;refine(fa (k:=8) (y:=8) (U wE.o.r) rfl ao ao Hz1).mono ?_;rintro e u2 ⟨rfl,xl,afa,t8⟩;have xD:Z (fc 84 p v v u2 g vb o1 #[z0,an,an,an,an,an,an,(),(),()]):=U (wE.o.get xl afa);have w6:Bx u2 vb 84 #[z0,an,an,an,an,an,an,(),(),()]:=⟨xD.o.bv⟩);obtain⟨W2,nz⟩:=lg (u2.setCell (vb,1) (.int .i64 K));have mf:Z (fc 84 p v v W2 g vb o1 #[z0,K,an,an,an,an,an,(),(),()]):=U (by rw[nz];exact xD.o.set 1 _);rw[<-nz];clear nz;go_upto_region 5 with(go_at_call 90;refine OU.mono ?_;rintro e u3 ⟨G,rfl,hG,kG,YU⟩);have zq:Z (fc 84 p v v u3 g vb o1 #[z0,K,an,an,an,an,an,(),(),()]):=mf.o.at;have hGv:v.1.size<=G:=aQ mf.o.k.size hG;have HKG:=U kG;have J:Z (∀i,i<=5->fO o1 i=(if i=0 then o1 else if i=1 then E else if i=2 then o3 else if i=3 then o4 else if i=4 then o5 else o6)):=λi hi=>by (have a2:fO o1 1=E:=by show(bC 2 o1).2=_;rw[Hf1.o]);(have a3:fO o1 2=o3:=by show(bC 2 (fO o1 1)).2=_;rw[a2,Hf2.o]);(have a4:fO o1 3=o4:=by show(bC 2 (fO o1 2)).2=_;rw[a3,Hf3.o]);(have a5:fO o1 4=o5:=by show(bC 2 (fO o1 3)).2=_;rw[a4,Hf4.o]);(have a6:fO o1 5=o6:=by show(bC 2 (fO o1 4)).2=_;rw[a5,Hf5.o]);have:i=0\/i=1\/i=2\/i=3\/i=4\/i=5:=Y;rcases this with rfl|rfl|rfl|rfl|rfl|rfl;rfl;exact a2;exact a3;exact a4;exact a5;exact a6
 clear kG hG;go_loopw [21] (λs21 wr=>∃i:Nat,i<=5/\s21=.int .i64 (i:Int)/\Z (fc 84 p v v wr g vb (fO o1 i) #[z0,K,.int .i64 (if 0<i then f1 else 0),.int .i64 (if 1<i then f2 else 0),.int .i64 (if 2<i then f3 else 0),.int .i64 (if 3<i then f4 else 0),.int .i64 (if 4<i then f5 else 0),(),(),()])/\Z (aA wr G 183 #[.pointer (some ⟨vb,2,none⟩),.pointer (some ⟨vb,3,none⟩),.pointer (some ⟨vb,4,none⟩),.pointer (some ⟨vb,5,none⟩),.pointer (some ⟨vb,6,none⟩)])/\aj wr p) (λs21 _=>5-(intOf s21).toNat);exact⟨0,ao,rfl,zq,HKG,zq.o.prev⟩;clear zq HKG;obtain⟨i,hi,rfl,C,HG,hp⟩:=hrel;have:i=0\/i=1\/i=2\/i=3\/i=4\/i=5:=Y;rcases this with rfl|rfl|rfl|rfl|rfl|rfl
 .have z:Z (fc 84 p v v wr g vb o1 #[z0,K,an,an,an,an,an,(),(),()]):=U (by have:=C.o;rw[J.o 0 ao]at this;exact this);have kG:Bx wr G 183 #[.pointer (some ⟨vb,2,none⟩),.pointer (some ⟨vb,3,none⟩),.pointer (some ⟨vb,4,none⟩),.pointer (some ⟨vb,5,none⟩),.pointer (some ⟨vb,6,none⟩)]:=⟨HG⟩;go_wp2_with (go_at_call 46;refine(fa (k:=2) (y:=2) (U z.o.r) rfl ao ao Hf1).mono ?_;rintro e u4 ⟨rfl,HR,HK,pu⟩;have l:Z (fc 84 p v v u4 g vb E #[z0,K,an,an,an,an,an,(),(),()]):=U (z.o.get HR HK);have kb4:Bx u4 vb 84 #[z0,K,an,an,an,an,an,(),(),()]:=⟨l.o.bv⟩);go_roundw;refine⟨1,ao,rfl,U ?_,U ?_,(l.o.set 2 _).prev⟩;rw[J.o 1 ao];exact l.o.set 2 _;have:=HK.o.ak HG zOe;exact this.aV (p:=⟨vb,2,none⟩) zOd _;simp[intOf]
 .have z:Z (fc 84 p v v wr g vb E #[z0,K,f1,an,an,an,an,(),(),()]):=U (by have:=C.o;rw[J.o 1 ao]at this;exact this);have kG:Bx wr G 183 #[.pointer (some ⟨vb,2,none⟩),.pointer (some ⟨vb,3,none⟩),.pointer (some ⟨vb,4,none⟩),.pointer (some ⟨vb,5,none⟩),.pointer (some ⟨vb,6,none⟩)]:=⟨HG⟩;go_wp2_with (go_at_call 46;refine(fa (k:=2) (y:=2) (U z.o.r) rfl ao ao Hf2).mono ?_;rintro e u4 ⟨rfl,HR,HK,pu⟩;have l:Z (fc 84 p v v u4 g vb o3 #[z0,K,f1,an,an,an,an,(),(),()]):=U (z.o.get HR HK);have kb4:Bx u4 vb 84 #[z0,K,f1,an,an,an,an,(),(),()]:=⟨l.o.bv⟩);go_roundw;refine⟨2,ao,rfl,U ?_,U ?_,(l.o.set 3 _).prev⟩;rw[J.o 2 ao];exact l.o.set 3 _;have:=HK.o.ak HG zOe;exact this.aV (p:=⟨vb,3,none⟩) zOd _;simp[intOf]
 .have z:Z (fc 84 p v v wr g vb o3 #[z0,K,f1,f2,an,an,an,(),(),()]):=U (by have:=C.o;rw[J.o 2 ao]at this;exact this);have kG:Bx wr G 183 #[.pointer (some ⟨vb,2,none⟩),.pointer (some ⟨vb,3,none⟩),.pointer (some ⟨vb,4,none⟩),.pointer (some ⟨vb,5,none⟩),.pointer (some ⟨vb,6,none⟩)]:=⟨HG⟩;go_wp2_with (go_at_call 46;refine(fa (k:=2) (y:=2) (U z.o.r) rfl ao ao Hf3).mono ?_;rintro e u4 ⟨rfl,HR,HK,pu⟩;have l:Z (fc 84 p v v u4 g vb o4 #[z0,K,f1,f2,an,an,an,(),(),()]):=U (z.o.get HR HK);have kb4:Bx u4 vb 84 #[z0,K,f1,f2,an,an,an,(),(),()]:=⟨l.o.bv⟩);go_roundw;refine⟨3,ao,rfl,U ?_,U ?_,(l.o.set 4 _).prev⟩;rw[J.o 3 ao];exact l.o.set 4 _;have:=HK.o.ak HG zOe;exact this.aV (p:=⟨vb,4,none⟩) zOd _;simp[intOf]
 .have z:Z (fc 84 p v v wr g vb o4 #[z0,K,f1,f2,f3,an,an,(),(),()]):=U (by have:=C.o;rw[J.o 3 ao]at this;exact this);have kG:Bx wr G 183 #[.pointer (some ⟨vb,2,none⟩),.pointer (some ⟨vb,3,none⟩),.pointer (some ⟨vb,4,none⟩),.pointer (some ⟨vb,5,none⟩),.pointer (some ⟨vb,6,none⟩)]:=⟨HG⟩;go_wp2_with (go_at_call 46;refine(fa (k:=2) (y:=2) (U z.o.r) rfl ao ao Hf4).mono ?_;rintro e u4 ⟨rfl,HR,HK,pu⟩;have l:Z (fc 84 p v v u4 g vb o5 #[z0,K,f1,f2,f3,an,an,(),(),()]):=U (z.o.get HR HK);have kb4:Bx u4 vb 84 #[z0,K,f1,f2,f3,an,an,(),(),()]:=⟨l.o.bv⟩);go_roundw;refine⟨4,ao,rfl,U ?_,U ?_,(l.o.set 5 _).prev⟩;rw[J.o 4 ao];exact l.o.set 5 _;have:=HK.o.ak HG zOe;exact this.aV (p:=⟨vb,5,none⟩) zOd _;simp[intOf]
 .have z:Z (fc 84 p v v wr g vb o5 #[z0,K,f1,f2,f3,f4,an,(),(),()]):=U (by have:=C.o;rw[J.o 4 ao]at this;exact this);have kG:Bx wr G 183 #[.pointer (some ⟨vb,2,none⟩),.pointer (some ⟨vb,3,none⟩),.pointer (some ⟨vb,4,none⟩),.pointer (some ⟨vb,5,none⟩),.pointer (some ⟨vb,6,none⟩)]:=⟨HG⟩;go_wp2_with (go_at_call 46;refine(fa (k:=2) (y:=2) (U z.o.r) rfl ao ao Hf5).mono ?_;rintro e u4 ⟨rfl,HR,HK,pu⟩;have l:Z (fc 84 p v v u4 g vb o6 #[z0,K,f1,f2,f3,f4,an,(),(),()]):=U (z.o.get HR HK);have kb4:Bx u4 vb 84 #[z0,K,f1,f2,f3,f4,an,(),(),()]:=⟨l.o.bv⟩);go_roundw;refine⟨5,ao,rfl,U ?_,U ?_,(l.o.set 6 _).prev⟩;rw[J.o 5 ao];exact l.o.set 6 _;have:=HK.o.ak HG zOe;exact this.aV (p:=⟨vb,6,none⟩) zOd _;simp[intOf]
 have z:Z (fc 84 p v v wr g vb o6 #[z0,K,f1,f2,f3,f4,f5,(),(),()]):=U (by have:=C.o;rw[J.o 5 ao]at this;exact this);clear C J;go_upto_region 10 with(go_at_call 47;refine(xY (U z.o.r) HZS).mono ?_;rintro e u5 ⟨P,cS,rfl,zl,YV,HR5,qV,pu5⟩;have xR:Z (fc 84 p v v u5 g vb o7 #[z0,K,f1,f2,f3,f4,f5,(),(),()]):=U (z.o.get HR5 qV);have kb6:Bx u5 vb 84 #[z0,K,f1,f2,f3,f4,f5,(),(),()]:=⟨xR.o.bv⟩)
 obtain⟨W6,tk⟩:=lg (u5.setCell (vb,7) (.slice P zs cS));have YW:Z (fc 84 p v v W6 g vb o7 #[z0,K,f1,f2,f3,f4,f5,.slice P zs cS,(),()]):=U (by rw[tk];exact xR.o.set 7 _);have hvw:v.1.size<=wr.1.size:=z.o.k.size;have Re:Z (Rd W6 P zs/\∀b,AF P b->v.1.size<=b/\b<W6.1.size):=U (by
  have h9:Kf (λb=>b=vb) (λb=>b=vb) u5 W6:=by rw[tk];exact(Kf.refl (λb=>b=vb) u5).av (q:=⟨vb,7,none⟩) rfl _
  exact⟨h9.rd zl.rd λb hb e=>by have:=zl.lo b hb;omega,λb hb=>⟨aQ hvw (zl.lo b hb),bN (zl.hi b hb) h9.size⟩⟩)
 have YX:=U YV;rw[<-tk];clear tk zl YV;go_upto_region 11 with(go_at_call 46;refine(fa (k:=1) (y:=1) (U YW.o.r) rfl ao ao HCI).mono ?_;rintro e u7 ⟨rfl,HR7,y3,pu7⟩);have YY:Z (fc 84 p v u7 u7 g vb o8 #[z0,K,f1,f2,f3,f4,f5,.slice P zs cS,(),()]):=(YW.o.get HR7 y3).from_;have Rf:Z (Rd u7 P zs/\∀b,AF P b->v.1.size<=b/\b<u7.1.size):=U ⟨y3.o.rd Re.o.1 λb hb=>by have:=(Re.o.2 b hb).1;show¬b=g;omega,λb hb=>⟨(Re.o.2 b hb).1,bN (Re.o.2 b hb).2 y3.o.size⟩⟩;go_loopw [6] (λs6 wr=>∃(q r:Nat) (B:au) (I:bz) (cI:Nat) (E:fR),q+r=c/\B=q/\s6=.int .u64 (r:Int)/\Z (fc 84 p v u7 wr g vb E #[z0,K,f1,f2,f3,f4,f5,.slice P zs cS,(I,q,cI),()])/\Z (aD wr u7.1.size 3 I cI B)/\Z ((B++(j9 r E).1,(j9 r E).2)=(is,o9))/\aj wr p) (λs6 _=>(intOf s6).toNat);exact⟨0,c,[],none,0,o8,Y,rfl,rfl,YY,U (aD.nil _ _ _),U (by rw[HIS.o];rfl),pu7⟩;obtain⟨q,r,B,I,cI,E,hqr,IH,rfl,C,X,HM,hp⟩:=hrel;obtain⟨v3,fl,Uj,S⟩:=C.o.r.flag;have kbw:Bx wr vb 84 #[z0,K,f1,f2,f3,f4,f5,.slice P zs cS,(I,q,cI),()]:=⟨C.o.bv⟩;by_cases T:0<r/\fl=false
 .obtain⟨hr,rfl⟩:=T;cases E with
  |none=>cases S
  |some L2=>
   subst IH;obtain⟨r',rfl⟩:∃r',r=r'+1:=⟨r-1,Y⟩;have Tm:=Df C.o.r 2;(have e2:(256:Int)^2=65536:=by decide);rw[e2]at Tm;obtain⟨⟨Q,o3⟩,hG⟩:=lh (bC 2 (some L2));have hm:=HM.o;rw[j9,hG]at hm;rw[hG]at Tm;dsimp only at hm Tm;(have wz:IntKind.i64.wrap Q=Q:=by rw[a7];omega);have t1:decide (0<r'+1)=true:=aI;have nF:=U hG;have vA:Z (((B++[Q])++(j9 r' o3).1,(j9 r' o3).2)=(is,o9)):=U (by rw[<-hm,hM];rfl);obtain⟨R1,za⟩:=lg (r'+1:Nat);rw[<-za]at t1⊢;(have wr2:IntKind.u64.wrap ((R1:Int)-1)=(r':Int):=by rw[bE];omega);have Ln:=U za;clear hG hm e2 Tm za S hr;go_upto_region 13 with fail;refine ax p ap (λj _=>?_)
   repeat' (first
    |(refine kj 0 ?_
      refine eE 0 ?_;refine jQ 2 50 ?_)
    |(refine kj 4 ?_
      refine jQ 4 52 ?_)
    |(refine kj 7 ?_
      refine jQ 7 55 ?_)
    |(intro (tg:Tg 1) K hK
      clear tg;go_simp;refine aE hK ?_;clear hK K)
    |(intro (tg:Tg 3) K hK
      clear tg;have qQ:=C.o.at (u':=j);have OY:=X.o.at (w':=j);go_simp
      refine(fa (k:=2) (y:=2) (U qQ.r) rfl ao ao nF).mono ?_
      rintro e j ⟨rfl,Ix,N,Lo⟩;dsimp only;have ER:=U (qQ.get Ix N);have HO9:Z (aD j u7.1.size 3 I cI B):=U (N.o.own OY (λb hb=>by have:=(X.o.af hb).1;have:=YY.o.uo;show¬b=g;omega));have acr:Bx j vb 84 _:=⟨ER.o.bv⟩;refine aE hK ?_ Lo;clear hK K)
    |(intro (tg:Tg 5) K hK
      clear tg;go_simp;refine aE hK ?_;refine bc (λj _ _=>?_))
    |(intro (tg:Tg 6) K hK
      clear tg;have Uz:=ER.o.at (u':=j);have ho9:=HO9.o.at (w':=j);refine se ap _ _ _ rfl 3 underlying24 1 8 an ap rfl ao ao u7.1.size I cI B.length (B.map (Value.int .i64)) rfl ho9.row [.int .i64 Q] rfl Bx.ak rfl (λu hu=>by rw[de.1 hu];rfl) Y Uz.k2.size ?_;intro R c3 j lN EJ;have Lp:=U (Uz.jE EJ (λb hb=>(X.o.af hb).1) D6);have acs:Z (aD j u7.1.size 3 R c3 (B++[Q])):=U (by unfold aD;rw[bh,c9];exact lN);have SL:aj j p:=Lp.o.prev;have acu:Bx j vb 84 _:=⟨Lp.o.bv⟩;refine aE hK ?_ SL;clear hK K)
    |(intro (tg:Tg 8) K hK
      clear tg;have SN:=(Lp.o.at (u':=j)).bv.cell 8;have YZ:=(Lp.o.at (u':=j)).bv.frozen 8;go_simp;obtain⟨W9,M⟩:=lg (j.setCell (vb,8) (.slice R (B.length+1) c3));have D:=U ((Lp.o.at (u':=j)).set 8 (.slice R (B.length+1) c3));have Lq:Z (aD W9 u7.1.size 3 R c3 (B++[Q])):=U ((acs.o.at (w':=j)).same λad e9=>by rw[M];exact bb _ ⟨vb,8,none⟩ _ _ (by have:=acs.o.fresh ad e9;have:=YY.o.uo;show ad.block≠vb;omega));rw[<-M]at D⊢;have Y0:aj W9 p:=D.o.prev;clear M SN YZ;refine aE hK ?_ Y0;clear hK K)
    |refine ff 1 ?_
    |refine ff 6 ?_
    |refine ff 8 ?_
    |refine ff 5 ?_
    |refine ff 3 ?_
    |refine my 1 3 ?_ ?_
    |refine my 1 5 ?_ ?_
    |refine DW ?_)
   all_goals go_wp2_with fail;exact⟨⟨B.length+1,r',B++[Q],R,c3,o3,by have:=Ln.o;omega,aI,rfl,D,U (Lq.o),vA,D.o.prev⟩,by simp[intOf];have:=Ln.o;omega⟩
 have Lr:is=B/\o9=E:=by
  have hm:=HM.o;have h8:j9 r E=([],E):=by
   rcases GK r with h9|h9;subst h9;rfl
   .cases E with
    |none=>exact OV r
    |some L=>exact absurd ⟨h9,S⟩ T
  exact zO5
 obtain⟨rfl,rfl⟩:=Lr;subst IH;have KO:(decide (0<r)=false)\/(decide (0<r)=true/\fl=true):=zO4;have Rg:Z (Rd wr P zs/\∀b,AF P b->v.1.size<=b/\b<wr.1.size):=U ⟨C.o.rd Rf.o.1 (λb hb=>(Rf.o.2 b hb).1) Y,λb hb=>⟨(Rf.o.2 b hb).1,bN (Rf.o.2 b hb).2 C.o.k2.size⟩⟩;clear T S HM;rcases KO with t1|⟨t1,rfl⟩;all_goals
  go_upto_region 15 with(go_at_call 46;refine(fa (k:=1) (y:=1) (U C.o.r) rfl ao ao HCQ).mono ?_;rintro e u9 ⟨rfl,Ix,N,pu9⟩);have ER:Z (fc 84 p v u9 u9 g vb o10 #[z0,K,f1,f2,f3,f4,f5,.slice P zs cS,.slice I is cI,()]):=(C.o.get Ix N).from_;have Rh:Z (Rd u9 P zs/\∀b,AF P b->v.1.size<=b/\b<u9.1.size):=U ⟨N.o.rd Rg.o.1 λb hb=>by have:=(Rg.o.2 b hb).1;show¬b=g;omega,λb hb=>⟨(Rg.o.2 b hb).1,bN (Rg.o.2 b hb).2 N.o.size⟩⟩;have HI9:Z (Rd u9 I is/\∀b,AF I b->v.1.size<=b/\b<u9.1.size):=U ⟨N.o.rd X.o.rd λb hb=>by have:=(X.o.af hb).1;have:=YY.o.uo;show¬b=g;omega,λb hb=>⟨aQ YY.o.uo (X.o.af hb).1,bN (X.o.af hb).2.1 N.o.size⟩⟩;have afb:Z (is<=cI):=X.o.hD;clear t1 kbw Uj hp C X;clear hqr;go_loopw [7] (λs7 wr=>∃(q r:Nat) (O:List Sp) (R:bz) (c3:Nat) (E:fR),q+r=d/\O=q/\s7=.int .u64 (r:Int)/\Z (fc 84 p v u9 wr g vb E #[z0,K,f1,f2,f3,f4,f5,.slice P zs cS,.slice I is cI,(R,q,c3)])/\Z (kM wr u9.1.size R c3 O)/\Z ((aX O++(kt r E).1,(kt r E).2)=(ps,o11))/\aj wr p) (λs7 _=>(intOf s7).toNat);exact⟨0,d,[],none,0,o10,Y,rfl,rfl,ER,U kM.nil,U (by rw[M5.o];rfl),pu9⟩;obtain⟨q,r,O,R,c3,E,hqr,IH,rfl,C,X,HM,hp⟩:=hrel;obtain⟨v3,fl,Uj,S⟩:=C.o.r.flag;have kbw:Bx wr vb 84 #[z0,K,f1,f2,f3,f4,f5,.slice P zs cS,.slice I is cI,(R,q,c3)]:=⟨C.o.bv⟩;by_cases T:0<r/\fl=false
  .obtain⟨hr,rfl⟩:=T;cases E with
   |none=>cases S
   |some L2=>
    subst IH;obtain⟨r',rfl⟩:∃r',r=r'+1:=⟨r-1,Y⟩;obtain⟨⟨Q,o3⟩,hG⟩:=lh (nH (some L2));have hm:=HM.o;rw[kt,hG]at hm;dsimp only at hm;have t1:decide (0<r'+1)=true:=aI;have nF:=U hG;have vA:=U hm;obtain⟨R1,za⟩:=lg (r'+1:Nat);rw[<-za]at t1⊢;(have wr2:IntKind.u64.wrap ((R1:Int)-1)=(r':Int):=by rw[bE];omega);have Ln:=U za;clear hG hm za S hr;go_upto_region 17 with fail;refine ax p ap (λj _=>?_)
    repeat' (first
     |(refine kj 0 ?_
       refine eE 0 ?_;refine jQ 2 71 ?_)
     |(refine kj 6 ?_
       refine jQ 6 75 ?_)
     |(intro (tg:Tg 1) K hK
       clear tg;go_simp;refine aE hK ?_;clear hK K)
     |(intro (tg:Tg 3) K hK
       clear tg;have qQ:=C.o.at (u':=j);have OY:=X.o.at (w':=j);have Ls:u9.1.size<=j.1.size:=qQ.k2.size;have Lt:∀b,AF R b->b<j.1.size:=λb hb=>(OY.row.af hb).2.1;go_simp
       refine(xY (U qQ.r) nF).mono ?_
       rintro e j ⟨AX,cX,rfl,Y1,hlX,Ix,N,Lo⟩;dsimp only;have Y2:=U (qQ.get Ix N);have WO:Z (kM j u9.1.size R c3 O):=U (OY.kf N (λb hb=>by have:=ER.o.k.size;show¬b=g;omega));have Lu:Z (Rd j AX Q/\(∀b,AF AX b->u9.1.size<=b/\b<j.1.size/\¬AF R b)/\Q<=cX):=U ⟨Y1.rd,λb hb=>⟨aQ Ls (Y1.lo b hb),Y1.hi b hb,λhx=>by have:=Y1.lo b hb;have:=Lt b hx;omega⟩,hlX⟩;have acr:Bx j vb 84 _:=⟨Y2.o.bv⟩;clear Y1 hlX Ls Lt;refine aE hK ?_ Lo;clear hK K)
     |(intro (tg:Tg 4) K hK
       clear tg;go_simp;refine aE hK ?_;refine bc (λj _ _=>?_))
     |(intro (tg:Tg 5) K hK
       clear tg;have Y3:=Y2.o.at (u':=j);have Y4:=WO.o.at (w':=j);have Y5:Rd j AX Q:=Lu.o.1.below (aO _ j);have afc:∀b,AF AX b->u9.1.size<=b/\b<j.1.size/\¬AF R b:=λb hb=>⟨(Lu.o.2.1 b hb).1,bN (Lu.o.2.1 b hb).2.1 ai,(Lu.o.2.1 b hb).2.2⟩;refine se ap _ _ _ rfl 25 underlying82 1 24 () ap rfl ao ao u9.1.size R c3 O.length (gR O).toList rfl Y4.row [.slice AX Q cX] rfl Bx.ak rfl (λu hu=>by rw[de.1 hu];rfl) Y Y3.k2.size ?_;intro A4 c4 j lN EJ;have xZ:=U (Y3.jE EJ (λb hb=>(X.o.row.af hb).1) D6);have UA:Z (kM j u9.1.size A4 c4 (O++[⟨AX,Q.length,cX,Q⟩])):=U (Y4.push (x:=⟨AX,Q.length,cX,Q⟩) Y5 rfl Lu.o.2.2 afc EJ lN);have SL:aj j p:=xZ.o.prev;have acu:Bx j vb 84 _:=⟨xZ.o.bv⟩;refine aE hK ?_ SL;clear hK K)
     |(intro (tg:Tg 7) K hK
       clear tg;have SN:=(xZ.o.at (u':=j)).bv.cell 9;have YZ:=(xZ.o.at (u':=j)).bv.frozen 9;go_simp;obtain⟨W9,M⟩:=lg (j.setCell (vb,9) (.slice A4 (O.length+1) c4));have D:=U ((xZ.o.at (u':=j)).set 9 (.slice A4 (O.length+1) c4));have Lq:Z (kM W9 u9.1.size A4 c4 (O++[⟨AX,Q.length,cX,Q⟩])):=U ((UA.o.at (w':=j)).kf (F:=λb=>b=vb) (F':=λb=>b=vb) (by rw[M];exact(Kf.refl (λb=>b=vb) j).av (q:=⟨vb,9,none⟩) rfl _) λb hb=>by have:=ER.o.k.size;show¬b=vb;omega);rw[<-M]at D⊢;have Y0:aj W9 p:=D.o.prev;clear M SN YZ;refine aE hK ?_ Y0;clear hK K)
     |refine ff 1 ?_
     |refine ff 5 ?_
     |refine ff 7 ?_
     |refine ff 4 ?_
     |refine ff 3 ?_
     |refine my 1 3 ?_ ?_
     |refine my 1 4 ?_ ?_
     |refine DW ?_)
    all_goals go_wp2_with fail;exact⟨⟨O.length+1,r',O++[⟨AX,Q.length,cX,Q⟩],A4,c4,o3,by have:=Ln.o;omega,aI,rfl,D,Lq,U (by have:=vA.o;rw[<-this];simp[aX]),D.o.prev⟩,by simp[intOf];have:=Ln.o;omega⟩
  have Lr:ps=aX O/\o11=E:=by
   have hm:=HM.o;have h8:kt r E=([],E):=by
    rcases GK r with h9|h9;subst h9;rfl
    .cases E with
     |none=>exact OW r
     |some L=>exact absurd ⟨h9,S⟩ T
   exact zO5
  obtain⟨hp9,rfl⟩:=Lr;have HPE:=U hp9;subst IH;have KO:(decide (0<r)=false)\/(decide (0<r)=true/\fl=true):=zO4
  have II:aA wr w.1.size 84 #[an,an,an,an,an,an,an,(),(),()]:=C.o.k.ak k0.ak (by have:=HVB.o;rintro(e9|e9)<;>omega);have kr:Bx wr w.1.size 84 #[an,an,an,an,an,an,an,(),(),()]:=⟨II⟩;have Ei:Z (sf v.1.size wr ⟨⟨z0,K,f1,f2,f3,f4,f5,zs⟩,P,zs.length,cS,I,is.length,cI,is,R,O.length,c3,O⟩):=U (by
   have h9:=C.o.uo;refine⟨⟨C.o.rd Rh.o.1 (λb hb=>(Rh.o.2 b hb).1) Y,rfl⟩,⟨C.o.rd HI9.o.1 (λb hb=>(HI9.o.2 b hb).1) Y,rfl⟩,X.o.ae8,YX,afb,X.o.row.le,Sc,λb hb=>?_,λb hb=>?_⟩
   .rcases hb with hb|hb|hb|⟨s9,Uz,ad,e9,rfl⟩
    .have:=(Rh.o.2 b hb).1;omega
    .have:=(HI9.o.2 b hb).1;omega
    .have:=(X.o.row.af hb).1;omega
    .have:=(X.o.el s9 Uz).2.2.2.o ad e9;omega
   .rcases hb with hb|hb|hb|⟨s9,Uz,ad,e9,rfl⟩
    .have:=(Rh.o.2 b hb).2;exact bN this C.o.k2.size
    .have:=(HI9.o.2 b hb).2;exact bN this C.o.k2.size
    .exact(X.o.row.af hb).2.1
    .exact X.o.lt s9 Uz ad e9)
  have HKW:Z (Ke (λb=>b=g\/b=vb) v wr):=C.o.k;have HRW:Z (ka p wr g o11):=C.o.r;clear T S HM;rcases KO with t1|⟨t1,rfl⟩;all_goals go_wp2_with fail;obtain⟨rfl,rfl⟩:=HV.o;obtain⟨W9,M⟩:=lg ((((((((((wr.setCell (w.1.size,0) z0).setCell (w.1.size,1) (.int .i64 K)).setCell (w.1.size,2) f1).setCell (w.1.size,3) f2).setCell (w.1.size,4) f3).setCell (w.1.size,5) f4).setCell (w.1.size,6) f5).setCell (w.1.size,7) (.slice P zs cS)).setCell (w.1.size,8) (.slice I is cI)).setCell (w.1.size,9) (.slice R O c3));rw[<-M];(have k9:Kf (λb=>b=w.1.size) (λb=>b=w.1.size) wr W9:=by rw[M];exact ae9);have b9:=(((((((((II.av 0 z0).av 1 (.int .i64 K)).av 2 f1).av 3 f2).av 4 f3).av 5 f4).av 6 f5).av 7 (.slice P zs cS)).av 8 (.slice I is cI)).av 9 (.slice R O c3);rw[<-M]at b9;have r0:=b9.cell 0;have r1:=b9.cell 1;have r2:=b9.cell 2;have r3:=b9.cell 3;have r4:=b9.cell 4;have r5:=b9.cell 5;have r6:=b9.cell 6;have r7:=b9.cell 7;have r8:=b9.cell 8;have r9:=b9.cell 9;clear M;refine aZ (v:=.agg #[z0,K,f1,f2,f3,f4,f5,.slice P zs cS,.slice I is cI,.slice R O c3]) (by simp[results,results48,go_sem,r0,r1,r2,r3,r4,r5,r6,r7,r8,r9]) rfl ?_;(have hwv:w.1.size<v.1.size:=by have:=HVB.o;omega);(have m:=Ei.o.kf k9 λb hb e9=>by have:=Ei.o.lo b hb;omega);have nd2:sf w.1.size W9 _:=⟨m.s,m.i,m.p,m.ls,m.li,m.lp,m.k6,λb hb=>aQ (eW hwv) (m.lo b hb),m.hi⟩;exact⟨⟨⟨z0,K,f1,f2,f3,f4,f5,zs⟩,P,zs.length,cS,I,is.length,cI,is,R,O.length,c3,O⟩,rfl,U (by show(⟨_,is,aX O⟩:dV)=_;rw[HPE.o]),U nd2,U (HRW.o.kf k9 (λb e9=>by have:=h.o.hg;omega) λe9=>by omega),U (adD (vb:=vb) ai HKW k9 (by have:=HVB.o;omega)),k9.prev λb e9=>by have:=h.o.hg;omega⟩
end
end
variable{u:World}{b:Nat}{E:Int}
def Dg(zs:au):Int:=if zs.length<8 then 16 else if num (zs.drop (zs.length-4))=nl 0 (zs.take (zs.length-4))then 0 else 30
section
variable{w:World}{n o k:Nat}
def Lv:∀(zs:au) (i:Nat),i+zs.length<=4000->(∀z∈zs,0<=z/\z<256)->0<=nl i zs/\nl i zs<=zs*1020000
 |[],i,_,_=>by simp[nl]
 |z::t,i,h,e=>by have j:=e z dD;rw[fD]at h;have m:=Lv t (i+1) Y λx l=>e x (iD _ l);have r:0<=((i:Int)+1)*z:=jO Y j.1;have y:((i:Int)+1)*z<=4000*255:=l2 Y Y j.1 ao;rw[nl,fD];omega
def abE(zs:au):∀v∈zs.map (Value.int .u8),v.oneCell'=true:=λv hv=>by
 obtain⟨z,_,rfl⟩:=cw.1 hv;rfl
def OZ[s:Bs w (some ⟨b,o,none⟩) n zs](hn:n<=1000000):() 91 #[.slice (some ⟨b,o,none⟩) n c] w (λe w'=>∃A c,e=.returned (.slice A n c)/\Bs w' A n zs/\n<=c/\aj w' w):=by
 obtain⟨i,hi,l⟩:=bJ.1 (show(prog.info? 5).map (λi=>(i.zero,i.size,i.bytes))=some (some (.int .u8 0),1,1)from by kernel_rfl);simp only[dS]at l;obtain⟨m,r,y⟩:=l;have G:n=zs:=s.len;have p1:aj (w.alloc (.cells #[] 5)) w:=am;have L:(w.alloc (.cells #[] 5)).ownsRow w.1.size 5 1 (w,0,0) 0 []:=aT.mk' (cur:= #[]) (al _) (jP w _) (al _) (aR _) rfl rfl;have O:Bs (w.alloc (.cells #[] 5)) (some ⟨b,o,none⟩) n zs:=am;have R:=λQ=>Gx (P:=prog) (w.alloc (.cells #[] 5)) w.1.size 22 Q 5 i _ 1 1 ap hi m r y rfl ao _ 0 _ L ⟨b,o,none⟩ n c (zs.map (Value.int .u8)) (by simp[G]) (λk u hu=>by
  rw[bo]at hu;obtain⟨z,C,rfl⟩:=bJ.1 hu;rw[cf];obtain⟨b',o',e,hb,I,_⟩:=O.rd k z C;cases e;exact I) (abE zs) (by unfold maxLen;omega) Y aI
 obtain⟨S,w',hr,B,hg,-,-⟩:=R 22;have T:∀W,(binOp .eql 22 (.slice (some ⟨b,o,none⟩) n c) ()).run prog W=.ok (.bool false) W:=λW=>Lib.run_eql_slice_nil W 22 5 _ _ _ _ _ ap;have V:=U B;have X:=U hg;have M:=U G;have HB:=U s.all;clear R L B hg G hi m r y;go_in;go_wp2_with (at_builtin;refine Lib.wpList_append_run _ rfl _ _ 22 22 rfl _ _ rfl rfl _ _ hr ?_)
 go_ret;have hb:Below w.1.size w w':=((aY w.1.size w).alloc (al _) _).grown X aI (λk D=>by
  rw[cX]at D;injection D with D
  show w.1.size<=k
  exact dT D)
 have E:=V.o;rw[cQ,jN]at E;have h8:∀J K,S=.slice J n K->aT w' w.1.size 5 1 J K n (zs.map (Value.int .u8)):=λJ K e=>by rw[e]at E;exact E
 rcases E.2 with⟨rfl,h0⟩|⟨g,cap,cur,rfl,_⟩;have N:=M.o;rw[h0]at N⊢;obtain rfl:zs=[]:=pB N.symm;exact⟨none,0,rfl,⟨λj z F=>by simp at F,rfl⟩,al _,⟨hb⟩⟩;have hr:=h8 _ _ rfl;refine⟨_,_,rfl,⟨λj z F=>?_,M⟩,hr.le,⟨hb⟩⟩;obtain⟨g',e,I⟩:=hr.cell (j:=j) (v:=.int .u8 z) (by rw[bo,F];rfl);have C:=HB.o z (aK F);exact⟨g',0,e,hr.lt _ e,by rw[cQ];exact I,C.1,C.2⟩
def Y6(w:ab)(L:au)(e:Ending)(w':ab):Prop:=∃g p,e=.returned (.tuple #[.pointer (some ⟨g,0,none⟩),an])/\aj p w/\Z (ka p w' g (some L))/\aj w' p
def UB(h:n<8):() 45 #[(A,n,c)] w (aL w (.tuple #[.pointer none,(16:Int)])):=by
 have d1:decide ((n:Int)<8)=true:=by simp;omega
 go_in;go_wp2_with fail;go_ret2;exact bF
def Dh[s:Bs w A n zs](hn:n<=4000)(Q:n<=c)(h:8<=n)(hE:Z (Dg zs=E)):
  () 45 #[(A,n,c)] w (λe w'=>if E=0 then Y6 w (zs.take (n-4)) e w' else aL w (.tuple #[.pointer none,(30:Int)]) e w'):=by
 have CB:=@az;have FB:=@aP;obtain⟨b,o,z,rfl,ob,-,-,-,-⟩:=s.get (k:=0) Y;have hl:n=zs:=s.len;have r:=s.all;obtain⟨m,hm⟩:∃m,n=m+4:=⟨n-4,Y⟩;have j:=s6 (zs:=zs.drop m) λz R=>r z (hJ R);have B:=Lv (zs.take m) 0 (by rw[cr];omega) λz R=>r z (eS R);rw[e2]at j;rw[cr]at B;have e4:zs.length-m=4:=Y;rw[e4]at j;have p4:(256:Int)^4=4294967296:=by decide
 rw[p4]at j;have C:=hE.o;rw[Dg,ag Y,show zs.length-4=m from Y]at C;rw[show n-4=m from Y];obtain⟨A',S,T⟩:=wA b o n c m Y Q;obtain rfl:=T Y;have sD:Bs w (some ⟨b,o+m,none⟩) 4 (zs.drop m):=by have:=s.drop (k:=m);rwa[show n-m=4 from Y]at this
 have sT:Bs w (some ⟨b,o,none⟩) m (zs.take m):=s.take Y;obtain⟨O,F⟩:=lh (num (zs.drop m));obtain⟨I,G⟩:=lh (nl 0 (zs.take m));rw[F]at j C;rw[G]at B C;have V:=U F;have X:=U G;have l:Z ((zs.drop m).length=4):=U (by rw[e2];omega);have w1:IntKind.u64.wrap I=I:=by rw[bE];omega
 have hw4:IntKind.i64.wrap ((n:Int)-4)=(m:Int):=by rw[a7];omega
 have HE:=U C;have hm4:m<=4000:=Y;have hmc:m<=c:=Y;clear hl r j B e4 p4 C F G;go_in;go_upto_region 5 with fail
 refine aa (λu0 Bd k0=>?_);have HR0:Z (ka w u0 w.1.size (some (zs.drop m))):=U ⟨by rw[l.o];decide,Bd,⟨some ⟨b,o+m,none⟩,c-m,by rw[l.o];exact k0.ak,by rw[l.o];exact sD,by rw[l.o];omega⟩,al _⟩;have HG4:Z (bC 4 (some (zs.drop m))=(O,some ((zs.drop m).drop 4))):=U (by
  unfold bC;dsimp only;rw[ag (by rw[l.o];omega),bV (by rw[l.o];exact al _),V.o])
 have J:∀W:World,aj W w->() 92 #[.slice (some ⟨b,o,none⟩) m c] W (aL W (.int .u32 I)):=λW pW=>by rw[<-X.o];exact abC hm4
 have L:=U J;clear J S;refine ax w ap (λP _=>?_);refine qL [1,2,3] ?_;refine aJ 0 λK hK=>?_;have M:=HR0.o.at (w':=P);go_simp;refine(fa (k:=4) (y:=4) (U M) rfl ao ao HG4).mono ?_;rintro e P ⟨rfl,-,-,t7⟩;dsimp only;refine aE hK ?_ t7;clear hK K M;refine aJ 4 λK hK=>?_;go_simp;refine(L.o P am).mono ?_;rintro e P ⟨rfl,_⟩;dsimp only;refine aE hK ?_;refine qL [5,6] ?_;refine a8 ?_;rename World=>uy;by_cases hq:O=I
 .have C:(0:Int)=E:=by have:=HE.o;rwa[ah hq]at this
  subst C;(have b0:(O !=I)=false:=by simp[hq]);clear hq;go_wp2_with (go_at_call 91;refine(OZ Y).mono ?_;rintro e N ⟨A5,c5,rfl,s5,l5,pu5⟩);go_ret2;have D:(zs.take m).length=m:=sT.len.symm;exact⟨N.1.size,N,rfl,aG w N,U ⟨by rw[D];omega,aG N _,⟨A5,c5,by rw[D];exact aA.new _ _ _,by rw[D];exact s5,by rw[D];exact l5⟩,al _⟩,aG N _⟩
 have C:(30:Int)=E:=by have:=HE.o;rwa[ag hq]at this
 subst C;have b0:(O !=I)=true:=by simp[hq]
 clear hq;go_wp2_with fail;go_ret2;exact⟨rfl,aG w uy⟩
end
section
variable{A':Option Addr}{c' q:Nat}{F':Nat->Prop}{z0 z1:Value}
def tK(x:Nd):List Value:=Tx x.o (.slice x.A x.n x.c) (.slice x.I x.ni x.ci) (.slice x.P x.np x.cp)
structure q7(w:World)(B:Nat)(A:Option Addr)(c:Nat)(xs:List Nd):Prop where
 row:aT w B 84 10 A c xs.length (xs.flatMap tK)
 el:∀x∈xs,sf B w x
 ne:∀x∈xs,∀b,NF x b->¬AF A b
def UC(zs:au):Int:=if Dg zs=0 then(match(sa (zs.take (zs.length-4))).nd.2 with|none=>16|some R=>if(sa (zs.take (zs.length-4))).m4.1=1096042545 then(if R=[]then bm (ux (zs.take (zs.length-4)))else 10)else 10)else Dg zs
def O0(zs:au):a6:=ux (zs.take (zs.length-4))
def adF(w:ab)(N:a6)(e:Ending)(w':ab):Prop:=∃A n c B m d,e=.returned (.tuple #[.agg #[.slice A n c,.slice B m d],an])/\aW w' A n B m N/\n<=c/\m<=d/\aj w' w/\∀u,Kf (λb=>b<w.1.size) (λb=>b<w.1.size) w' u->aW u A n B m N
section
variable{w:World}{n o k B:Nat}{xs:List Nd}{x:Nd}{F:Nat->Prop}
def Ri:∀(xs:List Nd) (j:Nat) (x:Nd),xs[j]?=some x->∀k,k<10->(xs.flatMap tK)[j*10+k]?=(tK x)[k]?
 |[],j,x,h,_,_=>by simp at h
 |y::t,0,x,h,k,hk=>by rw[List.getElem?_cons_zero]at h;obtain rfl:=cU h;rw[mu,fo,cQ,uE (by show k<10;exact hk)]
 |y::t,j+1,x,h,k,hk=>by rw[pE]at h;have e:=Ri t j x h k hk;rw[mu,eT (by show 10<=_;omega),<-e];congr 1;show(j+1)*10+k-10=_;omega
def q7.nil(w:ab)(B:Nat):q7 w B none 0 []:=⟨⟨rfl,.inl ⟨rfl,rfl⟩⟩,λt ht=>(by cases ht),λt ht=>(by cases ht)⟩
def q7.kf(h:q7 w B A c xs)(e:Kf F F' w w')(hF:∀b,B<=b->¬F b):q7 w' B A c xs:=
 ⟨e.row h.row λb hb=>hF b (h.row.af hb).1,λx j=>(h.el x j).kf e λb hb=>hF b ((h.el x j).lo b hb),h.ne⟩
def q7.at(h:q7 w B A c xs)[l:aM w w']:q7 w' B A c xs:=h.kf (F:=λ_=>False) (Kf.later _) λ_ _ h=>h
def q7.push(h:q7 w B A c xs)(r:sf B w x)(z:∀b,NF x b->¬AF A b)(m:dj A A' w w')(hr:aT w' B 84 10 A' c' (xs.length+1) (xs.flatMap tK++tK x)):q7 w' B A' c' (xs++[x]):=by
 have j:∀y∈xs++[x],∀b,NF y b->¬AF A b:=λy hy b hb=>by rcases cu.1 hy with hy|hy;exact h.ne y hy b hb;rw[de.1 hy]at hb;exact z b hb
 have l:∀y∈xs++[x],sf B w y:=λy hy=>by rcases cu.1 hy with hy|hy;exact h.el y hy;rwa[de.1 hy]
 refine⟨?_,λy hy=>(l y hy).kf (Kf.jE m) (j y hy),λy hy b hb C=>?_⟩;rw[bh,nK];simpa using hr;obtain⟨D,e,rfl⟩:=C;rcases m.new D e with⟨a0,E,G⟩|h9;exact j y hy _ hb ⟨a0,E,G.symm⟩;have:=(l y hy).hi _ hb;omega
def q7.rd(h:q7 w B A c xs):ack w A xs:=λj x r=>by
 have hm:=aK r;have l:=h.el x hm;have y:∀k v,(tK x)[k]?=some v->∃g,A=some ⟨g,0,none⟩/\w.cell? (g,j*10+k)=some v:=λk v hv=>h.row.cell (by
  rw[Ri xs j x r k (by have:=(bj.1 hv).1;exact this)];exact hv)
 obtain⟨g,e,-⟩:=y 0 _ rfl;refine⟨g,0,e,(h.row.af ⟨_,e,rfl⟩).2.1,λk v hv=>?_,l.s,l.i,l.p,l.ls,l.li,l.lp,l.k6⟩;obtain⟨C,m,z⟩:=y k v hv;rw[e]at m;injection m with m;injection m with m;subst m;rwa[cQ]
def UD:∀u∈tK x,u.oneCell'=true:=λu hu=>by
 simp only[tK,Tx,dE,tO,sy]at hu;rcases hu with rfl|rfl|rfl|rfl|rfl|rfl|rfl|rfl|rfl|rfl<;>rfl
def UE(c:Nat):qz c none=([],none):=by cases c<;>rfl
def UF{k:Nat}{n:Int}(h:0<k):0<(gq k n).length:=by rw[F0];exact h
def UG(v:dV):0<(Dd v).length:=by
 unfold Dd;simp only[bh];have:=UF (k:=1) (n:=v.o.kd) ao;omega
def F7:∀l:List dV,l<=(l.flatMap Dd).length
 |[]=>al _
 |v::t=>by rw[mu,bh,fD];have:=UG v;have:=F7 t;omega
def F8{L:au}(hb:nJ L)(C:L.length<=1000)(hm:(sa L).m4.1=1096042545)(l:(sa L).nd.2=some []):(ux L).fits/\(ux L).small:=by
 obtain⟨m,D,E,e⟩:=abD hb hm l;have r:(ux L).nodes.length<=1000:=by have j:=di List.length m;unfold YG at j;simp only[bh]at j;have:=F7 (ux L).nodes;omega
 exact⟨⟨Y,Y,λv hv=>⟨by have:=(e v hv).i;omega,by have:=(e v hv).s;omega,by have:=(e v hv).p;omega,λz y=>by have:=(e v hv).ps z y;omega⟩⟩,r,λv hv=>by have:=(e v hv).i;omega⟩
def Lw[s:Bs w A n zs](y:n<=4000)(l:n<=c)(hE:Z (Dg zs=E))(r:E≠0):() 45 #[(A,n,c)] w (aL w (.tuple #[.pointer none,E])):=by
 have j:=hE.o;by_cases m:n<8;rw[Dg,ah (by rwa[<-s.len])]at j;subst j;exact UB m;refine(Dh y l Y hE).mono ?_;intro e w' h;rw[ag r]at h;rw[Dg,ag (by rwa[<-s.len])]at j;split at j;exact absurd j.symm r;subst j;exact h
def Lx[s:Bs w A n zs](m:n<=4000)(j:n<=c)(hE:Z (Dg zs=0)):() 45 #[(A,n,c)] w (Y6 w (zs.take (n-4))):=by
 have r:8<=n:=by have l:=hE.o;unfold Dg at l;split at l;cases l;rename_i h;rw[s.len];omega
 refine(Dh m j r hE).mono ?_;intro e w' h;rw[ah rfl]at h;exact h
def kf2:Kf (λb=>b=q) (λb=>b=q) u ((u.setCell (q,0) z0).setCell (q,1) z1):=
 ((Kf.refl (λb=>b=q) u).av (q:=⟨q,0,none⟩) rfl z0).av (q:=⟨q,1,none⟩) rfl z1
theorem dO[aM w u](hq:w<=q):aj ((u.setCell (q,0) z0).setCell (q,1) z1) w:=kf2.prev λb e=>by rw[e];exact hq
def zO1(h:Γ:=by clear l hm hR;rcases T with S|⟨S,rfl⟩;all_goals go_wp2_with (go_at_call 49;refine mv j.o λu9 _=>?_);refine aZ (v:=.tuple #[.agg #[(),()],.int .i64 (10)]) ?_ rfl ?_;rw[ct rfl];go_simp;first|exact .inr ⟨by assumption,rfl,dO (al _)⟩|exact⟨rfl,dO (al _)⟩):=h
def zO3(h:Γ:=by first|exact .inr ⟨by assumption,rfl,dO (al _)⟩|exact⟨rfl,dO (al _)⟩):=h
def zO7(h:Γ:=by rw[ct rfl];go_simp):=h
def Di[s:Bs w A n zs](hn:n<=1000)(G3:n<=c)(hE:Z (UC zs=E)){N:a6}(hN:Z (O0 zs=N)):
  () 16 #[(A,n,c)] w (λe w'=>(E=0/\adF w N e w')\/(E≠0/\aL w (.tuple #[.agg #[(),()],E]) e w')):=by
 have CB:=@az;have FB:=@aP;have I:=hE.o;have hv:=hN.o;unfold UC at I;unfold O0 at hv;rw[<-s.len]at I hv;by_cases hr:Dg zs=0;rotate_left
 .rw[ag hr]at I;have HR:=U I;rw[I]at hr;(have b0:(E !=0)=true:=by simp[hr]);clear I hv;go_in;go_upto_region 1 with fail;refine aa (λu0 Bd k0=>?_);go_wp2_with (go_at_call 45;refine mv (Lw Y G3 HR hr) λu1 _=>?_);refine aZ (v:=.tuple #[.agg #[(),()],.int .i64 (E)]) ?_ rfl ?_;exact zO7;exact zO3
 rw[ah hr]at I;have HRD:=U hr;obtain⟨L,hL⟩:=lh (zs.take (n-4));rw[hL]at I hv;have K5:=U hL;have hLb:nJ L:=λz hz=>s.all z (by rw[<-hL]at hz;exact eS hz);have BI:L.length<=1000:=by rw[<-hL,cr];omega
 obtain⟨⟨mk,o1⟩,h1⟩:=lh (bC 4 (some L));obtain⟨⟨is,o2⟩,h2⟩:=lh (nH o1);obtain⟨⟨cn,o3⟩,h3⟩:=lh (bC 2 o2);obtain⟨⟨ns,o4⟩,h4⟩:=lh (qz cn.toNat o3);have YM:q6 (some L):=λL' e=>by cases e;exact hLb
 have by1:=YM.get 4;rw[h1]at by1;have by2:=by1.1.sh;rw[h2]at by2;have J:=by2.get 2;rw[h3]at J;dsimp only at J;have e2:(256:Int)^2=65536:=by decide
 rw[e2]at J;obtain⟨d,rfl⟩:=bO J.2.1;rw[a9]at h4;have hd:d<65536:=by have:=J.2.2;omega
 have a1:(sa L).m4=(mk,o1):=h1;have a2:(sa L).ed=(is,o2):=by show nH (bC 4 (some L)).2=_;rw[h1];exact h2
 have a3:(sa L).c=((d:Int),o3):=by show bC 2 (nH (bC 4 (some L)).2).2=_;rw[h1,h2];exact h3
 have a4:(sa L).nd=(ns,o4):=by show qz (sa L).c.1.toNat (sa L).c.2=_;rw[a3,a9];exact h4
 have a5:ux L=⟨is,ns⟩:=by unfold ux;rw[a2,a4]
 have Cf:Z (mk=1096042545->o4=some []->(ux L).fits/\(ux L).small):=λm1 m2=>F8 hLb BI (by rwa[a1]) (by rwa[a4]);rw[a4,a1]at I;dsimp only at I;rw[hv]at I a5;have M:=U a5;rw[hv]at Cf;have Bi:=U I;have H1:=U h1;have H2:=U h2;have H3:=U h3;have H4:=U h4;clear I hv hr hL hLb h1 h2 h3 h4 YM by1 by2 J e2 a1 a2 a3 a4 a5;go_in;go_upto_region 1 with fail;refine aa (λu0 Bd k0=>?_);go_upto_region 4 with(go_at_call 45;refine(Lx Y G3 HRD).mono ?_;rintro e u1 ⟨g,p,rfl,pp,YK,t7⟩);rw[K5.o]at YK;have Hk:=YK.o.hg;go_upto_region 5 with(go_at_call 46;refine(fa (k:=4) (y:=4) YK rfl ao ao H1).mono ?_;rintro e u2 ⟨rfl,xl,nB,t8⟩);go_upto_region 6 with(go_at_call 47;refine(xY xl H2).mono ?_;rintro e u3 ⟨O,cS,rfl,zl,YV,HR3,t5,YU⟩)
 refine aa (λv pv k1=>?_);obtain⟨P,y8⟩:=lg u3.1.size;rw[<-y8]at k1⊢;have wo:=HR3.o.hg;have uu:Z (fc 33 p v v v g P o2 #[.slice O is cS,()]):=U ⟨HR3.o.at,Kf.refl _ _,Kf.refl _ _,k1.ak,Y,Y,k1.ak.lt,al _⟩;have uo:=k1.ak.lt;have D6:g<v.1.size:=Y;have EM:Z (Rd v O is/\∀b,AF O b->w.1.size<b/\b≠g/\b≠P/\b<v.1.size):=U ⟨zl.rd.below (aO u3 v),λb hb=>by
  have q1:=zl.lo b hb;have q2:=zl.hi b hb;have q3:=xl.o.hg;have q4:w.1.size<u0.1.size:=k0.ak.lt;have q5:u0.1.size<=p.1.size:=ai;omega⟩
 have YX:=U YV;clear y8 zl YV k1;go_upto_region 7 with(go_at_call 46;refine(fa (k:=2) (y:=2) (U uu.o.r) rfl ao ao H3).mono ?_;rintro e X ⟨rfl,HR5,qV,pu5⟩);have xR:Z (fc 33 p v X X g P o3 #[.slice O is cS,()]):=(uu.o.get HR5 qV).from_;go_loopw [8] (λs8 wr=>∃(q r:Nat) (xs:List Nd) (Q:bz) (cB:Nat) (o:fR),q+r=d/\xs=q/\s8=.int .u64 (r:Int)/\Z (fc 33 p v X wr g P o #[.slice O is cS,(Q,q,cB)])/\Z (q7 wr X.1.size Q cB xs)/\Z ((xs.map Nd.val++(qz r o).1,(qz r o).2)=(ns,o4))/\aj wr p) (λs8 _=>(intOf s8).toNat);exact⟨0,d,[],none,0,o3,Y,rfl,rfl,xR,U (q7.nil _ _),U (by rw[H4.o];rfl),pu5⟩;obtain⟨q,r,xs,Q,cB,o,hqr,IH,rfl,HS,HO,HM,hp⟩:=hrel;obtain⟨v3,fl,Uj,UH⟩:=HS.o.r.flag;have kbw:Bx wr P 33 #[.slice O is cS,(Q,q,cB)]:=⟨HS.o.bv⟩;subst IH;by_cases wF:0<r/\fl=false
 .obtain⟨hr,rfl⟩:=wF;cases o with
  |none=>cases UH
  |some L2=>
   obtain⟨r',rfl⟩:∃r',r=r'+1:=⟨r-1,Y⟩;obtain⟨⟨V,o'⟩,hG⟩:=lh (Dc (some L2));have hm:=HM.o;rw[qz,hG]at hm;dsimp only at hm;have S:decide (0<r'+1)=true:=aI;have nF:=U hG;have vA:=U hm;obtain⟨R1,za⟩:=lg (r'+1:Nat);rw[<-za]at S⊢;(have wr2:IntKind.u64.wrap ((R1:Int)-1)=(r':Int):=by rw[bE];omega);have Ln:=U za;have jY:xs.length<=100000000:=Y;clear hG hm za UH hr;go_upto_region 9 with fail;refine ax p ap (λC _=>?_)
   repeat' (first
    |(refine kj 0 ?_
      refine eE 0 ?_;refine jQ 2 38 ?_)
    |(refine kj 6 ?_
      refine jQ 6 42 ?_)
    |(intro (tg:Tg 1) K hK
      clear tg;go_simp;refine aE hK ?_;clear hK K)
    |(intro (tg:Tg 3) K hK
      clear tg;have qQ:=HS.o.at (u':=C);have OY:=HO.o.at (w':=C);have Ls:X.1.size<=C.1.size:=qQ.k2.size;have Lt:∀b,AF Q b->b<C.1.size:=λb hb=>(OY.row.af hb).2.1;go_simp
      refine(YL (U qQ.r) nF).mono ?_
      rintro e C ⟨x9,rfl,HXV,m,Ix,Uk,Lo⟩;dsimp only;have Y2:=U (qQ.get Ix Uk);have WO:Z (q7 C X.1.size Q cB xs):=U (OY.kf Uk (λb hb=>by have:=xR.o.k.size;show¬b=g;omega));have Lu:Z (sf X.1.size C x9/\∀b,NF x9 b->¬AF Q b):=U ⟨⟨m.o.s,m.o.i,m.o.p,m.o.ls,m.o.li,m.o.lp,m.o.k6,λb hb=>aQ Ls (m.o.lo b hb),m.o.hi⟩,λb hb hx=>by have:=m.o.lo b hb;have:=Lt b hx;omega⟩;have acr:Bx C P 33 _:=⟨Y2.o.bv⟩;clear Ls Lt m;refine aE hK ?_ Lo;clear hK K)
    |(intro (tg:Tg 4) K hK
      clear tg;go_simp;refine aE hK ?_;refine bc (λC _ _=>?_))
    |(intro (tg:Tg 5) K hK
      clear tg;have Y3:=Y2.o.at (u':=C);have Y4:=WO.o.at (w':=C);have Y5:sf X.1.size C x9:=Lu.o.1.kf (F:=λ_=>False) (F':=λ_=>False) (Kf.later _) λ_ _ h=>h;refine se ap _ _ _ rfl 84 underlying31 10 128 (.agg #[an,an,an,an,an,an,an,(),(),()]) ap rfl ao ao X.1.size Q cB xs.length (xs.flatMap tK) rfl Y4.row (tK x9) rfl Bx.ak rfl UD jY Y3.k2.size ?_;intro A4 c4 C lN EJ;have xZ:=U (Y3.jE EJ (λb hb=>(HO.o.row.af hb).1) D6);have UA:Z (q7 C X.1.size A4 c4 (xs++[x9])):=Y4.push Y5 Lu.o.2 EJ lN;have SL:aj C p:=xZ.o.prev;have acu:Bx C P 33 _:=⟨xZ.o.bv⟩;refine aE hK ?_ SL;clear hK K)
    |(intro (tg:Tg 7) K hK
      clear tg;have SN:=(xZ.o.at (u':=C)).bv.cell 1;have YZ:=(xZ.o.at (u':=C)).bv.frozen 1;go_simp;obtain⟨W9,uy⟩:=lg (C.setCell (P,1) (.slice A4 (xs.length+1) c4));have D:=U ((xZ.o.at (u':=C)).set 1 (.slice A4 (xs.length+1) c4));have Lq:Z (q7 W9 X.1.size A4 c4 (xs++[x9])):=U ((UA.o.at (w':=C)).kf (F:=λb=>b=P) (F':=λb=>b=P) (by rw[uy];exact(Kf.refl (λb=>b=P) C).av (q:=⟨P,1,none⟩) rfl _) λb hb=>by have:=xR.o.k.size;show¬b=P;omega);rw[<-uy]at D⊢;have Y0:aj W9 p:=D.o.prev;clear uy SN YZ;refine aE hK ?_ Y0;clear hK K)
    |refine ff 1 ?_
    |refine ff 5 ?_
    |refine ff 7 ?_
    |refine ff 4 ?_
    |refine ff 3 ?_
    |refine my 1 3 ?_ ?_
    |refine my 1 4 ?_ ?_
    |refine DW ?_)
   all_goals go_wp2_with fail;exact⟨⟨xs.length+1,r',xs++[x9],A4,c4,o',by have:=Ln.o;omega,aI,rfl,D,Lq,U (by have:=vA.o;rw[<-this,c9,hM];show _=(_++V::_,_);rw[<-HXV.o];rfl),D.o.prev⟩,by simp[intOf];have:=Ln.o;omega⟩
 .have Lr:ns=xs.map Nd.val/\o4=o:=by
   have hm:=HM.o;have h8:qz r o=([],o):=by
    rcases GK r with h9|h9;subst h9;rfl
    .cases o with
     |none=>exact UE r
     |some L=>exact absurd ⟨h9,UH⟩ wF
   exact zO5
  obtain⟨hns,rfl⟩:=Lr;have HNS:=U hns;(have T:(decide (0<r)=false)\/(decide (0<r)=true/\fl=true):=by by_cases h9:0<r;exact .inr ⟨by simpa using h9,by cases fl;exact absurd ⟨h9,rfl⟩ wF;rfl⟩;exact .inl (by simpa using h9));have sS:Sl wr O is is:=⟨HS.o.k.rd EM.o.1 λb hb=>by have:=EM.o.2 b hb;rintro(e|e)<;>omega,rfl⟩;have aN:aW wr O is.length Q xs.length N:=⟨by rw[M.o];exact sS,⟨xs,HO.o.rd,by rw[M.o,<-hns]⟩,by rw[M.o,hns,bn]⟩;have hwp:w.1.size<u0.1.size:=k0.ak.lt;have hup:u0.1.size<=p.1.size:=ai;have kr:Bx wr w.1.size 33 #[(),()]:=am;have HB8:Z (xs<=cB):=HO.o.row.le;clear wF UH HM hns;cases o4 with
  |none=>obtain⟨L9,-,RU⟩:=HS.o.r;have SW:Z (16=E):=Bi;have h0:=SW.o;subst h0;(have h0:(16:Int)≠0:=by decide);have j:Z (() 49 #[.pointer g] wr (aL wr (16:Int))):=U (Rc (L:=L9) (sh:=true) RU);clear RU;rcases T with S|⟨S,rfl⟩;all_goals go_wp2_with (go_at_call 49;refine mv j.o λu9 _=>?_);refine aZ (v:=.tuple #[.agg #[(),()],.int .i64 (16)]) ?_ rfl ?_;exact zO7;exact zO3
  |some R=>
   have RU:=HS.o.r.2;have SW:Z ((if mk=1096042545 then if R=[]then bm N else 10 else 10)=E):=Bi;have j:Z (() 49 #[.pointer g] wr (aL wr (if R=[]then 0 else 10:Int))):=U (Rc (L:=R) (sh:=false) RU);have h9:=SW.o;have l:=j.o;clear RU Bi SW j;by_cases hm:mk=1096042545
   .rw[ah hm]at h9;by_cases hR:R=[]
    .rw[ah hR]at h9 l;have j:=U l;have sg:=U h9;obtain⟨Y7,wV⟩:=Cf.o hm (by rw[hR]);have HF:=U Y7;have acv:=U wV;(have b1:(mk !=1096042545)=false:=by simp[hm]);clear l h9 Y7 wV hm hR;by_cases h0:E=0
     .subst h0;rcases T with S|⟨S,rfl⟩;all_goals go_wp2_with (first|(go_at_call 49;refine mv j.o λu9 _=>?_)|(go_at_call 40;refine mv (ih HF acv sg) λua _=>?_));(have key:∀u9:World,Kf (λb=>b<=w.1.size) (λb=>b<=w.1.size) ua u9->aW u9 O is.length Q xs.length N:=λu9 hk=>by have kE:Sl ua O is is:=am;have afd:=HO.o.at (w':=ua);(have hq:=afd.kf hk λb hb=>by have:=xR.o.k.size;show¬b<=w.1.size;omega);exact⟨by rw[M.o];exact⟨hk.rd kE.rd λb hb=>by have:=(EM.o.2 b hb).1;show¬b<=w.1.size;omega,rfl⟩,⟨xs,hq.rd,by rw[M.o,<-HNS.o]⟩,by rw[M.o,HNS.o,bn]⟩);have Xu:=(kf2 (u:=ua) (q:=w.1.size) (z0:=.slice O is cS) (z1:=.slice Q xs cB)).more (G:=λb=>b<=w.1.size) (G':=λb=>b<=w.1.size) (λb h=>by rw[h];exact al _) (λb h=>.inr (.inl h));refine aZ (v:=.tuple #[.agg #[.slice O is cS,.slice Q xs cB],an]) ?_ rfl ⟨O,is.length,cS,Q,xs.length,cB,rfl,key _ Xu,YX,HB8,dO (al _),λu9 hk=>key u9 (Xu.trans (hk.more (λb h=>eW h) λb h=>.inr (.inl h)))⟩;rw[ct rfl];go_simp
     have b0:(E !=0)=true:=by simp[h0]
     rcases T with S|⟨S,rfl⟩;all_goals go_wp2_with (first|(go_at_call 49;refine mv j.o λu9 _=>?_)|(go_at_call 40;refine mv (ih HF acv sg) λua _=>?_));refine aZ (v:=.tuple #[.agg #[(),()],.int .i64 (E)]) ?_ rfl ?_;exact zO7;exact zO3
    rw[ag hR]at h9 l;subst h9;(have h0:(10:Int)≠0:=by decide);have j:=U l;(have b1:(mk !=1096042545)=false:=by simp[hm]);exact zO1
   rw[ag hm]at h9;subst h9;(have h0:(10:Int)≠0:=by decide);(have b1:(mk !=1096042545)=true:=by simp[hm]);by_cases hR:R=[];rw[ah hR]at l;have j:=U l;exact zO1;rw[ag hR]at l;have j:=U l;exact zO1
end
end
variable{ps:List Tn}{t:Tn}{R cb cp cx dx mx np:Nat}{T:TypeId}{z0 z1:Value}{BA PA XA XB:Option Addr}{cap pl:Int}
structure x8(N:a6)(zs:List Int)(ps:List Tn)(x:TV)(cap:Int):Prop where
 fi:N.fits
 sm:N.small
 hE:bm N=0
 fw:C9 N=true
 ft:Yz N (ps.map Tn.tv) x
 c0:0<=cap
 c1:cap<=16777216
 ln:zs.length<=600
 dc:UC zs=0
 dv:O0 zs=N
def abF(w:ab)(zs:au)(ps:List Tn)(x:TV)(cap:Int)(e:Ending)(w':ab):Prop:=
 ∃A n c B m d g,e=.returned (.tuple #[.agg #[.slice A n c,.slice B m d],.bool g])/\(g=true->∃N,x8 N zs ps x cap/\aW w' A n B m N/\n<=c/\m<=d)/\aj w' w
def UI(h:t∈ps):oh t<=oW ps:=by
 induction ps with
 |nil=>simp at h
 |cons a l b=>unfold oW at*;rw[eh,jL];rcases dE.1 h with rfl|h;omega;have:=b h;omega
def Y8(hb:∀t∈ps,t.zs.length<=17592186043904/\t.xs.length<=17592186043904):oW ps<=ps*35184372087809:=by
 induction ps with
 |nil=>simp[oW]
 |cons a l b=>have e:=b λt ht=>hb t (iD _ ht);have j:=hb a dD;unfold oW at*;rw[eh,jL,fD];unfold oh at*;omega
def Ly(hb:∀t∈ps,t.zs.length<=17592186043904/\t.xs.length<=17592186043904)(ht:t.zs.length<=17592186043904/\t.xs.length<=17592186043904)(e:ps.length<=100000)(h:wrap64 (Li ps+Li [t])<=700):oW ps<=700/\oh t<=700:=by
 have j:=Y8 hb;have b:oW [t]=oh t:=by simp[oW]
 have l:oh t<=35184372087809:=by unfold oh;omega
 unfold Li at h;rw[b]at h;unfold wrap64 at h;omega
def abG(hb:nJ zs)(u:zs.length<=1000)(h:UC zs=0):(O0 zs).fits/\(O0 zs).small/\bm (O0 zs)=0:=by
 unfold UC at h;by_cases hr:Dg zs=0
 .rw[ah hr]at h;have b:nJ (zs.take (zs.length-4)):=λz r=>hb z (eS r);(have e:(zs.take (zs.length-4)).length<=1000:=by rw[cr];omega);cases hm:(sa (zs.take (zs.length-4))).nd.2 with
  |none=>rw[hm]at h;dsimp only at h;exact absurd h ao
  |some R=>rw[hm]at h;dsimp only at h;by_cases j:(sa (zs.take (zs.length-4))).m4.1=1096042545;rw[ah j]at h;by_cases l:R=[];rw[ah l]at h;have m:=F8 b e j (by rw[hm,l]);exact⟨m.1,m.2,h⟩;rw[ag l]at h;exact absurd h ao;rw[ag j]at h;exact absurd h ao
 rw[ag hr]at h;exact absurd h hr
def yV{N:a6}(h:C9 N=true):(bQ N).length<=300/\N.nodes.length<=12:=by
 have e:C8 N<=300/\N.nodes.length<=12:=by simpa[C9]using h
 refine⟨aQ ?_ e.1,e.2⟩;unfold C8 bQ;refine aQ ?_ (Nat.le_add_left _ _);generalize N.nodes=l;induction l with
 |nil=>simp
 |cons a l j=>
  rw[mu,bh,eh,jL];have:a.P<=r9 a:=by
   unfold r9;have:∀P:List (List Int),P.length<=(P.map λs=>1+s.length).sum:=by
    intro P;induction P with
    |nil=>simp
    |cons b P j=>rw[eh,jL,fD];omega
   have:=this a.P;omega
  omega
class wG(w:World)(g:Nat)(T:TypeId):Prop where
 o:∃z0 z1,aA w g T #[z0,z1]
instance(priority:=low) wG.of{w:ab}[k:Bx w g T #[z0,z1]]:wG w g T:=⟨_,_,k.ak⟩
class hA(w:World)(h:Nat)(A:Option Addr)(n:Nat)(B:Option Addr)(m:Nat)(N:outParam a6):Prop where
 o:∀u,Kf (λb=>b<h) (λb=>b<h) w u->aW u A n B m N
instance(priority:=low) hA.step{w:ab}{h n:Nat}{N:a6}[p:aj w' w][k:hA w h A n B m N]:hA w' h A n B m N:=⟨λu b=>k.o u ((Kf.later _).trans b)⟩
section
variable{w:World}{nx:Nat}{x:TV}
def x8.ok{N:a6}(h:x8 N zs ps x cap)(b:∀t∈ps,t.zs.length<=t.c):eP ps:=λt ht=>⟨h.ft.2.1 t.tv (List.mem_map_of_mem ht),b t ht⟩
def zOc(h:Γ:=by rw[l];exact((Kf.refl _ _).av (q:=⟨w.1.size+1,0,none⟩) hh _).av (q:=⟨w.1.size+1,1,none⟩) hh _):=h
def zO0(h:Γ:=by refine a1 15 ?_;refine aJ 16 λK hK=>?_;obtain⟨z0,z1,q9⟩:=(am:wG j (w.1.size+1) 33).o;have kt9:Bx j (w.1.size+1) 33 #[z0,z1]:=⟨q9⟩;go_simp;obtain⟨r,l⟩:=lg ((j.setCell (w.1.size+1,0) (A,n,c)).setCell (w.1.size+1,1) (B,m,d));rw[<-l];(have D:Below (World.heap C).size C r:=by rw[l];exact bA (aO C j) hz _ _);(have M:∀b,b<j.1.size->b≠w.1.size+1->(World.heap r)[b]?=j.heap[b]?:=λb _ hb=>by rw[l];exact(bb _ ⟨w.1.size+1,1,none⟩ _ b hb).trans (bb _ ⟨w.1.size+1,0,none⟩ _ b hb));have ho:Bx r (w.1.size+1) _ #[(A,n,c),(B,m,d)]:=⟨by rw[l];exact aA.bP (Bx.ak (w:=j) (g:=w.1.size+1)) _ _⟩;have O:Bx r G 33 #[(A,n,c),(B,m,d)]:=⟨(M G (Bx.ak (w:=j) (g:=G)).lt J).trans (Bx.ak (w:=j) (g:=G))⟩;have nE:aj r C:=⟨D⟩;have P:wG r (w.1.size+1) 33:=am;have V:hA r h A n B m N:=⟨λu hk=>(am:hA j h A n B m N).o u (Kf.trans zOc hk)⟩;refine aE hK ?_ ⟨⟨D⟩,O,V,P⟩;clear hK K l;refine a1 17 ?_;refine a8 ?_;go_wp2_with fail;refine aZ (v:=.tuple #[.agg #[(A,n,c),(B,m,d)],.bool false]) ?_ rfl ⟨A,n,c,B,m,d,false,rfl,λh=>absurd h ao,?_⟩;rw[ct rfl];go_simp;exact aC):=h
def zO6(h:Γ:=by rw[l];exact(bb _ ⟨w.1.size+1,1,none⟩ _ b hb).trans (bb _ ⟨w.1.size+1,0,none⟩ _ b hb)):=h
def zOa(h:Γ:=by have h1:w.1.size+1<u1:=(am:Bx u1 (w.1.size+1) _ _).ak.lt;omega):=h
def Y9[s:Bs w BA R zs][tp:Ts w PA np ps][sx:Sl w XA nx x.1][xx:Sl w XB mx x.2][Le mx dx][cm x.2](y8:R<=cb)(hb:Z (∀t∈ps,t.zs.length<=17592186043904/\t.xs.length<=17592186043904))(rj:Z (∀t∈ps,t.zs.length<=t.c))(F:np<=140737488351232)(hx:nx<=17592186043904/\mx<=17592186043904):
  () 7 #[.agg #[(BA,R,cb),(PA,np,cp),(XA,nx,cx),(XB,mx,dx),pl,cap]] w (abF w zs ps x cap):=by
 have CB:=@az;have FB:=@aP;have HNB:Z (R=zs):=s.len;have Lz:Z (np=ps):=tp.len;have w7:Z (nx=x.1/\mx=x.2):=U ⟨sx.len,xx.len⟩;have X:Z (∀t∈[(⟨XA,cx,x.1,XB,dx,x.2⟩:Tn)],t.zs.length<=17592186043904/\t.xs.length<=17592186043904):=λt ht=>by rw[de]at ht;subst ht;show x.1.length<=_/\x.2.length<=_;rw[<-sx.len,<-xx.len];exact hx
 obtain⟨Z1,Ng⟩:=lh (Li ps);obtain⟨Z2,hZ2⟩:=lh (Li [(⟨XA,cx,x.1,XB,dx,x.2⟩:Tn)]);obtain⟨T,hT⟩:=lh (wrap64 (Z1+Z2));have I:=U Ng;have LA:=U hZ2;have HT:Z (wrap64 (Li ps+Li [(⟨XA,cx,x.1,XB,dx,x.2⟩:Tn)])=T):=U (by rw[Ng,hZ2];exact hT);have KP:IntKind.i64.wrap (Z1+Z2)=T:=by rw[<-hT,a7];unfold wrap64;rfl
 clear Ng hZ2 hx;by_cases h1:600<R
 .have g1:decide ((600:Int)<(R:Int))=true:=by simp;omega
  clear hT KP;go_in;go_upto_region 1 with fail;refine dd (λu0 p0 k1 k2=>?_);refine ax u0 ap (λy _=>?_);refine qL [0,1,2,3,4,505,506,507,508,509,510,511,512,513,14,15,516,517,518,19,20,521,522,523,24] ?_;refine a8 ?_;go_wp2_with fail;refine aZ (v:=.tuple #[.agg #[(),()],.bool false]) ?_ rfl ⟨none,0,0,none,0,0,false,rfl,λh=>absurd h ao,?_⟩;exact zO7;exact dO (db _)
 have g1:decide ((600:Int)<(R:Int))=false:=by simp;omega
 have qW:R<=1000:=Y;have M7:Z (R<=600):=U Y;clear h1;by_cases h2:700<T
 .have g2:decide (700<T)=true:=by simpa using h2
  clear h2;go_in;go_upto_region 1 with fail;refine dd (λu0 p0 k1 k2=>?_);refine ax u0 ap (λy _=>?_);refine qL [0,1,2,3,4,5,6,8,9] ?_;refine pP 7 10 (λK hK=>?_) (λK hK=>?_);(focus go_simp;refine(fk hb F I).mono ?_;rintro e y ⟨rfl,_⟩;dsimp only;refine aE hK<|aJ 10 λK hK=>?_;go_simp;refine aE hK<|bc (λy _ _=>?_));rotate_left;(focus go_simp;refine aE hK<|bc (λy _ _=>?_);refine aJ 7 λK hK=>?_;go_simp;refine(fk hb F I).mono ?_;rintro e y ⟨rfl,_⟩;dsimp only;refine aE hK ?_);all_goals refine aJ 11 λK hK=>?_;go_simp;refine(fk (np:=1) X Y LA).mono ?_;rintro e y ⟨rfl,_⟩;dsimp only;refine aE hK ?_;refine qL [12,13,14,15,516,517,518,19,20,521,522,523,24] ?_;refine a8 ?_;go_wp2_with fail;refine aZ (v:=.tuple #[.agg #[(),()],.bool false]) ?_ rfl ⟨none,0,0,none,0,0,false,rfl,λh=>absurd h ao,?_⟩;exact zO7;exact dO (db _)
 have g2:decide (700<T)=false:=by simpa using h2
 have HT7:Z (T<=700):=U Y;clear h2;by_cases h3:cap<0
 .have g3:decide (cap<0)=true:=by simpa using h3
  clear h3;go_in;go_upto_region 1 with fail;refine dd (λu0 p0 k1 k2=>?_);refine ax u0 ap (λy _=>?_);refine qL [0,1,2,3,4,5,6,8,9] ?_;refine pP 7 10 (λK hK=>?_) (λK hK=>?_);(focus go_simp;refine(fk hb F I).mono ?_;rintro e y ⟨rfl,_⟩;dsimp only;refine aE hK<|aJ 10 λK hK=>?_;go_simp;refine aE hK<|bc (λy _ _=>?_));rotate_left;(focus go_simp;refine aE hK<|bc (λy _ _=>?_);refine aJ 7 λK hK=>?_;go_simp;refine(fk hb F I).mono ?_;rintro e y ⟨rfl,_⟩;dsimp only;refine aE hK ?_);all_goals refine aJ 11 λK hK=>?_;go_simp;refine(fk (np:=1) X Y LA).mono ?_;rintro e y ⟨rfl,_⟩;dsimp only;refine aE hK ?_;refine qL [12,13,14,15,16,17,18,19,20,521,522,523,24] ?_;refine a8 ?_;go_wp2_with fail;refine aZ (v:=.tuple #[.agg #[(),()],.bool false]) ?_ rfl ⟨none,0,0,none,0,0,false,rfl,λh=>absurd h ao,?_⟩;exact zO7;exact dO (db _)
 have g3:decide (cap<0)=false:=by simpa using h3
 have HC0:Z (0<=cap):=U Y;clear h3;by_cases h4:16777216<cap
 .have g4:decide (16777216<cap)=true:=by simpa using h4
  clear h4;go_in;go_upto_region 1 with fail;refine dd (λu0 p0 k1 k2=>?_);refine ax u0 ap (λy _=>?_);refine qL [0,1,2,3,4,5,6,8,9] ?_;refine pP 7 10 (λK hK=>?_) (λK hK=>?_);(focus go_simp;refine(fk hb F I).mono ?_;rintro e y ⟨rfl,_⟩;dsimp only;refine aE hK<|aJ 10 λK hK=>?_;go_simp;refine aE hK<|bc (λy _ _=>?_));rotate_left;(focus go_simp;refine aE hK<|bc (λy _ _=>?_);refine aJ 7 λK hK=>?_;go_simp;refine(fk hb F I).mono ?_;rintro e y ⟨rfl,_⟩;dsimp only;refine aE hK ?_);all_goals refine aJ 11 λK hK=>?_;go_simp;refine(fk (np:=1) X Y LA).mono ?_;rintro e y ⟨rfl,_⟩;dsimp only;refine aE hK ?_;refine qL [12,13,14,15,16,17,18,19,20,21,22,23,24] ?_;refine a8 ?_;go_wp2_with fail;refine aZ (v:=.tuple #[.agg #[(),()],.bool false]) ?_ rfl ⟨none,0,0,none,0,0,false,rfl,λh=>absurd h ao,?_⟩;exact zO7;exact dO (db _)
 have g4:decide (16777216<cap)=false:=by simpa using h4
 have Iq:Z (cap<=16777216):=U Y;clear h4;obtain⟨E,HE⟩:=l8 (UC zs);obtain⟨N,HN⟩:=l8 (O0 zs);go_in;go_upto_region 1 with fail;refine qj (λC u0 pz p0 kz hz k1=>?_);go_cut [30] (λs30 wx=>s30=.bool false/\aj wx u0);case first=>refine ax u0 ap (λy _=>?_);refine qL [0,1,2,3,4,5,6,8,9] ?_;refine pP 7 10 (λK hK=>?_) (λK hK=>?_);(focus go_simp;refine(fk hb F I).mono ?_;rintro e y ⟨rfl,_⟩;dsimp only;refine aE hK<|aJ 10 λK hK=>?_;go_simp;refine aE hK<|bc (λy _ _=>?_));rotate_left;(focus go_simp;refine aE hK<|bc (λy _ _=>?_);refine aJ 7 λK hK=>?_;go_simp;refine(fk hb F I).mono ?_;rintro e y ⟨rfl,_⟩;dsimp only;refine aE hK ?_);all_goals refine aJ 11 λK hK=>?_;go_simp;refine(fk (np:=1) X Y LA).mono ?_;rintro e y ⟨rfl,_⟩;dsimp only;refine aE hK ?_;refine qL [12,13,14,15,16,17,18,19,20,21,22,23,24] ?_;refine a8 ?_;go_wp2_with fail;go_meet;exact bF
 obtain⟨rfl,_⟩:=hcut;obtain⟨y,rfl⟩:=lg wc;by_cases h0:E=0;rotate_left
 .have b0:(E !=0)=true:=by simp[h0]
  have b1:(E==0)=false:=by simp[h0]
  go_upto_region 4 with(go_at_call 16;refine(Di qW y8 HE HN).mono ?_;rintro e u1 h9;obtain⟨rfl,_⟩:=(h9.resolve_left λk=>h0 k.1).2);refine aa (λu2 p2 k3=>?_);obtain⟨G,hG⟩:=lh u1.1.size;have J:G≠w+1:=zOa;rw[hG]at k3⊢;clear h0;refine aU C (λQ=>Bx Q G 33 #[(),()]/\wG Q (w.1.size+1) 33) ap ⟨am,am⟩ (λj _=>?_);refine bp 0 ?_;refine bp 1 ?_;refine bp 2 ?_;refine bp 3 ?_;refine fA 4 ?_;refine fA 5 ?_;refine bp 6 ?_;refine bp 7 ?_;refine fA 8 ?_;refine fA 9 ?_;refine fA 10 ?_;refine fA 11 ?_;refine fA 12 ?_;refine fA 13 ?_;refine fA 14 ?_;refine bp 15 ?_;refine aJ 16 λK hK=>?_;obtain⟨z0,z1,q9⟩:=(am:wG j (w.1.size+1) 33).o;have kt9:Bx j (w.1.size+1) 33 #[z0,z1]:=⟨q9⟩;go_simp;obtain⟨r,l⟩:=lg ((j.setCell (w.1.size+1,0) ()).setCell (w.1.size+1,1) ());rw[<-l];(have D:Below (World.heap C).size C r:=by rw[l];exact bA (aO C j) hz _ _);have M:∀b,b<j.1.size->b≠w.1.size+1->(World.heap r)[b]?=j.heap[b]?:=λb _ hb=>zO6;have ho:Bx r (w.1.size+1) _ #[(),()]:=⟨by rw[l];exact aA.bP (Bx.ak (w:=j) (g:=w.1.size+1)) _ _⟩;have O:Bx r G 33 #[(),()]:=⟨(M G (Bx.ak (w:=j) (g:=G)).lt J).trans (Bx.ak (w:=j) (g:=G))⟩;have nE:aj r C:=⟨D⟩;have P:wG r (w.1.size+1) 33:=am;refine aE hK ?_ ⟨⟨D⟩,O,P⟩;clear hK K l;refine bp 17 ?_;refine a8 ?_;go_wp2_with fail;refine aZ (v:=.tuple #[.agg #[(),()],.bool false]) ?_ rfl ⟨none,0,0,none,0,0,false,rfl,λh=>absurd h ao,?_⟩;exact zO7;exact aC
 subst h0;have L:=abG s.all (by rwa[<-s.len]) HE;rw[HN.o]at L;have HF:=U L.1;have S:=U L.2.1;have sg:=U L.2.2;clear L;go_upto_region 4 with(go_at_call 16;refine(Di qW y8 HE HN).mono ?_;rintro e u1 h9;obtain⟨A,n,c,B,m,d,rfl,aN,G3,Ki,_,k9⟩:=(h9.resolve_right λk=>k.1 rfl).2);refine aa (λu2 p2 k3=>?_);obtain⟨G,hG⟩:=lh u1.1.size;have J:G≠w+1:=zOa;rw[hG]at k3⊢;obtain⟨h,hh⟩:=lh y.1.size;rw[hh]at k9;replace hh:w.1.size+1<h:=by have h1:w.1.size+1<y.1.size:=(am:Bx y (w.1.size+1) _ _).ak.lt;omega
 have nk1:hA u1 h A n B m N:=⟨k9⟩;clear k9;obtain⟨f1,nC⟩:=lh (C9 N);cases f1 with
 |false=>refine aU C (λQ=>Bx Q G 33 #[(A,n,c),(B,m,d)]/\hA Q h A n B m N/\wG Q (w.1.size+1) 33) ap ⟨am,am,am⟩ (λj _=>?_);refine a1 0 ?_;refine a1 1 ?_;refine a1 2 ?_;refine a1 3 ?_;refine a1 4 ?_;refine aJ 5 λK hK=>?_;obtain aN5:aW j A n B m N:=(am:hA j h A n B m N).o _ (Kf.refl _ _);go_simp;refine(Db HF S).mono ?_;rintro e j ⟨rfl,_⟩;dsimp only;refine aE hK ?_ ⟨aG C _,⟨am,am,am⟩⟩;rw[nC];refine a1 6 ?_;refine a1 7 ?_;refine fA 8 ?_;refine fA 9 ?_;refine fA 10 ?_;refine fA 11 ?_;refine fA 12 ?_;refine fA 13 ?_;refine fA 14 ?_;exact zO0
 |true=>
  obtain⟨hp3,-⟩:=yV nC;have Ej:np=(bQ N).length->(oW ps<=700/\oh (⟨XA,cx,x.1,XB,dx,x.2⟩:Tn)<=700):=λe=>Ly hb (X.o _ (de.2 rfl)) (by rw[<-Lz.o];omega) (by rwa[HT.o]);by_cases z:Yz N (ps.map Tn.tv) x
  .have Eh:np=(bQ N).length:=by rwa[<-z.1,bn,bn]
   have acw:Z (x8 N zs ps x cap):=U ⟨HF,S,sg,nC,z,HC0,Iq,by rw[<-HNB.o];exact M7.o,HE,HN⟩;have kH:Z (eP ps):=acw.o.ok rj;have HPF:Z ((ps.map Tn.tv).map (·.1)=bQ N):=z.1;have HXF:Z (x.1=N.ed):=z.2.2.2;have hr:=z.2.2.1;have hpn:np<=100000000:=Y;clear z Ej Eh hp3;refine aU C (λQ=>Bx Q G 33 #[(A,n,c),(B,m,d)]/\hA Q h A n B m N/\wG Q (w.1.size+1) 33) ap ⟨am,am,am⟩ (λj _=>?_);refine a1 0 ?_;refine a1 1 ?_;refine a1 2 ?_;refine a1 3 ?_;refine a1 4 ?_;refine aJ 5 λK hK=>?_;obtain aN5:aW j A n B m N:=(am:hA j h A n B m N).o _ (Kf.refl _ _);go_simp;refine(Db HF S).mono ?_;rintro e j ⟨rfl,_⟩;dsimp only;refine aE hK ?_ ⟨aG C _,⟨am,am,am⟩⟩;rw[nC];refine a1 6 ?_;refine a1 7 ?_;refine a1 8 ?_;refine a1 9 ?_;refine a1 10 ?_;refine a1 11 ?_;refine a1 12 ?_;refine aJ 13 λK hK=>?_;obtain afe:aW j A n B m N:=(am:hA j h A n B m N).o _ (Kf.refl _ _);go_simp;refine(C7 HF S sg HPF kH HXF hr hpn).mono ?_;rintro e j ⟨rfl,_⟩;dsimp only;refine aE hK ?_ ⟨aG C _,⟨am,am,am⟩⟩;refine a1 14 ?_;refine a1 15 ?_;refine aJ 16 λK hK=>?_;obtain⟨z0,z1,q9⟩:=(am:wG j (w.1.size+1) 33).o;have kt9:Bx j (w.1.size+1) 33 #[z0,z1]:=⟨q9⟩;go_simp;obtain⟨r,l⟩:=lg ((j.setCell (w.1.size+1,0) (A,n,c)).setCell (w.1.size+1,1) (B,m,d));rw[<-l];(have D:Below (World.heap C).size C r:=by rw[l];exact bA (aO C j) hz _ _);have M:∀b,b<j.1.size->b≠w.1.size+1->(World.heap r)[b]?=j.heap[b]?:=λb _ hb=>zO6;have ho:Bx r (w.1.size+1) _ #[(A,n,c),(B,m,d)]:=⟨by rw[l];exact aA.bP (Bx.ak (w:=j) (g:=w.1.size+1)) _ _⟩;have O:Bx r G 33 #[(A,n,c),(B,m,d)]:=⟨(M G (Bx.ak (w:=j) (g:=G)).lt J).trans (Bx.ak (w:=j) (g:=G))⟩;have nE:aj r C:=⟨D⟩;have P:wG r (w.1.size+1) 33:=am;have V:hA r h A n B m N:=⟨λu hk=>(am:hA j h A n B m N).o u (Kf.trans zOc hk)⟩;refine aE hK ?_ ⟨⟨D⟩,O,V,P⟩;clear hK K l;refine a1 17 ?_;refine a8 ?_;go_wp2_with fail;refine aZ (v:=.tuple #[.agg #[(A,n,c),(B,m,d)],.bool true]) ?_ rfl ⟨A,n,c,B,m,d,true,rfl,λ_=>⟨N,acw,V.o _ (Kf.refl _ _),G3,Ki⟩,?_⟩;exact zO7;exact aC
  have HNO:=U z;(have oJ:np=(bQ N).length->nx<=1000000:=λe=>by have h9:=(Ej e).2;unfold oh at h9;dsimp only at h9;rw[w7.o.1];omega);(have HOZ:Z (np=(bQ N).length->∀t∈ps,t.zs.length<=1000000):=U λe t ht=>by have h8:=UI ht;have h9:=(Ej e).1;unfold oh at h8;omega);clear z Ej hp3;refine aU C (λQ=>Bx Q G 33 #[(A,n,c),(B,m,d)]/\hA Q h A n B m N/\wG Q (w.1.size+1) 33) ap ⟨am,am,am⟩ (λj _=>?_);refine a1 0 ?_;refine a1 1 ?_;refine a1 2 ?_;refine a1 3 ?_;refine a1 4 ?_;refine aJ 5 λK hK=>?_;obtain aN5:aW j A n B m N:=(am:hA j h A n B m N).o _ (Kf.refl _ _);go_simp;refine(Db HF S).mono ?_;rintro e j ⟨rfl,_⟩;dsimp only;refine aE hK ?_ ⟨aG C _,⟨am,am,am⟩⟩;rw[nC];refine a1 6 ?_;refine a1 7 ?_;refine a1 8 ?_;refine a1 9 ?_;refine a1 10 ?_;refine a1 11 ?_;refine a1 12 ?_;refine aJ 13 λK hK=>?_;obtain afe:aW j A n B m N:=(am:hA j h A n B m N).o _ (Kf.refl _ _);go_simp;refine(Lh HF S sg HOZ oJ HNO).mono ?_;rintro e j ⟨rfl,_⟩;dsimp only;refine aE hK ?_ ⟨aG C _,⟨am,am,am⟩⟩;refine a1 14 ?_;exact zO0
end
variable{H:Type}{enc:TypeId×Value->H}{W:World}{base:Nat}{held:Bool}{v:Value}
section
open Go.RowKit Go.ChangeShapes Go.WideShapes Go.Deep
def wf_u8(h:(Lit.int .u8 z).wf=true):0<=z/\z<256:=by
 have:=bounds_u8 h;omega
def LB{x:DataW H×List MemPlace}(h:DataW.trod enc prog W base (λ_=>true) held m 22 [v]=some x):∃A c zs,v=.slice A (List.length zs) c/\Bs W A (List.length zs) zs/\zs.length<=c:=by
 rcases open_ints underlying22 underlying5 ap h with⟨u,_⟩|⟨a,l,c,zs,u,_,G,hm,E,_,e,B⟩;cases u;exact⟨none,0,[],rfl,⟨λj z y=>by simp at y,rfl⟩,al _⟩;cases u;simp only[vc]at E;refine⟨some a,c,zs.take l,by simp[E,d5 G],⟨λj z y=>?_,rfl⟩,by simp;omega⟩;have C:j<zs.length:=by have:=(bj.1 y).1;simp at this;omega
 have F:zs[j]?=some z:=by rw[ji]at y;split at y;exact y;cases y
 have D:zs.getD j 0=z:=by simp[List.getD,F]
 have r:=e j C;rw[D]at r;obtain⟨b,off,rfl⟩:=AT (show W.cell? (a.add 0)=some _ from e 0 Y);rw[add_plain]at r;exact⟨b,off,rfl,GG W _ r,r,wf_u8 (B z (aK F))⟩
def IJ{d:DataW H}{p:List MemPlace}(b:Value.okWide prog W .any m 30 v)(h:DataW.Trod enc prog W base (λ_=>true) held 30 v d p)(j:Wt 30 d):
  ∃u cb zs PA cp ps XA cx l XB dx xs pl cap,v=.agg #[.slice u (List.length zs) cb,.slice PA (List.length ps) cp,.slice XA (List.length l) cx,.slice XB (List.length xs) dx,.int .i64 pl,.int .i64 cap]/\
   Bs W u zs.length zs/\zs.length<=cb/\VC W PA cp ps/\kZ W XA cx l/\kZ W XB dx xs/\l.length<=jV/\xs.length<=jV:=by
 obtain⟨cs,rfl,y⟩:=okWide_struct underlying30 b;obtain⟨q0,I,J,K,L,q5,rfl⟩:=adZ (y.trans ap);obtain⟨G,r⟩:=h;obtain⟨_,_,z,-⟩:=Jg underlying30 r j 0 _ rfl;obtain⟨_,_,B,w1⟩:=Jg underlying30 r j 1 _ rfl;obtain⟨_,_,C,w2⟩:=Jg underlying30 r j 2 _ rfl;obtain⟨_,_,D,-⟩:=Jg underlying30 r j 3 _ rfl;obtain⟨_,_,E,-⟩:=Jg underlying30 r j 4 _ rfl;replace z:DataW.trod enc prog W base (λ_=>true) held _ 22 [q0]=some _:=z;replace B:DataW.trod enc prog W base (λ_=>true) held _ 23 [I]=some _:=B;replace C:DataW.trod enc prog W base (λ_=>true) held _ 28 [J,K]=some _:=C;replace D:DataW.trod enc prog W base (λ_=>true) held _ 3 [L]=some _:=D;replace E:DataW.trod enc prog W base (λ_=>true) held _ 3 [q5]=some _:=E;obtain⟨u,cb,zs,rfl,bs,hb⟩:=LB z;obtain⟨PA,cp,ps,rfl,M⟩:=Jf B w1;obtain⟨XA,cx,l,XB,dx,xs,e,N,i1,O,l1⟩:=yv C rfl w2;injection e with P F;injection F with F _;subst P F;obtain⟨pl,rfl,-⟩:=Aw underlying3 D;obtain⟨cap,rfl,-⟩:=Aw underlying3 E;exact⟨u,cb,zs,PA,cp,ps,XA,cx,l,XB,dx,xs,pl,cap,rfl,bs,hb,M,N,i1,O,l1⟩
end
