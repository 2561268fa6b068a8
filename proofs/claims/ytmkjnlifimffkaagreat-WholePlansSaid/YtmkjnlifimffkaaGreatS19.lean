/- Lemmas. -/
import Derived.Test.YtmkjnlifimffkaaGreatS10
import Derived.Test.YtmkjnlifimffkaaGreatS05
namespace Go.Proofs.YtmkjnlifimffkaaGreat
open Go.RowKit Tryz
set_option linter.all false
set_option maxRecDepth 100000
set_option maxHeartbeats 0
variable{Γ:Prop}
attribute[local irreducible]Calls
variable{w w':World}{b c d i j k m n:Nat}{A B:Option Addr}
structure et where
 o:ir
 ins:List Int
 P:List (List Int)
structure bm where
 dV:List Int
 nodes:List et
structure Nd where
 o:ir
 A:Option Addr
 n:Nat
 c:Nat
 I:Option Addr
 ni:Nat
 ci:Nat
 ins:List Int
 P:Option Addr
 np:Nat
 cp:Nat
 ps:List Sp
def Nd.val(x:Nd):et:=⟨x.o,x.ins,aS x.ps⟩
abbrev PQ(o:ir)(S I P:Value):List Value:=[.int .i64 o.kd,.int .i64 o.k,.int .i64 o.wd,.int .i64 o.st,.int .i64 o.sd,.int .i64 o.fr,.int .i64 o.tt,S,I,P]
structure NG(w:World)(b o:Nat)(x:Nd):Prop where
 old:b<w
 cs:∀j v,(PQ x.o (.slice x.A x.n x.c) (.slice x.I x.ni x.ci) (.slice x.P x.np x.cp))[j]?=some v->w.cell? (b,o+j)=some v
 s:Sl w x.A x.n x.o.S
 i:Sl w x.I x.ni x.ins
 p:dZ w x.P x.np x.ps
 ls:x.n<=x.c
 li:x.ni<=x.ci
 lp:x.np<=x.cp
 k6:bb x.o.k
def NG.below{o:Nat}{x:Nd}(h:NG w b o x)(hb:Below w.1.size w w'):NG w' b o x:=
 ⟨bu h.old hb.size,λj v e=>(hb.cell (p:=⟨b,o+j,none⟩) h.old).trans (h.cs j v e),⟨h.s.rd.below hb,h.s.len⟩,⟨h.i.rd.below hb,h.i.len⟩,⟨h.p.rd.below hb,h.p.len⟩,h.ls,h.li,h.lp,h.k6⟩
def ZV(w:aa)(A:bF)(xs:List Nd):Prop:=∀j x,xs[j]?=some x->∃b o,A=some ⟨b,o,none⟩/\NG w b (o+j*10) x
class aW(w:World)(A:Option Addr)(n:Nat)(B:Option Addr)(m:Nat)(N:outParam bm):Prop where
 dV:Sl w A n N.dV
 nds:∃xs,ZV w B xs/\xs.map Nd.val=N.nodes
 len:m=N.nodes
variable{N:bm}
instance(priority:=low) aW.step[p:aj w' w][h:aW w A n B m N]:aW w' A n B m N:=
 ⟨⟨h.dV.rd.below p.st,h.dV.len⟩,by
  obtain⟨xs,l,r⟩:=h.nds;exact⟨xs,λj x u=>by obtain⟨b,o,e,k⟩:=l j x u;exact⟨b,o,e,k.below p.st⟩,r⟩,h.len⟩
def aW.node(h:aW w A n B m N)(u:k<m):∃b q o e n1 c1 I ni ci ins P np cp ps,B=some ⟨b,q,none⟩/\Old b w/\
  (w.cell? (b,q+k*10)=some (.int .i64 o.kd)/\w.cell? (b,q+k*10+1)=some (.int .i64 o.k)/\w.cell? (b,q+k*10+2)=some (.int .i64 o.wd)/\w.cell? (b,q+k*10+3)=some (.int .i64 o.st)/\w.cell? (b,q+k*10+4)=some (.int .i64 o.sd)/\
   w.cell? (b,q+k*10+5)=some (.int .i64 o.fr)/\w.cell? (b,q+k*10+6)=some (.int .i64 o.tt)/\w.cell? (b,q+k*10+7)=some (.slice e n1 c1)/\w.cell? (b,q+k*10+8)=some (.slice I ni ci)/\w.cell? (b,q+k*10+9)=some (.slice P np cp))/\
  Sl w e n1 o.S/\Sl w I ni ins/\dZ w P np ps/\Le n1 c1/\Le ni ci/\Le np cp/\I6 o.k/\Hx (N.nodes[k]?=some ⟨o,ins,aS ps⟩):=by
 obtain⟨xs,r,j⟩:=h.nds;have l:k<xs:=by have:=cq List.length j;rw[bj,<-h.len]at this;omega
 obtain⟨b,q,rfl,t⟩:=r k _ (a5 l);refine⟨b,q,xs[k].o,xs[k].A,xs[k].n,xs[k].c,xs[k].I,xs[k].ni,xs[k].ci,xs[k].ins,xs[k].P,xs[k].np,xs[k].cp,xs[k].ps,rfl,⟨t.old⟩,⟨t.cs 0 _ rfl,t.cs 1 _ rfl,t.cs 2 _ rfl,t.cs 3 _ rfl,t.cs 4 _ rfl,t.cs 5 _ rfl,t.cs 6 _ rfl,t.cs 7 _ rfl,t.cs 8 _ rfl,t.cs 9 _ rfl⟩,t.s,t.i,t.p,⟨t.ls⟩,⟨t.li⟩,⟨t.lp⟩,⟨t.k6⟩,ae ?_⟩;rw[<-j,bf,a5 l];rfl
def eu(L:List Bool):Array Value:=(L.map Value.bool).toArray
def cj{L:List Bool}{v:Bool}(h:L[j]?=some v):(eu L)[j]?=some (.bool v):=by simp[eu,h]
def mM(L:List Bool)(j:Nat)(v:Bool):(eu L).setIfInBounds j (.bool v)=eu (L.set j v):=by simp[eu,tz,jJ]
def PR(n:Nat):madeCells #[.bool false] n=eu (List.replicate n false):=by
 apply pa;rw[Em];simp[eu]
def iI(N:bm)(i j:Nat)(id:Nat):Bool:=(N.nodes.take i).any (λv=>v.ins.contains (id:Int))||(((N.nodes[i]?.map (·.ins)).getD []).take j).contains (id:Int)
def hh(N:bm)(i j:Nat):List Bool:=(List.range (N.nodes.length+1)).map (iI N i j)
def bm.kc(N:bm):Prop:=∀v∈N.nodes,∀id∈v.ins,0<=id/\id<=N.nodes.length
def bm.fits(N:bm):Prop:=N.nodes.length<=100000/\N.dV.length<=100000/\∀v∈N.nodes,v.ins.length<=100000/\v.o.S.length<=100000/\v.P.length<=100000/\∀z∈v.P,z.length<=100000
def CC(N:bm):List Nat:=(List.range (N.nodes.length+1)).filter λid=>!iI N N.nodes.length 0 id
def fj(N:bm):Int:=((CC N).getLastD 0:Nat)
def qX(N:bm):Bool:=decide ((CC N).length=1)&&decide (fj N≠0)
def s8(i j:Nat):(hh N i j).length=N.nodes+1:=by simp[hh]
def Iu:hh N 0 0=List.replicate (N.nodes.length+1) false:=by
 rw[x9];refine⟨s8 0 0,λb hb=>?_⟩;obtain⟨id,_,rfl⟩:=bw.1 hb;simp[iI]
def xT2(h:Γ:=by rw[hh,bf];by_cases h:q<N.nodes.length+1;rw[ih h,ah h];rfl;rw[fc (by simpa using h),ag h];rfl):=h
def Iv{v:et}(hv:N.nodes[i]?=some v)(m:v.ins[j]?=some (k:Int)):(hh N i j).set k true=hh N i (j+1):=by
 apply fZ;intro q;rw[iD];have hq:∀q,(hh N i j)[q]?=if q<N.nodes.length+1 then some (iI N i j q)else none:=λq=>xT2;have l:(hh N i (j+1))[q]?=if q<N.nodes.length+1 then some (iI N i (j+1) q)else none:=xT2;have e:∀q,iI N i (j+1) q=(iI N i j q||decide (q=k)):=λq=>by unfold iI;rw[hv];simp only[yq,tB];rw[jC,m,List.contains_append,<-Bool.or_assoc];congr 1;simp;omega
 rw[l,s8,e];by_cases h:k=q;subst h;rw[ah rfl];by_cases b:k<N.nodes+1;rw[ah b,ah b];simp;rw[ag b,ag b];rw[ag h,hq];have:decide (q=k)=false:=by simp;omega
 rw[this,tR]
def Iw{v:et}(hv:N.nodes[i]?=some v):hh N i v.ins.length=hh N (i+1) 0:=by
 unfold hh;refine iA λq _=>?_;unfold iI;rw[hv,jC,hv];simp
def xT3(h:Γ:=by simpa[Value.cells]using this om):=h
def xT8(h:Γ:=by rw[hs];simp;omega):=h
def xT9(h:Γ:=by rw[hb];simp;omega):=h
def nE(k:Nat)(j:k<=1000000)(W:aa):(Instr.makeSlice 106 (k:Int) (k:Int)).run prog W=.ok (W,k,k) (W.alloc (.cells (eu (List.replicate k false)) 4)):=by
 obtain⟨i,hi,b⟩:=bt.1 (show(prog.info? 4).map (λi=>(i.zero,i.size,i.bytes))=some (some (.bool false),1,1)from by kernel_rfl);simp only[eP]at b;obtain⟨e,hs,hb⟩:=b;have:=lQ (P:=prog) W 106 4 i _ underlying106 hi e .i64 .i64 k k om (eI _) xT8 xT9;rw[hs]at this;rw[<-PR];exact xT3
def qb(N:bm)(k j:Nat):List Nat:=(List.range j).filter λid=>!iI N k 0 id
def T5(h:iI N k 0 j=false):qb N k (j+1)=qb N k j++[j]:=by
 unfold qb;rw[g5,yb];simp[h]
def PS(h:iI N k 0 j=true):qb N k (j+1)=qb N k j:=by
 unfold qb;rw[g5,yb];simp[h]
def xT1(h:Γ:=by simp[intOf];omega):=h
def Dt[a:aW w A n B m N](T:Hx N.fits)(hr:Hx N.kc){l:Int}{b:Bool}(K:Hx (fj N=l/\qX N=b)):() 123 #[.agg #[(A,n,c),(B,m,d)]] w (aJ w (.tuple #[l,.bool b])):=by
 obtain⟨CB,CP,FB⟩:=ia;have E:Hx (m=N.nodes):=a.len;have hm:m<=100000:=by rw[E.o];exact T.o.1
 have L:∀W:World,(Instr.makeSlice 106 ((m:Int)+1:Int) ((m:Int)+1:Int)).run prog W=.ok (.slice (some ⟨W.1.size,0,none⟩) (m+1) (m+1)) (W.alloc (.cells (eu (List.replicate (m+1) false)) 4)):=λW=>by have h:=nE (m+1) om W;rwa[ee]at h
 go_in;go_wp2_with fail;obtain⟨v,hv⟩:=lg ((w.alloc (.cells #[(A,n,c),(B,m,d)] 33)).alloc (.cells (eu (List.replicate (m+1) false)) 4));have pv:aj v w:=hv▸aF;have kN:Bx v w.1.size 33 #[(A,n,c),(B,m,d)]:=hv▸aq;have kU:az v (w.1.size+1) 4 (eu (hh N 0 0)):=by rw[Iu,<-E.o,hv];exact(aq:Bx _ (w.1.size+1) _ _).ak
 rw[<-hv];clear L hv;go_loopw [21] (λi wr=>∃k:Nat,k<=m/\i=.int .i64 k/\az wr (w.1.size+1) 4 (eu (hh N k 0))/\aj wr w) (λi _=>m-(intOf i).toNat);exact⟨0,aM _,rfl,kU,pv⟩;obtain⟨k,hk,rfl,y,hp⟩:=hrel;by_cases M:k<m
 .obtain⟨b0,q0,o,A1,n1,c1,I,ni,ci,ins,P,np,cp,ps,rfl,ob,⟨v0,v1,v2,v3,v4,v5,v6,v7,v8,v9⟩,s1,O,sp,l1,li,lp,ik,u⟩:=a.node M;(have qm:ni<=100000:=by have:=(T.o.2.2 _ (aC u.o)).1;rw[O.len];exact this);have HI:Hx (ni=ins):=O.len;go_wp2_with fail;obtain⟨x,Q⟩:=lg (wr.alloc (.cells #[o.kd,o.k,o.wd,o.st,o.sd,o.fr,o.tt,(A1,n1,c1),(I,ni,ci),(P,np,cp)] 84));have px:aj x wr:=Q▸aj.alloc _ _;have R:=y.at (w':=x);rw[<-Q];clear Q y;go_loopw [28] (λi U=>∃j:Nat,j<=ni/\i=.int .i64 j/\az U (w.1.size+1) 4 (eu (hh N k j))/\aj U w) (λi _=>ni-(intOf i).toNat);exact⟨0,aM _,rfl,R,aF⟩;obtain⟨j,hj,rfl,e,hpy⟩:=hrel;by_cases C:j<ni
  .obtain⟨b2,q2,z,rfl,jU,vz,V⟩:=O.get C;have S:=hr.o _ (aC u.o) z (aC V.o);rw[<-E.o]at S;obtain⟨q,rfl⟩:=bJ S.1;have hq:q<m+1:=om;have G:=e.cell q;rw[cj (a5 (by rw[s8,<-E.o];exact hq))]at G;have Gl:=e.frozen q;have hK:=e.av q (.bool true);rw[mM,Iv u.o V.o]at hK;have HK:=ae hK;clear hK S;go_wp2_with fail;go_roundw;exact⟨j+1,om,by go_num,HK,⟨(aP w wr).setCell (p:=⟨w.1.size+1,q,none⟩) (cz _) _⟩⟩;exact xT1
  obtain rfl:j=ni:=om;rw[HI.o,Iw u.o]at e;go_wp2_with fail;go_roundw;exact⟨k+1,om,by go_num,e,aF⟩;exact xT1
 obtain rfl:k=m:=om;go_wp2_with fail;have X:∀q,q<k+1->(eu (hh N k 0))[q]?=some (.bool (iI N k 0 q)):=λq hq=>cj (by rw[hh,bf,ih (by rw[<-E.o];exact hq)];rfl);have HQ:=ae X;clear X;go_loopw [9,10,39] (λs t i wr=>∃j:Nat,j<=k+1/\i=.int .i64 j/\s=.int .i64 ((qb N k j).getLastD 0:Nat)/\t=.int .i64 ((qb N k j).length:Nat)/\az wr (w.1.size+1) 4 (eu (hh N k 0))/\aj wr w) (λ_ _ i _=>k+1-(intOf i).toNat);exact⟨0,aM _,rfl,rfl,rfl,y,hp⟩;obtain⟨j,hj,rfl,rfl,rfl,r,hp'⟩:=hrel;by_cases C:j<k+1
 .have G:=(r.cell j).trans (HQ.o j C);(have Ly:(j:Int)<(k:Int)+1:=by omega);rcases hb:iI N k 0 j with _|_
  .have F:=ae (T5 hb);rw[hb]at G;(have hll:(qb N k j).length<=j:=by unfold qb;exact aL (List.length_filter_le _ _) aD);clear hb;go_wp2_with fail;go_roundw;exact⟨j+1,om,by go_num,by rw[F.o];simp,by rw[F.o];simp,r,aF⟩;exact xT1
  have F:=ae (PS hb);rw[hb]at G;clear hb;go_wp2_with fail;go_roundw;exact⟨j+1,om,by go_num,by rw[F.o],by rw[F.o],r,aF⟩;exact xT1
 obtain rfl:j=k+1:=om;have hu:qb N k (k+1)=CC N:=by unfold qb CC;rw[<-E.o]
 rw[hu];obtain⟨J,D⟩:=lh ((CC N).length);have hL:(((CC N).getLastD 0:Nat):Int)=l:=K.o.1;have Y:(decide (J=1)&&decide (l≠0))=b:=by rw[<-K.o.2,qX,D,K.o.1]
 rw[D,hL];have Z:=ae Y;clear D hL Y hu;by_cases c1:J=1
 .have d1:((J:Int)==1)=true:=by simp[c1]
  have HC:=ae c1;clear c1;go_wp2_with fail;go_ret2;exact⟨by rw[<-Z.o,gC HC.o];by_cases h:l=0<;>simp[h],aF⟩
 have d1:((J:Int)==1)=false:=by simp;omega
 obtain rfl:b=false:=by rw[<-Z.o,gD c1];rfl
 clear c1;go_wp2_with fail;go_ret2;exact bB
variable{g:Nat}{C:Option Addr}{ss:List Sp}{X:World}{L:List (List Int)}{ord:List Int}{T T':TypeId}{cs lW:Array Value}{E:Int}
def gR(b:List Sp):Array Value:=(b.map λx=>Value.slice x.A x.m x.c).toArray
structure pM(w:World)(g:Nat)(ss:List Sp):Prop where
 ak:az w g 25 (gR ss)
 el:∀x∈ss,Rd w x.A x.zs/\x.m=x.zs.length/\x.m<=x.c/\bG (g+1) x.A
def d8(v:et)(L:f0):List (List Int):=v.ins.map λi=>L.getD i.toNat []
def gw(N:bm):List Int->List (List Int)->Int×List (List Int)
 |[],L=>(0,L)
 |id::r,L=>
  match N.nodes[(id-1).toNat]? with
  |none=>(0,L)
  |some v=>if dr v.o v.P (d8 v L)=0 then gw N r (L.set id.toNat (cJ v.o v.P (d8 v L)))else(dr v.o v.P (d8 v L),[])
def lq(N:bm):List (List Int):=N.dV::List.replicate N.nodes.length []
structure oR(B:Nat)(A:Option Addr)(ss:List Sp):Prop where
 hd:bG B A
 el:∀x∈ss,bG B x.A
def oR.no{B:Nat}:oR B none []:=⟨bG.none,λx b=>absurd b aD⟩
def oR.less{B:Nat}(h:oR B A ss)(b:m<=B):oR m A ss:=⟨h.hd.less b,λx e=>(h.el x e).less b⟩
theorem dZ.setCell{B:Nat}{p:Addr}(h:dZ w A n ss)(f:oR B A ss)(hp:p.block<B)(v:Value):dZ (w.setCell p v) A n ss:=
 ⟨λj x l=>by
  obtain⟨b,o,rfl,hb,u,y,r,z⟩:=h.rd j x l;have e:b≠p.block:=by have:=f.hd.o _ rfl;simp at this;omega
  exact⟨b,o,rfl,by simpa using hb,(d9 (ba w p v b e)).trans u,((⟨y,r⟩:Sl w x.A x.m x.zs).setCell (f.el x (aC l)) hp v).rd,r,z⟩,h.len⟩
def NH(w:aa)(L:f0)(E:Int)(e:Ending)(w':aa):Prop:=∃A c b,e=.returned (.tuple #[.slice A L c,E])/\dZ w' A L.length b/\Le L.length c/\Hx (aS b=L)/\aj w' w/\oR w.1.size A b
variable{x:Sp}
def iP(h:ss[j]?=some x):(gR ss)[j]?=some (.slice x.A x.m x.c):=by simp[gR,h]
def Ah(j:Nat):(gR ss).setIfInBounds j (.slice x.A x.m x.c)=gR (ss.set j x):=by simp[gR,tz,jJ]
def Ix(j:Nat):aS (ss.set j x)=(aS ss).set j x.zs:=by simp[aS,jJ]
def dM:Sp:=⟨none,0,0,[]⟩
def Du(n:Nat):madeCells #[()] n=gR (List.replicate n dM):=by
 apply pa;rw[Em];simp[gR,dM]
def l3(k:Nat)(j:k<=1000000)(W:aa):(Instr.makeSlice 82 (k:Int) (k:Int)).run prog W=.ok (W,k,k) (W.alloc (.cells (gR (List.replicate k dM)) 25)):=by
 obtain⟨i,hi,b⟩:=bt.1 (show(prog.info? 25).map (λi=>(i.zero,i.size,i.bytes))=some (some (.slice none 0 0),1,24)from by kernel_rfl);simp only[eP]at b;obtain⟨e,hs,hb⟩:=b;have:=lQ (P:=prog) W 82 25 i _ underlying82 hi e .i64 .i64 k k om (eI _) xT8 xT9;rw[hs]at this;rw[<-Du];exact xT3
def pM.at(h:pM w g ss)[l:aT w w']:pM w' g ss:=⟨h.ak.at,λx b=>⟨(h.el x b).1.below l.st,(h.el x b).2⟩⟩
def pM.new(hg:az w g 25 (gR (List.replicate k dM))):pM w g (List.replicate k dM):=⟨hg,λx b=>by rw[eH b];exact⟨Rd.nil _ _,rfl,al _,bG.none⟩⟩
def pM.av(h:pM w g ss)(j:Nat)(hr:Rd w x.A x.zs)(hm:x.m=x.zs.length)(r:x.m<=x.c)(e:bG (g+1) x.A):pM (w.setCell (g,j) (.slice x.A x.m x.c)) g (ss.set j x):=by
 have aY:∀{A:bF} {zs:au},Rd w A zs->bG (g+1) A->Rd (w.setCell (g,j) (.slice x.A x.m x.c)) A zs:=λ{A zs} hr e=>
  ((⟨hr,rfl⟩:Sl w A zs zs).setCell (p:=⟨g,j,none⟩) e (o9 g) _).rd
 refine⟨by rw[<-Ah];exact h.ak.av _ _,λy l=>?_⟩;rcases hA l with l|rfl;obtain⟨a,b,c,d⟩:=h.el y l;exact⟨aY a d,b,c,d⟩;exact⟨aY hr e,hm,r,e⟩
theorem pM.PT(h:pM w g ss):dZ w g ss.length ss:=
 ⟨λj x b=>⟨g,0,rfl,h.ak.lt,by rw[cf,h.ak.cell,iP b],(h.el x (aC b)).1,(h.el x (aC b)).2.1,(h.el x (aC b)).2.2.1⟩,rfl⟩
def Iy(ts:List Sp){n:Nat}(b:ts=j)(h:j<n):(gR (ts++List.replicate (n-j) dM)).setIfInBounds j (.slice x.A x.m x.c)=gR ((ts++[x])++List.replicate (n-(j+1)) dM):=by
 rw[Ah,show n-j=(n-(j+1))+1 from om,jA,lA _ _ om,b,fe,iS];simp
def aE{Q:World->Prop}(h:∀u,aj u X->Bx u X.1.size T cs->Q u):Q (X.alloc (.cells cs T)):=h _ (aF) aq
def dg{Q:World->Prop}(h:∀u,aj u X->Bx u X.1.size T cs->Bx u (X.1.size+1) T' lW->Q u):Q ((X.alloc (.cells cs T)).alloc (.cells lW T')):=h _ (aF) aq aq
def pN{Q:World->Prop}(h:∀b u,aj b X->aj u b->Bx b X.1.size T cs->b.1.size<=X.1.size+1->Bx u (X.1.size+1) T' lW->Q u):Q ((X.alloc (.cells cs T)).alloc (.cells lW T')):=
 h (X.alloc (.cells cs T)) _ (aF) (aF) aq aD aq
def xTa(h:Γ:=by assumption):=h
def aaU[a:aW w A n B m N](O:Hx N.fits)(hr:Hx N.kc)[so:Sl w C k ord](hk:k<=100000)(ho:Hx (∀id∈ord,1<=id/\id<=m)){L:f0}(hL:Hx (gw N ord (lq N)=(E,L))):
  () 122 #[.agg #[(A,n,c),(B,m,d)],(C,k,g)] w (NH w L E):=by
 obtain⟨CB,CP,FB⟩:=ia;have HM:Hx (m=N.nodes):=a.len;have hm:m<=100000:=by rw[HM.o];exact O.o.1
 have sI:=a.dV;have hn:n<=100000:=by rw[sI.len];exact O.o.2.1
 have la:∀W:World,(Instr.makeSlice 82 ((m:Int)+1:Int) ((m:Int)+1:Int)).run prog W=.ok (.slice (some ⟨W.1.size,0,none⟩) (m+1) (m+1)) (W.alloc (.cells (gR (List.replicate (m+1) dM)) 25)):=λW=>by have h:=l3 (m+1) om W;rwa[ee]at h
 have HK:Hx (k=ord):=so.len;go_in;go_upto_region 1 with fail;refine aE (λb _ k0=>?_);go_wp2_with (first|(go_at_call 103;refine(k3 om).mono ?_;rintro e u ⟨gS,rfl,sS,fS,_⟩));obtain⟨v,hv⟩:=lg (u.setCell (b.1.size,0) (.slice gS N.dV.length N.dV.length));have U:pM u b.1.size (List.replicate (m+1) dM):=pM.new (Bx.ak (w:=u) (g:=b.1.size));have Q:=U.av (x:=⟨some ⟨gS,0,none⟩,N.dV.length,N.dV.length,N.dV⟩) 0 sS.rd rfl (al _) (fS.less (Bx.ak (g:=b.1.size)).lt);have pv:aj v b:=⟨hv▸(aP b u).setCell (p:=⟨b.1.size,0,none⟩) (al _) _⟩;rw[<-hv]at Q⊢;have V:pM v b.1.size (⟨some ⟨gS,0,none⟩,N.dV.length,N.dV.length,N.dV⟩::List.replicate m dM):=Q;have X:aS (⟨some ⟨gS,0,none⟩,N.dV.length,N.dV.length,N.dV⟩::List.replicate m dM)=lq N:=by simp[aS,lq,HM.o,dM]
 have Y:∀z∈lq N,z.length<=100000:=λz hz=>by rcases cw.1 hz with rfl|hz;exact O.o.2.1;rw[eH hz];simp
 have Yr:=ae Y;have Z:=ae X;clear U Q hv la X Y sS fS;go_loopw [27] (λi wr=>∃(j:Nat) (ss:List Sp),j<=k/\i=.int .i64 j/\Hx (ss=m+1)/\pM wr b.1.size ss/\Hx (gw N (ord.drop j) (aS ss)=(E,L))/\Hx (∀z∈aS ss,z.length<=100000)/\aj wr b) (λi _=>k-(intOf i).toNat);exact⟨0,_,aM _,rfl,ae aD,V,by rw[Z.o];exact hL,by rw[Z.o];exact Yr,pv⟩;clear V pv;obtain⟨j,ss,T,rfl,F,R,HLJ,Iz,hp⟩:=hrel;by_cases bE:j<k
 .obtain⟨b9,q9,id,rfl,T6,v9,Ai⟩:=so.get bE;obtain⟨Gm,Gn⟩:=ho.o id (aC Ai.o);obtain⟨t,ht⟩:=bJ (show 0<=id-1 by omega);(obtain rfl:id=(t:Int)+1:=by omega);have Aj:t<m:=om;(have w2:(t:Int)+1-1=t:=by omega);obtain⟨b0,q0,o,A1,n1,c1,I,ni,ci,ins,P,np,cp,ps,rfl,ob,⟨v0,v1,v2,v3,v4,v5,v6,v7,v8,Lz⟩,s1,si,sp,l1,li,lp,ik,r⟩:=a.node Aj;(have qm:ni<=100000:=by have:=(O.o.2.2 _ (aC r.o)).1;rw[si.len];exact this);have HI:Hx (ni=ins):=si.len;have Ak:=l3 ni om;clear ht Gm Gn;go_wp2_with fail;obtain⟨v1,rfl⟩:=lg wr;refine pN (λx0 x _ _ kx hzx M=>?_);have hSx:=R.at (w':=x0);have S:Hx (∀(q:Nat) (z:Int),ins[q]?=some z->ins.take (q+1)=ins.take q++[z]):=λq z h=>take_at h;go_loopw [44] (λi wy=>∃(q:Nat) (ts:List Sp),q<=ni/\i=.int .i64 q/\Hx (ts.length=q/\aS ts=(ins.take q).map λi=>(aS ss).getD i.toNat [])/\az wy (v1.1.size+1) 25 (gR (ts++List.replicate (ni-q) dM))/\Hx (∀y∈ts,y∈ss)/\aj wy x0) (λi _=>ni-(intOf i).toNat);exact⟨0,[],aM _,rfl,ae ⟨rfl,rfl⟩,by simpa using M.ak,ae aD,aF⟩;clear M;obtain⟨q,ts,hq,rfl,l,M,G,sZ⟩:=hrel;have D:=hSx.at (w':=wr);by_cases LA:q<ni
  .obtain⟨b2,q2,z,rfl,jU,vz,ez⟩:=si.get LA;have hz:=hr.o _ (aC r.o) z (aC ez.o);rw[<-HM.o]at hz;obtain⟨y,rfl⟩:=bJ hz.1;have hy:y<m+1:=om;obtain⟨⟨A3,m3,c3,z3⟩,he⟩:∃e0,ss[y]?=some e0:=⟨_,a5 (by rw[F.o];exact hy)⟩;have xD:=(D.ak.cell y).trans (iP he);have E4:=M.cell q;rw[show(gR (ts++List.replicate (ni-q) dM))[q]?=some (.slice none 0 0)from by
    rw[iP (x:=dM)]
    .rfl
    .rw[eE (by rw[l.o.1];exact al _),l.o.1,fe,jy,ah om]]at E4
   have Gl:=M.frozen q;have hK:=M.av q (A3,m3,c3);rw[Iy (x:=⟨A3,m3,c3,z3⟩) ts l.o.1 LA]at hK;have m5:=ae hK;have l2:Hx ((ts++[(⟨A3,m3,c3,z3⟩:Sp)]).length=q+1/\aS (ts++[(⟨A3,m3,c3,z3⟩:Sp)])=(ins.take (q+1)).map λi=>(aS ss).getD i.toNat []):=ae (by
    refine⟨by simp[l.o.1],?_⟩;rw[S.o q _ ez.o,c9,<-l.o.2];simp only[aS,c9,di,jz];congr 2;rw[aZ,aQ,bf,he];rfl)
   have T7:Hx (∀y∈ts++[(⟨A3,m3,c3,z3⟩:Sp)],y∈ss):=λy hy=>by rcases bM.1 hy with h|h;exact G.o y h;rw[cZ.1 h];exact aC he
   clear hK hz he l G;go_wp2_with fail;go_roundw;exact⟨q+1,_,om,by go_num,l2,m5,T7,⟨(aP x0 wr).setCell (p:=⟨v1.1.size+1,q,none⟩) hzx _⟩⟩;exact xT1
  obtain rfl:q=ni:=om;have HX:Hx (aS ts=d8 ⟨o,ins,aS ps⟩ (aS ss)):=ae (by rw[l.o.2,HI.o,dR];rfl);have xT:dZ wr (v1.1.size+1:Nat) q ts:=⟨λj x T=>by
   obtain⟨h1,h2,h3,_⟩:=D.el x (G.o x (aC T));exact⟨v1.1.size+1,0,rfl,M.lt,by rw[cf,M.cell,iP (x:=x) (by rw[lK (a8.1 T).1];exact T)],h1,h2,h3⟩,l.o.1.symm⟩
  have eZ:Hx (∀z∈aS ps++aS ts,z.length<=1000000):=λz hz=>by rcases bM.1 hz with h|h;have:=(O.o.2.2 _ (aC r.o)).2.2.2 z h;omega;obtain⟨y,hy,rfl⟩:=bw.1 h;have:=Iz.o y.zs (bw.2 ⟨y,G.o y hy,rfl⟩);omega
  have CD:np<=100000:=by have:=(O.o.2.2 _ (aC r.o)).2.2.1;rw[cX]at this;rw[sp.len];exact this
  have qk:n1<=100000:=by have:=(O.o.2.2 _ (aC r.o)).2.1;rw[s1.len];exact this
  obtain⟨V1,J⟩:=kS (cJ o (aS ps) (aS ts));obtain⟨E1,K⟩:=kS (dr o (aS ps) (aS ts));have HD:Hx (ord.drop j=((t:Int)+1)::ord.drop (j+1)):=ae (by
   obtain⟨h1,h2⟩:=a8.1 Ai.o;rw[<-h2];exact ed h1)
  have HS:Hx ((if E1=0 then gw N (ord.drop (j+1)) ((aS ss).set (t+1) V1)else(E1,[]))=(E,L)):=ae (by
   have h:=HLJ.o;rw[HD.o,gw,show((t:Int)+1-1).toNat=t from om,r.o]at h;simp only at h;rw[<-HX.o,K.o,J.o,show((t:Int)+1).toNat=t+1 from om]at h;exact h)
  have lt1:t+1<m+1:=om;obtain⟨e5,he5⟩:∃e0,ss[t+1]?=some e0:=⟨_,a5 (by rw[F.o];exact lt1)⟩;have CE:=(D.ak.cell (t+1)).trans (iP he5);have T8:=D.ak.frozen (t+1);have og:Old b.1.size wr:=⟨D.ak.lt⟩;have FP:=@jN;clear he5;by_cases h0:E1=0
  .subst h0;have Al:Hx (gw N (ord.drop (j+1)) ((aS ss).set (t+1) V1)=(E,L)):=HS;(have HVl:Hx (∀z∈(aS ss).set (t+1) V1,z.length<=100000):=λz hz=>by rcases hA hz with h|rfl;exact Iz.o z h;have:=cG (by rw[<-J.o];exact lj K:aA z=true);omega);have lw:(World.heap b).size+1<=(World.heap wr).size:=og.lt;go_wp2_with (go_at_call 74;refine(ma om om om xTa J K).mono ?_;rintro e u ⟨A',c',rfl,sJ,lJ,fJ,_⟩);have T9:=(D.at (w':=u)).av (x:=⟨A',V1.length,c',V1⟩) (t+1) sJ.rd rfl lJ.le (fJ.less lw);go_roundw;exact⟨j+1,_,om,by go_num,ae (by rw[d3];exact F),T9,by rw[Ix];exact Al,by rw[Ix];exact HVl,⟨(aP b u).setCell (p:=⟨b.1.size,t+1,none⟩) (al _) _⟩⟩;exact xT1
  have b0:(E1 !=0)=true:=by simp[h0]
  obtain⟨rfl,rfl⟩:E1=E/\[]=L:=by have h:=HS.o;rw[ag h0]at h;exact eQ h
  clear h0;go_wp2_with (go_at_call 74;refine(ma om om om xTa J K).mono ?_;rintro e u ⟨A',c',rfl,sJ,lJ,fJ,_⟩);go_ret2;exact⟨none,0,[],rfl,⟨λj x T=>by simp at T,rfl⟩,Le.same _,ae rfl,aF,oR.no⟩
 have HE:Hx ((0,aS ss)=(E,L)):=ae (by have h:=HLJ.o;rw[eF (by rw[<-HK.o];omega)]at h;exact h);obtain⟨rfl,rfl⟩:=eQ HE;go_wp2_with fail;go_ret2;have hl:(aS ss).length=m+1:=by rw[cX,F.o]
 exact⟨some ⟨b.1.size,0,none⟩,m+1,ss,by rw[hl];rfl,by rw[cX];exact R.PT,⟨ei hl⟩,ae rfl,aF,⟨λad e=>by cases e;exact ai (w:=w) (w':=b)⟩,λx hx=>(R.el x hx).2.2.2.less (by have:=ai (w:=w) (w':=b);omega)⟩
variable{id y:Int}
def bm.ids(N:bm):List Int:=(List.range N.nodes.length).map λ(i:Nat)=>(i:Int)+1
def bS(N:bm)(v:Int):List Int:=(N.nodes[(v-1).toNat]?.map (·.ins)).getD []
def jq(N:bm)(D:au)(v:Int):Nat:=(bS N v).countP λz=>z !=0&& !D.contains z
def Dv(N:bm)(id v:Int):Nat:=(bS N v).count id
def kO(N:bm)(D:au)(v:Int):Bool:=!D.contains v&&decide (jq N D v=0)
def fV(N:bm)(D:au):List Int:=N.ids.filter (kO N D)
def iv(N:bm)(id:Int):List Int:=N.ids.flatMap λv=>List.replicate (Dv N id v) v
def nF(N:bm):Nat->List Int->List Int
 |0,D=>D
 |f+1,D=>
  match fV N D with
   |[]=>D
   |v::_=>nF N f (D++[v])
def eL(N:bm):List Int:=nF N N.nodes.length []
def fN(N:bm)(D U:au)(v:Int):Nat:=jq N D v-U.count v
def Am(N:bm)(D:au)(id:Int)(U:au)(v:Int):Bool:=!(D++[id]).contains v&&decide (fN N D U v=0)
def j0(N:bm)(D:au)(id:Int)(U:au):List Int:=N.ids.filter (Am N D id U)
section
variable{D U L:List Int}{v:Int}
def bn:v∈N.ids↔1<=v/\v<=N.nodes:=by
 unfold bm.ids;rw[bw];constructor;rintro⟨i,hi,rfl⟩;rw[iU]at hi;omega;intro h;exact⟨(v-1).toNat,by rw[iU];omega,om⟩
def nG:N.ids.Pairwise (· < ·):=by
 unfold bm.ids;rw[List.pairwise_map];exact List.pairwise_lt_range.imp λh=>om
def vO:∀{D L:au},D.Nodup->(∀x∈D,x∈L)->D.length<=L.length
 |[],_,_,_=>aM _
 |x::t,L,h,hs=>by rw[sE]at h;have j:=vO (L:=L.erase x) h.2 λy b=>(List.mem_erase_of_ne (λe:y=x=>h.1 (e▸b))).2 (hs y (dp _ b));have:=MN (hs x cm);have hp:0<L.length:=MQ (hs x cm);simp;omega
def mN:N.ids.length=N.nodes.length:=by simp[bm.ids]
def Dw(D:au)(id z:Int):(D++[id]).contains z=(D.contains z||z==id):=by
 rw[tN];simp
def vP(l:id≠0)(m:id∉D):jq N (D++[id]) v+Dv N id v=jq N D v:=by
 unfold jq Dv;induction bS N v with
 |nil=>rfl
 |cons z t r=>rw[List.countP_cons,List.countP_cons,List.count_cons];rw[Dw];by_cases j:z=id;subst j;(have b:D.contains z=false:=by simpa using m);rw[b];simp[l]at r⊢;omega;(have e:(z==id)=false:=by simpa using j);rw[e,tR];simp only[Bool.false_eq_true,if_false,ef];omega
def wV:∀(L:au) (f:Int->Nat),L.Nodup->v∈L->(L.flatMap λx=>List.replicate (f x) x).count v=f v
 |[],_,_,h=>absurd h aD
 |x::t,f,b,h=>by rw[sE]at b;rw[g6,tH,List.count_replicate];by_cases e:x=v;subst e;(have:(t.flatMap λx=>List.replicate (f x) x).count x=0:=List.count_eq_zero.2 λhm=>by obtain⟨y,j,hm⟩:=jI.1 hm;rw[eH hm]at b;exact b.1 j);rw[this];simp;(have hv:v∈t:=by rcases cw.1 h with h|h;exact absurd h.symm e;exact h);rw[wV t f b.2 hv,ag (by simpa using e)];omega
def LB:N.ids.Nodup:=nG.imp λh=>om
def uD(hv:v∈N.ids):(iv N id).count v=Dv N id v:=wV _ _ LB hv
def LC(h:v∈iv N id):v∈N.ids/\0<Dv N id v:=by
 obtain⟨x,b,hm⟩:=jI.1 h;have e:=eH hm;subst e;exact⟨b,by exact Nat.pos_of_ne_zero λh=>by rw[h]at hm;simp at hm⟩
def Dx(b:id≠0)(e:id∉D)(hv:v∈N.ids):fN N D (iv N id) v=jq N (D++[id]) v:=by
 rw[fN,uD hv,<-vP (N:=N) (v:=v) b e];omega
def PU(b:id≠0)(e:id∉D):j0 N D id (iv N id)=fV N (D++[id]):=by
 unfold j0 fV;refine ry λv hv=>?_;rw[Am,kO,Dx b e hv]
def uE{p:Int->Bool}:∀{L:au} {x:Int} {t:au},L.Pairwise (· < ·)->L.filter p=x::t->(L.filter λv=>p v&&v !=x)=t
 |[],_,_,_,h=>by simp at h
 |z::l,x,t,hs,h=>by rw[iE]at hs;by_cases hp:p z=true;rw[xX hp]at h;injection h with b e;subst b;rw[rq aD,<-e];(exact ry λv hv=>by have:=hs.1 v hv;(have:(v !=z)=true:=by simp;omega);rw[this,Bool.and_true]);rw[rq hp]at h;rw[rq (by simp[hp])];exact uE hs.2 h
def IA{t:au}(h:fV N D=id::t):j0 N D id []=t:=by
 rw[<-uE nG h];unfold j0;refine ry λv _=>?_;rw[Am,kO,fN];rw[Dw];simp only[yk,yo,Bool.not_or];rw[show(v !=id)=!(v==id)from rfl];cases D.contains v<;>cases (v==id)<;>simp<;>rfl
def wW{p:Int->Bool}:∀{L:au},L.Pairwise (· < ·)->y∈L->p y=false->
  (L.filter λv=>p v||v==y)=(L.filter p).take ((L.filter p).countP (· <y))++y::(L.filter p).drop ((L.filter p).countP (· <y))
 |[],_,h,_=>absurd h aD
 |x::t,hs,r,hp=>by rw[iE]at hs;by_cases e:x=y;subst e;rw[xX aD,rq (by simp[hp])];(have u:(t.filter p).countP (· <x)=0:=by rw[ya];intro a z;have:=hs.1 a (rx.1 z).1;simp;omega);rw[u];simp only[dW,jE,fo];congr 1;(exact ry λv hv=>by have:=hs.1 v hv;(have:(v==x)=false:=by simp;omega);rw[this,tR]);(have b:y∈t:=by rcases cw.1 r with h|h;exact absurd h.symm e;exact h);have l:=hs.1 y b;have m:=wW hs.2 b hp;(have ex:(x==y)=false:=by simpa using e);by_cases j:p x=true;rw[xX (by simp[j]),xX j,MP (by simpa using l),m];simp;rw[rq (by simp[j,ex]),rq j,m]
def mO(b:U.count y<jq N D y):fN N D (U++[y]) v=if v=y then fN N D U y-1 else fN N D U v:=by
 unfold fN;rw[tH,Ew];by_cases h:v=y;subst h;simp;omega;rw[ag h,ag (by simpa using λe:y=v=>h e.symm)];simp
def CG(b:U.count y<jq N D y)(h:fN N D U y≠1):j0 N D id (U++[y])=j0 N D id U:=by
 unfold j0;refine ry λv _=>?_;unfold Am;rw[mO b];by_cases e:v=y;subst e;have:fN N D U v≠0:=by unfold fN;omega
 rw[ah rfl,gD om,gD this];rw[ag e]
def An(b:U.count y<jq N D y)(h:fN N D U y=1)(j:y∈N.ids)(l:y∉D++[id]):
  j0 N D id (U++[y])=(j0 N D id U).take ((j0 N D id U).countP (· <y))++y::(j0 N D id U).drop ((j0 N D id U).countP (· <y)):=by
 have hp:Am N D id U y=false:=by unfold Am;rw[h];simp
 unfold j0;rw[<-wW nG j hp];refine ry λv _=>?_;unfold Am;rw[mO b];by_cases e:v=y;subst e;rw[ah rfl,h];simpa using l;rw[ag e];have:(v==y)=false:=by simpa using e
 rw[this,tR]
def Gp:(j0 N D id U).Pairwise (· <= ·):=(nG.imp λh=>by omega).sublist List.filter_sublist
end
variable{c' q:Nat}{A' D:Option Addr}{z:Int}{zs:List Int}
structure Ur where
 A:Option Addr
 c:Nat
 zs:List Int
def vQ(b:List Ur):Array Value:=(b.map λx=>Value.slice x.A x.zs.length x.c).toArray
structure s9(w:World)(B g:Nat)(US:List Ur):Prop where
 ak:az w g 24 (vQ US)
 own:∀x∈US,aB w B 3 x.A x.c x.zs
 oT:∀(i j:Nat) (x y:Ur),US[i]?=some x->US[j]?=some y->i≠j->∀a b,x.A=some a->y.A=some b->a.block≠b.block
def sy:Ur:=⟨none,0,[]⟩
variable{B:Nat}{US:List Ur}{x:Ur}
def Ao(h:US[j]?=some x):(vQ US)[j]?=some (.slice x.A x.zs.length x.c):=by simp[vQ,h]
def Ua(j:Nat):(vQ US).setIfInBounds j (.slice x.A x.zs.length x.c)=vQ (US.set j x):=by simp[vQ,tz,jJ]
def PV(n:Nat):madeCells #[()] n=vQ (List.replicate n sy):=by
 apply pa;rw[Em];simp[vQ,sy]
def s9.at(h:s9 w B g US)[l:aT w w']:s9 w' B g US:=⟨h.ak.at,λx b=>(h.own x b).keep l.st,h.oT⟩
def s9.new(h:az w g 24 (vQ (List.replicate k sy))):s9 w B g (List.replicate k sy):=
 ⟨h,λx e=>by rw[eH e];exact aB.nil _ _ _,λi j x y hi _ _ a _ b=>by
  rw[eH (aC hi)]at b;cases b⟩
def aB.eU{p:Addr}(h:aB w B 3 A c zs)(hp:∀b,A=some b->b.block≠p.block)(v:Value):aB (w.setCell p v) B 3 A c zs:=
 h.same λb e=>ba w p v _ (hp b e)
def aB.jt(h:aB w B 3 A c zs)(m:dm C D w w')(b:∀a a',A=some a->C=some a'->a'.block≠a.block):aB w' B 3 A c zs:=
 h.same λl e=>m.off _ (h.lt l e) λj r=>b l j e r
def s9.push(h:s9 w B g US)(C:US[i]?=some x)(J:aB w' B 3 A' c' (x.zs++[y]))(D:dm x.A A' w w'):
  s9 (w'.setCell (g,i) (.slice A' (x.zs++[y]).length c')) B g (US.set i ⟨A',c',x.zs++[y]⟩):=by
 have E:=aC C;have hg:az w' g 24 (vQ US):=D.ak h.ak ((h.own x E).aH h.ak am);refine⟨?_,λz u=>?_,λi1 K x1 L hi l F a b r hb=>?_⟩;have:=hg.av i (.slice A' (x.zs++[y]).length c');rwa[Ua (x:=⟨A',c',x.zs++[y]⟩)]at this
 .obtain⟨j,l⟩:=eN u;rw[iD]at l;split at l
  .split at l;cases l;exact J.eU (λG e=>J.aH hg am G e) _;cases l
  rename_i m;have M:=(h.own z (aC l)).jt D λa a' P I=>h.oT i j x z C l m a' a I P;exact M.eU (λG e=>M.aH hg am G e) _
 have key:∀(j:Nat) (z:Ur),US[j]?=some z->i≠j->∀a b,A'=some a->z.A=some b->a.block≠b.block:=λj z u m a b r hb=>by rcases D.new a r with⟨a0,Q,O⟩|tx;rw[O];exact h.oT i j x z C u m a0 b Q hb;have:=(h.own z (aC u)).lt b hb;omega
 rw[iD]at hi l;split at hi
 .rename_i O;split at hi;cases hi;rw[ag om]at l;exact key K L l om a b r hb;cases hi
 split at l
 .rename_i R;split at l;cases l;exact λe=>key i1 x1 hi om b a hb r e.symm;cases l
 exact h.oT i1 K x1 L hi l F a b r hb
def dT(N:bm)(i:Nat):List Int:=(N.nodes[i]?.map (·.ins)).getD []
def wT(N:bm)(i j:Nat):List Int:=(0:Int)::(List.range N.nodes.length).map λq=>(((if q<i then dT N q else if q=i then(dT N q).take j else[]).countP (· !=0):Nat):Int)
def uT(N:bm)(i j:Nat)(id:Nat):List Int:=if id=0 then[]else((List.range i).flatMap λ(q:Nat)=>List.replicate ((dT N q).count (id:Int)) ((q:Int)+1))++List.replicate (((dT N i).take j).count (id:Int)) ((i:Int)+1)
def l5(N:bm)(i j:Nat):List (List Int):=(List.range (N.nodes.length+1)).map (uT N i j)
def Gq(i j:Nat):(wT N i j).length=N.nodes+1:=by simp[wT]
def Ub:wT N 0 0=List.replicate (N.nodes.length+1) 0:=by
 rw[wT,jA];congr 1;rw[x9];refine⟨aD,λb hb=>?_⟩;obtain⟨q,_,rfl⟩:=bw.1 hb;simp only[lL,if_false,dW];split<;>simp
def PX:l5 N 0 0=List.replicate (N.nodes.length+1) []:=by
 rw[x9];refine⟨by simp[l5],λb hb=>?_⟩;obtain⟨q,_,rfl⟩:=bw.1 hb;simp[uT]
def yC{i:Nat}(hq:q<N.nodes):(wT N i j)[q+1]?=some (((if q<i then dT N q else if q=i then(dT N q).take j else[]).countP (· !=0):Nat):Int):=by
 rw[wT,o5,bf,ih hq];rfl
def mP{L:au}(h:L[j]?=some z):L.take (j+1)=L.take j++[z]:=take_at h
def IB{i:Nat}(hi:i<N.nodes)(l:(dT N i)[j]?=some z):wT N i (j+1)=if z=0 then wT N i j else(wT N i j).set (i+1) (((((dT N i).take j).countP (· !=0):Nat):Int)+1):=by
 have ht:=mP l;have hg:∀q,q≠i->(if q<i then dT N q else if q=i then(dT N q).take (j+1)else[])=(if q<i then dT N q else if q=i then(dT N q).take j else[]):=λq hq=>by rw[ag hq,ag hq]
 split;rename_i b;unfold wT;congr 1;refine iA λq _=>?_;by_cases e:q=i;subst e;rw[ag (o8 _),ah rfl,ag (o8 _),ah rfl,ht,ED,b];simp;rw[hg q e];rename_i b;apply fZ;intro q;rw[iD,Gq];by_cases e:i+1=q;subst e;rw[ah rfl,ah om,yC hi,ag (o8 _),ah rfl,ht,ED];simp[b]
 .rw[ag e];cases q with
  |zero=>rfl
  |succ q=>by_cases hq:q<N.nodes.length;rw[yC hq,yC hq,hg q om];rw[fc (by rw[Gq];omega),fc (by rw[Gq];omega)]
def Uc{i:Nat}:wT N i (dT N i).length=wT N (i+1) 0:=by
 unfold wT;congr 1;refine iA λq _=>?_;by_cases h:q<i;rw[ah h,ah om];rw[ag h];by_cases e:q=i;subst e;rw[ah rfl,ah om,dR];rw[ag e,ag om];split<;>simp
def Ud{i:Nat}{z:Nat}(b:z≠0)(l:(dT N i)[j]?=some (z:Int))(q:Nat):uT N i (j+1) q=if q=z then uT N i j z++[(i:Int)+1]else uT N i j q:=by
 unfold uT;rw[mP l,tH,Ew];by_cases e:q=z;subst e;rw[ag b,ah rfl,ag b,ah aD,<-List.replicate_append_replicate,eO];rfl;rw[ag e];have:((z:Int)==(q:Int))=false:=by simp;omega
 rw[this];rfl
def PY{i:Nat}{z:Nat}(b:z≠0)(l:(dT N i)[j]?=some (z:Int)):l5 N i (j+1)=(l5 N i j).set z (uT N i j z++[(i:Int)+1]):=by
 apply fZ;intro q;rw[iD];have hq:∀j,(l5 N i j)[q]?=if q<N.nodes+1 then some (uT N i j q)else none:=λj=>by rw[l5,bf];by_cases h:q<N.nodes+1;rw[ih h,ah h];rfl;rw[fc (by simpa using h),ag h];rfl
 rw[hq,hq,Ud b l];have m:(l5 N i j).length=N.nodes.length+1:=by simp[l5]
 rw[m];by_cases e:z=q;subst e;rw[ah rfl,ah rfl];have r:¬q=z:=λh=>e h.symm;simp only[ag e,ag r]
def PZ{i:Nat}(e:(dT N i)[j]?=some 0):l5 N i (j+1)=l5 N i j:=by
 unfold l5;refine iA λq _=>?_;unfold uT;by_cases b:q=0;rw[ah b,ah b];rw[ag b,ag b,mP e,tH,Ew];have:((0:Int)==(q:Int))=false:=by simp;omega
 rw[this];rfl
def P0{i:Nat}:l5 N i (dT N i).length=l5 N (i+1) 0:=by
 unfold l5;refine iA λq _=>?_;unfold uT;rw[dR,g5,jG];simp
variable{p wr:World}{B:Option Addr}{R f:Nat}{L' V:List Int}
section
def s9.aY{w:aa}{B:Nat}(h:s9 w B g US){p:Addr}(hp:p.block≠g)(l:p.block<B)(v:Value):s9 (w.setCell p v) B g US:=
 ⟨h.ak.aY (λe=>hp e.symm) v,λx b=>(h.own x b).eU (λj e=>by have:=(h.own x b).fresh j e;omega) v,h.oT⟩
def bm.small(N:bm):Prop:=N.nodes.length<=1000/\∀v∈N.nodes,v.ins.length<=1000
def ta(h:N.small)(i:Nat):(dT N i).length<=1000:=by
 unfold dT;rcases hv:N.nodes[i]? with _|v;simp;exact h.2 v (aC hv)
def NI(h:N.small)(i j z:Nat):(uT N i j z).length<=i*1000+1000:=by
 unfold uT;split;simp;have l:((dT N i).take j).count (z:Int)<=1000:=aL List.count_le_length (by have:=ta h i;simp;omega);have b:∀k,((List.range k).flatMap λ(q:Nat)=>List.replicate ((dT N q).count (z:Int)) ((q:Int)+1)).length<=k*1000:=λk=>by
  induction k with
  |zero=>simp
  |succ k e=>rw[g5,jG,bh];have:(dT N k).count (z:Int)<=1000:=aL List.count_le_length (ta h k);simp at e⊢;omega
 have:=b i;rw[bh,eY];omega
def LD(k:Nat)(j:k<=1000000)(W:aa):(Instr.makeSlice 105 (k:Int) (k:Int)).run prog W=.ok (W,k,k) (W.alloc (.cells (vQ (List.replicate k sy)) 24)):=by
 obtain⟨i,hi,b⟩:=bt.1 (show(prog.info? 24).map (λi=>(i.zero,i.size,i.bytes))=some (some (.slice none 0 0),1,24)from by kernel_rfl);simp only[eP]at b;obtain⟨e,hs,hb⟩:=b;have:=lQ (P:=prog) W 105 24 i _ underlying105 hi e .i64 .i64 k k om (eI _) xT8 xT9;rw[hs]at this;rw[<-PV];exact xT3
def kz(k:Nat)(j:k<=1000000)(W:aa):(Instr.makeSlice 24 (k:Int) (k:Int)).run prog W=.ok (W,k,k) (W.alloc (.cells (ints (List.replicate k 0)) 3)):=by
 obtain⟨i,hi,b⟩:=bt.1 (show(prog.info? 3).map (λi=>(i.zero,i.size,i.bytes))=some (some (.int .i64 0),1,8)from by kernel_rfl);simp only[eP]at b;obtain⟨e,hs,hb⟩:=b;have:=lQ (P:=prog) W 24 3 i _ underlying24 hi e .i64 .i64 k k om (eI _) xT8 xT9;rw[hs]at this;rw[<-kj];exact xT3
def vR(zs:f0)(b:List Ur):Prop:=b.map Ur.zs=zs
def vR.len(h:vR (l5 N i j) US):US=N.nodes.length+1:=by
 have:=cq List.length h;simpa[l5]using this
def vR.get{z:Nat}(h:vR (l5 N i j) US)(b:z<N.nodes+1):∃x,US[z]?=some x/\x.zs=uT N i j z:=by
 have e:=h.len;refine⟨US[z]'om,a5 _,?_⟩;have:=cq (·[z]?) h;simp only[bf,l5,ih b]at this;rw[a5 om]at this;simpa using this
def vR.step{z:Nat}{A:bF}{c:Nat}(h:vR (l5 N i j) US)(b:z≠0)(l:(dT N i)[j]?=some (z:Int))(e:zs=uT N i j z++[(i:Int)+1]):vR (l5 N i (j+1)) (US.set z ⟨A,c,zs⟩):=by
 unfold vR at h⊢;rw[jJ,h,PY b l,e]
def h2(N:bm)(D U:au):List Int:=(0:Int)::N.ids.map λv=>((fN N D U v:Nat):Int)
def Ap(h:j<N.nodes):N.ids[j]?=some ((j:Int)+1):=by
 rw[bm.ids,bf,ih h];rfl
def Ys:wT N N.nodes.length 0=h2 N [] []:=by
 unfold wT h2 bm.ids;rw[lT];congr 1;refine iA λq hq=>?_;rw[iU]at hq;rw[ah hq];simp only[Function.comp,fN,jq,bS,dT,yk,yo];rw[show((q:Int)+1-1).toNat=q from om];simp
def NJ{id:Nat}(h:id≠0):uT N N.nodes.length 0 id=iv N id:=by
 unfold uT iv bm.ids;rw[ag h,List.flatMap_map];simp only[dW,yk,List.replicate_zero,en];unfold Dv bS dT;congr 1;funext q;rw[show((q:Int)+1-1).toNat=q from om]
def me{D U:au}(b:1<=q)(h:q<=N.nodes):(h2 N D U)[q]?=some ((fN N D U (q:Int):Nat):Int):=by
 obtain⟨j,rfl⟩:∃j,q=j+1:=⟨q-1,om⟩;rw[h2,o5,bf,Ap om];rfl
def LF{D U:au}(l:1<=q)(h:q<=N.nodes)(b:U.count (q:Int)<jq N D q):(h2 N D U).set q (((fN N D U (q:Int):Nat):Int)-1)=h2 N D (U++[(q:Int)]):=by
 have hm:1<=fN N D U (q:Int):=by unfold fN;omega
 obtain⟨j,rfl⟩:∃j,q=j+1:=⟨q-1,om⟩;apply fZ;intro i;have r:(h2 N D U).length=N.nodes+1:=by simp[h2,bm.ids]
 have u:(h2 N D (U++[((j+1:Nat):Int)])).length=N.nodes.length+1:=by simp[h2,bm.ids]
 rw[iD,r];by_cases e:j+1=i;subst e;rw[ah rfl,ah om,me l h,mO b,ah rfl];congr 1;omega;rw[ag e];rcases i with _|i;rfl;by_cases hi:i+1<=N.nodes;rw[me om hi,me om hi,mO b,ag om];rw[fc om,fc om]
def P5{p:Int->Bool}(h:j<N.nodes):(N.ids.take (j+1)).filter p=(N.ids.take j).filter p++if p ((j:Int)+1)then[(j:Int)+1]else[]:=by
 rw[take_at (Ap h),yb];congr 1;rw[List.filter_cons,List.filter_nil]
def Aq(h:fV N V=[]):nF N f V=V:=by
 cases f with
 |zero=>rfl
 |succ f=>rw[nF,h]
def slN:Value->Nat
 |.slice _ n _=>n
 |_=>0
structure e3(N:bm)(D:List Int):Prop where
 nd:D.Nodup
 ids:∀v∈D,v∈N.ids
 dep:∀v∈D,jq N D v=0
def e3.nil:e3 N []:=⟨MA,aD,aD⟩
def jb{t:au}(h:fV N V=id::t):id∈N.ids/\id∉V/\jq N V id=0:=by
 have:=rx.1 (show id∈N.ids.filter (kO N V)from by rw[show N.ids.filter (kO N V)=id::t from h];exact cm);refine⟨this.1,?_⟩;have b:=this.2;unfold kO at b;simpa using b
def e3.ZW{t:au}{v:Int}(h:e3 N V)(hr:fV N V=id::t)(hv:v∈V++[id]):jq N V v=0:=by
 rcases bM.1 hv with hv|hv;exact h.dep v hv;rw[cZ.1 hv];exact(jb hr).2.2
def e3.step{D t:au}(h:e3 N D)(hr:fV N D=id::t):e3 N (D++[id]):=by
 obtain⟨j,l,u⟩:=jb hr;refine⟨?_,λv hv=>?_,λv hv=>?_⟩;rw[rr];exact⟨h.nd,aD,λa r b hb e=>l (by rw[cZ.1 hb]at e;exact e▸r)⟩;rcases bM.1 hv with hv|hv;exact h.ids v hv;rw[cZ.1 hv];exact j;have:=h.ZW hr hv;have:=vP (N:=N) (v:=v) (D:=D) (id:=id) (by have:=bn.1 j;omega) l;omega
def e3.len(h:e3 N V):V.length<=N.nodes.length:=by
 have:=vO h.nd h.ids;rwa[mN]at this
def e3.user{D t:au}(h:e3 N D)(hr:fV N D=id::t)(e:(iv N id)[j]?=some y):y∈N.ids/\((iv N id).take j).count y<jq N D y/\y∉D++[id]:=by
 obtain⟨r,u,C⟩:=jb hr;have hm:=LC (aC e);have z:((iv N id).take j).count y<jq N D y:=by have l:((iv N id).take (j+1)).count y<=(iv N id).count y:=(List.take_sublist _ _).count_le _;rw[take_at e,tH,uD hm.1]at l;have:=vP (N:=N) (v:=y) (D:=D) (id:=id) (by have:=bn.1 r;omega) u;simp at l;omega
 exact⟨hm.1,z,λb=>by have:=h.ZW hr b;omega⟩
def P6{t:au}(hr:fV N V=id::t):h2 N V (iv N id)=h2 N (V++[id]) []:=by
 obtain⟨b,e,j⟩:=jb hr;unfold h2;congr 1;refine iA λv hv=>?_;rw[Dx (by have:=bn.1 b;omega) e hv];rfl
def IC{t:au}{v:Int}(h:fV N V=v::t):nF N (f+1) V=nF N f (V++[v]):=by rw[nF,h]
def P7{D U:au}:(j0 N D id U).length<=N.nodes:=by
 rw[<-mN];exact List.length_filter_le _ _
structure lI(w p:World)(g:Nat)(wr:World)(A:Option Addr)(c:Nat)(L:List Int)(O:Option Addr)(co:Nat)(D wl:List Int):Prop where
 old:w<=g
 gp:g<p
 aside:Aside g p wr
 wait:Own wr g 3 wl
 qY:aB wr p.1.size 3 A c L
 ord:aB wr p.1.size 3 O co D
 oT:∀a b,A=some a->O=some b->a.block≠b.block
 prev:aj wr w
section
variable{O:Option Addr}{L D wl:List Int}
def lI.ZX(h:lI w p g wr A c L O R D wl)(C:aB w' p.1.size 3 A' c' L')(j:dm A A' wr w'):lI w p g w' A' c' L' O R D wl where
 old:=h.old
 gp:=h.gp
 aside:=⟨aL h.aside.size j.size,λk z r=>(j.off k (bu z h.aside.size) (λl e=>by have:=h.qY.fresh l e;omega)).trans (h.aside.same k z r)⟩
 wait:=j.own h.wait (λl e=>by have:=h.qY.fresh l e;have:=h.gp;omega)
 qY:=C
 ord:=h.ord.jt j (λa a' u y=>h.oT a' a y u)
 oT a b u eb:=by
  rcases j.new a u with⟨a0,E,F⟩|tx
  .rw[F];exact h.oT a0 b E eb
  .have:=h.ord.lt b eb;omega
 prev:=⟨h.prev.st.trans (j.below (λl e=>by have:=h.qY.fresh l e;have:=h.gp;have:=h.old;omega) h.prev.st.size)⟩
def lI.aca(h:lI w p g wr A c L O R D wl)(C:aB w' p.1.size 3 A' c' L')(j:dm O A' wr w'):lI w p g w' A c L A' c' L' wl where
 old:=h.old
 gp:=h.gp
 aside:=⟨aL h.aside.size j.size,λk z u=>(j.off k (bu z h.aside.size) (λl e=>by have:=h.ord.fresh l e;omega)).trans (h.aside.same k z u)⟩
 wait:=j.own h.wait (λl e=>by have:=h.ord.fresh l e;have:=h.gp;omega)
 qY:=h.qY.jt j (λa a' r y=>(h.oT a a' r y).symm)
 ord:=C
 oT a b r eb:=by
  rcases j.new b eb with⟨a0,E,F⟩|tx
  .rw[F];exact h.oT a a0 r E
  .have:=h.qY.lt a r;omega
 prev:=⟨h.prev.st.trans (j.below (λl e=>by have:=h.ord.fresh l e;have:=h.gp;have:=h.old;omega) h.prev.st.size)⟩
def lI.av(h:lI w p g wr A c L O R D wl)(i:Nat)(z:Int):lI w p g (wr.setCell (g,i) z) A c L O R D (wl.set i z) where
 old:=h.old
 gp:=h.gp
 aside:=h.aside.av i _
 wait:=h.wait.av i z
 qY:=h.qY.eU (λb e=>by have:=h.qY.fresh b e;have:=h.gp;simp;omega) _
 ord:=h.ord.eU (λb e=>by have:=h.ord.fresh b e;have:=h.gp;simp;omega) _
 oT:=h.oT
 prev:=⟨h.prev.st.setCell (p:=⟨g,i,none⟩) h.old _⟩
def lI.at(h:lI w p g wr A c L O R D wl)[l:aT wr w']:lI w p g w' A c L O R D wl:=
 ⟨h.old,h.gp,h.aside.below l.st,h.wait.at,h.qY.at,h.ord.at,h.oT,⟨du h.prev.st l.st⟩⟩
end
def Yt{w:aa}{B c:Nat}{A:bF}{v:Int}{t:au}(h:aB w B 3 A c (v::t)):
  () 187 #[.slice A (t.length+1) c,an,(1:Int)] w λe w'=>e=.returned (.slice A t c)/\aB w' B 3 A c t/\dm A A w w':=
 Ho h (i:=0) (j:=1) rfl rfl om aD aD
def xT7(h:Γ:=by rw[<-F.o];omega):=h
def P8[a:aW w A n B m N](hf:Hx N.fits)(hr:Hx N.kc)(hs:Hx N.small):() 121 #[.agg #[.slice A n c,(B,m,d)]] w (zi w (eL N)):=by
 obtain⟨CB,CP,FB⟩:=ia;have F:Hx (m=N.nodes):=a.len;have hm:m<=100000:=by rw[F.o];exact hf.o.1
 have la:∀W:World,(Instr.makeSlice 24 ((m:Int)+1:Int) ((m:Int)+1:Int)).run prog W=.ok (.slice (some ⟨W.1.size,0,none⟩) (m+1) (m+1)) (W.alloc (.cells (ints (List.replicate (m+1) 0)) 3)):=λW=>by have h:=kz (m+1) om W;rwa[ee]at h
 have hmr:∀W:World,(Instr.makeSlice 105 ((m:Int)+1:Int) ((m:Int)+1:Int)).run prog W=.ok (.slice (some ⟨W.1.size,0,none⟩) (m+1) (m+1)) (W.alloc (.cells (vQ (List.replicate (m+1) sy)) 24)):=λW=>by have h:=LD (m+1) om W;rwa[ee]at h
 go_in;go_wp2_with fail;obtain⟨v,hv⟩:=lg (((w.alloc (.cells #[.slice A n c,(B,m,d)] 33)).alloc (.cells (ints (List.replicate (m+1) 0)) 3)).alloc (.cells (vQ (List.replicate (m+1) sy)) 24));have pv:aj v w:=hv▸aF;have kN:Bx v w.1.size 33 #[.slice A n c,(B,m,d)]:=hv▸aq;have G:Own v (w.1.size+1) 3 (wT N 0 0):=by rw[Ub,<-F.o,hv];exact(aq:Bx _ (w.1.size+1) _ _).ak
 have J:s9 v (w.1.size+3) (w.1.size+1+1) (List.replicate (m+1) sy):=s9.new (by rw[hv];exact(aq:Bx _ (w.1.size+1+1) _ _).ak);have hJ:vR (l5 N 0 0) (List.replicate (m+1) sy):=by rw[vR,PX,<-F.o];simp[sy]
 have hvs:v=w.1.size+3:=by rw[hv];simp
 rw[<-hv];have xB:=ae hJ;clear la hmr hv hJ;go_loopw [30] (λi wr=>∃(k:Nat) (US:List Ur),k<=m/\i=.int .i64 k/\Own wr (w.1.size+1) 3 (wT N k 0)/\s9 wr (w.1.size+3) (w.1.size+1+1) US/\Hx (vR (l5 N k 0) US)/\aj wr w/\Bx wr w.1.size 33 #[.slice A n c,(B,m,d)]) (λi _=>m-(intOf i).toNat);exact⟨0,_,aM _,rfl,G,J,xB,pv,kN⟩;clear G J xB kN pv hvs;obtain⟨k,US,hk,rfl,G,J,M,hp,kN⟩:=hrel;by_cases V:k<m
 .obtain⟨b0,q0,o,A1,n1,c1,I,ni,ci,ins,P,np,cp,ps,rfl,ob,⟨v0,v1,v2,v3,v4,v5,v6,v7,v8,v9⟩,s1,si,sp,l1,li,lp,ik,oj⟩:=a.node V;(have qm:ni<=100000:=by have:=(hf.o.2.2 _ (aC oj.o)).1;rw[si.len];exact this);have HI:Hx (ni=ins):=si.len;have HA:Hx (dT N k=ins):=ae (by rw[dT,oj.o];rfl);go_wp2_with fail;obtain⟨x,hx⟩:=lg (wr.alloc (.cells #[o.kd,o.k,o.wd,o.st,o.sd,o.fr,o.tt,(A1,n1,c1),(I,ni,ci),(P,np,cp)] 84));have px:aj x wr:=hx▸aj.alloc _ _;have kWx:=G.at (w':=x);have kUx:=J.at (w':=x);rw[<-hx];clear hx G J;go_loopw [38] (λi wy=>∃(j:Nat) (US:List Ur),j<=ni/\i=.int .i64 j/\Own wy (w.1.size+1) 3 (wT N k j)/\s9 wy (w.1.size+3) (w.1.size+1+1) US/\Hx (vR (l5 N k j) US)/\aj wy w/\Bx wy w.1.size 33 #[.slice A n c,.slice (some ⟨b0,q0,none⟩) m d]) (λi _=>ni-(intOf i).toNat);exact⟨0,US,aM _,rfl,kWx,kUx,M,aF,aq⟩;clear kWx kUx M kN;obtain⟨j,US,hj,rfl,G,J,M,sZ,kN⟩:=hrel;by_cases Ue:j<ni
  .obtain⟨b2,q2,z,rfl,jU,vz,ez⟩:=si.get Ue;have hz:=hr.o _ (aC oj.o) z (aC ez.o);rw[<-F.o]at hz;have Yu:Hx ((dT N k)[j]?=some z):=ae (by rw[HA.o];exact ez.o);have zF:Hx (k<N.nodes.length):=ae (by rw[<-F.o];exact V);by_cases h0:z=0
   .subst h0;have Q:=G;rw[<-(IB zF.o Yu.o).trans (ah rfl)]at Q;have ll:=M;rw[<-PZ Yu.o]at ll;go_wp2_with fail;go_roundw;exact⟨j+1,US,om,by go_num,Q,J,ll,sZ,kN⟩;exact xT1
   obtain⟨z,rfl⟩:=bJ hz.1;have Yv:z<=m:=om;have hH:1<=z:=om;obtain⟨cw,R⟩:=lh (((dT N k).take j).countP (· !=0));(have xd:cw<=100000:=by rw[<-R];exact aL tC cr);(have LG:(wT N k j)[k+1]?=some (cw:Int):=by rw[yC zF.o,ag (o8 _),ah rfl,R]);have hc:=G.cell LG;have Gl:=G.frozen (k+1);have Q:=G.av (k+1) ((cw:Int)+1);rw[<-R,<-(IB zF.o Yu.o).trans (ag h0),R]at Q;have S4:=ae Q;have HF:=ae (J.aY (p:=⟨w.1.size+1,k+1,none⟩) aD aD ((cw:Int)+1:Int));have PJ:aj (wr.setCell (w.1.size+1,k+1) ((cw:Int)+1:Int)) w:=⟨(aP w wr).setCell (p:=⟨w.1.size+1,k+1,none⟩) (cz _) _⟩;clear Q G J LG R;go_upto_region 11 with fail;obtain⟨y,hy⟩:=lg (wr.setCell (w.1.size+1,k+1) ((cw:Int)+1:Int));have kNy:Bx y w.1.size 33 #[.slice A n c,.slice (some ⟨b0,q0,none⟩) m d]:=⟨by rw[hy];exact kN.ak.aY aD _⟩;rw[<-hy]at S4 HF PJ⊢;have G:=S4.o;have J:=HF.o;have hys:w.1.size+1+1<y:=J.ak.lt;clear hy S4 HF hc Gl kN h0 hz sZ vz;obtain⟨⟨X,Y,l⟩,Yw,Yx⟩:=M.o.get (z:=z) xT7;dsimp only at Yx;(have sW:l.length<=1001000:=by rw[Yx];have:=NI hs k j z;have:=hs.o.1;rw[<-F.o]at this;omega);have Uf:=(J.ak.cell z).trans (Ao Yw);have fru:=J.ak.frozen z;have Ug:=J.own _ (aC Yw);have Cd:=ae Ug.fresh;have HEU:=ae Yw;have HEZ:=ae Yx;dsimp only at Uf Ug Cd;clear Yw Yx;go_wp2_with (at_builtin;refine iL rfl _ _ _ rfl 3 underlying24 ao (w.1.size+3) X Y l rfl Ug ((k:Int)+1) rfl om om ?_;intro A3 c3 w3 Z r ZK;have kB3:=r.ak J.ak (λS e=>by have:=Cd.o S e;omega);have fr3:=kB3.frozen z;have CE:=(kB3.cell z).trans (Ao HEU);clear Uf fru;dsimp only at CE);go_roundw;(have hwn:∀S,X=some S->S.block≠w.1.size+1:=λS e=>by have:=Cd.o S e;omega);have hpp:=J.push HEU Z r;rw[show(l++[(k:Int)+1]).length=l.length+1 from aD]at hpp;have qv:Below w.1.size y w3:=r.below (λS e=>by have:=Cd.o S e;omega) om;exact⟨j+1,_,om,by go_num,(r.own G hwn).aY aD _,hpp,ae (M.o.step om Yu (by rw[HEZ.o])),⟨((aP w y).trans qv).setCell cr _⟩,⟨(r.ak kNy.ak (λS e=>by have:=Cd.o S e;omega)).aY cr _⟩⟩;exact xT1
  obtain rfl:j=ni:=om;have Q:=G;have ll:=M;rw[HI.o,<-HA.o,Uc]at Q;rw[HI.o,<-HA.o,P0]at ll;clear G;go_wp2_with fail;go_roundw;exact⟨k+1,US,om,by go_num,Q,J,ll,sZ,kN⟩;exact xT1
 obtain rfl:k=m:=om;rw[F.o,Ys]at G;have acb:Hx (vR (l5 N N.nodes.length 0) US):=ae (by rw[<-F.o];exact M);have Ar:=hs.o.1;rw[<-F.o]at Ar;clear M;go_wp2_with fail;obtain⟨p,pe⟩:=lg wr;have hp0:aj wr p:=⟨by rw[pe];exact aV _ _⟩;rw[<-pe]at J G hp kN;clear pe;have Fg:w.1.size+1<p:=G.lt;go_loopw [9,10] (λs i wr=>∃(j:Nat) (X:bF) (Y:Nat) (L:au),j<=k/\i=.int .i64 ((j:Int)+1)/\s=.slice X L Y/\aB wr p.1.size 3 X Y L/\Hx (L=(N.ids.take j).filter (kO N []))/\L<=j/\aj wr p) (λ_ i _=>k+1-(intOf i).toNat);exact⟨0,none,0,[],aM _,aD,rfl,aB.nil _ _ _,ae aD,aD,hp0⟩;clear hp0;obtain⟨j,X,Y,L,hj,rfl,rfl,K,HL,hll,E⟩:=hrel;have Tc:=G.at (w':=wr);by_cases V:j<k
 .have LG:=me (N:=N) (D:=[]) (U:=[]) (q:=j+1) om xT7;have hc:=Tc.cell LG;have HT:=ae (P5 (N:=N) (j:=j) (p:=kO N []) (by rw[<-F.o];exact V));(have he:((j+1:Nat):Int)=(j:Int)+1:=by simp);rw[he]at hc;have HP:Hx (kO N [] ((j:Int)+1)=decide (fN N [] [] ((j:Int)+1)=0)):=ae (by unfold kO fN;rw[List.contains_nil,yk,yo];rfl);(have Ly:((j:Int)+1<=(k:Int)):=by omega);obtain⟨q0,P9⟩:=lh (fN N [] [] ((j:Int)+1));rw[P9]at hc HP;clear LG P9 he;by_cases h0:q0=0
  .subst h0;rw[HP.o]at HT;go_wp2_with (at_builtin;refine iJ rfl _ _ _ rfl 3 underlying24 ao p.1.size X Y L rfl K ((j:Int)+1) rfl om ai ?_;intro A3 c3 w3 Z qv _ _);go_roundw;exact⟨j+1,A3,c3,_,om,by go_num,aD,Z,ae (by rw[HT.o,HL.o];rfl),by simp;omega,⟨(aP p wr).trans qv⟩⟩;exact xT1
  rw[HP.o,gD h0]at HT;go_wp2_with fail;go_roundw;exact⟨j+1,X,Y,L,om,by go_num,rfl,K,ae (by rw[HT.o,HL.o];simp),om,E⟩;exact xT1
 obtain rfl:j=k:=om;have hL:L=fV N []:=by rw[HL.o,F.o,bY (ei mN)];rfl
 have la:=n9 (P:=prog) 24 3 underlying24 ao j om;have Ly:¬((j:Int)+1<=(j:Int)):=by omega
 rw[hL]at K⊢;clear hL HL hll Tc;have HG:Hx (∀z,z<j+1->z≠0->∃A c l,US[z]?=some ⟨A,c,l⟩/\l=iv N z):=λz hz h0=>by obtain⟨⟨A,c,l⟩,e1,e2⟩:=acb.o.get (z:=z) (by rw[<-F.o];exact hz);exact⟨A,c,l,e1,by rw[NJ h0]at e2;exact e2⟩
 go_wp2_with fail
 have hS:lI w p (w.1.size+1) (wr.alloc (.cells (ints (List.replicate j 0)) 3)) X Y (fV N []) (some ⟨wr.1.size,0,none⟩) j [] (h2 N [] []):=
  ⟨aD,Fg,⟨by have:=E.st.size;simp;omega,λk hk _=>by have:=E.st.size;exact(nj wr _ k om).trans (E.st.block k hk)⟩,G.at,K.at,(vq wr 3 j om).more E.st.size,λa b ea eb=>by cases eb;exact rE (K.lt a ea),aF⟩
 have HK:Hx (nF N (N.nodes.length-0) []=eL N):=rfl;clear K G la Ly;go_loopw [9,11] (λs t wr=>∃(A:bF) (c:Nat) (L:au) (O:bF) (co:Nat) (D:au),s=.slice A L c/\t=.slice O D co/\lI w p (w.1.size+1) wr A c L O co D (h2 N D [])/\Hx (L=fV N D)/\Hx (e3 N D)/\Hx (nF N (N.nodes.length-D.length) D=eL N)) (λ_ t _=>j-slN t);exact⟨_,_,_,_,_,[],rfl,rfl,hS,ae rfl,ae e3.nil,HK⟩;clear hS HK E;obtain⟨X,Y,L,O,co,D,rfl,rfl,hS,HL,HT,HK⟩:=hrel;have E:=hS.prev;rcases L with _|⟨id,t⟩
 .have hD:D=eL N:=(Aq HL.o.symm).symm.trans HK;subst hD;go_wp2_with fail;go_ret;exact⟨O,co,rfl,hS.ord.more (by have:=hS.gp;omega),E⟩
 have hid:=jb HL.o.symm;have hI:=bn.1 hid.1;rw[<-F.o]at hI;obtain⟨q,rfl⟩:=bJ (show 0<=id by omega);have Oi:1<=q:=om;have hqj:q<j+1:=om;have hDl:=HT.o.len;rw[<-F.o]at hDl;obtain⟨gA,rfl,_,_⟩:=hS.qY.addr aD;have qf:=hS.qY.cell (k:=0) rfl;obtain⟨A5,c5,l,e5,e6⟩:=HG.o q hqj om;have HE5:=ae e5;have Uh:=ae e6;have HS:=ae hS;clear hS e5 e6 hid hI;go_upto_region 25 with(first|(go_at_call 187;refine(Yt HS.o.qY).mono ?_;rintro e u ⟨rfl,Qa,hcP⟩;have C:=ae (HS.o.ZX Qa hcP);clear Qa hcP qf)|(at_builtin;refine iL rfl _ _ _ rfl 3 underlying24 ao p.1.size O co D rfl C.o.ord (q:Int) rfl om C.o.aside.size ?_;intro A3 c3 w3 Z r ZK;have ID:=ae (C.o.aca Z r);clear Z r));have T9:=ID.o;have kU3:=T9.aside.ak J.ak om;have Uf:=(kU3.cell q).trans (Ao HE5);dsimp only at Uf;have sW:l.length<=1001000:=by have:=NI hs N.nodes.length 0 q;rw[NJ om,<-Uh.o,<-F.o]at this;omega
 have HR0:Hx (t=j0 N D q (l.take 0)):=ae (by rw[dW];exact(IA HL.o.symm).symm);have hSI:lI w p (w.1.size+1) w3 gA Y t A3 c3 (D++[(q:Int)]) (h2 N D (l.take 0)):=by rw[dW];exact T9
 clear HS C ID kU3 T9;go_wp2_with fail;clear Uf;go_loopw [9,101] (λs i wr=>∃(x:Nat) (A:bF) (c:Nat) (L:au),x<=l.length/\i=.int .i64 x/\s=.slice A L c/\lI w p (w.1.size+1) wr A c L A3 c3 (D++[(q:Int)]) (h2 N D (l.take x))/\Hx (L=j0 N D q (l.take x))) (λ_ i _=>l.length-(intOf i).toNat);exact⟨0,_,_,_,aM _,rfl,rfl,hSI,HR0⟩;clear hSI HR0;obtain⟨x,X,Y,L,hx,rfl,rfl,hS,HR⟩:=hrel;have E:=hS.prev;by_cases V:x<l.length
 .have sU:Sl wr A5 l.length l:=⟨hS.aside.rd (J.own _ (aC HE5)).rd (λS e=>by have:=(J.own _ (aC HE5)).fresh S e;omega),rfl⟩;obtain⟨b2,q2,z,rfl,jU,vz,ez⟩:=sU.get V;have hY:=HT.o.user (t:=t) (id:=(q:Int)) (y:=z) (j:=x) HL.o.symm (by rw[<-Uh.o];exact ez.o);rw[<-Uh.o]at hY;have hI:=bn.1 hY.1;rw[<-F.o]at hI;obtain⟨y,rfl⟩:=bJ (show 0<=z by omega);have Qb:1<=y:=om;have hyj:y<j+1:=om;have HY:=ae hY;have R:=me (N:=N) (D:=D) (U:=l.take x) Qb xT7;have IE:=LF (N:=N) (D:=D) (U:=l.take x) Qb xT7 HY.o.2.1;have Ui:=me (N:=N) (D:=D) (U:=l.take x++[(y:Int)]) Qb xT7;rw[mO HY.o.2.1,ah rfl]at Ui;(have hmw:1<=fN N D (l.take x) (y:Int):=by have:=HY.o.2.1;unfold fN;omega);(have hmx:fN N D (l.take x) (y:Int)<=1000:=by unfold fN jq bS;have:=ta hs ((y:Int)-1).toNat;unfold dT at this;exact aL (Nat.sub_le _ _) (aL tC this));have pQ:=ae (take_at ez.o);rw[<-pQ.o]at IE Ui;(have T:Hx (fN N D (l.take x) (y:Int)=1->j0 N D q (l.take (x+1))=L.take (L.countP (· <(y:Int)))++(y:Int)::L.drop (L.countP (· <(y:Int)))):=λh=>by rw[pQ.o,HR.o];exact An HY.o.2.1 h HY.o.1 HY.o.2.2);(have Yy:Hx (fN N D (l.take x) (y:Int)≠1->j0 N D q (l.take (x+1))=L):=λh=>by rw[pQ.o,HR.o];exact CG HY.o.2.1 h);obtain⟨mw,ZY⟩:=lh (fN N D (l.take x) (y:Int));rw[ZY]at R IE Ui hmw hmx T Yy;have hc:=hS.wait.cell R;have Gl:=hS.wait.frozen y;have Gr:=hS.av y ((mw:Int)-1);rw[IE]at Gr;have C:=ae Gr;have uv:=ae Ui;clear hY hI R IE Ui ZY Gr hS;go_upto_region 29 with fail;obtain⟨v2,Lq⟩:=lg (wr.setCell (w.1.size+1,y) ((mw:Int)-1:Int));rw[<-Lq]at C⊢;have hS:=C.o;have E4:=hS.wait.cell uv;clear Lq E hc Gl uv vz jU sU;have E:=hS.prev;by_cases h1:mw=1
  .subst h1;have acd:v2.cell? (w.1.size+1,y)=some (.int .i64 0):=E4;(have zM:L.length<=1000:=by rw[HR.o];have:=P7 (N:=N) (D:=D) (id:=(q:Int)) (U:=l.take x);have:=hs.o.1;omega);have HSO:Hx (L.Pairwise (· <= ·)):=ae (by rw[HR.o];exact Gp);have HY1:=ae (T.o rfl);clear T Yy E4 hS;go_wp2_with (first|(go_at_call 188;refine mv (Hp (x:=(y:Int)) C.o.qY.rd om HSO) λu pu=>?_)|(go_at_call 189;refine ey (λu2 sO bu2=>?_);refine(Hq (x:=(y:Int)) (vb:=u.1.size) (C.o.at (w':=u2)).qY (λS e=>by have:=C.o.qY.lt S e;have:=pu.st.size;omega) rfl tC om (C.o.at (w':=u2)).aside.size).mono ?_;rintro e u3 ⟨A6,c6,rfl,ho6,ace⟩));go_roundw;exact⟨x+1,A6,c6,_,om,by go_num,aD,(C.o.at (w':=u2)).ZX ho6 ace,ae HY1.o.symm⟩;exact xT1
  obtain⟨mv,rfl⟩:∃mv,mw=mv+1:=⟨mw-1,om⟩;have acd:v2.cell? (w.1.size+1,y)=some (.int .i64 (mv:Int)):=E4;(have r9:(mv:Int)≠0:=by omega);have Ks:=ae (Yy.o h1);clear T Yy E4 h1;go_wp2_with fail;go_roundw;exact⟨x+1,X,Y,L,om,by go_num,rfl,hS,ae Ks.o.symm⟩;exact xT1
 obtain rfl:x=l.length:=om;rw[dR,Uh.o,P6 HL.o.symm]at hS;have hid:=jb HL.o.symm;have vA:Hx (L=fV N (D++[(q:Int)])):=ae (by rw[HR.o,dR,Uh.o,PU om hid.2.1]);have IF:=HT.o.step HL.o.symm;have ui:=IF.len;have Cu:nF N (N.nodes.length-(D++[(q:Int)]).length) (D++[(q:Int)])=eL N:=by rw[<-HK.o,<-IC HL.o.symm];congr 1;simp at ui⊢;omega
 have m5:=ae Cu;have l2:=ae IF;rw[<-F.o]at ui;simp at ui;clear hid IF Cu;go_wp2_with fail;go_roundw;exact⟨X,Y,L,A3,c3,D++[(q:Int)],rfl,aD,hS,vA,l2,m5⟩;simp[slN];omega
end
variable{u:World}{O:List Int}
def CH(m:Nat)(v:et):Int:=if v.o.right then(if v.ins.all (λz=>decide (0<=z)&&decide (z<=m))then 0 else 11)else 21
def lr(m:Nat):List et->Int
 |[]=>0
 |v::t=>if CH m v=0 then lr m t else CH m v
def yD(N:bm):List Int:=(gw N (eL N) (lq N)).2.getD (fj N).toNat []
def rT(N:bm):Int:=if(eL N).length=N.nodes then(if(gw N (eL N) (lq N)).1=0 then(if qX N then(if cA (yD N)=0/\bz (yD N)=1 then 0 else 23)else 23)else(gw N (eL N) (lq N)).1)else 22
def bo(N:bm):Int:=if 1<=N.nodes.length/\N.nodes.length<=512 then(if aA N.dV then(if lr N.nodes.length N.nodes=0 then rT N else lr N.nodes.length N.nodes)else 20)else 12
def dB(N:bm):List Int×List (List Int)×Int:=if bo N=0 then(eL N,(gw N (eL N) (lq N)).2,fj N)else([],[],0)
def NK(w:aa)(E:Int)(O:au)(L:f0)(l:Int)(e:Ending)(w':aa):Prop:=∃A c B d b,e=.returned (.tuple #[.agg #[.slice A O c,.slice B L d,l],E])/\aB w' w.1.size 3 A c O/\dZ w' B L.length b/\Le L.length d/\Hx (aS b=L)/\aj w' w/\oR w.1.size B b
variable{l:Int}
def iw(hE:bo N=E)(hV:dB N=(O,L,l))(h:E≠0):[]=O/\[]=L/\0=l:=by
 rw[dB,hE,ag h]at hV;simpa using hV
def gS(p:aj w' w):NK w E [] [] 0 (.returned (.tuple #[.agg #[(),(),an],E])) w':=
 ⟨none,0,none,0,[],rfl,aB.nil _ _ _,⟨λj x b=>by simp at b,rfl⟩,Le.same _,ae rfl,p,oR.no⟩
theorem eC{x y z:Value}[l:aT w u]:aj (((u.setCell (w.1.size+1,0) x).setCell (w.1.size+1,1) y).setCell (w.1.size+1,2) z) w:=
 ⟨((l.st.setCell (p:=⟨w.1.size+1,0,none⟩) (cz _) x).setCell (p:=⟨w.1.size+1,1,none⟩) (cz _) y).setCell (p:=⟨w.1.size+1,2,none⟩) (cz _) z⟩
def As{x y z:Value}{B:Nat}(h:aB u B 3 A c O)(j:w.1.size+1<B):aB (((u.setCell (w.1.size+1,0) x).setCell (w.1.size+1,1) y).setCell (w.1.size+1,2) z) w.1.size 3 A c O:=by
 have f:∀b,A=some b->b.block≠w.1.size+1:=λb e=>by have:=h.fresh b e;omega
 exact(((h.eU (p:=⟨w.1.size+1,0,none⟩) f x).eU (p:=⟨w.1.size+1,1,none⟩) f y).eU (p:=⟨w.1.size+1,2,none⟩) f z).more om
theorem Uj{x y z:Value}{B:Nat}(h:dZ u A n ss)(f:oR B A ss)(b:w.1.size+1<B):dZ (((u.setCell (w.1.size+1,0) x).setCell (w.1.size+1,1) y).setCell (w.1.size+1,2) z) A n ss:=
 ((h.setCell f (p:=⟨w.1.size+1,0,none⟩) b x).setCell f (p:=⟨w.1.size+1,1,none⟩) b y).setCell f (p:=⟨w.1.size+1,2,none⟩) b z
def At{o:ir}{b:Bool}[Sl w A n o.S](e:n<=1000000)(hb:Hx (o.right=b)):() 120 #[.agg (gM o.kd o.k o.wd o.st o.sd o.fr o.tt (A,n,c))] w (aJ w (.bool b)):=
 cu (fk e) (by rw[<-hb.o];rfl)
def pO:∀(f:Nat) (D:au),e3 N D->e3 N (nF N f D)
 |0,_,h=>h
 |f+1,D,h=>by rw[nF];split;exact h;rename_i b;exact pO f _ (h.step b)
def Au:∀(r:au) (L j:f0),gw N r L=(0,j)->(∀z∈L,z.length<=100000)->j.length=L.length/\∀z∈j,z.length<=100000
 |[],L,j,h,u=>by rw[gw]at h;obtain rfl:=(eQ h).2;exact⟨rfl,u⟩
 |id::r,L,j,h,u=>
  by
   rw[gw]at h;split at h;obtain rfl:=(eQ h).2;exact⟨rfl,u⟩;split at h
   rename_i y;obtain⟨a,b⟩:=Au r _ j h (λz e=>by
    rcases hA e with e|rfl
    .exact u z e
    .have:=cG (lj y);omega)
   exact⟨by rw[a,d3],b⟩;exact absurd (eQ h).1 xTa
def IG:∃q:Nat,fj N=q/\q<=N.nodes:=by
 refine⟨_,rfl,?_⟩;rcases h:(CC N).getLast? with _|x;rw[ML,h];simp;rw[ML,h];have:=rx.1 (List.mem_of_getLast? h);have:=iU.1 this.1;simp;omega
def pP[aW w A n B m N](j:Hx N.fits)(hr:Hx N.kc)(hs:Hx N.small)(hO:Hx (eL N=O))(r:Hx (O=k)):() 121 #[.agg #[.slice A n c,(B,m,d)]] w λe w'=>∃A c,e=.returned (.slice A k c)/\Sl w' A k O/\aB w' w.1.size 3 A c O/\aj w' w:=by
 obtain rfl:=hO.o;obtain rfl:=r.o;exact(P8 j hr hs).mono λe w' ⟨A,c,u,b,y⟩=>⟨A,c,u,⟨b.rd,rfl⟩,b,y⟩
def Gs[aW w A n B m N](j:Hx N.fits)(hr:Hx N.kc)[Sl w C k ord](r:k<=100000)(u:Hx (∀id∈ord,1<=id/\id<=m))(hL:Hx (gw N ord (lq N)=(E,L))){x:Nat}(y:Hx (L=x)):
  () 122 #[.agg #[.slice A n c,(B,m,d)],(C,k,g)] w λe w'=>∃A c b,e=.returned (.tuple #[.slice A x c,E])/\dZ w' A x b/\Le x c/\Hx (aS b=L)/\aj w' w/\oR w.1.size A b:=by
 obtain rfl:=y.o;exact aaU j hr r u hL
def vS:∀{l:List et},lr m l=0->∀v∈l,CH m v=0
 |[],_,v,hv=>absurd hv aD
 |x::t,h,v,hv=>by unfold lr at h;split at h;rename_i b;rcases cw.1 hv with rfl|hv;exact b;exact vS h v hv;exact absurd h xTa
def xT0(h:Γ:=by refine aX (v:=.tuple #[.agg #[(),(),an],(23:Int)]) ?_ rfl (gS eC);rw[cF rfl];go_simp):=h
def xT4(h:Γ:=by go_wp2_with (go_at_call 73;refine mv (h5 om Ku HJ6) λu7 _=>?_);exact xT0):=h
def xT6(h:Γ:=by rw[cF rfl];go_simp):=h
def rU[a:aW w A n B m N](D:Hx N.fits)(hs:Hx N.small)(hE:Hx (bo N=E))(hV:Hx (dB N=(O,L,l))):() 72 #[.agg #[(A,n,c),(B,m,d)]] w (NK w E O L l):=by
 obtain⟨CB,CP,FB⟩:=ia;have Q:Hx (m=N.nodes):=a.len;have hm:m<=1000:=by rw[Q.o];exact hs.o.1
 have sI:=a.dV;have hn:n<=100000:=by rw[sI.len];exact D.o.2.1
 go_in;by_cases c1:1<=m/\m<=512
 .have Gt:=ae c1;(have c2:¬(m:Int)<1:=by omega);(have c3:¬(m:Int)>512:=by omega);have r:=hE.o;rw[bo,<-Q.o,ah c1]at r;clear c1;rcases hb:aA N.dV with _|_
  .obtain rfl:E=20:=by rw[hb]at r;exact r.symm
   obtain⟨rfl,rfl,rfl⟩:=iw hE hV om;have HB:=ae hb;clear hb r;go_wp2_with (go_at_call 119;refine ph (λu _ _ _=>?_);refine(dl om HB).mono ?_;rintro e u1 ⟨rfl,_⟩);refine aX (v:=.tuple #[.agg #[(),(),an],(20:Int)]) ?_ rfl (gS eC);exact xT6
  rw[hb]at r;have HB:=ae hb;have R:Hx ((if lr m N.nodes=0 then rT N else lr m N.nodes)=E):=r;clear hb r;go_upto_region 5 with(go_at_call 119;refine ph (λu _ _ _=>?_);refine(dl om HB).mono ?_;rintro e u1 ⟨rfl,_⟩);go_wp2_with fail;go_loopw [34] (λi wr=>∃k:Nat,k<=m/\i=.int .i64 k/\Hx (lr m (N.nodes.drop k)=lr m N.nodes)/\aj wr u1) (λi _=>m-(intOf i).toNat);exact⟨0,aM _,rfl,ae rfl,⟨aV _ _⟩⟩;obtain⟨k,hk,rfl,HD,hp⟩:=hrel;by_cases bE:k<m
  .obtain⟨b0,q0,o,A1,n1,c1,I,ni,ci,ins,P,np,cp,ps,rfl,ob,⟨v0,v1,v2,v3,v4,v5,v6,v7,v8,v9⟩,s1,si,sp,l1,li,lp,ik,X⟩:=a.node bE;(have qm:ni<=100000:=by have:=(D.o.2.2 _ (aC X.o)).1;rw[si.len];exact this);have qk:n1<=100000:=by have:=(D.o.2.2 _ (aC X.o)).2.1;rw[s1.len];exact this
   have HI:Hx (ni=ins):=si.len;have Y:Hx (lr m N.nodes=if CH m ⟨o,ins,aS ps⟩=0 then lr m (N.nodes.drop (k+1))else CH m ⟨o,ins,aS ps⟩):=ae (by
    obtain⟨Z,h2⟩:=a8.1 X.o;rw[<-HD.o,ed Z,h2];rfl)
   obtain⟨ob',G⟩:=kS o.right;rcases ob' with _|_
   .have Z:lr m N.nodes=21:=by rw[Y.o,CH];simp[G.o]
    obtain rfl:E=21:=by rw[<-R.o,Z];rfl
    obtain⟨rfl,rfl,rfl⟩:=iw hE hV om;clear Z;go_wp2_with (go_at_call 120;refine ey (λu2 _ _=>?_);refine(At om G).mono ?_;rintro e u3 ⟨rfl,_⟩);refine aX (v:=.tuple #[.agg #[(),(),an],(21:Int)]) ?_ rfl (gS eC);exact xT6
   go_wp2_with (go_at_call 120;refine ey (λu2 _ _=>?_);refine(At om G).mono ?_;rintro e u3 ⟨rfl,_⟩);go_loopw [46] (λi wr=>∃j:Nat,j<=ni/\i=.int .i64 j/\Hx (∀z∈ins.take j,0<=z/\z<=m)/\aj wr u3) (λi _=>ni-(intOf i).toNat);exact⟨0,aM _,rfl,ae aD,⟨aV _ _⟩⟩;obtain⟨j,hj,rfl,HZ,sZ⟩:=hrel;by_cases Ue:j<ni
   .obtain⟨b2,q2,z,rfl,jU,vz,ez⟩:=si.get Ue;by_cases hz:0<=z/\z<=m
    .have HT:Hx (∀y∈ins.take (j+1),0<=y/\y<=m):=λy hy=>by rw[take_at ez.o]at hy;rcases bM.1 hy with h|h;exact HZ.o y h;rw[cZ.1 h];exact hz
     have z1:¬z<0:=om;(have z2:¬z>(m:Int):=by omega);clear hz;go_wp2_with fail;go_roundw;exact⟨j+1,om,by go_num,HT,sZ⟩;exact xT1
    have Z:lr m N.nodes=11:=by (have:ins.all (λz=>decide (0<=z)&&decide (z<=m))=false:=by rw[rz];exact⟨z,aC ez.o,by simp;omega⟩);rw[Y.o,CH];simp[G.o,this]
    obtain rfl:E=11:=by rw[<-R.o,Z];rfl
    obtain⟨rfl,rfl,rfl⟩:=iw hE hV om;clear Z;by_cases z1:z<0;rotate_left;(focus have z2:z>(m:Int):=by omega);all_goals clear hz;go_wp2_with fail;refine aX (v:=.tuple #[.agg #[(),(),an],(11:Int)]) ?_ rfl (gS eC);rw[cF rfl];go_simp
   obtain rfl:j=ni:=om;have Uk:Hx (lr m (N.nodes.drop (k+1))=lr m N.nodes):=ae (by
    have:ins.all (λz=>decide (0<=z)&&decide (z<=m))=true:=by
     rw[dz];intro z hz;have:=HZ.o z (by rw[HI.o,dR];exact hz);simp[this]
    rw[Y.o,CH];simp[G.o,this])
   go_wp2_with fail;go_roundw;exact⟨k+1,om,by go_num,Uk,aF⟩;exact xT1
  obtain rfl:k=m:=om;(have hN0:lr k N.nodes=0:=by rw[<-HD.o,eF (by rw[<-Q.o];exact al _)];rfl);(have b:rT N=E:=by have:=R.o;rw[hN0,ah rfl]at this;exact this);have S:Hx N.kc:=λv hv id hid=>by
   have:=vS hN0 v hv;unfold CH at this;split at this
   .split at this;rename_i h;have:=dz.1 h id hid;rw[<-Q.o];simpa using this;omega
   omega
  obtain⟨M,T⟩:∃M,eL N=M:=⟨_,rfl⟩;obtain⟨⟨LE,LL⟩,OP⟩:=lh (gw N M (lq N));obtain⟨q,hq,hqm⟩:=IG (N:=N);obtain⟨lb,hlb⟩:=lh (qX N);rw[rT,yD,T,OP,hq,hlb,<-Q.o]at b;have J:e3 N M:=T▸pO _ _ e3.nil;have Qc:=J.len;rw[<-Q.o]at Qc hqm;(have xE:Hx (∀id∈M,1<=id/\id<=k):=ae λid hid=>by have:=bn.1 (J.ids id hid);rw[<-Q.o]at this;exact this);have HO:=ae T;have K:=ae OP;have HU:Hx (fj N=(q:Int)/\qX N=lb):=ae ⟨hq,hlb⟩;dsimp only at b;clear T OP hq hlb J HD R hN0;by_cases hl:M.length=k
  .rw[ah hl]at b;have F:=ae hl;clear hl Qc;by_cases h0:LE=0
   .subst h0;rw[ah rfl]at b;have hly:=Au _ _ _ K (λz hz=>by
     rcases cw.1 hz with rfl|hz
     .exact D.o.2.1
     .rw[eH hz];simp)
    have C:Hx (LL=k+1):=ae (by rw[hly.1,Q.o];simp[lq]);have Iz:=ae hly.2;clear hly;rcases lb with _|_
    .obtain rfl:E=23:=b.symm;obtain⟨rfl,rfl,rfl⟩:=iw hE hV om;clear b;go_wp2_with (first|(go_at_call 121;refine(pP D S hs HO F).mono ?_;rintro e u ⟨A4,c4,rfl,sO4,U,p4⟩)|(go_at_call 122;refine(Gs D S om xE K C).mono ?_;rintro e u ⟨A5,c5,ss,rfl,sh,lc5,V,p5,fS⟩)|(go_at_call 123;refine(Dt D S HU).mono ?_;rintro e u ⟨rfl,_⟩));exact xT0
    rw[ah rfl,aZ]at b;obtain⟨zq,hzq⟩:=lh (LL.getD q []);rw[hzq]at b;have HZQ:=ae hzq;obtain⟨V6,To⟩:=lh (bz zq);obtain⟨J6,hJ6⟩:=lh (cA zq);rw[To,hJ6]at b;have Ku:=ae To;have HJ6:=ae hJ6;have xh:=ae b;clear hzq To hJ6 b;go_upto_region 26 with(first|(go_at_call 121;refine(pP D S hs HO F).mono ?_;rintro e u ⟨A4,c4,rfl,sO4,U,p4⟩)|(go_at_call 122;refine(Gs D S om xE K C).mono ?_;rintro e u ⟨A5,c5,ss,rfl,sh,lc5,V,p5,fS⟩)|(go_at_call 123;refine(Dt D S HU).mono ?_;rintro e u ⟨rfl,_⟩));obtain⟨b5,o5,A6,m6,c6,z6,rfl,ob5,v5,s6,l6,e6⟩:=sh.get (k:=q) om;(have hz6:LL[q]?=some z6:=by have:=e6.o;rwa[V.o]at this);(obtain rfl:z6=zq:=by rw[<-HZQ.o,aQ,hz6];rfl);(have hm6:m6<=100000:=by rw[s6.len];exact Iz.o _ (aC hz6));clear hz6;by_cases hj:J6=0
    .by_cases hv:V6=1
     .subst hj hv;(obtain rfl:E=0:=by rw[<-xh.o,ah ⟨rfl,rfl⟩]);(obtain⟨rfl,rfl,rfl⟩:M=O/\LL=L/\(q:Int)=l:=by have h:=hV.o;rw[dB,hE.o,ah rfl,HO.o,K.o,HU.o.1]at h;simpa using h);go_wp2_with (go_at_call 73;refine mv (h5 om Ku HJ6) λu7 _=>?_);have hx:w.1.size+1<wr.1.size:=(aq:Bx wr (w.1.size+1) _ _).ak.lt;refine aX (v:=.tuple #[.agg #[(A4,k,c4),.slice (some ⟨b5,o5,none⟩) (k+1) c5,q],an]) ?_ rfl ⟨A4,c4,some ⟨b5,o5,none⟩,c5,ss,by rw[F.o,C.o],As (U.at (w':=u7)) hx,by rw[C.o];exact Uj aq fS (bu hx p4.st.size),by rw[C.o];exact lc5,V,eC,fS.less (by have:=p4.st.size;omega)⟩;exact xT6
     obtain rfl:E=23:=by rw[<-xh.o,ag (λh=>hv h.2)]
     obtain⟨rfl,rfl,rfl⟩:=iw hE hV om;subst hj;(have b1:(V6 !=1)=true:=by simp[hv]);clear hv;exact xT4
    obtain rfl:E=23:=by rw[<-xh.o,ag (λh=>hj h.1)]
    obtain⟨rfl,rfl,rfl⟩:=iw hE hV om;(have b1:(J6 !=0)=true:=by simp[hj]);clear hj;exact xT4
   rw[ag h0]at b;obtain rfl:E=LE:=b.symm;obtain⟨rfl,rfl,rfl⟩:=iw hE hV h0;(have b0:(E !=0)=true:=by simp[h0]);obtain⟨y,C⟩:=kS LL.length;clear b h0;go_wp2_with (first|(go_at_call 121;refine(pP D S hs HO F).mono ?_;rintro e u ⟨A4,c4,rfl,sO4,U,p4⟩)|(go_at_call 122;refine(Gs D S om xE K C).mono ?_;rintro e u ⟨A5,c5,ss,rfl,sh,lc5,V,p5,fS⟩));refine aX (v:=.tuple #[.agg #[(),(),an],E]) ?_ rfl (gS eC);exact xT6
  rw[ag hl]at b;obtain rfl:E=22:=b.symm;obtain⟨rfl,rfl,rfl⟩:=iw hE hV om;have F:Hx (M.length=M.length):=rfl;(have b0:((M.length:Int) !=(k:Int))=true:=by simp;omega);clear b hl;go_wp2_with (go_at_call 121;refine(pP D S hs HO F).mono ?_;rintro e u ⟨A4,c4,rfl,sO4,U,p4⟩);refine aX (v:=.tuple #[.agg #[(),(),an],(22:Int)]) ?_ rfl (gS eC);exact xT6
 obtain rfl:E=12:=by rw[<-hE.o,bo,ag (by rw[<-Q.o];exact c1)]
 obtain⟨rfl,rfl,rfl⟩:=iw hE hV om;by_cases c2:1<=m;focus have c3:(m:Int)>512:=by omega
 rotate_left;focus obtain rfl:m=0:=om
 all_goals go_wp2_with fail;refine aX (v:=.tuple #[.agg #[(),(),an],(12:Int)]) ?_ rfl (gS ?_);exact xT6;exact aF
def rV(N:bm):Int->List Int->Bool
 |_,[]=>true
 |b,id::r=>if bS N id=[b]then rV N id r else false
def chainB(N:bm):Bool:=if bo N=0 then rV N 0 (eL N)else false
def uF(w:aa)(E:Int)(O:au)(e:Ending)(w':aa):Prop:=∃A c,e=.returned (.tuple #[.slice A O c,E])/\aB w' w.1.size 3 A c O/\aj w' w
def j1[aW w A n B m N](b:Hx N.fits)(hs:Hx N.small)(j:Hx (bo N=E)):() 40 #[.agg #[(A,n,c),(B,m,d)]] w (aJ w E):=by
 have F:=@ay;have G:=@aO;obtain⟨⟨O,L,l⟩,r⟩:=kS (dB N);go_in;go_wp2_with (go_at_call 72;refine(rU b hs j r).mono ?_;rintro e u ⟨AO,cO,AL,cL,I,rfl,y,z,C,D,J,K⟩);go_ret;exact bB
def Av[aW w A n B m N](j:Hx N.fits)(hs:Hx N.small)(r:Hx (bo N=E))(y:Hx (dB N=(O,L,l))):() 60 #[.agg #[(A,n,c),(B,m,d)]] w (uF w E O):=by
 have F:=@ay;have G:=@aO;go_in;go_wp2_with (go_at_call 72;refine(rU j hs r y).mono ?_;rintro e u ⟨AO,cO,AL,cL,I,rfl,b,z,C,D,J,K⟩);go_ret2;exact⟨AO,cO,rfl,b.at.more ai,aF⟩
def Dy[aW w A n B m N](r:Hx N.fits)(hs:Hx N.small)(y:Hx (bo N=E))(z:Hx (dB N=(O,L,l))):() 28 #[.agg #[(A,n,c),(B,m,d)]] w (NH w L E):=by
 have I:=@ay;have J:=@aO;go_in;go_wp2_with (go_at_call 72;refine(rU r hs y z).mono ?_;rintro e u ⟨AO,cO,AL,cL,C,rfl,D,F,b,j,K,G⟩);go_ret2;exact⟨AL,cL,C,rfl,aq,b,j,aF,G.less ai⟩
def yE[aW w A n B m N](b:Hx N.fits)(hs:Hx N.small)(j:Hx (bo N=E))(r:Hx (dB N=(O,L,l))):() 61 #[.agg #[(A,n,c),(B,m,d)]] w (aJ w (.tuple #[l,E])):=by
 have F:=@ay;have G:=@aO;go_in;go_wp2_with (go_at_call 72;refine(rU b hs j r).mono ?_;rintro e u ⟨AO,cO,AL,cL,I,rfl,y,z,C,D,J,K⟩);go_ret2;exact bB
def xT5(h:Γ:=by go_wp2_with fail;go_ret;exact bB):=h
def IH[a:aW w A n B m N](hf:Hx N.fits)(hs:Hx N.small){b:Bool}(HB:Hx (chainB N=b)):() 196 #[.agg #[(A,n,c),(B,m,d)]] w (aJ w (.bool b)):=by
 obtain⟨CB,CP,FB⟩:=ia;have HM:Hx (m=N.nodes):=a.len;have hm:m<=1000:=by rw[HM.o];exact hs.o.1
 obtain⟨⟨O,L,l⟩,hV⟩:=lh (dB N);obtain⟨E,hE⟩:=lh (bo N);have y:=HB.o;rw[chainB,hE]at y;have T:=ae hE;have HV:=ae hV;clear hE;go_in;by_cases Q:E=0
 .subst Q;rw[ah rfl]at y;(have hO:eL N=O:=by have h:=hV;rw[dB,T.o,ah rfl]at h;exact(eQ h).1);rw[hO]at y;have r:e3 N O:=hO▸pO _ _ e3.nil;(have U:Hx (∀id∈O,1<=id/\id<=m):=ae λid hid=>by have:=bn.1 (r.ids id hid);rw[<-HM.o]at this;exact this);(have hOl:O.length<=1000:=by have:=r.len;have:=hs.o.1;omega);have F:=ae y;clear y hO r hV;go_wp2_with (go_at_call 72;refine(rU hf hs T HV).mono ?_;rintro e u ⟨AO,cO,AL,cL,sL,rfl,G,V,X,Y,pL,fL⟩);have sO:Sl _ AO O O:=⟨G.rd,rfl⟩;refine aE (λx _ _=>?_);go_loopw [5,19] (λs i wr=>∃(j:Nat) (C:Int),j<=O/\i=.int .i64 j/\s=.int .i64 C/\Hx (rV N C (O.drop j)=b)/\aj wr x) (λ_ i _=>O.length-(intOf i).toNat);exact⟨0,0,aM _,rfl,rfl,F,⟨aV _ _⟩⟩;clear F;obtain⟨j,C,hj,rfl,rfl,Z,hp⟩:=hrel;have sW:Sl wr AO O O:=aq;by_cases bE:j<O
  .obtain⟨b9,q9,id,rfl,T6,v9,J⟩:=sW.get bE;obtain⟨Gm,Gn⟩:=U.o id (aC J.o);obtain⟨t,ht⟩:=bJ (show 0<=id-1 by omega);(obtain rfl:id=(t:Int)+1:=by omega);have Aj:t<m:=om;(have w2:(t:Int)+1-1=t:=by omega);obtain⟨b0,q0,o,A1,n1,c1,I,ni,ci,ins,P,np,cp,ps,rfl,ob,⟨v0,v1,v2,v3,v4,v5,v6,v7,v8,Lz⟩,s1,R,sp,l1,li,lp,ik,K⟩:=a.node Aj;have qm:ni<=1000:=by have:=hs.o.2 _ (aC K.o);rw[R.len];exact this
   have D:Hx ((if ins=[C]then rV N ((t:Int)+1) (O.drop (j+1))else false)=b):=ae (by
    have h:=Z.o;obtain⟨M,h2⟩:=a8.1 J.o;rw[ed M,h2,rV,bS,show((t:Int)+1-1).toNat=t from om,K.o]at h;exact h)
   clear ht Gm Gn Z;by_cases M:ni=1
   .subst M;obtain⟨z,rfl⟩:∃z,ins=[z]:=List.length_eq_one_iff.1 R.len.symm;obtain⟨b2,q2,z',rfl,jU,vz,ez⟩:=R.get (o9 0);(obtain rfl:z=z':=by have:=ez.o;simpa using this);rw[ef]at vz;by_cases S:z=C
    .subst S;have HD2:Hx (rV N ((t:Int)+1) (O.drop (j+1))=b):=ae (by have:=D.o;rwa[ah rfl]at this);clear D;go_wp2_with fail;go_roundw;exact⟨j+1,_,om,by go_num,rfl,HD2,aF⟩;exact xT1
    obtain rfl:b=false:=by have:=D.o;rw[ag (by simpa using S)]at this;exact this.symm
    have b0:(z !=C)=true:=by simp[S]
    clear D S;exact xT5
   obtain rfl:b=false:=by have:=D.o;rw[ag (λe=>M (by rw[R.len,e];rfl))]at this;exact this.symm
   have b0:((ni:Int) !=1)=true:=by simp;omega
   clear D M;exact xT5
  obtain rfl:b=true:=by have:=Z.o;rw[eF om]at this;exact this.symm
  have Ly:j=O:=om;subst Ly;exact xT5
 obtain rfl:b=false:=by rw[ag Q]at y;exact y.symm
 have b0:(E !=0)=true:=by simp[Q]
 clear Q hV y;go_wp2_with (go_at_call 72;refine(rU hf hs T HV).mono ?_;rintro e u ⟨AO,cO,AL,cL,sL,rfl,G,V,X,Y,pL,fL⟩);go_ret;exact bB
end Go.Proofs.YtmkjnlifimffkaaGreat
