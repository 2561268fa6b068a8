/- Lemmas. -/
import Derived.Test.YtmkjnlifimffkaaGreatG03
import Derived.Test.YtmkjnlifimffkaaGreatG09
namespace Go.Proofs.YtmkjnlifimffkaaGreat
open Go.RowKit Tryz
set_option linter.all false
set_option maxRecDepth 100000
set_option maxHeartbeats 0
variable{Γ:Prop}
attribute[local irreducible]Calls
variable{w':World}{A B:Option Addr}{c d i j m:Nat}
structure dV where
 o:ir
 ins:List Int
 P:List (List Int)
structure a6 where
 ed:List Int
 nodes:List dV
structure Nd where
 o:ir
 A:Option Addr
 n:Nat
 c:Nat
 I:Option Addr
 ni:Nat
 ci:Nat
 ins:List Int
 P:Option Addr
 np:Nat
 cp:Nat
 ps:List Sp
def Nd.val(x:Nd):dV:=⟨x.o,x.ins,aX x.ps⟩
abbrev Tx(o:ir)(S I P:Value):List Value:=[.int .i64 o.kd,.int .i64 o.k,.int .i64 o.wd,.int .i64 o.st,.int .i64 o.sd,.int .i64 o.fr,.int .i64 o.tt,S,I,P]
structure QU(w:World)(b o:Nat)(x:Nd):Prop where
 old:b<w
 cs:∀j v,(Tx x.o (.slice x.A x.n x.c) (.slice x.I x.ni x.ci) (.slice x.P x.np x.cp))[j]?=some v->w.cell? (b,o+j)=some v
 s:Sl w x.A x.n x.o.S
 i:Sl w x.I x.ni x.ins
 p:dX w x.P x.np x.ps
 ls:x.n<=x.c
 li:x.ni<=x.ci
 lp:x.np<=x.cp
 k6:bf x.o.k
def QU.below{w w':ab}{b o:Nat}{x:Nd}(h:QU w b o x)(hb:Below w.1.size w w'):QU w' b o x:=
 ⟨bN h.old hb.size,λj v e=>(hb.cell (p:=⟨b,o+j,none⟩) h.old).trans (h.cs j v e),⟨h.s.rd.below hb,h.s.len⟩,⟨h.i.rd.below hb,h.i.len⟩,⟨h.p.rd.below hb,h.p.len⟩,h.ls,h.li,h.lp,h.k6⟩
def ack(w:ab)(A:bz)(xs:List Nd):Prop:=∀j x,xs[j]?=some x->∃b o,A=some ⟨b,o,none⟩/\QU w b (o+j*10) x
class aW(w:World)(A:Option Addr)(n:Nat)(B:Option Addr)(m:Nat)(N:outParam a6):Prop where
 ed:Sl w A n N.ed
 nds:∃xs,ack w B xs/\xs.map Nd.val=N.nodes
 len:m=N.nodes
section
variable{w:World}{n:Nat}{N:a6}
instance(priority:=low) aW.step[p:aj w' w][h:aW w A n B m N]:aW w' A n B m N:=
 ⟨⟨h.ed.rd.below p.st,h.ed.len⟩,by
  obtain⟨xs,l,r⟩:=h.nds;exact⟨xs,λj x u=>by obtain⟨b,o,e,k⟩:=l j x u;exact⟨b,o,e,k.below p.st⟩,r⟩,h.len⟩
def aW.node(h:aW w A n B m N){k:Nat}(u:k<m):∃b q o e n1 c1 I ni ci ins P np cp ps,B=some ⟨b,q,none⟩/\Old b w/\
  (w.cell? (b,q+k*10)=some (.int .i64 o.kd)/\w.cell? (b,q+k*10+1)=some (.int .i64 o.k)/\w.cell? (b,q+k*10+2)=some (.int .i64 o.wd)/\w.cell? (b,q+k*10+3)=some (.int .i64 o.st)/\w.cell? (b,q+k*10+4)=some (.int .i64 o.sd)/\
   w.cell? (b,q+k*10+5)=some (.int .i64 o.fr)/\w.cell? (b,q+k*10+6)=some (.int .i64 o.tt)/\w.cell? (b,q+k*10+7)=some (.slice e n1 c1)/\w.cell? (b,q+k*10+8)=some (.slice I ni ci)/\w.cell? (b,q+k*10+9)=some (.slice P np cp))/\
  Sl w e n1 o.S/\Sl w I ni ins/\dX w P np ps/\Le n1 c1/\Le ni ci/\Le np cp/\I6 o.k/\Z (N.nodes[k]?=some ⟨o,ins,aX ps⟩):=by
 obtain⟨xs,r,j⟩:=h.nds;have l:k<xs:=by have:=di List.length j;rw[bn,<-h.len]at this;omega
 obtain⟨b,q,rfl,t⟩:=r k _ (bk l);refine⟨b,q,xs[k].o,xs[k].A,xs[k].n,xs[k].c,xs[k].I,xs[k].ni,xs[k].ci,xs[k].ins,xs[k].P,xs[k].np,xs[k].cp,xs[k].ps,rfl,⟨t.old⟩,⟨t.cs 0 _ rfl,t.cs 1 _ rfl,t.cs 2 _ rfl,t.cs 3 _ rfl,t.cs 4 _ rfl,t.cs 5 _ rfl,t.cs 6 _ rfl,t.cs 7 _ rfl,t.cs 8 _ rfl,t.cs 9 _ rfl⟩,t.s,t.i,t.p,⟨t.ls⟩,⟨t.li⟩,⟨t.lp⟩,⟨t.k6⟩,U ?_⟩;rw[<-j,bo,bk l];rfl
end
def eB(L:List Bool):Array Value:=(L.map Value.bool).toArray
def ce{L:List Bool}{v:Bool}(h:L[j]?=some v):(eB L)[j]?=some (.bool v):=by simp[eB,h]
def m6(L:List Bool)(j:Nat)(v:Bool):(eB L).setIfInBounds j (.bool v)=eB (L.set j v):=by simp[eB,uG,jb]
def Ty(n:Nat):madeCells #[.bool false] n=eB (List.replicate n false):=by
 apply pK;rw[Gz];simp[eB]
def iQ(N:a6)(i j:Nat)(id:Nat):Bool:=(N.nodes.take i).any (λv=>v.ins.contains (id:Int))||(((N.nodes[i]?.map (·.ins)).getD []).take j).contains (id:Int)
def hx(N:a6)(i j:Nat):List Bool:=(List.range (N.nodes.length+1)).map (iQ N i j)
def a6.ko(N:a6):Prop:=∀v∈N.nodes,∀id∈v.ins,0<=id/\id<=N.nodes.length
def a6.fits(N:a6):Prop:=N.nodes.length<=100000/\N.ed.length<=100000/\∀v∈N.nodes,v.ins.length<=100000/\v.o.S.length<=100000/\v.P.length<=100000/\∀z∈v.P,z.length<=100000
def EG(N:a6):List Nat:=(List.range (N.nodes.length+1)).filter λid=>!iQ N N.nodes.length 0 id
def gj(N:a6):Int:=((EG N).getLastD 0:Nat)
def rQ(N:a6):Bool:=decide ((EG N).length=1)&&decide (gj N≠0)
section
variable{N:a6}
def ul(i j:Nat):(hx N i j).length=N.nodes+1:=by simp[hx]
def KF:hx N 0 0=List.replicate (N.nodes.length+1) false:=by
 rw[zP];refine⟨ul 0 0,λb hb=>?_⟩;obtain⟨id,_,rfl⟩:=cw.1 hb;simp[iQ]
def zJ4(h:Γ:=by rw[hx,bo];by_cases h:q<N.nodes.length+1;rw[il h,ah h];rfl;rw[ej (by simpa using h),ag h];rfl):=h
def KG{k:Nat}{v:dV}(hv:N.nodes[i]?=some v)(m:v.ins[j]?=some (k:Int)):(hx N i j).set k true=hx N i (j+1):=by
 apply eo;intro q;rw[iI];have hq:∀q,(hx N i j)[q]?=if q<N.nodes.length+1 then some (iQ N i j q)else none:=λq=>zJ4;have l:(hx N i (j+1))[q]?=if q<N.nodes.length+1 then some (iQ N i (j+1) q)else none:=zJ4;have e:∀q,iQ N i (j+1) q=(iQ N i j q||decide (q=k)):=λq=>by unfold iQ;rw[hv];simp only[pN,sC];rw[i5,m,List.contains_append,<-Bool.or_assoc];congr 1;simp;omega
 rw[l,ul,e];by_cases h:k=q;subst h;rw[ah rfl];by_cases b:k<N.nodes+1;rw[ah b,ah b];simp;rw[ag b,ag b];rw[ag h,hq];have:decide (q=k)=false:=by simp;omega
 rw[this,PR]
def KH{v:dV}(hv:N.nodes[i]?=some v):hx N i v.ins.length=hx N (i+1) 0:=by
 unfold hx;refine iG λq _=>?_;unfold iQ;rw[hv,i5,hv];simp
end
section
variable{w:World}{n:Nat}{N:a6}
def zJ5(h:Γ:=by simpa[Value.cells]using this Y):=h
def zJe(h:Γ:=by rw[hs];simp;omega):=h
def zJf(h:Γ:=by rw[hb];simp;omega):=h
def n4(k:Nat)(j:k<=1000000)(W:ab):(Instr.makeSlice 106 (k:Int) (k:Int)).run prog W=.ok (W,k,k) (W.alloc (.cells (eB (List.replicate k false)) 4)):=by
 obtain⟨i,hi,b⟩:=bJ.1 (show(prog.info? 4).map (λi=>(i.zero,i.size,i.bytes))=some (some (.bool false),1,1)from by kernel_rfl);simp only[dS]at b;obtain⟨e,hs,hb⟩:=b;have:=nN (P:=prog) W 106 4 i _ underlying106 hi e .i64 .i64 k k Y (eb _) zJe zJf;rw[hs]at this;rw[<-Ty];exact zJ5
def qN(N:a6)(k j:Nat):List Nat:=(List.range j).filter λid=>!iQ N k 0 id
def XF{k:Nat}(h:iQ N k 0 j=false):qN N k (j+1)=qN N k j++[j]:=by
 unfold qN;rw[iK,zS];simp[h]
def Tz{k:Nat}(h:iQ N k 0 j=true):qN N k (j+1)=qN N k j:=by
 unfold qN;rw[iK,zS];simp[h]
def zJ0(h:Γ:=by simp[intOf];omega):=h
def zJ9(h:Γ:=by go_wp2_with fail;go_ret2;exact bF):=h
def FD[a:aW w A n B m N](T:Z N.fits)(hr:Z N.ko){l:Int}{b:Bool}(K:Z (gj N=l/\rQ N=b)):() 123 #[.agg #[(A,n,c),(B,m,d)]] w (aL w (.tuple #[l,.bool b])):=by
 obtain⟨CB,CP,FB⟩:=gW;have E:Z (m=N.nodes):=a.len;have hm:m<=100000:=by rw[E.o];exact T.o.1
 have L:∀W:World,(Instr.makeSlice 106 ((m:Int)+1:Int) ((m:Int)+1:Int)).run prog W=.ok (.slice (some ⟨W.1.size,0,none⟩) (m+1) (m+1)) (W.alloc (.cells (eB (List.replicate (m+1) false)) 4)):=λW=>by have h:=n4 (m+1) Y W;rwa[en]at h
 go_in;go_wp2_with fail;obtain⟨v,hv⟩:=lg ((w.alloc (.cells #[(A,n,c),(B,m,d)] 33)).alloc (.cells (eB (List.replicate (m+1) false)) 4));have pv:aj v w:=hv▸aC;have kN:Bx v w.1.size 33 #[(A,n,c),(B,m,d)]:=hv▸am;have kU:aA v (w.1.size+1) 4 (eB (hx N 0 0)):=by rw[KF,<-E.o,hv];exact(am:Bx _ (w.1.size+1) _ _).ak
 rw[<-hv];clear L hv;go_loopw [21] (λi wr=>∃k:Nat,k<=m/\i=.int .i64 k/\aA wr (w.1.size+1) 4 (eB (hx N k 0))/\aj wr w) (λi _=>m-(intOf i).toNat);exact⟨0,aR _,rfl,kU,pv⟩;obtain⟨k,hk,rfl,y,hp⟩:=hrel;by_cases M:k<m
 .obtain⟨b0,q0,o,A1,n1,c1,I,ni,ci,ins,P,np,cp,ps,rfl,ob,⟨v0,v1,v2,v3,v4,v5,v6,v7,v8,v9⟩,s1,O,sp,l1,li,lp,ik,u⟩:=a.node M;(have ra:ni<=100000:=by have:=(T.o.2.2 _ (aK u.o)).1;rwa[O.len]);have HI:Z (ni=ins):=O.len;go_wp2_with fail;obtain⟨x,Q⟩:=lg (wr.alloc (.cells #[o.kd,o.k,o.wd,o.st,o.sd,o.fr,o.tt,(A1,n1,c1),(I,ni,ci),(P,np,cp)] 84));have px:aj x wr:=Q▸aj.alloc _ _;have R:=y.at (w':=x);rw[<-Q];clear Q y;go_loopw [28] (λi V=>∃j:Nat,j<=ni/\i=.int .i64 j/\aA V (w.1.size+1) 4 (eB (hx N k j))/\aj V w) (λi _=>ni-(intOf i).toNat);exact⟨0,aR _,rfl,R,aC⟩;obtain⟨j,hj,rfl,e,hpy⟩:=hrel;by_cases C:j<ni
  .obtain⟨b2,q2,z,rfl,iM,vz,X⟩:=O.get C;have S:=hr.o _ (aK u.o) z (aK X.o);rw[<-E.o]at S;obtain⟨q,rfl⟩:=bO S.1;have hq:q<m+1:=Y;have G:=e.cell q;rw[ce (bk (by rwa[ul,<-E.o]))]at G;have D7:=e.frozen q;have hK:=e.av q (.bool true);rw[m6,KG u.o X.o]at hK;have HK:=U hK;clear hK S;go_wp2_with fail;go_roundw;exact⟨j+1,Y,by go_num,HK,⟨(aO w wr).setCell (p:=⟨w.1.size+1,q,none⟩) (db _) _⟩⟩;exact zJ0
  obtain rfl:j=ni:=Y;rw[HI.o,KH u.o]at e;go_wp2_with fail;go_roundw;exact⟨k+1,Y,by go_num,e,aC⟩;exact zJ0
 obtain rfl:k=m:=Y;go_wp2_with fail;have hQ:∀q,q<k+1->(eB (hx N k 0))[q]?=some (.bool (iQ N k 0 q)):=λq hq=>ce (by rw[hx,bo,il (by rwa[<-E.o])];rfl);have HQ:=U hQ;clear hQ;go_loopw [9,10,39] (λs t i wr=>∃j:Nat,j<=k+1/\i=.int .i64 j/\s=.int .i64 ((qN N k j).getLastD 0:Nat)/\t=.int .i64 ((qN N k j).length:Nat)/\aA wr (w.1.size+1) 4 (eB (hx N k 0))/\aj wr w) (λ_ _ i _=>k+1-(intOf i).toNat);exact⟨0,aR _,rfl,rfl,rfl,y,hp⟩;obtain⟨j,hj,rfl,rfl,rfl,r,hp'⟩:=hrel;by_cases C:j<k+1
 .have G:=(r.cell j).trans (HQ.o j C);(have Oi:(j:Int)<(k:Int)+1:=by omega);rcases hb:iQ N k 0 j with _|_
  .have F:=U (XF hb);rw[hb]at G;(have hll:(qN N k j).length<=j:=by unfold qN;exact aQ (List.length_filter_le _ _) aI);clear hb;go_wp2_with fail;go_roundw;exact⟨j+1,Y,by go_num,by rw[F.o];simp,by rw[F.o];simp,r,aC⟩;exact zJ0
  have F:=U (Tz hb);rw[hb]at G;clear hb;go_wp2_with fail;go_roundw;exact⟨j+1,Y,by go_num,by rw[F.o],by rw[F.o],r,aC⟩;exact zJ0
 obtain rfl:j=k+1:=Y;have hu:qN N k (k+1)=EG N:=by unfold qN EG;rw[<-E.o]
 rw[hu];obtain⟨J,D⟩:=lh ((EG N).length);have hL:(((EG N).getLastD 0:Nat):Int)=l:=K.o.1;have hB:(decide (J=1)&&decide (l≠0))=b:=by rw[<-K.o.2,rQ,D,K.o.1]
 rw[D,hL];have HB:=U hB;clear D hL hB hu;by_cases c1:J=1
 .have d1:((J:Int)==1)=true:=by simp[c1]
  have HC:=U c1;clear c1;go_wp2_with fail;go_ret2;exact⟨by rw[<-HB.o,ea HC.o];by_cases h:l=0<;>simp[h],aC⟩
 have d1:((J:Int)==1)=false:=by simp;omega
 obtain rfl:b=false:=by rw[<-HB.o,ew c1];rfl
 clear c1;exact zJ9
end
variable{X:World}{C:Option Addr}{g:Nat}{ss:List Sp}{L:List (List Int)}{ord:List Int}{T T':TypeId}{kx:Array Value}{E:Int}
def gR(b:List Sp):Array Value:=(b.map λx=>Value.slice x.A x.m x.c).toArray
@[grind cases]structure po(w:World)(g:Nat)(ss:List Sp):Prop where
 ak:aA w g 25 (gR ss)
 el:∀x∈ss,Rd w x.A x.zs/\x.m=x.zs.length/\x.m<=x.c/\bL (g+1) x.A
def d7(v:dV)(L:f0):List (List Int):=v.ins.map λi=>L.getD i.toNat []
def gE(N:a6):List Int->List (List Int)->Int×List (List Int)
 |[],L=>(0,L)
 |id::r,L=>
  match N.nodes[(id-1).toNat]? with
  |none=>(0,L)
  |some v=>if dr v.o v.P (d7 v L)=0 then gE N r (L.set id.toNat (cy v.o v.P (d7 v L)))else(dr v.o v.P (d7 v L),[])
def lF(N:a6):List (List Int):=N.ed::List.replicate N.nodes.length []
structure pp(B:Nat)(A:Option Addr)(ss:List Sp):Prop where
 hd:bL B A
 el:∀x∈ss,bL B x.A
def pp.no{B:Nat}:pp B none []:=⟨bL.none,λx b=>absurd b aI⟩
def pp.less{B b:Nat}{A:bz}{e:List Sp}(h:pp B A e)(j:b<=B):pp b A e:=⟨h.hd.less j,λx l=>(h.el x l).less j⟩
theorem dX.setCell{w:ab}{B n:Nat}{A:bz}{e:List Sp}{p:Addr}(h:dX w A n e)(f:pp B A e)(hp:p.block<B)(v:Value):dX (w.setCell p v) A n e:=
 ⟨λj x r=>by
  obtain⟨b,o,rfl,hb,y,z,u,C⟩:=h.rd j x r;have l:b≠p.block:=by have:=f.hd.o _ rfl;simp at this;omega
  exact⟨b,o,rfl,by simpa using hb,(d4 (bb w p v b l)).trans y,((⟨z,u⟩:Sl w x.A x.m x.zs).setCell (f.el x (aK r)) hp v).rd,u,C⟩,h.len⟩
def QV(w:ab)(L:f0)(E:Int)(e:Ending)(w':ab):Prop:=∃A c b,e=.returned (.tuple #[.slice A L c,E])/\dX w' A L.length b/\Le L.length c/\Z (aX b=L)/\aj w' w/\pp w.1.size A b
section
variable{w:World}{n k:Nat}{N:a6}{x:Sp}
def iZ(h:ss[j]?=some x):(gR ss)[j]?=some (.slice x.A x.m x.c):=by simp[gR,h]
def B1(j:Nat):(gR ss).setIfInBounds j (.slice x.A x.m x.c)=gR (ss.set j x):=by simp[gR,uG,jb]
def KI(j:Nat):aX (ss.set j x)=(aX ss).set j x.zs:=by simp[aX,jb]
def dN:Sp:=⟨none,0,0,[]⟩
def FE(n:Nat):madeCells #[()] n=gR (List.replicate n dN):=by
 apply pK;rw[Gz];simp[gR,dN]
def mh(k:Nat)(j:k<=1000000)(W:ab):(Instr.makeSlice 82 (k:Int) (k:Int)).run prog W=.ok (W,k,k) (W.alloc (.cells (gR (List.replicate k dN)) 25)):=by
 obtain⟨i,hi,b⟩:=bJ.1 (show(prog.info? 25).map (λi=>(i.zero,i.size,i.bytes))=some (some (.slice none 0 0),1,24)from by kernel_rfl);simp only[dS]at b;obtain⟨e,hs,hb⟩:=b;have:=nN (P:=prog) W 82 25 i _ underlying82 hi e .i64 .i64 k k Y (eb _) zJe zJf;rw[hs]at this;rw[<-FE];exact zJ5
def po.at(h:po w g ss)[l:aM w w']:po w' g ss:=⟨h.ak.at,λx b=>⟨(h.el x b).1.below l.st,(h.el x b).2⟩⟩
def po.new(hg:aA w g 25 (gR (List.replicate k dN))):po w g (List.replicate k dN):=⟨hg,λx b=>by rw[e3 b];exact⟨Rd.nil _ _,rfl,al _,bL.none⟩⟩
def po.av(h:po w g ss)(j:Nat)(hr:Rd w x.A x.zs)(hm:x.m=x.zs.length)(r:x.m<=x.c)(e:bL (g+1) x.A):po (w.setCell (g,j) (.slice x.A x.m x.c)) g (ss.set j x):=by
 have aV:∀{A:bz} {zs:au},Rd w A zs->bL (g+1) A->Rd (w.setCell (g,j) (.slice x.A x.m x.c)) A zs:=λ{A zs} hr e=>
  ((⟨hr,rfl⟩:Sl w A zs zs).setCell (p:=⟨g,j,none⟩) e (nP g) _).rd
 refine⟨by rw[<-B1];exact h.ak.av _ _,λy l=>?_⟩;rcases ij l with l|rfl;obtain⟨a,b,c,d⟩:=h.el y l;exact⟨aV a d,b,c,d⟩;exact⟨aV hr e,hm,r,e⟩
theorem po.TA(h:po w g ss):dX w g ss.length ss:=
 ⟨λj x b=>⟨g,0,rfl,h.ak.lt,by rw[cQ,h.ak.cell,iZ b],(h.el x (aK b)).1,(h.el x (aK b)).2.1,(h.el x (aK b)).2.2.1⟩,rfl⟩
def KJ(ts:List Sp){n:Nat}(b:ts=j)(h:j<n):(gR (ts++List.replicate (n-j) dN)).setIfInBounds j (.slice x.A x.m x.c)=gR ((ts++[x])++List.replicate (n-(j+1)) dN):=by
 rw[B1,show n-j=(n-(j+1))+1 from Y,jM,ky _ _ Y,b,eV,i4];simp
def aa{Q:World->Prop}{cs:dw}(h:∀u,aj u X->Bx u X.1.size T cs->Q u):Q (X.alloc (.cells cs T)):=h _ (aC) am
def dd{Q:World->Prop}{cs:dw}(h:∀u,aj u X->Bx u X.1.size T cs->Bx u (X.1.size+1) T' kx->Q u):Q ((X.alloc (.cells cs T)).alloc (.cells kx T')):=h _ (aC) am am
def qj{Q:World->Prop}{cs:dw}(h:∀b u,aj b X->aj u b->Bx b X.1.size T cs->b.1.size<=X.1.size+1->Bx u (X.1.size+1) T' kx->Q u):Q ((X.alloc (.cells cs T)).alloc (.cells kx T')):=
 h (X.alloc (.cells cs T)) _ (aC) (aC) am aI am
def zJ2(h:Γ:=by go_wp2_with fail;go_roundw;exact⟨q+1,_,Y,by go_num,mf,nB,XH,⟨(aO x0 wr).setCell (p:=⟨v1.1.size+1,q,none⟩) hzx _⟩⟩;exact zJ0):=h
def zJ8(h:Γ:=by rw[cR]at this;rw[sp.len];exact this):=h
def zJb(h:Γ:=by rw[si.len];exact this):=h
def zJg(h:Γ:=by assumption):=h
def ado[a:aW w A n B m N](O:Z N.fits)(hr:Z N.ko)[so:Sl w C k ord](hk:k<=100000)(ho:Z (∀id∈ord,1<=id/\id<=m)){L:f0}(hL:Z (gE N ord (lF N)=(E,L))):
  () 122 #[.agg #[(A,n,c),(B,m,d)],(C,k,g)] w (QV w L E):=by
 obtain⟨CB,CP,FB⟩:=gW;have HM:Z (m=N.nodes):=a.len;have hm:m<=100000:=by rw[HM.o];exact O.o.1
 have sI:=a.ed;have hn:n<=100000:=by rw[sI.len];exact O.o.2.1
 have jF:∀W:World,(Instr.makeSlice 82 ((m:Int)+1:Int) ((m:Int)+1:Int)).run prog W=.ok (.slice (some ⟨W.1.size,0,none⟩) (m+1) (m+1)) (W.alloc (.cells (gR (List.replicate (m+1) dN)) 25)):=λW=>by have h:=mh (m+1) Y W;rwa[en]at h
 have HK:Z (k=ord):=so.len;go_in;go_upto_region 1 with fail;refine aa (λb _ k0=>?_);go_wp2_with (first|(go_at_call 103;refine(ly Y).mono ?_;rintro e u ⟨gS,rfl,sS,fS,_⟩));obtain⟨v,hv⟩:=lg (u.setCell (b.1.size,0) (.slice gS N.ed.length N.ed.length));have V:po u b.1.size (List.replicate (m+1) dN):=po.new (Bx.ak (w:=u) (g:=b.1.size));have Q:=V.av (x:=⟨some ⟨gS,0,none⟩,N.ed.length,N.ed.length,N.ed⟩) 0 sS.rd rfl (al _) (fS.less (Bx.ak (g:=b.1.size)).lt);have pv:aj v b:=⟨hv▸(aO b u).setCell (p:=⟨b.1.size,0,none⟩) (al _) _⟩;rw[<-hv]at Q⊢;have X:po v b.1.size (⟨some ⟨gS,0,none⟩,N.ed.length,N.ed.length,N.ed⟩::List.replicate m dN):=Q;have fN:aX (⟨some ⟨gS,0,none⟩,N.ed.length,N.ed.length,N.ed⟩::List.replicate m dN)=lF N:=by simp[aX,lF,HM.o,dN]
 have hl0:∀z∈lF N,z.length<=100000:=λz hz=>by rcases dE.1 hz with rfl|hz;exact O.o.2.1;rw[e3 hz];simp
 have Ij:=U hl0;have uj:=U fN;clear V Q hv jF fN hl0 sS fS;go_loopw [27] (λi wr=>∃(j:Nat) (ss:List Sp),j<=k/\i=.int .i64 j/\Z (ss=m+1)/\po wr b.1.size ss/\Z (gE N (ord.drop j) (aX ss)=(E,L))/\Z (∀z∈aX ss,z.length<=100000)/\aj wr b) (λi _=>k-(intOf i).toNat);exact⟨0,_,aR _,rfl,U aI,X,by rw[uj.o];exact hL,by rw[uj.o];exact Ij,pv⟩;clear X pv;obtain⟨j,ss,T,rfl,F,R,HLJ,KK,hp⟩:=hrel;by_cases bD:j<k
 .obtain⟨b9,q9,id,rfl,XG,v9,B3⟩:=so.get bD;obtain⟨Ik,B7⟩:=ho.o id (aK B3.o);obtain⟨t,ht⟩:=bO (show 0<=id-1 by omega);(obtain rfl:id=(t:Int)+1:=by omega);have B8:t<m:=Y;(have w2:(t:Int)+1-1=t:=by omega);obtain⟨b0,q0,o,A1,n1,c1,I,ni,ci,ins,P,np,cp,ps,rfl,ob,⟨v0,v1,v2,v3,v4,v5,v6,v7,v8,Oj⟩,s1,si,sp,l1,li,lp,ik,r⟩:=a.node B8;(have ra:ni<=100000:=by have:=(O.o.2.2 _ (aK r.o)).1;exact zJb);have HI:Z (ni=ins):=si.len;have B9:=mh ni Y;clear ht Ik B7;go_wp2_with fail;obtain⟨v1,rfl⟩:=lg wr;refine qj (λx0 x _ _ kx hzx M=>?_);have hSx:=R.at (w':=x0);have S:Z (∀(q:Nat) (z:Int),ins[q]?=some z->ins.take (q+1)=ins.take q++[z]):=λq z h=>take_at h;go_loopw [44] (λi wy=>∃(q:Nat) (ts:List Sp),q<=ni/\i=.int .i64 q/\Z (ts.length=q/\aX ts=(ins.take q).map λi=>(aX ss).getD i.toNat [])/\aA wy (v1.1.size+1) 25 (gR (ts++List.replicate (ni-q) dN))/\Z (∀y∈ts,y∈ss)/\aj wy x0) (λi _=>ni-(intOf i).toNat);exact⟨0,[],aR _,rfl,U ⟨rfl,rfl⟩,by simpa using M.ak,U aI,aC⟩;clear M;obtain⟨q,ts,hq,rfl,l,M,G,rE⟩:=hrel;have D:=hSx.at (w':=wr);by_cases Ol:q<ni
  obtain⟨b2,q2,z,rfl,iM,vz,ez⟩:=si.get Ol;have hz:=hr.o _ (aK r.o) z (aK ez.o);rw[<-HM.o]at hz;obtain⟨y,rfl⟩:=bO hz.1;have hy:y<m+1:=Y;obtain⟨⟨A3,m3,c3,z3⟩,he⟩:∃e0,ss[y]?=some e0:=⟨_,bk (by rwa[F.o])⟩;have EH:=(D.ak.cell y).trans (iZ he);have y2:=M.cell q;rw[show(gR (ts++List.replicate (ni-q) dN))[q]?=some (.slice none 0 0)from by
   rw[iZ (x:=dN)]
   .rfl
   .rw[eT (by rw[l.o.1];exact al _),l.o.1,eV,kw,ah Y]]at y2
  have D7:=M.frozen q;have hK:=M.av q (A3,m3,c3);rw[KJ (x:=⟨A3,m3,c3,z3⟩) ts l.o.1 Ol]at hK;have nB:=U hK;have mf:Z ((ts++[(⟨A3,m3,c3,z3⟩:Sp)]).length=q+1/\aX (ts++[(⟨A3,m3,c3,z3⟩:Sp)])=(ins.take (q+1)).map λi=>(aX ss).getD i.toNat []):=U (by
   refine⟨by simp[l.o.1],?_⟩;rw[S.o q _ ez.o,c9,<-l.o.2];simp only[aX,c9,eh,lM];congr 2;rw[a9,a5,bo,he];rfl)
  have XH:Z (∀y∈ts++[(⟨A3,m3,c3,z3⟩:Sp)],y∈ss):=λy hy=>by rcases cu.1 hy with h|h;exact G.o y h;rw[de.1 h];exact aK he
  clear hK hz he l G;exact zJ2
  obtain rfl:q=ni:=Y;have HX:Z (aX ts=d7 ⟨o,ins,aX ps⟩ (aX ss)):=U (by rw[l.o.2,HI.o,ek];rfl);have xT:dX wr (v1.1.size+1:Nat) q ts:=⟨λj x T=>by
   obtain⟨h1,h2,h3,_⟩:=D.el x (G.o x (aK T));exact⟨v1.1.size+1,0,rfl,M.lt,by rw[cQ,M.cell,iZ (x:=x) (by rw[uE (bj.1 T).1];exact T)],h1,h2,h3⟩,l.o.1.symm⟩
  have e6:Z (∀z∈aX ps++aX ts,z.length<=1000000):=λz hz=>by rcases cu.1 hz with h|h;have:=(O.o.2.2 _ (aK r.o)).2.2.2 z h;omega;obtain⟨y,hy,rfl⟩:=cw.1 h;have:=KK.o y.zs (cw.2 ⟨y,G.o y hy,rfl⟩);omega
  have EI:np<=100000:=by have:=(O.o.2.2 _ (aK r.o)).2.2.1;exact zJ8
  have qW:n1<=100000:=by have:=(O.o.2.2 _ (aK r.o)).2.1;rwa[s1.len]
  obtain⟨V1,J⟩:=l8 (cy o (aX ps) (aX ts));obtain⟨E1,K⟩:=l8 (dr o (aX ps) (aX ts));have HD:Z (ord.drop j=((t:Int)+1)::ord.drop (j+1)):=U (by
   obtain⟨h1,h2⟩:=bj.1 B3.o;rw[<-h2];exact e7 h1)
  have HS:Z ((if E1=0 then gE N (ord.drop (j+1)) ((aX ss).set (t+1) V1)else(E1,[]))=(E,L)):=U (by
   have h:=HLJ.o;rw[HD.o,gE,show((t:Int)+1-1).toNat=t from Y,r.o]at h;simp only at h;rw[<-HX.o,K.o,J.o,show((t:Int)+1).toNat=t+1 from Y]at h;exact h)
  have lt1:t+1<m+1:=Y;obtain⟨e5,he5⟩:∃e0,ss[t+1]?=some e0:=⟨_,bk (by rwa[F.o])⟩;have EJ:=(D.ak.cell (t+1)).trans (iZ he5);have XI:=D.ak.frozen (t+1);have og:Old b.1.size wr:=⟨D.ak.lt⟩;have FP:=@jS;clear he5;by_cases h0:E1=0
  .subst h0;have xD:Z (gE N (ord.drop (j+1)) ((aX ss).set (t+1) V1)=(E,L)):=HS;(have HVl:Z (∀z∈(aX ss).set (t+1) V1,z.length<=100000):=λz hz=>by rcases ij hz with h|rfl;exact KK.o z h;have:=cv (by rw[<-J.o];exact lC K:aH z=true);omega);have lw:(World.heap b).size+1<=(World.heap wr).size:=og.lt;go_wp2_with (go_at_call 74;refine(mn Y Y Y zJg J K).mono ?_;rintro e u ⟨A',c',rfl,sJ,lJ,fJ,_⟩);have XJ:=(D.at (w':=u)).av (x:=⟨A',V1.length,c',V1⟩) (t+1) sJ.rd rfl lJ.le (fJ.less lw);go_roundw;exact⟨j+1,_,Y,by go_num,U (by rwa[ei]),XJ,by rw[KI];exact xD,by rw[KI];exact HVl,⟨(aO b u).setCell (p:=⟨b.1.size,t+1,none⟩) (al _) _⟩⟩;exact zJ0
  have b0:(E1 !=0)=true:=by simp[h0]
  obtain⟨rfl,rfl⟩:E1=E/\[]=L:=by have h:=HS.o;rw[ag h0]at h;exact i7 h
  clear h0;go_wp2_with (go_at_call 74;refine(mn Y Y Y zJg J K).mono ?_;rintro e u ⟨A',c',rfl,sJ,lJ,fJ,_⟩);go_ret2;exact⟨none,0,[],rfl,⟨λj x T=>by simp at T,rfl⟩,Le.same _,U rfl,aC,pp.no⟩
 have HE:Z ((0,aX ss)=(E,L)):=U (by have h:=HLJ.o;rw[eU (by rw[<-HK.o];omega)]at h;exact h);obtain⟨rfl,rfl⟩:=i7 HE;go_wp2_with fail;go_ret2;have hl:(aX ss).length=m+1:=by rw[cR,F.o]
 exact⟨some ⟨b.1.size,0,none⟩,m+1,ss,by rw[hl];rfl,by rw[cR];exact R.TA,⟨dT hl⟩,U rfl,aC,⟨λad e=>by cases e;exact ai (w:=w) (w':=b)⟩,λx hx=>(R.el x hx).2.2.2.less (by have:=ai (w:=w) (w':=b);omega)⟩
end
variable{id y:Int}
def a6.ids(N:a6):List Int:=(List.range N.nodes.length).map λ(i:Nat)=>(i:Int)+1
def bS(N:a6)(v:Int):List Int:=(N.nodes[(v-1).toNat]?.map (·.ins)).getD []
def jB(N:a6)(D:au)(v:Int):Nat:=(bS N v).countP λz=>z !=0&& !D.contains z
def FG(N:a6)(id v:Int):Nat:=(bS N v).count id
def k3(N:a6)(D:au)(v:Int):Bool:=!D.contains v&&decide (jB N D v=0)
def fW(N:a6)(D:au):List Int:=N.ids.filter (k3 N D)
def iw(N:a6)(id:Int):List Int:=N.ids.flatMap λv=>List.replicate (FG N id v) v
def n3(N:a6):Nat->List Int->List Int
 |0,D=>D
 |f+1,D=>
  match fW N D with
   |[]=>D
   |v::_=>n3 N f (D++[v])
def eC(N:a6):List Int:=n3 N N.nodes.length []
def gF(N:a6)(D qaa:au)(v:Int):Nat:=jB N D v-qaa.count v
def Ca(N:a6)(D:au)(id:Int)(qaa:au)(v:Int):Bool:=!(D++[id]).contains v&&decide (gF N D qaa v=0)
def j6(N:a6)(D:au)(id:Int)(qaa:au):List Int:=N.ids.filter (Ca N D id qaa)
section
variable{N:a6}{D qaa L:List Int}{v:Int}
theorem bt:v∈N.ids↔1<=v/\v<=N.nodes:=by
 unfold a6.ids;rw[cw];constructor;grind;intro h;exact⟨(v-1).toNat,ay,Y⟩
def n9:N.ids.Pairwise (· < ·):=by
 unfold a6.ids;rw[List.pairwise_map];exact List.pairwise_lt_range.imp λh=>Y
theorem xE:∀{D L:au},D.Nodup->(∀x∈D,x∈L)->D.length<=L.length
 |[],_,_,_=>aR _
 |x::t,L,h,hs=>by rw[tP]at h;have b:=xE (L:=L.erase x) h.2 ay;grind
theorem m3:N.ids.length=N.nodes.length:=by simp[a6.ids]
theorem xF(b:id≠0)(e:id∉D):jB N (D++[id]) v+FG N id v=jB N D v:=by
 unfold jB FG;induction bS N v with
 |nil=>rfl
 |cons z t j=>grind
theorem yL:∀(L:au) (f:Int->Nat),L.Nodup->v∈L->(L.flatMap λx=>List.replicate (f x) x).count v=f v
 |[],_,_,h=>absurd h aI
 |x::t,f,b,h=>by rw[tP]at b;rw[mu,zQ,List.count_replicate];by_cases e:x=v;grind [List.replicate,List.count_eq_zero];(have hv:v∈t:=by rcases dE.1 h with h|h;exact absurd h.symm e;exact h);rw[yL t f b.2 hv,ag (by simpa using e)];omega
def Om:N.ids.Nodup:=n9.imp λh=>Y
theorem vY(hv:v∈N.ids):(iw N id).count v=FG N id v:=yL _ _ Om hv
theorem On(h:v∈iw N id):v∈N.ids/\0<FG N id v:=by
 obtain⟨x,b,hm⟩:=pD.1 h;grind
theorem FH(b:id≠0)(e:id∉D)(hv:v∈N.ids):gF N D (iw N id) v=jB N (D++[id]) v:=by
 grind [gF,vY,xF]
theorem TB(b:id≠0)(e:id∉D):j6 N D id (iw N id)=fW N (D++[id]):=by
 unfold j6 fW;grind [List.filter_congr,Ca,k3,FH]
theorem vZ{p:Int->Bool}:∀{L:au} {x:Int} {t:au},L.Pairwise (· < ·)->L.filter p=x::t->(L.filter λv=>p v&&v !=x)=t
 |[],_,_,_,h=>by simp at h
 |z::l,x,t,hs,h=>by rw[iJ]at hs;by_cases hp:p z=true;rw[PJ hp]at h;injection h with b e;subst b;rw[zH aI,<-e];(exact uM λv hv=>by have:=hs.1 v hv;(have:(v !=z)=true:=by simp;omega);grind);rw[zH hp]at h;rw[zH (by simp[hp])];exact vZ hs.2 h
theorem KL{t:au}(h:fW N D=id::t):j6 N D id []=t:=by
 rw[<-vZ n9 h];unfold j6;refine uM λv _=>?_;rw[Ca,k3,gF];grind
theorem yM{p:Int->Bool}:∀{L:au},L.Pairwise (· < ·)->y∈L->p y=false->
  (L.filter λv=>p v||v==y)=(L.filter p).take ((L.filter p).countP (· <y))++y::(L.filter p).drop ((L.filter p).countP (· <y))
 |[],_,h,_=>absurd h aI
 |x::t,hs,j,hp=>by rw[iJ]at hs;by_cases e:x=y;subst e;rw[PJ aI,zH (by simp[hp])];(have l:(t.filter p).countP (· <x)=0:=by rw[GC];intro a m;have:=hs.1 a (sE.1 m).1;simp;omega);rw[l];simp only[d8,jN,fl];congr 1;(exact uM λv hv=>by have:=hs.1 v hv;(have:(v==x)=false:=by simp;omega);grind);(have b:y∈t:=by rcases dE.1 j with h|h;exact absurd h.symm e;exact h);have r:=hs.1 y b;have u:=yM hs.2 b hp;grind [List.filter_cons_of_pos,List.countP_cons_of_pos,List.filter_cons_of_neg]
theorem m5(b:qaa.count y<jB N D y):gF N D (qaa++[y]) v=if v=y then gF N D qaa y-1 else gF N D qaa v:=by
 unfold gF;grind
def zJc(h:Γ:=by refine uM λv _=>?_;unfold Ca;rw[m5 b];grind):=h
theorem EK(b:qaa.count y<jB N D y)(h:gF N D qaa y≠1):j6 N D id (qaa++[y])=j6 N D id qaa:=by
 unfold j6;exact zJc
theorem Cb(b:qaa.count y<jB N D y)(h:gF N D qaa y=1)(e:y∈N.ids)(j:y∉D++[id]):
  j6 N D id (qaa++[y])=(j6 N D id qaa).take ((j6 N D id qaa).countP (· <y))++y::(j6 N D id qaa).drop ((j6 N D id qaa).countP (· <y)):=by
 have hp:Ca N D id qaa y=false:=by unfold Ca;rw[h];simp
 unfold j6;rw[<-yM n9 e hp];exact zJc
def Il:(j6 N D id qaa).Pairwise (· <= ·):=(n9.imp λh=>by omega).sublist List.filter_sublist
end
variable{c' q:Nat}{A' D:Option Addr}{z:Int}{zs:List Int}
structure Ur where
 A:Option Addr
 c:Nat
 zs:List Int
def xG(b:List Ur):Array Value:=(b.map λx=>Value.slice x.A x.zs.length x.c).toArray
@[grind cases]structure tp(w:World)(B g:Nat)(US:List Ur):Prop where
 ak:aA w g 24 (xG US)
 own:∀x∈US,aD w B 3 x.A x.c x.zs
 qk:∀(i j:Nat) (x y:Ur),US[i]?=some x->US[j]?=some y->i≠j->∀a b,x.A=some a->y.A=some b->a.block≠b.block
def tH:Ur:=⟨none,0,[]⟩
section
variable{w:World}{B:Nat}{US:List Ur}{x:Ur}{N:a6}
def Cc(h:US[j]?=some x):(xG US)[j]?=some (.slice x.A x.zs.length x.c):=by simp[xG,h]
def XK(j:Nat):(xG US).setIfInBounds j (.slice x.A x.zs.length x.c)=xG (US.set j x):=by simp[xG,uG,jb]
def TC(n:Nat):madeCells #[()] n=xG (List.replicate n tH):=by
 apply pK;rw[Gz];simp[xG,tH]
def tp.at(h:tp w B g US)[l:aM w w']:tp w' B g US:=⟨h.ak.at,λx b=>(h.own x b).keep l.st,h.qk⟩
def tp.new{k:Nat}(h:aA w g 24 (xG (List.replicate k tH))):tp w B g (List.replicate k tH):=
 ⟨h,λx e=>by rw[e3 e];exact aD.nil _ _ _,λi j x y hi _ _ a _ b=>by
  rw[e3 (aK hi)]at b;cases b⟩
def aD.eK{p:Addr}(h:aD w B 3 A c zs)(hp:∀b,A=some b->b.block≠p.block)(v:Value):aD (w.setCell p v) B 3 A c zs:=
 h.same λb e=>bb w p v _ (hp b e)
theorem aD.jE(h:aD w B 3 A c zs)(b:dj C D w w')(j:∀a a',A=some a->C=some a'->a'.block≠a.block):aD w' B 3 A c zs:=
 h.same λl e=>b.off _ (h.lt l e) ay
theorem tp.push(h:tp w B g US)(G:US[i]?=some x)(I:aD w' B 3 A' c' (x.zs++[y]))(r:dj x.A A' w w'):
  tp (w'.setCell (g,i) (.slice A' (x.zs++[y]).length c')) B g (US.set i ⟨A',c',x.zs++[y]⟩):=by
 have u:=aK G;have hg:aA w' g 24 (xG US):=r.ak h.ak ((h.own x u).aF h.ak ao);refine⟨?_,λz C=>?_,λi1 K x1 L hi l D a b E hb=>?_⟩;have:=hg.av i (.slice A' (x.zs++[y]).length c');rwa[XK (x:=⟨A',c',x.zs++[y]⟩)]at this
 .obtain⟨j,l⟩:=fZ C;rw[iI]at l;split at l
  .split at l;cases l;exact I.eK (λF e=>I.aF hg ao F e) _;cases l
  rename_i m;have J:=(h.own z (aK l)).jE r ay;exact J.eK (λF e=>J.aF hg ao F e) _
 have key:∀(j:Nat) (z:Ur),US[j]?=some z->i≠j->∀a b,A'=some a->z.A=some b->a.block≠b.block:=λj z C m a b E hb=>by rcases r.new a E with⟨a0,M,O⟩|Au;rw[O];exact h.qk i j x z G C m a0 b M hb;have:=(h.own z ay).lt b hb;omega
 rw[iI]at hi l;split at hi;grind;split at l;grind;exact h.qk i1 K x1 L hi l D a b E hb
def dQ(N:a6)(i:Nat):List Int:=(N.nodes[i]?.map (·.ins)).getD []
def wT(N:a6)(i j:Nat):List Int:=(0:Int)::(List.range N.nodes.length).map λq=>(((if q<i then dQ N q else if q=i then(dQ N q).take j else[]).countP (· !=0):Nat):Int)
def uT(N:a6)(i j:Nat)(id:Nat):List Int:=if id=0 then[]else((List.range i).flatMap λ(q:Nat)=>List.replicate ((dQ N q).count (id:Int)) ((q:Int)+1))++List.replicate (((dQ N i).take j).count (id:Int)) ((i:Int)+1)
def nG(N:a6)(i j:Nat):List (List Int):=(List.range (N.nodes.length+1)).map (uT N i j)
theorem QW(i j:Nat):(wT N i j).length=N.nodes+1:=by simp[wT]
theorem XL:wT N 0 0=List.replicate (N.nodes.length+1) 0:=by
 rw[wT,jM];congr 1;rw[zP];grind
def TD:nG N 0 0=List.replicate (N.nodes.length+1) []:=by
 rw[zP];refine⟨by simp[nG],λb hb=>?_⟩;obtain⟨q,_,rfl⟩:=cw.1 hb;simp[uT]
theorem Im{i:Nat}(hq:q<N.nodes):(wT N i j)[q+1]?=some (((if q<i then dQ N q else if q=i then(dQ N q).take j else[]).countP (· !=0):Nat):Int):=by
 rw[wT,pE,bo,il hq];rfl
def m7{L:au}(h:L[j]?=some z):L.take (j+1)=L.take j++[z]:=take_at h
theorem KM{i:Nat}(hi:i<N.nodes)(l:(dQ N i)[j]?=some z):wT N i (j+1)=if z=0 then wT N i j else(wT N i j).set (i+1) (((((dQ N i).take j).countP (· !=0):Nat):Int)+1):=by
 have ht:=m7 l;have hg:∀q,q≠i->(if q<i then dQ N q else if q=i then(dQ N q).take (j+1)else[])=(if q<i then dQ N q else if q=i then(dQ N q).take j else[]):=ay;split;rename_i b;unfold wT;grind;rename_i b;apply eo;intro q;rw[iI,QW];by_cases e:i+1=q;subst e;rw[ah rfl,ah Y,Im hi,ag (pJ _),ah rfl,ht,PV];simp[b]
 .rw[ag e];cases q with
  |zero=>rfl
  |succ q=>grind [Im,List.getElem?_eq_none,QW]
theorem XM{i:Nat}:wT N i (dQ N i).length=wT N (i+1) 0:=by
 unfold wT;grind
theorem XN{i:Nat}{z:Nat}(b:z≠0)(l:(dQ N i)[j]?=some (z:Int))(q:Nat):uT N i (j+1) q=if q=z then uT N i j z++[(i:Int)+1]else uT N i j q:=by
 unfold uT;rw[m7 l,zQ,PS];by_cases e:q=z;subst e;rw[ag b,ah rfl,ag b,ah aI,<-List.replicate_append_replicate,hM];rfl;grind
theorem TG{i:Nat}{z:Nat}(b:z≠0)(e:(dQ N i)[j]?=some (z:Int)):nG N i (j+1)=(nG N i j).set z (uT N i j z++[(i:Int)+1]):=by
 apply eo;intro q;rw[iI];have hq:∀j,(nG N i j)[q]?=if q<N.nodes+1 then some (uT N i j q)else none:=λj=>by rw[nG,bo];grind
 rw[hq,hq,XN b e];grind
theorem TH{i:Nat}(e:(dQ N i)[j]?=some 0):nG N i (j+1)=nG N i j:=by
 unfold nG;refine iG λq _=>?_;unfold uT;by_cases b:q=0;grind;rw[ag b,ag b,m7 e,zQ,PS];grind
theorem TI{i:Nat}:nG N i (dQ N i).length=nG N (i+1) 0:=by
 unfold nG;grind [List.map_congr_left,uT,List.take_length,List.range_succ]
end
variable{p wr:World}{R f:Nat}{US:List Ur}{L' O:List Int}
section
variable{w:World}{n:Nat}{N:a6}
def tp.aV{w:ab}{B g:Nat}{b:List Ur}(h:tp w B g b){p:Addr}(hp:p.block≠g)(r:p.block<B)(v:Value):tp (w.setCell p v) B g b:=
 ⟨h.ak.aV (λe=>hp e.symm) v,λx j=>(h.own x j).eK (λl e=>by have:=(h.own x j).fresh l e;omega) v,h.qk⟩
def a6.small(N:a6):Prop:=N.nodes.length<=1000/\∀v∈N.nodes,v.ins.length<=1000
def um(h:N.small)(i:Nat):(dQ N i).length<=1000:=by
 unfold dQ;rcases hv:N.nodes[i]? with _|v;simp;exact h.2 v (aK hv)
def QX(h:N.small)(i j z:Nat):(uT N i j z).length<=i*1000+1000:=by
 unfold uT;split;simp;have l:((dQ N i).take j).count (z:Int)<=1000:=aQ List.count_le_length (by have:=um h i;simp;omega);have b:∀k,((List.range k).flatMap λ(q:Nat)=>List.replicate ((dQ N q).count (z:Int)) ((q:Int)+1)).length<=k*1000:=λk=>by
  induction k with
  |zero=>simp
  |succ k e=>rw[iK,nK,bh];have:(dQ N k).count (z:Int)<=1000:=aQ List.count_le_length (um h k);simp at e⊢;omega
 have:=b i;rw[bh,fe];omega
def Oo(k:Nat)(j:k<=1000000)(W:ab):(Instr.makeSlice 105 (k:Int) (k:Int)).run prog W=.ok (W,k,k) (W.alloc (.cells (xG (List.replicate k tH)) 24)):=by
 obtain⟨i,hi,b⟩:=bJ.1 (show(prog.info? 24).map (λi=>(i.zero,i.size,i.bytes))=some (some (.slice none 0 0),1,24)from by kernel_rfl);simp only[dS]at b;obtain⟨e,hs,hb⟩:=b;have:=nN (P:=prog) W 105 24 i _ underlying105 hi e .i64 .i64 k k Y (eb _) zJe zJf;rw[hs]at this;rw[<-TC];exact zJ5
def kL(k:Nat)(j:k<=1000000)(W:ab):(Instr.makeSlice 24 (k:Int) (k:Int)).run prog W=.ok (W,k,k) (W.alloc (.cells (ints (List.replicate k 0)) 3)):=by
 obtain⟨i,hi,b⟩:=bJ.1 (show(prog.info? 3).map (λi=>(i.zero,i.size,i.bytes))=some (some (.int .i64 0),1,8)from by kernel_rfl);simp only[dS]at b;obtain⟨e,hs,hb⟩:=b;have:=nN (P:=prog) W 24 3 i _ underlying24 hi e .i64 .i64 k k Y (eb _) zJe zJf;rw[hs]at this;rw[<-jh];exact zJ5
def xH(zs:f0)(b:List Ur):Prop:=b.map Ur.zs=zs
def xH.len(h:xH (nG N i j) US):US=N.nodes.length+1:=by
 have:=di List.length h;simpa[nG]using this
def xH.get{z:Nat}(h:xH (nG N i j) US)(b:z<N.nodes+1):∃x,US[z]?=some x/\x.zs=uT N i j z:=by
 have e:=h.len;refine⟨US[z]'Y,bk _,?_⟩;have:=di (·[z]?) h;simp only[bo,nG,il b]at this;rw[bk Y]at this;simpa using this
def xH.step{z:Nat}{A:bz}{c:Nat}(h:xH (nG N i j) US)(b:z≠0)(l:(dQ N i)[j]?=some (z:Int))(e:zs=uT N i j z++[(i:Int)+1]):xH (nG N i (j+1)) (US.set z ⟨A,c,zs⟩):=by
 unfold xH at h⊢;rw[jb,h,TG b l,e]
def ig(N:a6)(D qaa:au):List Int:=(0:Int)::N.ids.map λv=>((gF N D qaa v:Nat):Int)
def Cd(h:j<N.nodes):N.ids[j]?=some ((j:Int)+1):=by
 rw[a6.ids,bo,il h];rfl
def abt:wT N N.nodes.length 0=ig N [] []:=by
 unfold wT ig a6.ids;rw[nO];congr 1;refine iG λq hq=>?_;rw[pF]at hq;rw[ah hq];simp only[Function.comp,gF,jB,bS,dQ,GM,GS];rw[show((q:Int)+1-1).toNat=q from Y];simp
def QY{id:Nat}(h:id≠0):uT N N.nodes.length 0 id=iw N id:=by
 unfold uT iw a6.ids;rw[ag h,List.flatMap_map];simp only[d8,GM,List.replicate_zero,ev];unfold FG bS dQ;congr 1;funext q;rw[show((q:Int)+1-1).toNat=q from Y]
def mq{D qaa:au}(b:1<=q)(h:q<=N.nodes):(ig N D qaa)[q]?=some ((gF N D qaa (q:Int):Nat):Int):=by
 obtain⟨j,rfl⟩:∃j,q=j+1:=⟨q-1,Y⟩;rw[ig,pE,bo,Cd Y];rfl
def Oq{D qaa:au}(l:1<=q)(h:q<=N.nodes)(b:qaa.count (q:Int)<jB N D q):(ig N D qaa).set q (((gF N D qaa (q:Int):Nat):Int)-1)=ig N D (qaa++[(q:Int)]):=by
 have hm:1<=gF N D qaa (q:Int):=by unfold gF;omega
 obtain⟨j,rfl⟩:∃j,q=j+1:=⟨q-1,Y⟩;apply eo;intro i;have r:(ig N D qaa).length=N.nodes+1:=by simp[ig,a6.ids]
 have u:(ig N D (qaa++[((j+1:Nat):Int)])).length=N.nodes.length+1:=by simp[ig,a6.ids]
 rw[iI,r];by_cases e:j+1=i;subst e;rw[ah rfl,ah Y,mq l h,m5 b,ah rfl];congr 1;omega;rw[ag e];rcases i with _|i;rfl;by_cases hi:i+1<=N.nodes;rw[mq Y hi,mq Y hi,m5 b,ag Y];rw[ej Y,ej Y]
def TJ{p:Int->Bool}(h:j<N.nodes):(N.ids.take (j+1)).filter p=(N.ids.take j).filter p++if p ((j:Int)+1)then[(j:Int)+1]else[]:=by
 rw[take_at (Cd h),zS];congr 1;rw[List.filter_cons,List.filter_nil]
def Ce(h:fW N O=[]):n3 N f O=O:=by
 cases f with
 |zero=>rfl
 |succ f=>rw[n3,h]
def slN:Value->Nat
 |.slice _ n _=>n
 |_=>0
@[grind cases]structure eY(N:a6)(D:List Int):Prop where
 nd:D.Nodup
 ids:∀v∈D,v∈N.ids
 dep:∀v∈D,jB N D v=0
def eY.nil:eY N []:=⟨PD,aI,aI⟩
def jn{t:au}(h:fW N O=id::t):id∈N.ids/\id∉O/\jB N O id=0:=by
 have:=sE.1 (show id∈N.ids.filter (k3 N O)from by rw[show N.ids.filter (k3 N O)=id::t from h];exact dD);refine⟨this.1,?_⟩;have b:=this.2;unfold k3 at b;simpa using b
def eY.acm{t:au}{v:Int}(h:eY N O)(hr:fW N O=id::t)(hv:v∈O++[id]):jB N O v=0:=by
 rcases cu.1 hv with hv|hv;exact h.dep v hv;rw[de.1 hv];exact(jn hr).2.2
def eY.step{D t:au}(h:eY N D)(hr:fW N D=id::t):eY N (D++[id]):=by
 obtain⟨j,l,u⟩:=jn hr;refine⟨?_,λv hv=>?_,λv hv=>?_⟩;rw[uH];exact⟨h.nd,aI,λa r b hb e=>l (by rw[de.1 hb]at e;exact e▸r)⟩;rcases cu.1 hv with hv|hv;exact h.ids v hv;rw[de.1 hv];exact j;have:=h.acm hr hv;have:=xF (N:=N) (v:=v) (D:=D) (id:=id) (by have:=bt.1 j;omega) l;omega
def eY.len(h:eY N O):O.length<=N.nodes.length:=by
 have:=xE h.nd h.ids;rwa[m3]at this
def eY.user{D t:au}(h:eY N D)(hr:fW N D=id::t)(e:(iw N id)[j]?=some y):y∈N.ids/\((iw N id).take j).count y<jB N D y/\y∉D++[id]:=by
 obtain⟨r,u,C⟩:=jn hr;have hm:=On (aK e);have z:((iw N id).take j).count y<jB N D y:=by have l:((iw N id).take (j+1)).count y<=(iw N id).count y:=(List.take_sublist _ _).count_le _;rw[take_at e,zQ,vY hm.1]at l;have:=xF (N:=N) (v:=y) (D:=D) (id:=id) (by have:=bt.1 r;omega) u;simp at l;omega
 exact⟨hm.1,z,λb=>by have:=h.acm hr b;omega⟩
def TK{t:au}(hr:fW N O=id::t):ig N O (iw N id)=ig N (O++[id]) []:=by
 obtain⟨b,e,j⟩:=jn hr;unfold ig;congr 1;refine iG λv hv=>?_;rw[FH (by have:=bt.1 b;omega) e hv];rfl
def KN{t:au}{v:Int}(h:fW N O=v::t):n3 N (f+1) O=n3 N f (O++[v]):=by rw[n3,h]
def TL{D qaa:au}:(j6 N D id qaa).length<=N.nodes:=by
 rw[<-m3];exact List.length_filter_le _ _
structure lV(w p:World)(g:Nat)(wr:World)(A:Option Addr)(c:Nat)(L:List Int)(O:Option Addr)(co:Nat)(D wl:List Int):Prop where
 old:w<=g
 gp:g<p
 aside:Aside g p wr
 wait:Own wr g 3 wl
 rR:aD wr p.1.size 3 A c L
 ord:aD wr p.1.size 3 O co D
 qk:∀a b,A=some a->O=some b->a.block≠b.block
 prev:aj wr w
section
variable{O:Option Addr}{L D wl:List Int}
def lV.acn(h:lV w p g wr A c L O R D wl)(C:aD w' p.1.size 3 A' c' L')(j:dj A A' wr w'):lV w p g w' A' c' L' O R D wl where
 old:=h.old
 gp:=h.gp
 aside:=⟨aQ h.aside.size j.size,λk z r=>(j.off k (bN z h.aside.size) (λl e=>by have:=h.rR.fresh l e;omega)).trans (h.aside.same k z r)⟩
 wait:=j.own h.wait (λl e=>by have:=h.rR.fresh l e;have:=h.gp;omega)
 rR:=C
 ord:=h.ord.jE j (λa a' u y=>h.qk a' a y u)
 qk a b u eb:=by
  rcases j.new a u with⟨a0,E,F⟩|Au
  .rw[F];exact h.qk a0 b E eb
  .have:=h.ord.lt b eb;omega
 prev:=⟨h.prev.st.trans (j.below (λl e=>by have:=h.rR.fresh l e;have:=h.gp;have:=h.old;omega) h.prev.st.size)⟩
def lV.aeN(h:lV w p g wr A c L O R D wl)(C:aD w' p.1.size 3 A' c' L')(j:dj O A' wr w'):lV w p g w' A c L A' c' L' wl where
 old:=h.old
 gp:=h.gp
 aside:=⟨aQ h.aside.size j.size,λk z u=>(j.off k (bN z h.aside.size) (λl e=>by have:=h.ord.fresh l e;omega)).trans (h.aside.same k z u)⟩
 wait:=j.own h.wait (λl e=>by have:=h.ord.fresh l e;have:=h.gp;omega)
 rR:=h.rR.jE j (λa a' r y=>(h.qk a a' r y).symm)
 ord:=C
 qk a b r eb:=by
  rcases j.new b eb with⟨a0,E,F⟩|Au
  .rw[F];exact h.qk a a0 r E
  .have:=h.rR.lt a r;omega
 prev:=⟨h.prev.st.trans (j.below (λl e=>by have:=h.ord.fresh l e;have:=h.gp;have:=h.old;omega) h.prev.st.size)⟩
def lV.av(h:lV w p g wr A c L O R D wl)(i:Nat)(z:Int):lV w p g (wr.setCell (g,i) z) A c L O R D (wl.set i z) where
 old:=h.old
 gp:=h.gp
 aside:=h.aside.av i _
 wait:=h.wait.av i z
 rR:=h.rR.eK (λb e=>by have:=h.rR.fresh b e;have:=h.gp;simp;omega) _
 ord:=h.ord.eK (λb e=>by have:=h.ord.fresh b e;have:=h.gp;simp;omega) _
 qk:=h.qk
 prev:=⟨h.prev.st.setCell (p:=⟨g,i,none⟩) h.old _⟩
def lV.at(h:lV w p g wr A c L O R D wl)[l:aM wr w']:lV w p g w' A c L O R D wl:=
 ⟨h.old,h.gp,h.aside.below l.st,h.wait.at,h.rR.at,h.ord.at,h.qk,⟨dm h.prev.st l.st⟩⟩
end
def abu{w:ab}{B c:Nat}{A:bz}{v:Int}{t:au}(h:aD w B 3 A c (v::t)):
  () 187 #[.slice A (t.length+1) c,an,(1:Int)] w λe w'=>e=.returned (.slice A t c)/\aD w' B 3 A c t/\dj A A w w':=
 Jv h (i:=0) (j:=1) rfl rfl Y aI aI
def zJd(h:Γ:=by rw[<-F.o];omega):=h
def TM[a:aW w A n B m N](hf:Z N.fits)(hr:Z N.ko)(hs:Z N.small):() 121 #[.agg #[.slice A n c,(B,m,d)]] w (Bc w (eC N)):=by
 obtain⟨CB,CP,FB⟩:=gW;have F:Z (m=N.nodes):=a.len;have hm:m<=100000:=by rw[F.o];exact hf.o.1
 have jF:∀W:World,(Instr.makeSlice 24 ((m:Int)+1:Int) ((m:Int)+1:Int)).run prog W=.ok (.slice (some ⟨W.1.size,0,none⟩) (m+1) (m+1)) (W.alloc (.cells (ints (List.replicate (m+1) 0)) 3)):=λW=>by have h:=kL (m+1) Y W;rwa[en]at h
 have hmr:∀W:World,(Instr.makeSlice 105 ((m:Int)+1:Int) ((m:Int)+1:Int)).run prog W=.ok (.slice (some ⟨W.1.size,0,none⟩) (m+1) (m+1)) (W.alloc (.cells (xG (List.replicate (m+1) tH)) 24)):=λW=>by have h:=Oo (m+1) Y W;rwa[en]at h
 go_in;go_wp2_with fail;obtain⟨v,hv⟩:=lg (((w.alloc (.cells #[.slice A n c,(B,m,d)] 33)).alloc (.cells (ints (List.replicate (m+1) 0)) 3)).alloc (.cells (xG (List.replicate (m+1) tH)) 24));have pv:aj v w:=hv▸aC;have kN:Bx v w.1.size 33 #[.slice A n c,(B,m,d)]:=hv▸am;have G:Own v (w.1.size+1) 3 (wT N 0 0):=by rw[XL,<-F.o,hv];exact(am:Bx _ (w.1.size+1) _ _).ak
 have J:tp v (w.1.size+3) (w.1.size+1+1) (List.replicate (m+1) tH):=tp.new (by rw[hv];exact(am:Bx _ (w.1.size+1+1) _ _).ak);have fN:xH (nG N 0 0) (List.replicate (m+1) tH):=by rw[xH,TD,<-F.o];simp[tH]
 have hvs:v=w.1.size+3:=by rw[hv];simp
 rw[<-hv];have uj:=U fN;clear jF hmr hv fN;go_loopw [30] (λi wr=>∃(k:Nat) (US:List Ur),k<=m/\i=.int .i64 k/\Own wr (w.1.size+1) 3 (wT N k 0)/\tp wr (w.1.size+3) (w.1.size+1+1) US/\Z (xH (nG N k 0) US)/\aj wr w/\Bx wr w.1.size 33 #[.slice A n c,(B,m,d)]) (λi _=>m-(intOf i).toNat);exact⟨0,_,aR _,rfl,G,J,uj,pv,kN⟩;clear G J uj kN pv hvs;obtain⟨k,US,hk,rfl,G,J,M,hp,kN⟩:=hrel;by_cases V:k<m
 .obtain⟨b0,q0,o,A1,n1,c1,I,ni,ci,ins,P,np,cp,ps,rfl,ob,⟨v0,v1,v2,v3,v4,v5,v6,v7,v8,v9⟩,s1,si,sp,l1,li,lp,ik,lP⟩:=a.node V;(have ra:ni<=100000:=by have:=(hf.o.2.2 _ (aK lP.o)).1;exact zJb);have HI:Z (ni=ins):=si.len;have HA:Z (dQ N k=ins):=U (by rw[dQ,lP.o];rfl);go_wp2_with fail;obtain⟨x,hx⟩:=lg (wr.alloc (.cells #[o.kd,o.k,o.wd,o.st,o.sd,o.fr,o.tt,(A1,n1,c1),(I,ni,ci),(P,np,cp)] 84));have px:aj x wr:=hx▸aj.alloc _ _;have kWx:=G.at (w':=x);have kUx:=J.at (w':=x);rw[<-hx];clear hx G J;go_loopw [38] (λi wy=>∃(j:Nat) (US:List Ur),j<=ni/\i=.int .i64 j/\Own wy (w.1.size+1) 3 (wT N k j)/\tp wy (w.1.size+3) (w.1.size+1+1) US/\Z (xH (nG N k j) US)/\aj wy w/\Bx wy w.1.size 33 #[.slice A n c,.slice (some ⟨b0,q0,none⟩) m d]) (λi _=>ni-(intOf i).toNat);exact⟨0,US,aR _,rfl,kWx,kUx,M,aC,am⟩;clear kWx kUx M kN;obtain⟨j,US,hj,rfl,G,J,M,rE,kN⟩:=hrel;by_cases In:j<ni
  .obtain⟨b2,q2,z,rfl,iM,vz,ez⟩:=si.get In;have hz:=hr.o _ (aK lP.o) z (aK ez.o);rw[<-F.o]at hz;have HZI:Z ((dQ N k)[j]?=some z):=U (by rw[HA.o];exact ez.o);have BB:Z (k<N.nodes.length):=U (by rwa[<-F.o]);by_cases h0:z=0
   .subst h0;have Q:=G;rw[<-(KM BB.o HZI.o).trans (ah rfl)]at Q;have lD:=M;rw[<-TH HZI.o]at lD;go_wp2_with fail;go_roundw;exact⟨j+1,US,Y,by go_num,Q,J,lD,rE,kN⟩;exact zJ0
   obtain⟨z,rfl⟩:=bO hz.1;have hzm:z<=m:=Y;have gu:1<=z:=Y;obtain⟨cw,R⟩:=lh (((dQ N k).take j).countP (· !=0));(have vj:cw<=100000:=by rw[<-R];exact aQ uJ ch);(have Ot:(wT N k j)[k+1]?=some (cw:Int):=by rw[Im BB.o,ag (pJ _),ah rfl,R]);have hc:=G.cell Ot;have D7:=G.frozen (k+1);have Q:=G.av (k+1) ((cw:Int)+1);rw[<-R,<-(KM BB.o HZI.o).trans (ag h0),R]at Q;have WL:=U Q;have HF:=U (J.aV (p:=⟨w.1.size+1,k+1,none⟩) aI aI ((cw:Int)+1:Int));have Tp:aj (wr.setCell (w.1.size+1,k+1) ((cw:Int)+1:Int)) w:=⟨(aO w wr).setCell (p:=⟨w.1.size+1,k+1,none⟩) (db _) _⟩;clear Q G J Ot R;go_upto_region 11 with fail;obtain⟨y,hy⟩:=lg (wr.setCell (w.1.size+1,k+1) ((cw:Int)+1:Int));have kNy:Bx y w.1.size 33 #[.slice A n c,.slice (some ⟨b0,q0,none⟩) m d]:=⟨by rw[hy];exact kN.ak.aV aI _⟩;rw[<-hy]at WL HF Tp⊢;have G:=WL.o;have J:=HF.o;have hys:w.1.size+1+1<y:=J.ak.lt;clear hy WL HF hc D7 kN h0 hz rE vz;obtain⟨⟨X,c',l⟩,eur,ezs⟩:=M.o.get (z:=z) zJd;dsimp only at ezs;(have ud:l.length<=1001000:=by rw[ezs];have:=QX hs k j z;have:=hs.o.1;rw[<-F.o]at this;omega);have XO:=(J.ak.cell z).trans (Cc eur);have fru:=J.ak.frozen z;have XP:=J.own _ (aK eur);have Ei:=U XP.fresh;have HEU:=U eur;have HEZ:=U ezs;dsimp only at XO XP Ei;clear eur ezs;go_wp2_with (at_builtin;refine iV rfl _ _ _ rfl 3 underlying24 ap (w.1.size+3) X c' l rfl XP ((k:Int)+1) rfl Y Y ?_;intro A3 c3 w3 lN r ab6;have kB3:=r.ak J.ak (λS e=>by have:=Ei.o S e;omega);have fr3:=kB3.frozen z;have EJ:=(kB3.cell z).trans (Cc HEU);clear XO fru;dsimp only at EJ);go_roundw;(have hwn:∀S,X=some S->S.block≠w.1.size+1:=λS e=>by have:=Ei.o S e;omega);have hpp:=J.push HEU lN r;rw[show(l++[(k:Int)+1]).length=l.length+1 from aI]at hpp;have s9:Below w.1.size y w3:=r.below (λS e=>by have:=Ei.o S e;omega) Y;exact⟨j+1,_,Y,by go_num,(r.own G hwn).aV aI _,hpp,U (M.o.step Y HZI (by rw[HEZ.o])),⟨((aO w y).trans s9).setCell ch _⟩,⟨(r.ak kNy.ak (λS e=>by have:=Ei.o S e;omega)).aV ch _⟩⟩;exact zJ0
  obtain rfl:j=ni:=Y;have Q:=G;have lD:=M;rw[HI.o,<-HA.o,XM]at Q;rw[HI.o,<-HA.o,TI]at lD;clear G;go_wp2_with fail;go_roundw;exact⟨k+1,US,Y,by go_num,Q,J,lD,rE,kN⟩;exact zJ0
 obtain rfl:k=m:=Y;rw[F.o,abt]at G;have aeO:Z (xH (nG N N.nodes.length 0) US):=U (by rwa[<-F.o]);have Cf:=hs.o.1;rw[<-F.o]at Cf;clear M;go_wp2_with fail;obtain⟨p,pe⟩:=lg wr;have hp0:aj wr p:=⟨by rw[pe];exact aY _ _⟩;rw[<-pe]at J G hp kN;clear pe;have Hk:w.1.size+1<p:=G.lt;go_loopw [9,10] (λs i wr=>∃(j:Nat) (X:bz) (c':Nat) (L:au),j<=k/\i=.int .i64 ((j:Int)+1)/\s=.slice X L c'/\aD wr p.1.size 3 X c' L/\Z (L=(N.ids.take j).filter (k3 N []))/\L<=j/\aj wr p) (λ_ i _=>k+1-(intOf i).toNat);exact⟨0,none,0,[],aR _,aI,rfl,aD.nil _ _ _,U aI,aI,hp0⟩;clear hp0;obtain⟨j,X,c',L,hj,rfl,rfl,K,HL,hll,E⟩:=hrel;have WS:=G.at (w':=wr);by_cases V:j<k
 .have Ot:=mq (N:=N) (D:=[]) (qaa:=[]) (q:=j+1) Y zJd;have hc:=WS.cell Ot;have HT:=U (TJ (N:=N) (j:=j) (p:=k3 N []) (by rwa[<-F.o]));(have he:((j+1:Nat):Int)=(j:Int)+1:=by simp);rw[he]at hc;have HP:Z (k3 N [] ((j:Int)+1)=decide (gF N [] [] ((j:Int)+1)=0)):=U (by unfold k3 gF;rw[List.contains_nil,GM,GS];rfl);(have Oi:((j:Int)+1<=(k:Int)):=by omega);obtain⟨q0,TN⟩:=lh (gF N [] [] ((j:Int)+1));rw[TN]at hc HP;clear Ot TN he;by_cases h0:q0=0
  .subst h0;rw[HP.o]at HT;go_wp2_with (at_builtin;refine iS rfl _ _ _ rfl 3 underlying24 ap p.1.size X c' L rfl K ((j:Int)+1) rfl Y ai ?_;intro A3 c3 w3 lN s9 _ _);go_roundw;exact⟨j+1,A3,c3,_,Y,by go_num,aI,lN,U (by rw[HT.o,HL.o];rfl),by simp;omega,⟨(aO p wr).trans s9⟩⟩;exact zJ0
  rw[HP.o,ew h0]at HT;go_wp2_with fail;go_roundw;exact⟨j+1,X,c',L,Y,by go_num,rfl,K,U (by rw[HT.o,HL.o];simp),Y,E⟩;exact zJ0
 obtain rfl:j=k:=Y;have hL:L=fW N []:=by rw[HL.o,F.o,bV (dT m3)];rfl
 have jF:=oL (P:=prog) 24 3 underlying24 ap j Y;have Oi:¬((j:Int)+1<=(j:Int)):=by omega
 rw[hL]at K⊢;clear hL HL hll WS;have HG:Z (∀z,z<j+1->z≠0->∃A c l,US[z]?=some ⟨A,c,l⟩/\l=iw N z):=λz hz h0=>by obtain⟨⟨A,c,l⟩,e1,e2⟩:=aeO.o.get (z:=z) (by rw[<-F.o];exact hz);exact⟨A,c,l,e1,by rw[QY h0]at e2;exact e2⟩
 go_wp2_with fail
 have hS:lV w p (w.1.size+1) (wr.alloc (.cells (ints (List.replicate j 0)) 3)) X c' (fW N []) (some ⟨wr.1.size,0,none⟩) j [] (ig N [] []):=
  ⟨aI,Hk,⟨by have:=E.st.size;simp;omega,λk hk _=>by have:=E.st.size;exact(nM wr _ k Y).trans (E.st.block k hk)⟩,G.at,K.at,(xb wr 3 j Y).more E.st.size,λa b ea eb=>by cases eb;exact sI (K.lt a ea),aC⟩
 have HK:Z (n3 N (N.nodes.length-0) []=eC N):=rfl;clear K G jF Oi;go_loopw [9,11] (λs t wr=>∃(A:bz) (c:Nat) (L:au) (O:bz) (co:Nat) (D:au),s=.slice A L c/\t=.slice O D co/\lV w p (w.1.size+1) wr A c L O co D (ig N D [])/\Z (L=fW N D)/\Z (eY N D)/\Z (n3 N (N.nodes.length-D.length) D=eC N)) (λ_ t _=>j-slN t);exact⟨_,_,_,_,_,[],rfl,rfl,hS,U rfl,U eY.nil,HK⟩;clear hS HK E;obtain⟨X,c',L,O,co,D,rfl,rfl,hS,HL,HT,HK⟩:=hrel;have E:=hS.prev;rcases L with _|⟨id,t⟩
 .have hD:D=eC N:=(Ce HL.o.symm).symm.trans HK;subst hD;go_wp2_with fail;go_ret;exact⟨O,co,rfl,hS.ord.more (by have:=hS.gp;omega),E⟩
 have hid:=jn HL.o.symm;have hI:=bt.1 hid.1;rw[<-F.o]at hI;obtain⟨q,rfl⟩:=bO (show 0<=id by omega);have RJ:1<=q:=Y;have hqj:q<j+1:=Y;have TO:=HT.o.len;rw[<-F.o]at TO;obtain⟨gA,rfl,_,_⟩:=hS.rR.addr aI;have mG:=hS.rR.cell (k:=0) rfl;obtain⟨A5,c5,l,e5,e6⟩:=HG.o q hqj Y;have HE5:=U e5;have XQ:=U e6;have HS:=U hS;clear hS e5 e6 hid hI;go_upto_region 25 with(first|(go_at_call 187;refine(abu HS.o.rR).mono ?_;rintro e u ⟨rfl,TR,hcP⟩;have C:=U (HS.o.acn TR hcP);clear TR hcP mG)|(at_builtin;refine iV rfl _ _ _ rfl 3 underlying24 ap p.1.size O co D rfl C.o.ord (q:Int) rfl Y C.o.aside.size ?_;intro A3 c3 w3 lN r ab6;have zq:=U (C.o.aeN lN r);clear lN r));have XJ:=zq.o;have kU3:=XJ.aside.ak J.ak Y;have XO:=(kU3.cell q).trans (Cc HE5);dsimp only at XO;have ud:l.length<=1001000:=by have:=QX hs N.nodes.length 0 q;rw[QY Y,<-XQ.o,<-F.o]at this;omega
 have HR0:Z (t=j6 N D q (l.take 0)):=U (by rw[d8];exact(KL HL.o.symm).symm);have hSI:lV w p (w.1.size+1) w3 gA c' t A3 c3 (D++[(q:Int)]) (ig N D (l.take 0)):=by rwa[d8]
 clear HS C zq kU3 XJ;go_wp2_with fail;clear XO;go_loopw [9,101] (λs i wr=>∃(x:Nat) (A:bz) (c:Nat) (L:au),x<=l.length/\i=.int .i64 x/\s=.slice A L c/\lV w p (w.1.size+1) wr A c L A3 c3 (D++[(q:Int)]) (ig N D (l.take x))/\Z (L=j6 N D q (l.take x))) (λ_ i _=>l.length-(intOf i).toNat);exact⟨0,_,_,_,aR _,rfl,rfl,hSI,HR0⟩;clear hSI HR0;obtain⟨x,X,c',L,hx,rfl,rfl,hS,HR⟩:=hrel;have E:=hS.prev;by_cases V:x<l.length
 .have sU:Sl wr A5 l.length l:=⟨hS.aside.rd (J.own _ (aK HE5)).rd (λS e=>by have:=(J.own _ (aK HE5)).fresh S e;omega),rfl⟩;obtain⟨b2,q2,z,rfl,iM,vz,ez⟩:=sU.get V;have hY:=HT.o.user (t:=t) (id:=(q:Int)) (y:=z) (j:=x) HL.o.symm (by rw[<-XQ.o];exact ez.o);rw[<-XQ.o]at hY;have hI:=bt.1 hY.1;rw[<-F.o]at hI;obtain⟨y,rfl⟩:=bO (show 0<=z by omega);have EA:1<=y:=Y;have hyj:y<j+1:=Y;have HY:=U hY;have R:=mq (N:=N) (D:=D) (qaa:=l.take x) EA zJd;have KO:=Oq (N:=N) (D:=D) (qaa:=l.take x) EA zJd HY.o.2.1;have XR:=mq (N:=N) (D:=D) (qaa:=l.take x++[(y:Int)]) EA zJd;rw[m5 HY.o.2.1,ah rfl]at XR;(have hmw:1<=gF N D (l.take x) (y:Int):=by have:=HY.o.2.1;unfold gF;omega);(have hmx:gF N D (l.take x) (y:Int)<=1000:=by unfold gF jB bS;have:=um hs ((y:Int)-1).toNat;unfold dQ at this;exact aQ (Nat.sub_le _ _) (aQ uJ this));have ql:=U (take_at ez.o);rw[<-ql.o]at KO XR;(have T:Z (gF N D (l.take x) (y:Int)=1->j6 N D q (l.take (x+1))=L.take (L.countP (· <(y:Int)))++(y:Int)::L.drop (L.countP (· <(y:Int)))):=λh=>by rw[ql.o,HR.o];exact Cb HY.o.2.1 h HY.o.1 HY.o.2.2);(have HNo:Z (gF N D (l.take x) (y:Int)≠1->j6 N D q (l.take (x+1))=L):=λh=>by rw[ql.o,HR.o];exact EK HY.o.2.1 h);obtain⟨mw,aco⟩:=lh (gF N D (l.take x) (y:Int));rw[aco]at R KO XR hmw hmx T HNo;have hc:=hS.wait.cell R;have D7:=hS.wait.frozen y;have Io:=hS.av y ((mw:Int)-1);rw[KO]at Io;have C:=U Io;have vM:=U XR;clear hY hI R KO XR aco Io hS;go_upto_region 29 with fail;obtain⟨v2,ro⟩:=lg (wr.setCell (w.1.size+1,y) ((mw:Int)-1:Int));rw[<-ro]at C⊢;have hS:=C.o;have y2:=hS.wait.cell vM;clear ro E hc D7 vM vz iM sU;have E:=hS.prev;by_cases h1:mw=1
  .subst h1;have aeP:v2.cell? (w.1.size+1,y)=some (.int .i64 0):=y2;(have BI:L.length<=1000:=by rw[HR.o];have:=TL (N:=N) (D:=D) (id:=(q:Int)) (qaa:=l.take x);have:=hs.o.1;omega);have HSO:Z (L.Pairwise (· <= ·)):=U (by rw[HR.o];exact Il);have HY1:=U (T.o rfl);clear T HNo y2 hS;go_wp2_with (first|(go_at_call 188;refine mv (Jw (x:=(y:Int)) C.o.rR.rd Y HSO) λu pu=>?_)|(go_at_call 189;refine er (λu2 t8 bu2=>?_);refine(Jx (x:=(y:Int)) (vb:=u.1.size) (C.o.at (w':=u2)).rR (λS e=>by have:=C.o.rR.lt S e;have:=pu.st.size;omega) rfl uJ Y (C.o.at (w':=u2)).aside.size).mono ?_;rintro e u3 ⟨A6,c6,rfl,ho6,aeQ⟩));go_roundw;exact⟨x+1,A6,c6,_,Y,by go_num,aI,(C.o.at (w':=u2)).acn ho6 aeQ,U HY1.o.symm⟩;exact zJ0
  obtain⟨mv,rfl⟩:∃mv,mw=mv+1:=⟨mw-1,Y⟩;have aeP:v2.cell? (w.1.size+1,y)=some (.int .i64 (mv:Int)):=y2;(have td:(mv:Int)≠0:=by omega);have M7:=U (HNo.o h1);clear T HNo y2 h1;go_wp2_with fail;go_roundw;exact⟨x+1,X,c',L,Y,by go_num,rfl,hS,U M7.o.symm⟩;exact zJ0
 obtain rfl:x=l.length:=Y;rw[ek,XQ.o,TK HL.o.symm]at hS;have hid:=jn HL.o.symm;have xl:Z (L=fW N (D++[(q:Int)])):=U (by rw[HR.o,ek,XQ.o,TB Y hid.2.1]);have KP:=HT.o.step HL.o.symm;have rm:=KP.len;have zp:n3 N (N.nodes.length-(D++[(q:Int)]).length) (D++[(q:Int)])=eC N:=by rw[<-HK.o,<-KN HL.o.symm];congr 1;simp at rm⊢;omega
 have nB:=U zp;have mf:=U KP;rw[<-F.o]at rm;simp at rm;clear hid KP zp;go_wp2_with fail;go_roundw;exact⟨X,c',L,A3,c3,D++[(q:Int)],rfl,aI,hS,xl,mf,nB⟩;simp[slN];omega
end
variable{u:World}
def EL(m:Nat)(v:dV):Int:=if v.o.right then(if v.ins.all (λz=>decide (0<=z)&&decide (z<=m))then 0 else 11)else 21
def lG(m:Nat):List dV->Int
 |[]=>0
 |v::t=>if EL m v=0 then lG m t else EL m v
def An(N:a6):List Int:=(gE N (eC N) (lF N)).2.getD (gj N).toNat []
def sW(N:a6):Int:=if(eC N).length=N.nodes then(if(gE N (eC N) (lF N)).1=0 then(if rQ N then(if cB (An N)=0/\bG (An N)=1 then 0 else 23)else 23)else(gE N (eC N) (lF N)).1)else 22
def bm(N:a6):Int:=if 1<=N.nodes.length/\N.nodes.length<=512 then(if aH N.ed then(if lG N.nodes.length N.nodes=0 then sW N else lG N.nodes.length N.nodes)else 20)else 12
def dz(N:a6):List Int×List (List Int)×Int:=if bm N=0 then(eC N,(gE N (eC N) (lF N)).2,gj N)else([],[],0)
def QZ(w:ab)(E:Int)(O:au)(L:f0)(l:Int)(e:Ending)(w':ab):Prop:=∃A c B d b,e=.returned (.tuple #[.agg #[.slice A O c,.slice B L d,l],E])/\aD w' w.1.size 3 A c O/\dX w' B L.length b/\Le L.length d/\Z (aX b=L)/\aj w' w/\pp w.1.size B b
section
variable{w:World}{n:Nat}{N:a6}{l:Int}
def ix(hE:bm N=E)(hV:dz N=(O,L,l))(h:E≠0):[]=O/\[]=L/\0=l:=by
 rw[dz,hE,ag h]at hV;simpa using hV
def gS(p:aj w' w):QZ w E [] [] 0 (.returned (.tuple #[.agg #[(),(),an],E])) w':=
 ⟨none,0,none,0,[],rfl,aD.nil _ _ _,⟨λj x b=>by simp at b,rfl⟩,Le.same _,U rfl,p,pp.no⟩
theorem eL{x y z:Value}[l:aM w u]:aj (((u.setCell (w.1.size+1,0) x).setCell (w.1.size+1,1) y).setCell (w.1.size+1,2) z) w:=
 ⟨((l.st.setCell (p:=⟨w.1.size+1,0,none⟩) (db _) x).setCell (p:=⟨w.1.size+1,1,none⟩) (db _) y).setCell (p:=⟨w.1.size+1,2,none⟩) (db _) z⟩
def Cg{x y z:Value}{B:Nat}(h:aD u B 3 A c O)(j:w.1.size+1<B):aD (((u.setCell (w.1.size+1,0) x).setCell (w.1.size+1,1) y).setCell (w.1.size+1,2) z) w.1.size 3 A c O:=by
 have f:∀b,A=some b->b.block≠w.1.size+1:=λb e=>by have:=h.fresh b e;omega
 exact(((h.eK (p:=⟨w.1.size+1,0,none⟩) f x).eK (p:=⟨w.1.size+1,1,none⟩) f y).eK (p:=⟨w.1.size+1,2,none⟩) f z).more Y
theorem XS{x y z:Value}{B:Nat}(h:dX u A n ss)(f:pp B A ss)(b:w.1.size+1<B):dX (((u.setCell (w.1.size+1,0) x).setCell (w.1.size+1,1) y).setCell (w.1.size+1,2) z) A n ss:=
 ((h.setCell f (p:=⟨w.1.size+1,0,none⟩) b x).setCell f (p:=⟨w.1.size+1,1,none⟩) b y).setCell f (p:=⟨w.1.size+1,2,none⟩) b z
def Ci{o:ir}{b:Bool}[Sl w A n o.S](e:n<=1000000)(hb:Z (o.right=b)):() 120 #[.agg (gM o.kd o.k o.wd o.st o.sd o.fr o.tt (A,n,c))] w (aL w (.bool b)):=
 cn (fh e) (by rw[<-hb.o];rfl)
def qm:∀(f:Nat) (D:au),eY N D->eY N (n3 N f D)
 |0,_,h=>h
 |f+1,D,h=>by rw[n3];split;exact h;rename_i b;exact qm f _ (h.step b)
def Cj:∀(r:au) (L j:f0),gE N r L=(0,j)->(∀z∈L,z.length<=100000)->j.length=L.length/\∀z∈j,z.length<=100000
 |[],L,j,h,u=>by rw[gE]at h;obtain rfl:=(i7 h).2;exact⟨rfl,u⟩
 |id::r,L,j,h,u=>
  by
   rw[gE]at h;split at h;obtain rfl:=(i7 h).2;exact⟨rfl,u⟩;split at h
   rename_i y;obtain⟨a,b⟩:=Cj r _ j h (λz e=>by
    rcases ij e with e|rfl
    .exact u z e
    .have:=cv (lC y);omega)
   exact⟨by rw[a,ei],b⟩;exact absurd (i7 h).1 zJg
def KQ:∃q:Nat,gj N=q/\q<=N.nodes:=by
 refine⟨_,rfl,?_⟩;rcases h:(EG N).getLast? with _|x;rw[PY,h];simp;rw[PY,h];have:=sE.1 (List.mem_of_getLast? h);have:=pF.1 this.1;simp;omega
def qn[aW w A n B m N](j:Z N.fits)(hr:Z N.ko)(hs:Z N.small)(hO:Z (eC N=O)){k:Nat}(r:Z (O=k)):() 121 #[.agg #[.slice A n c,(B,m,d)]] w λe w'=>∃A c,e=.returned (.slice A k c)/\Sl w' A k O/\aD w' w.1.size 3 A c O/\aj w' w:=by
 obtain rfl:=hO.o;obtain rfl:=r.o;exact(TM j hr hs).mono λe w' ⟨A,c,u,b,y⟩=>⟨A,c,u,⟨b.rd,rfl⟩,b,y⟩
def Ip{k:Nat}[aW w A n B m N](j:Z N.fits)(hr:Z N.ko)[Sl w C k ord](r:k<=100000)(u:Z (∀id∈ord,1<=id/\id<=m))(hL:Z (gE N ord (lF N)=(E,L))){x:Nat}(y:Z (L=x)):
  () 122 #[.agg #[.slice A n c,(B,m,d)],(C,k,g)] w λe w'=>∃A c b,e=.returned (.tuple #[.slice A x c,E])/\dX w' A x b/\Le x c/\Z (aX b=L)/\aj w' w/\pp w.1.size A b:=by
 obtain rfl:=y.o;exact ado j hr r u hL
def xI:∀{l:List dV},lG m l=0->∀v∈l,EL m v=0
 |[],_,v,hv=>absurd hv aI
 |x::t,h,v,hv=>by unfold lG at h;split at h;rename_i b;rcases dE.1 hv with rfl|hv;exact b;exact xI h v hv;exact absurd h zJg
def zJ1(h:Γ:=by refine aZ (v:=.tuple #[.agg #[(),(),an],(23:Int)]) ?_ rfl (gS eL);rw[ct rfl];go_simp):=h
def zJ3(h:Γ:=by rw[ct rfl];go_simp):=h
def zJ6(h:Γ:=by go_wp2_with (go_at_call 73;refine mv (h5 Y Na HJ6) λu7 _=>?_);exact zJ1):=h
def sX[a:aW w A n B m N](D:Z N.fits)(hs:Z N.small)(hE:Z (bm N=E))(hV:Z (dz N=(O,L,l))):() 72 #[.agg #[(A,n,c),(B,m,d)]] w (QZ w E O L l):=by
 obtain⟨CB,CP,FB⟩:=gW;have Q:Z (m=N.nodes):=a.len;have hm:m<=1000:=by rw[Q.o];exact hs.o.1
 have sI:=a.ed;have hn:n<=100000:=by rw[sI.len];exact D.o.2.1
 go_in;by_cases c1:1<=m/\m<=512
 .have Iq:=U c1;(have c2:¬(m:Int)<1:=by omega);(have c3:¬(m:Int)>512:=by omega);have r:=hE.o;rw[bm,<-Q.o,ah c1]at r;clear c1;rcases hb:aH N.ed with _|_
  .obtain rfl:E=20:=by rw[hb]at r;exact r.symm
   obtain⟨rfl,rfl,rfl⟩:=ix hE hV Y;have HB:=U hb;clear hb r;go_wp2_with (go_at_call 119;refine pU (λu _ _ _=>?_);refine(dl Y HB).mono ?_;rintro e u1 ⟨rfl,_⟩);refine aZ (v:=.tuple #[.agg #[(),(),an],(20:Int)]) ?_ rfl (gS eL);exact zJ3
  rw[hb]at r;have HB:=U hb;have R:Z ((if lG m N.nodes=0 then sW N else lG m N.nodes)=E):=r;clear hb r;go_upto_region 5 with(go_at_call 119;refine pU (λu _ _ _=>?_);refine(dl Y HB).mono ?_;rintro e u1 ⟨rfl,_⟩);go_wp2_with fail;go_loopw [34] (λi wr=>∃k:Nat,k<=m/\i=.int .i64 k/\Z (lG m (N.nodes.drop k)=lG m N.nodes)/\aj wr u1) (λi _=>m-(intOf i).toNat);exact⟨0,aR _,rfl,U rfl,⟨aY _ _⟩⟩;obtain⟨k,hk,rfl,HD,hp⟩:=hrel;by_cases bD:k<m
  .obtain⟨b0,q0,o,A1,n1,c1,I,ni,ci,ins,P,np,cp,ps,rfl,ob,⟨v0,v1,v2,v3,v4,v5,v6,v7,v8,v9⟩,s1,si,sp,l1,li,lp,ik,lP⟩:=a.node bD;(have ra:ni<=100000:=by have:=(D.o.2.2 _ (aK lP.o)).1;exact zJb);have qW:n1<=100000:=by have:=(D.o.2.2 _ (aK lP.o)).2.1;rwa[s1.len]
   have HI:Z (ni=ins):=si.len;have Ou:Z (lG m N.nodes=if EL m ⟨o,ins,aX ps⟩=0 then lG m (N.nodes.drop (k+1))else EL m ⟨o,ins,aX ps⟩):=U (by
    obtain⟨h1,h2⟩:=bj.1 lP.o;rw[<-HD.o,e7 h1,h2];rfl)
   obtain⟨ob',G⟩:=l8 o.right;rcases ob' with _|_
   .have h1:lG m N.nodes=21:=by rw[Ou.o,EL];simp[G.o]
    obtain rfl:E=21:=by rw[<-R.o,h1];rfl
    obtain⟨rfl,rfl,rfl⟩:=ix hE hV Y;clear h1;go_wp2_with (go_at_call 120;refine er (λu2 _ _=>?_);refine(Ci Y G).mono ?_;rintro e u3 ⟨rfl,_⟩);refine aZ (v:=.tuple #[.agg #[(),(),an],(21:Int)]) ?_ rfl (gS eL);exact zJ3
   go_wp2_with (go_at_call 120;refine er (λu2 _ _=>?_);refine(Ci Y G).mono ?_;rintro e u3 ⟨rfl,_⟩);go_loopw [46] (λi wr=>∃j:Nat,j<=ni/\i=.int .i64 j/\Z (∀z∈ins.take j,0<=z/\z<=m)/\aj wr u3) (λi _=>ni-(intOf i).toNat);exact⟨0,aR _,rfl,U aI,⟨aY _ _⟩⟩;obtain⟨j,hj,rfl,HZ,rE⟩:=hrel;by_cases In:j<ni
   .obtain⟨b2,q2,z,rfl,iM,vz,ez⟩:=si.get In;by_cases hz:0<=z/\z<=m
    .have HT:Z (∀y∈ins.take (j+1),0<=y/\y<=m):=λy hy=>by rw[take_at ez.o]at hy;rcases cu.1 hy with h|h;exact HZ.o y h;rw[de.1 h];exact hz
     have z1:¬z<0:=Y;(have z2:¬z>(m:Int):=by omega);clear hz;go_wp2_with fail;go_roundw;exact⟨j+1,Y,by go_num,HT,rE⟩;exact zJ0
    have h1:lG m N.nodes=11:=by (have:ins.all (λz=>decide (0<=z)&&decide (z<=m))=false:=by rw[pI];exact⟨z,aK ez.o,by simp;omega⟩);rw[Ou.o,EL];simp[G.o,this]
    obtain rfl:E=11:=by rw[<-R.o,h1];rfl
    obtain⟨rfl,rfl,rfl⟩:=ix hE hV Y;clear h1;by_cases z1:z<0;rotate_left;(focus have z2:z>(m:Int):=by omega);all_goals clear hz;go_wp2_with fail;refine aZ (v:=.tuple #[.agg #[(),(),an],(11:Int)]) ?_ rfl (gS eL);rw[ct rfl];go_simp
   obtain rfl:j=ni:=Y;have XT:Z (lG m (N.nodes.drop (k+1))=lG m N.nodes):=U (by
    have:ins.all (λz=>decide (0<=z)&&decide (z<=m))=true:=by
     rw[dL];intro z hz;have:=HZ.o z (by rw[HI.o,ek];exact hz);simp[this]
    rw[Ou.o,EL];simp[G.o,this])
   go_wp2_with fail;go_roundw;exact⟨k+1,Y,by go_num,XT,aC⟩;exact zJ0
  obtain rfl:k=m:=Y;(have hN0:lG k N.nodes=0:=by rw[<-HD.o,eU (by rw[<-Q.o];exact al _)];rfl);(have b:sW N=E:=by have:=R.o;rw[hN0,ah rfl]at this;exact this);have S:Z N.ko:=λv hv id hid=>by
   have:=xI hN0 v hv;unfold EL at this;split at this
   .split at this;rename_i h;have:=dL.1 h id hid;rw[<-Q.o];simpa using this;omega
   omega
  obtain⟨M,T⟩:∃M,eC N=M:=⟨_,rfl⟩;obtain⟨⟨LE,LL⟩,Sj⟩:=lh (gE N M (lF N));obtain⟨q,hq,hqm⟩:=KQ (N:=N);obtain⟨lb,hlb⟩:=lh (rQ N);rw[sW,An,T,Sj,hq,hlb,<-Q.o]at b;have J:eY N M:=T▸qm _ _ eY.nil;have TS:=J.len;rw[<-Q.o]at TS hqm;(have wa:Z (∀id∈M,1<=id/\id<=k):=U λid hid=>by have:=bt.1 (J.ids id hid);rw[<-Q.o]at this;exact this);have HO:=U T;have K:=U Sj;have HU:Z (gj N=(q:Int)/\rQ N=lb):=U ⟨hq,hlb⟩;dsimp only at b;clear T Sj hq hlb J HD R hN0;by_cases hl:M.length=k
  .rw[ah hl]at b;have F:=U hl;clear hl TS;by_cases h0:LE=0
   .subst h0;rw[ah rfl]at b;have hly:=Cj _ _ _ K (λz hz=>by
     rcases dE.1 hz with rfl|hz
     .exact D.o.2.1
     .rw[e3 hz];simp)
    have C:Z (LL=k+1):=U (by rw[hly.1,Q.o];simp[lF]);have KK:=U hly.2;clear hly;rcases lb with _|_
    .obtain rfl:E=23:=b.symm;obtain⟨rfl,rfl,rfl⟩:=ix hE hV Y;clear b;go_wp2_with (first|(go_at_call 121;refine(qn D S hs HO F).mono ?_;rintro e u ⟨A4,c4,rfl,sO4,V,p4⟩)|(go_at_call 122;refine(Ip D S Y wa K C).mono ?_;rintro e u ⟨A5,c5,ss,rfl,sh,lc5,X,p5,fS⟩)|(go_at_call 123;refine(FD D S HU).mono ?_;rintro e u ⟨rfl,_⟩));exact zJ1
    rw[ah rfl,a9]at b;obtain⟨zq,hzq⟩:=lh (LL.getD q []);rw[hzq]at b;have HZQ:=U hzq;obtain⟨V6,W3⟩:=lh (bG zq);obtain⟨J6,hJ6⟩:=lh (cB zq);rw[W3,hJ6]at b;have Na:=U W3;have HJ6:=U hJ6;have y5:=U b;clear hzq W3 hJ6 b;go_upto_region 26 with(first|(go_at_call 121;refine(qn D S hs HO F).mono ?_;rintro e u ⟨A4,c4,rfl,sO4,V,p4⟩)|(go_at_call 122;refine(Ip D S Y wa K C).mono ?_;rintro e u ⟨A5,c5,ss,rfl,sh,lc5,X,p5,fS⟩)|(go_at_call 123;refine(FD D S HU).mono ?_;rintro e u ⟨rfl,_⟩));obtain⟨b5,o5,A6,m6,c6,z6,rfl,ob5,v5,s6,l6,e6⟩:=sh.get (k:=q) Y;(have hz6:LL[q]?=some z6:=by have:=e6.o;rwa[X.o]at this);(obtain rfl:z6=zq:=by rw[<-HZQ.o,a5,hz6];rfl);(have hm6:m6<=100000:=by rw[s6.len];exact KK.o _ (aK hz6));clear hz6;by_cases hj:J6=0
    .by_cases hv:V6=1
     .subst hj hv;(obtain rfl:E=0:=by rw[<-y5.o,ah ⟨rfl,rfl⟩]);(obtain⟨rfl,rfl,rfl⟩:M=O/\LL=L/\(q:Int)=l:=by have h:=hV.o;rw[dz,hE.o,ah rfl,HO.o,K.o,HU.o.1]at h;simpa using h);go_wp2_with (go_at_call 73;refine mv (h5 Y Na HJ6) λu7 _=>?_);have hx:w.1.size+1<wr.1.size:=(am:Bx wr (w.1.size+1) _ _).ak.lt;refine aZ (v:=.tuple #[.agg #[(A4,k,c4),.slice (some ⟨b5,o5,none⟩) (k+1) c5,q],an]) ?_ rfl ⟨A4,c4,some ⟨b5,o5,none⟩,c5,ss,by rw[F.o,C.o],Cg (V.at (w':=u7)) hx,by rw[C.o];exact XS am fS (bN hx p4.st.size),by rw[C.o];exact lc5,X,eL,fS.less (by have:=p4.st.size;omega)⟩;exact zJ3
     obtain rfl:E=23:=by rw[<-y5.o,ag (λh=>hv h.2)]
     obtain⟨rfl,rfl,rfl⟩:=ix hE hV Y;subst hj;(have b1:(V6 !=1)=true:=by simp[hv]);clear hv;exact zJ6
    obtain rfl:E=23:=by rw[<-y5.o,ag (λh=>hj h.1)]
    obtain⟨rfl,rfl,rfl⟩:=ix hE hV Y;(have b1:(J6 !=0)=true:=by simp[hj]);clear hj;exact zJ6
   rw[ag h0]at b;obtain rfl:E=LE:=b.symm;obtain⟨rfl,rfl,rfl⟩:=ix hE hV h0;(have b0:(E !=0)=true:=by simp[h0]);obtain⟨y,C⟩:=l8 LL.length;clear b h0;go_wp2_with (first|(go_at_call 121;refine(qn D S hs HO F).mono ?_;rintro e u ⟨A4,c4,rfl,sO4,V,p4⟩)|(go_at_call 122;refine(Ip D S Y wa K C).mono ?_;rintro e u ⟨A5,c5,ss,rfl,sh,lc5,X,p5,fS⟩));refine aZ (v:=.tuple #[.agg #[(),(),an],E]) ?_ rfl (gS eL);exact zJ3
  rw[ag hl]at b;obtain rfl:E=22:=b.symm;obtain⟨rfl,rfl,rfl⟩:=ix hE hV Y;have F:Z (M.length=M.length):=rfl;(have b0:((M.length:Int) !=(k:Int))=true:=by simp;omega);clear b hl;go_wp2_with (go_at_call 121;refine(qn D S hs HO F).mono ?_;rintro e u ⟨A4,c4,rfl,sO4,V,p4⟩);refine aZ (v:=.tuple #[.agg #[(),(),an],(22:Int)]) ?_ rfl (gS eL);exact zJ3
 obtain rfl:E=12:=by rw[<-hE.o,bm,ag (by rwa[<-Q.o])]
 obtain⟨rfl,rfl,rfl⟩:=ix hE hV Y;by_cases c2:1<=m;focus have c3:(m:Int)>512:=by omega
 rotate_left;focus obtain rfl:m=0:=Y
 all_goals go_wp2_with fail;refine aZ (v:=.tuple #[.agg #[(),(),an],(12:Int)]) ?_ rfl (gS ?_);exact zJ3;exact aC
end
def sY(N:a6):Int->List Int->Bool
 |_,[]=>true
 |b,id::r=>if bS N id=[b]then sY N id r else false
def chainB(N:a6):Bool:=if bm N=0 then sY N 0 (eC N)else false
def we(w:ab)(E:Int)(O:au)(e:Ending)(w':ab):Prop:=∃A c,e=.returned (.tuple #[.slice A O c,E])/\aD w' w.1.size 3 A c O/\aj w' w
section
variable{w:World}{n:Nat}{N:a6}{l:Int}
def ih[aW w A n B m N](b:Z N.fits)(hs:Z N.small)(j:Z (bm N=E)):() 40 #[.agg #[(A,n,c),(B,m,d)]] w (aL w E):=by
 have F:=@az;have G:=@aP;obtain⟨⟨O,L,l⟩,r⟩:=l8 (dz N);go_in;go_wp2_with (go_at_call 72;refine(sX b hs j r).mono ?_;rintro e u ⟨AO,cO,AL,cL,I,rfl,y,z,C,D,J,K⟩);go_ret;exact bF
def Ck[aW w A n B m N](j:Z N.fits)(hs:Z N.small)(r:Z (bm N=E))(y:Z (dz N=(O,L,l))):() 60 #[.agg #[(A,n,c),(B,m,d)]] w (we w E O):=by
 have F:=@az;have G:=@aP;go_in;go_wp2_with (go_at_call 72;refine(sX j hs r y).mono ?_;rintro e u ⟨AO,cO,AL,cL,I,rfl,b,z,C,D,J,K⟩);go_ret2;exact⟨AO,cO,rfl,b.at.more ai,aC⟩
def FI[aW w A n B m N](r:Z N.fits)(hs:Z N.small)(y:Z (bm N=E))(z:Z (dz N=(O,L,l))):() 28 #[.agg #[(A,n,c),(B,m,d)]] w (QV w L E):=by
 have I:=@az;have J:=@aP;go_in;go_wp2_with (go_at_call 72;refine(sX r hs y z).mono ?_;rintro e u ⟨AO,cO,AL,cL,C,rfl,D,F,b,j,K,G⟩);go_ret2;exact⟨AL,cL,C,rfl,am,b,j,aC,G.less ai⟩
def Ao[aW w A n B m N](b:Z N.fits)(hs:Z N.small)(j:Z (bm N=E))(r:Z (dz N=(O,L,l))):() 61 #[.agg #[(A,n,c),(B,m,d)]] w (aL w (.tuple #[l,E])):=by
 have F:=@az;have G:=@aP;go_in;go_wp2_with (go_at_call 72;refine(sX b hs j r).mono ?_;rintro e u ⟨AO,cO,AL,cL,I,rfl,y,z,C,D,J,K⟩);go_ret2;exact bF
def zJa(h:Γ:=by go_wp2_with fail;go_ret;exact bF):=h
def KR[a:aW w A n B m N](hf:Z N.fits)(hs:Z N.small){b:Bool}(HB:Z (chainB N=b)):() 196 #[.agg #[(A,n,c),(B,m,d)]] w (aL w (.bool b)):=by
 obtain⟨CB,CP,FB⟩:=gW;have HM:Z (m=N.nodes):=a.len;have hm:m<=1000:=by rw[HM.o];exact hs.o.1
 obtain⟨⟨O,L,l⟩,hV⟩:=lh (dz N);obtain⟨E,hE⟩:=lh (bm N);have y:=HB.o;rw[chainB,hE]at y;have T:=U hE;have HV:=U hV;clear hE;go_in;by_cases Q:E=0
 .subst Q;rw[ah rfl]at y;(have hO:eC N=O:=by have h:=hV;rw[dz,T.o,ah rfl]at h;exact(i7 h).1);rw[hO]at y;have r:eY N O:=hO▸qm _ _ eY.nil;(have V:Z (∀id∈O,1<=id/\id<=m):=U λid hid=>by have:=bt.1 (r.ids id hid);rw[<-HM.o]at this;exact this);(have hOl:O.length<=1000:=by have:=r.len;have:=hs.o.1;omega);have F:=U y;clear y hO r hV;go_wp2_with (go_at_call 72;refine(sX hf hs T HV).mono ?_;rintro e u ⟨AO,cO,AL,cL,sL,rfl,G,X,lcL,EM,pL,fL⟩);have sO:Sl _ AO O O:=⟨G.rd,rfl⟩;refine aa (λx _ _=>?_);go_loopw [5,19] (λs i wr=>∃(j:Nat) (C:Int),j<=O/\i=.int .i64 j/\s=.int .i64 C/\Z (sY N C (O.drop j)=b)/\aj wr x) (λ_ i _=>O.length-(intOf i).toNat);exact⟨0,0,aR _,rfl,rfl,F,⟨aY _ _⟩⟩;clear F;obtain⟨j,C,hj,rfl,rfl,HC,hp⟩:=hrel;have sW:Sl wr AO O O:=am;by_cases bD:j<O
  .obtain⟨b9,q9,id,rfl,XG,v9,J⟩:=sW.get bD;obtain⟨Ik,B7⟩:=V.o id (aK J.o);obtain⟨t,ht⟩:=bO (show 0<=id-1 by omega);(obtain rfl:id=(t:Int)+1:=by omega);have B8:t<m:=Y;(have w2:(t:Int)+1-1=t:=by omega);obtain⟨b0,q0,o,A1,n1,c1,I,ni,ci,ins,P,np,cp,ps,rfl,ob,⟨v0,v1,v2,v3,v4,v5,v6,v7,v8,Oj⟩,s1,R,sp,l1,li,lp,ik,K⟩:=a.node B8;have ra:ni<=1000:=by have:=hs.o.2 _ (aK K.o);rwa[R.len]
   have D:Z ((if ins=[C]then sY N ((t:Int)+1) (O.drop (j+1))else false)=b):=U (by
    have h:=HC.o;obtain⟨M,h2⟩:=bj.1 J.o;rw[e7 M,h2,sY,bS,show((t:Int)+1-1).toNat=t from Y,K.o]at h;exact h)
   clear ht Ik B7 HC;by_cases M:ni=1
   .subst M;obtain⟨z,rfl⟩:∃z,ins=[z]:=List.length_eq_one_iff.1 R.len.symm;obtain⟨b2,q2,z',rfl,iM,vz,ez⟩:=R.get (nP 0);(obtain rfl:z=z':=by have:=ez.o;simpa using this);rw[d9]at vz;by_cases S:z=C
    .subst S;have HD2:Z (sY N ((t:Int)+1) (O.drop (j+1))=b):=U (by have:=D.o;rwa[ah rfl]at this);clear D;go_wp2_with fail;go_roundw;exact⟨j+1,_,Y,by go_num,rfl,HD2,aC⟩;exact zJ0
    obtain rfl:b=false:=by have:=D.o;rw[ag (by simpa using S)]at this;exact this.symm
    have b0:(z !=C)=true:=by simp[S]
    clear D S;exact zJa
   obtain rfl:b=false:=by have:=D.o;rw[ag (λe=>M (by rw[R.len,e];rfl))]at this;exact this.symm
   have b0:((ni:Int) !=1)=true:=by simp;omega
   clear D M;exact zJa
  obtain rfl:b=true:=by have:=HC.o;rw[eU Y]at this;exact this.symm
  have Oi:j=O:=Y;subst Oi;exact zJa
 obtain rfl:b=false:=by rw[ag Q]at y;exact y.symm
 have b0:(E !=0)=true:=by simp[Q]
 clear Q hV y;go_wp2_with (go_at_call 72;refine(sX hf hs T HV).mono ?_;rintro e u ⟨AO,cO,AL,cL,sL,rfl,G,X,lcL,EM,pL,fL⟩);go_ret;exact bF
end
section
variable{P:Program}{ops:Array Oper}{a:Act}{Q:Exit->Act->World->Prop}
def zr{w:ab}{rest:List Oper}{o:Oper}(J:o.guard=none)(s x:Operand)(t:TypeId)
  (ho:o.op=.call {callee:=.builtin .append,args:= #[s,x],argTypes:= #[t,t]}) (E:TypeId) (ht:P.underlying t=some (.slice E)) (k bytes:Nat) (z:Value)
  (r:(P.info? E).map (λi=>(i.zero,i.size,i.bytes))=some (some z,k,bytes)) (K:z.cells.size=k) (V:0<k) (L:bytes<=1000)
  (B:Nat) (A:bz) (c n:Nat) (X:ki) (hs:a.eval s=.slice A n c) (F:aT w B E k A c n X) (M:Addr) (m c2:Nat) (news:ki) (hx:a.eval x=.slice (some M) m c2) (hl:news.length=m*k)
  (y:∀j u,news[j]?=some u->w.cell? (M.add j)=some u) (h1:∀u∈news,u.oneCell'=true) (hlen:n+m<=1000000000) (hB:B<=w)
  (h:∀C G w',aT w' B E k C G (n+m) (X++news)->dj A C w w'->wpList P ops Q rest (a.put o.dst (.slice C (n+m) G)) w'):
  wpList P ops Q (o::rest) a w:=by
 obtain⟨i,hi,I⟩:=bJ.1 r;simp only[dS]at I;obtain⟨N,O,R⟩:=I;refine uU w J s x t ho B E i z k bytes ht hi N O R K V _ _ _ hs F M m c2 news hx hl y h1 (by unfold maxLen;omega) ?_ hB ?_;have:=fS (n+m) L;omega;intro v' w' l hg _ hn;have hC:∀C n' G,v'=.slice C n' G->dj A C w w':=λC n' G hv=>by subst hv;rw[cX,cX]at hn;refine⟨(aY 0 w).grown hg Y (λk V=>aR _),hg.size,λb hb S=>hg.block b hb ?_,λad' e=>?_⟩;rw[cX];intro e;obtain⟨a0,T,rfl⟩:=bJ.1 e.symm;exact S a0 T rfl;subst e;rcases hn with hn|hn;obtain⟨a0,h3,h4⟩:=bJ.1 hn.symm;exact .inl ⟨a0,h3,h4.symm⟩;right;injection hn with hn;exact dT hn.symm
 rcases l.2 with⟨hv,h0⟩|⟨g,cap,cur,hv,hBg,qP,G3,RD,RE,htk⟩;have D:=hC none 0 0 hv;rw[hv]at l⊢;have:=h none 0 w' (by rw[h0]at l⊢;exact l) D;rwa[h0]at this;have D:=hC _ _ _ hv;rw[hv]at l⊢;exact h _ _ _ l D
def Rd.jE{w:ab}{X:bz}(h:Rd w X zs)(m:dj A B w w')(l:∀r bd,X=some r->A=some bd->bd.block≠r.block):Rd w' X zs:=by
 intro j z u;obtain⟨b,off,e,hb,y⟩:=h j z u;exact⟨b,off,e,bN hb m.size,(d4 (m.off b hb λbd C=>l _ bd e C)).trans y⟩
@[grind cases]structure kM(w:World)(B:Nat)(A:Option Addr)(c:Nat)(ss:List Sp):Prop where
 row:aT w B 25 1 A c ss.length (gR ss).toList
 el:∀x∈ss,Rd w x.A x.zs/\x.m=x.zs.length/\x.m<=x.c/\bL B x.A
 ne:∀x∈ss,∀ad bd,x.A=some ad->A=some bd->bd.block≠ad.block
 lt:∀x∈ss,∀ad,x.A=some ad->ad.block<w.1.size
def adp(w:ab)(L:f0)(e:Ending)(w':ab):Prop:=∃g b,e=.returned (.slice (some ⟨g,0,none⟩) L L.length)/\po w' g b/\Z (aX b=L/\∀x∈b,∀j,x.A=some j->j.block<w'.1.size)/\w.1.size<=g/\aj w' w
def bQ(N:a6):List (List Int):=N.nodes.flatMap (·.P)
section
variable{w:World}{n:Nat}{N:a6}
def XU{x:Sp}(ts:List Sp){n:Nat}(b:ts=j)(h:j<n):(ts++List.replicate (n-j) dN).set j x=(ts++[x])++List.replicate (n-(j+1)) dN:=by
 rw[show n-j=(n-(j+1))+1 from Y,jM,ky _ _ Y,b,eV,i4];simp
def TP[a:dX w B n ss](L:n<=1000000)(M:Z (∀z∈aX ss,z.length<=1000000)):() 117 #[(B,n,c)] w (adp w (aX ss)):=by
 have V:=@bX;have C:=mh n L;have J:Z (n=(aX ss).length):=U (by rw[cR];exact a.len);go_in;go_wp2_with fail;refine aa (λv _ _=>?_);have l:po v w.1.size (List.replicate n dN):=po.new (Bx.ak (w:=v) (g:=w.1.size));clear C;go_loopw [11] (λi wr=>∃(j:Nat) (ts:List Sp),j<=n/\i=.int .i64 j/\Z (ts=j/\aX ts=(aX ss).take j/\∀x∈ts,∀r,x.A=some r->r.block<wr.1.size)/\po wr w.1.size (ts++List.replicate (n-j) dN)/\aj wr w) (λi _=>n-(intOf i).toNat);exact⟨0,[],aR _,rfl,U ⟨rfl,rfl,aI⟩,l,aC⟩;clear l;obtain⟨j,ts,X,rfl,b,hS,hp⟩:=hrel;by_cases y:j<n
 .obtain⟨b0,q0,A1,m1,c1,zs,rfl,ob,v0,O,l1,K⟩:=a.get y;have D:m1<=1000000:=by rw[O.len];exact M.o _ (aK K.o)
  have E:=U (take_at K.o);have P:Z ((gR (ts++List.replicate (n-j) dN))[j]?=some (.slice none 0 0)):=U (by
   rw[iZ (x:=dN)]
   .rfl
   .rw[eT (by rw[b.o.1];exact al _),b.o.1,eV,kw,ah Y])
  go_wp2_with (go_at_call 103;refine(Fg D).mono ?_;rintro e u ⟨Q,rfl,F,oS,R⟩;have G:=hS.at (w':=u);have S:=(G.ak.cell j).trans P;have T:=G.ak.frozen j);go_roundw;have I:=hS.ak.lt;have hx:=G.av (x:=⟨some ⟨Q,0,none⟩,zs.length,zs.length,zs⟩) j oS.rd rfl (al _) ⟨λr e=>by cases e;exact aQ I F⟩;rw[XU ts b.o.1 y]at hx;refine⟨j+1,_,Y,by go_num,U ⟨by simp[b.o.1],?_,λx hx r e=>?_⟩,hx,⟨(aO w u).setCell (p:=⟨w.1.size,j,none⟩) (al _) _⟩⟩;rw[E.o,<-b.o.2.1];simp[aX];have:=R.st.size;rcases cu.1 hx with hx|hx;have:=b.o.2.2 x hx r e;simp;omega;rw[de.1 hx]at e;cases e;have:=oS.lt;simpa using this;exact zJ0
 obtain rfl:j=n:=Y;go_wp2_with fail;go_ret;refine⟨w.1.size,ts,by rw[<-J.o];rfl,by simpa using hS,U ⟨by rw[b.o.2.1,bV (by rw[<-J.o];exact al _)],b.o.2.2⟩,al _,hp⟩
def kM.at(h:kM w d A c ss)[l:aM w w']:kM w' d A c ss:=
 ⟨h.row.at,λx b=>⟨(h.el x b).1.below l.st,(h.el x b).2⟩,h.ne,λx b j e=>bN (h.lt x b j e) l.st.size⟩
def kM.nil:kM w d none 0 []:=⟨G0 w d _ 1,aI,aI,aI⟩
theorem kM.grow{ts:List Sp}(h:kM w d A c ss)(hb:po w g ts)(I:∀x∈ts,∀b,x.A=some b->b.block<w.1.size)(hd:d<=g)(J:∀bd,A=some bd->bd.block<g)(l:dj A C w w')
  (hr:aT w' d 25 1 C j (ss++ts).length (gR (ss++ts)).toList):kM w' d C j (ss++ts):=by
 have E:∀x∈ss++ts,∀b,x.A=some b->b.block<w.1.size:=ay;have r:∀x∈ss++ts,∀b bd,x.A=some b->A=some bd->bd.block≠b.block:=ay;refine⟨hr,λx u=>?_,λx u b bd e y=>?_,ay⟩;rcases cu.1 u with hx'|hx';obtain⟨z,D⟩:=h.el x hx';exact⟨z.jE l λb bd e y=>r x u b bd e y,D⟩;obtain⟨z,D,F,G⟩:=hb.el x hx';exact⟨z.jE l ay,D,F,G.less Y⟩;rcases l.new bd y with⟨a0,K,L⟩|Au;grind;grind
def XV:∀u∈(gR ss).toList,u.oneCell'=true:=λu hu=>by
 simp only[gR,List.toList_toArray,cw]at hu;obtain⟨x,_,rfl⟩:=hu;rfl
def XW:(gR ss).toList.length=ss:=by simp[gR]
def KS{ts:List Sp}:(gR (ss++ts)).toList=(gR ss).toList++(gR ts).toList:=by simp[gR]
def adq(w:ab)(L:f0)(e:Ending)(w':ab):Prop:=∃A c ss,e=.returned (.slice A L c)/\kM w' w.1.size A c ss/\Z (aX ss=L)/\aj w' w
theorem un(h:N.fits)(k:Nat):((N.nodes.take k).flatMap (·.P)).length<=(N.nodes.take k).length*100000:=by
 have:∀l:List dV,(∀v∈l,v.P.length<=100000)->(l.flatMap (·.P)).length<=l.length*100000:=λl=>by
  induction l with
  |nil=>intro _;simp
  |cons v t b=>grind
 exact this _ λv hv=>(h.2.2 v ay).2.2.1
def FJ[a:aW w A n B m N](E:Z N.fits)(hs:Z N.small):() 68 #[.agg #[(A,n,c),(B,m,d)]] w (adq w (bQ N)):=by
 obtain⟨CB,CP,FB⟩:=gW;have O:Z (m=N.nodes):=a.len;have hm:m<=1000:=by rw[O.o];exact hs.o.1
 go_in;go_wp2_with fail;refine aa (λv _ _=>?_);go_loopw [3,9] (λs i wr=>∃(k:Nat) (l:bz) (r:Nat) (ss:List Sp),k<=m/\i=.int .i64 k/\s=.slice l ss r/\kM wr w.1.size l r ss/\Z (aX ss=(N.nodes.take k).flatMap (·.P))/\aj wr w) (λ_ i _=>m-(intOf i).toNat);exact⟨0,none,0,[],aR _,rfl,rfl,kM.nil,U rfl,aC⟩;obtain⟨k,l,r,ss,hk,rfl,rfl,hS,F,hp⟩:=hrel;by_cases G:k<m
 .obtain⟨b0,q0,o,A1,n1,c1,I,ni,ci,ins,P,np,cp,ps,rfl,ob,⟨v0,v1,v2,v3,v4,v5,v6,v7,v8,v9⟩,s1,si,sp,l1,li,lp,ik,b⟩:=a.node G;(have J:np<=100000:=by have:=(E.o.2.2 _ (aK b.o)).2.2.1;exact zJ8);(have K:Z (∀z∈aX ps,z.length<=1000000):=U λz S=>by have:=(E.o.2.2 _ (aK b.o)).2.2.2 z S;omega);have L:Z ((N.nodes.take (k+1)).flatMap (·.P)=aX ss++aX ps):=U (by rw[take_at b.o,nK,F.o];simp);(have T:ss.length<=100000000:=by have V:=un E k;rw[<-F.o,cR]at V;(have:(N.nodes.take k).length<=1000:=by have:=hs.o.1;simp;omega);omega);(have X:(aX ps).length<=100000:=by rwa[cR,<-sp.len]);go_wp2_with (first|(go_at_call 117;refine er (λu0 _ _=>?_);refine(TP Y K).mono ?_;rintro e u ⟨g,ts,rfl,Q,D,hg,pu⟩)|(at_builtin;refine zr rfl _ _ _ rfl 25 underlying82 1 24 () ap rfl ao ao w.1.size l r ss.length (gR ss).toList rfl (hS.at (w':=u)).row ⟨g,0,none⟩ _ _ (gR ts).toList rfl (by rw[XW,fm,<-cR,D.o.1]) (λj x hj=>by rw[cf,cQ,Q.ak.cell j];simpa using hj) XV Y ai ?_;intro A3 c3 w3 M y));go_roundw;(have C:(ss++ts).length=ss+(aX ps).length:=by rw[bh,<-D.o.1,cR]);have ru:wr.1.size<=g:=aQ ai hg;refine⟨k+1,A3,c3,ss++ts,Y,by go_num,by rw[C],(hS.at (w':=u)).grow Q D.o.2 (aQ ai hg) (λbd e=>by have:=hS.row.lt bd e;omega) y (by rwa[C,KS]),U (by rw[L.o,<-D.o.1];simp[aX]),⟨(aO w u).trans (y.below (λad e=>hS.row.ge ad e) ai)⟩⟩;exact zJ0
 obtain rfl:k=m:=Y;have R:Z (aX ss=bQ N):=U (by rw[F.o,bV (by rw[<-O.o];exact al _)];rfl);go_wp2_with fail;go_ret;exact⟨l,r,ss,by rw[<-R.o,cR];rfl,hS,R,hp⟩
end
end
section
def xJ(zs:au)(z:Int):(zs++[z]).sum=zs.sum+z:=by simp
def rS:∀{zs:au},(∀z∈zs,0<=z)->0<=zs.sum
 |[],_=>aI
 |z::t,h=>by have:=h z dD;have:=rS (zs:=t) λx b=>h x (iD _ b);simp;omega
def Ir(h:∀z∈zs,0<=z)(k:Nat):(zs.take k).sum<=zs.sum:=by
 have e:zs.sum=(zs.take k).sum+(zs.drop k).sum:=by rw[<-sA,d3]
 have:=rS (zs:=zs.drop k) λz b=>h z (hJ b);omega
def KT(w:ab)(p z:Int)(hp:0<=p)(m:0<=z)(j:p<=1099511627776)(l:z<=1099511627776){b:Bool}(hb:Z (decide (p+z<=1099511627776)=b)):
  () 78 #[z,.pointer w.1.size] (w.alloc (.cells #[p] 3)) λe w'=>e=.returned (.bool b)/\w.alloc (.cells #[.int .i64 (p+z)] 3)=w':=by
 go_in;go_wp2;go_ret;exact⟨bR hb,rfl⟩
def TQ(w:ab)(zs:au)(e:Ending)(w':ab):Prop:=
 e=.returned (.bool (decide (zs.sum<=1099511627776)))/\∃p,w'=w.alloc (.cells #[.int .i64 p] 3)/\(zs.sum<=1099511627776->p=zs.sum)
def zt(A:bz)(c:Nat)(zs:au)(w:ab)(hs:zs.length<=1000000)(h:Rd w A zs)(j:Z (∀z∈zs,0<=z/\z<=1099511627776)):
  () 76 #[.slice A zs c,.func (.func 78) #[] #[.pointer w.1.size]] (w.alloc (.cells #[an] 3)) (TQ w zs):=by
 have I:=h.alloc (.cells #[an] 3);go_in;go_wp2_with fail;go_loopw [9] (λi wr=>∃k:Nat,k<=zs/\i=.int .i64 k/\(zs.take k).sum<=1099511627776/\wr=w.alloc (.cells #[.int .i64 (zs.take k).sum] 3)) (λi _=>zs.length-(intOf i).toNat);exact⟨0,aR _,rfl,aI,rfl⟩;obtain⟨k,L,rfl,m,rfl⟩:=hrel;have u:0<=(zs.take k).sum:=rS λz r=>(j.o z (eS r)).1;by_cases C:k<zs
 .have E:=h.alloc (.cells #[.int .i64 (zs.take k).sum] 3);obtain⟨b,off,z,rfl,hb,M,r⟩:=h.get C;obtain⟨y,B⟩:=j.o z (aK r.o);have J:=E.all r.o;clear I E;by_cases l:(zs.take k).sum+z<=1099511627776
  .have D:Z (decide ((zs.take k).sum+z<=1099511627776)=true):=U (by simpa using l);go_wp2_with fail;refine(KT w _ z u y m B D).mono ?_;rintro e w' ⟨rfl,rfl⟩;go_wp2_with fail;go_roundw;exact⟨k+1,Y,by go_num,by rw[take_at r.o,xJ];exact l,by rw[take_at r.o,xJ]⟩;exact zJ0
  have D:Z (decide ((zs.take k).sum+z<=1099511627776)=false):=U (by simpa using l);have F:Z (1099511627776<zs.sum):=U (by
   have:=Ir (λz r=>(j.o z r).1) (k+1);rw[take_at r.o,xJ]at this;omega)
  go_wp2_with fail;refine(KT w _ z u y m B D).mono ?_;rintro e w' ⟨rfl,rfl⟩;go_wp2_with fail;go_ret;exact⟨bR (by simpa using F.o),_,rfl,λK=>absurd K (by have:=F.o;omega)⟩
 have G:Z (zs.take k=zs):=bV Y;go_wp2_with fail;go_ret;rw[G.o]at m;exact⟨bR (by simpa using m),_,rfl,λ_=>by rw[G.o]⟩
def yN(zs:au):Int:=if zs.all ep&&decide (zs.sum<=1099511627776)then zs.sum else 0
def v9(zs:au):Int:=if zs.all ep then(if zs.sum<=1099511627776 then 0 else 17)else 11
def eZ:List (List Int)->Int
 |[]=>0
 |z::t=>if cB z=0 then eZ t else cB z
def k5(L:f0):List Int:=if eZ L=0 then L.map bG else[]
def rT(zs:au):Int:=zs.foldl max 0
section
variable{w:World}{n:Nat}
def Ap[a:Sl w A n zs](C:n<=1000000){V:Int}(hV:Z (yN zs=V))(hE:Z (v9 zs=E)):() 31 #[(A,n,c)] w (aL w (.tuple #[V,E])):=by
 obtain⟨h,rfl⟩:=a;have r:=U (kv 77 ep nR (λ_ _=>rfl) A c zs w C h);rcases h1:zs.all ep with _|_
 .obtain rfl:V=0:=by rw[<-hV.o];simp[yN,h1]
  obtain rfl:E=11:=by rw[<-hE.o];simp[v9,h1]
  have l:=U h1;clear h1;go_in;go_wp2_with fail;refine r.o.mono ?_;rintro e w' ⟨rfl,rfl⟩;rw[l.o];go_wp2_with fail;go_ret2;exact⟨rfl,⟨aY _ _⟩⟩
 have l:=U h1;have j:Z (∀z∈zs,0<=z/\z<=1099511627776):=λz F=>by have a:=dL.1 h1 z F;simpa[ep]using a
 have D:=U (zt A c zs w C h j);by_cases b:zs.sum<=1099511627776
 .obtain rfl:V=zs.sum:=by rw[<-hV.o];simp[yN,h1,b]
  obtain rfl:E=0:=by rw[<-hE.o];simp[v9,h1,b]
  have u:Z (decide (zs.sum<=1099511627776)=true):=U (by simpa using b);have y:=U b;clear h1 b;go_in;go_wp2_with fail;refine r.o.mono ?_;rintro e w' ⟨rfl,rfl⟩;rw[l.o];go_wp2_with fail;refine D.o.mono ?_;rintro e w' ⟨rfl,p,rfl,hp⟩;obtain rfl:=hp y;rw[u.o];exact zJ9
 obtain rfl:V=0:=by rw[<-hV.o];simp[yN,h1,b]
 obtain rfl:E=17:=by rw[<-hE.o];simp[v9,h1,b]
 have u:Z (decide (zs.sum<=1099511627776)=false):=U (by simpa using b);clear h1 b;go_in;go_wp2_with fail;refine r.o.mono ?_;rintro e w' ⟨rfl,rfl⟩;rw[l.o];go_wp2_with fail;refine D.o.mono ?_;rintro e w' ⟨rfl,p,rfl,hp⟩;rw[u.o];exact zJ9
def Ov:rT (zs++[z])=max (rT zs) z:=by simp[rT]
def abv[a:Sl w A n zs](C:n<=1000000){V:Int}(hV:Z (rT zs=V)):() 38 #[(A,n,c)] w (aL w V):=by
 have r:Z (n=zs):=a.len;go_in;go_wp2_with fail;go_loop [3,8] (λs i=>∃k:Nat,k<=n/\i=.int .i64 k/\s=.int .i64 (rT (zs.take k))) (λ_ i=>n-(intOf i).toNat);exact⟨0,aR _,rfl,rfl⟩;obtain⟨k,D,rfl,rfl⟩:=hrel;by_cases e:k<n
 .obtain⟨b,q,z,rfl,ob,v0,u⟩:=a.get e;have j:Z (rT (zs.take (k+1))=max (rT (zs.take k)) z):=U (by rw[take_at u.o,Ov]);obtain⟨M,l⟩:=lh (rT (zs.take k));rw[l]at j⊢;clear l;go_wp2_with fail;go_round;exact⟨k+1,Y,by go_num,by rw[j.o];try rfl⟩;exact zJ0
 have y:Z (rT (zs.take k)=V):=U (by rw[bV (by rw[<-r.o];omega)];exact hV);rw[y.o];go_wp2_with fail;go_ret;exact⟨rfl,⟨aY _ _⟩⟩
def zJi(h:Γ:=by rw[bn,b.o];exact al _):=h
def TT[a:dX w B n ss](hn:n<=1000000)(hz:Z (∀z∈aX ss,z.length<=1000000)){V:au}(hE:Z (eZ (aX ss)=E))(hV:Z (k5 (aX ss)=V)):() 29 #[(B,n,c)] w (we w E V):=by
 have CP:=@bX;have M:=kL n hn;have L:Z (n=(aX ss).length):=U (by rw[cR];exact a.len);go_in;go_wp2_with fail;obtain⟨v,hv⟩:=lg (w.alloc (.cells (ints (List.replicate n 0)) 3));have pv:aj v w:=hv▸aC;have l:Own v w.1.size 3 (((aX ss).take 0).map bG++List.replicate (n-0) 0):=by rw[hv];exact Own.new _ _ _
 rw[<-hv];clear M hv;go_loopw [14] (λi wr=>∃j:Nat,j<=n/\i=.int .i64 j/\Own wr w.1.size 3 (((aX ss).take j).map bG++List.replicate (n-j) 0)/\Z (eZ ((aX ss).drop j)=eZ (aX ss))/\aj wr w) (λi _=>n-(intOf i).toNat);exact⟨0,aR _,rfl,l,U rfl,pv⟩;clear l pv;obtain⟨j,hj,rfl,l,S,hp⟩:=hrel;by_cases N:j<n
 .obtain⟨b0,q0,A1,m1,c1,zs,rfl,ob,v0,s1,l1,O⟩:=a.get N;have F:m1<=1000000:=by rw[s1.len];exact hz.o _ (aK O.o)
  have r:Z (eZ (aX ss)=if cB zs=0 then eZ ((aX ss).drop (j+1))else cB zs):=U (by
   obtain⟨h1,h2⟩:=bj.1 O.o;rw[<-S.o,e7 h1,h2];rfl)
  have P:=U (take_at O.o);obtain⟨V6,G⟩:=lh (bG zs);obtain⟨T,y⟩:=lh (cB zs);have C:=U G;have I:=U y;(have J:((aX ss).take j).length=j:=by rw[cr,<-L.o];omega);have b:=U J;rw[y]at r;clear G y J;by_cases e:T=0
  .subst e;have Q:Z (eZ ((aX ss).drop (j+1))=eZ (aX ss)):=U (by rw[r.o,ah rfl]);have X:=U l;clear l;go_wp2_with (go_at_call 73;refine mv (h5 F C I) λu _=>?_;have kU:=X.o.at (w':=u);have aeR:=kU.frozen j;have aeS:=kU.cell (i:=j) (z:=0) (by rw[eT zJi,bn,b.o,eV,kw,ah Y]));go_roundw;have hk:=(X.o.at (w':=u)).av j V6;rw[show n-j=(n-(j+1))+1 from Y,jM,ky _ _ zJi,bn,b.o,eV,i4]at hk;exact⟨j+1,Y,by go_num,by rw[P.o,c9,eh,lM,C.o,hM];exact hk,Q,⟨(aO w u).setCell (p:=⟨w.1.size,j,none⟩) (al _) _⟩⟩;exact zJ0
  have K:E=T:=by rw[<-hE.o,r.o,ag e]
  obtain rfl:V=[]:=by rw[<-hV.o,k5,hE.o,K,ag e]
  subst K;(have b0:(E !=0)=true:=by simp[e]);clear e;go_wp2_with (go_at_call 73;refine mv (h5 F C I) λu _=>?_);go_ret2;exact⟨none,0,rfl,aD.nil _ _ _,aC⟩
 obtain rfl:j=n:=Y;have e:eZ (aX ss)=0:=by rw[<-S.o,eU (by rw[<-L.o];exact al _)];rfl
 obtain rfl:E=0:=by rw[<-hE.o,e]
 have uo:V=(aX ss).map bG:=by rw[<-hV.o,k5,ah e]
 have R:Own wr w.1.size 3 V:=by rw[uo];rw[eV,bV (by rw[<-L.o];exact al _)]at l;simpa using l
 have D:Z (V=j):=U (by rw[uo,bn,<-L.o]);clear e uo l;go_wp2_with fail;go_ret2;exact⟨some ⟨w.1.size,0,none⟩,j,by rw[D.o];rfl,by have:=aD.gJ R (al _) (by rw[D.o];omega);rwa[D.o]at this,hp⟩
end
end
def FK(N:a6):List Int->List Int->Prop
 |_,[]=>True
 |D,id::r=>jB N D id=0/\FK N (D++[id]) r
section
variable{N:a6}{L':List (List Int)}{D r:List Int}
def FL:∀(f:Nat) (D:au),∃r,n3 N f D=D++r/\FK N D r
 |0,D=>⟨[],by simp[n3],bq⟩
 |f+1,D=>by rcases h:fW N D with _|⟨id,t⟩;exact⟨[],by rw[Ce h];simp,bq⟩;obtain⟨r,b,e⟩:=FL f (D++[id]);exact⟨id::r,by rw[KN h,b];simp,(jn h).2.2,e⟩
theorem Cm{v:Int}(h:jB N D v=0):∀z∈bS N v,z=0\/z∈D:=λz b=>by
 have:=GC.1 h z b;grind
theorem getD_set_ne{x:au}(h:i≠j):(L.set i x).getD j []=L.getD j []:=by
 grind
theorem v8:∀(r:au) (L L':f0),gE N r L=(0,L')->∀q:Nat,(∀id∈r,id.toNat≠q)->L'.getD q []=L.getD q []
 |[],L,L',h,q,_=>by rw[gE]at h;grind
 |id::r,L,L',h,q,hq=>by rw[gE]at h;split at h;grind;split at h;rw[v8 r _ L' h q λx b=>hq x (iD _ b),getD_set_ne (hq id dD)];grind
theorem Q0:∀(r D:au) (L L':f0),gE N r L=(0,L')->(D++r).Nodup->(∀x∈D++r,x∈N.ids)->FK N D r->L=N.nodes.length+1->
  ∀id∈r,∀v,N.nodes[(id-1).toNat]?=some v->dr v.o v.P (d7 v L')=0/\L'.getD id.toNat []=cy v.o v.P (d7 v L')
 |[],_,_,_,_,_,_,_,_,_,h,_,_=>absurd h aI
 |x::r,D,L,L',h,I,hi,hd,J,id,hid,v,hv=>by (have b:((D++[x])++r).Nodup:=by simpa using I);have B:∀y∈(D++[x])++r,y∈N.ids:=λy j=>hi y (by simpa using j);have R:=bt.1 (hi x aI);rw[gE]at h;split at h;rename_i C;rw[GA]at C;omega;rename_i u hu;split at h;rename_i K;rcases dE.1 hid with rfl|hid;rw[hu]at hv;obtain rfl:=cU hv;(have E:∀y∈r,y.toNat≠id.toNat:=λy j e=>by have:=bt.1 (hi y (by simp[j]));have m:y=id:=Y;rw[uH]at b;exact b.2.2 id aI y j m.symm);(have M:d7 u L'=d7 u L:=by unfold d7;refine iG λz O=>?_;(have F:z∈bS N id:=by rwa[bS,hu]);have l:=Cm hd.1 z F;(have hq:∀y∈r,y.toNat≠z.toNat:=λy j e=>by have Q:=bt.1 (hi y (by simp[j]));rcases l with rfl|hzD;grind;have G:=bt.1 (hi z (by simp[hzD]));have m:y=z:=Y;rw[uH]at b;exact b.2.2 z (by simp[hzD]) y j m.symm);rw[v8 r _ L' h z.toNat hq,getD_set_ne λe=>?_];rcases l with rfl|hzD;grind;have G:=bt.1 (hi z (by simp[hzD]));have m:id=z:=Y;rw[uH]at I;grind);rw[M];refine⟨K,?_⟩;rw[v8 r _ L' h id.toNat E,a5,iI,ah rfl,ah Y];rfl;exact Q0 r (D++[x]) _ L' h b B hd.2 (by rwa[ei]) id hid v hv;grind
theorem FM:∀(r:au) (L L':f0),gE N r L=(0,L')->L'.length=L.length
 |[],L,L',h=>by rw[gE]at h;grind
 |id::r,L,L',h=>by rw[gE]at h;split at h;grind;split at h;rw[FM r _ L' h,ei];grind
theorem XX(h:lG N.nodes.length N.nodes=0):N.ko:=λv hv id hid=>by
 have:=xI h v hv;grind [EL,List.all_eq_true]
theorem KU{x:au}(h:q<L)(e:L.getD q []=x):L[q]?=some x:=by
 grind
theorem Cn(h:eY N D)(b:D.length=N.nodes.length){v:Int}(hv:v∈N.ids):v∈D:=by
 by_cases hm:v∈D;exact hm;exfalso;have e:=xE (L:=N.ids.erase v) h.nd ay;grind [List.length_erase_of_mem,List.length_pos_of_mem,m3]
@[grind cases]structure dA(N:a6)(O:List Int)(L:List (List Int))(l:Nat):Prop where
 ord:eC N=O
 lay:gE N O (lF N)=(0,L)
 len:L=N.nodes.length+1
 tI:O.length=N.nodes.length
 m8:eY N O
 dep:FK N [] O
 gj:gj N=l
 oT:1<=l
 lQ:l<=N.nodes
 ko:N.ko
 ed:aH N.ed=true
 node:∀(i:Nat) (v:dV),N.nodes[i]?=some v->dr v.o v.P (d7 v L)=0/\L[i+1]?=some (cy v.o v.P (d7 v L))
 zero:L[0]?=some N.ed
theorem look_ok(h:bm N=0):∃(O:au) (L:f0) (l:Nat),dz N=(O,L,(l:Int))/\dA N O L l/\N.nodes.length<=512/\bG (L.getD l [])=1:=by
 have hV:dz N=(eC N,(gE N (eC N) (lF N)).2,gj N):=by rw[dz,ah h]
 unfold bm at h;split at h
 .rename_i hm;split at h
  .rename_i hr;split at h
   .rename_i G;unfold sW at h;split at h
    .rename_i F;split at h
     .rename_i e;split at h
      .rename_i hb;split at h;rename_i I;obtain⟨q,hq,z⟩:=KQ (N:=N);obtain⟨LE,B,hL⟩:∃a b,gE N (eC N) (lF N)=(a,b):=⟨_,_,rfl⟩;rw[hL]at e hV;obtain rfl:LE=0:=e;have j:eY N (eC N):=qm _ _ eY.nil;obtain⟨r,C,E⟩:=FL (N:=N) N.nodes.length [];(have m:FK N [] (eC N):=by rwa[show eC N=r from by rw[eC,C];rfl]);(have y:B=N.nodes.length+1:=by rw[FM _ _ _ hL];simp[lF]);have u:=Q0 (eC N) [] (lF N) B hL ay ay m (by simp[lF]);(have J:gj N≠0:=by unfold rQ at hb;simp only[bU,b9]at hb;exact hb.2);refine⟨eC N,B,q,by rw[hV,hq],⟨rfl,hL,y,F,j,m,hq,Y,z,XX G,hr,λi v hv=>?_,?_⟩,hm.2,?_⟩;have hi:=(bj.1 hv).1;obtain⟨M,K⟩:=u ((i:Int)+1) (Cn j F (bt.2 Y)) v ay;rw[show((i:Int)+1).toNat=i+1 from Y]at K;grind;refine KU Y ?_;rw[v8 _ _ _ hL 0 λid hid=>by grind [bt]];rfl;grind [An];omega
      omega
     grind
    omega
   grind
  omega
 omega
end
variable{l:Nat}{vals:List TV}
abbrev T0:TV:=([],[])
def cE(b:List TV)(ins:au):List TV:=ins.map λz=>b.getD z.toNat T0
def dK(N:a6)(k:Nat):Nat:=((N.nodes.take k).flatMap (·.P)).length
def iB(N:a6)(P:List TV)(k:Nat)(v:dV):List TV:=(P.drop (dK N k)).take v.P.length
@[grind cases]structure lW(N:a6)(P:List TV)(x:TV):Prop where
 ps:P.map (·.1)=bQ N
 pok:∀t∈P,TV.ok t
 xs:x.1=N.ed
 It:TV.ok x
 k6:∀v∈N.nodes,bf v.o.k
noncomputable def wg(N:a6)(P b:List TV)(k:Nat)(v:dV):TV:=(cy v.o v.P ((cE b v.ins).map (·.1)),xA v.o (iB N P k v) (cE b v.ins))
noncomputable def XY(N:a6)(P b:List TV)(id:Int):List TV:=
 match N.nodes[(id-1).toNat]? with
 |none=>b
 |some v=>b.set id.toNat (wg N P b (id-1).toNat v)
noncomputable def Ow(N:a6)(P:List TV)(b:List TV)(O:au):List TV:=O.foldl (XY N P) b
def TW(N:a6)(x:TV):List TV:=x::List.replicate N.nodes.length T0
@[grind cases]structure tq(N:a6)(L:List (List Int))(P:List TV)(x:TV)(D:List Int)(vals:List TV):Prop where
 len:vals=N.nodes.length+1
 zero:vals.getD 0 T0=x
 sh:∀id∈D,(vals.getD id.toNat T0).1=L.getD id.toNat []/\TV.ok (vals.getD id.toNat T0)
 eq:∀id∈D,∀v,N.nodes[(id-1).toNat]?=some v->vals.getD id.toNat T0=wg N P vals (id-1).toNat v
section
variable{N:a6}{D:List Int}{P:List TV}{x:TV}
theorem eN{L:List TV}{t:TV}(h:i<L):(L.set i t).getD j T0=if i=j then t else L.getD j T0:=by
 grind
theorem Ox{nodes:List dV}{k:Nat}{v:dV}(h:nodes[k]?=some v):((nodes.flatMap (·.P)).drop ((nodes.take k).flatMap (·.P)).length).take v.P.length=v.P:=by
 obtain⟨b,hv⟩:=bj.1 h;have e:nodes=nodes.take k++(v::nodes.drop (k+1)):=by rw[<-hv,<-e7 b,d3]
 grind
def lW.par(h:lW N P x){k:Nat}{v:dV}(hv:N.nodes[k]?=some v):(iB N P k v).map (·.1)=v.P/\∀t∈iB N P k v,TV.ok t:=by
 refine⟨?_,λt ht=>h.pok t (hJ (eS ht))⟩;unfold iB;rw[fT,kX,h.ps];exact Ox hv
def dA.at(h:dA N O L l)(hid:id∈N.ids):∃v,N.nodes[(id-1).toNat]?=some v/\dr v.o v.P (d7 v L)=0/\L.getD id.toNat []=cy v.o v.P (d7 v L)/\bS N id=v.ins/\v∈N.nodes:=by
 have hi:=bt.1 hid;have b:(id-1).toNat<N.nodes:=Y;have hv:=bk b;obtain⟨e,j⟩:=h.node _ _ hv;refine⟨_,hv,e,?_,by rw[bS,hv];rfl,Av b⟩;rw[a5,show id.toNat=(id-1).toNat+1 from Y,j];rfl
def dA.mem(h:dA N O L l):id∈O↔id∈N.ids:=⟨λhm=>h.m8.ids id hm,λhm=>Cn h.m8 h.tI hm⟩
theorem Co:∀(a D r:au) (id:Int),FK N D (a++id::r)->jB N (D++a) id=0
 |[],D,r,id,h=>by rw[ev];exact h.1
 |x::a,D,r,id,h=>by have:=Co a (D++[x]) r id h.2;grind
theorem dA.sZ(h:dA N O L l)(m:O[j]?=some id):∀z∈bS N id,z=0\/z∈O.take j:=by
 obtain⟨b,r⟩:=bj.1 m;have e:O=O.take j++id::O.drop (j+1):=by rw[<-r,<-e7 b,d3]
 have:=h.dep;rw[e]at this;have:=Co _ _ _ _ this;grind [Cm]
theorem dA.TU(h:dA N O L l)(m:O[j]?=some id):id∉O.take j:=by
 obtain⟨b,r⟩:=bj.1 m;have e:O=O.take j++id::O.drop (j+1):=by rw[<-r,<-e7 b,d3]
 grind
theorem dA.shx(h:dA N O L l):L.getD 0 []=N.ed:=by grind
theorem tq.pick(hN:dA N O L l)(hF:lW N P x)(h:tq N L P x D vals){v:dV}(hd:∀z∈v.ins,z=0\/z∈D):(cE vals v.ins).map (·.1)=d7 v L/\∀t∈cE vals v.ins,TV.ok t:=by
 refine⟨?_,λt ht=>?_⟩;unfold cE d7;rw[nO];refine iG λz b=>?_;grind;obtain⟨z,b,rfl⟩:=cw.1 ht;grind
theorem tq.node(hN:dA N O L l)(hF:lW N P x)(h:tq N L P x D vals)(hid:id∈N.ids)(hd:∀z∈bS N id,z=0\/z∈D):
  ∃v,N.nodes[(id-1).toNat]?=some v/\v∈N.nodes/\bS N id=v.ins/\(cE vals v.ins).map (·.1)=d7 v L/\(∀t∈cE vals v.ins,TV.ok t)/\(iB N P (id-1).toNat v).map (·.1)=v.P/\(∀t∈iB N P (id-1).toNat v,TV.ok t)/\
   dr v.o v.P (d7 v L)=0/\wg N P vals (id-1).toNat v=(L.getD id.toNat [],xA v.o (iB N P (id-1).toNat v) (cE vals v.ins))/\TV.ok (wg N P vals (id-1).toNat v):=by
 obtain⟨v,hv,hE,hS,hi,hm⟩:=hN.at hid;rw[hi]at hd;obtain⟨b,e⟩:=h.pick hN hF hd;obtain⟨j,m⟩:=hF.par hv;refine⟨v,hv,hm,hi,b,e,j,m,hE,?_,?_⟩;rw[wg,b,hS];have:=abr (o:=v.o) (ps:=iB N P (id-1).toNat v) (xs:=cE vals v.ins) ay m e (hF.k6 v hm);rw[j]at this;exact this
theorem tq.step(hN:dA N O L l)(hF:lW N P x)(h:tq N L P x D vals)(m:∀y∈D,y∈N.ids/\∀z∈bS N y,z=0\/z∈D)(hid:id∈N.ids)(r:id∉D)(hd:∀z∈bS N id,z=0\/z∈D):tq N L P x (D++[id]) (XY N P vals id):=by
 obtain⟨v,hv,hm,hi,F,G,I,J,hE,hS,C⟩:=h.node hN hF hid hd;have hr:=bt.1 hid;have b:id.toNat<vals.length:=by rw[h.len];omega
 have hg:∀z,z∈N.ids->z≠id->(vals.set id.toNat (wg N P vals (id-1).toNat v)).getD z.toNat T0=vals.getD z.toNat T0:=λz hz E=>by have:=bt.1 hz;rw[eN b,ag Y]
 have hp:∀ins:List Int,(∀z∈ins,z=0\/z∈D)->cE (vals.set id.toNat (wg N P vals (id-1).toNat v)) ins=cE vals ins:=λins j=>by refine iG λz hz=>?_;rcases j z hz with rfl|hz;rw[eN b,ag ay];exact hg z (m z hz).1 λe=>r (e▸hz)
 have B:∀(k:Nat) (u:dV),(∀z∈u.ins,z=0\/z∈D)->wg N P (vals.set id.toNat (wg N P vals (id-1).toNat v)) k u=wg N P vals k u:=λk u hu=>by have:=hp u.ins hu;generalize vals.set id.toNat (wg N P vals (id-1).toNat v)=W at this⊢;unfold wg;rw[this]
 unfold XY;rw[hv];dsimp only;refine⟨by rw[ei];exact h.len,?_,λy hy=>?_,λy hy u hu=>?_⟩;rw[eN b,ag Y];exact h.zero;rcases cu.1 hy with hy|hy;rw[hg y (m y hy).1 λe=>r (e▸hy)];exact h.sh y hy;rw[de.1 hy,eN b,ah rfl];grind;rcases cu.1 hy with hy|hy;rw[hg y (m y hy).1 λe=>r (e▸hy),B _ u (by have:=(m y hy).2;rw[bS,hu]at this;exact this)];exact h.eq y hy u hu;have e:=de.1 hy;subst e;rw[hv]at hu;obtain rfl:=cU hu;rw[B _ v ay,eN b,ah rfl]
theorem xK(hN:dA N O L l)(hF:lW N P x):∀j,j<=O.length->tq N L P x (O.take j) (Ow N P (TW N x) (O.take j))
 |0,_=>by rw[d8];exact⟨by simp[Ow,TW],rfl,ay,ay⟩
 |j+1,hj=>by have m:=xK hN hF j Y;have b:j<O.length:=Y;have hO:=bk b;(have e:O.take (j+1)=O.take j++[O[j]]:=by rw[i5,hO];rfl);rw[e];have:=m.step hN hF (λy r=>?_) ay (hN.TU hO) (hN.sZ hO);grind [Ow];refine⟨ay,λz u=>?_⟩;obtain⟨i,hi⟩:=fZ r;rw[ji]at hi;split at hi;rcases hN.sZ hi z u with h0|h0;exact .inl h0;right;(have:O.take i=(O.take j).take i:=by rw[e5,d5 Y]);grind;cases hi
noncomputable def dR(N:a6)(P:List TV)(x:TV):List TV:=Ow N P (TW N x) (eC N)
def k8(hN:dA N O L l)(hF:lW N P x):tq N L P x O (dR N P x):=by
 have:=xK hN hF O.length (al _);rw[ek]at this;rwa[dR,hN.ord]
end
variable{gr:List TV}
def iC(g more:TV):TV:=if g.2=[]then more else(g.1,g.2.zipWith bB more.2)
def i0(gr:List TV):List Int->List TV->List TV
 |z::zs,t::ts=>i0 (gr.set z.toNat (iC (gr.getD z.toNat T0) t)) zs ts
 |_,_=>gr
noncomputable def pt(N:a6)(P b gr:List TV)(id:Int)(v:dV):List TV:=j5 v.o (iB N P (id-1).toNat v) (cE b v.ins) (gr.getD id.toNat T0).1 (gr.getD id.toNat T0).2
noncomputable def Cp(N:a6)(P b gr:List TV)(id:Int)(v:dV):List TV:=qZ v.o (iB N P (id-1).toNat v) (cE b v.ins) (gr.getD id.toNat T0).1 (gr.getD id.toNat T0).2
def rU(G gp:List TV)(a:Nat):List TV:=G.take a++gp++G.drop (a+gp.length)
noncomputable def Oy(N:a6)(P b:List TV)(s:List TV×List TV)(id:Int):List TV×List TV:=
 match N.nodes[(id-1).toNat]? with
 |none=>s
 |some v=>(i0 s.1 v.ins (pt N P b s.1 id v),rU s.2 (Cp N P b s.1 id v) (dK N (id-1).toNat))
noncomputable def Oz(N:a6)(P b:List TV)(s:List TV×List TV)(R:au):List TV×List TV:=R.foldl (Oy N P b) s
def oc(S:au):TV:=(S,List.replicate (aB S).toNat 4294967296)
def rV(N:a6)(L:f0)(l:Nat)(P:List TV):List TV×List TV:=((List.replicate (N.nodes.length+1) T0).set l (oc (L.getD l [])),List.replicate P.length T0)
def Cq(L:f0)(gr:List TV)(z:Int):Prop:=gr.getD z.toNat T0=T0\/((gr.getD z.toNat T0).1=L.getD z.toNat []/\TV.ok (gr.getD z.toNat T0))
@[grind cases]structure wh(N:a6)(L:List (List Int))(l:Nat)(P:List TV)(R:List Int)(s:List TV×List TV):Prop where
 len:s.1=N.nodes.length+1
 aeT:s.2.length=P.length
 sh:∀z:Int,0<=z->z<=N.nodes->Cq L s.1 z
 ne:∀z:Int,0<=z->z<=N.nodes->((s.1.getD z.toNat T0).2≠[]↔z=l\/∃u∈R,z∈bS N u)
 TX:∀t∈s.2,t=T0\/TV.ok t
section
variable{N:a6}{D R:List Int}{P:List TV}{x:TV}{s:List TV×List TV}
theorem TV.ok.ne{t:TV}(h:TV.ok t):t.2≠[]:=λe=>by
 obtain⟨n,b,j,_⟩:=cG h.right;have:=h.len;grind
theorem TV.ok.add{g t:TV}(hg:TV.ok g)(ht:TV.ok t)(h:t.1=g.1):TV.ok (g.1,g.2.zipWith bB t.2):=by
 have e:=hg.len;have b:=ht.len;rw[h]at b;exact rP hg.right ay Fy
theorem Cr{g t:TV}{S:au}(hg:g=T0\/g.1=S/\TV.ok g)(ht:t.1=S)(h:TV.ok t):(iC g t).1=S/\TV.ok (iC g t):=by
 unfold iC;rcases hg with rfl|⟨b,e⟩;grind;rw[ag e.ne];exact⟨b,e.add h (by rw[ht,b])⟩
theorem wj{m:Nat}:∀(zs:au) (ts:List TV) (gr:List TV),gr=m+1->(∀z∈zs,0<=z/\z<=m)->ts.map (·.1)=zs.map (λz=>L.getD z.toNat [])->(∀t∈ts,TV.ok t)->(∀z:Int,0<=z->z<=m->Cq L gr z)->
  (i0 gr zs ts).length=m+1/\(∀z:Int,0<=z->z<=m->Cq L (i0 gr zs ts) z)/\(∀z:Int,0<=z->z<=m->(((i0 gr zs ts).getD z.toNat T0).2≠[]↔(gr.getD z.toNat T0).2≠[]\/z∈zs))/\∀z:Int,0<=z->z∉zs->(i0 gr zs ts).getD z.toNat T0=gr.getD z.toNat T0
 |[],ts,gr,r,_,_,_,hg=>by (have e:i0 gr [] ts=gr:=by cases ts<;>rfl);grind
 |y::zs,[],gr,_,_,hs,_,_=>by simp at hs
 |y::zs,t::ts,gr,r,E,hs,ht,hg=>by rw[i0];simp only[eh,List.cons.injEq]at hs;have C:=E y dD;(have u:y.toNat<gr.length:=by rw[r];omega);obtain⟨I,F⟩:=Cr (hg y C.1 C.2) hs.1 ay;(have j:∀z:Int,0<=z->(gr.set y.toNat (iC (gr.getD y.toNat T0) t)).getD z.toNat T0=if y=z then iC (gr.getD y.toNat T0) t else gr.getD z.toNat T0:=λz b=>by rw[eN u];grind);(obtain⟨r1,r2,G,J⟩:=wj zs ts (gr.set y.toNat (iC (gr.getD y.toNat T0) t)) (by rwa[ei]) ay hs.2 ay λz b B=>by unfold Cq;rw[j z b];split;grind;exact hg z b B);refine⟨r1,r2,λz b B=>?_,λz b K=>?_⟩;rw[G z b B,j z b,dE];by_cases e:y=z;subst e;rw[ah rfl];exact⟨ay,λ_=>.inl F.ne⟩;rw[ag e];constructor;grind;grind;grind
theorem wk{S:au}(h:aH S=true):TV.ok (oc S):=by
 obtain⟨n,e,j,m⟩:=cG h;refine rP h ay λz b=>?_;rw[e3 b];exact⟨ao,ao⟩
theorem dA.right(hN:dA N O L l)(hF:lW N P x){z:Int}(b:0<=z)(j:z<=N.nodes):aH (L.getD z.toNat [])=true:=by
 by_cases e:z=0;grind;have hid:z∈N.ids:=bt.2 Y;have:=(k8 hN hF).sh z (hN.mem.2 hid);rw[<-this.1];exact this.2.right
theorem TY(hN:dA N O L l)(hF:lW N P x):wh N L l P [] (rV N L l P):=by
 have r:=hN.lQ;have j:l<(List.replicate (N.nodes.length+1) T0).length:=by rw[fe];omega
 have hr:=hN.right hF (z:=(l:Int)) Y Y;rw[a9]at hr;have b:=wk hr;have m:∀z:Int,(List.replicate (N.nodes.length+1) T0).getD z.toNat T0=T0:=ay;refine⟨by simp[rV],by simp[rV],λz u y=>?_,λz u y=>?_,λt ht=>.inl (e3 ht)⟩
 .unfold Cq;rw[rV,eN j];split;rename_i e;rw[<-e];exact .inr ⟨rfl,b⟩;grind
 rw[rV,eN j];split;rename_i e;exact⟨λ_=>.inl Y,λ_=>b.ne⟩;grind
theorem pq(h:O.reverse[d]?=some id):d<O/\O[O.length-1-d]?=some id:=by
 grind
theorem pu(h:y∈D.take j):∃i,i<j/\D[i]?=some y:=by
 grind [List.getElem?_of_mem]
theorem FN(hi:i<j)(h:D[i]?=some y):y∈D.take j:=by
 refine aK (i:=i) ?_;grind
theorem FO(b:D.Nodup)(hi:D[i]?=some y)(e:D[j]?=some y):i=j:=by
 grind [List.getElem?_eq_some_iff,List.pairwise_iff_getElem,Nat.lt_trichotomy,absurd]
theorem dA.KV(hN:dA N O L l)(h:O.reverse[d]?=some id)(hu:z∈N.ids)(hi:id∈bS N z):z∈O.reverse.take d:=by
 obtain⟨hd,h⟩:=pq h;have hid:=hN.m8.ids id (aK h);have y:=bt.1 hid;obtain⟨j,e⟩:=fZ (hN.mem.2 hu);have m:=(bj.1 e).1;rcases hN.sZ e id hi with h0|h0;omega;obtain⟨i,r,b⟩:=pu h0;have:=FO hN.m8.nd b h;refine FN (i:=O.length-1-j) Y ?_;grind
theorem OA(h:bm N=0)(hid:id∈N.ids)(j:id≠gj N):∃u∈N.ids,id∈bS N u:=by
 have b:rQ N=true:=by unfold bm at h;split at h;grind [sW,absurd];omega
 simp only[rQ,bU,b9]at b;have hr:=bt.1 hid;rcases hq:iQ N N.nodes.length 0 id.toNat with _|_
 .exfalso;(have hm:id.toNat∈EG N:=by unfold EG;rw[sE,pF];exact ay);match hu:EG N,b.1 with
  |[a],_=>grind [List.mem_singleton,gj]
 unfold iQ at hq;rw[d8,bV (al _)]at hq;simp only[List.contains_nil,PR,PK]at hq;obtain⟨v,hv,e⟩:=hq;obtain⟨i,hi⟩:=fZ hv;have m:=(bj.1 hi).1;refine⟨(i:Int)+1,bt.2 Y,?_⟩;rw[bS,show((i:Int)+1-1).toNat=i from Y,hi];have:(id.toNat:Int)=id:=Y;rw[this]at e;simpa using e
theorem wh.there(hN:dA N O L l)(hE:bm N=0)(h:wh N L l P (O.reverse.take d) s)(hd:O.reverse[d]?=some id):(s.1.getD id.toNat T0).1=L.getD id.toNat []/\TV.ok (s.1.getD id.toNat T0):=by
 have hid:=hN.m8.ids id (aK (pq hd).2);have hr:=bt.1 hid;have b:(s.1.getD id.toNat T0).2≠[]:=by rw[h.ne id Y hr.2];by_cases e:id=l;exact .inl e;obtain⟨u,hu,hi⟩:=OA hE hid ay;exact .inr ⟨u,hN.KV hd hu hi,hi⟩
 rcases h.sh id Y hr.2 with h0|h0;grind;exact h0
theorem wh.parts(hN:dA N O L l)(hF:lW N P x)(hv:tq N L P x O vals)(hid:id∈N.ids)(hg:(gr.getD id.toNat T0).1=L.getD id.toNat []/\TV.ok (gr.getD id.toNat T0)):
  ∃v,N.nodes[(id-1).toNat]?=some v/\v∈N.nodes/\bS N id=v.ins/\(cE vals v.ins).map (·.1)=d7 v L/\(∀t∈cE vals v.ins,TV.ok t)/\(iB N P (id-1).toNat v).map (·.1)=v.P/\(∀t∈iB N P (id-1).toNat v,TV.ok t)/\dr v.o v.P (d7 v L)=0/\cy v.o v.P (d7 v L)=(gr.getD id.toNat T0).1/\
   (pt N P vals gr id v).map (·.1)=d7 v L/\(∀t∈pt N P vals gr id v,TV.ok t)/\(Cp N P vals gr id v).map (·.1)=v.P/\∀t∈Cp N P vals gr id v,TV.ok t:=by
 obtain⟨v,E,hm,hi,m,u,r,B,hE,hS,-⟩:=hv.node hN hF hid λz C=>by obtain⟨v,hv,_,_,hi,hm⟩:=hN.at hid;rw[hi]at C;have:=hN.ko v hm z C;by_cases e:z=0;exact .inl e;exact .inr (hN.mem.2 (bt.2 Y))
 obtain⟨F,G,_,y,_,_⟩:=hN.at hid;obtain rfl:v=F:=ay;have b:dr v.o ((iB N P (id-1).toNat v).map (·.1)) ((cE vals v.ins).map (·.1))=0:=by rwa[r,m]
 have j:cy v.o ((iB N P (id-1).toNat v).map (·.1)) ((cE vals v.ins).map (·.1))=(gr.getD id.toNat T0).1:=by rw[r,m,<-y,hg.1]
 obtain⟨x1,x2⟩:=KE b u (hF.k6 v hm) j (g:=(gr.getD id.toNat T0).2) hg.2;obtain⟨p1,I⟩:=QT b B u j (g:=(gr.getD id.toNat T0).2) hg.2;rw[m]at x1;rw[r]at p1;exact⟨v,E,hm,hi,m,u,r,B,hE,ay,x1,x2,p1,I⟩
theorem XZ(hF:lW N P x){k:Nat}{v:dV}(hv:N.nodes[k]?=some v):dK N k+v.P.length<=P:=by
 have m:P=(bQ N).length:=by rw[<-hF.ps,bn]
 obtain⟨b,j⟩:=bj.1 hv;have e:N.nodes=N.nodes.take k++(v::N.nodes.drop (k+1)):=by rw[<-j,<-e7 b,d3]
 grind [bQ,List.length_append,dK]
theorem wh.step(hN:dA N O L l)(hE:bm N=0)(hF:lW N P x)(hv:tq N L P x O vals)(h:wh N L l P (O.reverse.take d) s)(hd:O.reverse[d]?=some id):wh N L l P (O.reverse.take (d+1)) (Oy N P vals s id):=by
 have hid:=hN.m8.ids id (aK (pq hd).2);obtain⟨v,r,hm,hi,I,J,K,M,B,C,x1,x2,p1,E⟩:=wh.parts hN hF hv hid (h.there hN hE hd);have j:∀z∈v.ins,0<=z/\z<=N.nodes.length:=hN.ko v hm;obtain⟨r1,r2,F,Q⟩:=wj (L:=L) v.ins (pt N P vals s.1 id v) s.1 h.len j x1 x2 h.sh;have e:O.reverse.take (d+1)=O.reverse.take d++[id]:=by rw[i5,hd];rfl
 have m:(Cp N P vals s.1 id v).length=v.P:=by rw[<-bn (f:=(·.1)),p1]
 have G:=XZ hF r;unfold Oy;rw[r];dsimp only;refine⟨r1,?_,r2,λz y b=>?_,λt ht=>?_⟩;rw[rU,bh,bh,cr,e2,h.aeT,m];omega;rw[F z y b,h.ne z y b,e];constructor;rintro((h|⟨u,hu,b⟩)|h);exact .inl h;exact .inr ⟨u,PE _ hu,b⟩;exact .inr ⟨id,aI,ay⟩;rintro(h|⟨u,hu,b⟩);grind;rcases cu.1 hu with hu|hu;exact .inl (.inr ⟨u,hu,b⟩);rw[de.1 hu,hi]at b;exact .inr b;rw[rU]at ht;rcases cu.1 ht with ht|ht;rcases cu.1 ht with ht|ht;exact h.TX t (eS ht);exact .inr (E t ht);exact h.TX t (hJ ht)
theorem s0(hN:dA N O L l)(hE:bm N=0)(hF:lW N P x)(hv:tq N L P x O vals):∀d,d<=O.length->wh N L l P (O.reverse.take d) (Oz N P vals (rV N L l P) (O.reverse.take d))
 |0,_=>by rw[d8];exact TY hN hF
 |d+1,hd=>by have e:=s0 hN hE hF hv d Y;(have b:d<O.reverse.length:=by rw[List.length_reverse];omega);have hO:=bk b;have:=e.step hN hE hF hv hO;grind [List.take_add_one,Oz]
noncomputable def lH(N:a6)(P:List TV)(x:TV):List TV×List TV:=Oz N P (dR N P x) (rV N (dz N).2.1 (dz N).2.2.toNat P) (eC N).reverse
noncomputable def rW(N:a6)(P:List TV)(x:TV):Int:=((dR N P x).getD (gj N).toNat T0).2.getD 0 0
end
def wm(L:f0)(v:dV):Int:=NL v.o v.P (cy v.o v.P (d7 v L))
def OB(L:f0)(v:dV):Int:=NM v.o v.P (cy v.o v.P (d7 v L))
def je(L:f0):List dV->Int
 |[]=>0
 |v::t=>if OB L v=0 then je L t else OB L v
def j7(N:a6)(L:f0):List Int:=0::N.nodes.map (wm L)
def KW(N:a6)(L:f0):Int:=if eZ L=0 then(if je L N.nodes=0 then v9 (j7 N L)else je L N.nodes)else eZ L
def iy(N:a6):Int:=if bm N=0 then KW N (dz N).2.1 else bm N
def jG(N:a6):List Int×List Int×Int:=if iy N=0 then(k5 (dz N).2.1,j7 N (dz N).2.1,yN (j7 N (dz N).2.1))else([],[],0)
def X0(w:ab)(E:Int)(W C:au)(T:Int)(e:Ending)(w':ab):Prop:=∃A c B d,e=.returned (.tuple #[.agg #[.slice A W c,.slice B C d,T],E])/\aD w' w.1.size 3 A c W/\aD w' w.1.size 3 B d C/\aj w' w
section
variable{w:World}{n:Nat}{N:a6}{T:Int}{W C:List Int}
def Aq(hE:iy N=E)(hV:jG N=(W,C,T))(h:E≠0):[]=W/\[]=C/\0=T:=by
 rw[jG,hE,ag h]at hV;simpa using hV
def s3(p:aj w' w):X0 w E [] [] 0 (.returned (.tuple #[.agg #[(),(),an],E])) w':=
 ⟨none,0,none,0,rfl,aD.nil _ _ _,aD.nil _ _ _,p⟩
def up{l:Int}[aW w A n B m N](j:Z N.fits)(hs:Z N.small)(r:Z (bm N=E))(u:Z (dz N=(O,L,l))){x:Nat}(y:Z (L=x)):
  () 28 #[.agg #[.slice A n c,(B,m,d)]] w λe w'=>∃A c b,e=.returned (.tuple #[.slice A x c,E])/\dX w' A x b/\Le x c/\Z (aX b=L)/\aj w' w/\pp w.1.size A b:=by
 obtain rfl:=y.o;exact FI j hs r u
def Cs[dX w B n ss](j:n<=1000000)(hL:Z (aX ss=L))(l:Z (∀z∈L,z.length<=1000000)){E:Int}{V:au}(hE:Z (eZ L=E))(hV:Z (k5 L=V)){x:Nat}(r:Z (V=x)):
  () 29 #[.slice B n c] w λe w'=>∃A c,e=.returned (.tuple #[.slice A x c,E])/\Sl w' A x V/\aD w' w.1.size 3 A c V/\aj w' w:=by
 obtain rfl:=hL.o;obtain rfl:=r.o;exact(TT j l hE hV).mono λe w' ⟨A,c,u,b,y⟩=>⟨A,c,u,⟨b.rd,rfl⟩,b,y⟩
def zJ7(h:Γ:=by refine aZ (v:=.tuple #[.agg #[(),(),an],E]) ?_ rfl (s3 eL);exact zJ3):=h
def zJh(h:Γ:=by rw[bn,zj.o];exact al _):=h
def zJj(h:Γ:=by rw[<-HM.o];exact al _):=h
def adr[a:aW w A n B m N](hf:Z N.fits)(hs:Z N.small)(hE:Z (iy N=E))(hV:Z (jG N=(W,C,T))):() 9 #[.agg #[(A,n,c),(B,m,d)]] w (X0 w E W C T):=by
 obtain⟨CB,CP,FB⟩:=gW;have HM:Z (m=N.nodes):=a.len;have hm:m<=1000:=by rw[HM.o];exact hs.o.1
 go_in;by_cases c1:bm N=0
 .obtain⟨O,L,l,pZ,nA,-,-⟩:=look_ok c1;(have G:KW N L=E:=by rw[<-hE.o,iy,ah c1,pZ]);have uq:=U c1;have J:=U pZ;have kH:=U nA;have Q:Z (L=m+1):=U (by rw[nA.len,HM.o]);have KK:Z (∀z∈L,z.length<=1000000):=λz hz=>by
   have:=(Cj _ _ _ nA.lay (λz hz=>by
    rcases dE.1 hz with rfl|hz
    .exact hf.o.2.1
    .rw[e3 hz];simp)).2 z hz
   omega
  clear nA pZ c1;obtain⟨SE,K⟩:=lh (eZ L);obtain⟨SV,R⟩:=lh (k5 L);rw[KW,K]at G;have HSE:=U K;have vM:=U R;by_cases r:SE=0
  .rw[ah r]at G;subst r;have EM:Z (SV=m+1):=U (by rw[<-R,k5,ah K,bn,Q.o]);have y5:=U G;clear G K R;(have jF:∀W:World,(Instr.makeSlice 24 ((m:Int)+1:Int) ((m:Int)+1:Int)).run prog W=.ok (.slice (some ⟨W.1.size,0,none⟩) (m+1) (m+1)) (W.alloc (.cells (ints (List.replicate (m+1) 0)) 3)):=λW=>by have h:=kL (m+1) Y W;rwa[en]at h);go_wp2_with (first|(go_at_call 28;refine(up hf hs uq J Q).mono ?_;rintro e u ⟨A4,c4,ss,rfl,sh4,lc4,M,p4,fS⟩)|(go_at_call 29;refine(Cs Y M KK HSE vM EM).mono ?_;rintro e u ⟨AW,cW,rfl,sW,oW,pW⟩));refine aa (λv _ kv=>?_);obtain⟨g,hg⟩:=lg u.1.size;have X1:u.1.size<=g:=dT hg.symm;(have kC:Own v g 3 ((0:Int)::((N.nodes.take 0).map (wm L)++List.replicate (m-0) 0)):=by rw[hg];exact kv.ak);rw[<-hg];clear jF hg;go_loopw [40] (λi wr=>∃k:Nat,k<=m/\i=.int .i64 k/\Own wr g 3 ((0:Int)::((N.nodes.take k).map (wm L)++List.replicate (m-k) 0))/\Z (je L (N.nodes.drop k)=je L N.nodes)/\aj wr u) (λi _=>m-(intOf i).toNat);exact⟨0,aR _,rfl,kC,U rfl,aC⟩;clear kC kv;obtain⟨k,hk,rfl,kC,HD,hp⟩:=hrel;by_cases bD:k<m
   .obtain⟨b0,q0,o,A1,n1,c1,I,ni,ci,ins,P,np,cp,ps,rfl,ob,⟨v0,v1,v2,v3,v4,v5,v6,v7,v8,Oj⟩,s1,si,sp,l1,li,lp,ik,D⟩:=a.node bD;(have ra:ni<=1000:=by have:=hs.o.2 _ (aK D.o);exact zJb);have HI:Z (ni=ins):=si.len;(have EI:np<=100000:=by have:=(hf.o.2.2 _ (aK D.o)).2.2.1;exact zJ8);(have qW:n1<=100000:=by have:=(hf.o.2.2 _ (aK D.o)).2.1;rwa[s1.len]);have B9:=mh ni Y;go_wp2_with fail;obtain⟨v1,rfl⟩:=lg wr;refine qj (λx0 x _ _ kx hzx X=>?_);have kCx:=kC.at (w':=x0);clear B9;have S:Z (∀(q:Nat) (z:Int),ins[q]?=some z->ins.take (q+1)=ins.take q++[z]):=λq z h=>take_at h;go_loopw [52] (λi wy=>∃(q:Nat) (ts:List Sp),q<=ni/\i=.int .i64 q/\Z (ts.length=q/\aX ts=(ins.take q).map λi=>L.getD i.toNat [])/\aA wy (v1.1.size+1) 25 (gR (ts++List.replicate (ni-q) dN))/\Z (∀y∈ts,y∈ss)/\aj wy x0) (λi _=>ni-(intOf i).toNat);exact⟨0,[],aR _,rfl,U ⟨rfl,rfl⟩,by simpa using X.ak,U aI,aC⟩;clear X;obtain⟨q,ts,hq,rfl,F,X,vA,rE⟩:=hrel;by_cases Ol:q<ni
    obtain⟨b2,q2,z,rfl,iM,vz,ez⟩:=si.get Ol;have hz:=kH.o.ko _ (aK D.o) z (aK ez.o);rw[<-HM.o]at hz;obtain⟨y,rfl⟩:=bO hz.1;have hy:y<m+1:=Y;obtain⟨⟨A3,m3,c3,z3⟩,he⟩:∃e0,ss[y]?=some e0:=⟨_,bk (by rwa[<-sh4.len])⟩;obtain⟨b7,o7,rfl,ob7,vc,rd7,ln7,le7⟩:=sh4.rd y _ he;dsimp only at vc;have od7:Old b7 _:=⟨ob7⟩;have y2:=X.cell q;rw[show(gR (ts++List.replicate (ni-q) dN))[q]?=some (.slice none 0 0)from by
     rw[iZ (x:=dN)]
     .rfl
     .rw[eT (by rw[F.o.1];exact al _),F.o.1,eV,kw,ah Y]]at y2
    have D7:=X.frozen q;have hK:=X.av q (A3,m3,c3);rw[KJ (x:=⟨A3,m3,c3,z3⟩) ts F.o.1 Ol]at hK;have nB:=U hK;have mf:Z ((ts++[(⟨A3,m3,c3,z3⟩:Sp)]).length=q+1/\aX (ts++[(⟨A3,m3,c3,z3⟩:Sp)])=(ins.take (q+1)).map λi=>L.getD i.toNat []):=U (by
     refine⟨by simp[F.o.1],?_⟩;rw[S.o q _ ez.o,c9,<-F.o.2];simp only[aX,c9,eh,lM];congr 2;rw[<-M.o,a9,a5,JK he];rfl)
    have XH:Z (∀y∈ts++[(⟨A3,m3,c3,z3⟩:Sp)],y∈ss):=λy hy=>by rcases cu.1 hy with h|h;exact vA.o y h;rw[de.1 h];exact aK he
    clear hK hz he F vA X;exact zJ2
    obtain rfl:q=ni:=Y;have HX:Z (aX ts=d7 ⟨o,ins,aX ps⟩ L):=U (by rw[F.o.2,HI.o,ek];rfl);have xT:dX wr (v1.1.size+1:Nat) q ts:=⟨λj x hj=>by
     obtain⟨j2,Oi⟩:=fZ (vA.o x (aK hj));have s9:dX wr A4 (m+1) ss:=am;obtain⟨_,_,_,_,_,h1,h2,h3⟩:=s9.rd j2 x Oi;exact⟨v1.1.size+1,0,rfl,X.lt,by rw[cQ,X.cell,iZ (x:=x) (by rw[uE (bj.1 hj).1];exact hj)],h1,h2,h3⟩,F.o.1.symm⟩
    have HZZ:Z (∀z∈aX ps++aX ts,z.length<=1000000):=λz hz=>by rcases cu.1 hz with h|h;have:=(hf.o.2.2 _ (aK D.o)).2.2.2 z h;omega;obtain⟨y,hy,rfl⟩:=cw.1 h;exact KK.o y.zs (by rw[<-M.o];exact cw.2 ⟨y,vA.o y hy,rfl⟩)
    have HSH:Z (dr o (aX ps) (aX ts)=0):=U (by rw[HX.o];exact(kH.o.node k _ D.o).1);obtain⟨cv,OC⟩:=lh (wm L ⟨o,ins,aX ps⟩);obtain⟨ce,TZ⟩:=lh (OB L ⟨o,ins,aX ps⟩);have NY:Z (NL o (aX ps) (cy o (aX ps) (aX ts))=cv/\NM o (aX ps) (cy o (aX ps) (aX ts))=ce):=U (by rw[HX.o];exact⟨OC,TZ⟩);have Ou:Z (je L N.nodes=if ce=0 then je L (N.nodes.drop (k+1))else ce):=U (by
     obtain⟨h1,h2⟩:=bj.1 D.o;rw[<-HD.o,e7 h1,h2,je,TZ])
    have ql:=U (take_at D.o);have zj:Z ((N.nodes.take k).length=k):=U (by rw[cr,<-HM.o];omega);have HCW:=U OC;have HKC:=U (kCx.at (w':=wr));clear OC TZ X kCx kC S;by_cases r:ce=0
    .subst r;have XT:Z (je L (N.nodes.drop (k+1))=je L N.nodes):=U (by rw[Ou.o,ah rfl]);have HZE:Z (((0:Int)::((N.nodes.take k).map (wm L)++List.replicate (m-k) 0))[k+1]?=some 0):=U (by
      rw[pE,eT zJh,bn,zj.o,eV,kw,ah Y])
     go_wp2_with (go_at_call 30;refine mv (J4 Y Y Y HZZ HSH NY) λu9 _=>?_;have kU:=HKC.o.at (w':=u9);have aeR:=kU.frozen (k+1);have aeS:=kU.cell HZE);go_roundw;have OD:=(HKC.o.at (w':=u9)).av (k+1) cv;rw[GL,show m-k=(m-(k+1))+1 from Y,jM,ky _ _ zJh,bn,zj.o,eV,i4]at OD;exact⟨k+1,Y,by go_num,by rw[ql.o,c9,eh,lM,HCW.o,hM];exact OD,XT,⟨(aO u u9).setCell (p:=⟨g,k+1,none⟩) X1 _⟩⟩;exact zJ0
    have h1:je L N.nodes=ce:=by rw[Ou.o,ag r]
    obtain rfl:E=ce:=by rw[<-y5.o,h1,ag r]
    obtain⟨rfl,rfl,rfl⟩:=Aq hE hV r;(have b0:(E !=0)=true:=by simp[r]);clear r h1 Ou y5;go_wp2_with (go_at_call 30;refine mv (J4 Y Y Y HZZ HSH NY) λu9 _=>?_);exact zJ7
   obtain rfl:k=m:=Y;(have h1:je L N.nodes=0:=by rw[<-HD.o,eU zJj];rfl);(have hE3:v9 (j7 N L)=E:=by have:=y5.o;rwa[ah h1]at this);(have kD:Own wr g 3 (j7 N L):=by rw[eV,bV zJj]at kC;simpa[j7]using kC);have V:Z ((j7 N L).length=k+1):=U (by simp[j7,HM.o]);obtain⟨CV,hCV⟩:=lh (j7 N L);have b:=hV.o;rw[jG,hE.o,J.o]at b;dsimp only at b;rw[hCV]at b hE3 kD V;obtain⟨TV,hTV⟩:=lh (yN CV);rw[hTV,vM.o]at b;have X2:=U hTV;have X3:=U hE3;have sC:Sl wr (some ⟨g,0,none⟩) (k+1) CV:=⟨kD.rd,V.o.symm⟩;have OE:=U kD;(have aeU:(dz N).2.1=L:=by rw[J.o]);clear hCV hTV hE3 kC kD h1 aeU;by_cases r:E=0
   .subst r;rw[ah rfl]at b;(obtain⟨rfl,rfl,rfl⟩:SV=W/\CV=C/\TV=T:=by simpa using b);clear b;go_wp2_with (go_at_call 31;refine mv (Ap Y X2 X3) λu9 _=>?_);have hug:w.1.size+1<u.1.size:=(am:Bx u (w.1.size+1) _ _).ak.lt;have hoC:=aD.gJ (B:=w.1.size+2) (OE.o.at (w':=u9)) Y (by rw[V.o];omega);rw[V.o]at hoC;refine aZ (v:=.tuple #[.agg #[.slice AW (k+1) cW,.slice g (k+1) (k+1),TV],an]) ?_ rfl ⟨AW,cW,some ⟨g,0,none⟩,k+1,by rw[EM.o,V.o],Cg (oW.at (w':=u9)) (Bx.ak (g:=w.1.size+1)).lt,Cg hoC (nP _),eL⟩;exact zJ3
   obtain⟨rfl,rfl,rfl⟩:=Aq hE hV r;(have b0:(E !=0)=true:=by simp[r]);clear r b;go_wp2_with (go_at_call 31;refine mv (Ap Y X2 X3) λu9 _=>?_);exact zJ7
  rw[ag r]at G;obtain rfl:=G;obtain⟨rfl,rfl,rfl⟩:=Aq hE hV r;(have b0:(SE !=0)=true:=by simp[r]);have EM:Z (SV.length=0):=U (by rw[<-R,k5,K,ag r];rfl);clear K R r;go_wp2_with (first|(go_at_call 28;refine(up hf hs uq J Q).mono ?_;rintro e u ⟨A4,c4,ss,rfl,sh4,lc4,M,p4,fS⟩)|(go_at_call 29;refine(Cs Y M KK HSE vM EM).mono ?_;rintro e u ⟨AW,cW,rfl,sW,oW,pW⟩));refine aZ (v:=.tuple #[.agg #[(),(),an],SE]) ?_ rfl (s3 eL);exact zJ3
 obtain rfl:E=bm N:=by rw[<-hE.o,iy,ag c1]
 obtain⟨E1,NI⟩:=lh (bm N);obtain⟨rfl,rfl,rfl⟩:=Aq hE hV c1;obtain⟨⟨O,L,l⟩,J⟩:=l8 (dz N);rw[NI]at c1⊢;have uq:=U NI;obtain⟨y,Q⟩:=l8 L.length;have b0:(E1 !=0)=true:=by simp[c1]
 clear NI c1;go_wp2_with (go_at_call 28;refine(up hf hs uq J Q).mono ?_;rintro e u ⟨A4,c4,ss,rfl,sh4,lc4,M,p4,fS⟩);refine aZ (v:=.tuple #[.agg #[(),(),an],E1]) ?_ rfl (s3 eL);exact zJ3
end
