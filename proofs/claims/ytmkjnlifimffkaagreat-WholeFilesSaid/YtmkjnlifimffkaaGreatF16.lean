/- Lemmas. -/
import Derived.Test.YtmkjnlifimffkaaGreatF10
import Derived.Test.YtmkjnlifimffkaaGreatF05
namespace Go.Proofs.YtmkjnlifimffkaaGreat
open Go.RowKit Tryz
set_option linter.all false
set_option maxRecDepth 100000
set_option maxHeartbeats 0
variable{w':World}{A B:Option Addr}{c d i j m:Nat}
structure dV where
 o:gj
 ins:List Int
 P:List (List Int)
structure aU where
 dd:List Int
 nodes:List dV
structure Nd where
 o:gj
 A:Option Addr
 n:Nat
 c:Nat
 I:Option Addr
 ni:Nat
 ci:Nat
 ins:List Int
 P:Option Addr
 np:Nat
 cp:Nat
 ps:List Sp
def Nd.val(x:Nd):dV:=⟨x.o,x.ins,aW x.ps⟩
abbrev Ng(o:gj)(S I P:Value):List Value:=[.int .i64 o.kd,.int .i64 o.k,.int .i64 o.wd,.int .i64 o.st,.int .i64 o.sd,.int .i64 o.fr,.int .i64 o.tt,S,I,P]
structure K1(w:World)(b o:Nat)(x:Nd):Prop where
 old:b<w
 cs:∀j v,(Ng x.o (.slice x.A x.n x.c) (.slice x.I x.ni x.ci) (.slice x.P x.np x.cp))[j]?=some v->w.cell? (b,o+j)=some v
 s:Sl w x.A x.n x.o.S
 i:Sl w x.I x.ni x.ins
 p:du w x.P x.np x.ps
 ls:x.n<=x.c
 li:x.ni<=x.ci
 lp:x.np<=x.cp
 k6:bo x.o.k
def K1.below{w w':ay}{b o:Nat}{x:Nd}(h:K1 w b o x)(hb:Below w.1.size w w'):K1 w' b o x:=
 ⟨bu h.old hb.size,λj v e=>(hb.cell (p:=⟨b,o+j,none⟩) h.old).trans (h.cs j v e),⟨h.s.rd.below hb,h.s.len⟩,⟨h.i.rd.below hb,h.i.len⟩,⟨h.p.rd.below hb,h.p.len⟩,h.ls,h.li,h.lp,h.k6⟩
def W0(w:ay)(A:cD)(xs:List Nd):Prop:=∀j x,xs[j]?=some x->∃b o,A=some ⟨b,o,none⟩/\K1 w b (o+j*10) x
class aQ(w:World)(A:Option Addr)(n:Nat)(B:Option Addr)(m:Nat)(N:outParam aU):Prop where
 dd:Sl w A n N.dd
 Zu:∃xs,W0 w B xs/\xs.map Nd.val=N.nodes
 len:m=N.nodes
section
variable{w:World}{n:Nat}{N:aU}
instance(priority:=low) aQ.step[p:aj w' w][h:aQ w A n B m N]:aQ w' A n B m N:=
 ⟨⟨h.dd.rd.below p.st,h.dd.len⟩,by
  obtain⟨xs,l,r⟩:=h.Zu;exact⟨xs,λj x u=>by obtain⟨b,o,e,k⟩:=l j x u;exact⟨b,o,e,k.below p.st⟩,r⟩,h.len⟩
def aQ.node(h:aQ w A n B m N){k:Nat}(u:k<m):∃b q o e n1 c1 I ni ci ins P np cp ps,B=some ⟨b,q,none⟩/\Old b w/\
  (w.cell? (b,q+k*10)=some (.int .i64 o.kd)/\w.cell? (b,q+k*10+1)=some (.int .i64 o.k)/\w.cell? (b,q+k*10+2)=some (.int .i64 o.wd)/\w.cell? (b,q+k*10+3)=some (.int .i64 o.st)/\w.cell? (b,q+k*10+4)=some (.int .i64 o.sd)/\
   w.cell? (b,q+k*10+5)=some (.int .i64 o.fr)/\w.cell? (b,q+k*10+6)=some (.int .i64 o.tt)/\w.cell? (b,q+k*10+7)=some (.slice e n1 c1)/\w.cell? (b,q+k*10+8)=some (.slice I ni ci)/\w.cell? (b,q+k*10+9)=some (.slice P np cp))/\
  Sl w e n1 o.S/\Sl w I ni ins/\du w P np ps/\Le n1 c1/\Le ni ci/\Le np cp/\I6 o.k/\Hx (N.nodes[k]?=some ⟨o,ins,aW ps⟩):=by
 obtain⟨xs,r,j⟩:=h.Zu;have l:k<xs:=by have:=cv List.length j;rw[br,<-h.len]at this;omega
 obtain⟨b,q,rfl,t⟩:=r k _ (bc l);refine⟨b,q,xs[k].o,xs[k].A,xs[k].n,xs[k].c,xs[k].I,xs[k].ni,xs[k].ci,xs[k].ins,xs[k].P,xs[k].np,xs[k].cp,xs[k].ps,rfl,⟨t.old⟩,⟨t.cs 0 _ rfl,t.cs 1 _ rfl,t.cs 2 _ rfl,t.cs 3 _ rfl,t.cs 4 _ rfl,t.cs 5 _ rfl,t.cs 6 _ rfl,t.cs 7 _ rfl,t.cs 8 _ rfl,t.cs 9 _ rfl⟩,t.s,t.i,t.p,⟨t.ls⟩,⟨t.li⟩,⟨t.lp⟩,⟨t.k6⟩,ae ?_⟩;rw[<-j,bj,bc l];rfl
end
def d6(L:List Bool):Array Value:=(L.map Value.bool).toArray
def bO{L:List Bool}{v:Bool}(h:L[j]?=some v):(d6 L)[j]?=some (.bool v):=by simp[d6,h]
def k5(L:List Bool)(j:Nat)(v:Bool):(d6 L).setIfInBounds j (.bool v)=d6 (L.set j v):=by simp[d6,B0,kq]
def Nh(n:Nat):madeCells #[.bool false] n=d6 (List.replicate n false):=by
 apply lS;rw[B7];simp[d6]
def hc(N:aU)(i j:Nat)(id:Nat):Bool:=(N.nodes.take i).any (λv=>v.ins.contains (id:Int))||(((N.nodes[i]?.map (·.ins)).getD []).take j).contains (id:Int)
def gm(N:aU)(i j:Nat):List Bool:=(List.range (N.nodes.length+1)).map (hc N i j)
def aU.jS(N:aU):Prop:=∀v∈N.nodes,∀id∈v.ins,0<=id/\id<=N.nodes.length
def aU.fits(N:aU):Prop:=N.nodes.length<=100000/\N.dd.length<=100000/\∀v∈N.nodes,v.ins.length<=100000/\v.o.S.length<=100000/\v.P.length<=100000/\∀z∈v.P,z.length<=100000
def Al(N:aU):List Nat:=(List.range (N.nodes.length+1)).filter λid=>!hc N N.nodes.length 0 id
def e1(N:aU):Int:=((Al N).getLastD 0:Nat)
def pu(N:aU):Bool:=decide ((Al N).length=1)&&decide (e1 N≠0)
section
variable{N:aU}
def rj(i j:Nat):(gm N i j).length=N.nodes+1:=by simp[gm]
def FG:gm N 0 0=List.replicate (N.nodes.length+1) false:=by
 rw[vS];refine⟨rj 0 0,λb hb=>?_⟩;obtain⟨id,_,rfl⟩:=bC.1 hb;simp[hc]
def FH{k:Nat}{v:dV}(hv:N.nodes[i]?=some v)(m:v.ins[j]?=some (k:Int)):(gm N i j).set k true=gm N i (j+1):=by
 apply ek;intro q;rw[eZ];have hq:∀q,(gm N i j)[q]?=if q<N.nodes.length+1 then some (hc N i j q)else none:=λq=>by
  rw[gm,bj];by_cases h:q<N.nodes.length+1
  .rw[fI h,ah h];rfl
  .rw[c6 (by simpa using h),ag h];rfl
 have l:(gm N i (j+1))[q]?=if q<N.nodes.length+1 then some (hc N i (j+1) q)else none:=by
  rw[gm,bj];by_cases h:q<N.nodes.length+1
  .rw[fI h,ah h];rfl
  .rw[c6 (by simpa using h),ag h];rfl
 have e:∀q,hc N i (j+1) q=(hc N i j q||decide (q=k)):=λq=>by
  unfold hc;rw[hv];simp only[nC,pZ];rw[fb,m,List.contains_append,<-Bool.or_assoc];congr 1;simp;omega
 rw[l,rj,e];by_cases h:k=q
 .subst h;rw[ah rfl];by_cases b:k<N.nodes+1
  .rw[ah b,ah b];simp
  .rw[ag b,ag b]
 .rw[ag h,hq];have:decide (q=k)=false:=by simp;omega
  rw[this,r3]
def FI{v:dV}(hv:N.nodes[i]?=some v):gm N i v.ins.length=gm N (i+1) 0:=by
 unfold gm;refine fj λq _=>?_;unfold hc;rw[hv,fb,hv];simp
end
section
variable{w:World}{n:Nat}{N:aU}
def l7(k:Nat)(j:k<=1000000)(W:ay):(Instr.makeSlice 106 (k:Int) (k:Int)).run prog W=.ok (W,k,k) (W.alloc (.cells (d6 (List.replicate k false)) 4)):=by
 obtain⟨i,hi,b⟩:=bD.1 (show(prog.info? 4).map (λi=>(i.zero,i.size,i.bytes))=some (some (.bool false),1,1)from by kernel_rfl);simp only[dL]at b;obtain⟨e,hs,hb⟩:=b;have:=lP (P:=prog) W 106 4 i _ underlying106 hi e .i64 .i64 k k om (dM _) (by rw[hs];simp;omega) (by rw[hb];simp;omega);rw[hs]at this;rw[<-Nh];simpa[Value.cells]using this om
def oL(N:aU)(k j:Nat):List Nat:=(List.range j).filter λid=>!hc N k 0 id
def QS{k:Nat}(h:hc N k 0 j=false):oL N k (j+1)=oL N k j++[j]:=by
 unfold oL;rw[j0,vW];simp[h]
def Ni{k:Nat}(h:hc N k 0 j=true):oL N k (j+1)=oL N k j:=by
 unfold oL;rw[j0,vW];simp[h]
def A7[a:aQ w A n B m N](T:Hx N.fits)(hr:Hx N.jS){l:Int}{b:Bool}(K:Hx (e1 N=l/\pu N=b)):() 123 #[.agg #[(A,n,c),(B,m,d)]] w (aD w (.tuple #[l,.bool b])):=by
 obtain⟨CB,CP,FB⟩:=ha;have E:Hx (m=N.nodes):=a.len;have hm:m<=100000:=by rw[E.o];exact T.o.1
 have L:∀W:World,(Instr.makeSlice 106 ((m:Int)+1:Int) ((m:Int)+1:Int)).run prog W=.ok (.slice (some ⟨W.1.size,0,none⟩) (m+1) (m+1)) (W.alloc (.cells (d6 (List.replicate (m+1) false)) 4)):=λW=>by
  have h:=l7 (m+1) om W;rwa[fH]at h
 go_in
 go_wp2_with fail
 obtain⟨v,hv⟩:=lg ((w.alloc (.cells #[(A,n,c),(B,m,d)] 33)).alloc (.cells (d6 (List.replicate (m+1) false)) 4));have pv:aj v w:=hv▸aK;have kN:Bx v w.1.size 33 #[(A,n,c),(B,m,d)]:=hv▸ao;have kU:aB v (w.1.size+1) 4 (d6 (gm N 0 0)):=by rw[FG,<-E.o,hv];exact(ao:Bx _ (w.1.size+1) _ _).al
 rw[<-hv];clear L hv;go_loopw [21] (λi wr=>∃k:Nat,k<=m/\i=.int .i64 k/\aB wr (w.1.size+1) 4 (d6 (gm N k 0))/\aj wr w) (λi _=>m-(intOf i).toNat)
 .exact⟨0,aT _,rfl,kU,pv⟩
 ·
  obtain⟨k,hk,rfl,y,hp⟩:=hrel;by_cases M:k<m
  .obtain⟨b0,q0,o,A1,n1,c1,I,ni,ci,ins,P,np,cp,ps,rfl,ob,⟨v0,v1,v2,v3,v4,v5,v6,v7,v8,v9⟩,s1,O,sp,l1,li,lp,ik,u⟩:=a.node M;have vp:ni<=100000:=by have:=(T.o.2.2 _ (aC u.o)).1;rw[O.len];exact this
   have HI:Hx (ni=ins):=O.len
   go_wp2_with fail
   obtain⟨x,Q⟩:=lg (wr.alloc (.cells #[o.kd,o.k,o.wd,o.st,o.sd,o.fr,o.tt,(A1,n1,c1),(I,ni,ci),(P,np,cp)] 84));have px:aj x wr:=Q▸aj.alloc _ _;have R:=y.at (w':=x);rw[<-Q];clear Q y;go_loopw [28] (λi U=>∃j:Nat,j<=ni/\i=.int .i64 j/\aB U (w.1.size+1) 4 (d6 (gm N k j))/\aj U w) (λi _=>ni-(intOf i).toNat)
   .exact⟨0,aT _,rfl,R,aK⟩
   ·
    obtain⟨j,hj,rfl,e,hpy⟩:=hrel;by_cases C:j<ni
    .obtain⟨b2,q2,z,rfl,jf,vz,V⟩:=O.get C;have S:=hr.o _ (aC u.o) z (aC V.o);rw[<-E.o]at S;obtain⟨q,rfl⟩:=cf S.1;have hq:q<m+1:=om;have G:=e.cell q;rw[bO (bc (by rw[rj,<-E.o];exact hq))]at G;have Du:=e.frozen q;have hK:=e.ax q (.bool true);rw[k5,FH u.o V.o]at hK;have HK:=ae hK;clear hK S
     go_wp2_with fail
     go_roundw
     .exact⟨j+1,om,by go_num,HK,⟨(a7 w wr).setCell (p:=⟨w.1.size+1,q,none⟩) (b9 _) _⟩⟩
     .simp[intOf];omega
    .obtain rfl:j=ni:=om;rw[HI.o,FI u.o]at e
     go_wp2_with fail
     go_roundw
     .exact⟨k+1,om,by go_num,e,aK⟩
     .simp[intOf];omega
  .obtain rfl:k=m:=om
   go_wp2_with fail
   have X:∀q,q<k+1->(d6 (gm N k 0))[q]?=some (.bool (hc N k 0 q)):=λq hq=>bO (by rw[gm,bj,fI (by rw[<-E.o];exact hq)];rfl);have HQ:=ae X;clear X;go_loopw [9,10,39] (λs t i wr=>∃j:Nat,j<=k+1/\i=.int .i64 j/\s=.int .i64 ((oL N k j).getLastD 0:Nat)/\t=.int .i64 ((oL N k j).length:Nat)/\aB wr (w.1.size+1) 4 (d6 (gm N k 0))/\aj wr w) (λ_ _ i _=>k+1-(intOf i).toNat)
   .exact⟨0,aT _,rfl,rfl,rfl,y,hp⟩
   ·
    obtain⟨j,hj,rfl,rfl,rfl,r,hp'⟩:=hrel;by_cases C:j<k+1
    .have G:=(r.cell j).trans (HQ.o j C);have IU:(j:Int)<(k:Int)+1:=by omega
     rcases hb:hc N k 0 j with _|_
     .have F:=ae (QS hb);rw[hb]at G;have hll:(oL N k j).length<=j:=by unfold oL;exact aO (List.length_filter_le _ _) aG
      clear hb
      go_wp2_with fail
      go_roundw
      .exact⟨j+1,om,by go_num,by rw[F.o];simp,by rw[F.o];simp,r,aK⟩
      .simp[intOf];omega
     .have F:=ae (Ni hb);rw[hb]at G;clear hb
      go_wp2_with fail
      go_roundw
      .exact⟨j+1,om,by go_num,by rw[F.o],by rw[F.o],r,aK⟩
      .simp[intOf];omega
    .obtain rfl:j=k+1:=om;have hu:oL N k (k+1)=Al N:=by unfold oL Al;rw[<-E.o]
     rw[hu];obtain⟨J,D⟩:=lh ((Al N).length);have hL:(((Al N).getLastD 0:Nat):Int)=l:=K.o.1;have Y:(decide (J=1)&&decide (l≠0))=b:=by rw[<-K.o.2,pu,D,K.o.1]
     rw[D,hL];have Z:=ae Y;clear D hL Y hu;by_cases c1:J=1
     .have d1:((J:Int)==1)=true:=by simp[c1]
      have HC:=ae c1;clear c1
      go_wp2_with fail
      go_ret2;exact⟨by rw[<-Z.o,ef HC.o];by_cases h:l=0<;>simp[h],aK⟩
     .have d1:((J:Int)==1)=false:=by simp;omega
      obtain rfl:b=false:=by rw[<-Z.o,dD c1];rfl
      clear c1
      go_wp2_with fail
      go_ret2;exact bq
end
variable{X:World}{C:Option Addr}{g:Nat}{ss:List Sp}{L:List (List Int)}{ord:List Int}{T T':TypeId}{i4:Array Value}{E:Int}
def fP(b:List Sp):Array Value:=(b.map λx=>Value.slice x.A x.m x.c).toArray
structure n5(w:World)(g:Nat)(ss:List Sp):Prop where
 al:aB w g 25 (fP ss)
 el:∀x∈ss,Rd w x.A x.zs/\x.m=x.zs.length/\x.m<=x.c/\bV (g+1) x.A
def eD(v:dV)(L:fV):List (List Int):=v.ins.map λi=>L.getD i.toNat []
def fE(N:aU):List Int->List (List Int)->Int×List (List Int)
 |[],L=>(0,L)
 |id::r,L=>
  match N.nodes[(id-1).toNat]? with
  |none=>(0,L)
  |some v=>if da v.o v.P (eD v L)=0 then fE N r (L.set id.toNat (cy v.o v.P (eD v L)))else(da v.o v.P (eD v L),[])
def jT(N:aU):List (List Int):=N.dd::List.replicate N.nodes.length []
structure m0(B:Nat)(A:Option Addr)(ss:List Sp):Prop where
 hd:bV B A
 el:∀x∈ss,bV B x.A
def m0.no{B:Nat}:m0 B none []:=⟨bV.none,λx b=>absurd b aG⟩
def m0.less{B b:Nat}{A:cD}{e:List Sp}(h:m0 B A e)(j:b<=B):m0 b A e:=⟨h.hd.less j,λx l=>(h.el x l).less j⟩
theorem du.setCell{w:ay}{B n:Nat}{A:cD}{e:List Sp}{p:Addr}(h:du w A n e)(f:m0 B A e)(hp:p.block<B)(v:Value):du (w.setCell p v) A n e:=
 ⟨λj x r=>by
  obtain⟨b,o,rfl,hb,y,z,u,C⟩:=h.rd j x r;have l:b≠p.block:=by have:=f.hd.o _ rfl;simp at this;omega
  exact⟨b,o,rfl,by simpa using hb,(dY (bm w p v b l)).trans y,((⟨z,u⟩:Sl w x.A x.m x.zs).setCell (f.el x (aC r)) hp v).rd,u,C⟩,h.len⟩
def K2(w:ay)(L:fV)(E:Int)(e:Ending)(w':ay):Prop:=∃A c b,e=.returned (.tuple #[.slice A L c,E])/\du w' A L.length b/\Le L.length c/\Hx (aW b=L)/\aj w' w/\m0 w.1.size A b
section
variable{w:World}{n k:Nat}{N:aU}{x:Sp}
def hI(h:ss[j]?=some x):(fP ss)[j]?=some (.slice x.A x.m x.c):=by simp[fP,h]
def xP(j:Nat):(fP ss).setIfInBounds j (.slice x.A x.m x.c)=fP (ss.set j x):=by simp[fP,B0,kq]
def FJ(j:Nat):aW (ss.set j x)=(aW ss).set j x.zs:=by simp[aW,kq]
def dj:Sp:=⟨none,0,0,[]⟩
def A8(n:Nat):madeCells #[()] n=fP (List.replicate n dj):=by
 apply lS;rw[B7];simp[fP,dj]
def kz(k:Nat)(j:k<=1000000)(W:ay):(Instr.makeSlice 82 (k:Int) (k:Int)).run prog W=.ok (W,k,k) (W.alloc (.cells (fP (List.replicate k dj)) 25)):=by
 obtain⟨i,hi,b⟩:=bD.1 (show(prog.info? 25).map (λi=>(i.zero,i.size,i.bytes))=some (some (.slice none 0 0),1,24)from by kernel_rfl);simp only[dL]at b;obtain⟨e,hs,hb⟩:=b;have:=lP (P:=prog) W 82 25 i _ underlying82 hi e .i64 .i64 k k om (dM _) (by rw[hs];simp;omega) (by rw[hb];simp;omega);rw[hs]at this;rw[<-A8];simpa[Value.cells]using this om
def n5.at(h:n5 w g ss)[l:aF w w']:n5 w' g ss:=⟨h.al.at,λx b=>⟨(h.el x b).1.below l.st,(h.el x b).2⟩⟩
def n5.new(hg:aB w g 25 (fP (List.replicate k dj))):n5 w g (List.replicate k dj):=⟨hg,λx b=>by rw[iA b];exact⟨Rd.nil _ _,rfl,an _,bV.none⟩⟩
def n5.ax(h:n5 w g ss)(j:Nat)(hr:Rd w x.A x.zs)(hm:x.m=x.zs.length)(r:x.m<=x.c)(e:bV (g+1) x.A):n5 (w.setCell (g,j) (.slice x.A x.m x.c)) g (ss.set j x):=by
 have a9:∀{A:cD} {zs:av},Rd w A zs->bV (g+1) A->Rd (w.setCell (g,j) (.slice x.A x.m x.c)) A zs:=λ{A zs} hr e=>
  ((⟨hr,rfl⟩:Sl w A zs zs).setCell (p:=⟨g,j,none⟩) e (p5 g) _).rd
 refine⟨by rw[<-xP];exact h.al.ax _ _,λy l=>?_⟩;rcases rH l with l|rfl
 .obtain⟨a,b,c,d⟩:=h.el y l;exact⟨a9 a d,b,c,d⟩
 .exact⟨a9 hr e,hm,r,e⟩
theorem n5.Nj(h:n5 w g ss):du w g ss.length ss:=
 ⟨λj x b=>⟨g,0,rfl,h.al.lt,by rw[bX,h.al.cell,hI b],(h.el x (aC b)).1,(h.el x (aC b)).2.1,(h.el x (aC b)).2.2.1⟩,rfl⟩
def FK(b:List Sp){n:Nat}(e:b=j)(h:j<n):(fP (b++List.replicate (n-j) dj)).setIfInBounds j (.slice x.A x.m x.c)=fP ((b++[x])++List.replicate (n-(j+1)) dj):=by
 rw[xP,show n-j=(n-(j+1))+1 from om,kI,kH _ _ om,e,eB,jq];simp
def aw{Q:World->Prop}{cs:eL}(h:∀u,aj u X->Bx u X.1.size T cs->Q u):Q (X.alloc (.cells cs T)):=h _ (aK) ao
def cT{Q:World->Prop}{cs:eL}(h:∀u,aj u X->Bx u X.1.size T cs->Bx u (X.1.size+1) T' i4->Q u):Q ((X.alloc (.cells cs T)).alloc (.cells i4 T')):=h _ (aK) ao ao
def n6{Q:World->Prop}{cs:eL}(h:∀b u,aj b X->aj u b->Bx b X.1.size T cs->b.1.size<=X.1.size+1->Bx u (X.1.size+1) T' i4->Q u):Q ((X.alloc (.cells cs T)).alloc (.cells i4 T')):=
 h (X.alloc (.cells cs T)) _ (aK) (aK) ao aG ao
def Zv[a:aQ w A n B m N](Q:Hx N.fits)(hr:Hx N.jS)[so:Sl w C k ord](hk:k<=100000)(ho:Hx (∀id∈ord,1<=id/\id<=m)){L:fV}(hL:Hx (fE N ord (jT N)=(E,L))):
  () 122 #[.agg #[(A,n,c),(B,m,d)],(C,k,g)] w (K2 w L E):=by
 obtain⟨CB,CP,FB⟩:=ha;have HM:Hx (m=N.nodes):=a.len;have hm:m<=100000:=by rw[HM.o];exact Q.o.1
 have sI:=a.dd;have hn:n<=100000:=by rw[sI.len];exact Q.o.2.1
 have pt:∀W:World,(Instr.makeSlice 82 ((m:Int)+1:Int) ((m:Int)+1:Int)).run prog W=.ok (.slice (some ⟨W.1.size,0,none⟩) (m+1) (m+1)) (W.alloc (.cells (fP (List.replicate (m+1) dj)) 25)):=λW=>by
  have h:=kz (m+1) om W;rwa[fH]at h
 have HK:Hx (k=ord):=so.len
 go_in
 go_upto_region 1 with fail
 refine aw (λb _ k0=>?_)
 go_wp2_with (first|(go_at_call 103;(with_reducible refine(pi om).mono ?_);rintro e u ⟨gS,rfl,sS,fS,_⟩))
 obtain⟨v,hv⟩:=lg (u.setCell (b.1.size,0) (.slice gS N.dd.length N.dd.length));have V:n5 u b.1.size (List.replicate (m+1) dj):=n5.new (Bx.al (w:=u) (g:=b.1.size));have R:=V.ax (x:=⟨some ⟨gS,0,none⟩,N.dd.length,N.dd.length,N.dd⟩) 0 sS.rd rfl (an _) (fS.less (Bx.al (g:=b.1.size)).lt);have pv:aj v b:=⟨hv▸(a7 b u).setCell (p:=⟨b.1.size,0,none⟩) (an _) _⟩;rw[<-hv]at R⊢;have X:n5 v b.1.size (⟨some ⟨gS,0,none⟩,N.dd.length,N.dd.length,N.dd⟩::List.replicate m dj):=R;have Y:aW (⟨some ⟨gS,0,none⟩,N.dd.length,N.dd.length,N.dd⟩::List.replicate m dj)=jT N:=by simp[aW,jT,HM.o,dj]
 have Z:∀z∈jT N,z.length<=100000:=λz hz=>by
  rcases bT.1 hz with rfl|hz
  .exact Q.o.2.1
  .rw[iA hz];simp
 have Dv:=ae Z;have ri:=ae Y;clear V R hv pt Y Z sS fS;go_loopw [27] (λi wr=>∃(j:Nat) (ss:List Sp),j<=k/\i=.int .i64 j/\Hx (ss=m+1)/\n5 wr b.1.size ss/\Hx (fE N (ord.drop j) (aW ss)=(E,L))/\Hx (∀z∈aW ss,z.length<=100000)/\aj wr b) (λi _=>k-(intOf i).toNat)
 .exact⟨0,_,aT _,rfl,ae aG,X,by rw[ri.o];exact hL,by rw[ri.o];exact Dv,pv⟩
 ·
  clear X pv;obtain⟨j,ss,U,rfl,G,S,HLJ,FL,hp⟩:=hrel;by_cases bK:j<k
  .obtain⟨b9,q9,id,rfl,QT,v9,xQ⟩:=so.get bK;obtain⟨Dw,Dx⟩:=ho.o id (aC xQ.o);obtain⟨t,ht⟩:=cf (show 0<=id-1 by omega);obtain rfl:id=(t:Int)+1:=by omega
   have xR:t<m:=om;have w2:(t:Int)+1-1=t:=by omega
   obtain⟨b0,q0,o,A1,n1,c1,I,ni,ci,ins,P,np,cp,ps,rfl,ob,⟨v0,v1,v2,v3,v4,v5,v6,v7,v8,IV⟩,s1,si,sp,l1,li,lp,ik,D⟩:=a.node xR;have vp:ni<=100000:=by have:=(Q.o.2.2 _ (aC D.o)).1;rw[si.len];exact this
   have HI:Hx (ni=ins):=si.len;have FM:=kz ni om;clear ht Dw Dx
   go_wp2_with fail
   obtain⟨v1,rfl⟩:=lg wr;refine n6 (λx0 x _ _ kx Zw O=>?_);have hSx:=S.at (w':=x0);have T:Hx (∀(q:Nat) (z:Int),ins[q]?=some z->ins.take (q+1)=ins.take q++[z]):=λq z h=>take_at h;go_loopw [44] (λi wy=>∃(q:Nat) (r:List Sp),q<=ni/\i=.int .i64 q/\Hx (r.length=q/\aW r=(ins.take q).map λi=>(aW ss).getD i.toNat [])/\aB wy (v1.1.size+1) 25 (fP (r++List.replicate (ni-q) dj))/\Hx (∀y∈r,y∈ss)/\aj wy x0) (λi _=>ni-(intOf i).toNat)
   .exact⟨0,[],aT _,rfl,ae ⟨rfl,rfl⟩,by simpa using O.al,ae aG,aK⟩
   ·
    clear O;obtain⟨q,r,hq,rfl,l,O,J,vq⟩:=hrel;have F:=hSx.at (w':=wr);by_cases IW:q<ni
    .obtain⟨b2,q2,z,rfl,jf,vz,ez⟩:=si.get IW;have hz:=hr.o _ (aC D.o) z (aC ez.o);rw[<-HM.o]at hz;obtain⟨y,rfl⟩:=cf hz.1;have hy:y<m+1:=om;obtain⟨⟨A3,m3,c3,z3⟩,he⟩:∃e0,ss[y]?=some e0:=⟨_,bc (by rw[G.o];exact hy)⟩;have hc1:=(F.al.cell y).trans (hI he);have ve:=O.cell q;rw[show(fP (r++List.replicate (ni-q) dj))[q]?=some (.slice none 0 0)from by
      rw[hI (x:=dj)]
      .rfl
      .rw[ew (by rw[l.o.1];exact an _),l.o.1,eB,ix,ah om]]at ve
     have Du:=O.frozen q;have hK:=O.ax q (A3,m3,c3);rw[FK (x:=⟨A3,m3,c3,z3⟩) r l.o.1 IW]at hK;have kR:=ae hK;have ky:Hx ((r++[(⟨A3,m3,c3,z3⟩:Sp)]).length=q+1/\aW (r++[(⟨A3,m3,c3,z3⟩:Sp)])=(ins.take (q+1)).map λi=>(aW ss).getD i.toNat []):=ae (by
      refine⟨by simp[l.o.1],?_⟩;rw[T.o q _ ez.o,cJ,<-l.o.2];simp only[aW,cJ,dX,jZ];congr 2;rw[bI,aX,bj,he];rfl)
     have QU:Hx (∀y∈r++[(⟨A3,m3,c3,z3⟩:Sp)],y∈ss):=λy hy=>by
      rcases bJ.1 hy with h|h
      .exact J.o y h
      .rw[cF.1 h];exact aC he
     clear hK hz he l J
     go_wp2_with fail
     go_roundw
     .exact⟨q+1,_,om,by go_num,ky,kR,QU,⟨(a7 x0 wr).setCell (p:=⟨v1.1.size+1,q,none⟩) Zw _⟩⟩
     .simp[intOf];omega
    .obtain rfl:q=ni:=om;have HX:Hx (aW r=eD ⟨o,ins,aW ps⟩ (aW ss)):=ae (by rw[l.o.2,HI.o,dJ];rfl);have xT:du wr (v1.1.size+1:Nat) q r:=⟨λj x U=>by
      obtain⟨h1,h2,h3,_⟩:=F.el x (J.o x (aC U));exact⟨v1.1.size+1,0,rfl,O.lt,by rw[bX,O.cell,hI (x:=x) (by rw[lI (a5.1 U).1];exact U)],h1,h2,h3⟩,l.o.1.symm⟩
     have fk:Hx (∀z∈aW ps++aW r,z.length<=1000000):=λz hz=>by
      rcases bJ.1 hz with h|h
      .have:=(Q.o.2.2 _ (aC D.o)).2.2.2 z h;omega
      .obtain⟨y,hy,rfl⟩:=bC.1 h;have:=FL.o y.zs (bC.2 ⟨y,J.o y hy,rfl⟩);omega
     have Vz:np<=100000:=by have:=(Q.o.2.2 _ (aC D.o)).2.2.1;rw[cj]at this;rw[sp.len];exact this
     have oY:n1<=100000:=by have:=(Q.o.2.2 _ (aC D.o)).2.1;rw[s1.len];exact this
     obtain⟨V1,K⟩:=lC (cy o (aW ps) (aW r));obtain⟨E1,M⟩:=lC (da o (aW ps) (aW r));have HD:Hx (ord.drop j=((t:Int)+1)::ord.drop (j+1)):=ae (by
      obtain⟨h1,h2⟩:=a5.1 xQ.o;rw[<-h2];exact ei h1)
     have HS:Hx ((if E1=0 then fE N (ord.drop (j+1)) ((aW ss).set (t+1) V1)else(E1,[]))=(E,L)):=ae (by
      have h:=HLJ.o;rw[HD.o,fE,show((t:Int)+1-1).toNat=t from om,D.o]at h;simp only at h;rw[<-HX.o,M.o,K.o,show((t:Int)+1).toNat=t+1 from om]at h;exact h)
     have lt1:t+1<m+1:=om;obtain⟨e5,he5⟩:∃e0,ss[t+1]?=some e0:=⟨_,bc (by rw[G.o];exact lt1)⟩;have Am:=(F.al.cell (t+1)).trans (hI he5);have QV:=F.al.frozen (t+1);have og:Old b.1.size wr:=⟨F.al.lt⟩;have FP:=@nG;clear he5;by_cases h0:E1=0
     .subst h0;have xS:Hx (fE N (ord.drop (j+1)) ((aW ss).set (t+1) V1)=(E,L)):=HS;have HVl:Hx (∀z∈(aW ss).set (t+1) V1,z.length<=100000):=λz hz=>by
       rcases rH hz with h|rfl
       .exact FL.o z h
       .have:=cw (by rw[<-K.o];exact l4 M:aA z=true);omega
      have lw:(World.heap b).size+1<=(World.heap wr).size:=og.lt
      go_wp2_with (go_at_call 74;(with_reducible refine(kD om om om (by assumption) K M).mono ?_);rintro e u ⟨A',c',rfl,sJ,lJ,fJ,_⟩)
      have QW:=(F.at (w':=u)).ax (x:=⟨A',V1.length,c',V1⟩) (t+1) sJ.rd rfl lJ.le (fJ.less lw);go_roundw
      .exact⟨j+1,_,om,by go_num,ae (by rw[ej];exact G),QW,by rw[FJ];exact xS,by rw[FJ];exact HVl,⟨(a7 b u).setCell (p:=⟨b.1.size,t+1,none⟩) (an _) _⟩⟩
      .simp[intOf];omega
     .have b0:(E1 !=0)=true:=by simp[h0]
      obtain⟨rfl,rfl⟩:E1=E/\[]=L:=by have h:=HS.o;rw[ag h0]at h;exact en h
      clear h0
      go_wp2_with (go_at_call 74;(with_reducible refine(kD om om om (by assumption) K M).mono ?_);rintro e u ⟨A',c',rfl,sJ,lJ,fJ,_⟩)
      go_ret2;exact⟨none,0,[],rfl,⟨λj x U=>by simp at U,rfl⟩,Le.same _,ae rfl,aK,m0.no⟩
  .have HE:Hx ((0,aW ss)=(E,L)):=ae (by have h:=HLJ.o;rw[ey (by rw[<-HK.o];omega)]at h;exact h);obtain⟨rfl,rfl⟩:=en HE
   go_wp2_with fail
   go_ret2;have hl:(aW ss).length=m+1:=by rw[cj,G.o]
   exact⟨some ⟨b.1.size,0,none⟩,m+1,ss,by rw[hl];rfl,by rw[cj];exact S.Nj,⟨dE hl⟩,ae rfl,aK,⟨λad e=>by cases e;exact ai (w:=w) (w':=b)⟩,λx hx=>(S.el x hx).2.2.2.less (by have:=ai (w:=w) (w':=b);omega)⟩
end
variable{D:List Int}{id y:Int}
def aU.ids(N:aU):List Int:=(List.range N.nodes.length).map λ(i:Nat)=>(i:Int)+1
def bG(N:aU)(v:Int):List Int:=(N.nodes[(v-1).toNat]?.map (·.ins)).getD []
def im(N:aU)(D:av)(v:Int):Nat:=(bG N v).countP λz=>z !=0&& !D.contains z
def A9(N:aU)(id v:Int):Nat:=(bG N v).count id
def jD(N:aU)(D:av)(v:Int):Bool:=!D.contains v&&decide (im N D v=0)
def fd(N:aU)(D:av):List Int:=N.ids.filter (jD N D)
def gZ(N:aU)(id:Int):List Int:=N.ids.flatMap λv=>List.replicate (A9 N id v) v
def l8(N:aU):Nat->List Int->List Int
 |0,D=>D
 |f+1,D=>match fd N D with
  |[]=>D
  |v::_=>l8 N f (D++[v])
def d7(N:aU):List Int:=l8 N N.nodes.length []
def e3(N:aU)(D U:av)(v:Int):Nat:=im N D v-U.count v
def xT(N:aU)(D:av)(id:Int)(U:av)(v:Int):Bool:=!(D++[id]).contains v&&decide (e3 N D U v=0)
def iI(N:aU)(D:av)(id:Int)(U:av):List Int:=N.ids.filter (xT N D id U)
section
variable{N:aU}{U L:List Int}{v:Int}
def bn:v∈N.ids↔1<=v/\v<=N.nodes:=by
 unfold aU.ids;rw[bC];constructor
 .rintro⟨i,hi,rfl⟩;rw[hM]at hi;omega
 .intro h;exact⟨(v-1).toNat,by rw[hM];omega,om⟩
def l9:N.ids.Pairwise (· < ·):=by
 unfold aU.ids;rw[List.pairwise_map];exact List.pairwise_lt_range.imp λh=>om
def tK:∀{D L:av},D.Nodup->(∀x∈D,x∈L)->D.length<=L.length
 |[],_,_,_=>aT _
 |x::t,L,h,hs=>by
  rw[qN]at h;have j:=tK (L:=L.erase x) h.2 λy b=>(List.mem_erase_of_ne (λe:y=x=>h.1 (e▸b))).2 (hs y (dl _ b));have:=Kk (hs x cm);have hp:0<L.length:=Ko (hs x cm);simp;omega
def k7:N.ids.length=N.nodes.length:=by simp[aU.ids]
def Ba(D:av)(id z:Int):(D++[id]).contains z=(D.contains z||z==id):=by
 rw[rX];simp
def tL(l:id≠0)(m:id∉D):im N (D++[id]) v+A9 N id v=im N D v:=by
 unfold im A9
 induction bG N v with
 |nil=>rfl
 |cons z t r=>
  rw[List.countP_cons,List.countP_cons,List.count_cons];rw[Ba];by_cases j:z=id
  .subst j;have b:D.contains z=false:=by simpa using m
   rw[b];simp[l]at r⊢;omega
  .have e:(z==id)=false:=by simpa using j
   rw[e,r3];simp only[Bool.false_eq_true,if_false,gE];omega
def uF:∀(L:av) (f:Int->Nat),L.Nodup->v∈L->(L.flatMap λx=>List.replicate (f x) x).count v=f v
 |[],_,_,h=>absurd h aG
 |x::t,f,b,h=>by
  rw[qN]at b;rw[g8,rR,List.count_replicate];by_cases e:x=v
  .subst e;have:(t.flatMap λx=>List.replicate (f x) x).count x=0:=List.count_eq_zero.2 λhm=>by
    obtain⟨y,j,hm⟩:=nf.1 hm;rw[iA hm]at b;exact b.1 j
   rw[this];simp
  .have hv:v∈t:=by rcases bT.1 h with h|h;exact absurd h.symm e;exact h
   rw[uF t f b.2 hv,ag (by simpa using e)];omega
def IX:N.ids.Nodup:=l9.imp λh=>om
def sH(hv:v∈N.ids):(gZ N id).count v=A9 N id v:=uF _ _ IX hv
def IY(h:v∈gZ N id):v∈N.ids/\0<A9 N id v:=by
 obtain⟨x,b,hm⟩:=nf.1 h;have e:=iA hm;subst e;exact⟨b,by exact Nat.pos_of_ne_zero λh=>by rw[h]at hm;simp at hm⟩
def Bb(b:id≠0)(e:id∉D)(hv:v∈N.ids):e3 N D (gZ N id) v=im N (D++[id]) v:=by
 rw[e3,sH hv,<-tL (N:=N) (v:=v) b e];omega
def Nk(b:id≠0)(e:id∉D):iI N D id (gZ N id)=fd N (D++[id]):=by
 unfold iI fd;refine p3 λv hv=>?_;rw[xT,jD,Bb b e hv]
def sI{p:Int->Bool}:∀{L:av} {x:Int} {t:av},L.Pairwise (· < ·)->L.filter p=x::t->(L.filter λv=>p v&&v !=x)=t
 |[],_,_,_,h=>by simp at h
 |z::l,x,t,hs,h=>by
  rw[g6]at hs;by_cases hp:p z=true
  .rw[vP hp]at h;injection h with b e
   subst b;rw[pV aG,<-e];exact p3 λv hv=>by
    have:=hs.1 v hv;have:(v !=z)=true:=by simp;omega
    rw[this,Bool.and_true]
  .rw[pV hp]at h;rw[pV (by simp[hp])];exact sI hs.2 h
def FN{t:av}(h:fd N D=id::t):iI N D id []=t:=by
 rw[<-sI l9 h];unfold iI;refine p3 λv _=>?_;rw[xT,jD,e3];rw[Ba];simp only[wg,wk,Bool.not_or];rw[show(v !=id)=!(v==id)from rfl];cases D.contains v<;>cases (v==id)<;>simp<;>rfl
def uG{p:Int->Bool}:∀{L:av},L.Pairwise (· < ·)->y∈L->p y=false->
  (L.filter λv=>p v||v==y)=(L.filter p).take ((L.filter p).countP (· <y))++y::(L.filter p).drop ((L.filter p).countP (· <y))
 |[],_,h,_=>absurd h aG
 |x::t,hs,r,hp=>by
  rw[g6]at hs;by_cases e:x=y
  .subst e;rw[vP aG,pV (by simp[hp])];have u:(t.filter p).countP (· <x)=0:=by
    rw[vV];intro a z;have:=hs.1 a (p2.1 z).1;simp;omega
   rw[u];simp only[dK,kj,eT];congr 1;exact p3 λv hv=>by
    have:=hs.1 v hv;have:(v==x)=false:=by simp;omega
    rw[this,r3]
  .have b:y∈t:=by rcases bT.1 r with h|h;exact absurd h.symm e;exact h
   have l:=hs.1 y b;have m:=uG hs.2 b hp;have ex:(x==y)=false:=by simpa using e
   by_cases j:p x=true
   .rw[vP (by simp[j]),vP j,Kn (by simpa using l),m];simp
   .rw[pV (by simp[j,ex]),pV j,m]
def k8(b:U.count y<im N D y):e3 N D (U++[y]) v=if v=y then e3 N D U y-1 else e3 N D U v:=by
 unfold e3;rw[rR,Ce];by_cases h:v=y
 .subst h;simp;omega
 .rw[ag h,ag (by simpa using λe:y=v=>h e.symm)];simp
def An(b:U.count y<im N D y)(h:e3 N D U y≠1):iI N D id (U++[y])=iI N D id U:=by
 unfold iI;refine p3 λv _=>?_;unfold xT;rw[k8 b];by_cases e:v=y
 .subst e;have:e3 N D U v≠0:=by unfold e3;omega
  rw[ah rfl,dD om,dD this]
 .rw[ag e]
def xU(b:U.count y<im N D y)(h:e3 N D U y=1)(j:y∈N.ids)(l:y∉D++[id]):
  iI N D id (U++[y])=(iI N D id U).take ((iI N D id U).countP (· <y))++y::(iI N D id U).drop ((iI N D id U).countP (· <y)):=by
 have hp:xT N D id U y=false:=by unfold xT;rw[h];simp
 unfold iI;rw[<-uG l9 j hp];refine p3 λv _=>?_;unfold xT;rw[k8 b];by_cases e:v=y
 .subst e;rw[ah rfl,h];simpa using l
 .rw[ag e];have:(v==y)=false:=by simpa using e
  rw[this,r3]
def Dy:(iI N D id U).Pairwise (· <= ·):=(l9.imp λh=>by omega).sublist List.filter_sublist
end
variable{c' q:Nat}{A' K:Option Addr}{z:Int}{zs:List Int}
structure Ur where
 A:Option Addr
 c:Nat
 zs:List Int
def tM(b:List Ur):Array Value:=(b.map λx=>Value.slice x.A x.zs.length x.c).toArray
structure rk(w:World)(B g:Nat)(US:List Ur):Prop where
 al:aB w g 24 (tM US)
 own:∀x∈US,az w B 3 x.A x.c x.zs
 m3:∀(i j:Nat) (x y:Ur),US[i]?=some x->US[j]?=some y->i≠j->∀a b,x.A=some a->y.A=some b->a.block≠b.block
def qG:Ur:=⟨none,0,[]⟩
section
variable{w:World}{B:Nat}{US:List Ur}{x:Ur}{N:aU}
def xV(h:US[j]?=some x):(tM US)[j]?=some (.slice x.A x.zs.length x.c):=by simp[tM,h]
def QX(j:Nat):(tM US).setIfInBounds j (.slice x.A x.zs.length x.c)=tM (US.set j x):=by simp[tM,B0,kq]
def Nl(n:Nat):madeCells #[()] n=tM (List.replicate n qG):=by
 apply lS;rw[B7];simp[tM,qG]
def rk.at(h:rk w B g US)[l:aF w w']:rk w' B g US:=⟨h.al.at,λx b=>(h.own x b).keep l.st,h.m3⟩
def rk.new{k:Nat}(h:aB w g 24 (tM (List.replicate k qG))):rk w B g (List.replicate k qG):=
 ⟨h,λx e=>by rw[iA e];exact az.nil _ _ _,λi j x y hi _ _ a _ b=>by
  rw[iA (aC hi)]at b;cases b⟩
def az.ec{p:Addr}(h:az w B 3 A c zs)(hp:∀b,A=some b->b.block≠p.block)(v:Value):az (w.setCell p v) B 3 A c zs:=
 h.same λb e=>bm w p v _ (hp b e)
def az.hD(h:az w B 3 A c zs)(m:cP C K w w')(b:∀a a',A=some a->C=some a'->a'.block≠a.block):az w' B 3 A c zs:=
 h.same λl e=>m.off _ (h.lt l e) λj r=>b l j e r
def rk.push(h:rk w B g US)(C:US[i]?=some x)(J:az w' B 3 A' c' (x.zs++[y]))(D:cP x.A A' w w'):
  rk (w'.setCell (g,i) (.slice A' (x.zs++[y]).length c')) B g (US.set i ⟨A',c',x.zs++[y]⟩):=by
 have E:=aC C;have hg:aB w' g 24 (tM US):=D.al h.al ((h.own x E).aS h.al ak);refine⟨?_,λz u=>?_,λi1 K x1 L hi l F a b r hb=>?_⟩
 .have:=hg.ax i (.slice A' (x.zs++[y]).length c');rwa[QX (x:=⟨A',c',x.zs++[y]⟩)]at this
 .obtain⟨j,l⟩:=eA u;rw[eZ]at l
  split at l
  .split at l
   .cases l;exact J.ec (λG e=>J.aS hg ak G e) _
   .cases l
  .rename_i m;have M:=(h.own z (aC l)).hD D λa a' P I=>h.m3 i j x z C l m a' a I P;exact M.ec (λG e=>M.aS hg ak G e) _
 .have key:∀(j:Nat) (z:Ur),US[j]?=some z->i≠j->∀a b,A'=some a->z.A=some b->a.block≠b.block:=λj z u m a b r hb=>by
   rcases D.new a r with⟨a0,Q,O⟩|rG
   .rw[O];exact h.m3 i j x z C u m a0 b Q hb
   .have:=(h.own z (aC u)).lt b hb;omega
  rw[eZ]at hi l
  split at hi
  .rename_i O
   split at hi
   .cases hi;rw[ag om]at l;exact key K L l om a b r hb
   .cases hi
  .split at l
   .rename_i R
    split at l
    .cases l;exact λe=>key i1 x1 hi om b a hb r e.symm
    .cases l
   .exact h.m3 i1 K x1 L hi l F a b r hb
def dq(N:aU)(i:Nat):List Int:=(N.nodes[i]?.map (·.ins)).getD []
def wT(N:aU)(i j:Nat):List Int:=(0:Int)::(List.range N.nodes.length).map λq=>(((if q<i then dq N q else if q=i then(dq N q).take j else[]).countP (· !=0):Nat):Int)
def uT(N:aU)(i j:Nat)(id:Nat):List Int:=if id=0 then[]else((List.range i).flatMap λ(q:Nat)=>List.replicate ((dq N q).count (id:Int)) ((q:Int)+1))++List.replicate (((dq N i).take j).count (id:Int)) ((i:Int)+1)
def kA(N:aU)(i j:Nat):List (List Int):=(List.range (N.nodes.length+1)).map (uT N i j)
def Dz(i j:Nat):(wT N i j).length=N.nodes+1:=by simp[wT]
def QY:wT N 0 0=List.replicate (N.nodes.length+1) 0:=by
 rw[wT,kI];congr 1;rw[vS];refine⟨aG,λb hb=>?_⟩;obtain⟨q,_,rfl⟩:=bC.1 hb;simp only[ju,if_false,dK]
 split<;>simp
def Nn:kA N 0 0=List.replicate (N.nodes.length+1) []:=by
 rw[vS];refine⟨by simp[kA],λb hb=>?_⟩;obtain⟨q,_,rfl⟩:=bC.1 hb;simp[uT]
def wx{i:Nat}(hq:q<N.nodes):(wT N i j)[q+1]?=some (((if q<i then dq N q else if q=i then(dq N q).take j else[]).countP (· !=0):Nat):Int):=by
 rw[wT,nh,bj,fI hq];rfl
def k9{L:av}(h:L[j]?=some z):L.take (j+1)=L.take j++[z]:=take_at h
def FO{i:Nat}(hi:i<N.nodes)(l:(dq N i)[j]?=some z):wT N i (j+1)=if z=0 then wT N i j else(wT N i j).set (i+1) (((((dq N i).take j).countP (· !=0):Nat):Int)+1):=by
 have ht:=k9 l;have hg:∀q,q≠i->(if q<i then dq N q else if q=i then(dq N q).take (j+1)else[])=(if q<i then dq N q else if q=i then(dq N q).take j else[]):=λq hq=>by rw[ag hq,ag hq]
 split
 .rename_i b;unfold wT;congr 1;refine fj λq _=>?_;by_cases e:q=i
  .subst e;rw[ag (kt _),ah rfl,ag (kt _),ah rfl,ht,Ck,b];simp
  .rw[hg q e]
 .rename_i b;apply ek;intro q;rw[eZ,Dz];by_cases e:i+1=q
  .subst e;rw[ah rfl,ah om,wx hi,ag (kt _),ah rfl,ht,Ck];simp[b]
  .rw[ag e];cases q with
   |zero=>rfl
   |succ q=>
    by_cases hq:q<N.nodes.length
    .rw[wx hq,wx hq,hg q om]
    .rw[c6 (by rw[Dz];omega),c6 (by rw[Dz];omega)]
def QZ{i:Nat}:wT N i (dq N i).length=wT N (i+1) 0:=by
 unfold wT;congr 1;refine fj λq _=>?_;by_cases h:q<i
 .rw[ah h,ah om]
 .rw[ag h];by_cases e:q=i
  .subst e;rw[ah rfl,ah om,dJ]
  .rw[ag e,ag om]
   split<;>simp
def Q0{i:Nat}(b:m≠0)(l:(dq N i)[j]?=some (m:Int))(q:Nat):uT N i (j+1) q=if q=m then uT N i j m++[(i:Int)+1]else uT N i j q:=by
 unfold uT;rw[k9 l,rR,Ce];by_cases e:q=m
 .subst e;rw[ag b,ah rfl,ag b,ah aG,<-List.replicate_append_replicate,dg];rfl
 .rw[ag e];have:((m:Int)==(q:Int))=false:=by simp;omega
  rw[this];rfl
def No{i:Nat}(b:m≠0)(l:(dq N i)[j]?=some (m:Int)):kA N i (j+1)=(kA N i j).set m (uT N i j m++[(i:Int)+1]):=by
 apply ek;intro q;rw[eZ];have hq:∀j,(kA N i j)[q]?=if q<N.nodes+1 then some (uT N i j q)else none:=λj=>by
  rw[kA,bj];by_cases h:q<N.nodes+1
  .rw[fI h,ah h];rfl
  .rw[c6 (by simpa using h),ag h];rfl
 rw[hq,hq,Q0 b l];have r:(kA N i j).length=N.nodes.length+1:=by simp[kA]
 rw[r];by_cases e:m=q
 .subst e;rw[ah rfl,ah rfl]
 .have u:¬q=m:=λh=>e h.symm;simp only[ag e,ag u]
def Np{i:Nat}(e:(dq N i)[j]?=some 0):kA N i (j+1)=kA N i j:=by
 unfold kA;refine fj λq _=>?_;unfold uT;by_cases b:q=0
 .rw[ah b,ah b]
 .rw[ag b,ag b,k9 e,rR,Ce];have:((0:Int)==(q:Int))=false:=by simp;omega
  rw[this];rfl
def Nq{i:Nat}:kA N i (dq N i).length=kA N (i+1) 0:=by
 unfold kA;refine fj λq _=>?_;unfold uT;rw[dJ,j0,jr];simp
end
variable{p wr:World}{f l:Nat}{US:List Ur}{L':List Int}
section
variable{w:World}{n:Nat}{N:aU}
def rk.a9{w:ay}{B g:Nat}{b:List Ur}(h:rk w B g b){p:Addr}(hp:p.block≠g)(r:p.block<B)(v:Value):rk (w.setCell p v) B g b:=
 ⟨h.al.a9 (λe=>hp e.symm) v,λx j=>(h.own x j).ec (λl e=>by have:=(h.own x j).fresh l e;omega) v,h.m3⟩
def aU.small(N:aU):Prop:=N.nodes.length<=1000/\∀v∈N.nodes,v.ins.length<=1000
def rm(h:N.small)(i:Nat):(dq N i).length<=1000:=by
 unfold dq;rcases hv:N.nodes[i]? with _|v
 .simp
 .exact h.2 v (aC hv)
def K3(h:N.small)(i j z:Nat):(uT N i j z).length<=i*1000+1000:=by
 unfold uT
 split
 .simp
 .have l:((dq N i).take j).count (z:Int)<=1000:=aO List.count_le_length (by have:=rm h i;simp;omega);have b:∀k,((List.range k).flatMap λ(q:Nat)=>List.replicate ((dq N q).count (z:Int)) ((q:Int)+1)).length<=k*1000:=λk=>by
   induction k with
   |zero=>simp
   |succ k e=>
    rw[j0,jr,a1];have:(dq N k).count (z:Int)<=1000:=aO List.count_le_length (rm h k);simp at e⊢;omega
  have:=b i;rw[a1,fg];omega
def IZ(k:Nat)(j:k<=1000000)(W:ay):(Instr.makeSlice 105 (k:Int) (k:Int)).run prog W=.ok (W,k,k) (W.alloc (.cells (tM (List.replicate k qG)) 24)):=by
 obtain⟨i,hi,b⟩:=bD.1 (show(prog.info? 24).map (λi=>(i.zero,i.size,i.bytes))=some (some (.slice none 0 0),1,24)from by kernel_rfl);simp only[dL]at b;obtain⟨e,hs,hb⟩:=b;have:=lP (P:=prog) W 105 24 i _ underlying105 hi e .i64 .i64 k k om (dM _) (by rw[hs];simp;omega) (by rw[hb];simp;omega);rw[hs]at this;rw[<-Nl];simpa[Value.cells]using this om
def jh(k:Nat)(j:k<=1000000)(W:ay):(Instr.makeSlice 24 (k:Int) (k:Int)).run prog W=.ok (W,k,k) (W.alloc (.cells (ints (List.replicate k 0)) 3)):=by
 obtain⟨i,hi,b⟩:=bD.1 (show(prog.info? 3).map (λi=>(i.zero,i.size,i.bytes))=some (some (.int .i64 0),1,8)from by kernel_rfl);simp only[dL]at b;obtain⟨e,hs,hb⟩:=b;have:=lP (P:=prog) W 24 3 i _ underlying24 hi e .i64 .i64 k k om (dM _) (by rw[hs];simp;omega) (by rw[hb];simp;omega);rw[hs]at this;rw[<-hY];simpa[Value.cells]using this om
def tN(zs:fV)(b:List Ur):Prop:=b.map Ur.zs=zs
def tN.len(h:tN (kA N i j) US):US=N.nodes.length+1:=by
 have:=cv List.length h;simpa[kA]using this
def tN.get{z:Nat}(h:tN (kA N i j) US)(b:z<N.nodes+1):∃x,US[z]?=some x/\x.zs=uT N i j z:=by
 have e:=h.len;refine⟨US[z]'om,bc _,?_⟩;have:=cv (·[z]?) h;simp only[bj,kA,fI b]at this;rw[bc om]at this;simpa using this
def tN.step{A:cD}{c:Nat}(h:tN (kA N i j) US)(b:l≠0)(r:(dq N i)[j]?=some (l:Int))(e:zs=uT N i j l++[(i:Int)+1]):tN (kA N i (j+1)) (US.set l ⟨A,c,zs⟩):=by
 unfold tN at h⊢;rw[kq,h,No b r,e]
def gS(N:aU)(D U:av):List Int:=(0:Int)::N.ids.map λv=>((e3 N D U v:Nat):Int)
def xW(h:j<N.nodes):N.ids[j]?=some ((j:Int)+1):=by
 rw[aU.ids,bj,fI h];rfl
def VA:wT N N.nodes.length 0=gS N [] []:=by
 unfold wT gS aU.ids;rw[p4];congr 1;refine fj λq hq=>?_;rw[hM]at hq;rw[ah hq];simp only[Function.comp,e3,im,bG,dq,wg,wk];rw[show((q:Int)+1-1).toNat=q from om];simp
def K4{id:Nat}(h:id≠0):uT N N.nodes.length 0 id=gZ N id:=by
 unfold uT gZ aU.ids;rw[ag h,List.flatMap_map];simp only[dK,wg,List.replicate_zero,fG];unfold A9 bG dq;congr 1
 funext q
 rw[show((q:Int)+1-1).toNat=q from om]
def kE{U:av}(b:1<=q)(h:q<=N.nodes):(gS N D U)[q]?=some ((e3 N D U (q:Int):Nat):Int):=by
 obtain⟨j,rfl⟩:∃j,q=j+1:=⟨q-1,om⟩;rw[gS,nh,bj,xW om];rfl
def I0{U:av}(l:1<=q)(h:q<=N.nodes)(b:U.count (q:Int)<im N D q):(gS N D U).set q (((e3 N D U (q:Int):Nat):Int)-1)=gS N D (U++[(q:Int)]):=by
 have hm:1<=e3 N D U (q:Int):=by unfold e3;omega
 obtain⟨j,rfl⟩:∃j,q=j+1:=⟨q-1,om⟩;apply ek;intro i;have r:(gS N D U).length=N.nodes+1:=by simp[gS,aU.ids]
 have u:(gS N D (U++[((j+1:Nat):Int)])).length=N.nodes.length+1:=by simp[gS,aU.ids]
 rw[eZ,r];by_cases e:j+1=i
 .subst e;rw[ah rfl,ah om,kE l h,k8 b,ah rfl];congr 1;omega
 .rw[ag e];rcases i with _|i
  .rfl
  .by_cases hi:i+1<=N.nodes
   .rw[kE om hi,kE om hi,k8 b,ag om]
   .rw[c6 om,c6 om]
def Nr{p:Int->Bool}(h:j<N.nodes):(N.ids.take (j+1)).filter p=(N.ids.take j).filter p++if p ((j:Int)+1)then[(j:Int)+1]else[]:=by
 rw[take_at (xW h),vW];congr 1;rw[List.filter_cons,List.filter_nil]
def xX(h:fd N D=[]):l8 N f D=D:=by
 cases f with
 |zero=>rfl
 |succ f=>rw[l8,h]
def slN:Value->Nat
 |.slice _ n _=>n
 |_=>0
structure eE(N:aU)(D:List Int):Prop where
 nd:D.Nodup
 ids:∀v∈D,v∈N.ids
 dep:∀v∈D,im N D v=0
def eE.nil:eE N []:=⟨J4,aG,aG⟩
def h2{t:av}(h:fd N D=id::t):id∈N.ids/\id∉D/\im N D id=0:=by
 have:=p2.1 (show id∈N.ids.filter (jD N D)from by rw[show N.ids.filter (jD N D)=id::t from h];exact cm);refine⟨this.1,?_⟩;have b:=this.2;unfold jD at b;simpa using b
def eE.W3{t:av}{v:Int}(h:eE N D)(hr:fd N D=id::t)(hv:v∈D++[id]):im N D v=0:=by
 rcases bJ.1 hv with hv|hv
 .exact h.dep v hv
 .rw[cF.1 hv];exact(h2 hr).2.2
def eE.step{t:av}(h:eE N D)(hr:fd N D=id::t):eE N (D++[id]):=by
 obtain⟨j,l,u⟩:=h2 hr;refine⟨?_,λv hv=>?_,λv hv=>?_⟩
 .rw[pW];exact⟨h.nd,aG,λa r b hb e=>l (by rw[cF.1 hb]at e;exact e▸r)⟩
 .rcases bJ.1 hv with hv|hv
  .exact h.ids v hv
  .rw[cF.1 hv];exact j
 .have:=h.W3 hr hv;have:=tL (N:=N) (v:=v) (D:=D) (id:=id) (by have:=bn.1 j;omega) l;omega
def eE.len(h:eE N D):D.length<=N.nodes.length:=by
 have:=tK h.nd h.ids;rwa[k7]at this
def eE.user{t:av}(h:eE N D)(hr:fd N D=id::t)(e:(gZ N id)[j]?=some y):y∈N.ids/\((gZ N id).take j).count y<im N D y/\y∉D++[id]:=by
 obtain⟨r,u,C⟩:=h2 hr;have hm:=IY (aC e);have z:((gZ N id).take j).count y<im N D y:=by
  have l:((gZ N id).take (j+1)).count y<=(gZ N id).count y:=(List.take_sublist _ _).count_le _;rw[take_at e,rR,sH hm.1]at l;have:=tL (N:=N) (v:=y) (D:=D) (id:=id) (by have:=bn.1 r;omega) u;simp at l;omega
 exact⟨hm.1,z,λb=>by have:=h.W3 hr b;omega⟩
def Ns{t:av}(hr:fd N D=id::t):gS N D (gZ N id)=gS N (D++[id]) []:=by
 obtain⟨b,e,j⟩:=h2 hr;unfold gS;congr 1;refine fj λv hv=>?_;rw[Bb (by have:=bn.1 b;omega) e hv];rfl
def FP{t:av}{v:Int}(h:fd N D=v::t):l8 N (f+1) D=l8 N f (D++[v]):=by rw[l8,h]
def Nt{U:av}:(iI N D id U).length<=N.nodes:=by
 rw[<-k7];exact List.length_filter_le _ _
structure j6(w p:World)(g:Nat)(wr:World)(A:Option Addr)(c:Nat)(L:List Int)(O:Option Addr)(co:Nat)(D wl:List Int):Prop where
 old:w<=g
 gp:g<p
 aside:Aside g p wr
 wait:Own wr g 3 wl
 py:az wr p.1.size 3 A c L
 ord:az wr p.1.size 3 O co D
 m3:∀a b,A=some a->O=some b->a.block≠b.block
 prev:aj wr w
section
variable{co:Nat}{O:Option Addr}{L wl:List Int}
def j6.W4(h:j6 w p g wr A c L O co D wl)(C:az w' p.1.size 3 A' c' L')(j:cP A A' wr w'):j6 w p g w' A' c' L' O co D wl where
 old:=h.old
 gp:=h.gp
 aside:=⟨aO h.aside.size j.size,λk z r=>(j.off k (bu z h.aside.size) (λl e=>by have:=h.py.fresh l e;omega)).trans (h.aside.same k z r)⟩
 wait:=j.own h.wait (λl e=>by have:=h.py.fresh l e;have:=h.gp;omega)
 py:=C
 ord:=h.ord.hD j (λa a' u y=>h.m3 a' a y u)
 m3 a b u eb:=by
  rcases j.new a u with⟨a0,E,F⟩|rG
  .rw[F];exact h.m3 a0 b E eb
  .have:=h.ord.lt b eb;omega
 prev:=⟨h.prev.st.trans (j.below (λl e=>by have:=h.py.fresh l e;have:=h.gp;have:=h.old;omega) h.prev.st.size)⟩
def j6.aa9(h:j6 w p g wr A c L O co D wl)(C:az w' p.1.size 3 A' c' L')(j:cP O A' wr w'):j6 w p g w' A c L A' c' L' wl where
 old:=h.old
 gp:=h.gp
 aside:=⟨aO h.aside.size j.size,λk z u=>(j.off k (bu z h.aside.size) (λl e=>by have:=h.ord.fresh l e;omega)).trans (h.aside.same k z u)⟩
 wait:=j.own h.wait (λl e=>by have:=h.ord.fresh l e;have:=h.gp;omega)
 py:=h.py.hD j (λa a' r y=>(h.m3 a a' r y).symm)
 ord:=C
 m3 a b r eb:=by
  rcases j.new b eb with⟨a0,E,F⟩|rG
  .rw[F];exact h.m3 a a0 r E
  .have:=h.py.lt a r;omega
 prev:=⟨h.prev.st.trans (j.below (λl e=>by have:=h.ord.fresh l e;have:=h.gp;have:=h.old;omega) h.prev.st.size)⟩
def j6.ax(h:j6 w p g wr A c L O co D wl)(i:Nat)(z:Int):j6 w p g (wr.setCell (g,i) z) A c L O co D (wl.set i z) where
 old:=h.old
 gp:=h.gp
 aside:=h.aside.ax i _
 wait:=h.wait.ax i z
 py:=h.py.ec (λb e=>by have:=h.py.fresh b e;have:=h.gp;simp;omega) _
 ord:=h.ord.ec (λb e=>by have:=h.ord.fresh b e;have:=h.gp;simp;omega) _
 m3:=h.m3
 prev:=⟨h.prev.st.setCell (p:=⟨g,i,none⟩) h.old _⟩
def j6.at(h:j6 w p g wr A c L O co D wl)[l:aF wr w']:j6 w p g w' A c L O co D wl:=
 ⟨h.old,h.gp,h.aside.below l.st,h.wait.at,h.py.at,h.ord.at,h.m3,⟨dW h.prev.st l.st⟩⟩
end
def VB{w:ay}{B c:Nat}{A:cD}{v:Int}{t:av}(h:az w B 3 A c (v::t)):
  () 187 #[.slice A (t.length+1) c,au,(1:Int)] w λe w'=>e=.returned (.slice A t c)/\az w' B 3 A c t/\cP A A w w':=
 EI h (i:=0) (j:=1) rfl rfl om aG aG
def Nu[a:aQ w A n B m N](hf:Hx N.fits)(hr:Hx N.jS)(hs:Hx N.small):() 121 #[.agg #[.slice A n c,(B,m,d)]] w (xf w (d7 N)):=by
 obtain⟨CB,CP,FB⟩:=ha;have F:Hx (m=N.nodes):=a.len;have hm:m<=100000:=by rw[F.o];exact hf.o.1
 have pt:∀W:World,(Instr.makeSlice 24 ((m:Int)+1:Int) ((m:Int)+1:Int)).run prog W=.ok (.slice (some ⟨W.1.size,0,none⟩) (m+1) (m+1)) (W.alloc (.cells (ints (List.replicate (m+1) 0)) 3)):=λW=>by
  have h:=jh (m+1) om W;rwa[fH]at h
 have hmr:∀W:World,(Instr.makeSlice 105 ((m:Int)+1:Int) ((m:Int)+1:Int)).run prog W=.ok (.slice (some ⟨W.1.size,0,none⟩) (m+1) (m+1)) (W.alloc (.cells (tM (List.replicate (m+1) qG)) 24)):=λW=>by
  have h:=IZ (m+1) om W;rwa[fH]at h
 go_in
 go_wp2_with fail
 obtain⟨v,hv⟩:=lg (((w.alloc (.cells #[.slice A n c,(B,m,d)] 33)).alloc (.cells (ints (List.replicate (m+1) 0)) 3)).alloc (.cells (tM (List.replicate (m+1) qG)) 24));have pv:aj v w:=hv▸aK;have kN:Bx v w.1.size 33 #[.slice A n c,(B,m,d)]:=hv▸ao;have G:Own v (w.1.size+1) 3 (wT N 0 0):=by rw[QY,<-F.o,hv];exact(ao:Bx _ (w.1.size+1) _ _).al
 have J:rk v (w.1.size+3) (w.1.size+1+1) (List.replicate (m+1) qG):=rk.new (by rw[hv];exact(ao:Bx _ (w.1.size+1+1) _ _).al);have iQ:tN (kA N 0 0) (List.replicate (m+1) qG):=by rw[tN,Nn,<-F.o];simp[qG]
 have hvs:v=w.1.size+3:=by rw[hv];simp
 rw[<-hv];have ri:=ae iQ;clear pt hmr hv iQ;go_loopw [30] (λi wr=>∃(k:Nat) (US:List Ur),k<=m/\i=.int .i64 k/\Own wr (w.1.size+1) 3 (wT N k 0)/\rk wr (w.1.size+3) (w.1.size+1+1) US/\Hx (tN (kA N k 0) US)/\aj wr w/\Bx wr w.1.size 33 #[.slice A n c,(B,m,d)]) (λi _=>m-(intOf i).toNat)
 .exact⟨0,_,aT _,rfl,G,J,ri,pv,kN⟩
 ·
  clear G J ri kN pv hvs;obtain⟨k,US,hk,rfl,G,J,M,hp,kN⟩:=hrel;by_cases V:k<m
  .obtain⟨b0,q0,o,A1,n1,c1,I,ni,ci,ins,P,np,cp,ps,rfl,ob,⟨v0,v1,v2,v3,v4,v5,v6,v7,v8,v9⟩,s1,si,sp,l1,li,lp,ik,ro⟩:=a.node V;have vp:ni<=100000:=by have:=(hf.o.2.2 _ (aC ro.o)).1;rw[si.len];exact this
   have HI:Hx (ni=ins):=si.len;have HA:Hx (dq N k=ins):=ae (by rw[dq,ro.o];rfl)
   go_wp2_with fail
   obtain⟨x,hx⟩:=lg (wr.alloc (.cells #[o.kd,o.k,o.wd,o.st,o.sd,o.fr,o.tt,(A1,n1,c1),(I,ni,ci),(P,np,cp)] 84));have px:aj x wr:=hx▸aj.alloc _ _;have kWx:=G.at (w':=x);have kUx:=J.at (w':=x);rw[<-hx];clear hx G J;go_loopw [38] (λi wy=>∃(j:Nat) (US:List Ur),j<=ni/\i=.int .i64 j/\Own wy (w.1.size+1) 3 (wT N k j)/\rk wy (w.1.size+3) (w.1.size+1+1) US/\Hx (tN (kA N k j) US)/\aj wy w/\Bx wy w.1.size 33 #[.slice A n c,.slice (some ⟨b0,q0,none⟩) m d]) (λi _=>ni-(intOf i).toNat)
   .exact⟨0,US,aT _,rfl,kWx,kUx,M,aK,ao⟩
   ·
    clear kWx kUx M kN;obtain⟨j,US,hj,rfl,G,J,M,vq,kN⟩:=hrel;by_cases DC:j<ni
    .obtain⟨b2,q2,z,rfl,jf,vz,ez⟩:=si.get DC;have hz:=hr.o _ (aC ro.o) z (aC ez.o);rw[<-F.o]at hz;have VC:Hx ((dq N k)[j]?=some z):=ae (by rw[HA.o];exact ez.o);have DD:Hx (k<N.nodes.length):=ae (by rw[<-F.o];exact V);by_cases h0:z=0
     .subst h0;have Q:=G;rw[<-(FO DD.o VC.o).trans (ah rfl)]at Q;have jQ:=M;rw[<-Np VC.o]at jQ
      go_wp2_with fail
      go_roundw
      .exact⟨j+1,US,om,by go_num,Q,J,jQ,vq,kN⟩
      .simp[intOf];omega
     .obtain⟨z,rfl⟩:=cf hz.1;have hzm:z<=m:=om;have lD:1<=z:=om;obtain⟨cw,R⟩:=lh (((dq N k).take j).countP (· !=0));have wW:cw<=100000:=by rw[<-R];exact aO rM bY
      have Q5:(wT N k j)[k+1]?=some (cw:Int):=by rw[wx DD.o,ag (kt _),ah rfl,R]
      have hc:=G.cell Q5;have Du:=G.frozen (k+1);have Q:=G.ax (k+1) ((cw:Int)+1);rw[<-R,<-(FO DD.o VC.o).trans (ag h0),R]at Q;have Qe:=ae Q;have HF:=ae (J.a9 (p:=⟨w.1.size+1,k+1,none⟩) aG aG ((cw:Int)+1:Int));have M6:aj (wr.setCell (w.1.size+1,k+1) ((cw:Int)+1:Int)) w:=⟨(a7 w wr).setCell (p:=⟨w.1.size+1,k+1,none⟩) (b9 _) _⟩;clear Q G J Q5 R
      go_upto_region 11 with fail
      obtain⟨y,hy⟩:=lg (wr.setCell (w.1.size+1,k+1) ((cw:Int)+1:Int));have kNy:Bx y w.1.size 33 #[.slice A n c,.slice (some ⟨b0,q0,none⟩) m d]:=⟨by rw[hy];exact kN.al.a9 aG _⟩;rw[<-hy]at Qe HF M6⊢;have G:=Qe.o;have J:=HF.o;have hys:w.1.size+1+1<y:=J.al.lt;clear hy Qe HF hc Du kN h0 hz vq vz;obtain⟨⟨X,Y,l⟩,VD,VE⟩:=M.o.get (z:=z) (by rw[<-F.o];omega);dsimp only at VE;have rg:l.length<=1001000:=by
       rw[VE];have:=K3 hs k j z;have:=hs.o.1;rw[<-F.o]at this;omega
      have Q6:=(J.al.cell z).trans (xV VD);have fru:=J.al.frozen z;have Zx:=J.own _ (aC VD);have FQ:=ae Zx.fresh;have HEU:=ae VD;have HEZ:=ae VE;dsimp only at Q6 Zx FQ;clear VD VE
      go_wp2_with (at_builtin;refine hG rfl _ _ _ rfl 3 underlying24 aq (w.1.size+3) X Y l rfl Zx ((k:Int)+1) rfl om om ?_;intro A3 c3 w3 Z r aba;have kB3:=r.al J.al (λS e=>by have:=FQ.o S e;omega);have fr3:=kB3.frozen z;have Am:=(kB3.cell z).trans (xV HEU);clear Q6 fru;dsimp only at Am)
      go_roundw
      ·
       have Ya:∀S,X=some S->S.block≠w.1.size+1:=λS e=>by have:=FQ.o S e;omega
       have hpp:=J.push HEU Z r;rw[show(l++[(k:Int)+1]).length=l.length+1 from aG]at hpp;have qR:Below w.1.size y w3:=r.below (λS e=>by have:=FQ.o S e;omega) om;exact⟨j+1,_,om,by go_num,(r.own G Ya).a9 aG _,hpp,ae (M.o.step om VC (by rw[HEZ.o])),⟨((a7 w y).trans qR).setCell bY _⟩,⟨(r.al kNy.al (λS e=>by have:=FQ.o S e;omega)).a9 bY _⟩⟩
      .simp[intOf];omega
    .obtain rfl:j=ni:=om;have Q:=G;have jQ:=M;rw[HI.o,<-HA.o,QZ]at Q;rw[HI.o,<-HA.o,Nq]at jQ;clear G
     go_wp2_with fail
     go_roundw
     .exact⟨k+1,US,om,by go_num,Q,J,jQ,vq,kN⟩
     .simp[intOf];omega
  .obtain rfl:k=m:=om;rw[F.o,VA]at G;have abb:Hx (tN (kA N N.nodes.length 0) US):=ae (by rw[<-F.o];exact M);have vr:=hs.o.1;rw[<-F.o]at vr;clear M
   go_wp2_with fail
   obtain⟨p,pe⟩:=lg wr;have hp0:aj wr p:=⟨by rw[pe];exact aY _ _⟩;rw[<-pe]at J G hp kN;clear pe;have CY:w.1.size+1<p:=G.lt;go_loopw [9,10] (λs i wr=>∃(j:Nat) (X:cD) (Y:Nat) (L:av),j<=k/\i=.int .i64 ((j:Int)+1)/\s=.slice X L Y/\az wr p.1.size 3 X Y L/\Hx (L=(N.ids.take j).filter (jD N []))/\L<=j/\aj wr p) (λ_ i _=>k+1-(intOf i).toNat)
   .exact⟨0,none,0,[],aT _,aG,rfl,az.nil _ _ _,ae aG,aG,hp0⟩
   ·
    clear hp0;obtain⟨j,X,Y,L,hj,rfl,rfl,K,HL,hll,E⟩:=hrel;have Qj:=G.at (w':=wr);by_cases V:j<k
    .have Q5:=kE (N:=N) (D:=[]) (U:=[]) (q:=j+1) om (by rw[<-F.o];omega);have hc:=Qj.cell Q5;have HT:=ae (Nr (N:=N) (j:=j) (p:=jD N []) (by rw[<-F.o];exact V));have he:((j+1:Nat):Int)=(j:Int)+1:=by simp
     rw[he]at hc;have HP:Hx (jD N [] ((j:Int)+1)=decide (e3 N [] [] ((j:Int)+1)=0)):=ae (by unfold jD e3;rw[List.contains_nil,wg,wk];rfl);have IU:((j:Int)+1<=(k:Int)):=by omega
     obtain⟨q0,Nv⟩:=lh (e3 N [] [] ((j:Int)+1));rw[Nv]at hc HP;clear Q5 Nv he;by_cases h0:q0=0
     .subst h0;rw[HP.o]at HT
      go_wp2_with (at_builtin;refine hC rfl _ _ _ rfl 3 underlying24 aq p.1.size X Y L rfl K ((j:Int)+1) rfl om ai ?_;intro A3 c3 w3 Z qR _ _)
      go_roundw
      .exact⟨j+1,A3,c3,_,om,by go_num,aG,Z,ae (by rw[HT.o,HL.o];rfl),by simp;omega,⟨(a7 p wr).trans qR⟩⟩
      .simp[intOf];omega
     .rw[HP.o,dD h0]at HT
      go_wp2_with fail
      go_roundw
      .exact⟨j+1,X,Y,L,om,by go_num,rfl,K,ae (by rw[HT.o,HL.o];simp),om,E⟩
      .simp[intOf];omega
    .obtain rfl:j=k:=om;have hL:L=fd N []:=by rw[HL.o,F.o,bR (dE k7)];rfl
     have pt:=zY (P:=prog) 24 3 underlying24 aq j om;have IU:¬((j:Int)+1<=(j:Int)):=by omega
     rw[hL]at K⊢;clear hL HL hll Qj;have HG:Hx (∀z,z<j+1->z≠0->∃A c l,US[z]?=some ⟨A,c,l⟩/\l=gZ N z):=λz hz h0=>by
      obtain⟨⟨A,c,l⟩,e1,e2⟩:=abb.o.get (z:=z) (by rw[<-F.o];exact hz);exact⟨A,c,l,e1,by rw[K4 h0]at e2;exact e2⟩
     go_wp2_with fail
     have hS:j6 w p (w.1.size+1) (wr.alloc (.cells (ints (List.replicate j 0)) 3)) X Y (fd N []) (some ⟨wr.1.size,0,none⟩) j [] (gS N [] []):=
      ⟨aG,CY,⟨by have:=E.st.size;simp;omega,λk hk _=>by have:=E.st.size;exact(nj wr _ k om).trans (E.st.block k hk)⟩,G.at,K.at,(Mf wr 3 j om).more E.st.size,λa b ea eb=>by cases eb;exact Ku (K.lt a ea),aK⟩
     have HK:Hx (l8 N (N.nodes.length-0) []=d7 N):=rfl;clear K G pt IU;go_loopw [9,11] (λs t wr=>∃(A:cD) (c:Nat) (L:av) (O:cD) (co:Nat) (D:av),s=.slice A L c/\t=.slice O D co/\j6 w p (w.1.size+1) wr A c L O co D (gS N D [])/\Hx (L=fd N D)/\Hx (eE N D)/\Hx (l8 N (N.nodes.length-D.length) D=d7 N)) (λ_ t _=>j-slN t)
     .exact⟨_,_,_,_,_,[],rfl,rfl,hS,ae rfl,ae eE.nil,HK⟩
     ·
      clear hS HK E;obtain⟨X,Y,L,O,co,D,rfl,rfl,hS,HL,HT,HK⟩:=hrel;have E:=hS.prev;rcases L with _|⟨id,t⟩
      .have hD:D=d7 N:=(xX HL.o.symm).symm.trans HK;subst hD
       go_wp2_with fail
       go_ret;exact⟨O,co,rfl,hS.ord.more (by have:=hS.gp;omega),E⟩
      .have hid:=h2 HL.o.symm;have hI:=bn.1 hid.1;rw[<-F.o]at hI;obtain⟨q,rfl⟩:=cf (show 0<=id by omega);have LM:1<=q:=om;have hqj:q<j+1:=om;have Nw:=HT.o.len;rw[<-F.o]at Nw;obtain⟨gA,rfl,_,_⟩:=hS.py.addr aG;have vd:=hS.py.cell (k:=0) rfl;obtain⟨A5,c5,l,e5,e6⟩:=HG.o q hqj om;have Zy:=ae e5;have Q7:=ae e6;have HS:=ae hS;clear hS e5 e6 hid hI
       go_upto_region 25 with(first|(go_at_call 187;refine(VB HS.o.py).mono ?_;rintro e u ⟨rfl,Ny,hcP⟩;have C:=ae (HS.o.W4 Ny hcP);clear Ny hcP vd)|(at_builtin;refine hG rfl _ _ _ rfl 3 underlying24 aq p.1.size O co D rfl C.o.ord (q:Int) rfl om C.o.aside.size ?_;intro A3 c3 w3 Z r aba;have FR:=ae (C.o.aa9 Z r);clear Z r))
       have QW:=FR.o;have kU3:=QW.aside.al J.al om;have Q6:=(kU3.cell q).trans (xV Zy);dsimp only at Q6;have rg:l.length<=1001000:=by
        have:=K3 hs N.nodes.length 0 q;rw[K4 om,<-Q7.o,<-F.o]at this;omega
       have HR0:Hx (t=iI N D q (l.take 0)):=ae (by rw[dK];exact(FN HL.o.symm).symm);have hSI:j6 w p (w.1.size+1) w3 gA Y t A3 c3 (D++[(q:Int)]) (gS N D (l.take 0)):=by rw[dK];exact QW
       clear HS C FR kU3 QW
       go_wp2_with fail
       clear Q6;go_loopw [9,101] (λs i wr=>∃(x:Nat) (A:cD) (c:Nat) (L:av),x<=l.length/\i=.int .i64 x/\s=.slice A L c/\j6 w p (w.1.size+1) wr A c L A3 c3 (D++[(q:Int)]) (gS N D (l.take x))/\Hx (L=iI N D q (l.take x))) (λ_ i _=>l.length-(intOf i).toNat)
       .exact⟨0,_,_,_,aT _,rfl,rfl,hSI,HR0⟩
       ·
        clear hSI HR0;obtain⟨x,X,Y,L,hx,rfl,rfl,hS,HR⟩:=hrel;have E:=hS.prev;by_cases V:x<l.length
        .have sU:Sl wr A5 l.length l:=⟨hS.aside.rd (J.own _ (aC Zy)).rd (λS e=>by have:=(J.own _ (aC Zy)).fresh S e;omega),rfl⟩;obtain⟨b2,q2,z,rfl,jf,vz,ez⟩:=sU.get V;have hY:=HT.o.user (t:=t) (id:=(q:Int)) (y:=z) (j:=x) HL.o.symm (by rw[<-Q7.o];exact ez.o);rw[<-Q7.o]at hY;have hI:=bn.1 hY.1;rw[<-F.o]at hI;obtain⟨y,rfl⟩:=cf (show 0<=z by omega);have Zz:1<=y:=om;have hyj:y<j+1:=om;have HY:=ae hY;have R:=kE (N:=N) (D:=D) (U:=l.take x) Zz (by rw[<-F.o];omega);have FSq:=I0 (N:=N) (D:=D) (U:=l.take x) Zz (by rw[<-F.o];omega) HY.o.2.1;have Q8:=kE (N:=N) (D:=D) (U:=l.take x++[(y:Int)]) Zz (by rw[<-F.o];omega);rw[k8 HY.o.2.1,ah rfl]at Q8;have hmw:1<=e3 N D (l.take x) (y:Int):=by have:=HY.o.2.1;unfold e3;omega
         have hmx:e3 N D (l.take x) (y:Int)<=1000:=by
          unfold e3 im bG;have:=rm hs ((y:Int)-1).toNat;unfold dq at this;exact aO (Nat.sub_le _ _) (aO rM this)
         have pz:=ae (take_at ez.o);rw[<-pz.o]at FSq Q8;have T:Hx (e3 N D (l.take x) (y:Int)=1->iI N D q (l.take (x+1))=L.take (L.countP (· <(y:Int)))++(y:Int)::L.drop (L.countP (· <(y:Int)))):=λh=>by rw[pz.o,HR.o];exact xU HY.o.2.1 h HY.o.1 HY.o.2.2
         have VF:Hx (e3 N D (l.take x) (y:Int)≠1->iI N D q (l.take (x+1))=L):=λh=>by rw[pz.o,HR.o];exact An HY.o.2.1 h
         obtain⟨mw,W5⟩:=lh (e3 N D (l.take x) (y:Int));rw[W5]at R FSq Q8 hmw hmx T VF;have hc:=hS.wait.cell R;have Du:=hS.wait.frozen y;have DE:=hS.ax y ((mw:Int)-1);rw[FSq]at DE;have C:=ae DE;have vt:=ae Q8;clear hY hI R FSq Q8 W5 DE hS
         go_upto_region 29 with fail
         obtain⟨v2,IM⟩:=lg (wr.setCell (w.1.size+1,y) ((mw:Int)-1:Int));rw[<-IM]at C⊢;have hS:=C.o;have ve:=hS.wait.cell vt;clear IM E hc Du vt vz jf sU;have E:=hS.prev;by_cases h1:mw=1
         .subst h1;have abc:v2.cell? (w.1.size+1,y)=some (.int .i64 0):=ve;have Ag:L.length<=1000:=by rw[HR.o];have:=Nt (N:=N) (D:=D) (id:=(q:Int)) (U:=l.take x);have:=hs.o.1;omega
          have HSO:Hx (L.Pairwise (· <= ·)):=ae (by rw[HR.o];exact Dy);have HY1:=ae (T.o rfl);clear T VF ve hS
          go_wp2_with (first|(go_at_call 188;refine mv (EJ (x:=(y:Int)) C.o.py.rd om HSO) λu pu=>?_)|(go_at_call 189;(with_reducible refine dO (λu2 q8 bu2=>?_));(with_reducible refine(EK (x:=(y:Int)) (vb:=u.1.size) (C.o.at (w':=u2)).py (λS e=>by have:=C.o.py.lt S e;have:=pu.st.size;omega) rfl rM om (C.o.at (w':=u2)).aside.size).mono ?_);rintro e u3 ⟨A6,c6,rfl,Yg,abd⟩))
          go_roundw
          .exact⟨x+1,A6,c6,_,om,by go_num,aG,(C.o.at (w':=u2)).W4 Yg abd,ae HY1.o.symm⟩
          .simp[intOf];omega
         .obtain⟨mv,rfl⟩:∃mv,mw=mv+1:=⟨mw-1,om⟩;have abc:v2.cell? (w.1.size+1,y)=some (.int .i64 (mv:Int)):=ve;have sr:(mv:Int)≠0:=by omega
          have H1:=ae (VF.o h1);clear T VF ve h1
          go_wp2_with fail
          go_roundw
          .exact⟨x+1,X,Y,L,om,by go_num,rfl,hS,ae H1.o.symm⟩
          .simp[intOf];omega
        .obtain rfl:x=l.length:=om;rw[dJ,Q7.o,Ns HL.o.symm]at hS;have hid:=h2 HL.o.symm;have Ff:Hx (L=fd N (D++[(q:Int)])):=ae (by rw[HR.o,dJ,Q7.o,Nk om hid.2.1]);have FT:=HT.o.step HL.o.symm;have xm:=FT.len;have VG:l8 N (N.nodes.length-(D++[(q:Int)]).length) (D++[(q:Int)])=d7 N:=by
          rw[<-HK.o,<-FP HL.o.symm];congr 1;simp at xm⊢;omega
         have kR:=ae VG;have ky:=ae FT;rw[<-F.o]at xm;simp at xm;clear hid FT VG
         go_wp2_with fail
         go_roundw
         .exact⟨X,Y,L,A3,c3,D++[(q:Int)],rfl,aG,hS,Ff,ky,kR⟩
         .simp[slN];omega
end
variable{u:World}{O:List Int}
def Ao(m:Nat)(v:dV):Int:=if v.o.right then(if v.ins.all (λz=>decide (0<=z)&&decide (z<=m))then 0 else 11)else 21
def jU(m:Nat):List dV->Int
 |[]=>0
 |v::t=>if Ao m v=0 then jU m t else Ao m v
def wA(N:aU):List Int:=(fE N (d7 N) (jT N)).2.getD (e1 N).toNat []
def qa(N:aU):Int:=if(d7 N).length=N.nodes then(if(fE N (d7 N) (jT N)).1=0 then(if pu N then(if cg (wA N)=0/\bt (wA N)=1 then 0 else 23)else 23)else(fE N (d7 N) (jT N)).1)else 22
def a6(N:aU):Int:=if 1<=N.nodes.length/\N.nodes.length<=512 then(if aA N.dd then(if jU N.nodes.length N.nodes=0 then qa N else jU N.nodes.length N.nodes)else 20)else 12
def dh(N:aU):List Int×List (List Int)×Int:=if a6 N=0 then(d7 N,(fE N (d7 N) (jT N)).2,e1 N)else([],[],0)
def K5(w:ay)(E:Int)(O:av)(L:fV)(l:Int)(e:Ending)(w':ay):Prop:=∃A c B d b,e=.returned (.tuple #[.agg #[.slice A O c,.slice B L d,l],E])/\az w' w.1.size 3 A c O/\du w' B L.length b/\Le L.length d/\Hx (aW b=L)/\aj w' w/\m0 w.1.size B b
section
variable{w:World}{n:Nat}{N:aU}{l:Int}
def g1(hE:a6 N=E)(hV:dh N=(O,L,l))(h:E≠0):[]=O/\[]=L/\0=l:=by
 rw[dh,hE,ag h]at hV;simpa using hV
def fQ(p:aj w' w):K5 w E [] [] 0 (.returned (.tuple #[.agg #[(),(),au],E])) w':=
 ⟨none,0,none,0,[],rfl,az.nil _ _ _,⟨λj x b=>by simp at b,rfl⟩,Le.same _,ae rfl,p,m0.no⟩
theorem ed{x y z:Value}[l:aF w u]:aj (((u.setCell (w.1.size+1,0) x).setCell (w.1.size+1,1) y).setCell (w.1.size+1,2) z) w:=
 ⟨((l.st.setCell (p:=⟨w.1.size+1,0,none⟩) (b9 _) x).setCell (p:=⟨w.1.size+1,1,none⟩) (b9 _) y).setCell (p:=⟨w.1.size+1,2,none⟩) (b9 _) z⟩
def xY{x y z:Value}{B:Nat}(h:az u B 3 A c O)(j:w.1.size+1<B):az (((u.setCell (w.1.size+1,0) x).setCell (w.1.size+1,1) y).setCell (w.1.size+1,2) z) w.1.size 3 A c O:=by
 have f:∀b,A=some b->b.block≠w.1.size+1:=λb e=>by have:=h.fresh b e;omega
 exact(((h.ec (p:=⟨w.1.size+1,0,none⟩) f x).ec (p:=⟨w.1.size+1,1,none⟩) f y).ec (p:=⟨w.1.size+1,2,none⟩) f z).more om
theorem Q9{x y z:Value}{B:Nat}(h:du u A n ss)(f:m0 B A ss)(b:w.1.size+1<B):du (((u.setCell (w.1.size+1,0) x).setCell (w.1.size+1,1) y).setCell (w.1.size+1,2) z) A n ss:=
 ((h.setCell f (p:=⟨w.1.size+1,0,none⟩) b x).setCell f (p:=⟨w.1.size+1,1,none⟩) b y).setCell f (p:=⟨w.1.size+1,2,none⟩) b z
def xZ{o:gj}{b:Bool}[Sl w A n o.S](e:n<=1000000)(hb:Hx (o.right=b)):() 120 #[.agg (fL o.kd o.k o.wd o.st o.sd o.fr o.tt (A,n,c))] w (aD w (.bool b)):=
 bZ (eQ e) (by rw[<-hb.o];rfl)
def n7:∀(f:Nat) (D:av),eE N D->eE N (l8 N f D)
 |0,_,h=>h
 |f+1,D,h=>by
  rw[l8]
  split
  .exact h
  .rename_i b;exact n7 f _ (h.step b)
def x8:∀(r:av) (L j:fV),fE N r L=(0,j)->(∀z∈L,z.length<=100000)->j.length=L.length/\∀z∈j,z.length<=100000
 |[],L,j,h,u=>by
  rw[fE]at h;obtain rfl:=(en h).2;exact⟨rfl,u⟩
 |id::r,L,j,h,u=>by
  rw[fE]at h
  split at h
  .obtain rfl:=(en h).2;exact⟨rfl,u⟩
  .split at h
   .rename_i y;obtain⟨a,b⟩:=x8 r _ j h (λz e=>by
     rcases rH e with e|rfl
     .exact u z e
     .have:=cw (l4 y);omega)
    exact⟨by rw[a,ej],b⟩
   .exact absurd (en h).1 (by assumption)
def FU:∃q:Nat,e1 N=q/\q<=N.nodes:=by
 refine⟨_,rfl,?_⟩;rcases h:(Al N).getLast? with _|x
 .rw[Kj,h];simp
 .rw[Kj,h];have:=p2.1 (List.mem_of_getLast? h);have:=hM.1 this.1;simp;omega
def n8[aQ w A n B m N](j:Hx N.fits)(hr:Hx N.jS)(hs:Hx N.small)(hO:Hx (d7 N=O)){k:Nat}(r:Hx (O=k)):() 121 #[.agg #[.slice A n c,(B,m,d)]] w λe w'=>∃A c,e=.returned (.slice A k c)/\Sl w' A k O/\az w' w.1.size 3 A c O/\aj w' w:=by
 obtain rfl:=hO.o;obtain rfl:=r.o;exact(Nu j hr hs).mono λe w' ⟨A,c,u,b,y⟩=>⟨A,c,u,⟨b.rd,rfl⟩,b,y⟩
def DF{k:Nat}[aQ w A n B m N](j:Hx N.fits)(hr:Hx N.jS)[Sl w C k ord](r:k<=100000)(u:Hx (∀id∈ord,1<=id/\id<=m))(hL:Hx (fE N ord (jT N)=(E,L))){x:Nat}(y:Hx (L=x)):
  () 122 #[.agg #[.slice A n c,(B,m,d)],(C,k,g)] w λe w'=>∃A c b,e=.returned (.tuple #[.slice A x c,E])/\du w' A x b/\Le x c/\Hx (aW b=L)/\aj w' w/\m0 w.1.size A b:=by
 obtain rfl:=y.o;exact Zv j hr r u hL
def tO:∀{l:List dV},jU m l=0->∀v∈l,Ao m v=0
 |[],_,v,hv=>absurd hv aG
 |x::t,h,v,hv=>by
  unfold jU at h
  split at h
  .rename_i b;rcases bT.1 hv with rfl|hv
   .exact b
   .exact tO h v hv
  .exact absurd h (by assumption)
def qb[a:aQ w A n B m N](D:Hx N.fits)(hs:Hx N.small)(hE:Hx (a6 N=E))(hV:Hx (dh N=(O,L,l))):() 72 #[.agg #[(A,n,c),(B,m,d)]] w (K5 w E O L l):=by
 obtain⟨CB,CP,FB⟩:=ha;have Q:Hx (m=N.nodes):=a.len;have hm:m<=1000:=by rw[Q.o];exact hs.o.1
 have sI:=a.dd;have hn:n<=100000:=by rw[sI.len];exact D.o.2.1
 go_in
 by_cases c1:1<=m/\m<=512
 .have Nz:=ae c1;have c2:¬(m:Int)<1:=by omega
  have c3:¬(m:Int)>512:=by omega
  have r:=hE.o;rw[a6,<-Q.o,ah c1]at r;clear c1;rcases hb:aA N.dd with _|_
  .obtain rfl:E=20:=by rw[hb]at r;exact r.symm
   obtain⟨rfl,rfl,rfl⟩:=g1 hE hV om;have HB:=ae hb;clear hb r
   go_wp2_with (go_at_call 119;(with_reducible refine qS (λu _ _ _=>?_));(with_reducible refine(cR om HB).mono ?_);rintro e u1 ⟨rfl,_⟩)
   refine a8 (v:=.tuple #[.agg #[(),(),au],(20:Int)]) ?_ rfl (fQ ed);rw[b8 rfl];go_simp
  .rw[hb]at r;have HB:=ae hb;have R:Hx ((if jU m N.nodes=0 then qa N else jU m N.nodes)=E):=r;clear hb r
   go_upto_region 5 with(go_at_call 119;(with_reducible refine qS (λu _ _ _=>?_));(with_reducible refine(cR om HB).mono ?_);rintro e u1 ⟨rfl,_⟩)
   go_wp2_with fail
   go_loopw [34] (λi wr=>∃k:Nat,k<=m/\i=.int .i64 k/\Hx (jU m (N.nodes.drop k)=jU m N.nodes)/\aj wr u1) (λi _=>m-(intOf i).toNat)
   .exact⟨0,aT _,rfl,ae rfl,⟨aY _ _⟩⟩
   ·
    obtain⟨k,hk,rfl,HD,hp⟩:=hrel;by_cases bK:k<m
    .obtain⟨b0,q0,o,A1,n1,c1,I,ni,ci,ins,P,np,cp,ps,rfl,ob,⟨v0,v1,v2,v3,v4,v5,v6,v7,v8,v9⟩,s1,si,sp,l1,li,lp,ik,X⟩:=a.node bK;have vp:ni<=100000:=by have:=(D.o.2.2 _ (aC X.o)).1;rw[si.len];exact this
     have oY:n1<=100000:=by have:=(D.o.2.2 _ (aC X.o)).2.1;rw[s1.len];exact this
     have HI:Hx (ni=ins):=si.len;have Y:Hx (jU m N.nodes=if Ao m ⟨o,ins,aW ps⟩=0 then jU m (N.nodes.drop (k+1))else Ao m ⟨o,ins,aW ps⟩):=ae (by
      obtain⟨Z,h2⟩:=a5.1 X.o;rw[<-HD.o,ei Z,h2];rfl)
     obtain⟨ob',G⟩:=lC o.right;rcases ob' with _|_
     .have Z:jU m N.nodes=21:=by rw[Y.o,Ao];simp[G.o]
      obtain rfl:E=21:=by rw[<-R.o,Z];rfl
      obtain⟨rfl,rfl,rfl⟩:=g1 hE hV om;clear Z
      go_wp2_with (go_at_call 120;(with_reducible refine dO (λu2 _ _=>?_));(with_reducible refine(xZ om G).mono ?_);rintro e u3 ⟨rfl,_⟩)
      refine a8 (v:=.tuple #[.agg #[(),(),au],(21:Int)]) ?_ rfl (fQ ed);rw[b8 rfl];go_simp
     .go_wp2_with (go_at_call 120;(with_reducible refine dO (λu2 _ _=>?_));(with_reducible refine(xZ om G).mono ?_);rintro e u3 ⟨rfl,_⟩)
      go_loopw [46] (λi wr=>∃j:Nat,j<=ni/\i=.int .i64 j/\Hx (∀z∈ins.take j,0<=z/\z<=m)/\aj wr u3) (λi _=>ni-(intOf i).toNat)
      .exact⟨0,aT _,rfl,ae aG,⟨aY _ _⟩⟩
      ·
       obtain⟨j,hj,rfl,HZ,vq⟩:=hrel;by_cases DC:j<ni
       .obtain⟨b2,q2,z,rfl,jf,vz,ez⟩:=si.get DC;by_cases hz:0<=z/\z<=m
        .have HT:Hx (∀y∈ins.take (j+1),0<=y/\y<=m):=λy hy=>by
          rw[take_at ez.o]at hy;rcases bJ.1 hy with h|h
          .exact HZ.o y h
          .rw[cF.1 h];exact hz
         have z1:¬z<0:=om;have z2:¬z>(m:Int):=by omega
         clear hz
         go_wp2_with fail
         go_roundw
         .exact⟨j+1,om,by go_num,HT,vq⟩
         .simp[intOf];omega
        .have Z:jU m N.nodes=11:=by
          have:ins.all (λz=>decide (0<=z)&&decide (z<=m))=false:=by
           rw[nu];exact⟨z,aC ez.o,by simp;omega⟩
          rw[Y.o,Ao];simp[G.o,this]
         obtain rfl:E=11:=by rw[<-R.o,Z];rfl
         obtain⟨rfl,rfl,rfl⟩:=g1 hE hV om;clear Z;by_cases z1:z<0;rotate_left
         focus
          have z2:z>(m:Int):=by omega
         all_goals
          clear hz
          go_wp2_with fail
          refine a8 (v:=.tuple #[.agg #[(),(),au],(11:Int)]) ?_ rfl (fQ ed);rw[b8 rfl];go_simp
       .obtain rfl:j=ni:=om;have Ra:Hx (jU m (N.nodes.drop (k+1))=jU m N.nodes):=ae (by
         have:ins.all (λz=>decide (0<=z)&&decide (z<=m))=true:=by
          rw[cZ];intro z hz;have:=HZ.o z (by rw[HI.o,dJ];exact hz);simp[this]
         rw[Y.o,Ao];simp[G.o,this])
        go_wp2_with fail
        go_roundw
        .exact⟨k+1,om,by go_num,Ra,aK⟩
        .simp[intOf];omega
    .obtain rfl:k=m:=om;have ZA:jU k N.nodes=0:=by rw[<-HD.o,ey (by rw[<-Q.o];exact an _)];rfl
     have b:qa N=E:=by have:=R.o;rw[ZA,ah rfl]at this;exact this
     have S:Hx N.jS:=λv hv id hid=>by
      have:=tO ZA v hv;unfold Ao at this
      split at this
      .split at this
       .rename_i h;have:=cZ.1 h id hid;rw[<-Q.o];simpa using this
       .omega
      .omega
     obtain⟨M,T⟩:∃M,d7 N=M:=⟨_,rfl⟩;obtain⟨⟨LE,LL⟩,Ql⟩:=lh (fE N M (jT N));obtain⟨q,hq,hqm⟩:=FU (N:=N);obtain⟨lb,ZB⟩:=lh (pu N);rw[qa,wA,T,Ql,hq,ZB,<-Q.o]at b;have J:eE N M:=T▸n7 _ _ eE.nil;have NA:=J.len;rw[<-Q.o]at NA hqm;have vu:Hx (∀id∈M,1<=id/\id<=k):=ae λid hid=>by have:=bn.1 (J.ids id hid);rw[<-Q.o]at this;exact this
     have HO:=ae T;have K:=ae Ql;have HU:Hx (e1 N=(q:Int)/\pu N=lb):=ae ⟨hq,ZB⟩;dsimp only at b;clear T Ql hq ZB J HD R ZA;by_cases hl:M.length=k
     .rw[ah hl]at b;have F:=ae hl;clear hl NA;by_cases h0:LE=0
      .subst h0;rw[ah rfl]at b;have ZC:=x8 _ _ _ K (λz hz=>by
        rcases bT.1 hz with rfl|hz
        .exact D.o.2.1
        .rw[iA hz];simp)
       have C:Hx (LL=k+1):=ae (by rw[ZC.1,Q.o];simp[jT]);have FL:=ae ZC.2;clear ZC;rcases lb with _|_
       .obtain rfl:E=23:=b.symm;obtain⟨rfl,rfl,rfl⟩:=g1 hE hV om;clear b
        go_wp2_with (first|(go_at_call 121;(with_reducible refine(n8 D S hs HO F).mono ?_);rintro e u ⟨A4,c4,rfl,ZD,U,p4⟩)|(go_at_call 122;(with_reducible refine(DF D S om vu K C).mono ?_);rintro e u ⟨A5,c5,ss,rfl,sh,ZE,V,p5,fS⟩)|(go_at_call 123;(with_reducible refine(A7 D S HU).mono ?_);rintro e u ⟨rfl,_⟩))
        refine a8 (v:=.tuple #[.agg #[(),(),au],(23:Int)]) ?_ rfl (fQ ed);rw[b8 rfl];go_simp
       .rw[ah rfl,bI]at b;obtain⟨zq,ZF⟩:=lh (LL.getD q []);rw[ZF]at b;have HZQ:=ae ZF;obtain⟨V6,Qt⟩:=lh (bt zq);obtain⟨J6,ZG⟩:=lh (cg zq);rw[Qt,ZG]at b;have H4:=ae Qt;have ZH:=ae ZG;have vj:=ae b;clear ZF Qt ZG b
        go_upto_region 26 with(first|(go_at_call 121;(with_reducible refine(n8 D S hs HO F).mono ?_);rintro e u ⟨A4,c4,rfl,ZD,U,p4⟩)|(go_at_call 122;(with_reducible refine(DF D S om vu K C).mono ?_);rintro e u ⟨A5,c5,ss,rfl,sh,ZE,V,p5,fS⟩)|(go_at_call 123;(with_reducible refine(A7 D S HU).mono ?_);rintro e u ⟨rfl,_⟩))
        obtain⟨b5,o5,A6,m6,c6,z6,rfl,ob5,v5,s6,l6,e6⟩:=sh.get (k:=q) om;have ZI:LL[q]?=some z6:=by have:=e6.o;rwa[V.o]at this
        obtain rfl:z6=zq:=by rw[<-HZQ.o,aX,ZI];rfl
        have XX:m6<=100000:=by rw[s6.len];exact FL.o _ (aC ZI)
        clear ZI;by_cases hj:J6=0
        .by_cases hv:V6=1
         .subst hj hv;obtain rfl:E=0:=by rw[<-vj.o,ah ⟨rfl,rfl⟩]
          obtain⟨rfl,rfl,rfl⟩:M=O/\LL=L/\(q:Int)=l:=by
           have h:=hV.o;rw[dh,hE.o,ah rfl,HO.o,K.o,HU.o.1]at h;simpa using h
          go_wp2_with (go_at_call 73;refine mv (hH om H4 ZH) λu7 _=>?_)
          have hx:w.1.size+1<wr.1.size:=(ao:Bx wr (w.1.size+1) _ _).al.lt;refine a8 (v:=.tuple #[.agg #[(A4,k,c4),.slice (some ⟨b5,o5,none⟩) (k+1) c5,q],au]) ?_ rfl ⟨A4,c4,some ⟨b5,o5,none⟩,c5,ss,by rw[F.o,C.o],xY (U.at (w':=u7)) hx,by rw[C.o];exact Q9 ao fS (bu hx p4.st.size),by rw[C.o];exact ZE,V,ed,fS.less (by have:=p4.st.size;omega)⟩;rw[b8 rfl];go_simp
         .obtain rfl:E=23:=by rw[<-vj.o,ag (λh=>hv h.2)]
          obtain⟨rfl,rfl,rfl⟩:=g1 hE hV om;subst hj;have b1:(V6 !=1)=true:=by simp[hv]
          clear hv
          go_wp2_with (go_at_call 73;refine mv (hH om H4 ZH) λu7 _=>?_)
          refine a8 (v:=.tuple #[.agg #[(),(),au],(23:Int)]) ?_ rfl (fQ ed);rw[b8 rfl];go_simp
        .obtain rfl:E=23:=by rw[<-vj.o,ag (λh=>hj h.1)]
         obtain⟨rfl,rfl,rfl⟩:=g1 hE hV om;have b1:(J6 !=0)=true:=by simp[hj]
         clear hj
         go_wp2_with (go_at_call 73;refine mv (hH om H4 ZH) λu7 _=>?_)
         refine a8 (v:=.tuple #[.agg #[(),(),au],(23:Int)]) ?_ rfl (fQ ed);rw[b8 rfl];go_simp
      .rw[ag h0]at b;obtain rfl:E=LE:=b.symm;obtain⟨rfl,rfl,rfl⟩:=g1 hE hV h0;have b0:(E !=0)=true:=by simp[h0]
       obtain⟨y,C⟩:=lC LL.length;clear b h0
       go_wp2_with (first|(go_at_call 121;(with_reducible refine(n8 D S hs HO F).mono ?_);rintro e u ⟨A4,c4,rfl,ZD,U,p4⟩)|(go_at_call 122;(with_reducible refine(DF D S om vu K C).mono ?_);rintro e u ⟨A5,c5,ss,rfl,sh,ZE,V,p5,fS⟩))
       refine a8 (v:=.tuple #[.agg #[(),(),au],E]) ?_ rfl (fQ ed);rw[b8 rfl];go_simp
     .rw[ag hl]at b;obtain rfl:E=22:=b.symm;obtain⟨rfl,rfl,rfl⟩:=g1 hE hV om;have F:Hx (M.length=M.length):=rfl;have b0:((M.length:Int) !=(k:Int))=true:=by simp;omega
      clear b hl
      go_wp2_with (go_at_call 121;(with_reducible refine(n8 D S hs HO F).mono ?_);rintro e u ⟨A4,c4,rfl,ZD,U,p4⟩)
      refine a8 (v:=.tuple #[.agg #[(),(),au],(22:Int)]) ?_ rfl (fQ ed);rw[b8 rfl];go_simp
 .obtain rfl:E=12:=by rw[<-hE.o,a6,ag (by rw[<-Q.o];exact c1)]
  obtain⟨rfl,rfl,rfl⟩:=g1 hE hV om;by_cases c2:1<=m
  focus
   have c3:(m:Int)>512:=by omega
  rotate_left
  focus
   obtain rfl:m=0:=om
  all_goals
   go_wp2_with fail
   refine a8 (v:=.tuple #[.agg #[(),(),au],(12:Int)]) ?_ rfl (fQ ?_)
   .rw[b8 rfl];go_simp
   .exact aK
end
def qc(N:aU):Int->List Int->Bool
 |_,[]=>true
 |b,id::r=>if bG N id=[b]then qc N id r else false
def chainB(N:aU):Bool:=if a6 N=0 then qc N 0 (d7 N)else false
def sJ(w:ay)(E:Int)(O:av)(e:Ending)(w':ay):Prop:=∃A c,e=.returned (.tuple #[.slice A O c,E])/\az w' w.1.size 3 A c O/\aj w' w
section
variable{w:World}{n:Nat}{N:aU}{l:Int}
def f0[aQ w A n B m N](b:Hx N.fits)(hs:Hx N.small)(j:Hx (a6 N=E)):() 40 #[.agg #[(A,n,c),(B,m,d)]] w (aD w E):=by
 have F:=@aa;have G:=@aP;obtain⟨⟨O,L,l⟩,r⟩:=lC (dh N)
 go_in
 go_wp2_with (go_at_call 72;(with_reducible refine(qb b hs j r).mono ?_);rintro e u ⟨AO,cO,AL,cL,I,rfl,y,z,C,D,J,K⟩)
 go_ret;exact bq
def Rb[aQ w A n B m N](j:Hx N.fits)(hs:Hx N.small)(r:Hx (a6 N=E))(y:Hx (dh N=(O,L,l))):() 60 #[.agg #[(A,n,c),(B,m,d)]] w (sJ w E O):=by
 have F:=@aa;have G:=@aP
 go_in
 go_wp2_with (go_at_call 72;(with_reducible refine(qb j hs r y).mono ?_);rintro e u ⟨AO,cO,AL,cL,I,rfl,b,z,C,D,J,K⟩)
 go_ret2;exact⟨AO,cO,rfl,b.at.more ai,aK⟩
def Bc[aQ w A n B m N](r:Hx N.fits)(hs:Hx N.small)(y:Hx (a6 N=E))(z:Hx (dh N=(O,L,l))):() 28 #[.agg #[(A,n,c),(B,m,d)]] w (K2 w L E):=by
 have I:=@aa;have J:=@aP
 go_in
 go_wp2_with (go_at_call 72;(with_reducible refine(qb r hs y z).mono ?_);rintro e u ⟨AO,cO,AL,cL,C,rfl,D,F,b,j,K,G⟩)
 go_ret2;exact⟨AL,cL,C,rfl,ao,b,j,aK,G.less ai⟩
def DG[aQ w A n B m N](b:Hx N.fits)(hs:Hx N.small)(j:Hx (a6 N=E))(r:Hx (dh N=(O,L,l))):() 61 #[.agg #[(A,n,c),(B,m,d)]] w (aD w (.tuple #[l,E])):=by
 have F:=@aa;have G:=@aP
 go_in
 go_wp2_with (go_at_call 72;(with_reducible refine(qb b hs j r).mono ?_);rintro e u ⟨AO,cO,AL,cL,I,rfl,y,z,C,D,J,K⟩)
 go_ret2;exact bq
def FV[a:aQ w A n B m N](hf:Hx N.fits)(hs:Hx N.small){b:Bool}(HB:Hx (chainB N=b)):() 196 #[.agg #[(A,n,c),(B,m,d)]] w (aD w (.bool b)):=by
 obtain⟨CB,CP,FB⟩:=ha;have HM:Hx (m=N.nodes):=a.len;have hm:m<=1000:=by rw[HM.o];exact hs.o.1
 obtain⟨⟨O,L,l⟩,hV⟩:=lh (dh N);obtain⟨E,hE⟩:=lh (a6 N);have y:=HB.o;rw[chainB,hE]at y;have T:=ae hE;have HV:=ae hV;clear hE
 go_in
 by_cases Q:E=0
 .subst Q;rw[ah rfl]at y;have hO:d7 N=O:=by have h:=hV;rw[dh,T.o,ah rfl]at h;exact(en h).1
  rw[hO]at y;have r:eE N O:=hO▸n7 _ _ eE.nil;have U:Hx (∀id∈O,1<=id/\id<=m):=ae λid hid=>by have:=bn.1 (r.ids id hid);rw[<-HM.o]at this;exact this
  have hOl:O.length<=1000:=by have:=r.len;have:=hs.o.1;omega
  have F:=ae y;clear y hO r hV
  go_wp2_with (go_at_call 72;(with_reducible refine(qb hf hs T HV).mono ?_);rintro e u ⟨AO,cO,AL,cL,sL,rfl,G,V,X,Y,pL,fL⟩)
  have sO:Sl _ AO O O:=⟨G.rd,rfl⟩;refine aw (λx _ _=>?_);go_loopw [5,19] (λs i wr=>∃(j:Nat) (C:Int),j<=O/\i=.int .i64 j/\s=.int .i64 C/\Hx (qc N C (O.drop j)=b)/\aj wr x) (λ_ i _=>O.length-(intOf i).toNat)
  .exact⟨0,0,aT _,rfl,rfl,F,⟨aY _ _⟩⟩
  ·
   clear F;obtain⟨j,C,hj,rfl,rfl,Z,hp⟩:=hrel;have sW:Sl wr AO O O:=ao;by_cases bK:j<O
   .obtain⟨b9,q9,id,rfl,QT,v9,J⟩:=sW.get bK;obtain⟨Dw,Dx⟩:=U.o id (aC J.o);obtain⟨t,ht⟩:=cf (show 0<=id-1 by omega);obtain rfl:id=(t:Int)+1:=by omega
    have xR:t<m:=om;have w2:(t:Int)+1-1=t:=by omega
    obtain⟨b0,q0,o,A1,n1,c1,I,ni,ci,ins,P,np,cp,ps,rfl,ob,⟨v0,v1,v2,v3,v4,v5,v6,v7,v8,IV⟩,s1,R,sp,l1,li,lp,ik,K⟩:=a.node xR;have vp:ni<=1000:=by have:=hs.o.2 _ (aC K.o);rw[R.len];exact this
    have D:Hx ((if ins=[C]then qc N ((t:Int)+1) (O.drop (j+1))else false)=b):=ae (by
     have h:=Z.o;obtain⟨M,h2⟩:=a5.1 J.o;rw[ei M,h2,qc,bG,show((t:Int)+1-1).toNat=t from om,K.o]at h;exact h)
    clear ht Dw Dx Z;by_cases M:ni=1
    .subst M;obtain⟨z,rfl⟩:∃z,ins=[z]:=List.length_eq_one_iff.1 R.len.symm;obtain⟨b2,q2,z',rfl,jf,vz,ez⟩:=R.get (p5 0);obtain rfl:z=z':=by have:=ez.o;simpa using this
     rw[gE]at vz;by_cases S:z=C
     .subst S;have HD2:Hx (qc N ((t:Int)+1) (O.drop (j+1))=b):=ae (by have:=D.o;rwa[ah rfl]at this);clear D
      go_wp2_with fail
      go_roundw
      .exact⟨j+1,_,om,by go_num,rfl,HD2,aK⟩
      .simp[intOf];omega
     .obtain rfl:b=false:=by have:=D.o;rw[ag (by simpa using S)]at this;exact this.symm
      have b0:(z !=C)=true:=by simp[S]
      clear D S
      go_wp2_with fail
      go_ret;exact bq
    .obtain rfl:b=false:=by
      have:=D.o;rw[ag (λe=>M (by rw[R.len,e];rfl))]at this;exact this.symm
     have b0:((ni:Int) !=1)=true:=by simp;omega
     clear D M
     go_wp2_with fail
     go_ret;exact bq
   .obtain rfl:b=true:=by have:=Z.o;rw[ey om]at this;exact this.symm
    have IU:j=O:=om;subst IU
    go_wp2_with fail
    go_ret;exact bq
 .obtain rfl:b=false:=by rw[ag Q]at y;exact y.symm
  have b0:(E !=0)=true:=by simp[Q]
  clear Q hV y
  go_wp2_with (go_at_call 72;(with_reducible refine(qb hf hs T HV).mono ?_);rintro e u ⟨AO,cO,AL,cL,sL,rfl,G,V,X,Y,pL,fL⟩)
  go_ret;exact bq
end
