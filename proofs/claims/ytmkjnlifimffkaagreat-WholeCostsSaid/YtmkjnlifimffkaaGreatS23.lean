/- Lemmas. No condition. -/
import Derived.Test.YtmkjnlifimffkaaGreatS16
import Derived.Test.YtmkjnlifimffkaaGreatS09
namespace Go.Proofs.YtmkjnlifimffkaaGreat
open Go.RowKit
set_option linter.all false
set_option maxRecDepth 100000
set_option maxHeartbeats 16000000
structure dJ where
 o:gP
 ins:List Int
 P:List (List Int)
structure aI where
 inp:List Int
 nodes:List dJ
structure Nd where
 o:gP
 A:Option Addr
 n:Nat
 c:Nat
 I:Option Addr
 ni:Nat
 ci:Nat
 ins:List Int
 P:Option Addr
 np:Nat
 cp:Nat
 ps:List Sp
def Nd.val(x:Nd):dJ:=⟨x.o,x.ins,aJ x.ps⟩
abbrev Gg(o:gP)(S I P:Value):List Value:=[.int .i64 o.kd,.int .i64 o.k,.int .i64 o.wd,.int .i64 o.st,.int .i64 o.sd,.int .i64 o.fr,.int .i64 o.tt,S,I,P]
structure NH(w:World)(b o:Nat)(x:Nd):Prop where
 old:b<w.heap.size
 cs:∀j v,(Gg x.o (.slice x.A x.n x.c) (.slice x.I x.ni x.ci) (.slice x.P x.np x.cp))[j]?=some v->w.cell? ⟨b,o+j,none⟩=some v
 s:Sl w x.A x.n x.o.S
 i:Sl w x.I x.ni x.ins
 p:dA w x.P x.np x.ps
 ls:x.n<=x.c
 li:x.ni<=x.ci
 lp:x.np<=x.cp
 k6:aR x.o.k
theorem NH.below{w w':World}{b o:Nat}{x:Nd}(h:NH w b o x)(hb:Below w.heap.size w w'):NH w' b o x:=
 ⟨bV h.old hb.size,fun j v e=>(hb.cell (p:=⟨b,o+j,none⟩) h.old).trans (h.cs j v e),⟨h.s.rd.below hb,h.s.len⟩,⟨h.i.rd.below hb,h.i.len⟩,⟨h.p.rd.below hb,h.p.len⟩,h.ls,h.li,h.lp,h.k6⟩
def aar(w:World)(A:Option Addr)(xs:List Nd):Prop:=∀j x,xs[j]?=some x->∃b o,A=some ⟨b,o,none⟩/\NH w b (o+j*10) x
class aX(w:World)(A:Option Addr)(n:Nat)(B:Option Addr)(m:Nat)(N:outParam aI):Prop where
 inp:Sl w A n N.inp
 SQ:∃xs,aar w B xs/\xs.map Nd.val=N.nodes
 len:m=N.nodes.length
section
variable{w w':World}{A B:Option Addr}{n m c d:Nat}{N:aI}
instance(priority:=low) aX.step[p:ak w' w][h:aX w A n B m N]:aX w' A n B m N:=
 ⟨⟨h.inp.rd.below p.st,h.inp.len⟩,by
  obtain⟨xs,l,r⟩:=h.SQ;exact⟨xs,fun j x u=>by obtain⟨b,o,e,k⟩:=l j x u;exact⟨b,o,e,k.below p.st⟩,r⟩,h.len⟩
theorem aX.node(h:aX w A n B m N){k:Nat}(u:k<m):∃b q o e n1 c1 I ni ci ins P np cp ps,B=some ⟨b,q,none⟩/\Old b w/\
  (w.cell? ⟨b,q+k*10,none⟩=some (.int .i64 o.kd)/\w.cell? ⟨b,q+k*10+1,none⟩=some (.int .i64 o.k)/\w.cell? ⟨b,q+k*10+2,none⟩=some (.int .i64 o.wd)/\w.cell? ⟨b,q+k*10+3,none⟩=some (.int .i64 o.st)/\w.cell? ⟨b,q+k*10+4,none⟩=some (.int .i64 o.sd)/\
   w.cell? ⟨b,q+k*10+5,none⟩=some (.int .i64 o.fr)/\w.cell? ⟨b,q+k*10+6,none⟩=some (.int .i64 o.tt)/\w.cell? ⟨b,q+k*10+7,none⟩=some (.slice e n1 c1)/\w.cell? ⟨b,q+k*10+8,none⟩=some (.slice I ni ci)/\w.cell? ⟨b,q+k*10+9,none⟩=some (.slice P np cp))/\
  Sl w e n1 o.S/\Sl w I ni ins/\dA w P np ps/\Le n1 c1/\Le ni ci/\Le np cp/\I6 o.k/\Hid (N.nodes[k]?=some ⟨o,ins,aJ ps⟩):=by
 obtain⟨xs,r,j⟩:=h.SQ;have l:k<xs.length:=by have:=eD List.length j;rw[dF,<-h.len]at this;omega
 obtain⟨b,q,rfl,t⟩:=r k _ (aW l);refine⟨b,q,xs[k].o,xs[k].A,xs[k].n,xs[k].c,xs[k].I,xs[k].ni,xs[k].ci,xs[k].ins,xs[k].P,xs[k].np,xs[k].cp,xs[k].ps,rfl,⟨t.old⟩,⟨t.cs 0 _ rfl,t.cs 1 _ rfl,t.cs 2 _ rfl,t.cs 3 _ rfl,t.cs 4 _ rfl,t.cs 5 _ rfl,t.cs 6 _ rfl,t.cs 7 _ rfl,t.cs 8 _ rfl,t.cs 9 _ rfl⟩,t.s,t.i,t.p,⟨t.ls⟩,⟨t.li⟩,⟨t.lp⟩,⟨t.k6⟩,ae ?_⟩;rw[<-j,dE,aW l];rfl
end
def dL(L:List Bool):Array Value:=(L.map Value.bool).toArray
theorem iN{L:List Bool}{j:Nat}{v:Bool}(h:L[j]?=some v):(dL L)[j]?=some (.bool v):=by simp[dL,h]
theorem Ec(L:List Bool)(j:Nat)(v:Bool):(dL L).setIfInBounds j (.bool v)=dL (L.set j v):=by simp[dL,Pn,Bw]
theorem alB(n:Nat):madeCells #[.bool false] n=dL (List.replicate n false):=by
 apply Di;rw[Ps];simp[dL]
def oq(N:aI)(i j:Nat)(id:Nat):Bool:=(N.nodes.take i).any (fun v=>v.ins.contains (id:Int))||(((N.nodes[i]?.map (·.ins)).getD []).take j).contains (id:Int)
def ou(N:aI)(i j:Nat):List Bool:=(List.range (N.nodes.length+1)).map (oq N i j)
def aI.iR(N:aI):Prop:=∀v∈N.nodes,∀id∈v.ins,0<=id/\id<=N.nodes.length
def aI.fits(N:aI):Prop:=N.nodes.length<=100000/\N.inp.length<=100000/\∀v∈N.nodes,v.ins.length<=100000/\v.o.S.length<=100000/\v.P.length<=100000/\∀z∈v.P,z.length<=100000
def uX(N:aI):List Nat:=(List.range (N.nodes.length+1)).filter fun id=>!oq N N.nodes.length 0 id
def iH(N:aI):Int:=((uX N).getLastD 0:Nat)
def zl(N:aI):Bool:=decide ((uX N).length=1)&&decide (iH N≠0)
section
variable{N:aI}
theorem SS(i j:Nat):(ou N i j).length=N.nodes.length+1:=by simp[ou]
theorem alC:ou N 0 0=List.replicate (N.nodes.length+1) false:=by
 rw[Ls];refine⟨SS 0 0,fun b hb=>?_⟩;obtain⟨id,_,rfl⟩:=dG.1 hb;simp[oq]
theorem alD{i j k:Nat}{v:dJ}(hv:N.nodes[i]?=some v)(m:v.ins[j]?=some (k:Int)):(ou N i j).set k true=ou N i (j+1):=by
 apply pE;intro q;rw[nQ];have hq:∀q,(ou N i j)[q]?=if q<N.nodes.length+1 then some (oq N i j q)else none:=fun q=>by
  rw[ou,dE];by_cases h:q<N.nodes.length+1
  ·rw[xc h,if_pos h];rfl
  ·rw[mE (by simpa using h),if_neg h];rfl
 have l:(ou N i (j+1))[q]?=if q<N.nodes.length+1 then some (oq N i (j+1) q)else none:=by
  rw[ou,dE];by_cases h:q<N.nodes.length+1
  ·rw[xc h,if_pos h];rfl
  ·rw[mE (by simpa using h),if_neg h];rfl
 have e:∀q,oq N i (j+1) q=(oq N i j q||decide (q=k)):=fun q=>by
  unfold oq;rw[hv];simp only[PX,E9];rw[vO,m,List.contains_append,<-Bool.or_assoc];congr 1;simp;omega
 rw[l,SS,e];by_cases h:k=q
 ·subst h;rw[if_pos rfl];by_cases b:k<N.nodes.length+1
  ·rw[if_pos b,if_pos b];simp
  ·rw[if_neg b,if_neg b]
 ·rw[if_neg h,hq];have:decide (q=k)=false:=by simp;omega
  rw[this,Ia]
theorem alE{i:Nat}{v:dJ}(hv:N.nodes[i]?=some v):ou N i v.ins.length=ou N (i+1) 0:=by
 unfold ou;refine oZ fun q _=>?_;unfold oq;rw[hv,vO,hv];simp
end
section
variable{w w':World}{A B:Option Addr}{n m c d:Nat}{N:aI}
theorem NI(k:Nat)(j:k<=1000000)(W:World):(Instr.makeSlice 106 (.int .i64 (k:Int)) (.int .i64 (k:Int))).run Tryz.prog W=.ok (.slice W.heap.size k k) (W.alloc (.cells (dL (List.replicate k false)) 4)):=by
 obtain⟨i,hi,b⟩:=bN.1 (show(Tryz.prog.info? 4).map (fun i=>(i.zero,i.size,i.bytes))=some (some (.bool false),1,1)from by kernel_rfl);simp only[jZ]at b;obtain⟨e,hs,hb⟩:=b;have:=zT (P:=Tryz.prog) W 106 4 i _ Tryz.underlying106 hi e .i64 .i64 k k om (jg _) (by rw[hs];simp;omega) (by rw[hb];simp;omega);rw[hs]at this;rw[<-alB];simpa[Value.cells]using this om
def wE(N:aI)(k j:Nat):List Nat:=(List.range j).filter fun id=>!oq N k 0 id
theorem alF{k j:Nat}(h:oq N k 0 j=false):wE N k (j+1)=wE N k j++[j]:=by
 unfold wE;rw[vM,Lx];simp[h]
theorem alG{k j:Nat}(h:oq N k 0 j=true):wE N k (j+1)=wE N k j:=by
 unfold wE;rw[vM,Lx];simp[h]
theorem aas[a:aX w A n B m N](T:Hid N.fits)(hr:Hid N.iR){l:Int}{b:Bool}(K:Hid (iH N=l/\zl N=b)):Calls Tryz.prog 123 #[.agg #[.slice A n c,.slice B m d]] w (aM w (.tuple #[l,.bool b])):=by
 obtain⟨CB,CP,FB⟩:=iK;have E:Hid (m=N.nodes.length):=ae a.len;have hm:m<=100000:=by rw[E.out];exact T.out.1
 have L:∀W:World,(Instr.makeSlice 106 (.int .i64 ((m:Int)+1)) (.int .i64 ((m:Int)+1))).run Tryz.prog W=.ok (.slice (some ⟨W.heap.size,0,none⟩) (m+1) (m+1)) (W.alloc (.cells (dL (List.replicate (m+1) false)) 4)):=fun W=>by
  have h:=NI (m+1) om W;rwa[mF]at h
 go_enter Tryz.func123,Tryz.ntmps123
 go_wp2_with fail
 obtain⟨v,hv⟩:=lg ((w.alloc (.cells #[.slice A n c,.slice B m d] 33)).alloc (.cells (dL (List.replicate (m+1) false)) 4));have pv:ak v w:=hv▸ai _ _;have kN:Bx v w.heap.size 33 #[.slice A n c,.slice B m d]:=hv▸iin;have kU:aD v (w.heap.size+1) 4 (dL (ou N 0 0)):=by rw[alC,<-E.out,hv];exact(iin:Bx _ (w.heap.size+1) _ _).blk
 rw[<-hv];clear L hv;go_loopw [21] (fun i wr=>∃k:Nat,k<=m/\i=.int .i64 k/\aD wr (w.heap.size+1) 4 (dL (ou N k 0))/\ak wr w) (fun i _=>m-(intOf i).toNat)
 case atStart=>exact⟨0,aS _,rfl,kU,pv⟩
 case round=>
  obtain⟨k,hk,rfl,y,hp⟩:=hrel;by_cases M:k<m
  ·obtain⟨b0,q0,o,A1,n1,c1,I,ni,ci,ins,P,np,cp,ps,rfl,ob,⟨v0,v1,v2,v3,v4,v5,v6,v7,v8,v9⟩,s1,O,sp,l1,li,lp,ik,u⟩:=a.node M;have hni:ni<=100000:=by have:=(T.out.2.2 _ (aK u.out)).1;rw[O.len];exact this
   have HI:Hid (ni=ins.length):=ae O.len
   go_wp2_with fail
   obtain⟨x,Q⟩:=lg (wr.alloc (.cells #[o.kd,o.k,o.wd,o.st,o.sd,o.fr,o.tt,.slice A1 n1 c1,.slice I ni ci,.slice P np cp] 84));have px:ak x wr:=Q▸ak.alloc _ _;have R:=y.at (w':=x);rw[<-Q];clear Q y;go_loopw [28] (fun i U=>∃j:Nat,j<=ni/\i=.int .i64 j/\aD U (w.heap.size+1) 4 (dL (ou N k j))/\ak U w) (fun i _=>ni-(intOf i).toNat)
   case atStart=>exact⟨0,aS _,rfl,R,ai _ _⟩
   case round=>
    obtain⟨j,hj,rfl,e,hpy⟩:=hrel;by_cases C:j<ni
    ·obtain⟨b2,q2,z,rfl,jT,vz,V⟩:=O.get C;have S:=hr.out _ (aK u.out) z (aK V.out);rw[<-E.out]at S;obtain⟨q,rfl⟩:=eF S.1;have hq:q<m+1:=om;have G:=e.cell q;rw[iN (aW (by rw[SS,<-E.out];exact hq))]at G;have hfr:=e.frozen q;have hK:=e.aF q (.bool true);rw[Ec,alD u.out V.out]at hK;have HK:=ae hK;clear hK S
     go_wp2_with fail
     go_roundw
     case rel=>exact⟨j+1,om,by go_num,HK.out,⟨(aL w wr).setCell (p:=⟨w.heap.size+1,q,none⟩) (fu _) _⟩⟩
     case measure=>simp[intOf];omega
    ·obtain rfl:j=ni:=om;rw[HI.out,alE u.out]at e
     go_wp2_with fail
     go_roundw
     case rel=>exact⟨k+1,om,by go_num,e,ai _ _⟩
     case measure=>simp[intOf];omega
  ·obtain rfl:k=m:=om
   go_wp2_with fail
   have X:∀q,q<k+1->(dL (ou N k 0))[q]?=some (.bool (oq N k 0 q)):=fun q hq=>iN (by rw[ou,dE,xc (by rw[<-E.out];exact hq)];rfl);have HQ:=ae X;clear X;go_loopw [9,10,39] (fun s t i wr=>∃j:Nat,j<=k+1/\i=.int .i64 j/\s=.int .i64 ((wE N k j).getLastD 0:Nat)/\t=.int .i64 ((wE N k j).length:Nat)/\aD wr (w.heap.size+1) 4 (dL (ou N k 0))/\ak wr w) (fun _ _ i _=>k+1-(intOf i).toNat)
   case atStart=>exact⟨0,aS _,rfl,rfl,rfl,y,hp⟩
   case round=>
    obtain⟨j,hj,rfl,rfl,rfl,r,hp'⟩:=hrel;by_cases C:j<k+1
    ·have G:=(r.cell j).trans (HQ.out j C);have hj2:(j:Int)<(k:Int)+1:=by omega
     rcases hb:oq N k 0 j with _|_
     ·have F:=ae (alF hb);rw[hb]at G;have hll:(wE N k j).length<=j:=by unfold wE;exact aZ (List.length_filter_le _ _) au
      clear hb
      go_wp2_with fail
      go_roundw
      case rel=>exact⟨j+1,om,by go_num,by rw[F.out];simp,by rw[F.out];simp,r,ai _ _⟩
      case measure=>simp[intOf];omega
     ·have F:=ae (alG hb);rw[hb]at G;clear hb
      go_wp2_with fail
      go_roundw
      case rel=>exact⟨j+1,om,by go_num,by rw[F.out],by rw[F.out],r,ai _ _⟩
      case measure=>simp[intOf];omega
    ·obtain rfl:j=k+1:=om;have hu:wE N k (k+1)=uX N:=by unfold wE uX;rw[<-E.out]
     rw[hu];obtain⟨J,D⟩:=lh ((uX N).length);have hL:(((uX N).getLastD 0:Nat):Int)=l:=K.out.1;have Y:(decide (J=1)&&decide (l≠0))=b:=by rw[<-K.out.2,zl,D,K.out.1]
     rw[D,hL];have Z:=ae Y;clear D hL Y hu;by_cases c1:J=1
     ·have d1:((J:Int)==1)=true:=by simp[c1]
      have HC:=ae c1;clear c1
      go_wp2_with fail
      go_ret2;exact⟨by rw[<-Z.out,l8 HC.out];by_cases h:l=0<;>simp[h],ai _ _⟩
     ·have d1:((J:Int)==1)=false:=by simp;omega
      obtain rfl:b=false:=by rw[<-Z.out,nC c1];rfl
      clear c1
      go_wp2_with fail
      go_ret2;exact⟨rfl,ai _ _⟩
end
def fP(ss:List Sp):Array Value:=(ss.map fun x=>Value.slice x.A x.m x.c).toArray
structure nJ(w:World)(g:Nat)(ss:List Sp):Prop where
 blk:aD w g 25 (fP ss)
 el:∀x∈ss,Rd w x.A x.zs/\x.m=x.zs.length/\x.m<=x.c/\bn (g+1) x.A
def iO(v:dJ)(L:List (List Int)):List (List Int):=v.ins.map fun i=>L.getD i.toNat []
def jO(N:aI):List Int->List (List Int)->Int×List (List Int)
 |[],L=>(0,L)
 |id::r,L=>
  match N.nodes[(id-1).toNat]? with
  |none=>(0,L)
  |some v=>if iw v.o v.P (iO v L)=0 then jO N r (L.set id.toNat (dZ v.o v.P (iO v L)))else(iw v.o v.P (iO v L),[])
def qc(N:aI):List (List Int):=N.inp::List.replicate N.nodes.length []
structure uY(B:Nat)(A:Option Addr)(ss:List Sp):Prop where
 hd:bn B A
 el:∀x∈ss,bn B x.A
theorem uY.no{B:Nat}:uY B none []:=⟨bn.none,fun x b=>absurd b au⟩
theorem uY.less{B B':Nat}{A:Option Addr}{ss:List Sp}(h:uY B A ss)(b:B'<=B):uY B' A ss:=⟨h.hd.less b,fun x e=>(h.el x e).less b⟩
theorem dA.setCell{w:World}{B n:Nat}{A:Option Addr}{ss:List Sp}{p:Addr}(h:dA w A n ss)(f:uY B A ss)(hp:p.block<B)(v:Value):dA (w.setCell p v) A n ss:=
 ⟨fun j x l=>by
  obtain⟨b,o,rfl,hb,u,y,r,z⟩:=h.rd j x l;have e:b≠p.block:=by have:=f.hd.out _ rfl;simp at this;omega
  exact⟨b,o,rfl,by simpa using hb,(jG (dM w p v b e)).trans u,((⟨y,r⟩:Sl w x.A x.m x.zs).setCell (f.el x (aK l)) hp v).rd,r,z⟩,h.len⟩
def aat(w:World)(L:List (List Int))(E:Int)(e:Ending)(w':World):Prop:=∃A c ss,e=.returned (.tuple #[.slice A L.length c,E])/\dA w' A L.length ss/\Le L.length c/\Hid (aJ ss=L)/\ak w' w/\uY w.heap.size A ss
section
variable{w w':World}{A B C:Option Addr}{n m c d k g:Nat}{N:aI}{ss:List Sp}{x:Sp}{L:List (List Int)}{ord:List Int}
theorem zm{j:Nat}(h:ss[j]?=some x):(fP ss)[j]?=some (.slice x.A x.m x.c):=by simp[fP,h]
theorem SY(j:Nat):(fP ss).setIfInBounds j (.slice x.A x.m x.c)=fP (ss.set j x):=by simp[fP,Pn,Bw]
theorem aau(j:Nat):aJ (ss.set j x)=(aJ ss).set j x.zs:=by simp[aJ,Bw]
def fD:Sp:=⟨none,0,0,[]⟩
theorem aav(n:Nat):madeCells #[.slice none 0 0] n=fP (List.replicate n fD):=by
 apply Di;rw[Ps];simp[fP,fD]
theorem NJ(k:Nat)(j:k<=1000000)(W:World):(Instr.makeSlice 82 (.int .i64 (k:Int)) (.int .i64 (k:Int))).run Tryz.prog W=.ok (.slice W.heap.size k k) (W.alloc (.cells (fP (List.replicate k fD)) 25)):=by
 obtain⟨i,hi,b⟩:=bN.1 (show(Tryz.prog.info? 25).map (fun i=>(i.zero,i.size,i.bytes))=some (some (.slice none 0 0),1,24)from by kernel_rfl);simp only[jZ]at b;obtain⟨e,hs,hb⟩:=b;have:=zT (P:=Tryz.prog) W 82 25 i _ Tryz.underlying82 hi e .i64 .i64 k k om (jg _) (by rw[hs];simp;omega) (by rw[hb];simp;omega);rw[hs]at this;rw[<-aav];simpa[Value.cells]using this om
theorem nJ.at(h:nJ w g ss)[l:Later w w']:nJ w' g ss:=⟨h.blk.at,fun x b=>⟨(h.el x b).1.below l.st,(h.el x b).2⟩⟩
theorem nJ.new(hg:aD w g 25 (fP (List.replicate k fD))):nJ w g (List.replicate k fD):=⟨hg,fun x b=>by rw[su b];exact⟨Rd.nil _ _,rfl,az _,bn.none⟩⟩
theorem nJ.aF(h:nJ w g ss)(j:Nat)(hr:Rd w x.A x.zs)(hm:x.m=x.zs.length)(r:x.m<=x.c)(e:bn (g+1) x.A):nJ (w.setCell ⟨g,j,none⟩ (.slice x.A x.m x.c)) g (ss.set j x):=by
 have far:∀{A:Option Addr} {zs:List Int},Rd w A zs->bn (g+1) A->Rd (w.setCell ⟨g,j,none⟩ (.slice x.A x.m x.c)) A zs:=fun{A zs} hr e=>
  ((⟨hr,rfl⟩:Sl w A zs.length zs).setCell (p:=⟨g,j,none⟩) e (Hy g) _).rd
 refine⟨by rw[<-SY];exact h.blk.aF _ _,fun y l=>?_⟩;rcases Hd l with l|rfl
 ·obtain⟨a,b,c,d⟩:=h.el y l;exact⟨far a d,b,c,d⟩
 ·exact⟨far hr e,hm,r,e⟩
theorem nJ.Gh(h:nJ w g ss):dA w (some ⟨g,0,none⟩) ss.length ss:=
 ⟨fun j x b=>⟨g,0,rfl,h.blk.lt,by rw[fo,h.blk.cell,zm b],(h.el x (aK b)).1,(h.el x (aK b)).2.1,(h.el x (aK b)).2.2.1⟩,rfl⟩
theorem aaw(ts:List Sp){n j:Nat}(b:ts.length=j)(h:j<n):(fP (ts++List.replicate (n-j) fD)).setIfInBounds j (.slice x.A x.m x.c)=fP ((ts++[x])++List.replicate (n-(j+1)) fD):=by
 rw[SY,show n-j=(n-(j+1))+1 from om,uo,yA _ _ om,b,l9,yC];simp
theorem bI{Q:World->Prop}{X:World}{T:TypeId}{cs:Array Value}(h:∀u,ak u X->Bx u X.heap.size T cs->Q u):Q (X.alloc (.cells cs T)):=h _ (ai _ _) iin
theorem qd{Q:World->Prop}{X:World}{T T':TypeId}{cs b:Array Value}(h:∀u,ak u X->Bx u X.heap.size T cs->Bx u (X.heap.size+1) T' b->Q u):Q ((X.alloc (.cells cs T)).alloc (.cells b T')):=h _ (ai _ _) iin iin
theorem NK{Q:World->Prop}{X:World}{T T':TypeId}{cs b:Array Value}(h:∀e u,ak e X->ak u e->Bx e X.heap.size T cs->e.heap.size<=X.heap.size+1->Bx u (X.heap.size+1) T' b->Q u):Q ((X.alloc (.cells cs T)).alloc (.cells b T')):=
 h (X.alloc (.cells cs T)) _ (ai _ _) (ai _ _) iin au iin
theorem alH[a:aX w A n B m N](Q:Hid N.fits)(hr:Hid N.iR)[so:Sl w C k ord](hk:k<=100000)(ho:Hid (∀id∈ord,1<=id/\id<=m)){L:List (List Int)}{E:Int}(hL:Hid (jO N ord (qc N)=(E,L))):
  Calls Tryz.prog 122 #[.agg #[.slice A n c,.slice B m d],.slice C k g] w (aat w L E):=by
 obtain⟨CB,CP,FB⟩:=iK;have HM:Hid (m=N.nodes.length):=ae a.len;have hm:m<=100000:=by rw[HM.out];exact Q.out.1
 have sI:=a.inp;have hn:n<=100000:=by rw[sI.len];exact Q.out.2.1
 have hmk:∀W:World,(Instr.makeSlice 82 (.int .i64 ((m:Int)+1)) (.int .i64 ((m:Int)+1))).run Tryz.prog W=.ok (.slice (some ⟨W.heap.size,0,none⟩) (m+1) (m+1)) (W.alloc (.cells (fP (List.replicate (m+1) fD)) 25)):=fun W=>by
  have h:=NJ (m+1) om W;rwa[mF]at h
 have HK:Hid (k=ord.length):=ae so.len;go_enter Tryz.func122,Tryz.ntmps122
 go_upto_region 1 with fail
 refine bI (fun b _ k0=>?_)
 go_wp2_with (first|(first|(go_at_call 103;(with_reducible refine(IJ om).mono ?_);rintro e u ⟨gS,rfl,sS,fS,_⟩)))
 obtain⟨v,hv⟩:=lg (u.setCell ⟨b.heap.size,0,none⟩ (.slice gS N.inp.length N.inp.length));have V:nJ u b.heap.size (List.replicate (m+1) fD):=nJ.new (Bx.blk (w:=u) (g:=b.heap.size));have R:=V.aF (x:=⟨some ⟨gS,0,none⟩,N.inp.length,N.inp.length,N.inp⟩) 0 sS.rd rfl (az _) (fS.less (Bx.blk (g:=b.heap.size)).lt);have pv:ak v b:=⟨hv▸(aL b u).setCell (p:=⟨b.heap.size,0,none⟩) (az _) _⟩;rw[<-hv]at R⊢;have X:nJ v b.heap.size (⟨some ⟨gS,0,none⟩,N.inp.length,N.inp.length,N.inp⟩::List.replicate m fD):=R;have Y:aJ (⟨some ⟨gS,0,none⟩,N.inp.length,N.inp.length,N.inp⟩::List.replicate m fD)=qc N:=by simp[aJ,qc,HM.out,fD]
 have Z:∀z∈qc N,z.length<=100000:=fun z F=>by
  rcases dz.1 F with rfl|F
  ·exact Q.out.2.1
  ·rw[su F];simp
 have Gi:=ae Z;have HZ0:=ae Y;clear V R hv hmk Y Z sS fS;go_loopw [27] (fun i wr=>∃(j:Nat) (ss:List Sp),j<=k/\i=.int .i64 j/\Hid (ss.length=m+1)/\nJ wr b.heap.size ss/\Hid (jO N (ord.drop j) (aJ ss)=(E,L))/\Hid (∀z∈aJ ss,z.length<=100000)/\ak wr b) (fun i _=>k-(intOf i).toNat)
 case atStart=>exact⟨0,_,aS _,rfl,ae au,X,by rw[HZ0.out];exact hL,by rw[HZ0.out];exact Gi,pv⟩
 case round=>
  clear X pv;obtain⟨j,ss,U,rfl,G,S,HLJ,Cm,hp⟩:=hrel;by_cases hlt:j<k
  ·obtain⟨b9,q9,id,rfl,Jr,v9,xQ⟩:=so.get hlt;obtain⟨Aw,Ay⟩:=ho.out id (aK xQ.out);obtain⟨t,ht⟩:=eF (show 0<=id-1 by omega);obtain rfl:id=(t:Int)+1:=by omega
   have xR:t<m:=om;have w2:(t:Int)+1-1=t:=by omega
   obtain⟨b0,q0,o,A1,n1,c1,I,ni,ci,ins,P,np,cp,ps,rfl,ob,⟨v0,v1,v2,v3,v4,v5,v6,v7,v8,Ed⟩,s1,si,sp,l1,li,lp,ik,r⟩:=a.node xR;have hni:ni<=100000:=by have:=(Q.out.2.2 _ (aK r.out)).1;rw[si.len];exact this
   have HI:Hid (ni=ins.length):=ae si.len;have Js:=NJ ni om;clear ht Aw Ay
   go_wp2_with fail
   obtain⟨v1,rfl⟩:=lg wr;refine NK (fun x0 x _ _ kx hzx O=>?_);have hSx:=S.at (w':=x0);have T:Hid (∀(q:Nat) (z:Int),ins[q]?=some z->ins.take (q+1)=ins.take q++[z]):=ae fun q z h=>take_at h;go_loopw [44] (fun i wy=>∃(q:Nat) (ts:List Sp),q<=ni/\i=.int .i64 q/\Hid (ts.length=q/\aJ ts=(ins.take q).map fun i=>(aJ ss).getD i.toNat [])/\aD wy (v1.heap.size+1) 25 (fP (ts++List.replicate (ni-q) fD))/\Hid (∀y∈ts,y∈ss)/\ak wy x0) (fun i _=>ni-(intOf i).toNat)
   case atStart=>exact⟨0,[],aS _,rfl,ae ⟨rfl,rfl⟩,by simpa using O.blk,ae au,ai _ _⟩
   case round=>
    clear O;obtain⟨q,ts,hq,rfl,l,O,J,hp2⟩:=hrel;have D:=hSx.at (w':=wr);by_cases Ee:q<ni
    ·obtain⟨b2,q2,z,rfl,jT,vz,ez⟩:=si.get Ee;have F:=hr.out _ (aK r.out) z (aK ez.out);rw[<-HM.out]at F;obtain⟨y,rfl⟩:=eF F.1;have hy:y<m+1:=om;obtain⟨⟨A3,m3,c3,z3⟩,he⟩:∃e0,ss[y]?=some e0:=⟨_,aW (by rw[G.out];exact hy)⟩;have hc1:=(D.blk.cell y).trans (zm he);have hc2:=O.cell q;rw[show(fP (ts++List.replicate (ni-q) fD))[q]?=some (.slice none 0 0)from by
      rw[zm (x:=fD)]
      ·rfl
      ·rw[lC (by rw[l.out.1];exact az _),l.out.1,l9,sj,if_pos om]]at hc2
     have hfr:=O.frozen q;have hK:=O.aF q (.slice A3 m3 c3);rw[aaw (x:=⟨A3,m3,c3,z3⟩) ts l.out.1 Ee]at hK;have lN:=ae hK;have HT2:Hid ((ts++[(⟨A3,m3,c3,z3⟩:Sp)]).length=q+1/\aJ (ts++[(⟨A3,m3,c3,z3⟩:Sp)])=(ins.take (q+1)).map fun i=>(aJ ss).getD i.toNat []):=ae (by
      refine⟨by simp[l.out.1],?_⟩;rw[T.out q _ ez.out,gV,<-l.out.2];simp only[aJ,gV,fe,lG];congr 2;rw[dD,aQ,dE,he];rfl)
     have Jt:Hid (∀y∈ts++[(⟨A3,m3,c3,z3⟩:Sp)],y∈ss):=ae fun y hy=>by
      rcases dP.1 hy with h|h
      ·exact J.out y h
      ·rw[gm.1 h];exact aK he
     clear hK F he l J
     go_wp2_with fail
     go_roundw
     case rel=>exact⟨q+1,_,om,by go_num,HT2,lN.out,Jt,⟨(aL x0 wr).setCell (p:=⟨v1.heap.size+1,q,none⟩) hzx _⟩⟩
     case measure=>simp[intOf];omega
    ·obtain rfl:q=ni:=om;have HX:Hid (aJ ts=iO ⟨o,ins,aJ ps⟩ (aJ ss)):=ae (by rw[l.out.2,HI.out,jq];rfl);have xT:dA wr (some ⟨v1.heap.size+1,0,none⟩) q ts:=⟨fun j x U=>by
      obtain⟨h1,h2,h3,_⟩:=D.el x (J.out x (aK U));exact⟨v1.heap.size+1,0,rfl,O.lt,by rw[fo,O.cell,zm (x:=x) (by rw[Bn (aY.1 U).1];exact U)],h1,h2,h3⟩,l.out.1.symm⟩
     have hzz:Hid (∀z∈aJ ps++aJ ts,z.length<=1000000):=ae fun z F=>by
      rcases dP.1 F with h|h
      ·have:=(Q.out.2.2 _ (aK r.out)).2.2.2 z h;omega
      ·obtain⟨y,hy,rfl⟩:=dG.1 h;have:=Cm.out y.zs (dG.2 ⟨y,J.out y hy,rfl⟩);omega
     have NL:np<=100000:=by have:=(Q.out.2.2 _ (aK r.out)).2.2.1;rw[jM]at this;rw[sp.len];exact this
     have hn1:n1<=100000:=by have:=(Q.out.2.2 _ (aK r.out)).2.1;rw[s1.len];exact this
     obtain⟨V1,K⟩:=jS (dZ o (aJ ps) (aJ ts));obtain⟨E1,M⟩:=jS (iw o (aJ ps) (aJ ts));have HD:Hid (ord.drop j=((t:Int)+1)::ord.drop (j+1)):=ae (by
      obtain⟨h1,h2⟩:=aY.1 xQ.out;rw[<-h2];exact jE h1)
     have HS:Hid ((if E1=0 then jO N (ord.drop (j+1)) ((aJ ss).set (t+1) V1)else(E1,[]))=(E,L)):=ae (by
      have h:=HLJ.out;rw[HD.out,jO,show((t:Int)+1-1).toNat=t from om,r.out]at h;simp only at h;rw[<-HX.out,M.out,K.out,show((t:Int)+1).toNat=t+1 from om]at h;exact h)
     have lt1:t+1<m+1:=om;obtain⟨e5,he5⟩:∃e0,ss[t+1]?=some e0:=⟨_,aW (by rw[G.out];exact lt1)⟩;have hc3:=(D.blk.cell (t+1)).trans (zm he5);have hf3:=D.blk.frozen (t+1);have og:Old b.heap.size wr:=⟨D.blk.lt⟩;have FP:=@Qn;clear he5;by_cases h0:E1=0
     ·subst h0;have HS2:Hid (jO N (ord.drop (j+1)) ((aJ ss).set (t+1) V1)=(E,L)):=HS;have HVl:Hid (∀z∈(aJ ss).set (t+1) V1,z.length<=100000):=ae fun z F=>by
       rcases Hd F with h|rfl
       ·exact Cm.out z h
       ·have:=ry (by rw[<-K.out];exact FW M.out:aU z=true);omega
      have lw:(World.heap b).size+1<=(World.heap wr).size:=og.lt
      go_wp2_with (first|(go_at_call 74;(with_reducible refine(FU om om om (by assumption) K M).mono ?_);rintro e u ⟨A',c',rfl,sJ,lJ,fJ,_⟩))
      have Ju:=(D.at (w':=u)).aF (x:=⟨A',V1.length,c',V1⟩) (t+1) sJ.rd rfl lJ.le (fJ.less lw);go_roundw
      case rel=>exact⟨j+1,_,om,by go_num,ae (by rw[jQ];exact G.out),Ju,by rw[aau];exact HS2,by rw[aau];exact HVl,⟨(aL b u).setCell (p:=⟨b.heap.size,t+1,none⟩) (az _) _⟩⟩
      case measure=>simp[intOf];omega
     ·have b0:(E1 !=0)=true:=by simp[h0]
      obtain⟨rfl,rfl⟩:E1=E/\[]=L:=by have h:=HS.out;rw[if_neg h0]at h;exact nD h
      clear h0
      go_wp2_with (first|(go_at_call 74;(with_reducible refine(FU om om om (by assumption) K M).mono ?_);rintro e u ⟨A',c',rfl,sJ,lJ,fJ,_⟩))
      go_ret2;exact⟨none,0,[],rfl,⟨fun j x U=>by simp at U,rfl⟩,Le.same _,ae rfl,ai _ _,uY.no⟩
  ·have HE:Hid ((0,aJ ss)=(E,L)):=ae (by have h:=HLJ.out;rw[kL (by rw[<-HK.out];omega)]at h;exact h);obtain⟨rfl,rfl⟩:=nD HE.out
   go_wp2_with fail
   go_ret2;have hl:(aJ ss).length=m+1:=by rw[jM,G.out]
   exact⟨some ⟨b.heap.size,0,none⟩,m+1,ss,by rw[hl];rfl,by rw[jM];exact S.Gh,⟨lH hl⟩,ae rfl,ai _ _,⟨fun ad e=>by injection e with e;subst e;exact aH (w:=w) (w':=b)⟩,fun x hx=>(S.el x hx).2.2.2.less (by have:=aH (w:=w) (w':=b);omega)⟩
end
def aI.ids(N:aI):List Int:=(List.range N.nodes.length).map fun(i:Nat)=>(i:Int)+1
def bG(N:aI)(v:Int):List Int:=(N.nodes[(v-1).toNat]?.map (·.ins)).getD []
def mR(N:aI)(D:List Int)(v:Int):Nat:=(bG N v).countP fun z=>z !=0&& !D.contains z
def Gj(N:aI)(id v:Int):Nat:=(bG N v).count id
def zo(N:aI)(D:List Int)(v:Int):Bool:=!D.contains v&&decide (mR N D v=0)
def qL(N:aI)(D:List Int):List Int:=N.ids.filter (zo N D)
def uZ(N:aI)(id:Int):List Int:=N.ids.flatMap fun v=>List.replicate (Gj N id v) v
def tT(N:aI):Nat->List Int->List Int
 |0,D=>D
 |f+1,D=>match qL N D with
  |[]=>D
  |v::_=>tT N f (D++[v])
def iB(N:aI):List Int:=tT N N.nodes.length []
def jk(N:aI)(D U:List Int)(v:Int):Nat:=mR N D v-U.count v
def Ef(N:aI)(D:List Int)(id:Int)(U:List Int)(v:Int):Bool:=!(D++[id]).contains v&&decide (jk N D U v=0)
def nK(N:aI)(D:List Int)(id:Int)(U:List Int):List Int:=N.ids.filter (Ef N D id U)
section
variable{N:aI}{D U L:List Int}{id v y:Int}
theorem dR:v∈N.ids↔1<=v/\v<=N.nodes.length:=by
 unfold aI.ids;rw[dG];constructor
 ·rintro⟨i,hi,rfl⟩;rw[yF]at hi;omega
 ·intro h;exact⟨(v-1).toNat,by rw[yF];omega,om⟩
theorem NM:N.ids.Pairwise (· < ·):=by
 unfold aI.ids;rw[List.pairwise_map];exact List.pairwise_lt_range.imp fun h=>om
theorem S9:∀{D L:List Int},D.Nodup->(∀x∈D,x∈L)->D.length<=L.length
 |[],_,_,_=>aS _
 |x::t,L,h,hs=>by
  rw[pg]at h;have j:=S9 (L:=L.erase x) h.2 fun y b=>(List.mem_erase_of_ne (fun e:y=x=>h.1 (e▸b))).2 (hs y (fI _ b));have:=WH (hs x dN);have hp:0<L.length:=WM (hs x dN);simp;omega
theorem Eg:N.ids.length=N.nodes.length:=by simp[aI.ids]
theorem aaz(D:List Int)(id z:Int):(D++[id]).contains z=(D.contains z||z==id):=by
 rw[H9];simp
theorem Ta(l:id≠0)(m:id∉D):mR N (D++[id]) v+Gj N id v=mR N D v:=by
 unfold mR Gj
 induction bG N v with
 |nil=>rfl
 |cons z t r=>
  rw[List.countP_cons,List.countP_cons,List.count_cons];rw[aaz];by_cases j:z=id
  ·subst j;have b:D.contains z=false:=by simpa using m
   rw[b];simp[l]at r⊢;omega
  ·have e:(z==id)=false:=by simpa using j
   rw[e,Ia];simp only[Bool.false_eq_true,if_false,nA];omega
theorem aaA:∀(L:List Int) (f:Int->Nat),L.Nodup->v∈L->(L.flatMap fun x=>List.replicate (f x) x).count v=f v
 |[],_,_,h=>absurd h au
 |x::t,f,b,h=>by
  rw[pg]at b;rw[sG,Hu,List.count_replicate];by_cases e:x=v
  ·subst e;have:(t.flatMap fun x=>List.replicate (f x) x).count x=0:=List.count_eq_zero.2 fun hm=>by
    obtain⟨y,j,hm⟩:=CX.1 hm;rw[su hm]at b;exact b.1 j
   rw[this];simp
  ·have hv:v∈t:=by rcases dz.1 h with h|h;exact absurd h.symm e;exact h
   rw[aaA t f b.2 hv,if_neg (by simpa using e)];omega
theorem alL:N.ids.Nodup:=NM.imp fun h=>om
theorem aaB(hv:v∈N.ids):(uZ N id).count v=Gj N id v:=aaA _ _ alL hv
theorem alM(h:v∈uZ N id):v∈N.ids/\0<Gj N id v:=by
 obtain⟨x,b,hm⟩:=CX.1 h;have e:=su hm;subst e;exact⟨b,by exact Nat.pos_of_ne_zero fun h=>by rw[h]at hm;simp at hm⟩
theorem aaC(b:id≠0)(e:id∉D)(hv:v∈N.ids):jk N D (uZ N id) v=mR N (D++[id]) v:=by
 rw[jk,aaB hv,<-Ta (N:=N) (v:=v) b e];omega
theorem alN(b:id≠0)(e:id∉D):nK N D id (uZ N id)=qL N (D++[id]):=by
 unfold nK qL;refine Fb fun v hv=>?_;rw[Ef,zo,aaC b e hv]
theorem aaD{p:Int->Bool}:∀{L:List Int} {x:Int} {t:List Int},L.Pairwise (· < ·)->L.filter p=x::t->(L.filter fun v=>p v&&v !=x)=t
 |[],_,_,_,h=>by simp at h
 |z::l,x,t,hs,h=>by
  rw[qy]at hs;by_cases hp:p z=true
  ·rw[Ll hp]at h;injection h with b e
   subst b;rw[EZ au,<-e];exact Fb fun v hv=>by
    have:=hs.1 v hv;have:(v !=z)=true:=by simp;omega
    rw[this,Bool.and_true]
  ·rw[EZ hp]at h;rw[EZ (by simp[hp])];exact aaD hs.2 h
theorem alO{t:List Int}(h:qL N D=id::t):nK N D id []=t:=by
 rw[<-aaD NM h];unfold nK;refine Fb fun v _=>?_;rw[Ef,zo,jk];rw[aaz];simp only[LK,LP,Bool.not_or];rw[show(v !=id)=!(v==id)from rfl];cases D.contains v<;>cases (v==id)<;>simp<;>rfl
theorem aaE{p:Int->Bool}:∀{L:List Int},L.Pairwise (· < ·)->y∈L->p y=false->
  (L.filter fun v=>p v||v==y)=(L.filter p).take ((L.filter p).countP (· <y))++y::(L.filter p).drop ((L.filter p).countP (· <y))
 |[],_,h,_=>absurd h au
 |x::t,hs,r,hp=>by
  rw[qy]at hs;by_cases e:x=y
  ·subst e;rw[Ll au,EZ (by simp[hp])];have u:(t.filter p).countP (· <x)=0:=by
    rw[Lv];intro a z;have:=hs.1 a (Da.1 z).1;simp;omega
   rw[u];simp only[jr,Bo,pF];congr 1;exact Fb fun v hv=>by
    have:=hs.1 v hv;have:(v==x)=false:=by simp;omega
    rw[this,Ia]
  ·have b:y∈t:=by rcases dz.1 r with h|h;exact absurd h.symm e;exact h
   have l:=hs.1 y b;have m:=aaE hs.2 b hp;have ex:(x==y)=false:=by simpa using e
   by_cases j:p x=true
   ·rw[Ll (by simp[j]),Ll j,WK (by simpa using l),m];simp
   ·rw[EZ (by simp[j,ex]),EZ j,m]
theorem Jv(b:U.count y<mR N D y):jk N D (U++[y]) v=if v=y then jk N D U y-1 else jk N D U v:=by
 unfold jk;rw[Hu,PD];by_cases h:v=y
 ·subst h;simp;omega
 ·rw[if_neg h,if_neg (by simpa using fun e:y=v=>h e.symm)];simp
theorem alP(b:U.count y<mR N D y)(h:jk N D U y≠1):nK N D id (U++[y])=nK N D id U:=by
 unfold nK;refine Fb fun v _=>?_;unfold Ef;rw[Jv b];by_cases e:v=y
 ·subst e;have:jk N D U v≠0:=by unfold jk;omega
  rw[if_pos rfl,nC om,nC this]
 ·rw[if_neg e]
theorem alQ(b:U.count y<mR N D y)(h:jk N D U y=1)(j:y∈N.ids)(l:y∉D++[id]):
  nK N D id (U++[y])=(nK N D id U).take ((nK N D id U).countP (· <y))++y::(nK N D id U).drop ((nK N D id U).countP (· <y)):=by
 have hp:Ef N D id U y=false:=by unfold Ef;rw[h];simp
 unfold nK;rw[<-aaE NM j hp];refine Fb fun v _=>?_;unfold Ef;rw[Jv b];by_cases e:v=y
 ·subst e;rw[if_pos rfl,h];simpa using l
 ·rw[if_neg e];have:(v==y)=false:=by simpa using e
  rw[this,Ia]
theorem alR:(nK N D id U).Pairwise (· <= ·):=(NM.imp fun h=>by omega).sublist List.filter_sublist
end
structure Ur where
 A:Option Addr
 c:Nat
 zs:List Int
def ve(US:List Ur):Array Value:=(US.map fun x=>Value.slice x.A x.zs.length x.c).toArray
structure rH(w:World)(B g:Nat)(US:List Ur):Prop where
 blk:aD w g 24 (ve US)
 own:∀x∈US,aG w B 3 x.A x.c x.zs
 mU:∀(i j:Nat) (x y:Ur),US[i]?=some x->US[j]?=some y->i≠j->∀a b,x.A=some a->y.A=some b->a.block≠b.block
def zt:Ur:=⟨none,0,[]⟩
section
variable{w w':World}{B g i:Nat}{US:List Ur}{x:Ur}{A':Option Addr}{c':Nat}{y:Int}{N:aI}
theorem Tc{j:Nat}(h:US[j]?=some x):(ve US)[j]?=some (.slice x.A x.zs.length x.c):=by simp[ve,h]
theorem alS(j:Nat):(ve US).setIfInBounds j (.slice x.A x.zs.length x.c)=ve (US.set j x):=by simp[ve,Pn,Bw]
theorem alT(n:Nat):madeCells #[.slice none 0 0] n=ve (List.replicate n zt):=by
 apply Di;rw[Ps];simp[ve,zt]
theorem rH.at(h:rH w B g US)[l:Later w w']:rH w' B g US:=⟨h.blk.at,fun x b=>(h.own x b).keep l.st,h.mU⟩
theorem rH.new{k:Nat}(h:aD w g 24 (ve (List.replicate k zt))):rH w B g (List.replicate k zt):=
 ⟨h,fun x e=>by rw[su e];exact aG.nil _ _ _,fun i j x y hi _ _ a _ b=>by
  rw[su (aK hi)]at b;cases b⟩
theorem aG.mV{zs:List Int}{A:Option Addr}{c:Nat}{p:Addr}(h:aG w B 3 A c zs)(hp:∀ad,A=some ad->ad.block≠p.block)(v:Value):aG (w.setCell p v) B 3 A c zs:=
 h.same fun ad e=>dM w p v _ (hp ad e)
theorem aG.iq{zs:List Int}{A j l:Option Addr}{c:Nat}(h:aG w B 3 A c zs)(m:bS j l w w')(b:∀a a',A=some a->j=some a'->a'.block≠a.block):aG w' B 3 A c zs:=
 h.same fun ad e=>m.off _ (h.lt ad e) fun tC r=>b ad tC e r
theorem rH.push(h:rH w B g US)(C:US[i]?=some x)(I:aG w' B 3 A' c' (x.zs++[y]))(D:bS x.A A' w w'):
  rH (w'.setCell ⟨g,i,none⟩ (.slice A' (x.zs++[y]).length c')) B g (US.set i ⟨A',c',x.zs++[y]⟩):=by
 have E:=aK C;have hg:aD w' g 24 (ve US):=D.blk h.blk ((h.own x E).bP h.blk ah);refine⟨?_,fun z u=>?_,fun i1 J x1 y1 hi l F a b r hb=>?_⟩
 ·have:=hg.aF i (.slice A' (x.zs++[y]).length c');rwa[alS (x:=⟨A',c',x.zs++[y]⟩)]at this
 ·obtain⟨j,l⟩:=jF u;rw[nQ]at l
  split at l
  ·split at l
   ·injection l with l;subst l
    exact I.mV (fun ad e=>I.bP hg ah ad e) _
   ·cases l
  ·rename_i m;have K:=(h.own z (aK l)).iq D fun a a' M G=>h.mU i j x z C l m a' a G M;exact K.mV (fun ad e=>K.bP hg ah ad e) _
 ·have key:∀(j:Nat) (z:Ur),US[j]?=some z->i≠j->∀a b,A'=some a->z.A=some b->a.block≠b.block:=fun j z u m a b r hb=>by
   rcases D.new a r with⟨a0,O,L⟩|P
   ·rw[L];exact h.mU i j x z C u m a0 b O hb
   ·have:=(h.own z (aK u)).lt b hb;omega
  rw[nQ]at hi l
  split at hi
  ·rename_i L
   split at hi
   ·injection hi with hi;subst hi
    rw[if_neg om]at l;exact key J y1 l om a b r hb
   ·cases hi
  ·split at l
   ·rename_i Q
    split at l
    ·injection l with l;subst l
     exact fun e=>key i1 x1 hi om b a hb r e.symm
    ·cases l
   ·exact h.mU i1 J x1 y1 hi l F a b r hb
def iT(N:aI)(i:Nat):List Int:=(N.nodes[i]?.map (·.ins)).getD []
def wT(N:aI)(i j:Nat):List Int:=(0:Int)::(List.range N.nodes.length).map fun q=>(((if q<i then iT N q else if q=i then(iT N q).take j else[]).countP (· !=0):Nat):Int)
def uT(N:aI)(i j:Nat)(id:Nat):List Int:=if id=0 then[]else((List.range i).flatMap fun(q:Nat)=>List.replicate ((iT N q).count (id:Int)) ((q:Int)+1))++List.replicate (((iT N i).take j).count (id:Int)) ((i:Int)+1)
def kI(N:aI)(i j:Nat):List (List Int):=(List.range (N.nodes.length+1)).map (uT N i j)
theorem Td(i j:Nat):(wT N i j).length=N.nodes.length+1:=by simp[wT]
theorem alU:wT N 0 0=List.replicate (N.nodes.length+1) 0:=by
 rw[wT,uo];congr 1;rw[Ls];refine⟨au,fun b hb=>?_⟩;obtain⟨q,_,rfl⟩:=dG.1 hb;simp only[yH,if_false,jr]
 split<;>simp
theorem alV:kI N 0 0=List.replicate (N.nodes.length+1) []:=by
 rw[Ls];refine⟨by simp[kI],fun b hb=>?_⟩;obtain⟨q,_,rfl⟩:=dG.1 hb;simp[uT]
theorem NN{i j q:Nat}(hq:q<N.nodes.length):(wT N i j)[q+1]?=some (((if q<i then iT N q else if q=i then(iT N q).take j else[]).countP (· !=0):Nat):Int):=by
 rw[wT,CY,dE,xc hq];rfl
theorem Te{L:List Int}{j:Nat}{z:Int}(h:L[j]?=some z):L.take (j+1)=L.take j++[z]:=take_at h
theorem aaF{i j:Nat}{z:Int}(hi:i<N.nodes.length)(l:(iT N i)[j]?=some z):wT N i (j+1)=if z=0 then wT N i j else(wT N i j).set (i+1) (((((iT N i).take j).countP (· !=0):Nat):Int)+1):=by
 have ht:=Te l;have hg:∀q,q≠i->(if q<i then iT N q else if q=i then(iT N q).take (j+1)else[])=(if q<i then iT N q else if q=i then(iT N q).take j else[]):=fun q hq=>by rw[if_neg hq,if_neg hq]
 split
 ·rename_i b;unfold wT;congr 1;refine oZ fun q _=>?_;by_cases e:q=i
  ·subst e;rw[if_neg (Df _),if_pos rfl,if_neg (Df _),if_pos rfl,ht,PM,b];simp
  ·rw[hg q e]
 ·rename_i b;apply pE;intro q;rw[nQ,Td];by_cases e:i+1=q
  ·subst e;rw[if_pos rfl,if_pos om,NN hi,if_neg (Df _),if_pos rfl,ht,PM];simp[b]
  ·rw[if_neg e];cases q with
   |zero=>rfl
   |succ q=>
    by_cases hq:q<N.nodes.length
    ·rw[NN hq,NN hq,hg q om]
    ·rw[mE (by rw[Td];omega),mE (by rw[Td];omega)]
theorem alW{i:Nat}:wT N i (iT N i).length=wT N (i+1) 0:=by
 unfold wT;congr 1;refine oZ fun q _=>?_;by_cases h:q<i
 ·rw[if_pos h,if_pos om]
 ·rw[if_neg h];by_cases e:q=i
  ·subst e;rw[if_pos rfl,if_pos om,jq]
  ·rw[if_neg e,if_neg om]
   split<;>simp
theorem alX{i j:Nat}{z:Nat}(b:z≠0)(l:(iT N i)[j]?=some (z:Int))(q:Nat):uT N i (j+1) q=if q=z then uT N i j z++[(i:Int)+1]else uT N i j q:=by
 unfold uT;rw[Te l,Hu,PD];by_cases e:q=z
 ·subst e;rw[if_neg b,if_pos rfl,if_neg b,if_pos au,<-List.replicate_append_replicate,jX];rfl
 ·rw[if_neg e];have:((z:Int)==(q:Int))=false:=by simp;omega
  rw[this];rfl
theorem alY{i j:Nat}{z:Nat}(b:z≠0)(l:(iT N i)[j]?=some (z:Int)):kI N i (j+1)=(kI N i j).set z (uT N i j z++[(i:Int)+1]):=by
 apply pE;intro q;rw[nQ];have hq:∀j,(kI N i j)[q]?=if q<N.nodes.length+1 then some (uT N i j q)else none:=fun j=>by
  rw[kI,dE];by_cases h:q<N.nodes.length+1
  ·rw[xc h,if_pos h];rfl
  ·rw[mE (by simpa using h),if_neg h];rfl
 rw[hq,hq,alX b l];have m:(kI N i j).length=N.nodes.length+1:=by simp[kI]
 rw[m];by_cases e:z=q
 ·subst e;rw[if_pos rfl,if_pos rfl]
 ·have r:¬q=z:=fun h=>e h.symm;simp only[if_neg e,if_neg r]
theorem alZ{i j:Nat}(e:(iT N i)[j]?=some 0):kI N i (j+1)=kI N i j:=by
 unfold kI;refine oZ fun q _=>?_;unfold uT;by_cases b:q=0
 ·rw[if_pos b,if_pos b]
 ·rw[if_neg b,if_neg b,Te e,Hu,PD];have:((0:Int)==(q:Int))=false:=by simp;omega
  rw[this];rfl
theorem al0{i:Nat}:kI N i (iT N i).length=kI N (i+1) 0:=by
 unfold kI;refine oZ fun q _=>?_;unfold uT;rw[jq,vM,Bq];simp
end
end Go.Proofs.YtmkjnlifimffkaaGreat
