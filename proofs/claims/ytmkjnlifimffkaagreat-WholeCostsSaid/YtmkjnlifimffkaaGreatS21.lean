/- Lemmas. No condition. -/
import Derived.Test.YtmkjnlifimffkaaGreatS19
import Derived.Test.YtmkjnlifimffkaaGreatS20
import Derived.LoopN
namespace Go.Proofs.YtmkjnlifimffkaaGreat
open Go.RowKit
set_option linter.all false
set_option maxRecDepth 100000
set_option maxHeartbeats 16000000
section
set_option linter.unusedVariables false
abbrev TV:=List Int×List Int
def Tn.tv(t:Tn):TV:=(t.zs,t.xs)
def tQ(v:TV):Tn:=⟨none,0,v.1,none,0,v.2⟩
def Np(b:Int)(x:TV)(V:List Int)(W S:Int):List Int:=uP (qG b W.toNat) x.2 (lQ x.1).toNat (lQ V).toNat S.toNat W.toNat (aV V).toNat
def gF(o:gP):Prop:=o.kd=7\/o.kd=8\/o.kd=12
noncomputable def xP(o:gP)(ps xs:List TV):List Int:=
 if o.kd=8 then wh (ps.getD 0 ([],[])).2 (ps.getD 1 ([],[])).2 (xs.getD 0 ([],[])).2 (ps.getD 1 ([],[])).2.length
 else if o.kd=9 then(xs.getD 0 ([],[])).2.zipWith dQ (ps.getD 0 ([],[])).2
 else if o.kd=10 then[]
 else if o.kd=11 then Np 1 (xs.getD 0 ([],[])) (dZ o (ps.map (·.1)) (xs.map (·.1))) o.wd o.st
 else if o.kd=12 then Np 2 (xs.getD 0 ([],[])) (dZ o (ps.map (·.1)) (xs.map (·.1))) o.wd o.st
 else if o.kd=13 then[]
 else if o.kd=14 then[]
 else if o.kd=15 then(xs.getD 0 ([],[])).2
 else qJ o.kd o.k (xs.map tQ) (xs.getD 0 ([],[])).2.length
section
variable{ts us:List Tn}{o:gP}{P X:List (List Int)}{side:Int}
theorem akG{k:Nat}{t:Tn}(h:ts[k]?=some t):(ts.map Tn.tv).getD k ([],[])=(t.zs,t.xs):=by
 rw[aQ,dE,h];rfl
theorem Nq{k:Nat}{z x:List Int}(h:(ts.map Tn.tv).getD k ([],[])=(z,x)):(ts.map (·.zs)).getD k []=z:=by
 rw[aQ,dE]at h⊢;cases b:ts[k]? with
 |none=>rw[b]at h;exact(nD h).1
 |some t=>rw[b]at h;exact(nD h).1
theorem ZM:(ts.map Tn.tv).map (·.1)=ts.map (·.zs):=by rw[Fh];rfl
theorem ZN:(ts.map Tn.tv).map tQ=ts.map fun t=>tQ (t.zs,t.xs):=by rw[Fh];rfl
theorem ZO(i:Nat):sec ((ts.map Tn.tv).map tQ) i=sec ts i:=by
 unfold sec;rw[ZN,dE];cases ts[1]?<;>rfl
theorem Si:iA ((ts.map Tn.tv).map tQ)=iA ts:=by
 unfold iA;rw[ZN,dE];cases ts[0]?<;>rfl
theorem akH{b k:Int}{m:Nat}:qJ b k ((ts.map Tn.tv).map tQ) m=qJ b k ts m:=by
 unfold qJ;rw[Si];exact oZ fun i _=>by rw[ZO]
theorem D6{L:List (List Int)}(hE:uR L=0):∀z∈L,z=uQ L:=by
 unfold uR at hE
 split at hE
 ·rename_i hs;intro z b;rw[uQ,if_pos hs];exact Bu (fK.1 hs z b)
 ·exact absurd hE ah
end
section
variable{w w':World}{A B C D E F:Option Addr}{n m n' m' n2 m2 c d c' d' c2 d2:Nat}{zs xs ts ys us vs:List Int}
theorem akI[a:Sl w A n zs][b:Sl w B m xs][e:Sl w C n' ts][j:Sl w D m' ys][l:Sl w E n2 us][r:Sl w F m2 vs][ld:Le m d][y:dh xs][z:dh ys][G:dh vs](u:n2<=1000000){L:List Int}(hr:Hid (mM zs xs ts ys us vs=true))(hL:Hid (L=wh xs ys vs ys.length)):
  Calls Tryz.prog 158 #[.agg #[.slice A n c,.slice B m d],.agg #[.slice C n' c',.slice D m' d'],.agg #[.slice E n2 c2,.slice F m2 d2]] w (qE w ts L 0):=by
 obtain⟨a,rfl⟩:=a;obtain⟨b,rfl⟩:=b;obtain⟨e,rfl⟩:=e;obtain⟨j,rfl⟩:=j;obtain⟨l,rfl⟩:=l;obtain⟨r,rfl⟩:=r;rw[hL.out];exact Re (ajj A B C D E F c d c' d' c2 d2 zs xs ts ys us vs w ld.le u a b e j l r (ae y.bd) (ae z.bd) (ae G.bd) hr)
theorem akJ{Q:World->Prop}{X:World}{T T':TypeId}{cs b:Array Value}(h:∀e u,ak e X->ak u e->Bx e X.heap.size T cs->e.heap.size<=X.heap.size+1->Bx u (X.heap.size+1) T' b->Q u):Q ((X.alloc (.cells cs T)).alloc (.cells b T')):=
 h (X.alloc (.cells cs T)) _ (ai _ _) (ai _ _) iin au iin
end
section
variable{w:World}{A B:Option Addr}{n m c d:Nat}{zs xs V X:List Int}{us:List Tn}
theorem akK{b wd st:Int}{R Z j W S:Nat}[Sl w A n zs][Sl w B m xs][dh xs][Le m d](e:Hid (wd=(W:Int)/\st=(S:Int)))(l:n<=1000000)(hr:bH zs xs=true)(r:b=1\/b=2)(u:Hid (PW zs V R Z j W S))(y:Hid (X=uP (qG b W) xs Z j S W (R*j))):
  Calls Tryz.prog 161 #[b,.agg #[.slice A n c,.slice B m d],wd,st] w (qE w V X 0):=by
 rw[e.out.1,e.out.2];exact aj3 l hr r u y
theorem akL{b kk:Int}[Ts w A n us][I6 kk](l:Hid (∀t∈us,t.zs.length<=1000000))(hE:qa b us=0)(r:Hid (V=zs0 us))(u:Hid (X=qJ b kk us (iA us).length)):Calls Tryz.prog 165 #[b,kk,.slice A n c] w (qE w V X 0):=
 (akF l hE r u).mono fun e w' ⟨g,C,y,j,hg,oS,z,hp⟩=>⟨_,_,_,_,y,⟨oS.rd,rfl⟩,⟨z.rd,rfl⟩,Le.same _,Le.same _,⟨fun ad e=>by injection e with e;subst e;exact j⟩,⟨fun ad e=>by injection e with e;subst e;exact hg⟩,hp⟩
end
def jw(ts:List Tn):Prop:=∀t∈ts,bH t.zs t.xs=true/\t.zs.length<=t.c
theorem jw.len{ts:List Tn}(h:jw ts){t:Tn}(ht:t∈ts):t.zs.length<=4:=ry ((jI _ _).1 (h t ht).1).1
theorem Ts.D7{w:World}{A:Option Addr}{n:Nat}{ts:List Tn}(h:Ts w A n ts)(hr:Hid (jw ts)){k:Nat}(r:k<n):∃b o j n1 c1 zs l m1 d1 xs,A=some ⟨b,o,none⟩/\Old b w/\w.cell? ⟨b,o+k*2,none⟩=some (.slice j n1 c1)/\w.cell? ⟨b,o+k*2+1,none⟩=some (.slice l m1 d1)/\
  Sl w j n1 zs/\Sl w l m1 xs/\Le n1 c1/\Le m1 d1/\dh xs/\n1<=4/\m1<=65536/\Hid (bH zs xs=true)/\Hid ((ts.map Tn.tv).getD k ([],[])=(zs,xs)):=by
 obtain⟨b,o,j,c1,zs,l,d1,xs,e,ob,v0,v1,u,y,l1,i1,ht⟩:=h.get r;obtain⟨m,z⟩:=hr.out _ (aK ht.out);exact⟨b,o,j,_,c1,zs,l,_,d1,xs,e,ob,v0,v1,u,y,⟨z⟩,⟨l1⟩,i1,(IK m).2,(IK m).1,ae m,ae (akG ht.out)⟩
section
variable{w w':World}{A B C:Option Addr}{n m c d e nx cx:Nat}{ts us:List Tn}{o:gP}
theorem akM[Sl w A n o.S][I6 o.k](hn:n<=1000000)[a:Ts w B m ts][x:Ts w C nx us][Le nx cx](hx:nx<=1000000)(hT:Hid (jw ts))(hU:Hid (jw us))(hE:iw o (ts.map (·.zs)) (us.map (·.zs))=0)(hq:Hid (gF o)){V X:List Int}
  (hV:Hid (dZ o (ts.map (·.zs)) (us.map (·.zs))=V)) (F:Hid (xP o (ts.map Tn.tv) (us.map Tn.tv)=X)):
  Calls Tryz.prog 102 #[.agg (opC o.kd o.k o.wd o.st o.sd o.fr o.tt (.slice A n d)),.slice B m e,.slice C nx cx] w (qE w V X 0):=by
 obtain⟨CB,CP,FB⟩:=iK;obtain⟨hc,hP,Sj,hk⟩:=Ce hE;obtain⟨i0,i1,i2,i3⟩:=Ar hc;have HC:Hid (rA o.kd o.k o.wd o.st o.sd o.fr o.tt o.S m nx=0):=ae (by rw[<-hc,gP.cnt,a.len,x.len,dF,dF]);have IM:Hid ((m:Int)=ky o.kd):=ae (by rw[<-i3,a.len,dF]);have IX:Hid (0<nx):=ae (by rw[x.len];rw[dF]at i1;unfold nG at i1;split at i1<;>omega);have IN:Hid (¬o.kd=8/\¬o.kd=9/\¬o.kd=10/\¬o.kd=11/\¬o.kd=12/\¬o.kd=13/\¬o.kd=14/\¬o.kd=15->(nx:Int)=jU o.kd/\jU o.kd≠0):=ae fun h=>by
  obtain⟨kl,kh⟩:=MR i0;rw[dF,<-x.len]at i1 i2;unfold nG at i1;unfold rz at i2;unfold jU;by_cases h6:o.kd=6\/o.kd=7
  ·rw[if_pos h6]at i1 i2⊢;rw[if_neg om];omega
  ·rw[if_neg h6]at i1 i2;rw[if_neg om]at i2;rw[if_pos om];omega
 have lS:Hid (jN o (ts.map (·.zs)) (us.map (·.zs))=V):=ae (by rw[<-hV.out,dZ,if_pos hE]);have HK:=ae hk;have U:=F.out;unfold xP at U;rw[ZM,ZM,hV.out]at U;have HX:=ae U;obtain⟨b0,q0,A0,n0,c0,z0,B0,m0,d0,x0,rfl,Rz,v0,v1,s0,t0,lc0,ld0,ZP,n04,m06,r0,e0⟩:=x.D7 hU (k:=0) IX.out;have D0:Hid ((us.map (·.zs)).getD 0 []=z0):=ae (Nq e0.out);simp only[yG,nA]at v0 v1;have x1:0<nx:=IX.out;have P1:∀k:Nat,k<m->∃b o A1 n1 c1 zs B1 m1 d1 xs,B=some ⟨b,o,none⟩/\Old b w/\w.cell? ⟨b,o+k*2,none⟩=some (.slice A1 n1 c1)/\w.cell? ⟨b,o+k*2+1,none⟩=some (.slice B1 m1 d1)/\Sl w A1 n1 zs/\Sl w B1 m1 xs/\Le n1 c1/\Le m1 d1/\dh xs/\n1<=4/\m1<=65536/\Hid (bH zs xs=true)/\Hid ((ts.map Tn.tv).getD k ([],[])=(zs,xs))/\Hid ((ts.map (·.zs)).getD k []=zs):=fun k hk=>by
  obtain⟨b,o,A1,n1,c1,zs,B1,m1,d1,xs,h1,h2,h3,h4,h5,h6,h7,h8,h9,h10,h11,h12,D8⟩:=a.D7 hT hk;exact⟨b,o,A1,n1,c1,zs,B1,m1,d1,xs,h1,h2,h3,h4,h5,h6,h7,h8,h9,h10,h11,h12,D8,ae (Nq D8.out)⟩
 have D9:=ae P1;clear hc hP Sj hk i0 i1 i2 i3 U IX P1 hE hV F;go_enter Tryz.func102,Tryz.ntmps102
 go_upto_region 1 with fail
 refine akJ (fun I u _ _ k0 hz k1=>?_);by_cases G:o.kd=8
 ·have hm2:m=2:=by have:=IM.out;rw[ky,if_pos G]at this;omega
  obtain⟨b1,q1,A1,n1,c1,z1,B1,m1,d1,Gc,e1,vX,Sk,vb1,s1,t1,lc1,ld1,ZQ,n14,m16,r1,Sm,Sn⟩:=D9.out 0 om;obtain⟨b2,q2,A2,n2,c2,z2,B2,m2,d2,Jh,e2,jT,Sq,Sr,s2,t2,lc2,ld2,ix2,n24,m26,r2,Su,Sv⟩:=D9.out 1 om;subst e1;injection e2 with e2;injection e2 with e2 e3;subst e2 e3
  simp only[yG,nA,De]at Sk vb1 Sq Sr;have hV:=lS.out;have F:=HX.out;have hK:=HK.out;rw[jN,if_pos G]at hV;rw[if_pos G]at F;rw[jc,if_pos G]at hK;rw[Sn.out,Sv.out,D0.out]at hV hK;rw[Sm.out,Su.out,e0.out]at F;have HG:Hid (mM z1 Gc z2 Jh z0 x0=true/\V=z2):=ae (by
   have hB:qH z1 z2 z0=true:=by
    unfold xE at hK
    split at hK
    ·assumption
    ·exact absurd hK ah
   rw[xD,if_pos hB]at hV;simp only[qH,dm,dU]at hB;obtain⟨⟨⟨⟨g1,g2⟩,g3⟩,g4⟩,g5⟩:=hB;have f0:=((jI _ _).1 r0.out).2;have e:z2=[z1.getD 0 0]:=by
    match z2,g2,g3 with
    |[y],_,g3=>rw[<-g3];rfl
   refine⟨?_,by rw[<-hV,e]⟩;simp only[mM,xH,dm,dU];exact⟨⟨⟨⟨⟨r1.out,g1⟩,r2.out⟩,r0.out⟩,e⟩,by rw[f0,g5]⟩)
  obtain rfl:=HG.out.2;have zb:Hid (X=wh Gc Jh x0 Jh.length):=ae F.symm;have g1:0<m:=om;have g2:(1:Int)<(m:Int):=by omega
  have h8:(o.kd==8)=true:=by simpa using G
  clear G;clear hm2 hV F hK
  go_upto_region 6 with(first|(go_at_call 104;(with_reducible refine(BX hn HC).mono ?_);rintro e u ⟨rfl,_⟩))
  refine eU I aj (fun N _=>?_);refine ag 0 23 ?_;refine ag 1 24 ?_;refine ag 2 25 ?_;refine ag 3 26 ?_;refine ag 4 27 ?_;refine ag 5 28 ?_;refine ag 6 29 ?_;refine ag 7 30 ?_;refine ag 8 31 ?_;refine ay 9 fun K hK=>?_;go_simp
  (with_reducible refine(akI om (ae HG.out.1) zb).mono ?_)
  rintro e N ⟨A',c',B',d',rfl,sA,sX,lA,lX,fA,Y,_⟩;dsimp only;refine av hK ?_;clear hK K;refine ag 10 33 ?_;refine ag 11 34 ?_;refine ay 12 fun K hK=>?_;go_simp;obtain⟨E,j⟩:=lg ((N.setCell ⟨w.heap.size+1,0,none⟩ (.slice A' V.length c')).setCell ⟨w.heap.size+1,1,none⟩ (.slice B' X.length d'));rw[<-j];have z:Below (World.heap I).size I E:=by rw[j];exact gW (aL I N) hz _ _
  have ZR:∀b,b<N.heap.size->b≠w.heap.size+1->(World.heap E)[b]?=N.heap[b]?:=fun b _ hb=>by rw[j];exact(dM _ ⟨w.heap.size+1,1,none⟩ _ b hb).trans (dM _ ⟨w.heap.size+1,0,none⟩ _ b hb)
  have O:Bx E (w.heap.size+1) _ #[.slice A' V.length c',.slice B' X.length d']:=⟨by rw[j];exact aD.set2 (Bx.blk (w:=N) (g:=w.heap.size+1)) _ _⟩;have P:Sl E A' (V.length) V:=by rw[j];exact sA.dY fA (Bx.blk (g:=w.heap.size+1)).lt _ _
  have Q:Sl E B' (X.length) X:=by rw[j];exact sX.dY Y (Bx.blk (g:=w.heap.size+1)).lt _ _
  have Av:ak E I:=⟨z⟩;refine av hK ?_ ⟨z⟩;clear hK K j;refine ag 13 7 ?_;refine aO ?_
  go_wp2_with fail
  obtain⟨r0,r1⟩:=fC O.blk;refine bM (v:=.tuple #[.agg #[.slice A' V.length c',.slice B' X.length d'],(0:Int)]) (by simp[results,Tryz.results102,go_sem,r0,r1]) rfl ⟨A',c',B',d',rfl,P,Q,lA,lX,fA.less aH,Y.less aH,⟨dS (aL w I) z⟩⟩
 have h8:(o.kd==8)=false:=by simpa using G
 have T:¬o.kd=9:=by have:=hq.out;unfold gF at this;omega
 have h9:(o.kd==9)=false:=by simpa using T
 have r:¬o.kd=10:=by have:=hq.out;unfold gF at this;omega
 have h10:(o.kd==10)=false:=by simpa using r
 have D:¬o.kd=11:=by have:=hq.out;unfold gF at this;omega
 have h11:(o.kd==11)=false:=by simpa using D
 by_cases l:o.kd=12
 ·have hV:=lS.out;have F:=HX.out;have hK:=HK.out;rw[jN,if_neg G,if_neg T,if_neg r,if_pos (.inr l)]at hV;rw[if_neg G,if_neg T,if_neg r,if_neg D,if_pos l]at F;rw[jc,if_neg G,if_neg T,if_neg r,if_pos (.inr l)]at hK;rw[D0.out]at hV hK;rw[e0.out]at F;obtain⟨R,Z,nn,W',S',hW,hS,pw⟩:=PW.of hK;rw[hV]at pw;have Sw:=ae pw;have zb:Hid (X=uP (qG 2 W') x0 Z nn S' W' (R*nn)):=ae (by
   rw[<-F,Np,hW,hS];have e1:lQ z0=(Z:Int):=by rw[lQ,aQ,pw.at_];rfl
   have e2:lQ V=(nn:Int):=by
    rw[lQ,pw.v,jQ,aQ,qX (by have:=pw.len;omega)];rfl
   rw[e1,e2,pw.MX];simp only[dD])
  have Ji:=ae (And.intro hW hS);have h12:(o.kd==12)=true:=by simpa using l
  clear G T r D l;clear hV F hK pw hW hS
  go_upto_region 14 with(first|(go_at_call 104;(with_reducible refine(BX hn HC).mono ?_);rintro e u ⟨rfl,_⟩))
  refine eU I aj (fun N _=>?_);refine ag 0 73 ?_;refine ag 1 74 ?_;refine ag 2 75 ?_;refine ag 3 76 ?_;refine ag 4 77 ?_;refine ag 5 78 ?_;refine ag 6 79 ?_;refine ay 7 fun K hK=>?_;go_simp
  (with_reducible refine(akK Ji om r0.out (.inr rfl) Sw zb).mono ?_)
  rintro e N ⟨A',c',B',d',rfl,sA,sX,lA,lX,fA,Y,_⟩;dsimp only;refine av hK ?_;clear hK K;refine ag 8 81 ?_;refine ag 9 82 ?_;refine ay 10 fun K hK=>?_;go_simp;obtain⟨E,j⟩:=lg ((N.setCell ⟨w.heap.size+1,0,none⟩ (.slice A' V.length c')).setCell ⟨w.heap.size+1,1,none⟩ (.slice B' X.length d'));rw[<-j];have z:Below (World.heap I).size I E:=by rw[j];exact gW (aL I N) hz _ _
  have ZR:∀b,b<N.heap.size->b≠w.heap.size+1->(World.heap E)[b]?=N.heap[b]?:=fun b _ hb=>by rw[j];exact(dM _ ⟨w.heap.size+1,1,none⟩ _ b hb).trans (dM _ ⟨w.heap.size+1,0,none⟩ _ b hb)
  have O:Bx E (w.heap.size+1) _ #[.slice A' V.length c',.slice B' X.length d']:=⟨by rw[j];exact aD.set2 (Bx.blk (w:=N) (g:=w.heap.size+1)) _ _⟩;have P:Sl E A' (V.length) V:=by rw[j];exact sA.dY fA (Bx.blk (g:=w.heap.size+1)).lt _ _
  have Q:Sl E B' (X.length) X:=by rw[j];exact sX.dY Y (Bx.blk (g:=w.heap.size+1)).lt _ _
  have Av:ak E I:=⟨z⟩;refine av hK ?_ ⟨z⟩;clear hK K j;refine ag 11 7 ?_;refine aO ?_
  go_wp2_with fail
  obtain⟨r0,r1⟩:=fC O.blk;refine bM (v:=.tuple #[.agg #[.slice A' V.length c',.slice B' X.length d'],(0:Int)]) (by simp[results,Tryz.results102,go_sem,r0,r1]) rfl ⟨A',c',B',d',rfl,P,Q,lA,lX,fA.less aH,Y.less aH,⟨dS (aL w I) z⟩⟩
 have h12:(o.kd==12)=false:=by simpa using l
 have J:¬o.kd=13:=by have:=hq.out;unfold gF at this;omega
 have D8:(o.kd==13)=false:=by simpa using J
 have L:¬o.kd=14:=by have:=hq.out;unfold gF at this;omega
 have h14:(o.kd==14)=false:=by simpa using L
 have M:¬o.kd=15:=by have:=hq.out;unfold gF at this;omega
 have h15:(o.kd==15)=false:=by simpa using M
 have hV:=lS.out;have F:=HX.out;have hK:=HK.out;rw[jN,if_neg G,if_neg T,if_neg r,if_neg (show¬(o.kd=11\/o.kd=12)from fun h=>h.elim D l),if_neg J,if_neg L,if_neg M]at hV;rw[if_neg G,if_neg T,if_neg r,if_neg D,if_neg l,if_neg J,if_neg L,if_neg M]at F;rw[jc,if_neg G,if_neg T,if_neg r,if_neg (show¬(o.kd=11\/o.kd=12)from fun h=>h.elim D l),if_neg J,if_neg L,if_neg M]at hK;rw[e0.out,akH]at F;have HG:Hid (qa o.kd us=0/\V=zs0 us/\X=qJ o.kd o.k us (iA us).length):=ae (by
  have hn:(us.length:Int)=jU o.kd:=by rw[<-x.len];exact(IN.out ⟨G,T,r,D,l,J,L,M⟩).1
  have h1:zs0 us=V:=by
   have e:zs0 us=z0:=by rw[<-D0.out,zs0,aQ,dE]
   rw[e,<-hV];exact D6 hK z0 (by
    rw[<-D0.out,aQ];have:0<us.length:=by have:=x.len;omega
    rw[dE,aW this];exact dG.2 ⟨_,uA this,rfl⟩)
  refine⟨?_,h1.symm,?_⟩
  ·unfold qa;rw[if_neg (IN.out ⟨G,T,r,D,l,J,L,M⟩).2,if_pos hn,if_pos];rw[fK];intro t ht;unfold za;rw[(hU.out t ht).1,h1,<-hV];simpa using D6 hK t.zs (dG.2 ⟨t,ht,rfl⟩)
  ·rw[<-F];congr 1;have:0<us.length:=by have:=x.len;omega
   have e:=e0.out;rw[aQ,dE,aW this]at e;rw[iA,aW this];exact eD (fun v=>v.2.length) e.symm)
 have HZ:Hid (∀t∈us,t.zs.length<=1000000):=ae fun t ht=>by have:=hU.out.len ht;omega
 clear G T r D l J L M hV F hK
 go_wp2_with (first|(go_at_call 104;(with_reducible refine(BX hn HC).mono ?_);rintro e u ⟨rfl,_⟩)|(go_at_call 165;(with_reducible refine(akL HZ HG.out.1 (ae HG.out.2.1) (ae HG.out.2.2)).mono ?_);rintro e u ⟨A',c',B',d',rfl,sA,sX,lA,lX,fA,Y,_⟩))
 obtain⟨E,j⟩:=lg ((u.setCell ⟨w.heap.size+1,0,none⟩ (.slice A' V.length c')).setCell ⟨w.heap.size+1,1,none⟩ (.slice B' X.length d'));rw[<-j];have z:Below (World.heap I).size I E:=by rw[j];exact gW (aL I u) hz _ _
 have O:Bx E (w.heap.size+1) _ #[.slice A' V.length c',.slice B' X.length d']:=⟨by rw[j];exact aD.set2 (Bx.blk (w:=u) (g:=w.heap.size+1)) _ _⟩;have P:Sl E A' V.length V:=by rw[j];exact sA.dY fA (Bx.blk (g:=w.heap.size+1)).lt _ _
 have Q:Sl E B' X.length X:=by rw[j];exact sX.dY Y (Bx.blk (g:=w.heap.size+1)).lt _ _
 clear j;obtain⟨r0,r1⟩:=fC O.blk;refine bM (v:=.tuple #[.agg #[.slice A' V.length c',.slice B' X.length d'],(0:Int)]) (by simp[results,Tryz.results102,go_sem,r0,r1]) rfl ⟨A',c',B',d',rfl,P,Q,lA,lX,fA.less aH,Y.less aH,⟨dS (aL w I) z⟩⟩
end
end
def mh(b k:Int)(ts:List Tn)(gs:List Int)(m:Nat):List Int:=(List.range m).map fun i=>kZ b k ((iA ts).getD i 0) (sec ts i) (gs.getD i 0)
def mQ(b:Int)(ts:List Tn)(gs:List Int)(m:Nat):List Int:=(List.range m).map fun i=>rG b ((iA ts).getD i 0) (gs.getD i 0)
theorem Jj(b k:Int)(ts:List Tn)(gs:List Int)(m:Nat):(mh b k ts gs m).length=m:=by simp[mh]
theorem akY(b k:Int)(ts:List Tn)(gs:List Int)(m:Nat):mh b k ts gs (m+1)=mh b k ts gs m++[kZ b k ((iA ts).getD m 0) (sec ts m) (gs.getD m 0)]:=by simp[mh,vM]
theorem Nr(b:Int)(ts:List Tn)(gs:List Int)(m:Nat):(mQ b ts gs m).length=m:=by simp[mQ]
theorem akZ(b:Int)(ts:List Tn)(gs:List Int)(m:Nat):mQ b ts gs (m+1)=mQ b ts gs m++[rG b ((iA ts).getD m 0) (gs.getD m 0)]:=by simp[mQ,vM]
theorem getD_some{l:List Int}{k:Nat}{z:Int}(h:l[k]?=some z):l.getD k 0=z:=by rw[aQ,h];rfl
theorem ak0(n:Nat)(l:n<=2)(W:World):(Instr.makeSlice 23 (.int .i64 (n:Int)) (.int .i64 (n:Int))).run Tryz.prog W=.ok (.slice W.heap.size n n) (W.alloc (.cells (madeCells #[.slice none 0 0,.slice none 0 0] (n*2)) 28)):=by
 have b:(Tryz.prog.info? 28).map (fun i=>(i.zero,i.size,i.bytes))=some (some (.agg #[.slice none 0 0,.slice none 0 0]),2,48):=aj;obtain⟨i,hi,e⟩:=bN.1 b;simp only[jZ]at e;obtain⟨j,hs,hb⟩:=e;have:=zT (P:=Tryz.prog) W 23 28 i _ Tryz.underlying23 hi j .i64 .i64 n n om (jg _) (by rw[hs];simp;omega) (by rw[hb];omega) om;rw[hs]at this;simpa[Value.cells]using this
theorem ak1:madeCells #[.slice none 0 0,.slice none 0 0] 4= #[.slice none 0 0,.slice none 0 0,.slice none 0 0,.slice none 0 0]:=aj
def ak2(w:World)(z X l Y:List Int)(e:Ending)(w':World):Prop:=
 ∃G m b r j,e=.returned (.tuple #[.slice (some ⟨G,0,none⟩) 2 2,(0:Int)])/\w.heap.size<=G/\w.heap.size<=m/\w.heap.size<=r/\w.heap.size<=b/\w.heap.size<=j/\b≠j/\
  Bx w' G 28 #[.slice (some ⟨m,0,none⟩) z.length z.length,.slice (some ⟨b,0,none⟩) X.length X.length,.slice (some ⟨r,0,none⟩) l.length l.length,.slice (some ⟨j,0,none⟩) Y.length Y.length]/\
  Own w' m 3 z/\Own w' b 65 X/\Own w' r 3 l/\Own w' j 65 Y/\ak w' w
theorem aD.ak3{w:World}{g:Nat}{T:TypeId}{a b c d:Value}(h:aD w g T #[a,b,c,d])(v0 v1:Value):aD ((w.setCell ⟨g,0,none⟩ v0).setCell ⟨g,1,none⟩ v1) g T #[v0,v1,c,d]:=by simpa using(h.aF 0 v0).aF 1 v1
theorem aD.ak4{w:World}{g:Nat}{T:TypeId}{a b c d:Value}(h:aD w g T #[a,b,c,d])(v0 v1:Value):aD ((w.setCell ⟨g,2,none⟩ v0).setCell ⟨g,3,none⟩ v1) g T #[a,b,v0,v1]:=by simpa using(h.aF 2 v0).aF 3 v1
theorem Own.Ns{w:World}{g p:Nat}{T:TypeId}{zs:List Int}(h:Own w g T zs)(hp:g≠p)(v0 v1:Value):Own ((w.setCell ⟨p,2,none⟩ v0).setCell ⟨p,3,none⟩ v1) g T zs:=(h.far (p:=⟨p,2,none⟩) hp v0).far (p:=⟨p,3,none⟩) hp v1
theorem ak5{w w':World}{n p:Nat}(h:Below n w w')(hp:n<=p)(v0 v1:Value):Below n w ((w'.setCell ⟨p,2,none⟩ v0).setCell ⟨p,3,none⟩ v1):=(h.setCell (p:=⟨p,2,none⟩) hp v0).setCell (p:=⟨p,3,none⟩) hp v1
section
variable{w:World}{A B C:Option Addr}{n c p q d e':Nat}{ts:List Tn}{kind kk:Int}{zg xg:List Int}
theorem ak6[a:Ts w A 2 ts][I6 kk][Sl w B p zg][V:Sl w C q xg][dh xg](hp:p<=1000000)(hz:Hid (∀t∈ts,t.zs.length<=1000000))(hE:qa kind ts=0)(hr:bH zg xg=true)(hs:zg=zs0 ts){Z X Y:List Int}(hZ:Hid (Z=zs0 ts))(hX:Hid (X=mh kind kk ts xg (iA ts).length))(hY:Hid (Y=mQ kind ts xg (iA ts).length)):
  Calls Tryz.prog 114 #[kind,kk,.agg #[.slice B p d,.slice C q e'],.slice A 2 c] w (ak2 w Z X Z Y):=by
 have CB:=@bf;have FB:=@dV;have CP:=@kQ;obtain⟨-,-,-,F⟩:=Sd hE;obtain⟨b,o,A0,c0,z0,B0,d0,x0,rfl,ob,q0,q1,s0,t0,hd0,i0,P⟩:=a.get (k:=0) om;obtain⟨b',o',A1,c1,z1,B1,d1,x1,eA,-,q2,q3,s1,t1,hd1,i1,ht1⟩:=a.get (k:=1) om;injection eA with eA
 injection eA with eb eo
 subst eb eo;simp only[yG,nA,De]at q0 q1 q2 q3;have I:=(F _ (aK P.out)).1;have Q:=(F _ (aK ht1.out)).1;have J:=(F _ (aK ht1.out)).2;obtain⟨lx,ZT,lz⟩:=YX I;simp only at lx ZT lz J I Q;have M:Hid (iA ts=x0):=ae (by simp[iA,P.out]);have HZ0:Hid (zs0 ts=z0):=ae (by simp[zs0,P.out]);have HS:Hid (∀i,i<x0.length->∀t,ts[1]?=some t->i<t.xs.length):=ae fun i hi t ht=>by
  rw[ZL hE (aK ht),M.out];exact hi
 have HI:=ae fun i=>Sg a.rd i;rw[HZ0.out]at hs J;replace J:=hs.trans J.symm;subst hs;subst J;have I8:Hid (xg.length=x0.length):=ae (Rp hr I);have hxl:x1.length=x0.length:=Rp Q I;have L:=ae hxl;have lx':x1.length<=65536:=om;obtain⟨V,rfl⟩:=V;have V:Sl w C xg.length xg:=⟨V,rfl⟩;have hs:decide (zg=zg)=true:=l8 rfl;have hmk:∀W:World,(Instr.makeSlice 23 (.int .i64 2) (.int .i64 2)).run Tryz.prog W=.ok (.slice (some ⟨W.heap.size,0,none⟩) 2 2) (W.alloc (.cells #[.slice none 0 0,.slice none 0 0,.slice none 0 0,.slice none 0 0] 28)):=fun W=>by
  have:=ak0 2 om W;rw[show 2*2=4 from rfl,ak1]at this;exact this
 clear F I Q hxl;go_enter Tryz.func114,Tryz.ntmps114
 go_wp2_with (first|(go_at_call 180;(with_reducible refine(ZJ hz).mono ?_);rintro e u ⟨rfl,_⟩))
 refine bZ aj (fun l _=>?_);refine ag 0 24 ?_;refine ay 1 fun K hK=>?_;go_simp
 (with_reducible refine(tu om).mono ?_)
 rintro e l ⟨rfl,_⟩;dsimp only;refine av hK ?_;clear hK K;refine ag 2 26 ?_;refine ag 3 27 ?_;refine ag 4 28 ?_;refine ag 5 29 ?_;refine ag 6 30 ?_;refine ag 7 31 ?_;refine ag 8 32 ?_;refine ag 9 33 ?_;refine ay 10 fun K hK=>?_;go_simp
 (with_reducible refine(Dq om om).mono ?_)
 rintro e l ⟨rfl,_⟩;dsimp only;refine av hK ?_;clear hK K;refine ag 11 35 ?_;refine ag 12 36 ?_;refine aO ?_
 go_wp2_with fail
 refine Dc 3 ?_;rw[vR]
 go_wp2_with fail
 refine Qo (fun v pv kG kE=>?_);refine(Ii om om).mono ?_;rintro e w1 ⟨g,m,rfl,hg,hg',oS,oX,DX⟩;have ZU:Bx w1 l.heap.size 28 #[.slice none 0 0,.slice none 0 0,.slice none 0 0,.slice none 0 0]:=iin;have hvx:l.heap.size<v.heap.size:=kG.blk.lt
 go_wp2_with fail
 obtain⟨w5,G⟩:=lg ((w1.setCell ⟨l.heap.size,0,none⟩ (.slice g zg.length zg.length)).setCell ⟨l.heap.size,1,none⟩ (.slice m x0.length x0.length));have ZV:Bx w5 l.heap.size 28 #[.slice g zg.length zg.length,.slice m x0.length x0.length,.slice none 0 0,.slice none 0 0]:=⟨G▸ZU.blk.ak3 _ _⟩;have R:Own w5 g 3 zg:=G▸oS.dY om _ _;have S:Own w5 m 65 x0:=G▸oX.dY om _ _;have p5:ak w5 l:=⟨G▸gW (aL l w1) (az _) _ _⟩;rw[<-G];clear G oS oX ZU;rw[vR]
 go_wp2_with fail
 refine qZ (fun v2 Nt kE2=>?_);refine(Ii om om).mono ?_;rintro e w6 ⟨N,j,rfl,hg2,ak8,Jg,Ga,Sy⟩;have Jk:Bx w6 l.heap.size 28 #[.slice g zg.length zg.length,.slice m x0.length x0.length,.slice none 0 0,.slice none 0 0]:=iin;have hv2:w5.heap.size<=v2.heap.size:=aH;have hl5:=R.lt;have ak9:=S.lt;have hG5:=ZV.blk.lt;have ZW:=R.at (w':=w6);have ZX:=S.at (w':=w6)
 go_wp2_with fail
 obtain⟨U,r⟩:=lg ((w6.setCell ⟨l.heap.size,2,none⟩ (.slice N zg.length zg.length)).setCell ⟨l.heap.size,3,none⟩ (.slice j x1.length x1.length));have ZY:Bx U l.heap.size 28 #[.slice g zg.length zg.length,.slice m x0.length x0.length,.slice N zg.length zg.length,.slice j x1.length x1.length]:=⟨r▸Jk.blk.ak4 _ _⟩;have ZZ:Own U g 3 zg:=r▸ZW.Ns om _ _;have Z4:Own U m 65 x0:=r▸ZX.Ns om _ _;have Z5:Own U N 3 zg:=r▸Jg.Ns om _ _;have Z6:Own U j 65 x1:=r▸Ga.Ns om _ _;have p7:ak U l:=⟨r▸ak5 (aL l w6) (az _) _ _⟩;have m1:l.heap.size≠m:=om;have m2:l.heap.size≠j:=om;have m3:m≠j:=om;have m4:l.heap.size<=m:=om;have m5:l.heap.size<=j:=om;rw[<-r];have k1:l.heap.size<=g:=om;have k2:l.heap.size<=N:=om;clear r ZW ZX Jg Ga R S Jk ZV Sy Nt kE2 DX pv kG kE hv2 hl5 ak9 hG5 hg hg' hg2 ak8 p5;rw[vR]
 go_wp2_with fail
 clear hmk hr hs;have FP:=@Qn;go_loopw [58] (fun i wr=>∃k:Nat,k<=x0.length/\i=.int .i64 k/\Own wr m 65 (upTo (mh kind kk ts xg) x0 k)/\Own wr j 65 (upTo (mQ kind ts xg) x1 k)/\Own wr g 3 zg/\Own wr N 3 zg/\Bx wr l.heap.size 28 #[.slice g zg.length zg.length,.slice m x0.length x0.length,.slice N zg.length zg.length,.slice j x1.length x1.length]/\ak wr l) (fun i _=>x0.length-(intOf i).toNat)
 case atStart=>exact⟨0,aS _,rfl,by simpa[upTo,mh]using Z4,by simpa[upTo,mQ]using Z6,ZZ,Z5,ZY,p7⟩
 case round=>
  clear Z4 Z6 ZZ Z5 ZY p7;obtain⟨k,hk,rfl,hO,D,hS,hT,hB,hp⟩:=hrel;by_cases E:k<x0.length
  ·obtain⟨b2,o2,x,rfl,jT,cx,hx⟩:=t0.get E;obtain⟨b3,o3,y,rfl,Sz,cy,hy⟩:=V.get (k:=k) (by rw[I8.out];exact E);obtain⟨y1,T⟩:∃y1,x1[k]?=some y1:=⟨_,aW (by rw[L.out];exact E)⟩;have hkg:k<xg.length:=by rw[I8.out];exact E
   have hk1:k<x1.length:=by rw[L.out];exact E
   have ix:I6 x:=dh.at hx.out;have iy:I6 y:=dh.at hy.out;have is:=HI.out k;have hcg:=hO.cell (FX (f:=mh kind kk ts xg) (Jj kind kk ts xg k) hx.out);have hfg:=hO.frozen k;have hcy:=D.cell (FX (f:=mQ kind ts xg) (Nr kind ts xg k) T);have hfy:=D.frozen k;have og:Old m wr:=⟨hO.lt⟩;have og2:Old j wr:=⟨D.lt⟩;have RF:=ae (FY (f:=mh kind kk ts xg) (z:=kZ kind kk x (sec ts k) y) (Jj kind kk ts xg k) (by rw[akY,M.out,getD_some hx.out,getD_some hy.out]) hx.out);have Ad:=ae (FY (f:=mQ kind ts xg) (z:=rG kind x y) (Nr kind ts xg k) (by rw[akZ,M.out,getD_some hx.out,getD_some hy.out]) T);have HSk:=ae (HS.out k E);have n1:g≠m:=hS.bP (cs:=ints (upTo (mh kind kk ts xg) x0 k)) hO ah;have n2:g≠j:=hS.bP (cs:=ints (upTo (mQ kind ts xg) x1 k)) D ah;have n3:N≠m:=hT.bP (cs:=ints (upTo (mh kind kk ts xg) x0 k)) hO ah;have n4:N≠j:=hT.bP (cs:=ints (upTo (mQ kind ts xg) x1 k)) D ah;have m1':m≠l.heap.size:=fun e=>m1 e.symm;have m3':j≠m:=fun e=>m3 e.symm;clear T
   go_wp2_with fail
   refine bZ aj (fun O _=>?_);refine ag 0 64 ?_;refine ag 1 65 ?_;refine ag 2 66 ?_;refine ag 3 67 ?_;refine ag 4 68 ?_;refine ag 6 70 ?_;refine ag 7 71 ?_;refine ag 8 72 ?_;refine ag 9 73 ?_;refine ag 10 74 ?_;refine ay 5 fun K hK=>?_;go_simp
   (with_reducible refine(ZK om HSk).mono ?_)
   rintro e O ⟨rfl,_⟩;dsimp only;refine av hK ?_;clear hK K;refine ay 11 fun K hK=>?_;go_simp
   (with_reducible refine(akA).mono ?_)
   rintro e O ⟨rfl,_⟩;dsimp only;refine av hK ?_;clear hK K;refine ag 12 63 ?_;refine ag 13 76 ?_;refine ag 14 77 ?_;refine ag 15 16 ?_;refine ag 16 17 ?_;refine aO ?_
   go_wp2_with fail
   go_roundw
   case rel=>
    have a1:=(hO.at (w':=O)).aF k (kZ kind kk x (sec ts k) y);have a2:=(D.at (w':=O)).far (p:=⟨m,k,none⟩) m3' (.int .i64 (kZ kind kk x (sec ts k) y));have a3:=a2.aF k (rG kind x y);have a4:=a1.far (p:=⟨j,k,none⟩) m3 (.int .i64 (rG kind x y));rw[RF.out]at a4;rw[Ad.out]at a3;exact⟨k+1,om,by go_num,a4,a3,((hS.at (w':=O)).far (p:=⟨m,k,none⟩) n1 _).far (p:=⟨j,k,none⟩) n2 _,((hT.at (w':=O)).far (p:=⟨m,k,none⟩) n3 _).far (p:=⟨j,k,none⟩) n4 _,⟨((Bx.blk (w:=O)).far (p:=⟨m,k,none⟩) m1 _).far (p:=⟨j,k,none⟩) m2 _⟩,⟨((aL l O).setCell (p:=⟨m,k,none⟩) m4 _).setCell (p:=⟨j,k,none⟩) m5 _⟩⟩
   case measure=>simp[intOf];omega
  ·rw[I5 E]at hO;rw[I5 (by rw[L.out];exact E)]at D;obtain rfl:k=x0.length:=om
   go_wp2_with fail
   go_ret2;rw[hX.out,hY.out,hZ.out,M.out,HZ0.out];have hsz:=(aL w l).size;exact⟨l.heap.size,g,m,N,j,rfl,om,om,om,om,om,m3,by rw[Jj,Nr,<-L.out];rw[L.out]at hB⊢;exact hB,hS,hO,hT,D,ai _ _⟩
end
def tc(ts:List Tn):List Value:=ts.flatMap fun t=>[.slice t.A t.zs.length t.c,.slice t.B t.xs.length t.d]
theorem Nu(ts us:List Tn):tc (ts++us)=tc ts++tc us:=by simp[tc]
theorem Nv(ts:List Tn):(tc ts).length=ts.length*2:=by
 induction ts with
 |nil=>rfl
 |cons t l b=>simp[tc]at b⊢;omega
theorem SB:∀{ts:List Tn} {j:Nat} {t:Tn},ts[j]?=some t->(tc ts)[j*2]?=some (.slice t.A t.zs.length t.c)/\(tc ts)[j*2+1]?=some (.slice t.B t.xs.length t.d)
 |u::l,0,t,h=>by simp at h;subst h;simp[tc]
 |u::l,j+1,t,h=>by
  have:=SB (ts:=l) (j:=j) (t:=t) (by simpa using h);have e:tc (u::l)=[.slice u.A u.zs.length u.c,.slice u.B u.xs.length u.d]++tc l:=by simp[tc]
  rw[e,lC bD,lC bD];simp only[iJ,E8];rw[show(j+1)*2-(0+1+1)=j*2 from om,show(j+1)*2+1-(0+1+1)=j*2+1 from om];exact this
theorem ald(ts:List Tn):∀u∈tc ts,u.oneCell'=true:=by
 intro u hu;obtain⟨t,_,hu⟩:=CX.1 hu;simp at hu;rcases hu with rfl|rfl<;>rfl
def SF(w:World)(B:Nat)(A:Option Addr)(c:Nat)(ts:List Tn):Prop:=w.ownsRow B 28 2 (.slice A ts.length c) ts.length (tc ts)
def TE(w:World)(t:Tn):Prop:=Rd w t.A t.zs/\Rd w t.B t.xs/\t.xs.length<=t.d/\∀z∈t.xs,aR z
theorem TE.below{w w':World}{t:Tn}(h:TE w t)(hb:Below w.heap.size w w'):TE w' t:=⟨h.1.below hb,h.2.1.below hb,h.2.2⟩
theorem mJ.elems{w:World}{A:Option Addr}{ts:List Tn}(h:mJ w A ts):∀t∈ts,TE w t:=fun t ht=>by
 obtain⟨j,b⟩:=List.mem_iff_getElem?.1 ht;obtain⟨_,_,_,k⟩:=h j t b;exact⟨k.s,k.x,k.le,k.bd⟩
section
variable{w w':World}{B c:Nat}{A:Option Addr}{ts:List Tn}
theorem SF.trd(h:SF w B A c ts)(e:∀t∈ts,TE w t):mJ w A ts:=by
 rcases h.2 with⟨_,l⟩|⟨g,cap,cur,hv,y,hg,z,hm,C,ht⟩
 ·rw[rZ l];exact mJ.nil _ _
 ·injection hv with hv _ _
  subst hv;intro j t b;obtain⟨a0,m⟩:=SB b;have r:=(aY.1 b).1;have look:∀k v,k<ts.length*2->(tc ts)[k]?=some v->w.cell? ⟨g,k,none⟩=some v:=by
   intro k v u hv;rw[<-ht,l7,if_pos u]at hv;have:cur[k]?=some v:=by simpa using hv
   simp[World.cell?,hg,this]
  obtain⟨s,x,le,bd⟩:=e t (aK b);refine⟨g,0,rfl,(nz.1 hg).1,?_,?_,s,x,le,bd⟩
  ·rw[fo];exact look _ _ om a0
  ·rw[fo];exact look _ _ om m
end
def ze(ps:List Tn)(n:Nat):Array Value:=(tc ps++List.replicate ((n-ps.length)*2) (Value.slice none 0 0)).toArray
theorem Z7(n:Nat):madeCells #[Value.slice none 0 0,Value.slice none 0 0] (n*2)=ze [] n:=by
 apply Di;simp only[madeCells,Array.toList_map,Array.toList_range,ze,tc,List.flatMap_nil,Bo,E8,LP];apply LD
 ·simp
 ·intro i b e;simp only[List.getElem_map,List.getElem_range,List.getElem_replicate];rcases Ww i with h|h<;>simp[h]
theorem alf(n:Nat)(l:n<=1000000)(W:World):(Instr.makeSlice 23 (.int .i64 (n:Int)) (.int .i64 (n:Int))).run Tryz.prog W=.ok (.slice W.heap.size n n) (W.alloc (.cells (ze [] n) 28)):=by
 have b:(Tryz.prog.info? 28).map (fun i=>(i.zero,i.size,i.bytes))=some (some (.agg #[.slice none 0 0,.slice none 0 0]),2,48):=aj;obtain⟨i,hi,e⟩:=bN.1 b;simp only[jZ]at e;obtain⟨j,hs,hb⟩:=e;have:=zT (P:=Tryz.prog) W 23 28 i _ Tryz.underlying23 hi j .i64 .i64 n n om (jg _) (by rw[hs];simp;omega) (by rw[hb];omega) om;rw[hs]at this;rw[<-Z7];simpa[Value.cells]using this
theorem Z8(ps:List Tn){n:Nat}(h:ps.length<=n):(ze ps n).size=n*2:=by
 simp[ze,Nv];omega
section
set_option linter.unusedVariables false
theorem zf{b g o:Nat}(h:b<=g):bn b (some ⟨g,o,none⟩):=⟨fun ad e=>by injection e with e;subst e;exact h⟩
def fM(w:World)(b:Nat)(A:Option Addr)(n c:Nat)(L:List TV):Prop:=
 ∃ts,Ts w A n ts/\n<=c/\bn b A/\(∀t∈ts,bn b t.A/\bn b t.B/\t.zs.length<=t.c)/\ts.map Tn.tv=L
def Nw(w:World)(gp b:List TV)(e:Ending)(w':World):Prop:=
 ∃A n c B m d,e=.returned (.tuple #[.agg #[.slice A n c,.slice B m d],(0:Int)])/\fM w' w.heap.size A n c gp/\fM w' w.heap.size B m d b/\ak w' w
section
variable{w w':World}{A B C D:Option Addr}{n m n' m' c d c' d' b b' G:Nat}{zs xs ts ys:List Int}{us:List Tn}{L:List TV}{T:TypeId}
theorem fM.nil:fM w b none 0 0 []:=⟨[],Ts.empty,az _,bn.none,fun _ h=>absurd h au,rfl⟩
theorem fM.at(h:fM w b A n c L)[l:Later w w']:fM w' b A n c L:=by
 obtain⟨ts,e,j⟩:=h;exact⟨ts,⟨e.rd.below l.st,e.len⟩,j⟩
theorem fM.less(h:fM w b A n c L)(hb:b'<=b):fM w b' A n c L:=by
 obtain⟨ts,j,l,r,e,u⟩:=h;exact⟨ts,j,l,r.less hb,fun t ht=>⟨(e t ht).1.less hb,(e t ht).2.1.less hb,(e t ht).2.2⟩,u⟩
theorem mJ.far{p:Addr}(h:mJ w A us)(fA:bn b A)(ft:∀t∈us,bn b t.A/\bn b t.B/\t.zs.length<=t.c)(hp:p.block<b)(v:Value):mJ (w.setCell p v) A us:=fun j t E=>by
 obtain⟨g,o,rfl,k⟩:=h j t E;have ne:g≠p.block:=by have:=fA.out _ rfl;dsimp only at this;omega
 have F:∀i,(w.setCell p v).cell? ⟨g,i,none⟩=w.cell? ⟨g,i,none⟩:=fun i=>jG (dM w p v g ne);have ht:=ft t (aK E);have e:∀{A:Option Addr} {zs:List Int},Rd w A zs->bn b A->Rd (w.setCell p v) A zs:=fun{A zs} hr I j z J=>by
  obtain⟨l,o',rfl,r,u⟩:=hr j z J;have y:l≠p.block:=by have:=I.out _ rfl;dsimp only at this;omega
  exact⟨l,o',rfl,by simpa using r,(jG (dM w p v l y)).trans u⟩
 exact⟨g,o,rfl,⟨by simpa using k.old,(F _).trans k.c0,(F _).trans k.c1,e k.s ht.1,e k.x ht.2.1,k.le,k.bd⟩⟩
theorem fM.far{p:Addr}(h:fM w b A n c L)(hp:p.block<b)(v:Value):fM (w.setCell p v) b A n c L:=by
 obtain⟨ts,e,r,j,l,u⟩:=h;exact⟨ts,⟨e.rd.far j l hp v,e.len⟩,r,j,l,u⟩
theorem fM.dY(h:fM w b A n c L)(hp:G<b)(v0 v1:Value):fM ((w.setCell ⟨G,0,none⟩ v0).setCell ⟨G,1,none⟩ v1) b A n c L:=
 (h.far (p:=⟨G,0,none⟩) hp v0).far (p:=⟨G,1,none⟩) hp v1
theorem fM.one[Bx w G T #[.slice A n c,.slice B m d]][s:Sl w A n zs][Sl w B m xs][e:Le n c][Le m d][dh xs](j:b<=G)(fA:bn b A)(fB:bn b B):fM w b (some ⟨G,0,none⟩) 1 1 [(zs,xs)]:=
 ⟨_,Ts.Dn,az _,zf j,fun t ht=>by rw[gm.1 ht];exact⟨fA,fB,by rw[<-s.len];exact e.le⟩,rfl⟩
theorem fM.two[Bx w G T #[.slice A n c,.slice B m d,.slice C n' c',.slice D m' d']][s:Sl w A n zs][Sl w B m xs][j:Le n c][Le m d][dh xs][s':Sl w C n' ts][Sl w D m' ys][e:Le n' c'][Le m' d'][dh ys](l:b<=G)(fA:bn b A)(fB:bn b B)(r:bn b C)(u:bn b D):
  fM w b (some ⟨G,0,none⟩) 2 2 [(zs,xs),(ts,ys)]:=
 ⟨_,Ts.Md,az _,zf l,fun t ht=>by
  simp only[dz,mG,pI]at ht;rcases ht with rfl|rfl
  ·exact⟨fA,fB,by rw[<-s.len];exact j.le⟩
  ·exact⟨r,u,by rw[<-s'.len];exact e.le⟩,rfl⟩
theorem Z9{F:Func}{e:Act}{j r:World}{gp y:List TV}(k:Bx r G T #[.slice A n c,.slice B m d])[Later w j](z:w.heap.size<=G)(u:r=(j.setCell ⟨G,0,none⟩ (.slice A n c)).setCell ⟨G,1,none⟩ (.slice B m d))(hd:e.defers=[])
  (l:∀W:World,W.cell? ⟨G,0,none⟩=some (.slice A n c)->W.cell? ⟨G,1,none⟩=some (.slice B m d)->(results F e.tmps).run Tryz.prog W=.ok (.tuple #[.agg #[.slice A n c,.slice B m d],(0:Int)]) W)
  (E:fM j b A n c gp) (I:fM j b B m d y) (hb:G<b):bodyPost Tryz.prog F (Nw w gp y) .ret e r:=by
 obtain⟨r0,r1⟩:=fC k.blk;refine bM (l _ r0 r1) hd ⟨A,n,c,B,m,d,rfl,?_,?_,?_⟩
 ·rw[u];exact(E.dY hb _ _).less om
 ·rw[u];exact(I.dY hb _ _).less om
 ·rw[u];exact⟨gW (aL w j) z _ _⟩
def alg(w:World)(b:Nat)(L:List TV)(e:Ending)(w':World):Prop:=
 ∃G,e=.returned (.tuple #[.agg #[.slice none 0 0,.slice (some ⟨G,0,none⟩) 1 1],(0:Int)])/\fM w' b (some ⟨G,0,none⟩) 1 1 L/\ak w' w
theorem aaa{Q:World->Prop}{X:World}{T T' j:TypeId}{cs l e:Array Value}(h:∀u,ak u X->Bx u X.heap.size T cs->Bx u (X.heap.size+1) T' l->Bx u (X.heap.size+1+1) j e->u.heap.size=X.heap.size+1+1+1->Q u):Q (((X.alloc (.cells cs T)).alloc (.cells l T')).alloc (.cells e j)):=
 h _ (ai _ _) iin iin iin au
theorem aab{Q:World->Prop}{X:World}{T:TypeId}{cs:Array Value}(h:∀u,ak u X->Bx u X.heap.size T cs->Q u):Q (X.alloc (.cells cs T)):=h _ (ai _ _) iin
theorem alh{Q:World->Prop}{X:World}{T r y:TypeId}{cs e j:Array Value}(h:∀l u,ak l X->ak u l->Bx l X.heap.size T cs->Bx l (X.heap.size+1) r e->l.heap.size<=X.heap.size+1+1->Bx u (X.heap.size+1+1) y j->Q u):Q (((X.alloc (.cells cs T)).alloc (.cells e r)).alloc (.cells j y)):=
 h ((X.alloc (.cells cs T)).alloc (.cells e r)) _ (ai _ _) (ai _ _) iin iin au iin
theorem aac[Sl w A n zs][Sl w B m xs](l:n<=1000000)(hm:m<=1000000):Calls Tryz.prog 71 #[.agg #[.slice A n c,.slice B m d]] w fun e w'=>∃g j,e=.returned (.agg #[.slice (some ⟨g,0,none⟩) zs.length zs.length,.slice (some ⟨j,0,none⟩) xs.length xs.length])/\Sl w' (some ⟨g,0,none⟩) zs.length zs/\Sl w' (some ⟨j,0,none⟩) xs.length xs/\bn w.heap.size (some ⟨g,0,none⟩)/\bn w.heap.size (some ⟨j,0,none⟩)/\ak w' w:=
 (Ii l hm).mono fun _ _ ⟨g,j,h,r,u,o1,y,p⟩=>⟨g,j,h,⟨o1.rd,rfl⟩,⟨y.rd,rfl⟩,zf r,zf u,p⟩
theorem ali[Sl w A n zs][Sl w B m xs][Le n c][Le m d][dh xs](hb:b<=w.heap.size)(fA:bn b A)(fB:bn b B):
  Calls Tryz.prog 108 #[.agg #[.slice A n c,.slice B m d],(0:Int)] w (alg w b [(zs,xs)]):=by
 have e:=@bf;have j:=@dV;go_enter Tryz.func108,Tryz.ntmps108
 go_wp2_with fail
 refine aaa (fun u _ _ k1 k2 _=>?_);obtain⟨r0,r1⟩:=fC k1.blk;exact bM (v:=.tuple #[.agg #[.slice none 0 0,.slice (some ⟨w.heap.size+1+1,0,none⟩) 1 1],(0:Int)]) (by simp[results,Tryz.results108,go_sem,r0,r1]) rfl ⟨_,rfl,fM.one om fA fB,ai _ _⟩
theorem alj{v:Value}{p k:Nat}{V:Option Addr}(hv:v=.slice V p k):Calls Tryz.prog 110 #[v,(0:Int)] w (aM w (.tuple #[.agg #[.slice none 0 0,v],(0:Int)])):=by
 subst hv;have e:=@bf;have j:=@dV;go_enter Tryz.func110,Tryz.ntmps110
 go_wp2_with fail
 refine aab (fun u _ k1=>?_);obtain⟨r0,r1⟩:=fC k1.blk;exact bM (v:=.tuple #[.agg #[.slice none 0 0,.slice V p k],(0:Int)]) (by simp[results,Tryz.results110,go_sem,r0,r1]) rfl ⟨rfl,ai _ _⟩
end
end
end Go.Proofs.YtmkjnlifimffkaaGreat
