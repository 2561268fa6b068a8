/- Lemmas. -/
import Derived.Test.YtmkjnlifimffkaaGreatF12
import Derived.Test.YtmkjnlifimffkaaGreatF13
import Derived.LoopN
namespace Go.Proofs.YtmkjnlifimffkaaGreat
open Go.RowKit Tryz
set_option linter.all false
set_option maxRecDepth 100000
set_option maxHeartbeats 0
variable{ts us:List Tn}{kk side st z:Int}{t:Tn}{O xs ys zs:List Int}{R S Z c c' c2 cx d d' d2 e j m n2:Nat}{L:List (List Int)}{X w':World}{A B C:Option Addr}{T T':TypeId}{i4:Array Value}
section
set_option linter.unusedVariables false
abbrev TV:=List Int×List Int
def Tn.tv(t:Tn):TV:=(t.zs,t.xs)
def sE(v:TV):Tn:=⟨none,0,v.1,none,0,v.2⟩
def Vf(b:Int)(x:TV)(V:List Int)(W S:Int):List Int:=je (hh b W.toNat) x.2 (eN x.1).toNat (eN V).toNat S.toNat W.toNat (aN V).toNat
def f7(o:gj):Prop:=o.kd=7\/o.kd=8\/o.kd=12
noncomputable def xL(o:gj)(ps xs:List TV):List Int:=
 if o.kd=8 then fY (ps.getD 0 ([],[])).2 (ps.getD 1 ([],[])).2 (xs.getD 0 ([],[])).2 (ps.getD 1 ([],[])).2.length
 else if o.kd=9 then(xs.getD 0 ([],[])).2.zipWith cA (ps.getD 0 ([],[])).2
 else if o.kd=10 then[]
 else if o.kd=11 then Vf 1 (xs.getD 0 ([],[])) (cy o (ps.map (·.1)) (xs.map (·.1))) o.wd o.st
 else if o.kd=12 then Vf 2 (xs.getD 0 ([],[])) (cy o (ps.map (·.1)) (xs.map (·.1))) o.wd o.st
 else if o.kd=13 then[]
 else if o.kd=14 then[]
 else if o.kd=15 then(xs.getD 0 ([],[])).2
 else qu o.kd o.k (xs.map sE) (xs.getD 0 ([],[])).2.length
section
variable{o:gj}{P X:List (List Int)}
def Vg{k:Nat}(h:ts[k]?=some t):(ts.map Tn.tv).getD k ([],[])=(t.zs,t.xs):=by
 rw[aX,bj,h];rfl
def wz{k:Nat}{x:List Int}(h:(ts.map Tn.tv).getD k ([],[])=(O,x)):(ts.map (·.zs)).getD k []=O:=by
 rw[aX,bj]at h⊢;cases b:ts[k]? with
 |none=>rw[b]at h;exact(en h).1
 |some t=>rw[b]at h;exact(en h).1
def KU:(ts.map Tn.tv).map (·.1)=ts.map (·.zs):=by rw[p4];rfl
def QE:(ts.map Tn.tv).map sE=ts.map λt=>sE (t.zs,t.xs):=by rw[p4];rfl
def KV(i:Nat):sec ((ts.map Tn.tv).map sE) i=sec ts i:=by
 unfold sec;rw[QE,bj];cases ts[1]?<;>rfl
def Do:hA ((ts.map Tn.tv).map sE)=hA ts:=by
 unfold hA;rw[QE,bj];cases ts[0]?<;>rfl
def Vh{k:Int}:qu z k ((ts.map Tn.tv).map sE) m=qu z k ts m:=by
 unfold qu;rw[Do];exact fj λi _=>by rw[KV]
def jg(hE:mU L=0):∀z∈L,z=mT L:=by
 unfold mU at hE
 split at hE
 .rename_i hs;intro z b;rw[mT,ah hs];exact nm (cZ.1 hs z b)
 .exact absurd hE ak
end
section
variable{w:World}{D E F:Option Addr}{n m' m2:Nat}{ts us vs:List Int}
def Y6[a:Sl w A n zs][b:Sl w B m xs][e:Sl w C R ts][j:Sl w D m' ys][l:Sl w E n2 us][r:Sl w F m2 vs][ld:Le m d][y:dp xs][z:dp ys][G:dp vs](u:n2<=1000000){L:List Int}(hr:Hx (eb zs xs ts ys us vs=true))(hL:Hx (L=fY xs ys vs ys.length)):
  () 158 #[.agg #[.slice A n c,.slice B m d],.agg #[.slice C R c',.slice D m' d'],.agg #[.slice E n2 c2,.slice F m2 d2]] w (he w ts L 0):=by
 obtain⟨a,rfl⟩:=a;obtain⟨b,rfl⟩:=b;obtain⟨e,rfl⟩:=e;obtain⟨j,rfl⟩:=j;obtain⟨l,rfl⟩:=l;obtain⟨r,rfl⟩:=r;rw[hL.o];exact HR (MD A B C D E F c d c' d' c2 d2 zs xs ts ys us vs w ld.le u a b e j l r (ae y.bd) (ae z.bd) (ae G.bd) hr)
def II{Q:World->Prop}{cs:Array Value}(h:∀b u,aj b X->aj u b->Bx b X T cs->b.heap.size<=X.heap.size+1->Bx u (X.heap.size+1) T' i4->Q u):Q ((X.alloc (.cells cs T)).alloc (.cells i4 T')):=
 h (X.alloc (.cells cs T)) _ (ab _ _) (ab _ _) ao aG ao
end
section
variable{w:World}{n:Nat}{V X:List Int}
def Vi{wd:Int}{W:Nat}[Sl w A n zs][Sl w B m xs][dp xs][Le m d](b:Hx (wd=(W:Int)/\st=(S:Int)))(e:n<=1000000)(hr:aJ zs xs=true)(l:z=1\/z=2)(r:Hx (PW zs V R Z j W S))(u:Hx (X=je (hh z W) xs Z j S W (R*j))):
  () 161 #[z,.agg #[.slice A n c,.slice B m d],wd,st] w (he w V X 0):=by
 rw[b.o.1,b.o.2];exact IC e hr l r u
def Vj[Ts w A n us][I6 kk](j:Hx (∀t∈us,t.zs.length<=1000000))(hE:gR z us=0)(l:Hx (V=lF us))(r:Hx (X=qu z kk us (hA us).length)):() 165 #[z,kk,.slice A n c] w (he w V X 0):=
 (IH j hE l r).mono λe w' ⟨g,D,u,b,hg,oS,y,hp⟩=>⟨_,_,_,_,u,⟨oS.rd,rfl⟩,⟨y.rd,rfl⟩,Le.same _,Le.same _,⟨λC e=>by injection e with e;subst e;exact b⟩,⟨λC e=>by injection e with e;subst e;exact hg⟩,hp⟩
end
def fo(b:List Tn):Prop:=∀t∈b,aJ t.zs t.xs=true/\t.zs.length<=t.c
def fo.len(h:fo ts)(ht:t∈ts):t.zs.length<=4:=cw ((bf _ _).1 (h t ht).1).1
def Ts.xM{w:World}{n:Nat}(h:Ts w A n ts)(hr:Hx (fo ts)){k:Nat}(r:k<n):∃b o j n1 c1 zs l m1 d1 xs,A=some ⟨b,o,none⟩/\Old b w/\w.cell? ⟨b,o+k*2,none⟩=some (.slice j n1 c1)/\w.cell? ⟨b,o+k*2+1,none⟩=some (.slice l m1 d1)/\
  Sl w j n1 zs/\Sl w l m1 xs/\Le n1 c1/\Le m1 d1/\dp xs/\n1<=4/\m1<=65536/\Hx (aJ zs xs=true)/\Hx ((ts.map Tn.tv).getD k ([],[])=(zs,xs)):=by
 obtain⟨b,o,j,c1,zs,l,d1,xs,e,ob,v0,u,y,z,l1,i1,ht⟩:=h.get r;obtain⟨m,B⟩:=hr.o _ (aC ht.o);exact⟨b,o,j,_,c1,zs,l,_,d1,xs,e,ob,v0,u,y,z,⟨B⟩,⟨l1⟩,i1,(jO m).2,(jO m).1,ae m,ae (Vg ht.o)⟩
section
variable{w:World}{n nx:Nat}{o:gj}
def Y7[Sl w A n o.S][I6 o.k](hn:n<=1000000)[a:Ts w B m ts][x:Ts w C nx us][Le nx cx](hx:nx<=1000000)(hT:Hx (fo ts))(hU:Hx (fo us))(hE:da o (ts.map (·.zs)) (us.map (·.zs))=0)(hq:Hx (f7 o)){V X:List Int}
  (hV:Hx (cy o (ts.map (·.zs)) (us.map (·.zs))=V)) (F:Hx (xL o (ts.map Tn.tv) (us.map Tn.tv)=X)):
  () 102 #[.agg (fL o.kd o.k o.wd o.st o.sd o.fr o.tt (.slice A n d)),.slice B m e,.slice C nx cx] w (he w V X 0):=by
 obtain⟨CB,CP,FB⟩:=ha;obtain⟨hc,hP,Y8,hk⟩:=ib hE;obtain⟨i0,i1,i2,i3⟩:=uA hc;have HC:Hx (kT o.kd o.k o.wd o.st o.sd o.fr o.tt o.S m nx=0):=ae (by rw[<-hc,gj.cnt,a.len,x.len,br,br]);have IM:Hx ((m:Int)=g7 o.kd):=ae (by rw[<-i3,a.len,br]);have IX:Hx (0<nx):=ae (by rw[x.len];rw[br]at i1;unfold fM at i1;split at i1<;>omega);have IN:Hx (¬o.kd=8/\¬o.kd=9/\¬o.kd=10/\¬o.kd=11/\¬o.kd=12/\¬o.kd=13/\¬o.kd=14/\¬o.kd=15->(nx:Int)=f6 o.kd/\f6 o.kd≠0):=ae λh=>by
  obtain⟨kl,kh⟩:=ww i0;rw[br,<-x.len]at i1 i2;unfold fM at i1;unfold ia at i2;unfold f6;by_cases h6:o.kd=6\/o.kd=7
  .rw[ah h6]at i1 i2⊢;rw[ag om];omega
  .rw[ag h6]at i1 i2;rw[ag om]at i2;rw[ah om];omega
 have nT:Hx (fD o (ts.map (·.zs)) (us.map (·.zs))=V):=ae (by rw[<-hV.o,cy,ah hE]);have HK:=ae hk;have Vk:=F.o;unfold xL at Vk;rw[KU,KU,hV.o]at Vk;have HX:=ae Vk;obtain⟨b0,q0,A0,n0,c0,z0,B0,m0,d0,x0,rfl,YF,v0,v1,s0,t0,lc0,ld0,ix0,n04,m06,r0,e0⟩:=x.xM hU (k:=0) IX.o;have D0:Hx ((us.map (·.zs)).getD 0 []=z0):=ae (wz e0.o);simp only[jt,gE]at v0 v1;have x1:0<nx:=IX.o;have P1:∀k:Nat,k<m->∃b o A1 n1 c1 zs B1 m1 d1 xs,B=some ⟨b,o,none⟩/\Old b w/\w.cell? ⟨b,o+k*2,none⟩=some (.slice A1 n1 c1)/\w.cell? ⟨b,o+k*2+1,none⟩=some (.slice B1 m1 d1)/\Sl w A1 n1 zs/\Sl w B1 m1 xs/\Le n1 c1/\Le m1 d1/\dp xs/\n1<=4/\m1<=65536/\Hx (aJ zs xs=true)/\Hx ((ts.map Tn.tv).getD k ([],[])=(zs,xs))/\Hx ((ts.map (·.zs)).getD k []=zs):=λk hk=>by
  obtain⟨b,o,A1,n1,c1,zs,B1,m1,d1,xs,h1,h2,h3,h4,h5,h6,h7,h8,h9,QF,xB,Dd,IJ⟩:=a.xM hT hk;exact⟨b,o,A1,n1,c1,zs,B1,m1,d1,xs,h1,h2,h3,h4,h5,h6,h7,h8,h9,QF,xB,Dd,IJ,ae (wz IJ.o)⟩
 have IK:=ae P1;clear hc hP Y8 hk i0 i1 i2 i3 Vk IX P1 hE hV F;go_enter func102,ntmps102
 go_upto_region 1 with fail
 refine II (λL u _ _ k0 hz k1=>?_);by_cases G:o.kd=8
 .have tE:m=2:=by have:=IM.o;rw[g7,ah G]at this;omega
  obtain⟨b1,q1,A1,n1,c1,z1,B1,m1,d1,M3,e1,q6,Y9,Za,s1,t1,lc1,ld1,ix1,n14,m16,r1,Zb,Zc⟩:=IK.o 0 om;obtain⟨b2,q2,A2,n2,c2,z2,B2,m2,d2,QG,e2,jf,Zd,Ze,s2,t2,lc2,ld2,ix2,n24,m26,r2,Zf,Zg⟩:=IK.o 1 om;subst e1;injection e2 with e2;injection e2 with e2 e3;subst e2 e3
  simp only[jt,gE,ny]at Y9 Za Zd Ze;have hV:=nT.o;have F:=HX.o;have hK:=HK.o;rw[fD,ah G]at hV;rw[ah G]at F;rw[e4,ah G]at hK;rw[Zc.o,Zg.o,D0.o]at hV hK;rw[Zb.o,Zf.o,e0.o]at F;have HG:Hx (eb z1 M3 z2 QG z0 x0=true/\V=z2):=ae (by
   have hB:ho z1 z2 z0=true:=by
    unfold kW at hK
    split at hK
    .assumption
    .exact absurd hK ak
   rw[kV,ah hB]at hV;simp only[ho,bW,cu]at hB;obtain⟨⟨⟨⟨g1,g2⟩,g3⟩,g4⟩,g5⟩:=hB;have f0:=((bf _ _).1 r0.o).2;have e:z2=[z1.getD 0 0]:=by
    match z2,g2,g3 with
    |[y],_,g3=>rw[<-g3];rfl
   refine⟨?_,by rw[<-hV,e]⟩;simp only[eb,kX,bW,cu];exact⟨⟨⟨⟨⟨r1.o,g1⟩,r2.o⟩,r0.o⟩,e⟩,by rw[f0,g5]⟩)
  obtain rfl:=HG.o.2;have Ai:Hx (X=fY M3 QG x0 QG.length):=ae F.symm;have g1:0<m:=om;have g2:(1:Int)<(m:Int):=by omega
  have h8:(o.kd==8)=true:=by simpa using G
  clear G;clear tE hV F hK
  go_upto_region 6 with(first|(go_at_call 104;(with_reducible refine(fC hn HC).mono ?_);rintro e u ⟨rfl,_⟩))
  refine aH L aq (λQ _=>?_);refine ap 0 ?_;refine ap 1 ?_;refine ap 2 ?_;refine ap 3 ?_;refine ap 4 ?_;refine ap 5 ?_;refine ap 6 ?_;refine ap 7 ?_;refine ap 8 ?_;refine aM 9 λK hK=>?_;go_simp
  (with_reducible refine(Y6 om (ae HG.o.1) Ai).mono ?_)
  rintro e Q ⟨I,P,J,d',rfl,sA,sX,lA,lX,fA,fX,_⟩;dsimp only;refine aL hK ?_;clear hK K;refine ap 10 ?_;refine ap 11 ?_;refine aM 12 λK hK=>?_;go_simp;obtain⟨E,j⟩:=lg ((Q.setCell ⟨w.heap.size+1,0,none⟩ (.slice I V P)).setCell ⟨w.heap.size+1,1,none⟩ (.slice J X d'));rw[<-j];have z:Below (World.heap L).size L E:=by rw[j];exact cM (a7 L Q) hz _ _
  have Sv9:∀b,b<Q.heap.size->b≠w.heap.size+1->(World.heap E)[b]?=Q.heap[b]?:=λb _ hb=>by rw[j];exact(bm _ ⟨w.heap.size+1,1,none⟩ _ b hb).trans (bm _ ⟨w.heap.size+1,0,none⟩ _ b hb)
  have T:Bx E (w.heap.size+1) _ #[.slice I V P,.slice J X d']:=⟨by rw[j];exact aB.cY (Bx.al (w:=Q) (g:=w.heap.size+1)) _ _⟩;have U:Sl E I (V.length) V:=by rw[j];exact sA.cU fA (Bx.al (g:=w.heap.size+1)).lt _ _
  have Y:Sl E J (X.length) X:=by rw[j];exact sX.cU fX (Bx.al (g:=w.heap.size+1)).lt _ _
  have Dp:aj E L:=⟨z⟩;refine aL hK ?_ ⟨z⟩;clear hK K j;refine ap 13 ?_;refine aZ ?_
  go_wp2_with fail
  obtain⟨r0,r1⟩:=di T.al;refine a8 (v:=.tuple #[.agg #[.slice I V P,.slice J X d'],au]) (by simp[results,results102,go_sem,r0,r1]) rfl ⟨I,P,J,d',rfl,U,Y,lA,lX,fA.less ai,fX.less ai,⟨dW (a7 w L) z⟩⟩
 have h8:(o.kd==8)=false:=by simpa using G
 have k9:¬o.kd=9:=by have:=hq.o;unfold f7 at this;omega
 have h9:(o.kd==9)=false:=by simpa using k9
 have r:¬o.kd=10:=by have:=hq.o;unfold f7 at this;omega
 have QF:(o.kd==10)=false:=by simpa using r
 have D:¬o.kd=11:=by have:=hq.o;unfold f7 at this;omega
 have xB:(o.kd==11)=false:=by simpa using D
 by_cases l:o.kd=12
 .have hV:=nT.o;have F:=HX.o;have hK:=HK.o;rw[fD,ag G,ag k9,ag r,ah (.inr l)]at hV;rw[ag G,ag k9,ag r,ag D,ah l]at F;rw[e4,ag G,ag k9,ag r,ah (.inr l)]at hK;rw[D0.o]at hV hK;rw[e0.o]at F;obtain⟨R,Z,nn,W',S',hW,hS,pw⟩:=PW.of hK;rw[hV]at pw;have Zh:=ae pw;have Ai:Hx (X=je (hh 2 W') x0 Z nn S' W' (R*nn)):=ae (by
   rw[<-F,Vf,hW,hS];have e1:eN z0=(Z:Int):=by rw[eN,aX,pw.at_];rfl
   have e2:eN V=(nn:Int):=by
    rw[eN,pw.v,ej,aX,h0 (by have:=pw.len;omega)];rfl
   rw[e1,e2,pw.C9];simp only[bI])
  have QH:=ae (And.intro hW hS);have Dd:(o.kd==12)=true:=by simpa using l
  clear G k9 r D l;clear hV F hK pw hW hS
  go_upto_region 14 with(first|(go_at_call 104;(with_reducible refine(fC hn HC).mono ?_);rintro e u ⟨rfl,_⟩))
  refine aH L aq (λQ _=>?_);refine ap 0 ?_;refine ap 1 ?_;refine ap 2 ?_;refine ap 3 ?_;refine ap 4 ?_;refine ap 5 ?_;refine ap 6 ?_;refine aM 7 λK hK=>?_;go_simp
  (with_reducible refine(Vi QH om r0.o (.inr rfl) Zh Ai).mono ?_)
  rintro e Q ⟨I,P,J,d',rfl,sA,sX,lA,lX,fA,fX,_⟩;dsimp only;refine aL hK ?_;clear hK K;refine ap 8 ?_;refine ap 9 ?_;refine aM 10 λK hK=>?_;go_simp;obtain⟨E,j⟩:=lg ((Q.setCell ⟨w.heap.size+1,0,none⟩ (.slice I V P)).setCell ⟨w.heap.size+1,1,none⟩ (.slice J X d'));rw[<-j];have z:Below (World.heap L).size L E:=by rw[j];exact cM (a7 L Q) hz _ _
  have Sv9:∀b,b<Q.heap.size->b≠w.heap.size+1->(World.heap E)[b]?=Q.heap[b]?:=λb _ hb=>by rw[j];exact(bm _ ⟨w.heap.size+1,1,none⟩ _ b hb).trans (bm _ ⟨w.heap.size+1,0,none⟩ _ b hb)
  have T:Bx E (w.heap.size+1) _ #[.slice I V P,.slice J X d']:=⟨by rw[j];exact aB.cY (Bx.al (w:=Q) (g:=w.heap.size+1)) _ _⟩;have U:Sl E I (V.length) V:=by rw[j];exact sA.cU fA (Bx.al (g:=w.heap.size+1)).lt _ _
  have Y:Sl E J (X.length) X:=by rw[j];exact sX.cU fX (Bx.al (g:=w.heap.size+1)).lt _ _
  have Dp:aj E L:=⟨z⟩;refine aL hK ?_ ⟨z⟩;clear hK K j;refine ap 11 ?_;refine aZ ?_
  go_wp2_with fail
  obtain⟨r0,r1⟩:=di T.al;refine a8 (v:=.tuple #[.agg #[.slice I V P,.slice J X d'],au]) (by simp[results,results102,go_sem,r0,r1]) rfl ⟨I,P,J,d',rfl,U,Y,lA,lX,fA.less ai,fX.less ai,⟨dW (a7 w L) z⟩⟩
 have Dd:(o.kd==12)=false:=by simpa using l
 have M:¬o.kd=13:=by have:=hq.o;unfold f7 at this;omega
 have IJ:(o.kd==13)=false:=by simpa using M
 have N:¬o.kd=14:=by have:=hq.o;unfold f7 at this;omega
 have h14:(o.kd==14)=false:=by simpa using N
 have O:¬o.kd=15:=by have:=hq.o;unfold f7 at this;omega
 have h15:(o.kd==15)=false:=by simpa using O
 have hV:=nT.o;have F:=HX.o;have hK:=HK.o;rw[fD,ag G,ag k9,ag r,ag (show¬(o.kd=11\/o.kd=12)from λh=>h.elim D l),ag M,ag N,ag O]at hV;rw[ag G,ag k9,ag r,ag D,ag l,ag M,ag N,ag O]at F;rw[e4,ag G,ag k9,ag r,ag (show¬(o.kd=11\/o.kd=12)from λh=>h.elim D l),ag M,ag N,ag O]at hK;rw[e0.o,Vh]at F;have HG:Hx (gR o.kd us=0/\V=lF us/\X=qu o.kd o.k us (hA us).length):=ae (by
  have hn:(us.length:Int)=f6 o.kd:=by rw[<-x.len];exact(IN.o ⟨G,k9,r,D,l,M,N,O⟩).1
  have h1:lF us=V:=by
   have e:lF us=z0:=by rw[<-D0.o,lF,aX,bj]
   rw[e,<-hV];exact jg hK z0 (by
    rw[<-D0.o,aX];have:0<us.length:=by have:=x.len;omega
    rw[bj,bc this];exact bC.2 ⟨_,nb this,rfl⟩)
  refine⟨?_,h1.symm,?_⟩
  .unfold gR;rw[ag (IN.o ⟨G,k9,r,D,l,M,N,O⟩).2,ah hn,ah];rw[cZ];intro t ht;unfold Ah;rw[(hU.o t ht).1,h1,<-hV];simpa using jg hK t.zs (bC.2 ⟨t,ht,rfl⟩)
  .rw[<-F];congr 1;have:0<us.length:=by have:=x.len;omega
   have e:=e0.o;rw[aX,bj,bc this]at e;rw[hA,bc this];exact cv (λv=>v.2.length) e.symm)
 have HZ:Hx (∀t∈us,t.zs.length<=1000000):=ae λt ht=>by have:=hU.o.len ht;omega
 clear G k9 r D l M N O hV F hK
 go_wp2_with (first|(go_at_call 104;(with_reducible refine(fC hn HC).mono ?_);rintro e u ⟨rfl,_⟩)|(go_at_call 165;(with_reducible refine(Vj HZ HG.o.1 (ae HG.o.2.1) (ae HG.o.2.2)).mono ?_);rintro e u ⟨I,P,J,d',rfl,sA,sX,lA,lX,fA,fX,_⟩))
 obtain⟨E,j⟩:=lg ((u.setCell ⟨w.heap.size+1,0,none⟩ (.slice I V P)).setCell ⟨w.heap.size+1,1,none⟩ (.slice J X d'));rw[<-j];have z:Below (World.heap L).size L E:=by rw[j];exact cM (a7 L u) hz _ _
 have T:Bx E (w.heap.size+1) _ #[.slice I V P,.slice J X d']:=⟨by rw[j];exact aB.cY (Bx.al (w:=u) (g:=w.heap.size+1)) _ _⟩;have U:Sl E I V V:=by rw[j];exact sA.cU fA (Bx.al (g:=w.heap.size+1)).lt _ _
 have Y:Sl E J X X:=by rw[j];exact sX.cU fX (Bx.al (g:=w.heap.size+1)).lt _ _
 clear j;obtain⟨r0,r1⟩:=di T.al;refine a8 (v:=.tuple #[.agg #[.slice I V P,.slice J X d'],au]) (by simp[results,results102,go_sem,r0,r1]) rfl ⟨I,P,J,d',rfl,U,Y,lA,lX,fA.less ai,fX.less ai,⟨dW (a7 w L) z⟩⟩
end
end
variable{kind:Int}{q:Nat}{xg zg:List Int}
def mA(b k:Int)(e:List Tn)(gs:av)(m:Nat):List Int:=(List.range m).map λi=>dw b k ((hA e).getD i 0) (sec e i) (gs.getD i 0)
def mX(b:Int)(e:List Tn)(gs:av)(m:Nat):List Int:=(List.range m).map λi=>fN b ((hA e).getD i 0) (gs.getD i 0)
def jR(b k:Int)(e:List Tn)(gs:av)(m:Nat):(mA b k e gs m).length=m:=by simp[mA]
def M4(b k:Int)(e:List Tn)(gs:av)(m:Nat):mA b k e gs (m+1)=mA b k e gs m++[dw b k ((hA e).getD m 0) (sec e m) (gs.getD m 0)]:=by simp[mA,j0]
def l6(b:Int)(e:List Tn)(gs:av)(m:Nat):(mX b e gs m).length=m:=by simp[mX]
def M5(b:Int)(e:List Tn)(gs:av)(m:Nat):mX b e gs (m+1)=mX b e gs m++[fN b ((hA e).getD m 0) (gs.getD m 0)]:=by simp[mX,j0]
def getD_some{l:av}{k:Nat}(h:l[k]?=some z):l.getD k 0=z:=by rw[aX,h];rfl
def IL(n:Nat)(l:n<=2)(W:ay):(Instr.makeSlice 23 (n:Int) (n:Int)).run prog W=.ok (W,n,n) (W.alloc (.cells (madeCells #[(),()] (n*2)) 28)):=by
 have b:(prog.info? 28).map (λi=>(i.zero,i.size,i.bytes))=some (some (.agg #[(),()]),2,48):=aq;obtain⟨i,hi,e⟩:=bD.1 b;simp only[dL]at e;obtain⟨j,hs,hb⟩:=e;have:=lP (P:=prog) W 23 28 i _ underlying23 hi j .i64 .i64 n n om (dM _) (by rw[hs];simp;omega) (by rw[hb];omega) om;rw[hs]at this;simpa[Value.cells]using this
def Zi:madeCells #[(),()] 4= #[.slice none 0 0,.slice none 0 0,.slice none 0 0,.slice none 0 0]:=aq
def Zj(w:ay)(z X l Y:av)(e:Ending)(w':ay):Prop:=
 ∃G m b r j,e=.returned (.tuple #[.slice (some ⟨G,0,none⟩) 2 2,au])/\w.1.size<=G/\w.1.size<=m/\w.1.size<=r/\w.1.size<=b/\w.1.size<=j/\b≠j/\
  Bx w' G 28 #[.slice (some ⟨m,0,none⟩) z z.length,.slice (some ⟨b,0,none⟩) X X.length,.slice (some ⟨r,0,none⟩) l l.length,.slice (some ⟨j,0,none⟩) Y Y.length]/\
  Own w' m 3 z/\Own w' b 65 X/\Own w' r 3 l/\Own w' j 65 Y/\aj w' w
variable{g:Nat}{Y:List Int}
def aB.Zk{w:ay}{a b c d:Value}(h:aB w g T #[a,b,c,d])(v0 e:Value):aB ((w.setCell (g,0) v0).setCell (g,1) e) g T #[v0,e,c,d]:=by simpa using(h.ax 0 v0).ax 1 e
def aB.Zl{w:ay}{a b c d:Value}(h:aB w g T #[a,b,c,d])(v0 e:Value):aB ((w.setCell (g,2) v0).setCell (g,3) e) g T #[a,b,v0,e]:=by simpa using(h.ax 2 v0).ax 3 e
def Own.KW{w:ay}{p:Nat}(h:Own w g T zs)(hp:g≠p)(v0 b:Value):Own ((w.setCell (p,2) v0).setCell (p,3) b) g T zs:=(h.a9 (p:=⟨p,2,none⟩) hp v0).a9 (p:=⟨p,3,none⟩) hp b
def Vl{w:ay}{n p:Nat}(h:Below n w w')(hp:n<=p)(v0 b:Value):Below n w ((w'.setCell (p,2) v0).setCell (p,3) b):=(h.setCell (p:=⟨p,2,none⟩) hp v0).setCell (p:=⟨p,3,none⟩) hp b
section
variable{w:World}{n p:Nat}
def Dq[a:Ts w A 2 ts][I6 kk][Sl w B p zg][xG:Sl w C q xg][dp xg](hp:p<=1000000)(hz:Hx (∀t∈ts,t.zs.length<=1000000))(hE:gR kind ts=0)(hr:aJ zg xg=true)(hs:zg=lF ts){X:av}(hZ:Hx (O=lF ts))(hX:Hx (X=mA kind kk ts xg (hA ts).length))(hY:Hx (Y=mX kind ts xg (hA ts).length)):
  () 114 #[kind,kk,.agg #[(B,p,d),(C,q,R)],(A,2,c)] w (Zj w O X O Y):=by
 have CB:=@aa;have FB:=@aP;have CP:=@bL;obtain⟨-,-,-,F⟩:=tI hE;obtain⟨b,o,A0,c0,z0,B0,d0,x0,rfl,ob,q0,q1,s0,t0,rh,i0,Q⟩:=a.get (k:=0) om;obtain⟨b',o',A1,c1,z1,B1,d1,x1,eA,-,q2,q3,s1,t1,MK,i1,XC⟩:=a.get (k:=1) om;injection eA with eA
 injection eA with eb eo
 subst eb eo;simp only[jt,gE,ny]at q0 q1 q2 q3;have I:=(F _ (aC Q.o)).1;have S:=(F _ (aC XC.o)).1;have J:=(F _ (aC XC.o)).2;obtain⟨lx,lx1,lz⟩:=xw I;simp only at lx lx1 lz J I S;have M:Hx (hA ts=x0):=ae (by simp[hA,Q.o]);have ri:Hx (lF ts=z0):=ae (by simp[lF,Q.o]);have HS:Hx (∀i,i<x0.length->∀t,ts[1]?=some t->i<t.xs.length):=λi hi t ht=>by
  rw[Fx hE (aC ht),M.o];exact hi
 have HI:=ae λi=>Dn a.rd i;rw[ri.o]at hs J;replace J:=hs.trans J.symm;subst hs;subst J;have Qi:Hx (xg.length=x0.length):=tB hr I;have vm:x1.length=x0.length:=tB S I;have L:=ae vm;have lx':x1.length<=65536:=om;obtain⟨xG,rfl⟩:=xG;have xG:Sl w C xg xg:=⟨xG,rfl⟩;have hs:decide (zg=zg)=true:=ef rfl;have pt:∀W:World,(Instr.makeSlice 23 (2:Int) (2:Int)).run prog W=.ok (.slice (some ⟨W.1.size,0,none⟩) 2 2) (W.alloc (.cells #[(),(),(),()] 28)):=λW=>by
  have:=IL 2 om W;rw[show 2*2=4 from rfl,Zi]at this;exact this
 clear F I S vm
 go_in
 go_wp2_with (go_at_call 180;(with_reducible refine(AX hz).mono ?_);rintro e u ⟨rfl,_⟩)
 refine am aq (λl _=>?_);refine ap 0 ?_;refine aM 1 λK hK=>?_;go_simp
 (with_reducible refine(d9 om).mono ?_)
 rintro e l ⟨rfl,_⟩;dsimp only;refine aL hK ?_;refine qL [2,3,4,5,6,7,8,9] ?_;refine aM 10 λK hK=>?_;go_simp
 (with_reducible refine(i7 om om).mono ?_)
 rintro e l ⟨rfl,_⟩;dsimp only;refine aL hK ?_;refine qL [11,12] ?_;refine aZ ?_
 go_wp2_with fail
 refine ado 3 ?_;rw[hU]
 go_wp2_with fail
 refine qS (λv pv kG kE=>?_);refine(o8 om om).mono ?_;rintro e w1 ⟨g,m,rfl,hg,YA,oS,oX,Ix⟩;have kG1:Bx w1 l.1.size 28 #[(),(),(),()]:=ao;have hvx:l.1.size<v.1.size:=kG.al.lt
 go_wp2_with fail
 obtain⟨w5,G⟩:=lg ((w1.setCell (l.1.size,0) (.slice g zg zg.length)).setCell (l.1.size,1) (.slice m x0 x0.length));have Vm:Bx w5 l.1.size 28 #[.slice g zg zg.length,.slice m x0 x0.length,(),()]:=⟨G▸kG1.al.Zk _ _⟩;have T:Own w5 g 3 zg:=G▸oS.cU om _ _;have U:Own w5 m 65 x0:=G▸oX.cU om _ _;have p5:aj w5 l:=⟨G▸cM (a7 l w1) (an _) _ _⟩;rw[<-G];clear G oS oX kG1;rw[hU]
 go_wp2_with fail
 refine dO (λv2 M6 kE2=>?_);refine(o8 om om).mono ?_;rintro e w6 ⟨N,j,rfl,qt,aa7,Qw,MR,Zm⟩;have QI:Bx w6 l.1.size 28 #[.slice g zg zg.length,.slice m x0 x0.length,(),()]:=ao;have IM:w5.1.size<=v2.1.size:=ai;have hl5:=T.lt;have aa8:=U.lt;have hG5:=Vm.al.lt;have oS6:=T.at (w':=w6);have oX6:=U.at (w':=w6)
 go_wp2_with fail
 obtain⟨w7,r⟩:=lg ((w6.setCell (l.1.size,2) (.slice N zg zg.length)).setCell (l.1.size,3) (.slice j x1 x1.length));have kG7:Bx w7 l.1.size 28 #[.slice g zg zg.length,.slice m x0 x0.length,.slice N zg zg.length,.slice j x1 x1.length]:=⟨r▸QI.al.Zl _ _⟩;have oS7:Own w7 g 3 zg:=r▸oS6.KW om _ _;have oX7:Own w7 m 65 x0:=r▸oX6.KW om _ _;have oT7:Own w7 N 3 zg:=r▸Qw.KW om _ _;have oY7:Own w7 j 65 x1:=r▸MR.KW om _ _;have p7:aj w7 l:=⟨r▸Vl (a7 l w6) (an _) _ _⟩;have m1:l.1.size≠m:=om;have m2:l.1.size≠j:=om;have m3:m≠j:=om;have m4:l.1.size<=m:=om;have m5:l.1.size<=j:=om;rw[<-r];have k1:l.1.size<=g:=om;have k2:l.1.size<=N:=om;clear r oS6 oX6 Qw MR T U QI Vm Zm M6 kE2 Ix pv kG kE IM hl5 aa8 hG5 hg YA qt aa7 p5;rw[hU]
 go_wp2_with fail
 clear pt hr hs;have FP:=@nG;go_loopw [58] (λi wr=>∃k:Nat,k<=x0/\i=.int .i64 k/\Own wr m 65 (fm (mA kind kk ts xg) x0 k)/\Own wr j 65 (fm (mX kind ts xg) x1 k)/\Own wr g 3 zg/\Own wr N 3 zg/\Bx wr l.1.size 28 #[.slice g zg zg.length,.slice m x0 x0.length,.slice N zg zg.length,.slice j x1 x1.length]/\aj wr l) (λi _=>x0.length-(intOf i).toNat)
 .exact⟨0,aT _,rfl,by simpa[fm,mA]using oX7,by simpa[fm,mX]using oY7,oS7,oT7,kG7,p7⟩
 ·
  clear oX7 oY7 oS7 oT7 kG7 p7;obtain⟨k,hk,rfl,hO,D,hS,hT,hB,hp⟩:=hrel;by_cases E:k<x0
  .obtain⟨b2,o2,x,rfl,jf,cx,hx⟩:=t0.get E;obtain⟨b3,o3,y,rfl,Zn,cy,hy⟩:=xG.get (k:=k) (by rw[Qi.o];exact E);obtain⟨y1,V⟩:∃y1,x1[k]?=some y1:=⟨_,bc (by rw[L.o];exact E)⟩;have hkg:k<xg:=by rw[Qi.o];exact E
   have Vn:k<x1:=by rw[L.o];exact E
   have ix:I6 x:=dp.at hx.o;have iy:I6 y:=dp.at hy.o;have is:=HI.o k;have zM:=hO.cell (mV (f:=mA kind kk ts xg) (jR kind kk ts xg k) hx.o);have CJ:=hO.frozen k;have YB:=D.cell (mV (f:=mX kind ts xg) (l6 kind ts xg k) V);have hfy:=D.frozen k;have og:Old m wr:=⟨hO.lt⟩;have og2:Old j wr:=⟨D.lt⟩;have YI:=ae (kF (f:=mA kind kk ts xg) (z:=dw kind kk x (sec ts k) y) (jR kind kk ts xg k) (by rw[M4,M.o,getD_some hx.o,getD_some hy.o]) hx.o);have HYS:=ae (kF (f:=mX kind ts xg) (z:=fN kind x y) (l6 kind ts xg k) (by rw[M5,M.o,getD_some hx.o,getD_some hy.o]) V);have HSk:=ae (HS.o k E);have n1:g≠m:=hS.aS (cs:=ints (fm (mA kind kk ts xg) x0 k)) hO ak;have n2:g≠j:=hS.aS (cs:=ints (fm (mX kind ts xg) x1 k)) D ak;have n3:N≠m:=hT.aS (cs:=ints (fm (mA kind kk ts xg) x0 k)) hO ak;have n4:N≠j:=hT.aS (cs:=ints (fm (mX kind ts xg) x1 k)) D ak;have m1':m≠l.1.size:=λe=>m1 e.symm;have m3':j≠m:=λe=>m3 e.symm;clear V
   go_wp2_with fail
   refine am aq (λP _=>?_);refine qL [0,1,2,3,4,6,7,8,9,10] ?_;refine aM 5 λK hK=>?_;go_simp
   (with_reducible refine(xK om HSk).mono ?_)
   rintro e P ⟨rfl,_⟩;dsimp only;refine aL hK ?_;refine aM 11 λK hK=>?_;go_simp
   (with_reducible refine(M1).mono ?_)
   rintro e P ⟨rfl,_⟩;dsimp only;refine aL hK ?_;refine qL [12,13,14,15,16] ?_;refine aZ ?_
   go_wp2_with fail
   go_roundw
   ·
    have a1:=(hO.at (w':=P)).ax k (dw kind kk x (sec ts k) y);have a2:=(D.at (w':=P)).a9 (p:=⟨m,k,none⟩) m3' (dw kind kk x (sec ts k) y:Int);have a3:=a2.ax k (fN kind x y);have a4:=a1.a9 (p:=⟨j,k,none⟩) m3 (fN kind x y:Int);rw[YI.o]at a4;rw[HYS.o]at a3;exact⟨k+1,om,by go_num,a4,a3,((hS.at (w':=P)).a9 (p:=⟨m,k,none⟩) n1 _).a9 (p:=⟨j,k,none⟩) n2 _,((hT.at (w':=P)).a9 (p:=⟨m,k,none⟩) n3 _).a9 (p:=⟨j,k,none⟩) n4 _,⟨((Bx.al (w:=P)).a9 (p:=⟨m,k,none⟩) m1 _).a9 (p:=⟨j,k,none⟩) m2 _⟩,⟨((a7 l P).setCell (p:=⟨m,k,none⟩) m4 _).setCell (p:=⟨j,k,none⟩) m5 _⟩⟩
   .simp[intOf];omega
  .rw[mY E]at hO;rw[mY (by rw[L.o];exact E)]at D;obtain rfl:k=x0:=om
   go_wp2_with fail
   go_ret2;rw[hX.o,hY.o,hZ.o,M.o,ri.o];have IN:=(a7 w l).size;exact⟨l.1.size,g,m,N,j,rfl,om,om,om,om,om,m3,by rw[jR,l6,<-L.o];rw[L.o]at hB⊢;exact hB,hS,hO,hT,D,aK⟩
end
