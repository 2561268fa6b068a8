/- Lemmas. -/
import Derived.Test.YtmkjnlifimffkaaGreatS12
import Derived.Test.YtmkjnlifimffkaaGreatS13
import Derived.Test.YtmkjnlifimffkaaGreatS14
import Derived.Test.YtmkjnlifimffkaaGreatS15
namespace Go.Proofs.YtmkjnlifimffkaaGreat
open Go.RowKit Tryz
set_option linter.all false
set_option maxRecDepth 100000
set_option maxHeartbeats 0
variable{Γ:Prop}
attribute[local irreducible]Calls
variable{us:List Tn}{sd side st y z:Int}{I R Z b c c' c2 cx d d' d2 e i j k m m' n n2 nx:Nat}{t:Tn}{L:List (List Int)}{X w w':World}{A B C D:Option Addr}{V xs ys zs:List Int}{T T':TypeId}{cs lW:Array Value}
abbrev TV:=List Int×List Int
def Tn.tv(t:Tn):TV:=(t.zs,t.xs)
def g1(v:TV):Tn:=⟨none,0,v.1,none,0,v.2⟩
noncomputable def cvX(p x:TV)(V:au)(S:Int):List Int:=by
 classical exact if h:∃f,nz f p.1 x.1 V S then fU p.2 x.2 (h.choose.O*(h.choose.M*h.choose.N)) h.choose.all else[]
def Py(b:Int)(x:TV)(V:au)(W S:Int):List Int:=jS (ib b W.toNat) x.2 (dS x.1).toNat (dS V).toNat S.toNat W.toNat (ax V).toNat
def X3(xs:List TV)(V:au)(b:Int):List Int:=pA (ax (V.take b.toNat)).toNat (xs.map g1) (ax (V.take b.toNat)).toNat
noncomputable def vL(o:ir)(ps xs:List TV):List Int:=
 if o.kd=8 then gZ (ps.getD 0 ([],[])).2 (ps.getD 1 ([],[])).2 (xs.getD 0 ([],[])).2 (ps.getD 1 ([],[])).2.length
 else if o.kd=9 then(xs.getD 0 ([],[])).2.zipWith bQ (ps.getD 0 ([],[])).2
 else if o.kd=10 then cvX (ps.getD 0 ([],[])) (xs.getD 0 ([],[])) (cJ o (ps.map (·.1)) (xs.map (·.1))) o.st
 else if o.kd=11 then Py 1 (xs.getD 0 ([],[])) (cJ o (ps.map (·.1)) (xs.map (·.1))) o.wd o.st
 else if o.kd=12 then Py 2 (xs.getD 0 ([],[])) (cJ o (ps.map (·.1)) (xs.map (·.1))) o.wd o.st
 else if o.kd=13 then X3 xs (cJ o (ps.map (·.1)) (xs.map (·.1))) o.sd
 else if o.kd=14 then Ft (xs.getD 0 ([],[])).1 (xs.getD 0 ([],[])).2 o.sd o.fr o.tt
 else if o.kd=15 then(xs.getD 0 ([],[])).2
 else sg o.kd o.k (xs.map g1) (xs.getD 0 ([],[])).2.length
section
variable{ts:List Tn}{o:ir}{P X:List (List Int)}
def Nt(h:ts[k]?=some t):(ts.map Tn.tv).getD k ([],[])=(t.zs,t.xs):=by
 rw[aQ,bf,h];rfl
def yB{z x:au}(h:(ts.map Tn.tv).getD k ([],[])=(z,x)):(ts.map (·.zs)).getD k []=z:=by
 rw[aQ,bf]at h⊢;cases b:ts[k]? with
 |none=>rw[b]at h;exact(eQ h).1
 |some t=>rw[b]at h;exact(eQ h).1
def Nu:(ts.map Tn.tv).map (·.1)=ts.map (·.zs):=by rw[lT];rfl
def F3:(ts.map Tn.tv).map g1=ts.map λt=>g1 (t.zs,t.xs):=by rw[lT];rfl
def Nv(i:Nat):sec ((ts.map Tn.tv).map g1) i=sec ts i:=by
 unfold sec;rw[F3,bf];cases ts[1]?<;>rfl
def F4:g8 ((ts.map Tn.tv).map g1)=g8 ts:=by
 unfold g8;rw[F3,bf];cases ts[0]?<;>rfl
def X4{k:Int}:sg z k ((ts.map Tn.tv).map g1) m=sg z k ts m:=by
 unfold sg;rw[F4];exact iA λi _=>by rw[Nv]
def X5{P:Nat}:pA P ((ts.map Tn.tv).map g1) i=pA P ts i:=by
 unfold pA;have e:∀j,e1 P j ((ts.map Tn.tv).map g1) ((ts.map Tn.tv).map g1).length=e1 P j ts ts.length:=λj=>by unfold e1;rw[dR,dR,F3,List.flatMap_map];rfl
 rw[show(λj=>e1 P j ((ts.map Tn.tv).map g1) ((ts.map Tn.tv).map g1).length)=λj=>e1 P j ts ts.length from funext e]
def TD:∀{l:List Tn} {s:au},(∀t∈l,ap t.zs t.xs=true)->vt side s l=FG side s (l.map (·.zs))/\xm side s l=Cf side s (l.map (·.zs))
 |[],_,_=>⟨rfl,rfl⟩
 |t::l,s,h=>by have b:=TD (l:=l) (s:=dD s t.zs side) λu hu=>h u (dp _ hu);refine⟨?_,b.2⟩;unfold vt;rw[ah (h t cm),b.1];rfl
def Ll(e:us≠[])(h:∀t∈us,ap t.zs t.xs=true):xo side us=zG side (us.map (·.zs))/\um side us=Cf side ((us.map (·.zs)).headD []) (us.map (·.zs)).tail:=by
 cases us with
 |nil=>exact absurd rfl e
 |cons t l=>have b:=TD (side:=side) (l:=l) (s:=t.zs) λu hu=>h u (dp _ hu);refine⟨?_,b.2⟩;rw[vu,ah (h t cm),b.1];unfold zG;simp
def eg(hE:oJ L=0):∀z∈L,z=oI L:=by
 unfold oJ at hE;split at hE;rename_i hs;intro z b;rw[oI,ah hs];exact o6 (dz.1 hs z b);exact absurd hE am
end
section
variable{E F:Option Addr}{m2:Nat}{ts us vs:List Int}
def aaI[a:Sl w A n zs][b:Sl w B m xs][e:Sl w C R ts][j:Sl w D m' ys][l:Sl w E n2 us][r:Sl w F m2 vs][ld:Le m d][y:cv xs][z:cv ys][G:cv vs](u:n2<=1000000){L:au}(hr:Hx (eA zs xs ts ys us vs=true))(hL:Hx (L=gZ xs ys vs ys.length)):
  () 158 #[.agg #[(A,n,c),(B,m,d)],.agg #[(C,R,c'),(D,m',d')],.agg #[(E,n2,c2),(F,m2,d2)]] w (dK w ts L 0):=by
 obtain⟨a,rfl⟩:=a;obtain⟨b,rfl⟩:=b;obtain⟨e,rfl⟩:=e;obtain⟨j,rfl⟩:=j;obtain⟨l,rfl⟩:=l;obtain⟨r,rfl⟩:=r;rw[hL.o];exact sR (Pa A B C D E F c d c' d' c2 d2 zs xs ts ys us vs w ld.le u a b e j l r (ae y.bd) (ae z.bd) (ae G.bd) hr)
def Ig[a:Sl w A n zs][b:Sl w B m xs][e:Sl w C R ts][j:Sl w D m' ys][r:cv xs][u:cv ys](y:n<=1000000)(l:R<=1000000)(h:Hx (cR ts ys zs xs=true)){L:au}(hL:Hx (L=ys.zipWith bQ xs)):
  () 159 #[.agg #[(A,n,c),(B,m,d)],.agg #[(C,R,c'),(D,m',d')]] w (dK w ts L 0):=by
 obtain⟨a,rfl⟩:=a;obtain⟨b,rfl⟩:=b;obtain⟨e,rfl⟩:=e;obtain⟨j,rfl⟩:=j;have:=sR (XI A B C D c d c' d' zs xs ts ys w y l a b e j (ae r.bd) (ae u.bd));rw[hL.o];simpa[Ch,Ci,O7,h.o]using this
def Lm{Q:World->Prop}(h:∀b u,aj b X->aj u b->Bx b X.1.size T cs->b.1.size<=X.1.size+1->Bx u (X.1.size+1) T' lW->Q u):Q ((X.alloc (.cells cs T)).alloc (.cells lW T')):=
 h (X.alloc (.cells cs T)) _ (aF) (aF) aq aD aq
end
section
variable{X:List Int}
def Nw{wd:Int}{W S:Nat}[Sl w A n zs][Sl w B m xs][cv xs][Le m d](b:Hx (wd=(W:Int)/\st=(S:Int)))(e:n<=1000000)(hr:ap zs xs=true)(l:z=1\/z=2)(r:Hx (PW zs V R Z j W S))(u:Hx (X=jS (ib z W) xs Z j S W (R*j))):
  () 161 #[z,.agg #[(A,n,c),(B,m,d)],wd,st] w (dK w V X 0):=by
 rw[b.o.1,b.o.2];exact K8 e hr l r u
def Pz{P:Nat}[Ts w A n us][Le n c](l:n<=1000000)(hs:Hx (sd=(j:Int)))(r:Hx (∀t∈us,t.zs.length<=1000000))(hE:Hx (xo j us=0))(e:Hx (JW j P I Z V))(hS:Hx (V=um j us))(u:Hx (X=pA P us P))
  (hP:Hx (P*e9 P us<=65536)) (b:Hx (∀t∈us,P*(t.xs.length/P)=t.xs.length/\t.xs.length<=65536)):
  () 162 #[sd,(A,n,c)] w (dK w V X 0):=by
 rw[hs.o];exact FV l r hE e hS u hP b
def Dj{ts:au}[Sl w A n zs][Sl w B m xs][Sl w C j ts](l:n<=1000000)(hm:m<=1000000)(e:j<=1000000)(hr:ap zs xs=true)(r:Hx (ap V xs=true/\V=ts)):
  () 164 #[.agg #[(A,n,c),(B,m,d)],(C,j,b)] w (dK w V xs 0):=by
 obtain⟨u,rfl⟩:=r.o;exact FP l hm e hr u
def X6[Ts w A n us][I6 y](j:Hx (∀t∈us,t.zs.length<=1000000))(hE:gQ z us=0)(l:Hx (V=ka us))(r:Hx (X=sg z y us (g8 us).length)):() 165 #[z,y,(A,n,c)] w (dK w V X 0):=
 (Lj j hE l r).mono λe w' ⟨g,E,u,b,hg,oS,C,hp⟩=>⟨_,_,_,_,u,⟨oS.rd,rfl⟩,⟨C.rd,rfl⟩,Le.same _,Le.same _,⟨λD e=>by injection e with e;subst e;exact b⟩,⟨λD e=>by injection e with e;subst e;exact hg⟩,hp⟩
end
def eB(ts:List Tn):Prop:=∀t∈ts,ap t.zs t.xs=true/\t.zs.length<=t.c
def eB.len{ts:List Tn}(h:eB ts)(ht:t∈ts):t.zs.length<=4:=cG ((aN _ _).1 (h t ht).1).1
def Ts.wU{ts:List Tn}(h:Ts w A n ts)(hr:Hx (eB ts))(r:k<n):∃b o j n1 c1 zs l m1 d1 xs,A=some ⟨b,o,none⟩/\Old b w/\w.cell? (b,o+k*2)=some (.slice j n1 c1)/\w.cell? (b,o+k*2+1)=some (.slice l m1 d1)/\
  Sl w j n1 zs/\Sl w l m1 xs/\Le n1 c1/\Le m1 d1/\cv xs/\n1<=4/\m1<=65536/\Hx (ap zs xs=true)/\Hx ((ts.map Tn.tv).getD k ([],[])=(zs,xs)):=by
 obtain⟨b,o,j,c1,zs,l,d1,xs,e,ob,v0,u,y,z,l1,i1,ht⟩:=h.get r;obtain⟨m,B⟩:=hr.o _ (aC ht.o);exact⟨b,o,j,_,c1,zs,l,_,d1,xs,e,ob,v0,u,y,z,⟨B⟩,⟨l1⟩,i1,(fu m).2,(fu m).1,ae m,ae (Nt ht.o)⟩
section
variable{ts:List Tn}{o:ir}
def xQ0(h:Γ:=by obtain⟨r0,r1⟩:=bI he.ak;refine aX (v:=.tuple #[.agg #[.slice D V T,.slice E X d'],an]) (by simp[results,results102,go_sem,r0,r1]) rfl ⟨D,T,E,d',rfl,pJ,l4,lA,lX,fA.less ai,fX.less ai,⟨du (aP w G) r⟩⟩):=h
def xQ1(h:Γ:=by rintro e L ⟨D,T,E,d',rfl,sA,sX,lA,lX,fA,fX,_⟩;dsimp only;refine aG hK ?_;refine qL [10,11] ?_;refine aK 12 λK hK=>?_;go_simp;obtain⟨z,j⟩:=lg ((L.setCell (w.1.size+1,0) (.slice D V T)).setCell (w.1.size+1,1) (.slice E X d'));rw[<-j];(have r:Below (World.heap G).size G z:=by rw[j];exact br (aP G L) hz _ _);(have xA:∀b,b<L.1.size->b≠w.1.size+1->(World.heap z)[b]?=L.heap[b]?:=λb _ hb=>by rw[j];exact(ba _ ⟨w.1.size+1,1,none⟩ _ b hb).trans (ba _ ⟨w.1.size+1,0,none⟩ _ b hb));have he:Bx z (w.1.size+1) _ #[.slice D V T,.slice E X d']:=⟨by rw[j];exact az.bP (Bx.ak (w:=L) (g:=w.1.size+1)) _ _⟩;(have pJ:Sl z D (V.length) V:=by rw[j];exact sA.bA fA (Bx.ak (g:=w.1.size+1)).lt _ _);(have l4:Sl z E (X.length) X:=by rw[j];exact sX.bA fX (Bx.ak (g:=w.1.size+1)).lt _ _);have m6:aj z G:=⟨r⟩;refine aG hK ?_ ⟨r⟩;clear hK K j;refine ff 13 ?_;refine a9 ?_;go_wp2_with fail;exact xQ0):=h
def xQ2(h:Γ:=by rintro e L ⟨D,T,E,d',rfl,sA,sX,lA,lX,fA,fX,_⟩;dsimp only;refine aG hK ?_;refine qL [8,9] ?_;refine aK 10 λK hK=>?_;go_simp;obtain⟨z,j⟩:=lg ((L.setCell (w.1.size+1,0) (.slice D V T)).setCell (w.1.size+1,1) (.slice E X d'));rw[<-j];(have r:Below (World.heap G).size G z:=by rw[j];exact br (aP G L) hz _ _);(have xA:∀b,b<L.1.size->b≠w.1.size+1->(World.heap z)[b]?=L.heap[b]?:=λb _ hb=>by rw[j];exact(ba _ ⟨w.1.size+1,1,none⟩ _ b hb).trans (ba _ ⟨w.1.size+1,0,none⟩ _ b hb));have he:Bx z (w.1.size+1) _ #[.slice D V T,.slice E X d']:=⟨by rw[j];exact az.bP (Bx.ak (w:=L) (g:=w.1.size+1)) _ _⟩;(have pJ:Sl z D (V.length) V:=by rw[j];exact sA.bA fA (Bx.ak (g:=w.1.size+1)).lt _ _);(have l4:Sl z E (X.length) X:=by rw[j];exact sX.bA fX (Bx.ak (g:=w.1.size+1)).lt _ _);have m6:aj z G:=⟨r⟩;refine aG hK ?_ ⟨r⟩;clear hK K j;refine ff 11 ?_;refine a9 ?_;go_wp2_with fail;exact xQ0):=h
def xQ3(h:Γ:=by obtain⟨z,j⟩:=lg ((u.setCell (w.1.size+1,0) (.slice D V T)).setCell (w.1.size+1,1) (.slice E X d'));rw[<-j];(have r:Below (World.heap G).size G z:=by rw[j];exact br (aP G u) hz _ _);have he:Bx z (w.1.size+1) _ #[.slice D V T,.slice E X d']:=⟨by rw[j];exact az.bP (Bx.ak (w:=u) (g:=w.1.size+1)) _ _⟩;(have pJ:Sl z D V V:=by rw[j];exact sA.bA fA (Bx.ak (g:=w.1.size+1)).lt _ _);(have l4:Sl z E X X:=by rw[j];exact sX.bA fX (Bx.ak (g:=w.1.size+1)).lt _ _);clear j;exact xQ0):=h
def xQ4(h:Γ:=by rw[j];exact(ba _ ⟨w.1.size+1,1,none⟩ _ b hb).trans (ba _ ⟨w.1.size+1,0,none⟩ _ b hb)):=h
def xQ5(h:Γ:=by rw[j];exact sA.bA fA (Bx.ak (g:=w.1.size+1)).lt _ _):=h
def xQ6(h:Γ:=by rw[j];exact sX.bA fX (Bx.ak (g:=w.1.size+1)).lt _ _):=h
def xQ7(h:Γ:=by refine a9 ?_;go_wp2_with fail;exact xQ0):=h
def xQ8(h:Γ:=by rw[j];exact br (aP G L) hz _ _):=h
def aaJ[Sl w A n o.S][I6 o.k](hn:n<=1000000)[a:Ts w B m ts][x:Ts w C nx us][Le nx cx](hx:nx<=1000000)(hT:Hx (eB ts))(hU:Hx (eB us))(hE:dr o (ts.map (·.zs)) (us.map (·.zs))=0){X:au}
  (hV:Hx (cJ o (ts.map (·.zs)) (us.map (·.zs))=V)) (Q:Hx (vL o (ts.map Tn.tv) (us.map Tn.tv)=X)):
  () 102 #[.agg (gM o.kd o.k o.wd o.st o.sd o.fr o.tt (A,n,d)),(B,m,e),(C,nx,cx)] w (dK w V X 0):=by
 obtain⟨CB,CP,FB⟩:=ia;obtain⟨hc,hP,hXr,hk⟩:=ja hE;obtain⟨i0,i1,i2,i3⟩:=wP hc;have HC:Hx (mA o.kd o.k o.wd o.st o.sd o.fr o.tt o.S m nx=0):=ae (by rw[<-hc,ir.cnt,a.len,x.len,bj,bj]);have IM:Hx ((m:Int)=fv o.kd):=ae (by rw[<-i3,a.len,bj]);have IX:Hx (0<nx):=ae (by rw[x.len];rw[bj]at i1;unfold gN at i1;split at i1<;>omega);have IN:Hx (¬o.kd=8/\¬o.kd=9/\¬o.kd=10/\¬o.kd=11/\¬o.kd=12/\¬o.kd=13/\¬o.kd=14/\¬o.kd=15->(nx:Int)=g7 o.kd/\g7 o.kd≠0):=λh=>by obtain⟨kl,kh⟩:=yx i0;rw[bj,<-x.len]at i1 i2;unfold gN at i1;unfold i9 at i2;unfold g7;by_cases h6:o.kd=6\/o.kd=7;rw[ah h6]at i1 i2⊢;rw[ag om];omega;rw[ag h6]at i1 i2;rw[ag om]at i2;rw[ah om];omega
 have lb:Hx (dd o (ts.map (·.zs)) (us.map (·.zs))=V):=ae (by rw[<-hV.o,cJ,ah hE]);have HK:=ae hk;have HR:Hx (aA V=true):=ae (by rw[<-hV.o];exact lj hE);have X7:=Q.o;unfold vL at X7;rw[Nu,Nu,hV.o]at X7;have HX:=ae X7;obtain⟨b0,q0,A0,n0,c0,z0,B0,m0,d0,x0,rfl,ob0,v0,v1,s0,t0,lc0,ld0,ix0,n04,m06,r0,e0⟩:=x.wU hU (k:=0) IX;have D0:Hx ((us.map (·.zs)).getD 0 []=z0):=yB e0.o;simp only[e6,ef]at v0 v1;have x1:0<nx:=IX.o;have P1:∀k:Nat,k<m->∃b o A1 n1 c1 zs B1 m1 d1 xs,B=some ⟨b,o,none⟩/\Old b w/\w.cell? (b,o+k*2)=some (.slice A1 n1 c1)/\w.cell? (b,o+k*2+1)=some (.slice B1 m1 d1)/\Sl w A1 n1 zs/\Sl w B1 m1 xs/\Le n1 c1/\Le m1 d1/\cv xs/\n1<=4/\m1<=65536/\Hx (ap zs xs=true)/\Hx ((ts.map Tn.tv).getD k ([],[])=(zs,xs))/\Hx ((ts.map (·.zs)).getD k []=zs):=λk hk=>by obtain⟨b,o,A1,n1,c1,zs,B1,m1,d1,xs,h1,h2,h3,h4,h5,h6,h7,h8,h9,Ln,vB,FH,F5⟩:=a.wU hT hk;exact⟨b,o,A1,n1,c1,zs,B1,m1,d1,xs,h1,h2,h3,h4,h5,h6,h7,h8,h9,Ln,vB,FH,F5,ae (yB F5.o)⟩
 have uz:=ae P1;clear hc hP hXr hk i0 i1 i2 i3 X7 IX P1 hE hV Q;go_in;go_upto_region 1 with fail;refine Lm (λG u _ _ k0 hz k1=>?_);by_cases U:o.kd=8
 .have HD:m=2:=by have:=IM.o;rw[fv,ah U]at this;omega
  obtain⟨b1,q1,A1,n1,c1,z1,B1,m1,d1,s6,e1,pq,zW,zX,s1,t1,TG,TH,PC,TI,O3,r1,Ct,zY⟩:=uz.o 0 om;obtain⟨b2,q2,A2,n2,c2,z2,B2,m2,d2,TJ,e2,jU,va2,vb2,s2,t2,lc2,ld2,ix2,n24,m26,r2,ev2,ez2⟩:=uz.o 1 om;subst e1;injection e2 with e2;injection e2 with e2 e3;subst e2 e3
  simp only[e6,ef,lS]at zW zX va2 vb2;have hV:=lb.o;have Q:=HX.o;have hK:=HK.o;rw[dd,ah U]at hV;rw[ah U]at Q;rw[cY,ah U]at hK;rw[zY.o,ez2.o,D0.o]at hV hK;rw[Ct.o,ev2.o,e0.o]at Q;have HG:Hx (eA z1 s6 z2 TJ z0 x0=true/\V=z2):=ae (by
   have hB:iG z1 z2 z0=true:=by
    unfold mD at hK
    split at hK
    .assumption
    .exact absurd hK am
   rw[mC,ah hB]at hV;simp only[iG,bK,bZ]at hB;obtain⟨⟨⟨⟨g1,g2⟩,g3⟩,g4⟩,g5⟩:=hB;have f0:=((aN _ _).1 r0.o).2;have e:z2=[z1.getD 0 0]:=by
    match z2,g2,g3 with
    |[y],_,g3=>rw[<-g3];rfl
   refine⟨?_,by rw[<-hV,e]⟩;simp only[eA,mF,bK,bZ];exact⟨⟨⟨⟨⟨r1.o,g1⟩,r2.o⟩,r0.o⟩,e⟩,by rw[f0,g5]⟩)
  obtain rfl:=HG.o.2;have iH:Hx (X=gZ s6 TJ x0 TJ.length):=Q.symm;have g1:0<m:=om;(have g2:(1:Int)<(m:Int):=by omega);(have h8:(o.kd==8)=true:=by simpa using U);clear U;clear HD hV Q hK;go_upto_region 6 with(go_at_call 104;refine(ch hn HC).mono ?_;rintro e u ⟨rfl,_⟩);refine ab G ao (λL _=>?_);refine qL [0,1,2,3,4,5,6,7,8] ?_;refine aK 9 λK hK=>?_;go_simp;refine(aaI om (ae HG.o.1) iH).mono ?_;exact xQ1
 have h8:(o.kd==8)=false:=by simpa using U
 by_cases k9:o.kd=9
 .have k8:m=1:=by have:=IM.o;rw[fv,ag U,ah (.inl k9)]at this;omega
  obtain⟨b1,q1,A1,n1,c1,z1,B1,m1,d1,s6,e1,pq,zW,zX,s1,t1,TG,TH,PC,TI,O3,r1,Ct,zY⟩:=uz.o 0 om;subst e1;simp only[e6,ef]at zW zX;have hV:=lb.o;have Q:=HX.o;have hK:=HK.o;rw[dd,ag U,ah k9]at hV;rw[ag U,ah k9]at Q;rw[cY,ag U,ah k9]at hK;rw[zY.o,D0.o]at hV hK;rw[Ct.o,e0.o]at Q;have HG:Hx (cR z0 x0 z1 s6=true/\V=z0):=ae (by
   have h1:=eg hK z1 aD;have h2:=eg hK z0 aD;exact⟨by simp only[cR,bK,bZ];exact⟨⟨r0.o,r1.o⟩,h2.trans h1.symm⟩,hV.symm.trans h2.symm⟩)
  obtain rfl:=HG.o.2;have iH:Hx (X=x0.zipWith bQ s6):=Q.symm;have g1:0<m:=om;(have h9:(o.kd==9)=true:=by simpa using k9);clear U k9;clear k8 hV Q hK;go_upto_region 8 with(go_at_call 104;refine(ch hn HC).mono ?_;rintro e u ⟨rfl,_⟩);refine ab G ao (λL _=>?_);refine qL [0,1,2,3,4,5] ?_;refine aK 6 λK hK=>?_;go_simp;refine(Ig om om (ae HG.o.1) iH).mono ?_;rintro e L ⟨D,T,E,d',rfl,sA,sX,lA,lX,fA,fX,_⟩;dsimp only;refine aG hK ?_;refine qL [7,8] ?_;refine aK 9 λK hK=>?_;go_simp;obtain⟨z,j⟩:=lg ((L.setCell (w.1.size+1,0) (.slice D V T)).setCell (w.1.size+1,1) (.slice E X d'));rw[<-j];have r:Below (World.heap G).size G z:=xQ8;have xA:∀b,b<L.1.size->b≠w.1.size+1->(World.heap z)[b]?=L.heap[b]?:=λb _ hb=>xQ4;have he:Bx z (w.1.size+1) _ #[.slice D V T,.slice E X d']:=⟨by rw[j];exact az.bP (Bx.ak (w:=L) (g:=w.1.size+1)) _ _⟩;have pJ:Sl z D (V.length) V:=xQ5;have l4:Sl z E (X.length) X:=xQ6;have m6:aj z G:=⟨r⟩;refine aG hK ?_ ⟨r⟩;clear hK K j;refine ff 10 ?_;exact xQ7
 have h9:(o.kd==9)=false:=by simpa using k9
 by_cases l:o.kd=10
 .have k8:m=1:=by have:=IM.o;rw[fv,ag U,ah (.inr l)]at this;omega
  obtain⟨b1,q1,A1,n1,c1,z1,B1,m1,d1,s6,e1,pq,zW,zX,s1,t1,TG,TH,PC,TI,O3,r1,Ct,zY⟩:=uz.o 0 om;subst e1;simp only[e6,ef]at zW zX;have hV:=lb.o;have Q:=HX.o;have hK:=HK.o;rw[dd,ag U,ag k9,ah l]at hV;rw[ag U,ag k9,ah l]at Q;rw[cY,ag U,ag k9,ah l]at hK;rw[zY.o,D0.o]at hV hK;rw[Ct.o,e0.o]at Q;(have hf:∃f,nz f z1 z0 V o.st:=by obtain⟨f,h⟩:=qN hK;rw[hV]at h;exact⟨f,h⟩);unfold cvX at Q;rw[dif_pos hf]at Q;have HF:=ae hf.choose_spec;have s7:=ae hV;have X8:=ae hK;have iH:Hx (X=fU s6 x0 (hf.choose.O*(hf.choose.M*hf.choose.N)) hf.choose.all):=Q.symm;generalize hf.choose=f at HF iH;have g1:0<m:=om;(have Ln:(o.kd==10)=true:=by simpa using l);clear U k9 l;clear k8 hV Q hK hf;go_upto_region 10 with(go_at_call 104;refine(ch hn HC).mono ?_;rintro e u ⟨rfl,_⟩);refine ab G ao (λL _=>?_);refine qL [0,1,2,3,4,5,6,7] ?_;refine aK 8 λK hK=>?_;go_simp;refine(Lk om om r1.o r0.o X8 s7 HF iH).mono ?_;rintro e L ⟨D,T,E,d',rfl,sA,sX,lA,lX,fA,fX,_⟩;dsimp only;refine aG hK ?_;refine qL [9,10] ?_;refine aK 11 λK hK=>?_;go_simp;obtain⟨z,j⟩:=lg ((L.setCell (w.1.size+1,0) (.slice D V T)).setCell (w.1.size+1,1) (.slice E X d'));rw[<-j];have r:Below (World.heap G).size G z:=xQ8;have xA:∀b,b<L.1.size->b≠w.1.size+1->(World.heap z)[b]?=L.heap[b]?:=λb _ hb=>xQ4;have he:Bx z (w.1.size+1) _ #[.slice D V T,.slice E X d']:=⟨by rw[j];exact az.bP (Bx.ak (w:=L) (g:=w.1.size+1)) _ _⟩;have pJ:Sl z D (V.length) V:=xQ5;have l4:Sl z E (X.length) X:=xQ6;have m6:aj z G:=⟨r⟩;refine aG hK ?_ ⟨r⟩;clear hK K j;refine ff 12 ?_;exact xQ7
 have Ln:(o.kd==10)=false:=by simpa using l
 by_cases F:o.kd=11
 .have hV:=lb.o;have Q:=HX.o;have hK:=HK.o;rw[dd,ag U,ag k9,ag l,ah (.inl F)]at hV;rw[ag U,ag k9,ag l,ah F]at Q;rw[cY,ag U,ag k9,ag l,ah (.inl F)]at hK;rw[D0.o]at hV hK;rw[e0.o]at Q;obtain⟨R,Z,nn,W',S',hW,hS,pw⟩:=PW.of hK;rw[hV]at pw;have F6:=ae pw;have iH:Hx (X=jS (ib 1 W') x0 Z nn S' W' (R*nn)):=ae (by
   rw[<-Q,Py,hW,hS];have e1:dS z0=(Z:Int):=by rw[dS,aQ,pw.at_];rfl
   have e2:dS V=(nn:Int):=by
    rw[dS,pw.v,d3,aQ,fF (by have:=pw.len;omega)];rfl
   rw[e1,e2,pw.vx];simp only[aZ])
  have zZ:=ae (And.intro hW hS);(have vB:(o.kd==11)=true:=by simpa using F);clear U k9 l F;clear hV Q hK pw hW hS;go_upto_region 12 with(go_at_call 104;refine(ch hn HC).mono ?_;rintro e u ⟨rfl,_⟩);refine ab G ao (λL _=>?_);refine qL [0,1,2,3,4,5,6] ?_;refine aK 7 λK hK=>?_;go_simp;refine(Nw zZ om r0.o (.inl rfl) F6 iH).mono ?_;exact xQ2
 have vB:(o.kd==11)=false:=by simpa using F
 by_cases J:o.kd=12
 .have hV:=lb.o;have Q:=HX.o;have hK:=HK.o;rw[dd,ag U,ag k9,ag l,ah (.inr J)]at hV;rw[ag U,ag k9,ag l,ag F,ah J]at Q;rw[cY,ag U,ag k9,ag l,ah (.inr J)]at hK;rw[D0.o]at hV hK;rw[e0.o]at Q;obtain⟨R,Z,nn,W',S',hW,hS,pw⟩:=PW.of hK;rw[hV]at pw;have F6:=ae pw;have iH:Hx (X=jS (ib 2 W') x0 Z nn S' W' (R*nn)):=ae (by
   rw[<-Q,Py,hW,hS];have e1:dS z0=(Z:Int):=by rw[dS,aQ,pw.at_];rfl
   have e2:dS V=(nn:Int):=by
    rw[dS,pw.v,d3,aQ,fF (by have:=pw.len;omega)];rfl
   rw[e1,e2,pw.vx];simp only[aZ])
  have zZ:=ae (And.intro hW hS);(have FH:(o.kd==12)=true:=by simpa using J);clear U k9 l F J;clear hV Q hK pw hW hS;go_upto_region 14 with(go_at_call 104;refine(ch hn HC).mono ?_;rintro e u ⟨rfl,_⟩);refine ab G ao (λL _=>?_);refine qL [0,1,2,3,4,5,6] ?_;refine aK 7 λK hK=>?_;go_simp;refine(Nw zZ om r0.o (.inr rfl) F6 iH).mono ?_;exact xQ2
 have FH:(o.kd==12)=false:=by simpa using J
 by_cases Y:o.kd=13
 .have hV:=lb.o;have Q:=HX.o;have hK:=HK.o;rw[dd,ag U,ag k9,ag l,ag (show¬(o.kd=11\/o.kd=12)from λh=>h.elim F J),ah Y]at hV;rw[ag U,ag k9,ag l,ag F,ag J,ah Y]at Q;rw[cY,ag U,ag k9,ag l,ag (show¬(o.kd=11\/o.kd=12)from λh=>h.elim F J),ah Y]at hK;have HG:Hx (∃nn P I Z:Nat,o.sd=(nn:Int)/\JW nn P I Z V/\xo nn us=0/\V=um nn us/\X=pA P us P/\P*e9 P us<=65536/\∀t∈us,P*(t.xs.length/P)=t.xs.length/\t.xs.length<=65536):=ae (by
   have h0:us≠[]:=by intro e;rw[e]at x;have:=x.len;simp at this;omega
   have hR:∀t∈us,ap t.zs t.xs=true:=λt ht=>(hU.o t ht).1;obtain⟨j1,j2⟩:=Ll (side:=o.sd) h0 hR;rw[hK]at j1;rw[Cg,ah hK,<-j2]at hV;obtain⟨nn,P,I,Z,hs,jw,_,oN,hZ,_⟩:=zu j1;rw[hV]at jw;refine⟨nn,P,I,Z,hs,jw,by rw[<-hs];exact j1,by rw[<-hV,hs],?_,?_,λt ht=>?_⟩
   .rw[<-Q,X3,hs,aZ,jw.ahead,aZ,X5]
   .rw[<-hZ];exact jw.small
   .obtain⟨h1,h2,_⟩:=oN t ht;have e:=h2.cells h1;refine⟨?_,(fu h1).1⟩;rw[h2.row h1,e])
  obtain⟨nn,P,I,Z,hs,jw,j1,j2,oe,XU,oN⟩:=HG.o;have Ry:=ae jw;have Rx:=ae j1;have HJ2:=ae j2;have iH:=ae oe;have HP6:=ae XU;have HAL:=ae oN;have HSD:=ae hs;(have HZ:Hx (∀t∈us,t.zs.length<=1000000):=ae λt ht=>by have:=hU.o.len ht;omega);(have F5:(o.kd==13)=true:=by simpa using Y);clear U k9 l F J Y;clear hV Q hK HG hs jw j1 j2 oe XU oN;go_wp2_with (first|(go_at_call 104;refine(ch hn HC).mono ?_;rintro e u ⟨rfl,_⟩)|(go_at_call 162;refine(Pz om HSD HZ Rx Ry HJ2 iH HP6 HAL).mono ?_;rintro e u ⟨D,T,E,d',rfl,sA,sX,lA,lX,fA,fX,_⟩));exact xQ3
 have F5:(o.kd==13)=false:=by simpa using Y
 by_cases it:o.kd=14
 .have hV:=lb.o;have Q:=HX.o;have hK:=HK.o;rw[dd,ag U,ag k9,ag l,ag (show¬(o.kd=11\/o.kd=12)from λh=>h.elim F J),ag Y,ah it]at hV;rw[ag U,ag k9,ag l,ag F,ag J,ag Y,ah it]at Q;rw[cY,ag U,ag k9,ag l,ag (show¬(o.kd=11\/o.kd=12)from λh=>h.elim F J),ag Y,ah it]at hK;rw[D0.o]at hV hK;rw[e0.o]at Q;(have h0:gL z0 x0 o.sd o.fr o.tt=0:=by rw[gL,ah r0.o];exact hK);have HJ:=ae h0;have HS:Hx (HB z0 x0 o.sd o.fr o.tt=V):=ae (by rw[HB,ah h0];exact hV);have iH:=ae Q;(have h14:(o.kd==14)=true:=by simpa using it);clear U k9 l F J Y it;clear hV Q hK h0;go_upto_region 18 with(go_at_call 104;refine(ch hn HC).mono ?_;rintro e u ⟨rfl,_⟩);refine ab G ao (λL _=>?_);refine qL [0,1,2,3,4,5,6,7,8] ?_;refine aK 9 λK hK=>?_;go_simp;refine(XS om HJ HS iH).mono ?_;exact xQ1
 have h14:(o.kd==14)=false:=by simpa using it
 by_cases lm:o.kd=15
 .have hV:=lb.o;have Q:=HX.o;have hK:=HK.o;rw[dd,ag U,ag k9,ag l,ag (show¬(o.kd=11\/o.kd=12)from λh=>h.elim F J),ag Y,ag it,ah lm]at hV;rw[ag U,ag k9,ag l,ag F,ag J,ag Y,ag it,ah lm]at Q;rw[cY,ag U,ag k9,ag l,ag (show¬(o.kd=11\/o.kd=12)from λh=>h.elim F J),ag Y,ag it,ah lm]at hK;rw[D0.o]at hV hK;rw[e0.o]at Q;obtain rfl:X=x0:=Q.symm;have HG:Hx (ap V X=true/\V=o.S):=ae (by
   rw[zB,ah hK]at hV;refine⟨?_,hV.symm⟩;have f0:=(aN _ _).1 r0.o;refine(aN _ _).2 ⟨HR,?_⟩;rw[f0.2];unfold up at hK;rw[ah f0.1]at hK
   split at hK
   .split at hK
    .rename_i h;rw[<-hV,h]
    .exact absurd hK am
   .exact absurd hK am)
  have h15:(o.kd==15)=true:=by simpa using lm
  clear U k9 l F J Y it lm;clear hV hK;go_upto_region 20 with(go_at_call 104;refine(ch hn HC).mono ?_;rintro e u ⟨rfl,_⟩);refine ab G ao (λL _=>?_);refine qL [0,1,2,3,4] ?_;refine aK 5 λK hK=>?_;go_simp;refine(Dj om om om r0.o HG).mono ?_;rintro e L ⟨D,T,E,d',rfl,sA,sX,lA,lX,fA,fX,_⟩;dsimp only;refine aG hK ?_;refine qL [6,7] ?_;refine aK 8 λK hK=>?_;go_simp;obtain⟨z,j⟩:=lg ((L.setCell (w.1.size+1,0) (.slice D V T)).setCell (w.1.size+1,1) (.slice E X d'));rw[<-j];have r:Below (World.heap G).size G z:=xQ8;have xA:∀b,b<L.1.size->b≠w.1.size+1->(World.heap z)[b]?=L.heap[b]?:=λb _ hb=>xQ4;have he:Bx z (w.1.size+1) _ #[.slice D V T,.slice E X d']:=⟨by rw[j];exact az.bP (Bx.ak (w:=L) (g:=w.1.size+1)) _ _⟩;have pJ:Sl z D (V.length) V:=xQ5;have l4:Sl z E (X.length) X:=xQ6;have m6:aj z G:=⟨r⟩;refine aG hK ?_ ⟨r⟩;clear hK K j;refine ff 9 ?_;exact xQ7
 have h15:(o.kd==15)=false:=by simpa using lm
 have hV:=lb.o;have Q:=HX.o;have hK:=HK.o;rw[dd,ag U,ag k9,ag l,ag (show¬(o.kd=11\/o.kd=12)from λh=>h.elim F J),ag Y,ag it,ag lm]at hV;rw[ag U,ag k9,ag l,ag F,ag J,ag Y,ag it,ag lm]at Q;rw[cY,ag U,ag k9,ag l,ag (show¬(o.kd=11\/o.kd=12)from λh=>h.elim F J),ag Y,ag it,ag lm]at hK;rw[e0.o,X4]at Q;have HG:Hx (gQ o.kd us=0/\V=ka us/\X=sg o.kd o.k us (g8 us).length):=ae (by
  have hn:(us.length:Int)=g7 o.kd:=by rw[<-x.len];exact(IN.o ⟨U,k9,l,F,J,Y,it,lm⟩).1
  have h1:ka us=V:=by
   have e:ka us=z0:=by rw[<-D0.o,ka,aQ,bf]
   rw[e,<-hV];exact eg hK z0 (by
    rw[<-D0.o,aQ];have:0<us.length:=by have:=x.len;omega
    rw[bf,a5 this];exact bw.2 ⟨_,o0 this,rfl⟩)
  refine⟨?_,h1.symm,?_⟩
  .unfold gQ;rw[ag (IN.o ⟨U,k9,l,F,J,Y,it,lm⟩).2,ah hn,ah];rw[dz];intro t ht;unfold Cq;rw[(hU.o t ht).1,h1,<-hV];simpa using eg hK t.zs (bw.2 ⟨t,ht,rfl⟩)
  .rw[<-Q];congr 1;have:0<us.length:=by have:=x.len;omega
   have e:=e0.o;rw[aQ,bf,a5 this]at e;rw[g8,a5 this];exact cq (λv=>v.2.length) e.symm)
 have HZ:Hx (∀t∈us,t.zs.length<=1000000):=ae λt ht=>by have:=hU.o.len ht;omega
 clear U k9 l F J Y it lm hV Q hK;go_wp2_with (first|(go_at_call 104;refine(ch hn HC).mono ?_;rintro e u ⟨rfl,_⟩)|(go_at_call 165;refine(X6 HZ HG.o.1 (ae HG.o.2.1) (ae HG.o.2.2)).mono ?_;rintro e u ⟨D,T,E,d',rfl,sA,sX,lA,lX,fA,fX,_⟩));exact xQ3
end
variable{e' g q:Nat}{xg xw xx zg zw zx:List Int}
section
open Go.RowKit Go.Shelf
attribute [local go_sem] Oper.semAt_some
def az.Nx{a b c d:Value}(h:az w g T #[a,b,c,d])(v0 e j v3:Value):az ((((w.setCell (g,0) v0).setCell (g,1) e).setCell (g,2) j).setCell (g,3) v3) g T #[v0,e,j,v3]:=by
 simpa using(((h.av 0 v0).av 1 e).av 2 j).av 3 v3
def qO{p:Nat}(h:Below n w w')(hp:n<=p)(v0 b e v3:Value):Below n w ((((w'.setCell (p,0) v0).setCell (p,1) b).setCell (p,2) e).setCell (p,3) v3):=
 (((h.setCell (p:=⟨p,0,none⟩) hp v0).setCell (p:=⟨p,1,none⟩) hp b).setCell (p:=⟨p,2,none⟩) hp e).setCell (p:=⟨p,3,none⟩) hp v3
def Own.mK{p:Nat}(h:Own w g T zs)(hp:g≠p)(v0 b e v3:Value):Own ((((w.setCell (p,0) v0).setCell (p,1) b).setCell (p,2) e).setCell (p,3) v3) g T zs:=
 (((h.aY (p:=⟨p,0,none⟩) hp v0).aY (p:=⟨p,1,none⟩) hp b).aY (p:=⟨p,2,none⟩) hp e).aY (p:=⟨p,3,none⟩) hp v3
end
section
variable{P:Program}{K:Act->World->Prop}{Q:Exit->Act->World->Prop}{a:Act}{W:World}{Y:List Int}{S:Int}
section
open Go.RowKit Go.Shelf
attribute [local go_sem] Oper.semAt_some
def z8{s:Code}(h:s.wp P (Exit.then K (λ_ _ _=>False)) a w):s.wp P (Exit.then K Q) a w:=by
 refine wp_mono h ?_;intro e a' w' hq;cases e with
 |normal=>exact hq
 |exit id=>exact hq.elim
 |goto l=>exact hq.elim
 |ret=>exact hq.elim
 |panic b=>exact hq.elim
 |outgrown=>exact hq.elim
def aaK{p:Nat}{ob:Obj}(v0 e j v3:Value)(h:W.heap[m]?=some ob)(b:ob.isCells=false):((((W.setCell (p,0) v0).setCell (p,1) e).setCell (p,2) j).setCell (p,3) v3).heap[m]?=some ob:=
 (KeepsOthers.setCell _ _ _).same m _ ((KeepsOthers.setCell _ _ _).same m _ ((KeepsOthers.setCell _ _ _).same m _ ((KeepsOthers.setCell _ _ _).same m _ h b) b) b) b
def TK(w:aa)(gs r hs u t k1 k2:Nat)(l b m xx V y:au)(A B C D F G:bF)(c d z d' e E:Nat)(j:List gY)(W:aa):Prop:=
 Own W r 65 (eS y xx b.length j)/\Own W u 65 (eT y b xx.length j)/\Own W gs 3 l/\Own W hs 3 m/\az W t 206 #[.slice gs l l.length,.slice r b b.length,.slice hs m m.length,.slice u xx xx.length]/\
  az W k1 26 #[.slice r b b.length]/\az W k2 26 #[.slice u xx xx.length]/\
  az W w.1.size 28 #[.slice A l c,.slice B b d]/\az W (w.1.size+1) 28 #[.slice C m z,.slice D xx d']/\az W (w.1.size+1+1) 28 #[.slice F V e,.slice G y E]/\
  az W (w.1.size+1+1+1) 206 #[(),(),(),()]/\Below w.1.size w W
def X9(w:aa)(b j l xx:au)(E:Int)(e:Ending)(w':aa):Prop:=
 ∃A c B d C m D d',e=.returned (.tuple #[.agg #[.slice A b c,.slice B j d,.slice C l m,.slice D xx d'],E])/\Sl w' A b b/\Sl w' B j j/\Sl w' C l l/\Sl w' D xx xx/\
  bG w.1.size A/\bG w.1.size B/\bG w.1.size C/\bG w.1.size D/\Le b.length c/\Le j.length d/\Le l.length m/\Le xx.length d'/\aj w' w
def fy{o:Nat}(h:b<=g):bG b (some ⟨g,o,none⟩):=⟨λj e=>by injection e with e;subst e;exact h⟩
section
variable{F G:Option Addr}{p:Nat}
def xQ9(h:Γ:=by rintro⟨_,_,h⟩;exact h):=h
def F7[a:Sl w A n zw][b:Sl w B m xw][a':Sl w C R zx][b':Sl w D m' xx][ag:Sl w F p V][bg:Sl w G q xg][cv xw][cv xx][cv xg][Le n c][Le R cx](hn:n<=1000000)(FR:R<=1000000)(hp:p<=1000000){X:au}{f:CF}
  (h1:ap zw xw=true) (h2:ap zx xx=true) (hE:Hx (oh zw zx S=0)) (hV:Hx (qj zw zx S=V)) (h3:ap V xg=true) (hf:Hx (nz f zw zx V S)) (hX:Hx (X=eS xg xx xw.length f.all)) (hY:Hx (Y=eT xg xw xx.length f.all)):
  () 107 #[.agg #[.slice A n c,(B,m,d)],.agg #[(C,R,cx),(D,m',d')],.agg #[(F,p,e),.slice G q e'],S] w (X9 w zw X zx Y 0):=by
 obtain⟨CB,CP,FB⟩:=ia;have Tm:=hf.o.vr;have lZ:Hx (zD f):=hf.o.ok;have n6:xg.length=f.O*(f.M*f.N):=by have h:=((aN _ _).1 h3).2;rw[hf.o.v]at h;omega
 have Hs:xw.length=f.O*(f.C*(f.K*f.L)):=by have h:=((aN _ _).1 h1).2;rw[hf.o.w]at h;omega
 have jQ:xx.length=f.C*(f.H*f.W):=by have h:=((aN _ _).1 h2).2;rw[hf.o.x]at h;omega
 have HB:Hx (∀x∈f.all,x.1<xg.length/\x.2.1<xw.length/\x.2.2<xx.length):=λx hx=>by rw[n6,Hs,jQ];exact No hf.o.ok hx
 have hg6:xg.length<=65536:=by rw[n6];exact hf.o.ok.oy
 have hw6:xw.length<=65536:=by rw[Hs];exact hf.o.ok.ow
 have zq:xx.length<=65536:=by rw[jQ];exact hf.o.ok.ox
 have hs:decide (V=V)=true:=gC rfl;obtain⟨a,rfl⟩:=a;have a:Sl w A zw zw:=⟨a,rfl⟩;obtain⟨b,rfl⟩:=b;have b:Sl w B xw xw:=⟨b,rfl⟩;obtain⟨a',rfl⟩:=a';have a':Sl w C zx zx:=⟨a',rfl⟩;obtain⟨b',rfl⟩:=b';have b':Sl w D xx xx:=⟨b',rfl⟩;obtain⟨ag,rfl⟩:=ag;have ag:Sl w F V V:=⟨ag,rfl⟩;obtain⟨bg,rfl⟩:=bg;have bg:Sl w G xg xg:=⟨bg,rfl⟩;have Sq:0<xw.length:=by have:=(gO h1).2.1;omega
 have Cr:0<xx.length:=by have:=(gO h2).2.1;omega
 have hg0:0<xg.length:=by have:=(gO h3).2.1;omega
 obtain⟨bb,ob,_,rfl,XD,-,-⟩:=b.get (k:=0) Sq;obtain⟨bd,od,_,rfl,obd,-,-⟩:=b'.get (k:=0) Cr;obtain⟨be,oe,_,rfl,obe,-,-⟩:=bg.get (k:=0) hg0;clear n6 Hs jQ;refine(callsIn_wide (n:=3)).1<|callsIn_of_wp_marks func107 rfl bX ?_;simp only[ntmps107,ij,dj,iW,Nat.reduceAdd,Nat.reduceSub,Array.replicate_succ,Array.replicate_zero,List.push_toArray,List.append_toArray,jE,tP];refine wpIn_wide.2 ?_;go_upto_region 1 with fail;obtain⟨u0,Lo⟩:=lg ((((w.alloc (.cells #[.slice A zw c,.slice (some ⟨bb,ob,none⟩) xw d] 28)).alloc (.cells #[.slice C zx cx,.slice (some ⟨bd,od,none⟩) xx d'] 28)).alloc (.cells #[.slice F V e,.slice (some ⟨be,oe,none⟩) xg e'] 28)).alloc (.cells #[(),(),(),()] 206));have q1:Bx u0 w.1.size 28 #[.slice A zw c,.slice (some ⟨bb,ob,none⟩) xw d]:=⟨by rw[Lo];exact(((az.new _ _ _).alloc _).alloc _).alloc _⟩;have q2:Bx u0 (w.1.size+1) 28 #[.slice C zx cx,.slice (some ⟨bd,od,none⟩) xx d']:=⟨by rw[Lo];exact((az.ew _ _ _ aD).alloc _).alloc _⟩;have q3:Bx u0 (w.1.size+1+1) 28 #[.slice F V e,.slice (some ⟨be,oe,none⟩) xg e']:=⟨by rw[Lo];exact(az.ew _ _ _ aD).alloc _⟩;have q4:Bx u0 (w.1.size+1+1+1) 206 #[(),(),(),()]:=⟨by rw[Lo];exact az.ew _ _ _ aD⟩;have qu:aj u0 w:=⟨by rw[Lo];exact aP w _⟩;rw[<-Lo];clear Lo;go_upto_region 8 with(first|(go_at_call 69;refine(bD om).mono ?_;rintro e u ⟨rfl,_⟩)|(go_at_call 126;refine(rO om om hE hV).mono ?_;rintro e u ⟨A',c',rfl,sJ,lJ,fJ,_⟩)|(go_at_call 70;refine(f9 om om).mono ?_;rintro e u ⟨rfl,_⟩));have q2u:az u (w.1.size+1) 28 #[.slice C zx cx,.slice (some ⟨bd,od,none⟩) xx d']:=q2.ak.at;obtain⟨v,rfl⟩:=lg u;go_cut [12]from 17 (λs wx=>∃t gs E hs j:Nat,s=.pointer t/\az wx t 206 #[.slice gs zw zw.length,.slice E xw xw.length,.slice hs zx zx.length,.slice (some ⟨j,0,none⟩) xx xx.length]/\Own wx gs 3 zw/\Own wx E 65 xw/\Own wx hs 3 zx/\Own wx j 65 xx/\v.1.size<=gs/\v.1.size<=E/\v.1.size<=hs/\v.1.size<=j/\v.1.size<=t/\E≠j/\Below v.1.size v wx);case first=>
  refine z8<|ab v ao (λu8 _=>?_);refine qL [0,2] ?_;refine qr 1 5 (λK hK=>?_) (λK hK=>?_)
  .go_simp;refine(gW om om).mono ?_;rintro e u8 ⟨gs,E,rfl,Ya,Lp,oS,oC,_⟩;dsimp only;refine aG hK<|qr 3 5 (λK hK=>?_) (λK hK=>?_);(focus go_simp;refine(gW om om).mono ?_;rintro e u8 ⟨I,j,rfl,TL,Ih,pS,pC,_⟩;dsimp only;refine aG hK ?_;refine ff 4 ?_;refine aK 5 λK hK=>?_;go_simp;refine aG hK<|bc (λu8 _ kP=>?_));rotate_left;(focus go_simp;refine aG hK<|bc (λu8 _ kP=>?_);refine aK 3 λK hK=>?_;go_simp;refine(gW om om).mono ?_;rintro e u8 ⟨I,j,rfl,TL,Ih,pS,pC,_⟩;dsimp only;refine aG hK ?_;refine ff 4 ?_);all_goals refine aK 6 λK hK=>?_;rename World=>wN;have Z:=kP.ak.at (w':=wN);have r0:=Z.cell 0;have r1:=Z.cell 1;have r2:=Z.cell 2;have r3:=Z.cell 3;have f0:=Z.frozen 0;have f1:=Z.frozen 1;have f2:=Z.frozen 2;have f3:=Z.frozen 3;go_simp;refine aG hK ?_ ⟨qO (aP v wN) ai _ _ _ _⟩;clear hK K r0 r1 r2 r3 f0 f1 f2 f3;refine a9 ?_;(have js:E≠j:=by first|exact rE (bu oC.lt (aL ai Ih))|exact(rE (bu pC.lt (aL ai Lp))).symm);go_wp2_with fail;go_meet;exact⟨_,gs,E,I,j,rfl,Z.Nx _ _ _ _,(oS.at (w':=wN)).mK ((oS.at (w':=wN)).aH Z am) _ _ _ _,(oC.at (w':=wN)).mK ((oC.at (w':=wN)).aH Z am) _ _ _ _,(pS.at (w':=wN)).mK ((pS.at (w':=wN)).aH Z am) _ _ _ _,(pC.at (w':=wN)).mK ((pC.at (w':=wN)).aH Z am) _ _ _ _,aL ai Ya,aL ai Lp,aL ai TL,aL ai Ih,ai,js,qO (aP v wN) ai _ _ _ _⟩
  go_simp;refine aG hK<|bc (λu8 _ kP=>?_);refine aK 1 λK hK=>?_;go_simp;refine(gW om om).mono ?_;rintro e u8 ⟨gs,E,rfl,Ya,Lp,oS,oC,_⟩;dsimp only;refine aG hK<|aK 3 λK hK=>?_;go_simp;refine(gW om om).mono ?_;rintro e u8 ⟨I,j,rfl,TL,Ih,pS,pC,_⟩;dsimp only;refine aG hK ?_;refine ff 4 ?_;refine aK 6 λK hK=>?_;rename World=>wN;have Z:=kP.ak.at (w':=wN);have r0:=Z.cell 0;have r1:=Z.cell 1;have r2:=Z.cell 2;have r3:=Z.cell 3;have f0:=Z.frozen 0;have f1:=Z.frozen 1;have f2:=Z.frozen 2;have f3:=Z.frozen 3;go_simp;refine aG hK ?_ ⟨qO (aP v wN) ai _ _ _ _⟩;clear hK K r0 r1 r2 r3 f0 f1 f2 f3;refine a9 ?_;(have js:E≠j:=by first|exact rE (bu oC.lt (aL ai Ih))|exact(rE (bu pC.lt (aL ai Lp))).symm);go_wp2_with fail;go_meet;exact⟨_,gs,E,I,j,rfl,Z.Nx _ _ _ _,(oS.at (w':=wN)).mK ((oS.at (w':=wN)).aH Z am) _ _ _ _,(oC.at (w':=wN)).mK ((oC.at (w':=wN)).aH Z am) _ _ _ _,(pS.at (w':=wN)).mK ((pS.at (w':=wN)).aH Z am) _ _ _ _,(pC.at (w':=wN)).mK ((pC.at (w':=wN)).aH Z am) _ _ _ _,aL ai Ya,aL ai Lp,aL ai TL,aL ai Ih,ai,js,qO (aP v wN) ai _ _ _ _⟩
 obtain⟨t,gs,E,I,j,rfl,kT,oS,oC,pS,pC,Ya,Lp,TL,Ih,ht,js,Tp⟩:=hcut;have Xn:aj wc v:=⟨Tp⟩;have n1:E≠t:=oC.aH kT am;have n2:j≠t:=pC.aH kT am;have m1:gs≠E:=oS.aH (cs:=ints xw) oC am;have m2:I≠E:=pS.aH (cs:=ints xw) oC am;have m3:gs≠j:=oS.aH (cs:=ints xx) pC am;have m4:I≠j:=pS.aH (cs:=ints xx) pC am;have ab3:=λty=>hU (P:=prog) 26 65 ty underlying26 ao oC Sq xw.length;have Ii:=fG (bs:=[E]) (g:=E) aD (List.replicate xw.length an) 0 (ik.refl [E] wc);have oC1:=oC.clear;have Yb:=Ii.own oS (by simpa using m1);have pS1:=Ii.own pS (by simpa using m2);have Yc:=Ii.own pC (by simpa using js.symm);have Yd:=Ii.ak kT (by simpa using n1.symm);have vD:aj (wc.setCells E 0 (List.replicate xw.length an)) v:=⟨dG (n:=v.1.size) (g:=E) Lp (List.replicate xw.length an) 0 Tp⟩;obtain⟨W1,k5⟩:=lg (wc.setCells E 0 (List.replicate xw.length an));have qT:Bx wc t 206 #[.slice gs zw zw.length,.slice E xw xw.length,.slice I zx zx.length,.slice (some ⟨j,0,none⟩) xx xx.length]:=⟨kT⟩;rw[<-k5]at oC1 Yb pS1 Yc Yd vD;have qT1:Bx W1 t 206 #[.slice gs zw zw.length,.slice E xw xw.length,.slice I zx zx.length,.slice (some ⟨j,0,none⟩) xx xx.length]:=⟨Yd⟩;go_upto_region 10 with fail;rw[<-k5];clear ab3 k5 Ii oS oC pS pC kT qT Xn Tp;have ab4:=λty=>hU (P:=prog) 26 65 ty underlying26 ao Yc Cr xx.length;have C6:=fG (bs:=[j]) (g:=j) aD (List.replicate xx.length an) 0 (ik.refl [j] W1);have Ye:=Yc.clear;have uu:=C6.own Yb (by simpa using m3);have pS2:=C6.own pS1 (by simpa using m4);have Yf:=C6.own oC1 (by simpa using js);have Yg:=C6.ak Yd (by simpa using n2.symm);have Xo:aj (W1.setCells j 0 (List.replicate xx.length an)) v:=⟨dG (n:=v.1.size) (g:=j) Ih (List.replicate xx.length an) 0 (aP v W1)⟩;obtain⟨W2,uA⟩:=lg (W1.setCells j 0 (List.replicate xx.length an));rw[<-uA]at Yf uu pS2 Ye Yg Xo;have qT2:Bx W2 t 206 #[.slice gs zw zw.length,.slice E xw xw.length,.slice I zx zx.length,.slice (some ⟨j,0,none⟩) xx xx.length]:=⟨Yg⟩;go_upto_region 11 with fail;rw[<-uA];clear ab4 uA C6 Yb oC1 pS1 Yc Yd qT1 vD;go_cut [13,14]from 17 (λs13 TM wx=>∃k1 k2:Nat,s13=.pointer k1/\TM=.pointer k2/\az wx k1 26 #[.slice E xw xw.length]/\az wx k2 26 #[.slice (some ⟨j,0,none⟩) xx xx.length]/\W2.1.size<=k1/\W2.1.size<=k2/\Below W2.1.size W2 wx);case first=>refine z8<|ab W2 ao (λu9 _=>?_);refine qL [0,1,2,3,4,5] ?_;refine qr 6 7 (λK hK=>?_) (λK hK=>?_);(focus rename World=>wN;(try have J:=(kP.ak.at (w':=wN)).lt);(try have Q:=(kQ.ak.at (w':=wN)).lt);go_simp;refine aG hK<|bc (λuP _ kP=>?_);have g1:(World.heap W2).size<=wN.1.size:=ai;obtain⟨k1,T⟩:=lh wN.1.size;rw[T]at kP g1⊢;(try rw[T]at J);(try rw[T]at Q);have J:=(kP).ak.lt;clear T;refine aK 7 λK hK=>?_;rename World=>wN;(try have J:=(kP.ak.at (w':=wN)).lt);(try have Q:=(kQ.ak.at (w':=wN)).lt);go_simp;refine aG hK<|bc (λuP _ kQ=>?_);have g2:(World.heap W2).size<=wN.1.size:=ai;obtain⟨k2,U⟩:=lh wN.1.size;rw[U]at kQ g2⊢;(try rw[U]at J);(try rw[U]at Q);have Q:=(kQ).ak.lt;clear U);rotate_left;(focus rename World=>wN;(try have J:=(kP.ak.at (w':=wN)).lt);(try have Q:=(kQ.ak.at (w':=wN)).lt);go_simp;refine aG hK<|bc (λuP _ kQ=>?_);have g2:(World.heap W2).size<=wN.1.size:=ai;obtain⟨k2,U⟩:=lh wN.1.size;rw[U]at kQ g2⊢;(try rw[U]at J);(try rw[U]at Q);have Q:=(kQ).ak.lt;clear U;refine aK 6 λK hK=>?_;rename World=>wN;(try have J:=(kP.ak.at (w':=wN)).lt);(try have Q:=(kQ.ak.at (w':=wN)).lt);go_simp;refine aG hK<|bc (λuP _ kP=>?_);have g1:(World.heap W2).size<=wN.1.size:=ai;obtain⟨k1,T⟩:=lh wN.1.size;rw[T]at kP g1⊢;(try rw[T]at J);(try rw[T]at Q);have J:=(kP).ak.lt;clear T);all_goals refine aK 8 λK hK=>?_;rename World=>wN;have e1:=(kP).ak.at (w':=wN);have e2:=(kQ).ak.at (w':=wN);have r0:=e1.cell 0;have f0:=e1.frozen 0;go_simp;refine aG hK ?_ ⟨(aP W2 wN).setCell (p:=⟨k1,0,none⟩) g1 _⟩;clear hK K r0 f0;have e3:=e2.aY (p:=⟨k1,0,none⟩) (show k2≠k1 by omega) (.slice E (List.length xw) (List.length xw));have e4:=e1.av 0 (.slice E (List.length xw) (List.length xw));have e5:=(aP W2 wN).setCell (p:=⟨k1,0,none⟩) g1 (.slice E (List.length xw) (List.length xw));obtain⟨wS,TN⟩:=lg (wN.setCell (k1,0) (.slice E (List.length xw) (List.length xw)));rw[<-TN]at e3 e4 e5⊢;clear kP kQ;have kP:=Bx.mk e4;have kQ:=Bx.mk e3;have pS:aj wS W2:=⟨e5⟩;clear e1 e2 e3 e4 e5 TN;refine aK 9 λK hK=>?_;rename World=>wN;have e1:=(kQ).ak.at (w':=wN);have e2:=(kP).ak.at (w':=wN);have r0:=e1.cell 0;have f0:=e1.frozen 0;go_simp;refine aG hK ?_ ⟨(aP W2 wN).setCell (p:=⟨k2,0,none⟩) g2 _⟩;clear hK K r0 f0;have e3:=e2.aY (p:=⟨k2,0,none⟩) (show k1≠k2 by omega) (.slice (some ⟨j,0,none⟩) (List.length xx) (List.length xx));have e4:=e1.av 0 (.slice (some ⟨j,0,none⟩) (List.length xx) (List.length xx));have e5:=(aP W2 wN).setCell (p:=⟨k2,0,none⟩) g2 (.slice (some ⟨j,0,none⟩) (List.length xx) (List.length xx));obtain⟨wS,TN⟩:=lg (wN.setCell (k2,0) (.slice (some ⟨j,0,none⟩) (List.length xx) (List.length xx)));rw[<-TN]at e3 e4 e5⊢;clear kQ kP;have kQ:=Bx.mk e4;have kP:=Bx.mk e3;have pS:aj wS W2:=⟨e5⟩;clear e1 e2 e3 e4 e5 TN;refine a9 ?_;go_wp2_with fail;go_meet;rename World=>wN;exact⟨k1,k2,rfl,rfl,kP.ak,kQ.ak,g1,g2,aP W2 wN⟩
 obtain⟨k1,k2,rfl,rfl,kP,kQ,g1,g2,hbX⟩:=hcut;have pX:aj wc W2:=⟨hbX⟩;go_wp2_with (go_at_call 172;refine(sx om om hE hV hf).mono ?_;rintro e u ⟨rfl,_⟩);obtain⟨w2,rfl⟩:=lg u;have hwv:w.1.size+4<=v.1.size:=by have:=(q4.ak.at (w':=v)).lt;omega
 have xj:w.1.size<=E:=om;have Df:w.1.size<=j:=om;have b2:=aP w w2;have kW:Bx w2 w.1.size 28 #[.slice A zw c,.slice (some ⟨bb,ob,none⟩) xw d]:=aq;have kX:Bx w2 (w.1.size+1) 28 #[.slice C zx cx,.slice (some ⟨bd,od,none⟩) xx d']:=aq;have kG:Bx w2 (w.1.size+1+1) 28 #[.slice F V e,.slice (some ⟨be,oe,none⟩) xg e']:=aq;have kR:Bx w2 (w.1.size+1+1+1) 206 #[(),(),(),()]:=aq;have I0:TK w gs E I j t k1 k2 zw xw zx xx V xg A (some ⟨bb,ob,none⟩) C (some ⟨bd,od,none⟩) F (some ⟨be,oe,none⟩) c d cx d' e e' [] w2:=⟨Yf.at,Ye.at,uu.at,pS2.at,Yg.at,kP.at,kQ.at,kW.ak,kX.ak,kG.ak,kR.ak,b2⟩;have HU:=Yf.lt;have ui:=Ye.lt;have B9:W2.1.size<=w2.1.size:=ai;clear kP kQ kW kX kG kR Yf Ye uu pS2 Yg qT2 n1 n2 m1 m2 m3 m4 hbX;refine(wpIn_wide (n:=3)).1 ?_
 refine C9 (gf:=221) (fb:= #[uq f]) (lb:= #[]) (α:=gY) rfl (enters_of func221 ao rfl) (zE f lZ w2) (aV _ _) (λ_=>rfl) (TK w gs E I j t k1 k2 zw xw zx xx V xg A (some ⟨bb,ob,none⟩) C (some ⟨bd,od,none⟩) F (some ⟨be,oe,none⟩) c d cx d' e e') (λ_ _ _=>False)
  ?firm (λ_=>db.none_) I0 ?acts (λx W=>W.alloc (.cells #[.int .i64 x.1,.int .i64 x.2.1,.int .i64 x.2.2] 267)) (λx n W=>az W n 267 #[.int .i64 x.1,.int .i64 x.2.1,.int .i64 x.2.2]) (λ_ _=>eR _ _) (λ_ _=>az.new _ _ _)
  (λx n W l o o' h ho j=>(db.ak (B:=0) (λ(_:Unit)=>n) 267 (λ_=>_)).iO () W l o o' h (aM _) ho j) ?assign ?body ?done (λ_ _ _ _ _ _ h=>h.elim)
 case firm=>exact(db.own (λ_=>E) _ (eS xg xx xw.length)).and ((db.own (λ_=>j) _ (eT xg xw xx.length)).and ((db.own (λ_=>gs) _ (λ_=>zw)).and ((db.own (λ_=>I) _ (λ_=>zx)).and ((db.ak (λ_=>t) _ (λ_=>_)).and ((db.ak (λ_=>k1) _ (λ_=>_)).and ((db.ak (λ_=>k2) _ (λ_=>_)).and ((db.ak (λ_=>w.1.size) _ (λ_=>_)).and ((db.ak (λ_=>w.1.size+1) _ (λ_=>_)).and ((db.ak (λ_=>w.1.size+1+1) _ (λ_=>_)).and ((db.ak (λ_=>w.1.size+1+1+1) _ (λ_=>_)).and (db.below (al _) b2.size)))))))))))
 case assign=>intro l x W K hK;simp only[ur];gi_wp2;exact hK
 case body=>
  rintro l pre ⟨x1,x2,x3⟩ W0 W ⟨iC,iD,iS,iT,TO,kP',kQ',kW',kX',kG',Ij,bW⟩ ⟨post,hT⟩ zb Ov hA;dsimp only at hA⊢;(repeat (rename aj _ _=>hz;clear hz));repeat (rename Bx _ _ _ _=>hz;clear hz)
  obtain⟨ug,Cs,If⟩:=HB.o (x1,x2,x3) (by rw[hT];simp);simp only at ug Cs If;have pW:aj W w:=⟨bW⟩;have rP:Bx W k1 26 #[.slice E xw xw.length]:=⟨kP'⟩;have rQ:Bx W k2 26 #[.slice (some ⟨j,0,none⟩) xx xx.length]:=⟨kQ'⟩;have rW:Bx W w.1.size 28 #[.slice A zw c,.slice (some ⟨bb,ob,none⟩) xw d]:=⟨kW'⟩;have rX:Bx W (w.1.size+1) 28 #[.slice C zx cx,.slice (some ⟨bd,od,none⟩) xx d']:=⟨kX'⟩;have rG:Bx W (w.1.size+1+1) 28 #[.slice F V e,.slice (some ⟨be,oe,none⟩) xg e']:=⟨kG'⟩;have rA:Bx W W0.1.size 267 #[x1,x2,x3]:=⟨hA⟩;obtain⟨y,hy⟩:∃y,xg[x1]?=some y:=⟨_,a5 ug⟩;obtain⟨z,hz⟩:∃z,xx[x3]?=some z:=⟨_,a5 If⟩;obtain⟨r,hr⟩:∃r,xw[x2]?=some r:=⟨_,a5 Cs⟩;obtain⟨o,ho⟩:∃o,(eS xg xx xw.length pre)[x2]?=some o:=⟨_,a5 (by rw[nB];exact Cs)⟩;obtain⟨q,hq⟩:∃q,(eT xg xw xx.length pre)[x3]?=some q:=⟨_,a5 (by rw[nC];exact If)⟩;have cy:=bg.rd.all hy;have cz:=b'.rd.all hz;have cr:=b.rd.all hr;have iy:I6 y:=cv.at hy;have iz:I6 z:=cv.at hz;have ir:I6 r:=cv.at hr;have io:I6 o:=⟨s4 o (aC ho)⟩;have iq:I6 q:=⟨s5 q (aC hq)⟩;have hco:=iC.cell ho;have og:Old E W:=⟨iC.lt⟩;have K9:Hx ((eS xg xx xw.length pre).set x2 (bQ o (bN y z))=eS xg xx xw.length (pre++[(x1,x2,x3)])):=ae (by
   rw[FZ,yz];simp only;rw[aQ,ho,aQ,hy,aQ,hz];rfl)
  have ab5:Hx ((eT xg xw xx.length pre).set x3 (bQ q (bN y r))=eT xg xw xx.length (pre++[(x1,x2,x3)])):=ae (by
   rw[F0,yA];simp only;rw[aQ,hq,aQ,hy,aQ,hr];rfl)
  have n0:W0.1.size≠E:=om;have n0':W0.1.size≠j:=om;have n1:k1≠E:=om;have n1':k1≠j:=om;have n2:k2≠E:=om;have n2':k2≠j:=om;have n3:=iC.aH TO am;have n3':=iD.aH TO am;have n4:gs≠E:=iS.aH (cs:=ints (eS xg xx xw.length pre)) iC am;have n4':gs≠j:=iS.aH (cs:=ints (eT xg xw xx.length pre)) iD am;have n5:I≠E:=iT.aH (cs:=ints (eS xg xx xw.length pre)) iC am;have n5':I≠j:=iT.aH (cs:=ints (eT xg xw xx.length pre)) iD am;have c0:w.1.size≠E:=om;have c0':w.1.size≠j:=om;have c1:w.1.size+1≠E:=om;have F8:w.1.size+1≠j:=om;have c2:w.1.size+1+1≠E:=om;have c2':w.1.size+1+1≠j:=om;have c3:w.1.size+1+1+1≠E:=om;have PD:w.1.size+1+1+1≠j:=om;have n6:E<w2.1.size+2:=om;have ab6:j<w2.1.size+2:=om;have HO:=ae ho;have HQ:=ae hq;clear hy hz hr ho hq;gi_wp2;refine ky w (λw9=>Bx w9 k1 26 #[.slice E xw xw.length]/\Bx w9 W0.1.size 267 #[x1,x2,x3]/\Bx w9 (w.1.size+1) 28 #[.slice C zx cx,.slice (some ⟨bd,od,none⟩) xx d']) ao ao xQ9 (λv2 _=>?_);refine bL 0 ?_;refine bL 1 ?_;refine bL 2 ?_;refine bL 3 ?_;refine bL 4 ?_;refine bL 5 ?_;refine bL 6 ?_;refine bL 8 ?_;refine bL 9 ?_;refine bL 10 ?_;refine bL 11 ?_;refine bL 12 ?_;refine bL 13 ?_;refine bL 14 ?_;refine qr 7 15 (λK hK=>?_) (λK hK=>?_);(focus go_simp;refine aG hK ?_ ⟨aR w _,⟨aq,aq,aq⟩⟩;refine aK 15 λK hK=>?_;go_simp;refine(ip).mono ?_;rintro e v2 ⟨rfl,_⟩;dsimp only);rotate_left;(focus go_simp;refine(ip).mono ?_;rintro e v2 ⟨rfl,_⟩;dsimp only;refine aG hK ?_ ⟨aR w _,⟨aq,aq,aq⟩⟩;refine aK 7 λK hK=>?_;go_simp);all_goals
   refine aG hK ?_ ⟨aR w _,⟨aq,aq,aq⟩⟩;refine aK 16 λK hK=>?_;go_simp;refine(pi).mono ?_;rintro e v2 ⟨rfl,_⟩;dsimp only;refine aG hK ?_ ⟨aR w _,⟨aq,aq,aq⟩⟩;refine bL 17 ?_;refine aK 18 λK hK=>?_;have sG:=((iC).at (w':=v2)).cell HO;have tY:=((iC).at (w':=v2)).frozen x2;go_simp;refine aG hK ?_ ⟨⟨(aP w v2).setCell (p:=⟨E,x2,none⟩) xj _⟩,⟨⟨(Bx.ak (w:=v2)).aY n1 _⟩,⟨(Bx.ak (w:=v2)).aY n0 _⟩,⟨(Bx.ak (w:=v2)).aY c1 _⟩⟩⟩;clear hK K sG tY;refine a9 ?_;gi_wp2;obtain⟨V3,F9⟩:=lg (v2.setCell (E,x2) (bQ o (bN y z):Int));(have jC:Own V3 E 65 (eS xg xx xw.length (pre++[(x1,x2,x3)])):=by rw[F9,<-K9.o];exact(iC.at (w':=v2)).av x2 _);(have jD:Own V3 j 65 (eT xg xw xx.length pre):=by rw[F9];exact(iD.at (w':=v2)).aY (p:=⟨E,x2,none⟩) js.symm _);(have jS:Own V3 gs 3 zw:=by rw[F9];exact(iS.at (w':=v2)).aY (p:=⟨E,x2,none⟩) n4 _);(have jT:Own V3 I 3 zx:=by rw[F9];exact(iT.at (w':=v2)).aY (p:=⟨E,x2,none⟩) n5 _);have lT:=(TO.at (w':=v2)).aY (p:=⟨E,x2,none⟩) (dO n3) (bQ o (bN y z):Int);have lP:=(kP'.at (w':=v2)).aY (p:=⟨E,x2,none⟩) n1 (bQ o (bN y z):Int);have lQ:=(kQ'.at (w':=v2)).aY (p:=⟨E,x2,none⟩) n2 (bQ o (bN y z):Int);have lW:=(kW'.at (w':=v2)).aY (p:=⟨E,x2,none⟩) c0 (bQ o (bN y z):Int);have lX:=(kX'.at (w':=v2)).aY (p:=⟨E,x2,none⟩) c1 (bQ o (bN y z):Int);have lG:=(kG'.at (w':=v2)).aY (p:=⟨E,x2,none⟩) c2 (bQ o (bN y z):Int);have lR:=(Ij.at (w':=v2)).aY (p:=⟨E,x2,none⟩) c3 (bQ o (bN y z):Int);have lA:=(hA.at (w':=v2)).aY (p:=⟨E,x2,none⟩) n0 (bQ o (bN y z):Int);have p3:aj V3 w:=⟨by rw[F9];exact(aP w v2).setCell (p:=⟨E,x2,none⟩) xj _⟩;(have kf:KeepsFrom w2.1.size W V3:=by rw[F9];exact mE (kv (aP W v2)) _ _);(have hn3:dL (w2.1.size+2) W V3:=by rw[F9];exact(dL.below (aP W v2)).trans (dL.av (p:=⟨E,x2,none⟩) _ n6));rw[<-F9]at lT lP lQ lW lX lG lR lA⊢;clear F9 rP rQ rW rX rG rA hco og;have rQ:Bx V3 k2 26 #[.slice (some ⟨j,0,none⟩) xx xx.length]:=⟨lQ⟩;have rW:Bx V3 w.1.size 28 #[.slice A zw c,.slice (some ⟨bb,ob,none⟩) xw d]:=⟨lW⟩;have rA:Bx V3 W0.1.size 267 #[x1,x2,x3]:=⟨lA⟩;have TP:=jD.cell HQ;have og:Old j V3:=⟨jD.lt⟩;refine ky w (λw9=>Bx w9 k2 26 #[.slice (some ⟨j,0,none⟩) xx xx.length]/\Bx w9 W0.1.size 267 #[x1,x2,x3]/\Bx w9 w.1.size 28 #[.slice A zw c,.slice (some ⟨bb,ob,none⟩) xw d]) ao ao xQ9 (λv4 _=>?_);refine bL 0 ?_;refine bL 1 ?_;refine bL 2 ?_;refine bL 3 ?_;refine bL 4 ?_;refine bL 5 ?_;refine bL 6 ?_;refine bL 8 ?_;refine bL 9 ?_;refine bL 10 ?_;refine bL 11 ?_;refine bL 12 ?_;refine bL 13 ?_;refine bL 14 ?_;refine qr 7 15 (λK hK=>?_) (λK hK=>?_);(focus go_simp;refine aG hK ?_ ⟨aR w _,⟨aq,aq,aq⟩⟩;refine aK 15 λK hK=>?_;go_simp;refine(ip).mono ?_;rintro e v4 ⟨rfl,_⟩;dsimp only);rotate_left;(focus go_simp;refine(ip).mono ?_;rintro e v4 ⟨rfl,_⟩;dsimp only;refine aG hK ?_ ⟨aR w _,⟨aq,aq,aq⟩⟩;refine aK 7 λK hK=>?_;go_simp);all_goals
    refine aG hK ?_ ⟨aR w _,⟨aq,aq,aq⟩⟩;refine aK 16 λK hK=>?_;go_simp;refine(pi).mono ?_;rintro e v4 ⟨rfl,_⟩;dsimp only;refine aG hK ?_ ⟨aR w _,⟨aq,aq,aq⟩⟩;refine bL 17 ?_;refine aK 18 λK hK=>?_;have sG:=((jD).at (w':=v4)).cell HQ;have tY:=((jD).at (w':=v4)).frozen x3;go_simp;refine aG hK ?_ ⟨⟨(aP w v4).setCell (p:=⟨j,x3,none⟩) Df _⟩,⟨⟨(Bx.ak (w:=v4)).aY n2' _⟩,⟨(Bx.ak (w:=v4)).aY n0' _⟩,⟨(Bx.ak (w:=v4)).aY c0' _⟩⟩⟩;clear hK K sG tY;refine a9 ?_;gi_wp2
    have o2:=(jD.at (w':=v4)).av x3 (bQ q (bN y r));rw[ab5.o]at o2;exact⟨kf.trans (mE (kv (aP V3 v4)) _ _),hn3.trans ((dL.below (aP V3 v4)).trans (dL.av (p:=⟨j,x3,none⟩) _ ab6)),
     (jC.at (w':=v4)).aY (p:=⟨j,x3,none⟩) js _,o2,(jS.at (w':=v4)).aY (p:=⟨j,x3,none⟩) n4' _,(jT.at (w':=v4)).aY (p:=⟨j,x3,none⟩) n5' _,(lT.at (w':=v4)).aY (p:=⟨j,x3,none⟩) (dO n3') _,
     (lP.at (w':=v4)).aY (p:=⟨j,x3,none⟩) n1' _,(lQ.at (w':=v4)).aY (p:=⟨j,x3,none⟩) n2' _,(lW.at (w':=v4)).aY (p:=⟨j,x3,none⟩) c0' _,(lX.at (w':=v4)).aY (p:=⟨j,x3,none⟩) F8 _,(lG.at (w':=v4)).aY (p:=⟨j,x3,none⟩) c2' _,(lR.at (w':=v4)).aY (p:=⟨j,x3,none⟩) PD _,
     (aP w v4).setCell (p:=⟨j,x3,none⟩) Df _⟩
 case done=>rintro D xs W hD rfl ⟨iC,iD,iS,iT,TO,kP',kQ',kW',kX',kG',Ij,bW⟩ hK;have qT:Bx W t 206 #[.slice gs zw zw.length,.slice E xw xw.length,.slice I zx zx.length,.slice (some ⟨j,0,none⟩) xx xx.length]:=⟨TO⟩;have qR:Bx W (w.1.size+1+1+1) 206 #[(),(),(),()]:=⟨Ij⟩;have pW:aj W w:=⟨bW⟩;have l1:=iS.aH Ij am;have l2:=iC.aH Ij am;have l3:=iT.aH Ij am;have l4:=iD.aH Ij am;have k2':=az.Nx Ij (.slice gs zw zw.length) (.slice E xw xw.length) (.slice I zx zx.length) (.slice (some ⟨j,0,none⟩) xx xx.length);have o1:=iS.mK l1 (.slice gs zw zw.length) (.slice E xw xw.length) (.slice I zx zx.length) (.slice (some ⟨j,0,none⟩) xx xx.length);have o2:=iC.mK l2 (.slice gs zw zw.length) (.slice E xw xw.length) (.slice I zx zx.length) (.slice (some ⟨j,0,none⟩) xx xx.length);have o3:=iT.mK l3 (.slice gs zw zw.length) (.slice E xw xw.length) (.slice I zx zx.length) (.slice (some ⟨j,0,none⟩) xx xx.length);have o4:=iD.mK l4 (.slice gs zw zw.length) (.slice E xw xw.length) (.slice I zx zx.length) (.slice (some ⟨j,0,none⟩) xx xx.length);have b3:=qO bW (p:=w.1.size+1+1+1) om (.slice gs zw zw.length) (.slice E xw xw.length) (.slice I zx zx.length) (.slice (some ⟨j,0,none⟩) xx xx.length);have Cu:=aaK (p:=w.1.size+1+1+1) (.slice gs zw zw.length) (.slice E xw xw.length) (.slice I zx zx.length) (.slice (some ⟨j,0,none⟩) xx xx.length) hK rfl;clear iC iD iS iT;go_wp2_with fail;refine⟨aD,.inl ⟨_,_,rfl,run_takeDeferred Cu,?_⟩⟩;have k4:=(db.ak (B:=0) (λ(_:Unit)=>w.1.size+1+1+1) 206 (λ_=>_)).iO () _ D _ (.deferred none) k2' (aM _) Cu rfl;have u1:=(db.own (B:=0) (λ(_:Unit)=>gs) 3 (λ_=>zw)).iO () _ D _ (.deferred none) o1 (aM _) Cu rfl;have u2:=(db.own (B:=0) (λ(_:Unit)=>E) 65 (λ_=>eS xg xx xw.length f.all)).iO () _ D _ (.deferred none) o2 (aM _) Cu rfl;have u3:=(db.own (B:=0) (λ(_:Unit)=>I) 3 (λ_=>zx)).iO () _ D _ (.deferred none) o3 (aM _) Cu rfl;have u4:=(db.own (B:=0) (λ(_:Unit)=>j) 65 (λ_=>eT xg xw xx.length f.all)).iO () _ D _ (.deferred none) o4 (aM _) Cu rfl;have b4:=(db.below (β:=Unit) (w:=w) (al _) b2.size).iO () _ D _ (.deferred none) b3 hD Cu rfl;have e0:=k4.cell 0;have e1:=k4.cell 1;have e2:=k4.cell 2;have e3:=k4.cell 3;generalize World.putObj _ D (.deferred none)=W3 at*;refine⟨.tuple #[.agg #[.slice gs zw zw.length,.slice E xw xw.length,.slice I zx zx.length,.slice (some ⟨j,0,none⟩) xx xx.length],an],by simp[results,results107,go_sem,e0,e1,e2,e3],?_⟩;exact⟨_,zw.length,_,xw.length,_,zx.length,_,xx.length,by rw[hX.o,hY.o,nB,nC],⟨u1.rd,rfl⟩,⟨by rw[hX.o];exact u2.rd,rfl⟩,⟨u3.rd,rfl⟩,⟨by rw[hY.o];exact u4.rd,rfl⟩,fy om,fy om,fy om,fy om,Le.same _,⟨by rw[hX.o,nB];exact al _⟩,Le.same _,⟨by rw[hY.o,nC];exact al _⟩,⟨b4⟩⟩
end
end
end
end Go.Proofs.YtmkjnlifimffkaaGreat
