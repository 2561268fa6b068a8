/- Lemmas. -/
import Derived.Test.YtmkjnlifimffkaaGreatG07
namespace Go.Proofs.YtmkjnlifimffkaaGreat
open Go.RowKit Tryz
set_option linter.all false
set_option maxRecDepth 100000
set_option maxHeartbeats 0
variable{Γ:Prop}
attribute[local irreducible]Calls
variable{us:List Tn}{sd side st y z:Int}{t:Tn}{I R c c' c2 cx d d' d2 e i j l m m' n2:Nat}{L:List (List Int)}{X w':World}{A B C D:Option Addr}{xs ys zs:List Int}{T T':TypeId}{kx:Array Value}
abbrev TV:=List Int×List Int
def Tn.tv(t:Tn):TV:=(t.zs,t.xs)
def g1(v:TV):Tn:=⟨none,0,v.1,none,0,v.2⟩
noncomputable def cvX(p x:TV)(V:au)(S:Int):List Int:=by
 classical exact if h:∃f,nY f p.1 x.1 V S then fV p.2 x.2 (h.choose.O*(h.choose.M*h.choose.N)) h.choose.all else[]
def Td(b:Int)(x:TV)(V:au)(W S:Int):List Int:=j0 (ib b W.toNat) x.2 (dP x.1).toNat (dP V).toNat S.toNat W.toNat (aB V).toNat
def jnX(xs:List TV)(V:au)(b:Int):List Int:=p7 (aB (V.take b.toNat)).toNat (xs.map g1) (aB (V.take b.toNat)).toNat
noncomputable def xA(o:ir)(ps xs:List TV):List Int:=
 if o.kd=8 then g6 (ps.getD 0 ([],[])).2 (ps.getD 1 ([],[])).2 (xs.getD 0 ([],[])).2 (ps.getD 1 ([],[])).2.length
 else if o.kd=9 then(xs.getD 0 ([],[])).2.zipWith bB (ps.getD 0 ([],[])).2
 else if o.kd=10 then cvX (ps.getD 0 ([],[])) (xs.getD 0 ([],[])) (cy o (ps.map (·.1)) (xs.map (·.1))) o.st
 else if o.kd=11 then Td 1 (xs.getD 0 ([],[])) (cy o (ps.map (·.1)) (xs.map (·.1))) o.wd o.st
 else if o.kd=12 then Td 2 (xs.getD 0 ([],[])) (cy o (ps.map (·.1)) (xs.map (·.1))) o.wd o.st
 else if o.kd=13 then jnX xs (cy o (ps.map (·.1)) (xs.map (·.1))) o.sd
 else if o.kd=14 then Hs (xs.getD 0 ([],[])).1 (xs.getD 0 ([],[])).2 o.sd o.fr o.tt
 else if o.kd=15 then(xs.getD 0 ([],[])).2
 else tn o.kd o.k (xs.map g1) (xs.getD 0 ([],[])).2.length
section
variable{ts:List Tn}{o:ir}{P X:List (List Int)}
def QI{k:Nat}(h:ts[k]?=some t):(ts.map Tn.tv).getD k ([],[])=(t.zs,t.xs):=by
 rw[a5,bo,h];rfl
def Am{k:Nat}{z x:au}(h:(ts.map Tn.tv).getD k ([],[])=(z,x)):(ts.map (·.zs)).getD k []=z:=by
 rw[a5,bo]at h⊢;cases b:ts[k]? with
 |none=>rw[b]at h;exact(i7 h).1
 |some t=>rw[b]at h;exact(i7 h).1
def QJ:(ts.map Tn.tv).map (·.1)=ts.map (·.zs):=by rw[nO];rfl
def H1:(ts.map Tn.tv).map g1=ts.map λt=>g1 (t.zs,t.xs):=by rw[nO];rfl
def QK(i:Nat):sec ((ts.map Tn.tv).map g1) i=sec ts i:=by
 unfold sec;rw[H1,bo];cases ts[1]?<;>rfl
def H2:ha ((ts.map Tn.tv).map g1)=ha ts:=by
 unfold ha;rw[H1,bo];cases ts[0]?<;>rfl
def abi{k:Int}:tn z k ((ts.map Tn.tv).map g1) m=tn z k ts m:=by
 unfold tn;rw[H2];exact iG λi _=>by rw[QK]
def abj{P:Nat}:p7 P ((ts.map Tn.tv).map g1) i=p7 P ts i:=by
 unfold p7;have e:∀j,e9 P j ((ts.map Tn.tv).map g1) ((ts.map Tn.tv).map g1).length=e9 P j ts ts.length:=λj=>by unfold e9;rw[ek,ek,H1,List.flatMap_map];rfl
 rw[show(λj=>e9 P j ((ts.map Tn.tv).map g1) ((ts.map Tn.tv).map g1).length)=λj=>e9 P j ts ts.length from funext e]
def Xj:∀{l:List Tn} {s:au},(∀t∈l,aw t.zs t.xs=true)->xc side s l=HE side s (l.map (·.zs))/\zc side s l=El side s (l.map (·.zs))
 |[],_,_=>⟨rfl,rfl⟩
 |t::l,s,h=>by have b:=Xj (l:=l) (s:=dF s t.zs side) λu hu=>h u (iD _ hu);refine⟨?_,b.2⟩;unfold xc;rw[ah (h t dD),b.1];rfl
def N5(e:us≠[])(h:∀t∈us,aw t.zs t.xs=true):zd side us=BC side (us.map (·.zs))/\vD side us=El side ((us.map (·.zs)).headD []) (us.map (·.zs)).tail:=by
 cases us with
 |nil=>exact absurd rfl e
 |cons t l=>have b:=Xj (side:=side) (l:=l) (s:=t.zs) λu hu=>h u (iD _ hu);refine⟨?_,b.2⟩;rw[xd,ah (h t dD),b.1];unfold BC;simp
def et(hE:pf L=0):∀z∈L,z=pd L:=by
 unfold pf at hE;split at hE;rename_i hs;intro z b;rw[pd,ah hs];exact pH (dL.1 hs z b);exact absurd hE ao
end
section
variable{w:World}{E F:Option Addr}{n m2:Nat}{ts us vs:List Int}
def ada[a:Sl w A n zs][b:Sl w B m xs][e:Sl w C R ts][j:Sl w D m' ys][l:Sl w E n2 us][r:Sl w F m2 vs][ld:Le m d][y:cm xs][z:cm ys][G:cm vs](u:n2<=1000000){L:au}(hr:Z (eH zs xs ts ys us vs=true))(hL:Z (L=g6 xs ys vs ys.length)):
  () 158 #[.agg #[(A,n,c),(B,m,d)],.agg #[(C,R,c'),(D,m',d')],.agg #[(E,n2,c2),(F,m2,d2)]] w (dM w ts L 0):=by
 obtain⟨a,rfl⟩:=a;obtain⟨b,rfl⟩:=b;obtain⟨e,rfl⟩:=e;obtain⟨j,rfl⟩:=j;obtain⟨l,rfl⟩:=l;obtain⟨r,rfl⟩:=r;rw[hL.o];exact t1 (SJ A B C D E F c d c' d' c2 d2 zs xs ts ys us vs w ld.le u a b e j l r (U y.bd) (U z.bd) (U G.bd) hr)
def Kt[a:Sl w A n zs][b:Sl w B m xs][e:Sl w C R ts][j:Sl w D m' ys][r:cm xs][u:cm ys](y:n<=1000000)(l:R<=1000000)(h:Z (cP ts ys zs xs=true)){L:au}(hL:Z (L=ys.zipWith bB xs)):
  () 159 #[.agg #[(A,n,c),(B,m,d)],.agg #[(C,R,c'),(D,m',d')]] w (dM w ts L 0):=by
 obtain⟨a,rfl⟩:=a;obtain⟨b,rfl⟩:=b;obtain⟨e,rfl⟩:=e;obtain⟨j,rfl⟩:=j;have:=t1 (abc A B C D c d c' d' zs xs ts ys w y l a b e j (U r.bd) (U u.bd));rw[hL.o];simpa[Eo,Ep,SF,h.o]using this
def N6{Q:World->Prop}{cs:dw}(h:∀b u,aj b X->aj u b->Bx b X.1.size T cs->b.1.size<=X.1.size+1->Bx u (X.1.size+1) T' kx->Q u):Q ((X.alloc (.cells cs T)).alloc (.cells kx T')):=
 h (X.alloc (.cells cs T)) _ (aC) (aC) am aI am
end
section
variable{w:World}{n:Nat}{V X:List Int}
def QL{wd:Int}{W S:Nat}[Sl w A n zs][Sl w B m xs][cm xs][Le m d](b:Z (wd=(W:Int)/\st=(S:Int)))(e:n<=1000000)(hr:aw zs xs=true)(r:z=1\/z=2)(u:Z (PW zs V R j l W S))(y:Z (X=j0 (ib z W) xs j l S W (R*l))):
  () 161 #[z,.agg #[(A,n,c),(B,m,d)],wd,st] w (dM w V X 0):=by
 rw[b.o.1,b.o.2];exact NT e hr r u y
def Te{P:Nat}[Ts w A n us][Le n c](r:n<=1000000)(hs:Z (sd=(j:Int)))(u:Z (∀t∈us,t.zs.length<=1000000))(hE:Z (zd j us=0))(e:Z (JW j P I l V))(hS:Z (V=vD j us))(y:Z (X=p7 P us P))
  (hP:Z (P*dC P us<=65536)) (b:Z (∀t∈us,P*(t.xs.length/P)=t.xs.length/\t.xs.length<=65536)):
  () 162 #[sd,(A,n,c)] w (dM w V X 0):=by
 rw[hs.o];exact HR r u hE e hS y hP b
def Fs{ts:au}[Sl w A n zs][Sl w B m xs][Sl w C j ts](e:n<=1000000)(hm:m<=1000000)(b:j<=1000000)(hr:aw zs xs=true)(r:Z (aw V xs=true/\V=ts)):
  () 164 #[.agg #[(A,n,c),(B,m,d)],(C,j,l)] w (dM w V xs 0):=by
 obtain⟨u,rfl⟩:=r.o;exact HN e hm b hr u
def abk[Ts w A n us][I6 y](j:Z (∀t∈us,t.zs.length<=1000000))(hE:gQ z us=0)(l:Z (V=km us))(r:Z (X=tn z y us (ha us).length)):() 165 #[z,y,(A,n,c)] w (dM w V X 0):=
 (N3 j hE l r).mono λe w' ⟨g,E,u,b,hg,oS,C,hp⟩=>⟨_,_,_,_,u,⟨oS.rd,rfl⟩,⟨C.rd,rfl⟩,Le.same _,Le.same _,⟨λD e=>by injection e with e;subst e;exact b⟩,⟨λD e=>by injection e with e;subst e;exact hg⟩,hp⟩
end
def eP(ts:List Tn):Prop:=∀t∈ts,aw t.zs t.xs=true/\t.zs.length<=t.c
def eP.len{ts:List Tn}(h:eP ts)(ht:t∈ts):t.zs.length<=4:=cv ((aS _ _).1 (h t ht).1).1
def Ts.yK{w:ab}{n:Nat}{ts:List Tn}(h:Ts w A n ts)(hr:Z (eP ts)){k:Nat}(r:k<n):∃b o j n1 c1 zs l m1 d1 xs,A=some ⟨b,o,none⟩/\Old b w/\w.cell? (b,o+k*2)=some (.slice j n1 c1)/\w.cell? (b,o+k*2+1)=some (.slice l m1 d1)/\
  Sl w j n1 zs/\Sl w l m1 xs/\Le n1 c1/\Le m1 d1/\cm xs/\n1<=4/\m1<=65536/\Z (aw zs xs=true)/\Z ((ts.map Tn.tv).getD k ([],[])=(zs,xs)):=by
 obtain⟨b,o,j,c1,zs,l,d1,xs,e,ob,v0,u,y,z,l1,i1,ht⟩:=h.get r;obtain⟨m,B⟩:=hr.o _ (aK ht.o);exact⟨b,o,j,_,c1,zs,l,_,d1,xs,e,ob,v0,u,y,z,⟨B⟩,⟨l1⟩,i1,(fp m).2,(fp m).1,U m,U (QI ht.o)⟩
section
variable{w:World}{n nx:Nat}{ts:List Tn}{o:ir}
def zH1(h:Γ:=by obtain⟨r0,r1⟩:=bM ho.ak;refine aZ (v:=.tuple #[.agg #[.slice D V T,.slice E X d'],an]) (by simp[results,results102,go_sem,r0,r1]) rfl ⟨D,T,E,d',rfl,oQ,mg,lA,lX,fA.less ai,fX.less ai,⟨dm (aO w G) r⟩⟩):=h
def zH2(h:Γ:=by rintro e L ⟨D,T,E,d',rfl,sA,sX,lA,lX,fA,fX,_⟩;dsimp only;refine aE hK ?_;refine qL [10,11] ?_;refine aJ 12 λK hK=>?_;go_simp;obtain⟨z,j⟩:=lg ((L.setCell (w.1.size+1,0) (.slice D V T)).setCell (w.1.size+1,1) (.slice E X d'));rw[<-j];(have r:Below (World.heap G).size G z:=by rw[j];exact bA (aO G L) hz _ _);(have zo:∀b,b<L.1.size->b≠w.1.size+1->(World.heap z)[b]?=L.heap[b]?:=λb _ hb=>by rw[j];exact(bb _ ⟨w.1.size+1,1,none⟩ _ b hb).trans (bb _ ⟨w.1.size+1,0,none⟩ _ b hb));have ho:Bx z (w.1.size+1) _ #[.slice D V T,.slice E X d']:=⟨by rw[j];exact aA.bP (Bx.ak (w:=L) (g:=w.1.size+1)) _ _⟩;(have oQ:Sl z D (V.length) V:=by rw[j];exact sA.bH fA (Bx.ak (g:=w.1.size+1)).lt _ _);(have mg:Sl z E (X.length) X:=by rw[j];exact sX.bH fX (Bx.ak (g:=w.1.size+1)).lt _ _);have nE:aj z G:=⟨r⟩;refine aE hK ?_ ⟨r⟩;clear hK K j;refine eE 13 ?_;refine a8 ?_;go_wp2_with fail;exact zH1):=h
def zH3(h:Γ:=by rintro e L ⟨D,T,E,d',rfl,sA,sX,lA,lX,fA,fX,_⟩;dsimp only;refine aE hK ?_;refine qL [8,9] ?_;refine aJ 10 λK hK=>?_;go_simp;obtain⟨z,j⟩:=lg ((L.setCell (w.1.size+1,0) (.slice D V T)).setCell (w.1.size+1,1) (.slice E X d'));rw[<-j];(have r:Below (World.heap G).size G z:=by rw[j];exact bA (aO G L) hz _ _);(have zo:∀b,b<L.1.size->b≠w.1.size+1->(World.heap z)[b]?=L.heap[b]?:=λb _ hb=>by rw[j];exact(bb _ ⟨w.1.size+1,1,none⟩ _ b hb).trans (bb _ ⟨w.1.size+1,0,none⟩ _ b hb));have ho:Bx z (w.1.size+1) _ #[.slice D V T,.slice E X d']:=⟨by rw[j];exact aA.bP (Bx.ak (w:=L) (g:=w.1.size+1)) _ _⟩;(have oQ:Sl z D (V.length) V:=by rw[j];exact sA.bH fA (Bx.ak (g:=w.1.size+1)).lt _ _);(have mg:Sl z E (X.length) X:=by rw[j];exact sX.bH fX (Bx.ak (g:=w.1.size+1)).lt _ _);have nE:aj z G:=⟨r⟩;refine aE hK ?_ ⟨r⟩;clear hK K j;refine eE 11 ?_;refine a8 ?_;go_wp2_with fail;exact zH1):=h
def zH4(h:Γ:=by obtain⟨z,j⟩:=lg ((u.setCell (w.1.size+1,0) (.slice D V T)).setCell (w.1.size+1,1) (.slice E X d'));rw[<-j];(have r:Below (World.heap G).size G z:=by rw[j];exact bA (aO G u) hz _ _);have ho:Bx z (w.1.size+1) _ #[.slice D V T,.slice E X d']:=⟨by rw[j];exact aA.bP (Bx.ak (w:=u) (g:=w.1.size+1)) _ _⟩;(have oQ:Sl z D V V:=by rw[j];exact sA.bH fA (Bx.ak (g:=w.1.size+1)).lt _ _);(have mg:Sl z E X X:=by rw[j];exact sX.bH fX (Bx.ak (g:=w.1.size+1)).lt _ _);clear j;exact zH1):=h
def zH5(h:Γ:=by rw[j];exact(bb _ ⟨w.1.size+1,1,none⟩ _ b hb).trans (bb _ ⟨w.1.size+1,0,none⟩ _ b hb)):=h
def zH6(h:Γ:=by rw[j];exact sA.bH fA (Bx.ak (g:=w.1.size+1)).lt _ _):=h
def zH7(h:Γ:=by rw[j];exact sX.bH fX (Bx.ak (g:=w.1.size+1)).lt _ _):=h
def zH8(h:Γ:=by refine a8 ?_;go_wp2_with fail;exact zH1):=h
def zH9(h:Γ:=by rw[j];exact bA (aO G L) hz _ _):=h
def adb[Sl w A n o.S][I6 o.k](hn:n<=1000000)[a:Ts w B m ts][x:Ts w C nx us][Le nx cx](hx:nx<=1000000)(hT:Z (eP ts))(hU:Z (eP us))(hE:dr o (ts.map (·.zs)) (us.map (·.zs))=0){V X:au}
  (hV:Z (cy o (ts.map (·.zs)) (us.map (·.zs))=V)) (Q:Z (xA o (ts.map Tn.tv) (us.map Tn.tv)=X)):
  () 102 #[.agg (gM o.kd o.k o.wd o.st o.sd o.fr o.tt (A,n,d)),(B,m,e),(C,nx,cx)] w (dM w V X 0):=by
 obtain⟨CB,CP,FB⟩:=gW;obtain⟨hc,hP,hXr,hk⟩:=jm hE;obtain⟨i0,i1,i2,i3⟩:=yF hc;have HC:Z (mP o.kd o.k o.wd o.st o.sd o.fr o.tt o.S m nx=0):=U (by rw[<-hc,ir.cnt,a.len,x.len,bn,bn]);have IM:Z ((m:Int)=fq o.kd):=U (by rw[<-i3,a.len,bn]);have IX:Z (0<nx):=U (by rw[x.len];rw[bn]at i1;unfold gN at i1;split at i1<;>omega);have IN:Z (¬o.kd=8/\¬o.kd=9/\¬o.kd=10/\¬o.kd=11/\¬o.kd=12/\¬o.kd=13/\¬o.kd=14/\¬o.kd=15->(nx:Int)=g8 o.kd/\g8 o.kd≠0):=λh=>by obtain⟨kl,kh⟩:=Ai i0;rw[bn,<-x.len]at i1 i2;unfold gN at i1;unfold jl at i2;unfold g8;by_cases h6:o.kd=6\/o.kd=7;rw[ah h6]at i1 i2⊢;rw[ag Y];omega;rw[ag h6]at i1 i2;rw[ag Y]at i2;rw[ah Y];omega
 have iO:Z (c6 o (ts.map (·.zs)) (us.map (·.zs))=V):=U (by rw[<-hV.o,cy,ah hE]);have HK:=U hk;have HR:Z (aH V=true):=U (by rw[<-hV.o];exact lC hE);have hX':=Q.o;unfold xA at hX';rw[QJ,QJ,hV.o]at hX';have HX:=U hX';obtain⟨b0,q0,A0,n0,c0,z0,B0,m0,d0,x0,rfl,ob0,v0,v1,s0,t0,lc0,ld0,ix0,n04,m06,r0,e0⟩:=x.yK hU (k:=0) IX;have D0:Z ((us.map (·.zs)).getD 0 []=z0):=Am e0.o;simp only[fo,d9]at v0 v1;have x1:0<nx:=IX.o;have P1:∀k:Nat,k<m->∃b o A1 n1 c1 zs B1 m1 d1 xs,B=some ⟨b,o,none⟩/\Old b w/\w.cell? (b,o+k*2)=some (.slice A1 n1 c1)/\w.cell? (b,o+k*2+1)=some (.slice B1 m1 d1)/\Sl w A1 n1 zs/\Sl w B1 m1 xs/\Le n1 c1/\Le m1 d1/\cm xs/\n1<=4/\m1<=65536/\Z (aw zs xs=true)/\Z ((ts.map Tn.tv).getD k ([],[])=(zs,xs))/\Z ((ts.map (·.zs)).getD k []=zs):=λk hk=>by obtain⟨b,o,A1,n1,c1,zs,B1,m1,d1,xs,h1,h2,h3,h4,h5,h6,h7,h8,h9,N7,zh,HD,H3⟩:=a.yK hT hk;exact⟨b,o,A1,n1,c1,zs,B1,m1,d1,xs,h1,h2,h3,h4,h5,h6,h7,h8,h9,N7,zh,HD,H3,U (Am H3.o)⟩
 have vQ:=U P1;clear hc hP hXr hk i0 i1 i2 i3 hX' IX P1 hE hV Q;go_in;go_upto_region 1 with fail;refine N6 (λG u _ _ k0 hz k1=>?_);by_cases k8:o.kd=8
 .have vC:m=2:=by have:=IM.o;rw[fq,ah k8]at this;omega
  obtain⟨b1,q1,A1,n1,c1,z1,B1,m1,d1,ui,e1,mM,BR,BS,s1,t1,Xk,Xl,Tf,Xm,SB,r1,Ez,BU⟩:=vQ.o 0 Y;obtain⟨b2,q2,A2,n2,c2,z2,B2,m2,d2,Xn,e2,iM,va2,vb2,s2,t2,lc2,ld2,ix2,n24,m26,r2,ev2,ez2⟩:=vQ.o 1 Y;subst e1;injection e2 with e2;injection e2 with e2 e3;subst e2 e3
  simp only[fo,d9,l7]at BR BS va2 vb2;have hV:=iO.o;have Q:=HX.o;have hK:=HK.o;rw[c6,ah k8]at hV;rw[ah k8]at Q;rw[cz,ah k8]at hK;rw[BU.o,ez2.o,D0.o]at hV hK;rw[Ez.o,ev2.o,e0.o]at Q;have HG:Z (eH z1 ui z2 Xn z0 x0=true/\V=z2):=U (by
   have hB:iN z1 z2 z0=true:=by
    unfold mS at hK
    split at hK
    .assumption
    .exact absurd hK ao
   rw[mR,ah hB]at hV;simp only[iN,bU,b9]at hB;obtain⟨⟨⟨⟨g1,g2⟩,g3⟩,g4⟩,g5⟩:=hB;have f0:=((aS _ _).1 r0.o).2;have e:z2=[z1.getD 0 0]:=by
    match z2,g2,g3 with
    |[y],_,g3=>rw[<-g3];rfl
   refine⟨?_,by rw[<-hV,e]⟩;simp only[eH,mT,bU,b9];exact⟨⟨⟨⟨⟨r1.o,g1⟩,r2.o⟩,r0.o⟩,e⟩,by rw[f0,g5]⟩)
  obtain rfl:=HG.o.2;have iP:Z (X=g6 ui Xn x0 Xn.length):=Q.symm;have g1:0<m:=Y;(have g2:(1:Int)<(m:Int):=by omega);(have h8:(o.kd==8)=true:=by simpa using k8);clear k8;clear vC hV Q hK;go_upto_region 6 with(go_at_call 104;refine(bY hn HC).mono ?_;rintro e u ⟨rfl,_⟩);refine ax G ap (λL _=>?_);refine qL [0,1,2,3,4,5,6,7,8] ?_;refine aJ 9 λK hK=>?_;go_simp;refine(ada Y (U HG.o.1) iP).mono ?_;exact zH2
 have h8:(o.kd==8)=false:=by simpa using k8
 by_cases k9:o.kd=9
 .have lz:m=1:=by have:=IM.o;rw[fq,ag k8,ah (.inl k9)]at this;omega
  obtain⟨b1,q1,A1,n1,c1,z1,B1,m1,d1,ui,e1,mM,BR,BS,s1,t1,Xk,Xl,Tf,Xm,SB,r1,Ez,BU⟩:=vQ.o 0 Y;subst e1;simp only[fo,d9]at BR BS;have hV:=iO.o;have Q:=HX.o;have hK:=HK.o;rw[c6,ag k8,ah k9]at hV;rw[ag k8,ah k9]at Q;rw[cz,ag k8,ah k9]at hK;rw[BU.o,D0.o]at hV hK;rw[Ez.o,e0.o]at Q;have HG:Z (cP z0 x0 z1 ui=true/\V=z0):=U (by
   have h1:=et hK z1 aI;have h2:=et hK z0 aI;exact⟨by simp only[cP,bU,b9];exact⟨⟨r0.o,r1.o⟩,h2.trans h1.symm⟩,hV.symm.trans h2.symm⟩)
  obtain rfl:=HG.o.2;have iP:Z (X=x0.zipWith bB ui):=Q.symm;have g1:0<m:=Y;(have h9:(o.kd==9)=true:=by simpa using k9);clear k8 k9;clear lz hV Q hK;go_upto_region 8 with(go_at_call 104;refine(bY hn HC).mono ?_;rintro e u ⟨rfl,_⟩);refine ax G ap (λL _=>?_);refine qL [0,1,2,3,4,5] ?_;refine aJ 6 λK hK=>?_;go_simp;refine(Kt Y Y (U HG.o.1) iP).mono ?_;rintro e L ⟨D,T,E,d',rfl,sA,sX,lA,lX,fA,fX,_⟩;dsimp only;refine aE hK ?_;refine qL [7,8] ?_;refine aJ 9 λK hK=>?_;go_simp;obtain⟨z,j⟩:=lg ((L.setCell (w.1.size+1,0) (.slice D V T)).setCell (w.1.size+1,1) (.slice E X d'));rw[<-j];have r:Below (World.heap G).size G z:=zH9;have zo:∀b,b<L.1.size->b≠w.1.size+1->(World.heap z)[b]?=L.heap[b]?:=λb _ hb=>zH5;have ho:Bx z (w.1.size+1) _ #[.slice D V T,.slice E X d']:=⟨by rw[j];exact aA.bP (Bx.ak (w:=L) (g:=w.1.size+1)) _ _⟩;have oQ:Sl z D (V.length) V:=zH6;have mg:Sl z E (X.length) X:=zH7;have nE:aj z G:=⟨r⟩;refine aE hK ?_ ⟨r⟩;clear hK K j;refine eE 10 ?_;exact zH8
 have h9:(o.kd==9)=false:=by simpa using k9
 by_cases l:o.kd=10
 .have lz:m=1:=by have:=IM.o;rw[fq,ag k8,ah (.inr l)]at this;omega
  obtain⟨b1,q1,A1,n1,c1,z1,B1,m1,d1,ui,e1,mM,BR,BS,s1,t1,Xk,Xl,Tf,Xm,SB,r1,Ez,BU⟩:=vQ.o 0 Y;subst e1;simp only[fo,d9]at BR BS;have hV:=iO.o;have Q:=HX.o;have hK:=HK.o;rw[c6,ag k8,ag k9,ah l]at hV;rw[ag k8,ag k9,ah l]at Q;rw[cz,ag k8,ag k9,ah l]at hK;rw[BU.o,D0.o]at hV hK;rw[Ez.o,e0.o]at Q;(have hf:∃f,nY f z1 z0 V o.st:=by obtain⟨f,h⟩:=rG hK;rw[hV]at h;exact⟨f,h⟩);unfold cvX at Q;rw[dif_pos hf]at Q;have HF:=U hf.choose_spec;have qg:=U hV;have Th:=U hK;have iP:Z (X=fV ui x0 (hf.choose.O*(hf.choose.M*hf.choose.N)) hf.choose.all):=Q.symm;generalize hf.choose=f at HF iP;have g1:0<m:=Y;(have N7:(o.kd==10)=true:=by simpa using l);clear k8 k9 l;clear lz hV Q hK hf;go_upto_region 10 with(go_at_call 104;refine(bY hn HC).mono ?_;rintro e u ⟨rfl,_⟩);refine ax G ap (λL _=>?_);refine qL [0,1,2,3,4,5,6,7] ?_;refine aJ 8 λK hK=>?_;go_simp;refine(N4 Y Y r1.o r0.o Th qg HF iP).mono ?_;rintro e L ⟨D,T,E,d',rfl,sA,sX,lA,lX,fA,fX,_⟩;dsimp only;refine aE hK ?_;refine qL [9,10] ?_;refine aJ 11 λK hK=>?_;go_simp;obtain⟨z,j⟩:=lg ((L.setCell (w.1.size+1,0) (.slice D V T)).setCell (w.1.size+1,1) (.slice E X d'));rw[<-j];have r:Below (World.heap G).size G z:=zH9;have zo:∀b,b<L.1.size->b≠w.1.size+1->(World.heap z)[b]?=L.heap[b]?:=λb _ hb=>zH5;have ho:Bx z (w.1.size+1) _ #[.slice D V T,.slice E X d']:=⟨by rw[j];exact aA.bP (Bx.ak (w:=L) (g:=w.1.size+1)) _ _⟩;have oQ:Sl z D (V.length) V:=zH6;have mg:Sl z E (X.length) X:=zH7;have nE:aj z G:=⟨r⟩;refine aE hK ?_ ⟨r⟩;clear hK K j;refine eE 12 ?_;exact zH8
 have N7:(o.kd==10)=false:=by simpa using l
 by_cases F:o.kd=11
 .have hV:=iO.o;have Q:=HX.o;have hK:=HK.o;rw[c6,ag k8,ag k9,ag l,ah (.inl F)]at hV;rw[ag k8,ag k9,ag l,ah F]at Q;rw[cz,ag k8,ag k9,ag l,ah (.inl F)]at hK;rw[D0.o]at hV hK;rw[e0.o]at Q;obtain⟨R,aa,nn,W',S',hW,hS,pw⟩:=PW.of hK;rw[hV]at pw;have H4:=U pw;have iP:Z (X=j0 (ib 1 W') x0 aa nn S' W' (R*nn)):=U (by
   rw[<-Q,Td,hW,hS];have e1:dP z0=(aa:Int):=by rw[dP,a5,pw.at_];rfl
   have e2:dP V=(nn:Int):=by
    rw[dP,pw.v,ei,a5,jK (by have:=pw.len;omega)];rfl
   rw[e1,e2,pw.xh];simp only[a9])
  have BV:=U (And.intro hW hS);(have zh:(o.kd==11)=true:=by simpa using F);clear k8 k9 l F;clear hV Q hK pw hW hS;go_upto_region 12 with(go_at_call 104;refine(bY hn HC).mono ?_;rintro e u ⟨rfl,_⟩);refine ax G ap (λL _=>?_);refine qL [0,1,2,3,4,5,6] ?_;refine aJ 7 λK hK=>?_;go_simp;refine(QL BV Y r0.o (.inl rfl) H4 iP).mono ?_;exact zH3
 have zh:(o.kd==11)=false:=by simpa using F
 by_cases J:o.kd=12
 .have hV:=iO.o;have Q:=HX.o;have hK:=HK.o;rw[c6,ag k8,ag k9,ag l,ah (.inr J)]at hV;rw[ag k8,ag k9,ag l,ag F,ah J]at Q;rw[cz,ag k8,ag k9,ag l,ah (.inr J)]at hK;rw[D0.o]at hV hK;rw[e0.o]at Q;obtain⟨R,aa,nn,W',S',hW,hS,pw⟩:=PW.of hK;rw[hV]at pw;have H4:=U pw;have iP:Z (X=j0 (ib 2 W') x0 aa nn S' W' (R*nn)):=U (by
   rw[<-Q,Td,hW,hS];have e1:dP z0=(aa:Int):=by rw[dP,a5,pw.at_];rfl
   have e2:dP V=(nn:Int):=by
    rw[dP,pw.v,ei,a5,jK (by have:=pw.len;omega)];rfl
   rw[e1,e2,pw.xh];simp only[a9])
  have BV:=U (And.intro hW hS);(have HD:(o.kd==12)=true:=by simpa using J);clear k8 k9 l F J;clear hV Q hK pw hW hS;go_upto_region 14 with(go_at_call 104;refine(bY hn HC).mono ?_;rintro e u ⟨rfl,_⟩);refine ax G ap (λL _=>?_);refine qL [0,1,2,3,4,5,6] ?_;refine aJ 7 λK hK=>?_;go_simp;refine(QL BV Y r0.o (.inr rfl) H4 iP).mono ?_;exact zH3
 have HD:(o.kd==12)=false:=by simpa using J
 by_cases fP:o.kd=13
 .have hV:=iO.o;have Q:=HX.o;have hK:=HK.o;rw[c6,ag k8,ag k9,ag l,ag (show¬(o.kd=11\/o.kd=12)from λh=>h.elim F J),ah fP]at hV;rw[ag k8,ag k9,ag l,ag F,ag J,ah fP]at Q;rw[cz,ag k8,ag k9,ag l,ag (show¬(o.kd=11\/o.kd=12)from λh=>h.elim F J),ah fP]at hK;have HG:Z (∃nn P I aa:Nat,o.sd=(nn:Int)/\JW nn P I aa V/\zd nn us=0/\V=vD nn us/\X=p7 P us P/\P*dC P us<=65536/\∀t∈us,P*(t.xs.length/P)=t.xs.length/\t.xs.length<=65536):=U (by
   have h0:us≠[]:=by intro e;rw[e]at x;have:=x.len;simp at this;omega
   have hR:∀t∈us,aw t.zs t.xs=true:=λt ht=>(hU.o t ht).1;obtain⟨j1,j2⟩:=N5 (side:=o.sd) h0 hR;rw[hK]at j1;rw[Em,ah hK,<-j2]at hV;obtain⟨nn,P,I,aa,hs,jw,_,pi,hZ,_⟩:=Bo j1;rw[hV]at jw;refine⟨nn,P,I,aa,hs,jw,by rw[<-hs];exact j1,by rw[<-hV,hs],?_,?_,λt ht=>?_⟩
   .rw[<-Q,jnX,hs,a9,jw.ahead,a9,abj]
   .rw[<-hZ];exact jw.small
   .obtain⟨h1,h2,_⟩:=pi t ht;have e:=h2.cells h1;refine⟨?_,(fp h1).1⟩;rw[h2.row h1,e])
  obtain⟨nn,P,I,aa,hs,jw,j1,j2,oR,hP6,pi⟩:=HG.o;have Vr:=U jw;have Vq:=U j1;have HJ2:=U j2;have iP:=U oR;have HP6:=U hP6;have Xo:=U pi;have HSD:=U hs;(have HZ:Z (∀t∈us,t.zs.length<=1000000):=U λt ht=>by have:=hU.o.len ht;omega);(have H3:(o.kd==13)=true:=by simpa using fP);clear k8 k9 l F J fP;clear hV Q hK HG hs jw j1 j2 oR hP6 pi;go_wp2_with (first|(go_at_call 104;refine(bY hn HC).mono ?_;rintro e u ⟨rfl,_⟩)|(go_at_call 162;refine(Te Y HSD HZ Vq Vr HJ2 iP HP6 Xo).mono ?_;rintro e u ⟨D,T,E,d',rfl,sA,sX,lA,lX,fA,fX,_⟩));exact zH4
 have H3:(o.kd==13)=false:=by simpa using fP
 by_cases iu:o.kd=14
 .have hV:=iO.o;have Q:=HX.o;have hK:=HK.o;rw[c6,ag k8,ag k9,ag l,ag (show¬(o.kd=11\/o.kd=12)from λh=>h.elim F J),ag fP,ah iu]at hV;rw[ag k8,ag k9,ag l,ag F,ag J,ag fP,ah iu]at Q;rw[cz,ag k8,ag k9,ag l,ag (show¬(o.kd=11\/o.kd=12)from λh=>h.elim F J),ag fP,ah iu]at hK;rw[D0.o]at hV hK;rw[e0.o]at Q;(have h0:gL z0 x0 o.sd o.fr o.tt=0:=by rwa[gL,ah r0.o]);have HJ:=U h0;have HS:Z (JJ z0 x0 o.sd o.fr o.tt=V):=U (by rw[JJ,ah h0];exact hV);have iP:=U Q;(have h14:(o.kd==14)=true:=by simpa using iu);clear k8 k9 l F J fP iu;clear hV Q hK h0;go_upto_region 18 with(go_at_call 104;refine(bY hn HC).mono ?_;rintro e u ⟨rfl,_⟩);refine ax G ap (λL _=>?_);refine qL [0,1,2,3,4,5,6,7,8] ?_;refine aJ 9 λK hK=>?_;go_simp;refine(abg Y HJ HS iP).mono ?_;exact zH2
 have h14:(o.kd==14)=false:=by simpa using iu
 by_cases lE:o.kd=15
 .have hV:=iO.o;have Q:=HX.o;have hK:=HK.o;rw[c6,ag k8,ag k9,ag l,ag (show¬(o.kd=11\/o.kd=12)from λh=>h.elim F J),ag fP,ag iu,ah lE]at hV;rw[ag k8,ag k9,ag l,ag F,ag J,ag fP,ag iu,ah lE]at Q;rw[cz,ag k8,ag k9,ag l,ag (show¬(o.kd=11\/o.kd=12)from λh=>h.elim F J),ag fP,ag iu,ah lE]at hK;rw[D0.o]at hV hK;rw[e0.o]at Q;obtain rfl:X=x0:=Q.symm;have HG:Z (aw V X=true/\V=o.S):=U (by
   rw[Bv,ah hK]at hV;refine⟨?_,hV.symm⟩;have f0:=(aS _ _).1 r0.o;refine(aS _ _).2 ⟨HR,?_⟩;rw[f0.2];unfold vH at hK;rw[ah f0.1]at hK
   split at hK
   .split at hK
    .rename_i h;rw[<-hV,h]
    .exact absurd hK ao
   .exact absurd hK ao)
  have h15:(o.kd==15)=true:=by simpa using lE
  clear k8 k9 l F J fP iu lE;clear hV hK;go_upto_region 20 with(go_at_call 104;refine(bY hn HC).mono ?_;rintro e u ⟨rfl,_⟩);refine ax G ap (λL _=>?_);refine qL [0,1,2,3,4] ?_;refine aJ 5 λK hK=>?_;go_simp;refine(Fs Y Y Y r0.o HG).mono ?_;rintro e L ⟨D,T,E,d',rfl,sA,sX,lA,lX,fA,fX,_⟩;dsimp only;refine aE hK ?_;refine qL [6,7] ?_;refine aJ 8 λK hK=>?_;go_simp;obtain⟨z,j⟩:=lg ((L.setCell (w.1.size+1,0) (.slice D V T)).setCell (w.1.size+1,1) (.slice E X d'));rw[<-j];have r:Below (World.heap G).size G z:=zH9;have zo:∀b,b<L.1.size->b≠w.1.size+1->(World.heap z)[b]?=L.heap[b]?:=λb _ hb=>zH5;have ho:Bx z (w.1.size+1) _ #[.slice D V T,.slice E X d']:=⟨by rw[j];exact aA.bP (Bx.ak (w:=L) (g:=w.1.size+1)) _ _⟩;have oQ:Sl z D (V.length) V:=zH6;have mg:Sl z E (X.length) X:=zH7;have nE:aj z G:=⟨r⟩;refine aE hK ?_ ⟨r⟩;clear hK K j;refine eE 9 ?_;exact zH8
 have h15:(o.kd==15)=false:=by simpa using lE
 have hV:=iO.o;have Q:=HX.o;have hK:=HK.o;rw[c6,ag k8,ag k9,ag l,ag (show¬(o.kd=11\/o.kd=12)from λh=>h.elim F J),ag fP,ag iu,ag lE]at hV;rw[ag k8,ag k9,ag l,ag F,ag J,ag fP,ag iu,ag lE]at Q;rw[cz,ag k8,ag k9,ag l,ag (show¬(o.kd=11\/o.kd=12)from λh=>h.elim F J),ag fP,ag iu,ag lE]at hK;rw[e0.o,abi]at Q;have HG:Z (gQ o.kd us=0/\V=km us/\X=tn o.kd o.k us (ha us).length):=U (by
  have hn:(us.length:Int)=g8 o.kd:=by rw[<-x.len];exact(IN.o ⟨k8,k9,l,F,J,fP,iu,lE⟩).1
  have h1:km us=V:=by
   have e:km us=z0:=by rw[<-D0.o,km,a5,bo]
   rw[e,<-hV];exact et hK z0 (by
    rw[<-D0.o,a5];have:0<us.length:=by have:=x.len;omega
    rw[bo,bk this];exact cw.2 ⟨_,Av this,rfl⟩)
  refine⟨?_,h1.symm,?_⟩
  .unfold gQ;rw[ag (IN.o ⟨k8,k9,l,F,J,fP,iu,lE⟩).2,ah hn,ah];rw[dL];intro t ht;unfold Ex;rw[(hU.o t ht).1,h1,<-hV];simpa using et hK t.zs (cw.2 ⟨t,ht,rfl⟩)
  .rw[<-Q];congr 1;have:0<us.length:=by have:=x.len;omega
   have e:=e0.o;rw[a5,bo,bk this]at e;rw[ha,bk this];exact di (λv=>v.2.length) e.symm)
 have HZ:Z (∀t∈us,t.zs.length<=1000000):=U λt ht=>by have:=hU.o.len ht;omega
 clear k8 k9 l F J fP iu lE hV Q hK;go_wp2_with (first|(go_at_call 104;refine(bY hn HC).mono ?_;rintro e u ⟨rfl,_⟩)|(go_at_call 165;refine(abk HZ HG.o.1 (U HG.o.2.1) (U HG.o.2.2)).mono ?_;rintro e u ⟨D,T,E,d',rfl,sA,sX,lA,lX,fA,fX,_⟩));exact zH4
end
variable{e' g q:Nat}{xg xw xx zg zw zx:List Int}
section
open Go.RowKit Go.Shelf
attribute [local go_sem] Oper.semAt_some
def aA.QM{w:ab}{a b c d:Value}(h:aA w g T #[a,b,c,d])(v0 e j v3:Value):aA ((((w.setCell (g,0) v0).setCell (g,1) e).setCell (g,2) j).setCell (g,3) v3) g T #[v0,e,j,v3]:=by
 simpa using(((h.av 0 v0).av 1 e).av 2 j).av 3 v3
def rH{w:ab}{n p:Nat}(h:Below n w w')(hp:n<=p)(v0 b e v3:Value):Below n w ((((w'.setCell (p,0) v0).setCell (p,1) b).setCell (p,2) e).setCell (p,3) v3):=
 (((h.setCell (p:=⟨p,0,none⟩) hp v0).setCell (p:=⟨p,1,none⟩) hp b).setCell (p:=⟨p,2,none⟩) hp e).setCell (p:=⟨p,3,none⟩) hp v3
def Own.mZ{w:ab}{p:Nat}(h:Own w g T zs)(hp:g≠p)(v0 b e v3:Value):Own ((((w.setCell (p,0) v0).setCell (p,1) b).setCell (p,2) e).setCell (p,3) v3) g T zs:=
 (((h.aV (p:=⟨p,0,none⟩) hp v0).aV (p:=⟨p,1,none⟩) hp b).aV (p:=⟨p,2,none⟩) hp e).aV (p:=⟨p,3,none⟩) hp v3
end
section
variable{P:Program}{K:Act->World->Prop}{Q:Exit->Act->World->Prop}{a:Act}{W:World}{b:Nat}{S:Int}
section
open Go.RowKit Go.Shelf
attribute [local go_sem] Oper.semAt_some
def BW{s:Code}{w:ab}(h:s.wp P (Exit.then K (λ_ _ _=>False)) a w):s.wp P (Exit.then K Q) a w:=by
 refine wp_mono h ?_;intro e a' w' hq;cases e with
 |normal=>exact hq
 |exit id=>exact hq.elim
 |goto l=>exact hq.elim
 |ret=>exact hq.elim
 |panic b=>exact hq.elim
 |outgrown=>exact hq.elim
def ade{p:Nat}{ob:Obj}(v0 e j v3:Value)(h:W.heap[m]?=some ob)(b:ob.isCells=false):((((W.setCell (p,0) v0).setCell (p,1) e).setCell (p,2) j).setCell (p,3) v3).heap[m]?=some ob:=
 (KeepsOthers.setCell _ _ _).same m _ ((KeepsOthers.setCell _ _ _).same m _ ((KeepsOthers.setCell _ _ _).same m _ ((KeepsOthers.setCell _ _ _).same m _ h b) b) b) b
def Xp(w:ab)(gs r hs u t k1 k2:Nat)(l b m xx V y:au)(A B C D F G:bz)(c d z d' e E:Nat)(j:List gZ)(W:ab):Prop:=
 Own W r 65 (eI y xx b.length j)/\Own W u 65 (eJ y b xx.length j)/\Own W gs 3 l/\Own W hs 3 m/\aA W t 206 #[.slice gs l l.length,.slice r b b.length,.slice hs m m.length,.slice u xx xx.length]/\
  aA W k1 26 #[.slice r b b.length]/\aA W k2 26 #[.slice u xx xx.length]/\
  aA W w.1.size 28 #[.slice A l c,.slice B b d]/\aA W (w.1.size+1) 28 #[.slice C m z,.slice D xx d']/\aA W (w.1.size+1+1) 28 #[.slice F V e,.slice G y E]/\
  aA W (w.1.size+1+1+1) 206 #[(),(),(),()]/\Below w.1.size w W
def abl(w:ab)(b j l xx:au)(E:Int)(e:Ending)(w':ab):Prop:=
 ∃A c B d C m D d',e=.returned (.tuple #[.agg #[.slice A b c,.slice B j d,.slice C l m,.slice D xx d'],E])/\Sl w' A b b/\Sl w' B j j/\Sl w' C l l/\Sl w' D xx xx/\
  bL w.1.size A/\bL w.1.size B/\bL w.1.size C/\bL w.1.size D/\Le b.length c/\Le j.length d/\Le l.length m/\Le xx.length d'/\aj w' w
def fv{o:Nat}(h:b<=g):bL b (some ⟨g,o,none⟩):=⟨λj e=>by injection e with e;subst e;exact h⟩
section
variable{w:World}{F G:Option Addr}{n p:Nat}
def zHa(h:Γ:=by rintro⟨_,_,h⟩;exact h):=h
def zH0(h:Γ:=by
 refine aE hK ?_ ⟨aG w _,⟨am,am,am⟩⟩;refine aJ 16 λK hK=>?_;go_simp;refine(ma).mono ?_;rintro e J ⟨rfl,_⟩;dsimp only;refine aE hK ?_ ⟨aG w _,⟨am,am,am⟩⟩;refine a1 17 ?_;refine aJ 18 λK hK=>?_;have oD:=((iC).at (w':=J)).cell HO;have o6:=((iC).at (w':=J)).frozen x2;go_simp;refine aE hK ?_ ⟨⟨(aO w J).setCell (p:=⟨E,x2,none⟩) ru _⟩,⟨⟨(Bx.ak (w:=J)).aV n1 _⟩,⟨(Bx.ak (w:=J)).aV n0 _⟩,⟨(Bx.ak (w:=J)).aV c1 _⟩⟩⟩;clear hK K oD o6;refine a8 ?_;gi_wp2;obtain⟨V3,T⟩:=lg (J.setCell (E,x2) (bB o (bw y z):Int));have jC:Own V3 E 65 (eI xg xx xw.length (pre++[(x1,x2,Q)])):=by rw[T,<-Kk.o];exact(iC.at (w':=J)).av x2 _
 have jD:Own V3 j 65 (eJ xg xw xx.length pre):=by rw[T];exact(iD.at (w':=J)).aV (p:=⟨E,x2,none⟩) ia.symm _
 have jS:Own V3 gs 3 zw:=by rw[T];exact(iS.at (w':=J)).aV (p:=⟨E,x2,none⟩) n4 _
 have jT:Own V3 I 3 zx:=by rw[T];exact(iT.at (w':=J)).aV (p:=⟨E,x2,none⟩) n5 _
 have lT:=(Ti.at (w':=J)).aV (p:=⟨E,x2,none⟩) (dp n3) (bB o (bw y z):Int);have lP:=(kP'.at (w':=J)).aV (p:=⟨E,x2,none⟩) n1 (bB o (bw y z):Int);have lQ:=(kQ'.at (w':=J)).aV (p:=⟨E,x2,none⟩) n2 (bB o (bw y z):Int);have lW:=(kW'.at (w':=J)).aV (p:=⟨E,x2,none⟩) c0 (bB o (bw y z):Int);have lX:=(H0.at (w':=J)).aV (p:=⟨E,x2,none⟩) c1 (bB o (bw y z):Int);have lG:=(kG'.at (w':=J)).aV (p:=⟨E,x2,none⟩) c2 (bB o (bw y z):Int);have lR:=(H6.at (w':=J)).aV (p:=⟨E,x2,none⟩) c3 (bB o (bw y z):Int);have lA:=(hA.at (w':=J)).aV (p:=⟨E,x2,none⟩) n0 (bB o (bw y z):Int);have p3:aj V3 w:=⟨by rw[T];exact(aO w J).setCell (p:=⟨E,x2,none⟩) ru _⟩;have kf:KeepsFrom w2.1.size W V3:=by rw[T];exact h9 (gh (aO W J)) _ _
 have VO:dg (w2.1.size+2) W V3:=by rw[T];exact(dg.below (aO W J)).trans (dg.av (p:=⟨E,x2,none⟩) _ oH)
 rw[<-T]at lT lP lQ lW lX lG lR lA⊢;clear T rP rQ rW rX rG rA hco og;have rQ:Bx V3 k2 26 #[.slice (some ⟨j,0,none⟩) xx xx.length]:=⟨lQ⟩;have rW:Bx V3 w.1.size 28 #[.slice A zw c,.slice (some ⟨bb,ob,none⟩) xw d]:=⟨lW⟩;have rA:Bx V3 W0.1.size 267 #[x1,x2,Q]:=⟨lA⟩;have Tj:=jD.cell HQ;have og:Old j V3:=⟨jD.lt⟩;refine it w (λw9=>Bx w9 k2 26 #[.slice (some ⟨j,0,none⟩) xx xx.length]/\Bx w9 W0.1.size 267 #[x1,x2,Q]/\Bx w9 w.1.size 28 #[.slice A zw c,.slice (some ⟨bb,ob,none⟩) xw d]) ap ap zHa (λv4 _=>?_);refine a1 0 ?_;refine a1 1 ?_;refine a1 2 ?_;refine a1 3 ?_;refine a1 4 ?_;refine a1 5 ?_;refine a1 6 ?_;refine a1 8 ?_;refine a1 9 ?_;refine a1 10 ?_;refine a1 11 ?_;refine a1 12 ?_;refine a1 13 ?_;refine a1 14 ?_;refine pP 7 15 (λK hK=>?_) (λK hK=>?_);focus go_simp;refine aE hK ?_ ⟨aG w _,⟨am,am,am⟩⟩;refine aJ 15 λK hK=>?_;go_simp;refine(gK).mono ?_;rintro e v4 ⟨rfl,_⟩;dsimp only
 rotate_left;focus go_simp;refine(gK).mono ?_;rintro e v4 ⟨rfl,_⟩;dsimp only;refine aE hK ?_ ⟨aG w _,⟨am,am,am⟩⟩;refine aJ 7 λK hK=>?_;go_simp
 all_goals
  refine aE hK ?_ ⟨aG w _,⟨am,am,am⟩⟩;refine aJ 16 λK hK=>?_;go_simp;refine(ma).mono ?_;rintro e v4 ⟨rfl,_⟩;dsimp only;refine aE hK ?_ ⟨aG w _,⟨am,am,am⟩⟩;refine a1 17 ?_;refine aJ 18 λK hK=>?_;have oD:=((jD).at (w':=v4)).cell HQ;have o6:=((jD).at (w':=v4)).frozen Q;go_simp;refine aE hK ?_ ⟨⟨(aO w v4).setCell (p:=⟨j,Q,none⟩) yJ _⟩,⟨⟨(Bx.ak (w:=v4)).aV n2' _⟩,⟨(Bx.ak (w:=v4)).aV n0' _⟩,⟨(Bx.ak (w:=v4)).aV c0' _⟩⟩⟩;clear hK K oD o6;refine a8 ?_;gi_wp2
  have o2:=(jD.at (w':=v4)).av Q (bB q (bw y r));rw[acg.o]at o2;exact⟨kf.trans (h9 (gh (aO V3 v4)) _ _),VO.trans ((dg.below (aO V3 v4)).trans (dg.av (p:=⟨j,Q,none⟩) _ ach)),
   (jC.at (w':=v4)).aV (p:=⟨j,Q,none⟩) ia _,o2,(jS.at (w':=v4)).aV (p:=⟨j,Q,none⟩) n4' _,(jT.at (w':=v4)).aV (p:=⟨j,Q,none⟩) n5' _,(lT.at (w':=v4)).aV (p:=⟨j,Q,none⟩) (dp n3') _,
   (lP.at (w':=v4)).aV (p:=⟨j,Q,none⟩) n1' _,(lQ.at (w':=v4)).aV (p:=⟨j,Q,none⟩) n2' _,(lW.at (w':=v4)).aV (p:=⟨j,Q,none⟩) c0' _,(lX.at (w':=v4)).aV (p:=⟨j,Q,none⟩) BY _,(lG.at (w':=v4)).aV (p:=⟨j,Q,none⟩) c2' _,(lR.at (w':=v4)).aV (p:=⟨j,Q,none⟩) Oa _,
   (aO w v4).setCell (p:=⟨j,Q,none⟩) yJ _⟩):=h
def H5{V:au}[a:Sl w A n zw][b:Sl w B m xw][a':Sl w C R zx][b':Sl w D m' xx][ag:Sl w F p V][bg:Sl w G q xg][cm xw][cm xx][cm xg][Le n c][Le R cx](hn:n<=1000000)(HU:R<=1000000)(hp:p<=1000000){X aa:au}{f:CF}
  (h1:aw zw xw=true) (h2:aw zx xx=true) (hE:Z (oO zw zx S=0)) (hV:Z (qY zw zx S=V)) (h3:aw V xg=true) (hf:Z (nY f zw zx V S)) (hX:Z (X=eI xg xx xw.length f.all)) (hY:Z (aa=eJ xg xw xx.length f.all)):
  () 107 #[.agg #[.slice A n c,(B,m,d)],.agg #[(C,R,cx),(D,m',d')],.agg #[(F,p,e),.slice G q e'],S] w (abl w zw X zx aa 0):=by
 obtain⟨CB,CP,FB⟩:=gW;have W4:=hf.o.vr;have kH:Z (By f):=hf.o.ok;have oH:xg.length=f.O*(f.M*f.N):=by have h:=((aS _ _).1 h3).2;rw[hf.o.v]at h;omega
 have Jz:xw.length=f.O*(f.C*(f.K*f.L)):=by have h:=((aS _ _).1 h1).2;rw[hf.o.w]at h;omega
 have jY:xx.length=f.C*(f.H*f.W):=by have h:=((aS _ _).1 h2).2;rw[hf.o.x]at h;omega
 have HB:Z (∀x∈f.all,x.1<xg.length/\x.2.1<xw.length/\x.2.2<xx.length):=λx hx=>by rw[oH,Jz,jY];exact QD hf.o.ok hx
 have hg6:xg.length<=65536:=by rw[oH];exact hf.o.ok.oy
 have hw6:xw.length<=65536:=by rw[Jz];exact hf.o.ok.ow
 have Bm:xx.length<=65536:=by rw[jY];exact hf.o.ok.ox
 have hs:decide (V=V)=true:=ea rfl;obtain⟨a,rfl⟩:=a;have a:Sl w A zw zw:=⟨a,rfl⟩;obtain⟨b,rfl⟩:=b;have b:Sl w B xw xw:=⟨b,rfl⟩;obtain⟨a',rfl⟩:=a';have a':Sl w C zx zx:=⟨a',rfl⟩;obtain⟨b',rfl⟩:=b';have b':Sl w D xx xx:=⟨b',rfl⟩;obtain⟨ag,rfl⟩:=ag;have ag:Sl w F V V:=⟨ag,rfl⟩;obtain⟨bg,rfl⟩:=bg;have bg:Sl w G xg xg:=⟨bg,rfl⟩;have Bf:0<xw.length:=by have:=(gO h1).2.1;omega
 have Ey:0<xx.length:=by have:=(gO h2).2.1;omega
 have hg0:0<xg.length:=by have:=(gO h3).2.1;omega
 obtain⟨bb,ob,_,rfl,obb,-,-⟩:=b.get (k:=0) Bf;obtain⟨bd,od,_,rfl,obd,-,-⟩:=b'.get (k:=0) Ey;obtain⟨be,oe,_,rfl,obe,-,-⟩:=bg.get (k:=0) hg0;clear oH Jz jY;refine(callsIn_wide (n:=3)).1<|callsIn_of_wp_marks func107 rfl bq ?_;simp only[ntmps107,i9,fD,ja,Nat.reduceAdd,Nat.reduceSub,Array.replicate_succ,Array.replicate_zero,List.push_toArray,List.append_toArray,jN,uZ];refine wpIn_wide.2 ?_;go_upto_region 1 with fail;obtain⟨u0,N8⟩:=lg ((((w.alloc (.cells #[.slice A zw c,.slice (some ⟨bb,ob,none⟩) xw d] 28)).alloc (.cells #[.slice C zx cx,.slice (some ⟨bd,od,none⟩) xx d'] 28)).alloc (.cells #[.slice F V e,.slice (some ⟨be,oe,none⟩) xg e'] 28)).alloc (.cells #[(),(),(),()] 206));have q1:Bx u0 w.1.size 28 #[.slice A zw c,.slice (some ⟨bb,ob,none⟩) xw d]:=⟨by rw[N8];exact(((aA.new _ _ _).alloc _).alloc _).alloc _⟩;have q2:Bx u0 (w.1.size+1) 28 #[.slice C zx cx,.slice (some ⟨bd,od,none⟩) xx d']:=⟨by rw[N8];exact((aA.eF _ _ _ aI).alloc _).alloc _⟩;have q3:Bx u0 (w.1.size+1+1) 28 #[.slice F V e,.slice (some ⟨be,oe,none⟩) xg e']:=⟨by rw[N8];exact(aA.eF _ _ _ aI).alloc _⟩;have q4:Bx u0 (w.1.size+1+1+1) 206 #[(),(),(),()]:=⟨by rw[N8];exact aA.eF _ _ _ aI⟩;have qu:aj u0 w:=⟨by rw[N8];exact aO w _⟩;rw[<-N8];clear N8;go_upto_region 8 with(first|(go_at_call 69;refine(bK Y).mono ?_;rintro e u ⟨rfl,_⟩)|(go_at_call 126;refine(sR Y Y hE hV).mono ?_;rintro e u ⟨A',c',rfl,sJ,lJ,fJ,_⟩)|(go_at_call 70;refine(ga Y Y).mono ?_;rintro e u ⟨rfl,_⟩));have q2u:aA u (w.1.size+1) 28 #[.slice C zx cx,.slice (some ⟨bd,od,none⟩) xx d']:=q2.ak.at;obtain⟨v,rfl⟩:=lg u;go_cut [12]from 17 (λs wx=>∃t gs E hs j:Nat,s=.pointer t/\aA wx t 206 #[.slice gs zw zw.length,.slice E xw xw.length,.slice hs zx zx.length,.slice (some ⟨j,0,none⟩) xx xx.length]/\Own wx gs 3 zw/\Own wx E 65 xw/\Own wx hs 3 zx/\Own wx j 65 xx/\v.1.size<=gs/\v.1.size<=E/\v.1.size<=hs/\v.1.size<=j/\v.1.size<=t/\E≠j/\Below v.1.size v wx);case first=>
  refine BW<|ax v ap (λu8 _=>?_);refine qL [0,2] ?_;refine pP 1 5 (λK hK=>?_) (λK hK=>?_)
  .go_simp;refine(gX Y Y).mono ?_;rintro e u8 ⟨gs,E,rfl,BX,N9,oS,oC,_⟩;dsimp only;refine aE hK<|pP 3 5 (λK hK=>?_) (λK hK=>?_);(focus go_simp;refine(gX Y Y).mono ?_;rintro e u8 ⟨I,j,rfl,Xq,Ku,pS,pC,_⟩;dsimp only;refine aE hK ?_;refine eE 4 ?_;refine aJ 5 λK hK=>?_;go_simp;refine aE hK<|bc (λu8 _ kP=>?_));rotate_left;(focus go_simp;refine aE hK<|bc (λu8 _ kP=>?_);refine aJ 3 λK hK=>?_;go_simp;refine(gX Y Y).mono ?_;rintro e u8 ⟨I,j,rfl,Xq,Ku,pS,pC,_⟩;dsimp only;refine aE hK ?_;refine eE 4 ?_);all_goals refine aJ 6 λK hK=>?_;rename World=>wN;have kN:=kP.ak.at (w':=wN);have r0:=kN.cell 0;have r1:=kN.cell 1;have r2:=kN.cell 2;have r3:=kN.cell 3;have f0:=kN.frozen 0;have f1:=kN.frozen 1;have f2:=kN.frozen 2;have f3:=kN.frozen 3;go_simp;refine aE hK ?_ ⟨rH (aO v wN) ai _ _ _ _⟩;clear hK K r0 r1 r2 r3 f0 f1 f2 f3;refine a8 ?_;(have ia:E≠j:=by first|exact sI (bN oC.lt (aQ ai Ku))|exact(sI (bN pC.lt (aQ ai N9))).symm);go_wp2_with fail;go_meet;exact⟨_,gs,E,I,j,rfl,kN.QM _ _ _ _,(oS.at (w':=wN)).mZ ((oS.at (w':=wN)).aF kN ao) _ _ _ _,(oC.at (w':=wN)).mZ ((oC.at (w':=wN)).aF kN ao) _ _ _ _,(pS.at (w':=wN)).mZ ((pS.at (w':=wN)).aF kN ao) _ _ _ _,(pC.at (w':=wN)).mZ ((pC.at (w':=wN)).aF kN ao) _ _ _ _,aQ ai BX,aQ ai N9,aQ ai Xq,aQ ai Ku,ai,ia,rH (aO v wN) ai _ _ _ _⟩
  go_simp;refine aE hK<|bc (λu8 _ kP=>?_);refine aJ 1 λK hK=>?_;go_simp;refine(gX Y Y).mono ?_;rintro e u8 ⟨gs,E,rfl,BX,N9,oS,oC,_⟩;dsimp only;refine aE hK<|aJ 3 λK hK=>?_;go_simp;refine(gX Y Y).mono ?_;rintro e u8 ⟨I,j,rfl,Xq,Ku,pS,pC,_⟩;dsimp only;refine aE hK ?_;refine eE 4 ?_;refine aJ 6 λK hK=>?_;rename World=>wN;have kN:=kP.ak.at (w':=wN);have r0:=kN.cell 0;have r1:=kN.cell 1;have r2:=kN.cell 2;have r3:=kN.cell 3;have f0:=kN.frozen 0;have f1:=kN.frozen 1;have f2:=kN.frozen 2;have f3:=kN.frozen 3;go_simp;refine aE hK ?_ ⟨rH (aO v wN) ai _ _ _ _⟩;clear hK K r0 r1 r2 r3 f0 f1 f2 f3;refine a8 ?_;(have ia:E≠j:=by first|exact sI (bN oC.lt (aQ ai Ku))|exact(sI (bN pC.lt (aQ ai N9))).symm);go_wp2_with fail;go_meet;exact⟨_,gs,E,I,j,rfl,kN.QM _ _ _ _,(oS.at (w':=wN)).mZ ((oS.at (w':=wN)).aF kN ao) _ _ _ _,(oC.at (w':=wN)).mZ ((oC.at (w':=wN)).aF kN ao) _ _ _ _,(pS.at (w':=wN)).mZ ((pS.at (w':=wN)).aF kN ao) _ _ _ _,(pC.at (w':=wN)).mZ ((pC.at (w':=wN)).aF kN ao) _ _ _ _,aQ ai BX,aQ ai N9,aQ ai Xq,aQ ai Ku,ai,ia,rH (aO v wN) ai _ _ _ _⟩
 obtain⟨t,gs,E,I,j,rfl,kT,oS,oC,pS,pC,BX,N9,Xq,Ku,ht,ia,W5⟩:=hcut;have pwc:aj wc v:=⟨W5⟩;have n1:E≠t:=oC.aF kT ao;have n2:j≠t:=pC.aF kT ao;have m1:gs≠E:=oS.aF (cs:=ints xw) oC ao;have m2:I≠E:=pS.aF (cs:=ints xw) oC ao;have m3:gs≠j:=oS.aF (cs:=ints xx) pC ao;have m4:I≠j:=pS.aF (cs:=ints xx) pC ao;have aeI:=λty=>hZ (P:=prog) 26 65 ty underlying26 ap oC Bf xw.length;have Kv:=fE (bs:=[E]) (g:=E) aI (List.replicate xw.length an) 0 (hU.refl [E] wc);have oC1:=oC.clear;have oS1:=Kv.own oS (by simpa using m1);have pS1:=Kv.own pS (by simpa using m2);have pC1:=Kv.own pC (by simpa using ia.symm);have kT1:=Kv.ak kT (by simpa using n1.symm);have xo:aj (wc.setCells E 0 (List.replicate xw.length an)) v:=⟨dH (n:=v.1.size) (g:=E) N9 (List.replicate xw.length an) 0 W5⟩;obtain⟨W1,lu⟩:=lg (wc.setCells E 0 (List.replicate xw.length an));have qT:Bx wc t 206 #[.slice gs zw zw.length,.slice E xw xw.length,.slice I zx zx.length,.slice (some ⟨j,0,none⟩) xx xx.length]:=⟨kT⟩;rw[<-lu]at oC1 oS1 pS1 pC1 kT1 xo;have qT1:Bx W1 t 206 #[.slice gs zw zw.length,.slice E xw xw.length,.slice I zx zx.length,.slice (some ⟨j,0,none⟩) xx xx.length]:=⟨kT1⟩;go_upto_region 10 with fail;rw[<-lu];clear aeI lu Kv oS oC pS pC kT qT pwc W5;have aeJ:=λty=>hZ (P:=prog) 26 65 ty underlying26 ap pC1 Ey xx.length;have Ff:=fE (bs:=[j]) (g:=j) aI (List.replicate xx.length an) 0 (hU.refl [j] W1);have pC2:=pC1.clear;have vL:=Ff.own oS1 (by simpa using m3);have pS2:=Ff.own pS1 (by simpa using m4);have oC2:=Ff.own oC1 (by simpa using ia);have kT2:=Ff.ak kT1 (by simpa using n2.symm);have pw2:aj (W1.setCells j 0 (List.replicate xx.length an)) v:=⟨dH (n:=v.1.size) (g:=j) Ku (List.replicate xx.length an) 0 (aO v W1)⟩;obtain⟨W2,nz⟩:=lg (W1.setCells j 0 (List.replicate xx.length an));rw[<-nz]at oC2 vL pS2 pC2 kT2 pw2;have qT2:Bx W2 t 206 #[.slice gs zw zw.length,.slice E xw xw.length,.slice I zx zx.length,.slice (some ⟨j,0,none⟩) xx xx.length]:=⟨kT2⟩;go_upto_region 11 with fail;rw[<-nz];clear aeJ nz Ff oS1 oC1 pS1 pC1 kT1 qT1 xo;go_cut [13,14]from 17 (λs13 Xr wx=>∃k1 k2:Nat,s13=.pointer k1/\Xr=.pointer k2/\aA wx k1 26 #[.slice E xw xw.length]/\aA wx k2 26 #[.slice (some ⟨j,0,none⟩) xx xx.length]/\W2.1.size<=k1/\W2.1.size<=k2/\Below W2.1.size W2 wx);case first=>refine BW<|ax W2 ap (λu9 _=>?_);refine qL [0,1,2,3,4,5] ?_;refine pP 6 7 (λK hK=>?_) (λK hK=>?_);(focus rename World=>wN;(try have vR:=(kP.ak.at (w':=wN)).lt);(try have vS:=(kQ.ak.at (w':=wN)).lt);go_simp;refine aE hK<|bc (λuP _ kP=>?_);have g1:(World.heap W2).size<=wN.1.size:=ai;obtain⟨k1,vT⟩:=lh wN.1.size;rw[vT]at kP g1⊢;(try rw[vT]at vR);(try rw[vT]at vS);have vR:=(kP).ak.lt;clear vT;refine aJ 7 λK hK=>?_;rename World=>wN;(try have vR:=(kP.ak.at (w':=wN)).lt);(try have vS:=(kQ.ak.at (w':=wN)).lt);go_simp;refine aE hK<|bc (λuP _ kQ=>?_);have g2:(World.heap W2).size<=wN.1.size:=ai;obtain⟨k2,vU⟩:=lh wN.1.size;rw[vU]at kQ g2⊢;(try rw[vU]at vR);(try rw[vU]at vS);have vS:=(kQ).ak.lt;clear vU);rotate_left;(focus rename World=>wN;(try have vR:=(kP.ak.at (w':=wN)).lt);(try have vS:=(kQ.ak.at (w':=wN)).lt);go_simp;refine aE hK<|bc (λuP _ kQ=>?_);have g2:(World.heap W2).size<=wN.1.size:=ai;obtain⟨k2,vU⟩:=lh wN.1.size;rw[vU]at kQ g2⊢;(try rw[vU]at vR);(try rw[vU]at vS);have vS:=(kQ).ak.lt;clear vU;refine aJ 6 λK hK=>?_;rename World=>wN;(try have vR:=(kP.ak.at (w':=wN)).lt);(try have vS:=(kQ.ak.at (w':=wN)).lt);go_simp;refine aE hK<|bc (λuP _ kP=>?_);have g1:(World.heap W2).size<=wN.1.size:=ai;obtain⟨k1,vT⟩:=lh wN.1.size;rw[vT]at kP g1⊢;(try rw[vT]at vR);(try rw[vT]at vS);have vR:=(kP).ak.lt;clear vT);all_goals refine aJ 8 λK hK=>?_;rename World=>wN;have e1:=(kP).ak.at (w':=wN);have e2:=(kQ).ak.at (w':=wN);have r0:=e1.cell 0;have f0:=e1.frozen 0;go_simp;refine aE hK ?_ ⟨(aO W2 wN).setCell (p:=⟨k1,0,none⟩) g1 _⟩;clear hK K r0 f0;have e3:=e2.aV (p:=⟨k1,0,none⟩) (show k2≠k1 by omega) (.slice E (List.length xw) (List.length xw));have e4:=e1.av 0 (.slice E (List.length xw) (List.length xw));have e5:=(aO W2 wN).setCell (p:=⟨k1,0,none⟩) g1 (.slice E (List.length xw) (List.length xw));obtain⟨wS,Xs⟩:=lg (wN.setCell (k1,0) (.slice E (List.length xw) (List.length xw)));rw[<-Xs]at e3 e4 e5⊢;clear kP kQ;have kP:=Bx.mk e4;have kQ:=Bx.mk e3;have pS:aj wS W2:=⟨e5⟩;clear e1 e2 e3 e4 e5 Xs;refine aJ 9 λK hK=>?_;rename World=>wN;have e1:=(kQ).ak.at (w':=wN);have e2:=(kP).ak.at (w':=wN);have r0:=e1.cell 0;have f0:=e1.frozen 0;go_simp;refine aE hK ?_ ⟨(aO W2 wN).setCell (p:=⟨k2,0,none⟩) g2 _⟩;clear hK K r0 f0;have e3:=e2.aV (p:=⟨k2,0,none⟩) (show k1≠k2 by omega) (.slice (some ⟨j,0,none⟩) (List.length xx) (List.length xx));have e4:=e1.av 0 (.slice (some ⟨j,0,none⟩) (List.length xx) (List.length xx));have e5:=(aO W2 wN).setCell (p:=⟨k2,0,none⟩) g2 (.slice (some ⟨j,0,none⟩) (List.length xx) (List.length xx));obtain⟨wS,Xs⟩:=lg (wN.setCell (k2,0) (.slice (some ⟨j,0,none⟩) (List.length xx) (List.length xx)));rw[<-Xs]at e3 e4 e5⊢;clear kQ kP;have kQ:=Bx.mk e4;have kP:=Bx.mk e3;have pS:aj wS W2:=⟨e5⟩;clear e1 e2 e3 e4 e5 Xs;refine a8 ?_;go_wp2_with fail;go_meet;rename World=>wN;exact⟨k1,k2,rfl,rfl,kP.ak,kQ.ak,g1,g2,aO W2 wN⟩
 obtain⟨k1,k2,rfl,rfl,kP,kQ,g1,g2,hbX⟩:=hcut;have pX:aj wc W2:=⟨hbX⟩;go_wp2_with (go_at_call 172;refine(tG Y Y hE hV hf).mono ?_;rintro e u ⟨rfl,_⟩);obtain⟨w2,rfl⟩:=lg u;have hwv:w.1.size+4<=v.1.size:=by have:=(q4.ak.at (w':=v)).lt;omega
 have ru:w.1.size<=E:=Y;have yJ:w.1.size<=j:=Y;have b2:=aO w w2;have kW:Bx w2 w.1.size 28 #[.slice A zw c,.slice (some ⟨bb,ob,none⟩) xw d]:=am;have kX:Bx w2 (w.1.size+1) 28 #[.slice C zx cx,.slice (some ⟨bd,od,none⟩) xx d']:=am;have kG:Bx w2 (w.1.size+1+1) 28 #[.slice F V e,.slice (some ⟨be,oe,none⟩) xg e']:=am;have kR:Bx w2 (w.1.size+1+1+1) 206 #[(),(),(),()]:=am;have I0:Xp w gs E I j t k1 k2 zw xw zx xx V xg A (some ⟨bb,ob,none⟩) C (some ⟨bd,od,none⟩) F (some ⟨be,oe,none⟩) c d cx d' e e' [] w2:=⟨oC2.at,pC2.at,vL.at,pS2.at,kT2.at,kP.at,kQ.at,kW.ak,kX.ak,kG.ak,kR.ak,b2⟩;have En:=oC2.lt;have rm:=pC2.lt;have Bg:W2.1.size<=w2.1.size:=ai;clear kP kQ kW kX kG kR oC2 pC2 vL pS2 kT2 qT2 n1 n2 m1 m2 m3 m4 hbX;refine(wpIn_wide (n:=3)).1 ?_
 refine Fi (gf:=221) (fb:= #[vI f]) (lb:= #[]) (α:=gZ) rfl (enters_of func221 ap rfl) (Bz f kH w2) (aY _ _) (λ_=>rfl) (Xp w gs E I j t k1 k2 zw xw zx xx V xg A (some ⟨bb,ob,none⟩) C (some ⟨bd,od,none⟩) F (some ⟨be,oe,none⟩) c d cx d' e e') (λ_ _ _=>False)
  ?firm (λ_=>c5.none_) I0 ?acts (λx W=>W.alloc (.cells #[.int .i64 x.1,.int .i64 x.2.1,.int .i64 x.2.2] 267)) (λx n W=>aA W n 267 #[.int .i64 x.1,.int .i64 x.2.1,.int .i64 x.2.2]) (λ_ _=>eX _ _) (λ_ _=>aA.new _ _ _)
  (λx n W l o o' h ho j=>(c5.ak (B:=0) (λ(_:Unit)=>n) 267 (λ_=>_)).iY () W l o o' h (aR _) ho j) ?assign ?body ?done (λ_ _ _ _ _ _ h=>h.elim)
 case firm=>exact(c5.own (λ_=>E) _ (eI xg xx xw.length)).and ((c5.own (λ_=>j) _ (eJ xg xw xx.length)).and ((c5.own (λ_=>gs) _ (λ_=>zw)).and ((c5.own (λ_=>I) _ (λ_=>zx)).and ((c5.ak (λ_=>t) _ (λ_=>_)).and ((c5.ak (λ_=>k1) _ (λ_=>_)).and ((c5.ak (λ_=>k2) _ (λ_=>_)).and ((c5.ak (λ_=>w.1.size) _ (λ_=>_)).and ((c5.ak (λ_=>w.1.size+1) _ (λ_=>_)).and ((c5.ak (λ_=>w.1.size+1+1) _ (λ_=>_)).and ((c5.ak (λ_=>w.1.size+1+1+1) _ (λ_=>_)).and (c5.below (al _) b2.size)))))))))))
 case assign=>intro l x W K hK;simp only[vJ];gi_wp2;exact hK
 case body=>
  rintro l pre ⟨x1,x2,Q⟩ W0 W ⟨iC,iD,iS,iT,Ti,kP',kQ',kW',H0,kG',H6,bW⟩ ⟨post,hT⟩ vp Jp hA;dsimp only at hA⊢;(repeat (rename aj _ _=>hz;clear hz));repeat (rename Bx _ _ _ _=>hz;clear hz)
  obtain⟨qU,tr,Ks⟩:=HB.o (x1,x2,Q) (by rw[hT];simp);simp only at qU tr Ks;have pW:aj W w:=⟨bW⟩;have rP:Bx W k1 26 #[.slice E xw xw.length]:=⟨kP'⟩;have rQ:Bx W k2 26 #[.slice (some ⟨j,0,none⟩) xx xx.length]:=⟨kQ'⟩;have rW:Bx W w.1.size 28 #[.slice A zw c,.slice (some ⟨bb,ob,none⟩) xw d]:=⟨kW'⟩;have rX:Bx W (w.1.size+1) 28 #[.slice C zx cx,.slice (some ⟨bd,od,none⟩) xx d']:=⟨H0⟩;have rG:Bx W (w.1.size+1+1) 28 #[.slice F V e,.slice (some ⟨be,oe,none⟩) xg e']:=⟨kG'⟩;have rA:Bx W W0.1.size 267 #[x1,x2,Q]:=⟨hA⟩;obtain⟨y,hy⟩:∃y,xg[x1]?=some y:=⟨_,bk qU⟩;obtain⟨z,hz⟩:∃z,xx[Q]?=some z:=⟨_,bk Ks⟩;obtain⟨r,hr⟩:∃r,xw[x2]?=some r:=⟨_,bk tr⟩;obtain⟨o,ho⟩:∃o,(eI xg xx xw.length pre)[x2]?=some o:=⟨_,bk (by rwa[n6])⟩;obtain⟨q,hq⟩:∃q,(eJ xg xw xx.length pre)[Q]?=some q:=⟨_,bk (by rwa[n7])⟩;have cy:=bg.rd.all hy;have cz:=b'.rd.all hz;have cr:=b.rd.all hr;have iy:I6 y:=cm.at hy;have iz:I6 z:=cm.at hz;have ir:I6 r:=cm.at hr;have io:I6 o:=⟨ug o (aK ho)⟩;have iq:I6 q:=⟨uh q (aK hq)⟩;have hco:=iC.cell ho;have og:Old E W:=⟨iC.lt⟩;have Kk:Z ((eI xg xx xw.length pre).set x2 (bB o (bw y z))=eI xg xx xw.length (pre++[(x1,x2,Q)])):=U (by
   rw[HX,Ak];simp only;rw[a5,ho,a5,hy,a5,hz];rfl)
  have acg:Z ((eJ xg xw xx.length pre).set Q (bB q (bw y r))=eJ xg xw xx.length (pre++[(x1,x2,Q)])):=U (by
   rw[HY,Al];simp only;rw[a5,hq,a5,hy,a5,hr];rfl)
  have n0:W0.1.size≠E:=Y;have n0':W0.1.size≠j:=Y;have n1:k1≠E:=Y;have n1':k1≠j:=Y;have n2:k2≠E:=Y;have n2':k2≠j:=Y;have n3:=iC.aF Ti ao;have n3':=iD.aF Ti ao;have n4:gs≠E:=iS.aF (cs:=ints (eI xg xx xw.length pre)) iC ao;have n4':gs≠j:=iS.aF (cs:=ints (eJ xg xw xx.length pre)) iD ao;have n5:I≠E:=iT.aF (cs:=ints (eI xg xx xw.length pre)) iC ao;have n5':I≠j:=iT.aF (cs:=ints (eJ xg xw xx.length pre)) iD ao;have c0:w.1.size≠E:=Y;have c0':w.1.size≠j:=Y;have c1:w.1.size+1≠E:=Y;have BY:w.1.size+1≠j:=Y;have c2:w.1.size+1+1≠E:=Y;have c2':w.1.size+1+1≠j:=Y;have c3:w.1.size+1+1+1≠E:=Y;have Oa:w.1.size+1+1+1≠j:=Y;have oH:E<w2.1.size+2:=Y;have ach:j<w2.1.size+2:=Y;have HO:=U ho;have HQ:=U hq;clear hy hz hr ho hq;gi_wp2;refine it w (λw9=>Bx w9 k1 26 #[.slice E xw xw.length]/\Bx w9 W0.1.size 267 #[x1,x2,Q]/\Bx w9 (w.1.size+1) 28 #[.slice C zx cx,.slice (some ⟨bd,od,none⟩) xx d']) ap ap zHa (λJ _=>?_);refine a1 0 ?_;refine a1 1 ?_;refine a1 2 ?_;refine a1 3 ?_;refine a1 4 ?_;refine a1 5 ?_;refine a1 6 ?_;refine a1 8 ?_;refine a1 9 ?_;refine a1 10 ?_;refine a1 11 ?_;refine a1 12 ?_;refine a1 13 ?_;refine a1 14 ?_;refine pP 7 15 (λK hK=>?_) (λK hK=>?_);go_simp;refine aE hK ?_ ⟨aG w _,⟨am,am,am⟩⟩;refine aJ 15 λK hK=>?_;go_simp;refine(gK).mono ?_;rintro e J ⟨rfl,_⟩;dsimp only;exact zH0;go_simp;refine(gK).mono ?_;rintro e J ⟨rfl,_⟩;dsimp only;refine aE hK ?_ ⟨aG w _,⟨am,am,am⟩⟩;refine aJ 7 λK hK=>?_;go_simp;exact zH0
 case done=>rintro D xs W hD rfl ⟨iC,iD,iS,iT,Ti,kP',kQ',kW',H0,kG',H6,bW⟩ hK;have qT:Bx W t 206 #[.slice gs zw zw.length,.slice E xw xw.length,.slice I zx zx.length,.slice (some ⟨j,0,none⟩) xx xx.length]:=⟨Ti⟩;have qR:Bx W (w.1.size+1+1+1) 206 #[(),(),(),()]:=⟨H6⟩;have pW:aj W w:=⟨bW⟩;have l1:=iS.aF H6 ao;have l2:=iC.aF H6 ao;have l3:=iT.aF H6 ao;have l4:=iD.aF H6 ao;have k2':=aA.QM H6 (.slice gs zw zw.length) (.slice E xw xw.length) (.slice I zx zx.length) (.slice (some ⟨j,0,none⟩) xx xx.length);have o1:=iS.mZ l1 (.slice gs zw zw.length) (.slice E xw xw.length) (.slice I zx zx.length) (.slice (some ⟨j,0,none⟩) xx xx.length);have o2:=iC.mZ l2 (.slice gs zw zw.length) (.slice E xw xw.length) (.slice I zx zx.length) (.slice (some ⟨j,0,none⟩) xx xx.length);have o3:=iT.mZ l3 (.slice gs zw zw.length) (.slice E xw xw.length) (.slice I zx zx.length) (.slice (some ⟨j,0,none⟩) xx xx.length);have o4:=iD.mZ l4 (.slice gs zw zw.length) (.slice E xw xw.length) (.slice I zx zx.length) (.slice (some ⟨j,0,none⟩) xx xx.length);have b3:=rH bW (p:=w.1.size+1+1+1) Y (.slice gs zw zw.length) (.slice E xw xw.length) (.slice I zx zx.length) (.slice (some ⟨j,0,none⟩) xx xx.length);have zp:=ade (p:=w.1.size+1+1+1) (.slice gs zw zw.length) (.slice E xw xw.length) (.slice I zx zx.length) (.slice (some ⟨j,0,none⟩) xx xx.length) hK rfl;clear iC iD iS iT;go_wp2_with fail;refine⟨aI,.inl ⟨_,_,rfl,run_takeDeferred zp,?_⟩⟩;have k4:=(c5.ak (B:=0) (λ(_:Unit)=>w.1.size+1+1+1) 206 (λ_=>_)).iY () _ D _ (.deferred none) k2' (aR _) zp rfl;have u1:=(c5.own (B:=0) (λ(_:Unit)=>gs) 3 (λ_=>zw)).iY () _ D _ (.deferred none) o1 (aR _) zp rfl;have u2:=(c5.own (B:=0) (λ(_:Unit)=>E) 65 (λ_=>eI xg xx xw.length f.all)).iY () _ D _ (.deferred none) o2 (aR _) zp rfl;have u3:=(c5.own (B:=0) (λ(_:Unit)=>I) 3 (λ_=>zx)).iY () _ D _ (.deferred none) o3 (aR _) zp rfl;have u4:=(c5.own (B:=0) (λ(_:Unit)=>j) 65 (λ_=>eJ xg xw xx.length f.all)).iY () _ D _ (.deferred none) o4 (aR _) zp rfl;have b4:=(c5.below (β:=Unit) (w:=w) (al _) b2.size).iY () _ D _ (.deferred none) b3 hD zp rfl;have e0:=k4.cell 0;have e1:=k4.cell 1;have e2:=k4.cell 2;have e3:=k4.cell 3;generalize World.putObj _ D (.deferred none)=W3 at*;refine⟨.tuple #[.agg #[.slice gs zw zw.length,.slice E xw xw.length,.slice I zx zx.length,.slice (some ⟨j,0,none⟩) xx xx.length],an],by simp[results,results107,go_sem,e0,e1,e2,e3],?_⟩;exact⟨_,zw.length,_,xw.length,_,zx.length,_,xx.length,by rw[hX.o,hY.o,n6,n7],⟨u1.rd,rfl⟩,⟨by rw[hX.o];exact u2.rd,rfl⟩,⟨u3.rd,rfl⟩,⟨by rw[hY.o];exact u4.rd,rfl⟩,fv Y,fv Y,fv Y,fv Y,Le.same _,⟨by rw[hX.o,n6];exact al _⟩,Le.same _,⟨by rw[hY.o,n7];exact al _⟩,⟨b4⟩⟩
end
end
end
