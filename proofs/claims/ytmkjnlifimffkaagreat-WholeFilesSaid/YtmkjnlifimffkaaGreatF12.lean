/- Lemmas. -/
import Derived.Test.YtmkjnlifimffkaaGreatF11
namespace Go.Proofs.YtmkjnlifimffkaaGreat
open Go.RowKit Tryz
set_option linter.all false
set_option maxRecDepth 100000
set_option maxHeartbeats 0
variable{x y:Int}{xs zs:List Int}{A B:Option Addr}{R S Z b c d j m:Nat}
instance I6.kN{n:Int}:I6 (kN n):=⟨Er n⟩
instance I6.mM{l:av}:I6 (mM l):=⟨wU l⟩
instance I6.div[a:I6 x][b:I6 y]:I6 (fdiv x y):=⟨En a.bd b.bd⟩
theorem dp.part(h:dp xs)(F W:Nat):dp ((xs.drop F).take W):=⟨λz b=>h.bd z (dC (cG b))⟩
section
variable{w:World}{n:Nat}
def Vb[a:Sl w A n xs][i:dp xs](b:n<=1000000):() 211 #[(A,n,c)] w (aD w (mM xs:Int)):=by
 obtain⟨a,rfl⟩:=a;exact jJ (Pb A c xs w b i.hid a)
def KS{n:Int}:() 26 #[n] w (aD w (kN n:Int)):=jJ (mL n w)
def KT[a:I6 x][b:I6 y]:() 176 #[x,y] w (aD w (fdiv x y:Int)):=Uu (Qr x y w a.bd b.bd)
end
section
variable{w:World}{n:Nat}
def AT[Sl w A n zs](e:n<=1000000)(hb:Hx (xt zs=(b:Int))):() 175 #[(A,n,c)] w (aD w b):=bZ (Qb e) (by rw[hb.o])
def IC[a:Sl w A n zs][b:Sl w B m xs][i6:dp xs][ld:Le m d](hn:n<=1000000){W:Nat}{V X:av}(hr:aJ zs xs=true)(hk:y=1\/y=2)(C:Hx (PW zs V R Z j W S))(hX:Hx (X=je (hh y W) xs Z j S W (R*j))):
  () 161 #[y,.agg #[(A,n,c),(B,m,d)],W,S] w (he w V X 0):=by
 obtain⟨CB,CP,FB⟩:=ha;have hE:Hx (Da y zs xs W S=0):=ae (by rw[Da,ag om,ah hr,C.o.none]);have hV:Hx (E3 y zs xs W S=V):=ae (by rw[E3,hE.o,ah rfl,C.o.pl]);have hVr:=C.o.KP;have Q:V.length=zs.length:=by rw[C.o.v,ej]
 obtain⟨M,hM⟩:=lh (R*j);have hVS:Hx (aN V=(M:Int)):=ae (by rw[C.o.C9,hM]);have N:xs.length=R*Z:=by have G:=((bf _ _).1 hr).2;rw[C.o.size]at G;omega
 have hM6:M<=65536:=by
  have:=pS R C.o.nZ;have:=C.o.small;omega
 have XX:m<=65536:=by rw[b.len,N];exact C.o.small
 have pm:0<m:=by rw[b.len,N];exact vT C.o.R1 (aO C.o.n1 C.o.nZ)
 have YV:=a.len;obtain⟨k,T⟩:=lh (zs.length-1);have U:k<zs.length:=by have:=C.o.len;omega
 have YW:Hx (zs[k]?=some (Z:Int)):=ae (by rw[<-T];exact C.o.at_);have YX:Hx (V[k]?=some (j:Int)):=ae (by rw[C.o.v,T,h0 U]);have mk:IntKind.i64.wrap ((V.length:Int)-1)=(k:Int):=by rw[Q,show(zs.length:Int)-1=(k:Int)from by omega];exact lQ _ (by omega)
 have oY:=C.o.n1;have XR:j<=1024:=aO C.o.nZ C.o.Z2;have lE:=C.o.W1;have YY:k<V.length:=om;have Qt:V.length<=1000000:=by rw[Q,<-a.len];exact hn
 have q3:=ae N;have HM:=ae hM;have MM:=ld.le;have vn:k<n:=by rw[a.len];exact U
 obtain⟨bz,oz,z,rfl,obz,cz,hz⟩:=a.get vn;obtain rfl:z=(Z:Int):=by have G:=hz.o;rw[YW.o]at G;injection G with G;exact G.symm
 obtain⟨bx,ox,x0,rfl,obx,-,-⟩:=b.get pm;clear hz T N hM Q U YV
 go_in
 go_wp2_with (first|(go_at_call 173;(with_reducible refine(AQ om hE hV).mono ?_);rintro e u ⟨A',c',rfl,sJ,lJ,fJ,_⟩))
 obtain⟨bs,os,zn,rfl,obs,cs,oQ⟩:=sJ.get YY;obtain rfl:zn=(j:Int):=by have G:=oQ.o;rw[YX.o]at G;injection G with G;exact G.symm
 clear oQ;obtain⟨E,rfl⟩:=lg u
 go_wp2_with (go_at_call 62;(with_reducible refine(ML om hVr hVS).mono ?_);rintro e u ⟨g,D,rfl,hg,I,oS,oX,Ix⟩)
 obtain⟨w1,rfl⟩:=lg u;refine am aq (λu7 _=>?_);refine qL [0,1,2,3,4,5,6,7,8,9,10,11,12,13,14] ?_;refine aZ ?_
 go_wp2_with fail
 have n1:w1≠D:=by have:=oX.lt;omega
 have n2:g≠D:=oS.aS (cs:=ints (List.replicate M 0)) oX ak;have hfL:=λk=>jB (hh y W) xs Z j S W k;have vo:=λk=>E1 (hh y W) xs Z j S W k;clear CP;have CP:=@bL;go_loopw [54] (λi wr=>∃k:Nat,k<=M/\i=.int .i64 k/\Own wr D 65 (fm (je (hh y W) xs Z j S W) (List.replicate M 0) k)/\Own wr g 3 V/\Bx wr w1.1.size 28 #[.slice g V V.length,.slice D M M]/\aj wr E) (λi _=>M-(intOf i).toNat)
 .exact⟨0,aT _,rfl,by simpa[fm,je]using oX.at,oS.at,ao,aK⟩
 ·
  obtain⟨i,hi,rfl,hO,hS,hB,hp⟩:=hrel;by_cases O:i<M
  .obtain⟨F,hF⟩:∃F,Hx (i/j*Z+i%j*S=F):=⟨_,ae rfl⟩;have Y:F+W<=m:=by
    have:=(C.o.win (i:=i) (by rw[HM.o];exact O)).2.2.2;rw[hF.o,<-q3.o,<-b.len]at this;exact this
   have LO:(fm (je (hh y W) xs Z j S W) (List.replicate M 0) i)[i]?=some 0:=mV (hfL i) (by simp[O]);obtain⟨L,HL⟩:∃L,Hx ((xs.drop F).take W=L):=⟨_,ae rfl⟩;have P:=ae (kF (f:=je (hh y W) xs Z j S W) (ys:=List.replicate M 0) (k:=i) (z:=hh y W L) (hfL i) (by rw[vo,hF.o,HL.o]) (by simp[O]:(List.replicate M (0:Int))[i]?=some 0));have sP:Sl w (some ⟨bx,ox+F,none⟩) W L:=by rw[<-HL.o];exact b.part Y
   have iL:dp L:=by rw[<-HL.o];exact i6.part F W
   have Ag:L.length=W:=sP.len.symm;have xn:W<=1000000:=om;rcases hk with rfl|rfl
   .obtain⟨bb,hb,YZ,Vc⟩:=xu (l:=L) (by rintro rfl;simp at Ag;omega);have HB:=ae hb;have cbb:w.cell? (bx,ox+F+bb)=some (.int .i64 (C8 L)):=sP.rd.all Vc;have hbW:bb<W:=om;have J:hh 1 W L=C8 L:=by simp[hh]
    rw[J]at P;clear hb YZ Vc Ag J
    go_wp2_with (go_at_call 174;(with_reducible refine(nQ om om hF om om om lE Y).mono ?_);rintro e u ⟨rfl,_⟩)
    refine aR E (λw9=>Bx w9 w1.1.size 28 #[.slice g V V.length,.slice D M M]) aq ao (λr _=>?_);refine bw 0 ?_;refine bw 1 ?_;refine bw 2 ?_;refine bw 3 ?_;refine bw 4 ?_;refine aM 5 λK hK=>?_;go_simp
    (with_reducible refine(AT om HB).mono ?_)
    rintro e r ⟨rfl,_⟩;dsimp only;refine aL hK ?_ ⟨ab E _,ao⟩;refine bw 6 ?_;refine bw 7 ?_;refine bw 8 ?_;refine aM 9 λK hK=>?_;have zM:=((hO).at (w':=r)).cell LO;have CJ:=((hO).at (w':=r)).frozen i;go_simp;refine aL hK ?_ ⟨⟨(a7 E r).setCell (p:=⟨D,i,none⟩) I _⟩,⟨(Bx.al (w:=r)).a9 n1 _⟩⟩;clear hK K zM CJ;refine aZ ?_
    go_wp2_with fail
    go_roundw
    ·
     have o2:=(hO.at (w':=r)).ax i (C8 L);rw[P.o]at o2;exact⟨i+1,om,by go_num,o2,(hS.at (w':=r)).a9 n2 _,⟨(Bx.al (w:=r)).a9 n1 _⟩,⟨(a7 E r).setCell (p:=⟨D,i,none⟩) I _⟩⟩
    .simp[intOf];omega
   .have J:hh 2 W L=fdiv (mM L) (kN W):=by simp[hh]
    rw[J]at P;clear Ag J
    go_wp2_with (go_at_call 174;(with_reducible refine(nQ om om hF om om om lE Y).mono ?_);rintro e u ⟨rfl,_⟩)
    refine aR E (λw9=>Bx w9 w1.1.size 28 #[.slice g V V.length,.slice D M M]) aq ao (λr _=>?_);refine bw 0 ?_;refine bw 1 ?_;refine bw 2 ?_;refine bw 3 ?_;refine bw 5 ?_;refine aM 4 λK hK=>?_;go_simp
    (with_reducible refine(Vb om).mono ?_)
    rintro e r ⟨rfl,_⟩;dsimp only;refine aL hK ?_ ⟨ab E _,ao⟩;refine aM 6 λK hK=>?_;go_simp
    (with_reducible refine(KS).mono ?_)
    rintro e r ⟨rfl,_⟩;dsimp only;refine aL hK ?_ ⟨ab E _,ao⟩;refine aM 7 λK hK=>?_;go_simp
    (with_reducible refine(KT).mono ?_)
    rintro e r ⟨rfl,_⟩;dsimp only;refine aL hK ?_ ⟨ab E _,ao⟩;refine bw 8 ?_;refine aM 9 λK hK=>?_;have zM:=((hO).at (w':=r)).cell LO;have CJ:=((hO).at (w':=r)).frozen i;go_simp;refine aL hK ?_ ⟨⟨(a7 E r).setCell (p:=⟨D,i,none⟩) I _⟩,⟨(Bx.al (w:=r)).a9 n1 _⟩⟩;clear hK K zM CJ;refine aZ ?_
    go_wp2_with fail
    go_roundw
    ·
     have o2:=(hO.at (w':=r)).ax i (fdiv (mM L) (kN W));rw[P.o]at o2;exact⟨i+1,om,by go_num,o2,(hS.at (w':=r)).a9 n2 _,⟨(Bx.al (w:=r)).a9 n1 _⟩,⟨(a7 E r).setCell (p:=⟨D,i,none⟩) I _⟩⟩
    .simp[intOf];omega
  .rw[mY (by simpa using O)]at hO;obtain rfl:i=M:=om;have HO:=ae hO;clear hO;have kR:Bx wr (w.1.size+1) 28 #[(),()]:=ao;have l1:=hS.aS kR.al ak;have l2:=HO.o.aS kR.al ak
   go_wp2_with fail
   have k3:=kR.al.cY (.slice g V V.length) (.slice D i i);have B3:=cM (a7 w wr) (p:=w.1.size+1) om (.slice g V V.length) (.slice D i i);have o3:=hS.cU l1 (.slice g V V.length) (.slice D i i);have o4:=HO.o.cU l2 (.slice g V V.length) (.slice D i i);obtain⟨r0,r1⟩:=di k3;refine a8 (v:=.tuple #[.agg #[.slice g V V.length,.slice D i i],au]) (by simp[results,results161,go_sem,r0,r1]) rfl ?_;have MN:w<=g:=aO (ai (w:=w) (w':=E)) hg;have Qu:w<=D:=aO (ai (w:=w) (w':=E)) I;rw[hX.o,HM.o];exact⟨_,_,_,_,by rw[jB],⟨o3.rd,rfl⟩,⟨o4.rd,rfl⟩,⟨an _⟩,⟨by rw[jB];exact an _⟩,⟨λad e=>by cases e;exact MN⟩,⟨λad e=>by cases e;exact Qu⟩,⟨B3⟩⟩
end
variable{kind z:Int}{gs ys:List Int}{c' d' i r:Nat}{C:Option Addr}
def wy{b:Int}{xs gs:av}{Z n S W:Nat}:∀(i q:Nat),bo (iS b xs gs Z n S W i q)
 |0,_=>by unfold iS bo;omega
 |i+1,q=>by
  unfold iS
  split
  .exact jI _ _
  .exact wy i q
instance I6.iS{b:Int}{xs gs:av}{Z n S W i q:Nat}:I6 (iS b xs gs Z n S W i q):=⟨wy i q⟩
section
variable{n W F N:Nat}
def MO(hF:i/n*Z+i%n*S=F)(hb:xt ((xs.drop F).take W)=(m:Int))(b:gs[i]?=some y):
  (tab N (iS 1 xs gs Z n S W i)).set (F+m) (cA (iS 1 xs gs Z n S W i (F+m)) y)=tab N (iS 1 xs gs Z n S W (i+1)):=by
 rw[E2];refine kU λq _=>?_;rw[iS,hF,Qc,ah rfl,hb,bI,Il,ah rfl,aX,b];by_cases h:q=F+m
 .subst h;simp
 .simp[h]
def xI(xs gs:av)(Z n S W i F:Nat)(y:Int)(j q:Nat):Int:=if F<=q/\q<F+j then cA (iS 2 xs gs Z n S W i q) y else iS 2 xs gs Z n S W i q
def MP:tab N (xI xs gs Z n S W i F y 0)=tab N (iS 2 xs gs Z n S W i):=kU λq _=>by rw[xI,ag om]
def Vd:xI xs gs Z n S W i F y j (F+j)=iS 2 xs gs Z n S W i (F+j):=by rw[xI,ag om]
def MQ:(tab N (xI xs gs Z n S W i F y j)).set (F+j) (cA (iS 2 xs gs Z n S W i (F+j)) y)=tab N (xI xs gs Z n S W i F y (j+1)):=by
 rw[E2];refine kU λq _=>?_;unfold xI;by_cases h:q=F+j
 .subst h;rw[ah rfl,ah om]
 .rw[ag h];by_cases b:F<=q/\q<F+j
  .rw[ah b,ah om]
  .rw[ag b,ag om]
def Qv(hF:i/n*Z+i%n*S=F)(e:gs[i]?=some z)(j:fdiv z (kN W)=y):tab N (xI xs gs Z n S W i F y W)=tab N (iS 2 xs gs Z n S W (i+1)):=
 kU λq _=>by
  have b:¬(2:Int)=1:=by decide
  rw[xI,iS,hF];unfold Qc Il;rw[ag b,ag b,aX,e,pZ,j];by_cases h:F<=q/\q<F+W
  .rw[ah h,ah (by simpa using h)]
  .rw[ag h,ag (by simpa using h)]
end
section
variable{w:World}{D:Option Addr}{n m':Nat}{ts:List Int}
def Dl{V:av}[a:Sl w A n zs][b:Sl w B m xs][Sl w C R V][b':Sl w D m' ys][dp ys][ld:Le m d](hn:n<=1000000)(Y0:R<=1000000){W:Nat}{X:av}(hr:aJ zs xs=true)(hk:z=1\/z=2)(I:Hx (PW zs V j Z r W S))(Y1:aJ V ys=true)(hX:Hx (X=tab (j*Z) (iS z xs ys Z r S W (j*r)))):
  () 109 #[z,.agg #[(A,n,c),(B,m,d)],.agg #[(C,R,c'),(D,m',d')],W,S] w (he w zs X 0):=by
 obtain⟨CB,CP,FB⟩:=ha;have FP:=@nG;have hE:Hx (Da z zs xs W S=0):=ae (by rw[Da,ag om,ah hr,I.o.none]);have hV:Hx (E3 z zs xs W S=V):=ae (by rw[E3,hE.o,ah rfl,I.o.pl]);have hVl:V.length=zs.length:=by rw[I.o.v,ej]
 obtain⟨M,hM⟩:=lh (j*r);obtain⟨N,hN⟩:=lh (j*Z);have vm:xs.length=N:=by have J:=((bf _ _).1 hr).2;rw[I.o.size]at J;omega
 have Es:ys.length=M:=by have J:=((bf _ _).1 Y1).2;rw[I.o.C9]at J;omega
 have hN6:N<=65536:=by rw[<-hN];exact I.o.small
 have hM6:M<=65536:=by
  have:=pS j I.o.nZ;omega
 have Vc:=b.len;have aa6:=b'.len;have XX:m<=65536:=om;have zW:0<N:=by rw[<-hN];exact vT I.o.R1 (aO I.o.n1 I.o.nZ)
 have YV:=a.len;obtain⟨k,U⟩:=lh (zs.length-1);have hkz:k<zs.length:=by have:=I.o.len;omega
 have YW:Hx (zs[k]?=some (Z:Int)):=ae (by rw[<-U];exact I.o.at_);have YX:Hx (V[k]?=some (r:Int)):=ae (by rw[I.o.v,U,h0 hkz]);have mk:IntKind.i64.wrap ((V.length:Int)-1)=(k:Int):=by rw[hVl,show(zs.length:Int)-1=(k:Int)from by omega];exact lQ _ (by omega)
 have oY:=I.o.n1;have XR:r<=1024:=aO I.o.nZ I.o.Z2;have lE:=I.o.W1;have YY:k<V.length:=om;have Qt:V.length<=1000000:=om;have HM:=ae hM;have HN:=ae hN;have MM:=ld.le;have vn:k<n:=om;obtain⟨bz,oz,aa,rfl,obz,cz,hz⟩:=a.get vn;obtain rfl:aa=(Z:Int):=by have J:=hz.o;rw[YW.o]at J;injection J with J;exact J.symm
 obtain⟨bx,ox,x0,rfl,obx,-,-⟩:=b.get (k:=0) om;have hmN:m=N:=om;have hmM:m'=M:=om;subst hmN hmM;obtain⟨a,rfl⟩:=a;have a:Sl w (some ⟨bz,oz,none⟩) zs zs:=⟨a,rfl⟩;have q3:=ae vm;have Y:0<xs.length:=om;clear hz U vm hM hVl hkz YV hN Vc aa6 Es
 go_in
 go_upto_region 6 with(first|(go_at_call 173;(with_reducible refine(AQ om hE hV).mono ?_);rintro e u ⟨A',c',rfl,sJ,lJ,fJ,_⟩)|(go_at_call 69;(with_reducible refine(d9 om).mono ?_);rintro e u ⟨rfl,_⟩)|(go_at_call 70;(with_reducible refine(nP om om).mono ?_);rintro e u ⟨rfl,_⟩))
 obtain⟨O,rfl⟩:=lg u;obtain⟨bs,os,zn,rfl,obs,cs,oQ⟩:=sJ.get YY;obtain rfl:zn=(r:Int):=by have J:=oQ.o;rw[YX.o]at J;injection J with J;exact J.symm
 clear oQ hr Y1
 go_wp2_with fail
 refine(o8 om om).mono ?_;rintro e w1 ⟨g,E,rfl,hg,Q,oS,oX,Ix⟩;have wW:=λty=>o9 (P:=prog) 26 65 ty underlying26 aq (oX.alloc (.cells #[.slice g zs zs.length,.slice E xs xs.length] 28)) Y xs.length;have n1:g≠E:=oS.aS (cs:=ints xs) oX ak;have n2:w1≠E:=by have:=oX.lt;omega
 have K:=jy (bs:=[E]) (g:=E) aG (List.replicate xs.length au) 0 (h4.refl [E] (w1.alloc (.cells #[.slice g zs zs.length,.slice E xs xs.length] 28)));have MR:=(oX.alloc (.cells #[.slice g zs zs.length,.slice E xs xs.length] 28)).clear;have Qw:=K.own (oS.alloc (.cells #[.slice g zs zs.length,.slice E xs xs.length] 28)) (by simpa using n1);have T:=K.al (aB.new w1 28 #[.slice g zs zs.length,.slice E xs xs.length]) (by simpa using n2);have pW:aj _ O:=⟨eP (n:=O.1.size) (g:=E) Q (List.replicate xs.length au) 0 (a7 O (w1.alloc (.cells #[.slice g zs zs.length,.slice E xs xs.length] 28)))⟩;obtain⟨W0,Y2⟩:=lg ((w1.alloc (.cells #[.slice g zs zs.length,.slice E xs xs.length] 28)).setCells E 0 (List.replicate xs.length au));rw[<-Y2]at MR Qw T pW;replace T:Bx W0 w1.1.size 28 #[.slice g zs zs.length,.slice E xs xs.length]:=⟨T⟩
 go_wp2_with fail
 rw[<-Y2];clear wW Y2 K oS oX Ix;obtain⟨G,MJ⟩:=lh xs.length;rw[MJ]at MR T;obtain rfl:G=m:=by rw[<-MJ,q3.o]
 clear MJ;refine am aq (λu8 _=>?_);refine qL [0,1,2,3,4,5,6,7,8,9,10,11,12,13,14] ?_;refine aZ ?_
 go_wp2_with fail
 go_loopw [65] (λi wr=>∃k:Nat,k<=m'/\i=.int .i64 k/\Own wr E 65 (tab G (iS z xs ys Z r S W k))/\Own wr g 3 zs/\Bx wr w1.1.size 28 #[.slice g zs zs.length,.slice E G G]/\aj wr O) (λi _=>m'-(intOf i).toNat)
 .exact⟨0,aT _,rfl,by rw[show tab G (iS z xs ys Z r S W 0)=List.replicate G 0 from(kU λq _=>by simp[iS]).trans Mp];exact MR.at,Qw.at,ao,aK⟩
 ·
  obtain⟨i,hi,rfl,hO,hS,hB,hp⟩:=hrel;by_cases bK:i<m'
  .obtain⟨by',oy,y,rfl,oby,cy,hy⟩:=b'.get bK;obtain⟨F,hF⟩:∃F,Hx (i/r*Z+i%r*S=F):=⟨_,ae rfl⟩;have Y3:F+W<=G:=by
    have:=(I.o.win (i:=i) (by rw[HM.o];exact bK)).2.2.2;rw[hF.o,HN.o]at this;exact this
   obtain⟨L,HL⟩:∃L,Hx ((xs.drop F).take W=L):=⟨_,ae rfl⟩;have sP:Sl w (some ⟨bx,ox+F,none⟩) W L:=by rw[<-HL.o];exact b.part Y3
   have iy:I6 y:=dp.at hy.o;have Ag:L.length=W:=sP.len.symm;have xn:W<=1000000:=om;have og:Old E wr:=⟨hO.lt⟩;rcases hk with rfl|rfl
   .obtain⟨bb,hb,YZ,-⟩:=xu (l:=L) (by rintro rfl;simp at Ag;omega);have HB:=ae hb;have hbW:bb<W:=om;have zM:=hO.cell (sB (F:=iS 1 xs ys Z r S W i) (k:=F+bb) (show F+bb<G by omega));have CJ:=hO.frozen (F+bb);have Y4:=ae (MO (N:=G) hF.o (by rw[HL.o];exact hb) hy.o);clear hb YZ Ag
    go_wp2_with (first|(go_at_call 174;(with_reducible refine(nQ om om hF om om om lE Y3).mono ?_);rintro e u ⟨rfl,_⟩)|(go_at_call 175;(with_reducible refine(AT om HB).mono ?_);rintro e u ⟨rfl,_⟩)|(go_at_call 171;(with_reducible refine(wt).mono ?_);rintro e u ⟨rfl,_⟩))
    go_roundw
    ·
     have o2:=(hO.at (w':=u)).ax (F+bb) (cA (iS 1 xs ys Z r S W i (F+bb)) y);rw[Y4.o]at o2;exact⟨i+1,om,by go_num,o2,(hS.at (w':=u)).a9 n1 _,⟨(Bx.al (w:=u)).a9 n2 _⟩,⟨(a7 O u).setCell (p:=⟨E,F+bb,none⟩) Q _⟩⟩
    .simp[intOf];omega
   .obtain⟨y2,hy2⟩:=lh (fdiv y (kN W));have MT:=ae (Qv (xs:=xs) (N:=G) hF.o hy.o hy2);have iy2:I6 y2:=hy2▸(ao:I6 (fdiv y (kN W)));clear Ag
    go_wp2_with (first|(go_at_call 174;(with_reducible refine(nQ om om hF om om om lE Y3).mono ?_);rintro e u ⟨rfl,_⟩)|(go_at_call 26;(with_reducible refine(KS).mono ?_);rintro e u ⟨rfl,_⟩)|(go_at_call 176;(with_reducible refine(KT).mono ?_);rintro e u ⟨rfl,_⟩))
    go_loopw [104] (λab wq=>∃q:Nat,q<=W/\ab=.int .i64 q/\Own wq E 65 (tab G (xI xs ys Z r S W i F y2 q))/\Own wq g 3 zs/\Bx wq w1.1.size 28 #[.slice g zs zs.length,.slice E G G]/\aj wq O) (λab _=>W-(intOf ab).toNat)
    .exact⟨0,aT _,rfl,by rw[MP];exact hO.at,hS.at,ao,aK⟩
    ·
     clear hO hS hB og;obtain⟨q,hq,rfl,hO,hS,hB,hp⟩:=hrel;by_cases acw:q<W
     .have zM:=hO.cell (sB (F:=xI xs ys Z r S W i F y2 q) (k:=F+q) (show F+q<G by omega));rw[Vd]at zM;have CJ:=hO.frozen (F+q);have og:Old E wr:=⟨hO.lt⟩
      go_wp2_with (go_at_call 171;(with_reducible refine(wt).mono ?_);rintro e u ⟨rfl,_⟩)
      go_roundw
      ·
       have o2:=(hO.at (w':=u)).ax (F+q) (cA (iS 2 xs ys Z r S W i (F+q)) y2);rw[MQ]at o2;exact⟨q+1,om,by go_num,o2,(hS.at (w':=u)).a9 n1 _,⟨(Bx.al (w:=u)).a9 n2 _⟩,⟨(a7 O u).setCell (p:=⟨E,F+q,none⟩) Q _⟩⟩
      .simp[intOf];omega
     .obtain rfl:q=W:=om;rw[MT.o]at hO
      go_wp2_with fail
      go_roundw
      .exact⟨i+1,om,by go_num,hO,hS,hB,hp⟩
      .simp[intOf];omega
  .obtain rfl:i=m':=om;have HO:=ae hO;clear hO;have kR:Bx wr (w.1.size+1+1) 28 #[(),()]:=ao;have l1:=hS.aS kR.al ak;have l2:=HO.o.aS kR.al ak
   go_wp2_with fail
   have k3:=kR.al.cY (.slice g zs zs.length) (.slice E G G);have B3:=cM (a7 w wr) (p:=w.1.size+1+1) om (.slice g zs zs.length) (.slice E G G);have o3:=hS.cU l1 (.slice g zs zs.length) (.slice E G G);have o4:=HO.o.cU l2 (.slice g zs zs.length) (.slice E G G);obtain⟨r0,r1⟩:=di k3;refine a8 (v:=.tuple #[.agg #[.slice g zs zs.length,.slice E G G],au]) (by simp[results,results109,go_sem,r0,r1]) rfl ?_;have MN:w<=g:=aO (ai (w:=w) (w':=O)) hg;have Qu:w<=E:=aO (ai (w:=w) (w':=O)) Q;rw[hX.o,HM.o,HN.o];exact⟨_,_,_,_,by rw[gQ],⟨o3.rd,rfl⟩,⟨o4.rd,rfl⟩,⟨an _⟩,⟨by rw[gQ];exact an _⟩,⟨λad e=>by cases e;exact MN⟩,⟨λad e=>by cases e;exact Qu⟩,⟨B3⟩⟩
end
