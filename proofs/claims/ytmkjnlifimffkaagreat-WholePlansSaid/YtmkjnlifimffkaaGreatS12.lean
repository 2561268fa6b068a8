/- Lemmas. -/
import Derived.Test.YtmkjnlifimffkaaGreatS11
namespace Go.Proofs.YtmkjnlifimffkaaGreat
open Go.RowKit Tryz
set_option linter.all false
set_option maxRecDepth 100000
set_option maxHeartbeats 0
variable{Γ:Prop}
attribute[local irreducible]Calls
variable{x y:Int}{V xs zs:List Int}{w:World}{A B:Option Addr}{R Z b c d j m n:Nat}
instance I6.mn{n:Int}:I6 (mn n):=⟨G9 n⟩
instance I6.oC{l:au}:I6 (oC l):=⟨yX l⟩
instance I6.div[a:I6 x][b:I6 y]:I6 (fdiv x y):=⟨G6 a.bd b.bd⟩
theorem cv.part(h:cv xs)(F W:Nat):cv ((xs.drop F).take W):=⟨λz b=>h.bd z (dA (cE b))⟩
def XO[a:Sl w A n xs][i:cv xs](b:n<=1000000):() 211 #[(A,n,c)] w (aJ w (oC xs:Int)):=by
 obtain⟨a,rfl⟩:=a;exact kW (RE A c xs w b i.hid a)
def Nr{n:Int}:() 26 #[n] w (aJ w (mn n:Int)):=kW (oB n w)
def Ns[a:I6 x][b:I6 y]:() 176 #[x,y] w (aJ w (fdiv x y:Int)):=W3 (Tl x y w a.bd b.bd)
def De[Sl w A n zs](e:n<=1000000)(hb:Hx (zy zs=(b:Int))):() 175 #[(A,n,c)] w (aJ w b):=cu (SM e) (by rw[hb.o])
def xM0(h:Γ:=by rw[P.o]at o2;exact⟨i+1,om,by go_num,o2,(hS.at (w':=r)).aY n2 _,⟨(Bx.ak (w:=r)).aY n1 _⟩,⟨(aP E r).setCell (p:=⟨D,i,none⟩) I _⟩⟩):=h
def xM1(h:Γ:=by simp[intOf];omega):=h
def xM2(h:Γ:=by rintro rfl;simp at zM;omega):=h
def K8[a:Sl w A n zs][b:Sl w B m xs][i6:cv xs][ld:Le m d](hn:n<=1000000){W S:Nat}{X:au}(hr:ap zs xs=true)(hk:y=1\/y=2)(C:Hx (PW zs V R Z j W S))(hX:Hx (X=jS (ib y W) xs Z j S W (R*j))):
  () 161 #[y,.agg #[(A,n,c),(B,m,d)],W,S] w (dK w V X 0):=by
 obtain⟨CB,CP,FB⟩:=ia;have hE:Hx (Fz y zs xs W S=0):=ae (by rw[Fz,ag om,ah hr,C.o.none]);have hV:Hx (HI y zs xs W S=V):=ae (by rw[HI,hE.o,ah rfl,C.o.pl]);have Tm:=C.o.Nn;have Q:V.length=zs.length:=by rw[C.o.v,d3]
 obtain⟨M,hM⟩:=lh (R*j);have Ph:Hx (ax V=(M:Int)):=ae (by rw[C.o.vx,hM]);have N:xs.length=R*Z:=by have G:=((aN _ _).1 hr).2;rw[C.o.size]at G;omega
 have hM6:M<=65536:=by have:=fS R C.o.nZ;have:=C.o.small;omega
 have hm6:m<=65536:=by rw[b.len,N];exact C.o.small
 have k8:0<m:=by rw[b.len,N];exact jK C.o.R1 (aL C.o.n1 C.o.nZ)
 have han:=a.len;obtain⟨k,T⟩:=lh (zs.length-1);have U:k<zs.length:=by have:=C.o.len;omega
 have hZk:Hx (zs[k]?=some (Z:Int)):=ae (by rw[<-T];exact C.o.at_);have hVk:Hx (V[k]?=some (j:Int)):=ae (by rw[C.o.v,T,fF U]);have mk:IntKind.i64.wrap ((V.length:Int)-1)=(k:Int):=by rw[Q,show(zs.length:Int)-1=(k:Int)from by omega];exact hD _ (by omega)
 have qk:=C.o.n1;have hn2:j<=1024:=aL C.o.nZ C.o.Z2;have k5:=C.o.W1;have hkV:k<V.length:=om;have To:V.length<=1000000:=by rw[Q,<-a.len];exact hn
 have n7:=ae N;have HM:=ae hM;have H7:=ld.le;have sY:k<n:=by rw[a.len];exact U
 obtain⟨bz,oz,z,rfl,obz,cz,hz⟩:=a.get sY;obtain rfl:z=(Z:Int):=by have G:=hz.o;rw[hZk.o]at G;injection G with G;exact G.symm
 obtain⟨bx,ox,x0,rfl,obx,-,-⟩:=b.get k8;clear hz T N hM Q U han;go_in;go_wp2_with (first|(go_at_call 173;refine(C8 om hE hV).mono ?_;rintro e u ⟨A',c',rfl,sJ,lJ,fJ,_⟩));obtain⟨bs,os,zn,rfl,obs,cs,qg⟩:=sJ.get hkV;obtain rfl:zn=(j:Int):=by have G:=qg.o;rw[hVk.o]at G;injection G with G;exact G.symm
 clear qg;obtain⟨E,rfl⟩:=lg u;go_wp2_with (go_at_call 62;refine(Dd om Tm Ph).mono ?_;rintro e u ⟨g,D,rfl,hg,I,oS,oX,vD⟩);obtain⟨w1,rfl⟩:=lg u;refine aw ao (λu7 _=>?_);refine qL [0,1,2,3,4,5,6,7,8,9,10,11,12,13,14] ?_;refine a9 ?_;go_wp2_with fail;have n1:w1≠D:=by have:=oX.lt;omega
 have n2:g≠D:=oS.aH (cs:=ints (List.replicate M 0)) oX am;have hfL:=λk=>iN (ib y W) xs Z j S W k;have xr:=λk=>HG (ib y W) xs Z j S W k;clear CP;have CP:=@bW;go_loopw [54] (λi wr=>∃k:Nat,k<=M/\i=.int .i64 k/\Own wr D 65 (e2 (jS (ib y W) xs Z j S W) (List.replicate M 0) k)/\Own wr g 3 V/\Bx wr w1.1.size 28 #[.slice g V V.length,.slice D M M]/\aj wr E) (λi _=>M-(intOf i).toNat);exact⟨0,aM _,rfl,by simpa[e2,jS]using oX.at,oS.at,aq,aF⟩;obtain⟨i,hi,rfl,hO,hS,hB,hp⟩:=hrel;by_cases O:i<M
 .obtain⟨F,hF⟩:∃F,Hx (i/j*Z+i%j*S=F):=⟨_,ae rfl⟩;(have Y:F+W<=m:=by have:=(C.o.Cc (i:=i) (by rw[HM.o];exact O)).2.2.2;rw[hF.o,<-n7.o,<-b.len]at this;exact this);have Ok:(e2 (jS (ib y W) xs Z j S W) (List.replicate M 0) i)[i]?=some 0:=mG (hfL i) (by simp[O]);obtain⟨L,HL⟩:∃L,Hx ((xs.drop F).take W=L):=⟨_,ae rfl⟩;have P:=ae (kx (f:=jS (ib y W) xs Z j S W) (ys:=List.replicate M 0) (k:=i) (z:=ib y W L) (hfL i) (by rw[xr,hF.o,HL.o]) (by simp[O]:(List.replicate M (0:Int))[i]?=some 0));(have sP:Sl w (some ⟨bx,ox+F,none⟩) W L:=by rw[<-HL.o];exact b.part Y);(have iL:cv L:=by rw[<-HL.o];exact i6.part F W);have zM:L.length=W:=sP.len.symm;have se:W<=1000000:=om;rcases hk with rfl|rfl
  .obtain⟨bb,hb,hbl,XP⟩:=zz (l:=L) xM2;have HB:=ae hb;have cbb:w.cell? (bx,ox+F+bb)=some (.int .i64 (Fy L)):=sP.rd.all XP;have Tp:bb<W:=om;(have J:ib 1 W L=Fy L:=by simp[ib]);rw[J]at P;clear hb hbl XP zM J;go_wp2_with (go_at_call 174;refine(pC om om hF om om om k5 Y).mono ?_;rintro e u ⟨rfl,_⟩);refine a6 E (λw9=>Bx w9 w1.1.size 28 #[.slice g V V.length,.slice D M M]) ao aq (λr _=>?_);refine bR 0 ?_;refine bR 1 ?_;refine bR 2 ?_;refine bR 3 ?_;refine bR 4 ?_;refine aK 5 λK hK=>?_;go_simp;refine(De om HB).mono ?_;rintro e r ⟨rfl,_⟩;dsimp only;refine aG hK ?_ ⟨aR E _,aq⟩;refine bR 6 ?_;refine bR 7 ?_;refine bR 8 ?_;refine aK 9 λK hK=>?_;have sG:=((hO).at (w':=r)).cell Ok;have tY:=((hO).at (w':=r)).frozen i;go_simp;refine aG hK ?_ ⟨⟨(aP E r).setCell (p:=⟨D,i,none⟩) I _⟩,⟨(Bx.ak (w:=r)).aY n1 _⟩⟩;clear hK K sG tY;refine a9 ?_;go_wp2_with fail;go_roundw;have o2:=(hO.at (w':=r)).av i (Fy L);exact xM0;exact xM1
  have J:ib 2 W L=fdiv (oC L) (mn W):=by simp[ib]
  rw[J]at P;clear zM J;go_wp2_with (go_at_call 174;refine(pC om om hF om om om k5 Y).mono ?_;rintro e u ⟨rfl,_⟩);refine a6 E (λw9=>Bx w9 w1.1.size 28 #[.slice g V V.length,.slice D M M]) ao aq (λr _=>?_);refine bR 0 ?_;refine bR 1 ?_;refine bR 2 ?_;refine bR 3 ?_;refine bR 5 ?_;refine aK 4 λK hK=>?_;go_simp;refine(XO om).mono ?_;rintro e r ⟨rfl,_⟩;dsimp only;refine aG hK ?_ ⟨aR E _,aq⟩;refine aK 6 λK hK=>?_;go_simp;refine(Nr).mono ?_;rintro e r ⟨rfl,_⟩;dsimp only;refine aG hK ?_ ⟨aR E _,aq⟩;refine aK 7 λK hK=>?_;go_simp;refine(Ns).mono ?_;rintro e r ⟨rfl,_⟩;dsimp only;refine aG hK ?_ ⟨aR E _,aq⟩;refine bR 8 ?_;refine aK 9 λK hK=>?_;have sG:=((hO).at (w':=r)).cell Ok;have tY:=((hO).at (w':=r)).frozen i;go_simp;refine aG hK ?_ ⟨⟨(aP E r).setCell (p:=⟨D,i,none⟩) I _⟩,⟨(Bx.ak (w:=r)).aY n1 _⟩⟩;clear hK K sG tY;refine a9 ?_;go_wp2_with fail;go_roundw;have o2:=(hO.at (w':=r)).av i (fdiv (oC L) (mn W));exact xM0;exact xM1
 rw[mc (by simpa using O)]at hO;obtain rfl:i=M:=om;have HO:=ae hO;clear hO;have kR:Bx wr (w.1.size+1) 28 #[(),()]:=aq;have l1:=hS.aH kR.ak am;have l2:=HO.o.aH kR.ak am;go_wp2_with fail;have k3:=kR.ak.bP (.slice g V V.length) (.slice D i i);have B3:=br (aP w wr) (p:=w.1.size+1) om (.slice g V V.length) (.slice D i i);have o3:=hS.bA l1 (.slice g V V.length) (.slice D i i);have o4:=HO.o.bA l2 (.slice g V V.length) (.slice D i i);obtain⟨r0,r1⟩:=bI k3;refine aX (v:=.tuple #[.agg #[.slice g V V.length,.slice D i i],an]) (by simp[results,results161,go_sem,r0,r1]) rfl ?_;have xj:w<=g:=aL (ai (w:=w) (w':=E)) hg;have Df:w<=D:=aL (ai (w:=w) (w':=E)) I;rw[hX.o,HM.o];exact⟨_,_,_,_,by rw[iN],⟨o3.rd,rfl⟩,⟨o4.rd,rfl⟩,⟨al _⟩,⟨by rw[iN];exact al _⟩,⟨λad e=>by cases e;exact xj⟩,⟨λad e=>by cases e;exact Df⟩,⟨B3⟩⟩
variable{kind z:Int}{gs ys:List Int}{c' d' i m' q:Nat}{C D:Option Addr}
def rP{b:Int}{xs gs:au}{Z n S W:Nat}:∀(i q:Nat),bb (jV b xs gs Z n S W i q)
 |0,_=>by unfold jV bb;omega
 |i+1,q=>by unfold jV;split;exact hW _ _;exact rP i q
instance I6.jV{S W:Nat}:I6 (jV z xs gs Z n S W i q):=⟨rP i q⟩
section
variable{S W F N:Nat}
def Pj(hF:i/n*Z+i%n*S=F)(hb:zy ((xs.drop F).take W)=(m:Int))(b:gs[i]?=some y):
  (tab N (jV 1 xs gs Z n S W i)).set (F+m) (bQ (jV 1 xs gs Z n S W i (F+m)) y)=tab N (jV 1 xs gs Z n S W (i+1)):=by
 rw[HH];refine mB λq _=>?_;rw[jV,hF,SN,ah rfl,hb,aZ,KR,ah rfl,aQ,b];by_cases h:q=F+m;subst h;simp;simp[h]
def zO(xs gs:au)(Z n S W i F:Nat)(y:Int)(j q:Nat):Int:=if F<=q/\q<F+j then bQ (jV 2 xs gs Z n S W i q) y else jV 2 xs gs Z n S W i q
def Pk:tab N (zO xs gs Z n S W i F y 0)=tab N (jV 2 xs gs Z n S W i):=mB λq _=>by rw[zO,ag om]
def XQ:zO xs gs Z n S W i F y j (F+j)=jV 2 xs gs Z n S W i (F+j):=by rw[zO,ag om]
def Pl:(tab N (zO xs gs Z n S W i F y j)).set (F+j) (bQ (jV 2 xs gs Z n S W i (F+j)) y)=tab N (zO xs gs Z n S W i F y (j+1)):=by
 rw[HH];refine mB λq _=>?_;unfold zO;by_cases h:q=F+j;subst h;rw[ah rfl,ah om];rw[ag h];by_cases b:F<=q/\q<F+j;rw[ah b,ah om];rw[ag b,ag om]
def Tq(hF:i/n*Z+i%n*S=F)(e:gs[i]?=some z)(j:fdiv z (mn W)=y):tab N (zO xs gs Z n S W i F y W)=tab N (jV 2 xs gs Z n S W (i+1)):=
 mB λq _=>by
 have b:¬(2:Int)=1:=by decide
 rw[zO,jV,hF];unfold SN KR;rw[ag b,ag b,aQ,e,tB,j];by_cases h:F<=q/\q<F+W;rw[ah h,ah (by simpa using h)];rw[ag h,ag (by simpa using h)]
end
section
variable{ts:List Int}
def FQ[a:Sl w A n zs][aa:Sl w B m xs][Sl w C R V][b':Sl w D m' ys][cv ys][ld:Le m d](hn:n<=1000000)(FR:R<=1000000){W S:Nat}{X:au}(hr:ap zs xs=true)(hk:y=1\/y=2)(G:Hx (PW zs V j Z b W S))(H8:ap V ys=true)(hX:Hx (X=tab (j*Z) (jV y xs ys Z b S W (j*b)))):
  () 109 #[y,.agg #[(A,n,c),(B,m,d)],.agg #[(C,R,c'),(D,m',d')],W,S] w (dK w zs X 0):=by
 obtain⟨CB,CP,FB⟩:=ia;have FP:=@jN;have hE:Hx (Fz y zs xs W S=0):=ae (by rw[Fz,ag om,ah hr,G.o.none]);have hV:Hx (HI y zs xs W S=V):=ae (by rw[HI,hE.o,ah rfl,G.o.pl]);have Tr:V.length=zs.length:=by rw[G.o.v,d3]
 obtain⟨M,hM⟩:=lh (j*b);obtain⟨N,hN⟩:=lh (j*Z);have jQ:xs.length=N:=by have I:=((aN _ _).1 hr).2;rw[G.o.size]at I;omega
 have tZ:ys.length=M:=by have I:=((aN _ _).1 H8).2;rw[G.o.vx]at I;omega
 have hN6:N<=65536:=by rw[<-hN];exact G.o.small
 have hM6:M<=65536:=by have:=fS j G.o.nZ;omega
 have XP:=aa.len;have abW:=b'.len;have hm6:m<=65536:=om;have B8:0<N:=by rw[<-hN];exact jK G.o.R1 (aL G.o.n1 G.o.nZ)
 have han:=a.len;obtain⟨k,U⟩:=lh (zs.length-1);have hkz:k<zs.length:=by have:=G.o.len;omega
 have hZk:Hx (zs[k]?=some (Z:Int)):=ae (by rw[<-U];exact G.o.at_);have hVk:Hx (V[k]?=some (b:Int)):=ae (by rw[G.o.v,U,fF hkz]);have mk:IntKind.i64.wrap ((V.length:Int)-1)=(k:Int):=by rw[Tr,show(zs.length:Int)-1=(k:Int)from by omega];exact hD _ (by omega)
 have qk:=G.o.n1;have hn2:b<=1024:=aL G.o.nZ G.o.Z2;have k5:=G.o.W1;have hkV:k<V.length:=om;have To:V.length<=1000000:=om;have HM:=ae hM;have HN:=ae hN;have H7:=ld.le;have sY:k<n:=om;obtain⟨bz,oz,z,rfl,obz,cz,hz⟩:=a.get sY;obtain rfl:z=(Z:Int):=by have I:=hz.o;rw[hZk.o]at I;injection I with I;exact I.symm
 obtain⟨bx,ox,x0,rfl,obx,-,-⟩:=aa.get (k:=0) om;have hmN:m=N:=om;have hmM:m'=M:=om;subst hmN hmM;obtain⟨a,rfl⟩:=a;have a:Sl w (some ⟨bz,oz,none⟩) zs zs:=⟨a,rfl⟩;have n7:=ae jQ;have Y:0<xs.length:=om;clear hz U jQ hM Tr hkz han hN XP abW tZ;go_in;go_upto_region 6 with(first|(go_at_call 173;refine(C8 om hE hV).mono ?_;rintro e u ⟨A',c',rfl,sJ,lJ,fJ,_⟩)|(go_at_call 69;refine(bD om).mono ?_;rintro e u ⟨rfl,_⟩)|(go_at_call 70;refine(ku om om).mono ?_;rintro e u ⟨rfl,_⟩));obtain⟨K,rfl⟩:=lg u;obtain⟨bs,os,zn,rfl,obs,cs,qg⟩:=sJ.get hkV;obtain rfl:zn=(b:Int):=by have I:=qg.o;rw[hVk.o]at I;injection I with I;exact I.symm
 clear qg hr H8;go_wp2_with fail;refine(gW om om).mono ?_;rintro e T ⟨g,r,rfl,hg,O,oS,oX,vD⟩;have xd:=λty=>hU (P:=prog) 26 65 ty underlying26 ao (oX.alloc (.cells #[.slice g zs zs.length,.slice r xs xs.length] 28)) Y xs.length;have n1:g≠r:=oS.aH (cs:=ints xs) oX am;have n2:T≠r:=by have:=oX.lt;omega
 have J:=fG (bs:=[r]) (g:=r) aD (List.replicate xs.length an) 0 (ik.refl [r] (T.alloc (.cells #[.slice g zs zs.length,.slice r xs xs.length] 28)));have zP:=(oX.alloc (.cells #[.slice g zs zs.length,.slice r xs xs.length] 28)).clear;have uu:=J.own (oS.alloc (.cells #[.slice g zs zs.length,.slice r xs xs.length] 28)) (by simpa using n1);have Q:=J.ak (az.new T 28 #[.slice g zs zs.length,.slice r xs xs.length]) (by simpa using n2);have pW:aj _ K:=⟨dG (n:=K.1.size) (g:=r) O (List.replicate xs.length an) 0 (aP K (T.alloc (.cells #[.slice g zs zs.length,.slice r xs xs.length] 28)))⟩;obtain⟨W0,hW0⟩:=lg ((T.alloc (.cells #[.slice g zs zs.length,.slice r xs xs.length] 28)).setCells r 0 (List.replicate xs.length an));rw[<-hW0]at zP uu Q pW;replace Q:Bx W0 T.1.size 28 #[.slice g zs zs.length,.slice r xs xs.length]:=⟨Q⟩;go_wp2_with fail;rw[<-hW0];clear xd hW0 J oS oX vD;obtain⟨E,Pg⟩:=lh xs.length;rw[Pg]at zP Q;obtain rfl:E=m:=by rw[<-Pg,n7.o]
 clear Pg;refine aw ao (λu8 _=>?_);refine qL [0,1,2,3,4,5,6,7,8,9,10,11,12,13,14] ?_;refine a9 ?_;go_wp2_with fail;go_loopw [65] (λi wr=>∃k:Nat,k<=m'/\i=.int .i64 k/\Own wr r 65 (tab E (jV y xs ys Z b S W k))/\Own wr g 3 zs/\Bx wr T.1.size 28 #[.slice g zs zs.length,.slice r E E]/\aj wr K) (λi _=>m'-(intOf i).toNat);exact⟨0,aM _,rfl,by rw[show tab E (jV y xs ys Z b S W 0)=List.replicate E 0 from(mB λq _=>by simp[jV]).trans OY];exact zP.at,uu.at,aq,aF⟩;obtain⟨i,hi,rfl,hO,hS,hB,hp⟩:=hrel;by_cases bE:i<m'
 .obtain⟨by',oy,ab,rfl,oby,cy,hy⟩:=b'.get bE;obtain⟨F,hF⟩:∃F,Hx (i/b*Z+i%b*S=F):=⟨_,ae rfl⟩;(have hFW:F+W<=E:=by have:=(G.o.Cc (i:=i) (by rw[HM.o];exact bE)).2.2.2;rw[hF.o,HN.o]at this;exact this);obtain⟨L,HL⟩:∃L,Hx ((xs.drop F).take W=L):=⟨_,ae rfl⟩;(have sP:Sl w (some ⟨bx,ox+F,none⟩) W L:=by rw[<-HL.o];exact aa.part hFW);have iy:I6 ab:=cv.at hy.o;have zM:L.length=W:=sP.len.symm;have se:W<=1000000:=om;have og:Old r wr:=⟨hO.lt⟩;rcases hk with rfl|rfl
  .obtain⟨bb,hb,hbl,-⟩:=zz (l:=L) xM2;have HB:=ae hb;have Tp:bb<W:=om;have sG:=hO.cell (uo (F:=jV 1 xs ys Z b S W i) (k:=F+bb) (show F+bb<E by omega));have tY:=hO.frozen (F+bb);have K9:=ae (Pj (N:=E) hF.o (by rw[HL.o];exact hb) hy.o);clear hb hbl zM;go_wp2_with (first|(go_at_call 174;refine(pC om om hF om om om k5 hFW).mono ?_;rintro e u ⟨rfl,_⟩)|(go_at_call 175;refine(De om HB).mono ?_;rintro e u ⟨rfl,_⟩)|(go_at_call 171;refine(pi).mono ?_;rintro e u ⟨rfl,_⟩));go_roundw;have o2:=(hO.at (w':=u)).av (F+bb) (bQ (jV 1 xs ys Z b S W i (F+bb)) ab);rw[K9.o]at o2;exact⟨i+1,om,by go_num,o2,(hS.at (w':=u)).aY n1 _,⟨(Bx.ak (w:=u)).aY n2 _⟩,⟨(aP K u).setCell (p:=⟨r,F+bb,none⟩) O _⟩⟩;exact xM1
  obtain⟨y2,hy2⟩:=lh (fdiv ab (mn W));have Pm:=ae (Tq (xs:=xs) (N:=E) hF.o hy.o hy2);have iy2:I6 y2:=hy2▸(aq:I6 (fdiv ab (mn W)));clear zM;go_wp2_with (first|(go_at_call 174;refine(pC om om hF om om om k5 hFW).mono ?_;rintro e u ⟨rfl,_⟩)|(go_at_call 26;refine(Nr).mono ?_;rintro e u ⟨rfl,_⟩)|(go_at_call 176;refine(Ns).mono ?_;rintro e u ⟨rfl,_⟩));go_loopw [104] (λac wq=>∃q:Nat,q<=W/\ac=.int .i64 q/\Own wq r 65 (tab E (zO xs ys Z b S W i F y2 q))/\Own wq g 3 zs/\Bx wq T.1.size 28 #[.slice g zs zs.length,.slice r E E]/\aj wq K) (λac _=>W-(intOf ac).toNat);exact⟨0,aM _,rfl,by rw[Pk];exact hO.at,hS.at,aq,aF⟩;clear hO hS hB og;obtain⟨q,hq,rfl,hO,hS,hB,hp⟩:=hrel;by_cases adG:q<W
  .have sG:=hO.cell (uo (F:=zO xs ys Z b S W i F y2 q) (k:=F+q) (show F+q<E by omega));rw[XQ]at sG;have tY:=hO.frozen (F+q);have og:Old r wr:=⟨hO.lt⟩;go_wp2_with (go_at_call 171;refine(pi).mono ?_;rintro e u ⟨rfl,_⟩);go_roundw;have o2:=(hO.at (w':=u)).av (F+q) (bQ (jV 2 xs ys Z b S W i (F+q)) y2);rw[Pl]at o2;exact⟨q+1,om,by go_num,o2,(hS.at (w':=u)).aY n1 _,⟨(Bx.ak (w:=u)).aY n2 _⟩,⟨(aP K u).setCell (p:=⟨r,F+q,none⟩) O _⟩⟩;exact xM1
  obtain rfl:q=W:=om;rw[Pm.o]at hO;go_wp2_with fail;go_roundw;exact⟨i+1,om,by go_num,hO,hS,hB,hp⟩;exact xM1
 obtain rfl:i=m':=om;have HO:=ae hO;clear hO;have kR:Bx wr (w.1.size+1+1) 28 #[(),()]:=aq;have l1:=hS.aH kR.ak am;have l2:=HO.o.aH kR.ak am;go_wp2_with fail;have k3:=kR.ak.bP (.slice g zs zs.length) (.slice r E E);have B3:=br (aP w wr) (p:=w.1.size+1+1) om (.slice g zs zs.length) (.slice r E E);have o3:=hS.bA l1 (.slice g zs zs.length) (.slice r E E);have o4:=HO.o.bA l2 (.slice g zs zs.length) (.slice r E E);obtain⟨r0,r1⟩:=bI k3;refine aX (v:=.tuple #[.agg #[.slice g zs zs.length,.slice r E E],an]) (by simp[results,results109,go_sem,r0,r1]) rfl ?_;have xj:w<=g:=aL (ai (w:=w) (w':=K)) hg;have Df:w<=r:=aL (ai (w:=w) (w':=K)) O;rw[hX.o,HM.o,HN.o];exact⟨_,_,_,_,by rw[gq],⟨o3.rd,rfl⟩,⟨o4.rd,rfl⟩,⟨al _⟩,⟨by rw[gq];exact al _⟩,⟨λad e=>by cases e;exact xj⟩,⟨λad e=>by cases e;exact Df⟩,⟨B3⟩⟩
end
end Go.Proofs.YtmkjnlifimffkaaGreat
