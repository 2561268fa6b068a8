/- Lemmas. -/
import Derived.Test.YtmkjnlifimffkaaGreatS32
namespace Go.Proofs.YtmkjnlifimffkaaGreat
open Go.RowKit Tryz
set_option linter.all false
set_option maxRecDepth 100000
set_option maxHeartbeats 0
variable{Γ:Prop}
attribute[local irreducible]Calls
variable{p u w w':World}{A B:Option Addr}{c d g j k m n:Nat}{qs:List (Int×Int)}{N:bm}{E:Int}
def N2(N:bm)(ps:List (Int×Int)):Int:=if iR N=0 then(gy (dt N 1073741824) (l6 N.nodes.length) ps).1 else iR N
def N3(N:bm)(ps:List (Int×Int)):Int:=if N2 N ps=0 then(gy (dt N 1073741824) (l6 N.nodes.length) ps).2.kb else 0
variable{K:Option Addr}{ps:List (Int×Int)}{V:Int}
def Jx[a:aW w A n B m N](hf:Hx N.fits)(hs:Hx N.small)[i:Is w K k ps](hk:k<=65536)(HE:Hx (N2 N ps=E))(HV:Hx (N3 N ps=V)):
  () 195 #[.agg #[(A,n,c),(B,m,d)],(K,k,g)] w (aJ w (.tuple #[V,E])):=by
 obtain⟨CB,CP,FB⟩:=ia;have HM:Hx (m=N.nodes):=a.len;have hE:=HE.o;have hV:=HV.o;rw[N3,hE]at hV;rw[N2]at hE;by_cases c1:iR N=0;rotate_left
 .rw[ag c1]at hE;have D:=ae hE;(have h0:E≠0:=by rw[<-hE];exact c1);(have b0:(E !=0)=true:=by simp[h0]);rw[ag h0]at hV;subst hV;clear hE c1;go_in;go_upto_region 1 with fail;refine aE (λu0 _ kn=>?_);go_wp2_with (go_at_call 34;refine mv (A6 hf hs D h0 1073741824) λu1 _=>?_);go_ret2;exact bB
 rw[ah c1]at hE;have D:=ae c1;obtain⟨O,L,l,P,Q,R,-⟩:=look_ok (mU c1);obtain⟨o1,o2,o3,o4⟩:=uV c1 P Q;obtain⟨C,S⟩:=lh (dt N 1073741824);have y:C.cap=1073741824:=by rw[<-S];rfl
 have T:C.words=m+1:=by rw[<-S,HM.o];exact o2
 rw[S,<-HM.o]at hE hV;obtain⟨s0,r⟩:=lh (l6 m);have z:A7 s0 0:=by rw[<-r];exact NP
 rw[r]at hE hV;have HC:=ae S;have v8:=ae r;have U:=ae y;have HWL:Hx (C.words=m+1):=T;have zF:Hx (k=ps):=i.len;have F:=ae hE;have G:=ae hV;have X:=ae z;clear P Q R o1 o2 o3 o4 c1 r y T S HE HV hE hV z;go_in;go_upto_region 1 with fail;refine aE (λu0 _ kn=>?_);go_upto_region 2 with(go_at_call 34;refine(NO hf hs D 1073741824).mono ?_;rintro e u1 ⟨p,a,ss,rfl,pp,Z,b,YD⟩);rw[HC.o]at Z b;rw[v8.o]at b;have pu:aj u1 p:=b.o.prev;go_wp2_with fail;go_loopw [21] (λt wr=>∃(j:Nat) (s:jv),j<=k/\t=.int .i64 j/\Hx (ec p wr a m C s)/\Hx (A7 s j)/\Hx (gy C s (ps.drop j)=gy C s0 ps)) (λt _=>k-(intOf t).toNat);exact⟨0,s0,aM _,rfl,b,X,ae rfl⟩;clear b X pu;obtain⟨j,s,hj,rfl,b,HB,HG⟩:=hrel;have pw:aj wr p:=b.o.prev;by_cases bE:j<k
 .obtain⟨b1,o1,kd,id,rfl,pq,v1,v2,e1⟩:=i.get bE;(have Y:ps.drop j=(kd,id)::ps.drop (j+1):=by obtain⟨h1,h2⟩:=a8.1 e1.o;rw[ed h1,h2]);obtain⟨de,I⟩:=lh (lG C s kd id);have hg:=HG.o;rw[Y,gy,I]at hg;have J:=ae I;have M:Hx (-144115188075855872<=s.now/\s.now<=144115188075855872/\0<=s.done/\s.done<=1000000):=ae (by obtain⟨x1,x2,x3,x4⟩:=HB.o;omega);clear I Y;by_cases d0:de=0
  .subst d0;rw[ah rfl]at hg;have m7:=ae hg;have Fj:=ae (A8 Z HB J (by rw[U.o];decide));obtain⟨q1,q2,q3,q4⟩:=r4 J;have HQ1:=ae q1;have Uy:Hx (id<=(m:Int)):=ae (by rw[HWL.o]at q2;omega);have Uz:=ae q3;have HQ4:=ae q4;clear hg q1 q2 q3 q4;go_wp2_with (go_at_call 35;refine mv (AY Z b.o.at HQ1 Uy Uz M.o.2.2.1 M.o.2.2.2 M.o.1 M.o.2.1 HQ4 (by rw[U.o];decide)) λu5 wg=>?_);go_roundw;exact⟨j+1,_,om,by go_num,ae wg,Fj,m7⟩;simp[intOf];omega
  rw[ag d0]at hg;have hE:=F.o;have hV:=G.o;rw[<-hg]at hE;subst hE;rw[ag d0]at hV;subst hV;(have b0:(de !=0)=true:=by simp[d0]);have HD0:=ae d0;clear hg d0;go_wp2_with (go_at_call 35;refine mv (DK Z b.o.at J HD0 M.o.2.2.1 M.o.1 M.o.2.1) λu5 _=>?_);go_ret2;exact bB
 obtain rfl:j=k:=om;have hg:=HG.o;rw[zF.o,tF,gy]at hg;have hE:=F.o;have hV:=G.o;rw[<-hg]at hE hV;dsimp only at hE hV;subst hE;rw[ah rfl]at hV;subst hV;clear hg F G;go_wp2_with (go_at_call 234;refine mv (UC b) λu5 _=>?_);go_ret2;exact bB
variable{AK:Option Addr}{R:Nat}{ks:List Int}
structure GrA where
 A:Option Addr
 n:Nat
 c:Nat
 B:Option Addr
 d:Nat
 AW:Option Addr
 cW:Nat
structure VX(p w:World)(g:Nat)(a:GrA)(m:Nat)(W:List Int)(AK:Option Addr)(cK:Nat)(ks:List Int):Prop where
 prev:aj w p
 bx:az w g 240 #[.slice a.A a.n a.c,.slice a.B m a.d,.slice a.AW (m+1) a.cW,.slice AK ks cK]
 wd:aB w p.1.size 3 a.AW a.cW W
 kp:aB w p.1.size 3 AK cK ks
 wl:W=m+1
 hg:p<=g
 ne:∀x y,a.AW=some x->AK=some y->x.block≠y.block
variable{W C:List Int}{T:Int}{a:GrA}
def VX.facts(h:VX p w g a m W AK R ks):aj w p/\Bx w g 240 #[.slice a.A a.n a.c,.slice a.B m a.d,.slice a.AW (m+1) a.cW,.slice AK ks R]/\Sl w a.AW (m+1) W/\Sl w AK ks ks:=
 ⟨h.prev,⟨h.bx⟩,⟨h.wd.rd,h.wl.symm⟩,⟨h.kp.rd,rfl⟩⟩
def abd(w:aa)(A B:bF)(n m c d:Nat)(W ks:au)(e:Ending)(w':aa):Prop:=
 ∃g AW cW AK R,e=.returned (.tuple #[.pointer (some ⟨g,0,none⟩),an])/\Hx (VX w w' g ⟨A,n,c,B,d,AW,cW⟩ m W AK R ks)
def Rh[a:aW w A n B m N](X:Hx N.fits)(hs:Hx N.small)(b:Hx (iR N=0))(z:Hx (ly N=(W,C,T))):() 143 #[.agg #[(A,n,c),(B,m,d)]] w (abd w A B n m c d W N.ids):=by
 have CB:=@ay;have FB:=@aO;have Y:Hx (m=N.nodes):=a.len;have P:=ae (mU b);obtain⟨O,L,l,D,F,G,-⟩:=look_ok (mU b);obtain⟨o1,Q,S,o4⟩:=uV b D F;rw[z.o]at o1 Q S;have I:Hx (W=m+1):=ae (by rw[Y.o];exact Q);have U:Hx (C=m+1):=ae (by rw[Y.o];exact S);clear o1 Q S o4 D F G;go_in;go_upto_region 1 with fail;refine aE (λu0 _ kn=>?_);go_upto_region 5 with(first|(go_at_call 9;refine(rZ X hs b z I U).mono ?_;rintro e u ⟨AW,cW,AC,cC,rfl,sW,sC,Z,oC,pP⟩)|(go_at_call 40;refine(j1 X hs P).mono ?_;rintro e u ⟨rfl,_⟩));refine aE (λJ _ kp=>?_);go_upto_region 7 with fail;refine ab J ao (λr _=>?_);refine qL [0,1,2,3] ?_;refine aK 4 λK hK=>?_;obtain⟨uk,rfl⟩:=lg r;go_simp;refine(NN hs).mono ?_;rintro e r ⟨AK,R,rfl,oK,pK⟩;dsimp only;refine aG hK ?_;refine ff 5 ?_;refine aK 6 λK hK=>?_;go_simp;obtain⟨gS,j⟩:=lh ((World.heap r).size);have V:(World.heap J).size<=gS:=by rw[<-j];exact ai
 refine aG hK<|bc (λr _ M=>?_);rw[j]at M⊢;clear j;refine qL [7,8] ?_;refine a9 ?_;go_wp2_with fail;go_ret2;exact⟨gS,AW,cW,AK,R,rfl,ae ⟨aF,M.ak,(Z.at (w':=r)).more ai,(oK.at (w':=r)).more (ai (w:=w)),I,aL (ai (w:=w) (w':=J)) V,λx y hx hy=>by have h1:=Z.row.lt x hx;have h2:=oK.fresh y hy;have h3:=aL (ai (w:=u) (w':=J)) (ai (w:=J) (w':=uk));omega⟩⟩
def Jy(N:bm)(ks:au):Int:=if nO N ks=0 then N2 N (nP N ks)else nO N ks
def Ri(N:bm)(ks:au):List (Int×Int):=if Jy N ks=0 then nP N ks else[]
def Rj(N:bm)(ks:au):Int:=if Jy N ks=0 then N3 N (nP N ks)else 0
def abe(w:aa)(V:List (Int×Int))(T E:Int)(e:Ending)(w':aa):Prop:=
 ∃A c,e=.returned (.tuple #[.slice A V c,T,E])/\ce w' w.1.size A c V/\aj w' w
def xh0(h:Γ:=by go_ret3;exact⟨none,0,rfl,ce.nil _ _,aF⟩):=h
def VY[aW p a.A a.n a.B m N](P:Hx N.fits)(hs:Hx N.small)(h:VX p w g a m W AK R ks)(X:ks.length<=1000000){V:List (Int×Int)}(Y:Hx (Jy N ks=E))(Z:Hx (Ri N ks=V))(HT:Hx (Rj N ks=T)):
  () 144 #[.pointer g] w (abe w V T E):=by
 have CB:=@ay;obtain⟨p9,kb,sw,sk⟩:=h.facts;have hE:=Y.o;have j:=Z.o;have b:=HT.o;rw[Ri,hE]at j;rw[Rj,hE]at b;rw[Jy]at hE;obtain⟨le,l⟩:=lh (nO N ks);obtain⟨L,z⟩:=lh (nP N ks);obtain⟨y,Q⟩:=lh L.length;have D:y<=65536:=by rw[<-Q,<-z];exact Rg
 obtain⟨kn,F⟩:=lh ks.length;rw[F]at kb sk X;have S:=ae l;have U:=ae z;have G:=ae Q;rw[l,z]at hE;rw[z]at j b;clear l z Q F Y Z HT h;go_in;go_upto_region 1 with fail;refine ab w ao (λux _=>?_);refine qL [0,1,2,3,4,5,6,7] ?_;refine aK 8 λK hK=>?_;go_simp;refine(tu P hs X S U G).mono ?_;rintro e ux ⟨AC,cC,rfl,iC,oC,pC⟩;dsimp only;refine aG hK ?_;refine qL [9,10,11,12,13] ?_;refine a9 ?_;by_cases I:le=0
 .subst I;rw[ah rfl]at hE;have J:=ae hE;obtain⟨pv,r⟩:=lh (N3 N L);rw[r]at b;have M:=ae r;clear hE r;by_cases O:E=0
  .subst O;rw[ah rfl]at j b;subst j b;go_wp2_with (go_at_call 195;refine mv (Jx P hs D J M) λu5 _=>?_);go_ret3;exact⟨AC,cC,by rw[G.o];rfl,(show aU _ _ 98 2 _ _ _ _ from oC).at.less (ai (w:=w)),aF⟩
  rw[ag O]at j b;subst j b;(have b0:(E !=0)=true:=by simp[O]);clear O;go_wp2_with (go_at_call 195;refine mv (Jx P hs D J M) λu5 _=>?_);exact xh0
 rw[ag I]at hE;subst hE;rw[ag I]at j b;subst j b;have b0:(le !=0)=true:=by simp[I]
 clear I;go_wp2_with fail;exact xh0
variable{cap:Int}
def Ze(w:aa)(V:List (Int×Int))(E:Int)(e:Ending)(w':aa):Prop:=
 ∃K A c,e=.returned (.tuple #[K,.slice A V c,E])/\ce w' w.1.size A c V/\aj w' w
variable{V:List (Int×Int)}
def Zf[aW w A n B m N](G:Hx N.fits)(hs:Hx N.small)(j:Hx (iR N=0))(l:Hx (Jy N N.ids=0))(r:Hx (Ri N N.ids=V))(y:Hx (Rj N N.ids=T))(I:T<=cap):
  () 94 #[.agg #[(A,n,c),(B,m,d)],cap] w (Ze w V 0):=by
 have Q:=@ay;have z:N.ids.length<=1000000:=by (have S:N.ids.length=N.nodes.length:=by simp[bm.ids]);have:=hs.o.1;omega
 obtain⟨⟨W,C,U⟩,b⟩:=lh (ly N);have D:=ae b;have X:decide (T<=cap)=true:=by simpa using I
 clear b I;go_in;go_upto_region 1 with fail;refine aE (λJ _ Y=>?_);go_wp2_with (go_at_call 143;refine(Rh G hs j D).mono ?_;rintro e Z ⟨g,AW,cW,AK,R,rfl,E⟩;obtain⟨p1,F,-,-⟩:=E.o.facts);go_loopw [] (λwr=>Hx (VX J wr g ⟨A,n,c,B,d,AW,cW⟩ m W AK R N.ids)) (λ_=>0);exact E;clear E F p1;obtain⟨p2,K,-,L⟩:=hrel.o.facts;go_wp2_with (go_at_call 144;refine(VY (N:=N) G hs hrel.o z l r y).mono ?_;rintro e u5 ⟨M,O,rfl,P,p5⟩);go_ret3;exact⟨_,M,O,rfl,(show aU _ _ 98 2 _ _ _ _ from P).at.less (ai (w:=w)),aF⟩
variable{cK:Nat}{pl:Int}
variable{y:Nat}{R:List Int}
def Rk[aW w A n B m N](j:Hx N.fits)(hs:Hx N.small)(b:Hx (bo N=0))(hm:m<=12)(hr:Hx (mY N=R))(l:Hx (R=y)):
  () 93 #[.agg #[.slice A n c,(B,m,d)]] w λe w'=>∃A c,e=.returned (.tuple #[.slice A y c,an])/\Sl w' A y R/\aj w' w:=by
 obtain rfl:=hr.o;obtain rfl:=l.o;exact(VV j hs b hm).mono λe w' ⟨A,c,r,z,C⟩=>⟨A,c,r,⟨z.rd,rfl⟩,C⟩
def VZ[aW w A n B m N](hs:Hx N.small)(b:Hx (N.ids=m)):() 12 #[.agg #[.slice A n c,(B,m,d)]] w λe w'=>∃A c,e=.returned (.slice A m c)/\Sl w' A m N.ids/\aj w' w:=
 (NN hs).mono λe w' ⟨A,c,j,l,r⟩=>⟨A,c,by rw[j,b.o],⟨l.rd,b.o.symm⟩,r⟩
def Mn[a:aW w A n B m N](r:Hx N.fits)(hs:Hx N.small)(hm:m<=12)(hE:Hx (nO N N.ids=E))(hV:Hx (nP N N.ids=V)):
  () 50 #[.agg #[(A,n,c),(B,m,d)],(1:Int),cap] w (tq w E V):=by
 have F:=@ay;have z:Hx (m=N.nodes):=a.len;have b:Hx (N.ids=m):=ae (by rw[z.o];simp[bm.ids]);obtain⟨y,j⟩:=kS V.length;go_in;go_upto_region 1 with fail;refine aE (λC _ G=>?_);go_upto_region 3 with fail;refine ab C ao (λl _=>?_);refine qL [0,1] ?_;refine aK 2 λK hK=>?_;go_simp;refine(VZ hs b).mono ?_;rintro e l ⟨AK,cK,rfl,I,_⟩;dsimp only;refine aG hK<|aK 3 λK hK=>?_;go_simp;refine(tu r hs om hE hV j).mono ?_;rintro e l ⟨AC,cC,rfl,J,D,_⟩;dsimp only;refine aG hK ?_;refine qL [4,5,6,7] ?_;refine a9 ?_;go_wp2_with fail;go_ret2;exact⟨AC,cC,by rw[j.o];rfl,(show aU _ _ 98 2 _ _ _ _ from D).at.less (ai (w:=w)),aF⟩
def Mo[a:aW w A n B m N](F:Hx N.fits)(hs:Hx N.small)(b:Hx (bo N=0))(hm:m<=12)(hE:Hx (nO N (mY N)=E))(hV:Hx (nP N (mY N)=V)):
  () 50 #[.agg #[(A,n,c),(B,m,d)],(2:Int),cap] w (tq w E V):=by
 have T:=@ay;have K:Hx (m=N.nodes):=a.len;obtain⟨y,G⟩:=lh V.length;have I:=ae G;obtain⟨R,r⟩:=lh (mY N);obtain⟨z,C⟩:=lh R.length;have D:z<=1000000:=by obtain⟨O,L,l,M,j,J,-⟩:=look_ok b;(have:(mY N).length<=12:=by rw[mY,j.ord];exact Mm (by rw[j.sB,<-K.o];exact hm));rw[r,C]at this;omega
 have P:=ae r;have Q:=ae C;rw[r]at hE hV;clear G r C;go_in;go_upto_region 1 with fail;refine aE (λU _ X=>?_);go_wp2_with (first|(go_at_call 93;refine(Rk F hs b hm P Q).mono ?_;rintro e Y ⟨AK,cK,rfl,Z,_⟩)|(go_at_call 32;refine(tu F hs D hE hV I).mono ?_;rintro e u2 ⟨AC,cC,rfl,iC,S,_⟩));go_ret2;exact⟨AC,cC,by rw[I.o];rfl,(show aU _ _ 98 2 _ _ _ _ from S).at.less (ai (w:=w)),aF⟩
def V0[aW w A n B m N](z:Hx N.fits)(hs:Hx N.small)(b:Hx (iR N=0))(j:Hx (Jy N N.ids=0))(l:Hx (Ri N N.ids=V))(r:Hx (Rj N N.ids<=cap))(C:Hx (V=y)):
  () 94 #[.agg #[.slice A n c,(B,m,d)],cap] w λe w'=>∃K A c,e=.returned (.tuple #[K,.slice A y c,an])/\ce w' w.1.size A c V/\aj w' w:=by
 obtain rfl:=C.o;exact Zf z hs b j l rfl r
def Mp[aW w A n B m N](C:Hx N.fits)(hs:Hx N.small)(b:Hx (iR N=0))(j:Hx (Jy N N.ids=0))(l:Hx (Ri N N.ids=V))(r:Hx (Rj N N.ids<=cap)):
  () 50 #[.agg #[(A,n,c),(B,m,d)],(3:Int),cap] w (tq w 0 V):=by
 have F:=@ay;obtain⟨y,z⟩:=kS V.length;go_in;go_upto_region 1 with fail;refine aE (λG _ I=>?_);go_wp2_with (go_at_call 94;refine(V0 C hs b j l r z).mono ?_;rintro e J ⟨K,AC,cC,rfl,D,_⟩);go_ret2;exact⟨AC,cC,by rw[z.o];rfl,(show aU _ _ 98 2 _ _ _ _ from D).at.less (ai (w:=w)),aF⟩
variable{R b:Nat}{P1 P2 P3 P4:Int}{v:Value}
def p5(w:aa)(pl:Int)(V:List (Int×Int))(b j l m E:Int)(e:Ending)(w':aa):Prop:=
 ∃A c,e=.returned (.tuple #[.agg #[pl,.slice A V c,b,j,l,m],E])/\ce w' w.1.size A c V/\aj w' w
variable{LE:Int}{LV:List (Int×Int)}
theorem mZ{x y z s t:Value}{g:Nat}[l:aT w u](hg:w<=g):aj ((((((u.setCell (g,0) x).setCell (g,1) y).setCell (g,2) z).setCell (g,3) v).setCell (g,4) s).setCell (g,5) t) w:=
 ⟨(((((l.st.setCell (p:=⟨g,0,none⟩) hg _).setCell (p:=⟨g,1,none⟩) hg _).setCell (p:=⟨g,2,none⟩) hg _).setCell (p:=⟨g,3,none⟩) hg _).setCell (p:=⟨g,4,none⟩) hg _).setCell (p:=⟨g,5,none⟩) hg _⟩
def wx{x y z s t:Value}{g:Nat}(h:ce u b A c V)(hp:∀e,A=some e->e.block≠g):ce ((((((u.setCell (g,0) x).setCell (g,1) y).setCell (g,2) z).setCell (g,3) v).setCell (g,4) s).setCell (g,5) t) b A c V:=
 (((((h.eU (q:=⟨g,0,none⟩) hp _).eU (q:=⟨g,1,none⟩) hp _).eU (q:=⟨g,2,none⟩) hp _).eU (q:=⟨g,3,none⟩) hp _).eU (q:=⟨g,4,none⟩) hp _).eU (q:=⟨g,5,none⟩) hp _
def BG[aW w A n B m N](L:Hx N.fits)(hs:Hx N.small)(P:cap<=144115188075855872)
  (b:Hx (∀(u:aa) [aW u A n B m N],() 50 #[.agg #[(A,n,c),(B,m,d)],pl,cap] u (tq u LE LV))) (M:LV.length<=65536)
  (z:Hx (bo N=0)) (j:Hx (LE=0)) (C:Hx (mV N cap LV=0)) (D:Hx (rf N cap LV=(P1,P2,P3,P4))):
  () 17 #[.agg #[(A,n,c),(B,m,d)],pl,cap] w (p5 w pl LV P1 P2 P3 P4 0):=by
 have S:=@ay;have T:=@aO;obtain rfl:=j.o;obtain⟨y,F⟩:=lh LV.length;have G:=ae F;rw[F]at M;have I:=z;clear F j;go_in;go_upto_region 1 with fail;refine dg (λJ _ U Q=>?_);go_upto_region 8 with(first|(go_at_call 40;refine(j1 L hs I).mono ?_;rintro e u ⟨rfl,_⟩)|(go_at_call 50;refine(b.o _).mono ?_;rintro e O ⟨AC,cC,rfl,l,_⟩;rw[G.o];obtain⟨l,-⟩:ce O J.1.size AC cC LV/\True:=⟨(show aU _ _ 98 2 _ _ _ _ from l).less (ai (w:=J)),bX⟩;obtain⟨X,-⟩:Is O AC y LV/\True:=⟨⟨l.rd,G.o.symm⟩,bX⟩)|(go_at_call 14;refine mv (VW L hs M P C D) λY _=>?_));refine aE (λZ _ ks=>?_);go_wp2_with fail;have K:∀r,AC=some r->r.block≠w.1.size+1:=λr e=>by have h1:=l.fresh r e;have h2:=Q.ak.lt;omega
 refine aX (v:=.tuple #[.agg #[pl,(AC,y,cC),P1,P2,P3,P4],an]) ?_ rfl ⟨AC,cC,by rw[G.o],wx ((show aU _ _ 98 2 _ _ _ _ from l).at.less (ai (w:=w) (w':=J))) K,mZ (cz _)⟩;rw[cF rfl];go_simp
def Jz(E:Int):Value:=.tuple #[.agg #[an,(),an,an,an,an],E]
def WL[aW w A n B m N](l:Hx N.fits)(hs:Hx N.small)(b:Hx (bo N=E))(j:E≠0):
  () 17 #[.agg #[(A,n,c),(B,m,d)],pl,cap] w (aJ w (Jz E)):=by
 have r:=@ay;have z:=@aO;have C:(E !=0)=true:=by simp[j]
 clear j;go_in;go_upto_region 1 with fail;refine dg (λD _ F G=>?_);go_wp2_with (go_at_call 40;refine(j1 l hs b).mono ?_;rintro e u ⟨rfl,_⟩);refine aX (v:=.tuple #[.agg #[an,(),an,an,an,an],E]) ?_ rfl ⟨rfl,mZ (cz _)⟩;rw[cF rfl];go_simp
def GS[aW w A n B m N](r:Hx N.fits)(hs:Hx N.small)
  (b:Hx (∀(u:aa) [aW u A n B m N],() 50 #[.agg #[(A,n,c),(B,m,d)],pl,cap] u (tq u LE LV)))
  (j:Hx (bo N=0)) (l:LE≠0):
  () 17 #[.agg #[(A,n,c),(B,m,d)],pl,cap] w (aJ w (Jz LE)):=by
 have z:=@ay;have C:=@aO;have D:(LE !=0)=true:=by simp[l]
 clear l;go_in;go_upto_region 1 with fail;refine dg (λF _ G I=>?_);go_wp2_with (first|(go_at_call 40;refine(j1 r hs j).mono ?_;rintro e u ⟨rfl,_⟩)|(go_at_call 50;refine(b.o _).mono ?_;rintro e J ⟨AC,cC,rfl,K,_⟩));refine aX (v:=.tuple #[.agg #[an,(),an,an,an,an],LE]) ?_ rfl ⟨rfl,mZ (cz _)⟩;rw[cF rfl];go_simp
end Go.Proofs.YtmkjnlifimffkaaGreat
