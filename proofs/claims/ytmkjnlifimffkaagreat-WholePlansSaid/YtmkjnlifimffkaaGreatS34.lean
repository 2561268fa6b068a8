/- Lemmas. -/
import Derived.Test.YtmkjnlifimffkaaGreatS31
import Derived.Test.YtmkjnlifimffkaaGreatS33
namespace Go.Proofs.YtmkjnlifimffkaaGreat
open Go.RowKit Tryz
set_option linter.all false
set_option maxRecDepth 100000
set_option maxHeartbeats 0
def fE:bm:=⟨[2],[⟨⟨8,0,0,0,0,0,0,[]⟩,[0],[[2,2],[2]]⟩,⟨⟨7,0,0,0,0,0,0,[]⟩,[1,1],[]⟩,⟨⟨12,0,2,1,0,0,0,[]⟩,[2],[]⟩]⟩
def u9:List (Int×Int):=[(1,1),(1,2),(1,3),(4,0),(3,3),(5,0),(6,3),(3,2),(6,2),(3,1),(6,1)]
def BH:List TV:=[([2,2],[4294967296,8589934592,12884901888,17179869184]),([2],[0,4294967296])]
def xL:TV:=([2],[4294967296,-4294967296])
def BI:bo fE=0:=by decide+kernel
def V1:iR fE=0:=by decide+kernel
def D6:dB fE=([1,2,3],[[2],[2],[2],[1]],((3:Nat):Int)):=by decide+kernel
def V4:fE.fits:=by unfold bm.fits;decide
def Rl:fE.small:=by unfold bm.small;decide
def V5:nO fE fE.ids=0/\nP fE fE.ids=u9:=by decide+kernel
def V6:nO fE (mY fE)=0/\nP fE (mY fE)=u9:=by decide+kernel
def Mq:Jy fE fE.ids=0/\Ri fE fE.ids=u9/\Rj fE fE.ids<=100:=by decide+kernel
def abf:LQ fE=27:=by decide+kernel
def nQ:mV fE 100 u9=0/\rf fE 100 u9=(7,8,0,7):=by decide+kernel
def Zg:dF fE [1,2,3] [[2],[2],[2],[1]] 3:=by
 obtain⟨O,L,l,b,e,-,-⟩:=look_ok BI;rw[D6]at b;injection b with m j;injection j with j u;have r:3=l:=om;subst m j r;exact e
def V7{t:TV}(b:ap t.1 t.2=true)(e:∀z∈t.2,-9223372036854775808<=z/\z<=9223372036854775807):TV.ok t:=⟨b,e⟩
def Zh:mQ fE BH xL:=by
 refine⟨by decide+kernel,λt ht=>?_,rfl,V7 (by decide+kernel) (by decide+kernel),λv hv=>?_⟩;have:∀t∈BH,ap t.1 t.2=true/\∀z∈t.2,-9223372036854775808<=z/\z<=9223372036854775807:=by decide+kernel
 exact V7 (this t ht).1 (this t ht).2;have:∀v∈fE.nodes,-9223372036854775808<=v.o.k/\v.o.k<=9223372036854775807:=by decide+kernel
 exact this v hv
def Zi:fQ fE [1,2,3] [[2],[2],[2],[1]] 3 BH xL:=⟨Zg,BI,V1,Zh,D6⟩
def acJ:ra fE BH xL=2147483648:=by decide+kernel
def acK:∃g z,(lw fE BH xL).2=[g,([2],[-4294967296,z])]:=by
 refine⟨(lw fE BH xL).2.getD 0 T0,((lw fE BH xL).2.getD 1 T0).2.getD 1 0,?_⟩;decide+kernel
variable{p u w w':World}{A B:Option Addr}{c d j m n:Nat}{N:bm}{E P1 P2 P3 P4 cap:Int}
variable{Q1 Q2 Q3 Q4 R1 R2 R3 R4:Int}{V V2 V3:List (Int×Int)}
def BJ[aW w A n B m N](j:Hx N.fits)(hs:Hx N.small)(hE:Hx (LQ N=E))(b:E≠0):() 95 #[.agg #[(A,n,c),(B,m,d)],cap] w (aJ w (.tuple #[(),E])):=by
 have y:=@ay;have z:(E !=0)=true:=by simp[b]
 have l:Hx (YE N=[]):=ae (by unfold YE;rw[hE.o,ag b]);have r:Hx (YF N=[]):=ae (by unfold YF;rw[hE.o,ag b]);clear b;go_in;go_upto_region 1 with fail;refine aE (λC _ D=>?_);go_wp2_with (go_at_call 146;refine(Ql j hs hE l r).mono ?_;rintro e F ⟨G,c1,I,d1,rfl,_,_,_⟩);go_ret2;exact bB
def CO[aW w A n B m N](b:Hx N.fits)(hs:Hx N.small)(hE:Hx (LQ N=E))(e:E≠0):() 50 #[.agg #[(A,n,c),(B,m,d)],(4:Int),cap] w (tq w E []):=by
 have j:=@ay;go_in;go_upto_region 1 with fail;refine aE (λl _ r=>?_);go_wp2_with (go_at_call 95;refine mv (BJ b hs hE e) λy _=>?_);go_ret2;exact⟨none,0,rfl,ce.nil _ _,aF⟩
def Rm[aW w A n B m N](hf:Hx N.fits)(hs:Hx N.small)(M:Hx (bo N=0)){z3:Nat}
  (O:Hx (∀(u:aa) [aW u A n B m N],() 17 #[.agg #[(A,n,c),(B,m,d)],(1:Int),cap] u (p5 u 1 V P1 P2 P3 P4 0)))
  (P:Hx (∀(u:aa) [aW u A n B m N],() 17 #[.agg #[(A,n,c),(B,m,d)],(2:Int),cap] u (p5 u 2 V2 Q1 Q2 Q3 Q4 0))) (h2:decide (Q2<P2)=false)
  (Q:Hx (∀(u:aa) [aW u A n B m N],() 17 #[.agg #[(A,n,c),(B,m,d)],(3:Int),cap] u (p5 u 3 V3 R1 R2 R3 R4 0))) (h3:decide (R2<P2)=false)
  (R:Hx (∀(u:aa) [aW u A n B m N],() 17 #[.agg #[(A,n,c),(B,m,d)],(4:Int),cap] u (aJ u (Jz E)))) (h4:E≠0) (S:Hx (V2=j)) (T:Hx (V3=z3)):
  () 27 #[.agg #[(A,n,c),(B,m,d)],cap] w (p5 w 1 V P1 P2 P3 P4 0):=by
 have CB:=@ay;have FB:=@aO;have b4:(E !=0)=true:=by simp[h4]
 obtain⟨y,HY⟩:=kS V.length;clear h4;go_in;go_upto_region 1 with fail;refine dg (λu0 p0 k1 k2=>?_);go_upto_region 4 with(go_at_call 40;refine mv (j1 hf hs M) λz _=>?_);go_upto_region 5 with fail;refine aE (λu2 p2 U=>?_);obtain⟨D,G⟩:=lg z.1.size;rw[<-G]at U⊢;have X:Hx (D=z):=G;have Y:=ae U.ak;have Z:aj u2 z:=aq;clear G U;go_wp2_with fail;go_loopw [8] (λs8 wr=>∃k:Nat,1<=k/\k<=5/\s8=.int .i64 (k:Int)/\Hx (k=1->az wr D 60 #[an,(),an,an,an,an])/\Hx (k≠1->∃l c1,az wr D 60 #[(1:Int),.slice l y c1,P1,P2,P3,P4]/\ce wr z.1.size l c1 V)/\aj wr z) (λs8 _=>5-(intOf s8).toNat);exact⟨1,am,am,rfl,ae λ_=>Y.o,ae λh=>absurd rfl h,Z⟩;obtain⟨k,TQ,SB,rfl,HZ,K,hp⟩:=hrel;have:k=1\/k=2\/k=3\/k=4\/k=5:=om;rcases this with rfl|rfl|rfl|rfl|rfl
 .have F:Bx wr D 60 #[an,(),an,an,an,an]:=⟨HZ.o rfl⟩;go_upto_region 9 with(go_at_call 17;refine(O.o _).mono ?_;rintro e u5 ⟨AC,cC,rfl,L,I⟩;rw[HY.o]);refine aE (λC p6 k6=>?_);go_wp2_with fail;go_roundw;have Zj:D<wr.1.size:=F.ak.lt;refine⟨2,am,am,rfl,ae λh=>absurd h am,ae λ_=>⟨AC,cC,?_,?_⟩,mZ (by rw[X.o];exact al _)⟩;exact((((((F.ak.at (w':=C)).av 0 _).av 1 _).av 2 _).av 3 _).av 4 _).av 5 _;(exact wx ((show aU _ _ 98 2 _ _ _ _ from L).at.less (ai (w:=z) (w':=wr))) λad e=>by have h1:=L.fresh ad e;omega);simp[intOf]
 .obtain⟨l,c1,r,J⟩:=K.o am;have F:Bx wr D 60 #[(1:Int),.slice l y c1,P1,P2,P3,P4]:=⟨r⟩;have b:=ae J;go_upto_region 9 with(go_at_call 17;refine(P.o _).mono ?_;rintro e u5 ⟨AC,cC,rfl,L,I⟩;rw[S.o]);refine aE (λC p6 k6=>?_);go_wp2_with fail;go_roundw;exact⟨3,am,am,rfl,ae λh=>absurd h am,ae λ_=>⟨l,c1,F.ak.at (w':=C),b.o.at⟩,aR z C⟩;simp[intOf]
 .obtain⟨l,c1,r,J⟩:=K.o am;have F:Bx wr D 60 #[(1:Int),.slice l y c1,P1,P2,P3,P4]:=⟨r⟩;have b:=ae J;go_upto_region 9 with(go_at_call 17;refine(Q.o _).mono ?_;rintro e u5 ⟨AC,cC,rfl,L,I⟩;rw[T.o]);refine aE (λC p6 k6=>?_);go_wp2_with fail;go_roundw;exact⟨4,am,am,rfl,ae λh=>absurd h am,ae λ_=>⟨l,c1,F.ak.at (w':=C),b.o.at⟩,aR z C⟩;simp[intOf]
 .obtain⟨l,c1,r,J⟩:=K.o am;have F:Bx wr D 60 #[(1:Int),.slice l y c1,P1,P2,P3,P4]:=⟨r⟩;have b:=ae J;go_upto_region 9 with(go_at_call 17;refine mv (R.o _) λu5 I=>?_;unfold Jz);refine aE (λC p6 k6=>?_);go_wp2_with fail;go_roundw;exact⟨5,am,am,rfl,ae λh=>absurd h am,ae λ_=>⟨l,c1,F.ak.at (w':=C),b.o.at⟩,aR z C⟩;simp[intOf]
 obtain⟨l,c1,r,J⟩:=K.o am;have F:Bx wr D 60 #[(1:Int),.slice l y c1,P1,P2,P3,P4]:=⟨r⟩;have b:=ae J;have k2w:Bx wr (w.1.size+1) 60 _:=aq;go_wp2_with fail;refine aX (v:=.tuple #[.agg #[(1:Int),.slice l y c1,P1,P2,P3,P4],an]) ?_ rfl ⟨l,c1,by rw[HY.o],(show aU _ _ 98 2 _ _ _ _ from wx b λad e=>?_).less (ai (w:=w) (w':=z)),mZ (cz _)⟩;rw[cF rfl];go_simp;have h1:=b.o.fresh ad e;have h2:w.1.size+1<z:=(aq:Bx z (w.1.size+1) _ _).ak.lt;omega
variable{A2:Option Addr}{f g k:Nat}{us:List Tn}
variable{B:Nat}{gs:List Tn}
def Ts.cells(hu:Ts w A2 k us)(z:0<k):∃r,A2=some r/\∀j v,(tc us)[j]?=some v->w.cell? (r.add j)=some v:=by
 have C:us[0]?=some (us[0]'(by rw[<-hu.len];exact z)):=a5 _;obtain⟨b,o,rfl,_⟩:=hu.rd 0 _ C;refine⟨_,rfl,λj v l=>?_⟩;have D:=(a8.1 l).1;rw[dX]at D;have hq:j/2<us.length:=om;have u:us[j/2]?=some (us[j/2]'hq):=a5 _;obtain⟨G,I,e,q⟩:=hu.rd _ _ u;injection e with e;injection e with E F;subst E F;obtain⟨t0,y⟩:=Ga u;rw[cn];rcases ME j with hm|hm;have m:j/2*2=j:=om;rw[m]at t0;rw[t0]at l;cases l;have:=q.c0;rw[m]at this;exact this;have m:j/2*2+1=j:=om;rw[m]at y;rw[y]at l;cases l;have:=q.c1;rw[lM,m]at this;exact this
def JA(h:aU w B 28 2 (some ⟨g,0,none⟩) c n (tc gs))(G:gs=n)(hu:Ts w A2 k us)(I:0<k)(O:f+k<=n):
  ∃j X,A2=some j/\(∀m l dc sc,k<=l->(Builtin.copy_ #[23,23] m #[.slice (some ⟨g,f*2,none⟩) l dc,.slice (some j) k sc]).run prog w=.ok (goInt (k:Int)) (w.setRow g X))/\aU (w.setRow g X) B 28 2 (some ⟨g,0,none⟩) c n (tc (gs.take f++us++gs.drop (f+k))):=by
 obtain⟨j,rfl,r⟩:=hu.cells I;obtain⟨cur,hg,J,K,hm,z,ht,C⟩:=h.whole;have u:us=k:=hu.len.symm;have e:(tc us).length=k*2:=by rw[dX,u]
 refine⟨j,(cur.toList.take (f*2)++tc us++cur.toList.drop (f*2+(tc us).length)).toArray,rfl,λm l dc sc L=>?_,?_⟩;have:=fI (P:=prog) (w:=w) (E:=28) (k:=2) (g:=g) (o:=f*2) (cs:=tc us) (cur:=cur) 23 23 m l dc j k sc ao ao hg (by rw[kN om,e]) r (by rw[e,z];omega) (Yh us);rw[kN om]at this;exact this;have M:cur.toList=c*2:=by simpa using z
 refine .mk' J (bV hg _) K hm (by simp[e];omega) ?_;have y:tc (gs.take f++us++gs.drop (f+k))=(tc gs).take (f*2)++tc us++(tc gs).drop ((f+k)*2):=by (have b:∀q,q<=gs.length->tc (gs.take q)=(tc gs).take (q*2)/\tc (gs.drop q)=(tc gs).drop (q*2):=λq hq=>by (have D:tc gs=tc (gs.take q)++tc (gs.drop q):=by rw[<-mL,dC]);(have F:(tc (gs.take q)).length=q*2:=by rw[dX,bO,dQ hq]);exact⟨by rw[D,gE F],by rw[D,o7 F]⟩);rw[mL,mL,(b f om).1,(b (f+k) om).2]
 rw[y,<-ht,e];show List.take (n*2) _=_;rw[fd,dQ om,rC,bY (by simp[e];omega)];congr 1;rw[tI];have N:(f+k)*2=f*2+k*2:=om;rw[N];congr 1;simp[e];omega
end Go.Proofs.YtmkjnlifimffkaaGreat
