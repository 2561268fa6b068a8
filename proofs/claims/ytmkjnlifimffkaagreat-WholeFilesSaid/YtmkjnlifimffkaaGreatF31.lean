/- Lemmas. -/
import Derived.Test.YtmkjnlifimffkaaGreatF28
import Derived.Test.YtmkjnlifimffkaaGreatF30
namespace Go.Proofs.YtmkjnlifimffkaaGreat
open Go.RowKit Tryz
set_option linter.all false
set_option maxRecDepth 100000
set_option maxHeartbeats 0
section
set_option linter.unusedVariables false
def fq:aU:=⟨[2],[⟨⟨8,0,0,0,0,0,0,[]⟩,[0],[[2,2],[2]]⟩,⟨⟨7,0,0,0,0,0,0,[]⟩,[1,1],[]⟩,⟨⟨12,0,2,1,0,0,0,[]⟩,[2],[]⟩]⟩
def s6:List (Int×Int):=[(1,1),(1,2),(1,3),(4,0),(3,3),(5,0),(6,3),(3,2),(6,2),(3,1),(6,1)]
def ze:List TV:=[([2,2],[4294967296,8589934592,12884901888,17179869184]),([2],[0,4294967296])]
def vF:TV:=([2],[4294967296,-4294967296])
def zf:a6 fq=0:=by decide+kernel
def aal:hB fq=0:=by decide+kernel
def BK:dh fq=([1,2,3],[[2],[2],[2],[1]],((3:Nat):Int)):=by decide+kernel
def S6:fq.fits:=by unfold aU.fits;decide
def OG:fq.small:=by unfold aU.small;decide
def S7:kc fq fq.ids=0/\kg fq fq.ids=s6:=by decide+kernel
def S8:kc fq (jo fq)=0/\kg fq (jo fq)=s6:=by decide+kernel
def S9:BJ fq 100=0/\uV fq 100=s6:=by decide+kernel
def aam:yj fq=27:=by decide+kernel
def mj:j9 fq 100 s6=0/\oO fq 100 s6=(7,8,0,7):=by decide+kernel
def Wi:db fq [1,2,3] [[2],[2],[2],[1]] 3:=by
 obtain⟨O,L,l,b,e,-,-⟩:=look_ok zf;rw[BK]at b;injection b with m j
 injection j with j u
 have r:3=l:=om;subst m j r;exact e
def Ta{t:TV}(b:aJ t.1 t.2=true)(e:∀z∈t.2,-9223372036854775808<=z/\z<=9223372036854775807):TV.ok t:=⟨b,e⟩
def Wj:la fq ze vF:=by
 refine⟨by decide+kernel,λt ht=>?_,rfl,Ta (by decide+kernel) (by decide+kernel),λv hv=>?_,λv hv=>?_⟩
 .have:∀t∈ze,aJ t.1 t.2=true/\∀z∈t.2,-9223372036854775808<=z/\z<=9223372036854775807:=by decide+kernel
  exact Ta (this t ht).1 (this t ht).2
 .have:∀v∈fq.nodes,-9223372036854775808<=v.o.k/\v.o.k<=9223372036854775807:=by decide+kernel
  exact this v hv
 .have:∀v∈fq.nodes,v.o.kd=7\/v.o.kd=8\/v.o.kd=12:=by decide+kernel
  exact this v hv
def Wk:gn fq [1,2,3] [[2],[2],[2],[1]] 3 ze vF:=⟨Wi,zf,aal,Wj,BK⟩
def abD:uJ fq ze vF=2147483648:=by decide+kernel
def abE:∃g z,(sP fq ze vF).2=[g,([2],[-4294967296,z])]:=by
 refine⟨(sP fq ze vF).2.getD 0 T0,((sP fq ze vF).2.getD 1 T0).2.getD 1 0,?_⟩;decide+kernel
end
variable{p u w':World}{A B:Option Addr}{c d j m:Nat}{E P1 P2 P3 P4 cap:Int}
section
variable{w:World}{n:Nat}{N:aU}{Q1 Q2 Q3 Q4 R1 R2 R3 R4:Int}{V V2 V3:List (Int×Int)}
def zh[aQ w A n B m N](j:Hx N.fits)(hs:Hx N.small)(hE:Hx (yj N=E))(b:E≠0):() 95 #[.agg #[(A,n,c),(B,m,d)],cap] w (aD w (.tuple #[(),E])):=by
 have y:=@aa;have z:(E !=0)=true:=by simp[b]
 have l:Hx (NI N=[]):=ae (by unfold NI;rw[hE.o,ag b]);have r:Hx (I8 N=[]):=ae (by unfold I8;rw[hE.o,ag b]);clear b
 go_in
 go_upto_region 1 with fail
 refine aw (λC _ D=>?_)
 go_wp2_with (go_at_call 146;refine(qe j hs hE l r).mono ?_;rintro e F ⟨G,c1,I,d1,rfl,_,_,_⟩)
 go_ret2;exact bq
def Au[aQ w A n B m N](b:Hx N.fits)(hs:Hx N.small)(hE:Hx (yj N=E))(e:E≠0):() 50 #[.agg #[(A,n,c),(B,m,d)],(4:Int),cap] w (iN w E []):=by
 have j:=@aa
 go_in
 go_upto_region 1 with fail
 refine aw (λl _ r=>?_)
 go_wp2_with (go_at_call 95;refine mv (zh b hs hE e) λy _=>?_)
 go_ret2;exact⟨none,0,rfl,bM.nil _ _,aK⟩
def OH[aQ w A n B m N](hf:Hx N.fits)(hs:Hx N.small)(M:Hx (a6 N=0)){z3:Nat}
  (O:Hx (∀(u:ay) [aQ u A n B m N],() 17 #[.agg #[(A,n,c),(B,m,d)],(1:Int),cap] u (lw u 1 V P1 P2 P3 P4 0)))
  (P:Hx (∀(u:ay) [aQ u A n B m N],() 17 #[.agg #[(A,n,c),(B,m,d)],(2:Int),cap] u (lw u 2 V2 Q1 Q2 Q3 Q4 0))) (h2:decide (Q2<P2)=false)
  (Q:Hx (∀(u:ay) [aQ u A n B m N],() 17 #[.agg #[(A,n,c),(B,m,d)],(3:Int),cap] u (lw u 3 V3 R1 R2 R3 R4 0))) (h3:decide (R2<P2)=false)
  (R:Hx (∀(u:ay) [aQ u A n B m N],() 17 #[.agg #[(A,n,c),(B,m,d)],(4:Int),cap] u (aD u (zd E)))) (h4:E≠0) (S:Hx (V2=j)) (T:Hx (V3=z3)):
  () 27 #[.agg #[(A,n,c),(B,m,d)],cap] w (lw w 1 V P1 P2 P3 P4 0):=by
 have CB:=@aa;have FB:=@aP;have b4:(E !=0)=true:=by simp[h4]
 obtain⟨y,HY⟩:=lC V.length;clear h4
 go_in
 go_upto_region 1 with fail
 refine cT (λu0 p0 k1 k2=>?_)
 go_upto_region 4 with(go_at_call 40;refine mv (f0 hf hs M) λz _=>?_)
 go_upto_region 5 with fail
 refine aw (λu2 p2 k3=>?_);obtain⟨D,G⟩:=lg z.1.size;rw[<-G]at k3⊢;have U:Hx (D=z):=G;have X:=ae k3.al;have Y:aj u2 z:=ao;clear G k3
 go_wp2_with fail
 go_loopw [8] (λZ wr=>∃k:Nat,1<=k/\k<=5/\Z=.int .i64 (k:Int)/\Hx (k=1->aB wr D 60 #[au,(),au,au,au,au])/\Hx (k≠1->∃l c1,aB wr D 60 #[(1:Int),.slice l y c1,P1,P2,P3,P4]/\bM wr z.1.size l c1 V)/\aj wr z) (λZ _=>5-(intOf Z).toNat)
 .exact⟨1,ak,ak,rfl,ae λ_=>X.o,ae λh=>absurd rfl h,Y⟩
 ·
  obtain⟨k,Vn,PT,rfl,HZ,K,hp⟩:=hrel;have:k=1\/k=2\/k=3\/k=4\/k=5:=om;rcases this with rfl|rfl|rfl|rfl|rfl
  .have F:Bx wr D 60 #[au,(),au,au,au,au]:=⟨HZ.o rfl⟩
   go_upto_region 9 with(go_at_call 17;refine(O.o _).mono ?_;rintro e u5 ⟨AC,cC,rfl,L,I⟩;rw[HY.o])
   refine aw (λC p6 k6=>?_)
   go_wp2_with fail
   go_roundw
   ·
    have hbw:D<wr.1.size:=F.al.lt;refine⟨2,ak,ak,rfl,ae λh=>absurd h ak,ae λ_=>⟨AC,cC,?_,?_⟩,jp (by rw[U.o];exact an _)⟩
    .exact((((((F.al.at (w':=C)).ax 0 _).ax 1 _).ax 2 _).ax 3 _).ax 4 _).ax 5 _
    .exact uc ((show aI _ _ 98 2 _ _ _ _ from L).at.less (ai (w:=z) (w':=wr))) λad e=>by have h1:=L.fresh ad e;omega
   .simp[intOf]
  .obtain⟨l,c1,r,J⟩:=K.o ak;have F:Bx wr D 60 #[(1:Int),.slice l y c1,P1,P2,P3,P4]:=⟨r⟩;have b:=ae J
   go_upto_region 9 with(go_at_call 17;refine(P.o _).mono ?_;rintro e u5 ⟨AC,cC,rfl,L,I⟩;rw[S.o])
   refine aw (λC p6 k6=>?_)
   go_wp2_with fail
   go_roundw
   .exact⟨3,ak,ak,rfl,ae λh=>absurd h ak,ae λ_=>⟨l,c1,F.al.at (w':=C),b.o.at⟩,ab z C⟩
   .simp[intOf]
  .obtain⟨l,c1,r,J⟩:=K.o ak;have F:Bx wr D 60 #[(1:Int),.slice l y c1,P1,P2,P3,P4]:=⟨r⟩;have b:=ae J
   go_upto_region 9 with(go_at_call 17;refine(Q.o _).mono ?_;rintro e u5 ⟨AC,cC,rfl,L,I⟩;rw[T.o])
   refine aw (λC p6 k6=>?_)
   go_wp2_with fail
   go_roundw
   .exact⟨4,ak,ak,rfl,ae λh=>absurd h ak,ae λ_=>⟨l,c1,F.al.at (w':=C),b.o.at⟩,ab z C⟩
   .simp[intOf]
  .obtain⟨l,c1,r,J⟩:=K.o ak;have F:Bx wr D 60 #[(1:Int),.slice l y c1,P1,P2,P3,P4]:=⟨r⟩;have b:=ae J
   go_upto_region 9 with(go_at_call 17;refine mv (R.o _) λu5 I=>?_;unfold zd)
   refine aw (λC p6 k6=>?_)
   go_wp2_with fail
   go_roundw
   .exact⟨5,ak,ak,rfl,ae λh=>absurd h ak,ae λ_=>⟨l,c1,F.al.at (w':=C),b.o.at⟩,ab z C⟩
   .simp[intOf]
  .obtain⟨l,c1,r,J⟩:=K.o ak;have F:Bx wr D 60 #[(1:Int),.slice l y c1,P1,P2,P3,P4]:=⟨r⟩;have b:=ae J;have k2w:Bx wr (w.1.size+1) 60 _:=ao
   go_wp2_with fail
   refine a8 (v:=.tuple #[.agg #[(1:Int),.slice l y c1,P1,P2,P3,P4],au]) ?_ rfl ⟨l,c1,by rw[HY.o],(show aI _ _ 98 2 _ _ _ _ from uc b λad e=>?_).less (ai (w:=w) (w':=z)),jp (b9 _)⟩
   .rw[b8 rfl];go_simp
   .have h1:=b.o.fresh ad e;have h2:w.1.size+1<z:=(ao:Bx z (w.1.size+1) _ _).al.lt;omega
end
variable{A2:Option Addr}{f g:Nat}{us:List Tn}
section
variable{w:World}{B n k:Nat}{gs:List Tn}
def Ts.cells(hu:Ts w A2 k us)(z:0<k):∃r,A2=some r/\∀j v,(tc us)[j]?=some v->w.cell? (r.add j)=some v:=by
 have C:us[0]?=some (us[0]'(by rw[<-hu.len];exact z)):=bc _;obtain⟨b,o,rfl,_⟩:=hu.rd 0 _ C;refine⟨_,rfl,λj v l=>?_⟩;have D:=(a5.1 l).1;rw[nY]at D;have hq:j/2<us.length:=om;have u:us[j/2]?=some (us[j/2]'hq):=bc _;obtain⟨G,I,e,q⟩:=hu.rd _ _ u;injection e with e;injection e with E F
 subst E F;obtain⟨t0,y⟩:=IP u;rw[bQ];rcases Ka j with hm|hm
 .have m:j/2*2=j:=om;rw[m]at t0;rw[t0]at l;cases l;have:=q.c0;rw[m]at this;exact this
 .have m:j/2*2+1=j:=om;rw[m]at y;rw[y]at l;cases l;have:=q.c1;rw[nl,m]at this;exact this
def Tc(h:aI w B 28 2 (some ⟨g,0,none⟩) c n (tc gs))(G:gs=n)(hu:Ts w A2 k us)(I:0<k)(O:f+k<=n):
  ∃j X,A2=some j/\(∀m l dc sc,k<=l->(Builtin.copy_ #[23,23] m #[.slice (some ⟨g,f*2,none⟩) l dc,.slice (some j) k sc]).run prog w=.ok (goInt (k:Int)) (w.setRow g X))/\aI (w.setRow g X) B 28 2 (some ⟨g,0,none⟩) c n (tc (gs.take f++us++gs.drop (f+k))):=by
 obtain⟨j,rfl,r⟩:=hu.cells I;obtain⟨cur,hg,J,K,hm,z,ht,C⟩:=h.whole;have u:us=k:=hu.len.symm;have e:(tc us).length=k*2:=by rw[nY,u]
 refine⟨j,(cur.toList.take (f*2)++tc us++cur.toList.drop (f*2+(tc us).length)).toArray,rfl,λm l dc sc L=>?_,?_⟩
 .have:=e0 (P:=prog) (w:=w) (E:=28) (k:=2) (g:=g) (o:=f*2) (cs:=tc us) (cur:=cur) 23 23 m l dc j k sc aq aq hg (by rw[jA om,e]) r (by rw[e,z];omega) (Vo us);rw[jA om]at this;exact this
 .have M:cur.toList=c*2:=by simpa using z
  refine .mk' J (bH hg _) K hm (by simp[e];omega) ?_;have y:tc (gs.take f++us++gs.drop (f+k))=(tc gs).take (f*2)++tc us++(tc gs).drop ((f+k)*2):=by
   have b:∀q,q<=gs.length->tc (gs.take q)=(tc gs).take (q*2)/\tc (gs.drop q)=(tc gs).drop (q*2):=λq hq=>by
    have D:tc gs=tc (gs.take q)++tc (gs.drop q):=by rw[<-nX,de]
    have F:(tc (gs.take q)).length=q*2:=by rw[nY,bB,dt hq]
    exact⟨by rw[D,e9 F],by rw[D,nt F]⟩
   rw[nX,nX,(b f om).1,(b (f+k) om).2]
  rw[y,<-ht,e]
  show List.take (n*2) _=_
  rw[ez,dt om,rT,bR (by simp[e];omega)];congr 1;rw[rS];have N:(f+k)*2=f*2+k*2:=om;rw[N];congr 1;simp[e];omega
end
