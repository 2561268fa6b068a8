/- Lemmas. -/
import Derived.Test.YtmkjnlifimffkaaGreatS29
import Derived.Test.YtmkjnlifimffkaaGreatS28
namespace Go.Proofs.YtmkjnlifimffkaaGreat
open Go.RowKit Tryz
set_option linter.all false
set_option maxRecDepth 100000
set_option maxHeartbeats 0
variable{Γ:Prop}
attribute[local irreducible]Calls
section
variable{p u w w':World}{A A':Option Addr}{b c c' g k n q:Nat}{zs:List Int}{F':Nat->Prop}{E:Int}{z0 z1:Value}{N:bm}
def sC(x:Nd):List Value:=PQ x.o (.slice x.A x.n x.c) (.slice x.I x.ni x.ci) (.slice x.P x.np x.cp)
structure qo(w:World)(B:Nat)(A:Option Addr)(c:Nat)(xs:List Nd):Prop where
 row:aU w B 84 10 A c xs.length (xs.flatMap sC)
 el:∀x∈xs,rm B w x
 ne:∀x∈xs,∀b,NF x b->¬AF A b
def QT(zs:au):Int:=if Bw zs=0 then(match(rk (zs.take (zs.length-4))).nd.2 with|none=>16|some R=>if(rk (zs.take (zs.length-4))).m4.1=1096042545 then(if R=[]then bo (s1 (zs.take (zs.length-4)))else 10)else 10)else Bw zs
def Mc(zs:au):bm:=s1 (zs.take (zs.length-4))
def aba(w:aa)(N:bm)(e:Ending)(w':aa):Prop:=∃A n c B m d,e=.returned (.tuple #[.agg #[.slice A n c,.slice B m d],an])/\aW w' A n B m N/\n<=c/\m<=d/\aj w' w/\∀u,Kf (λb=>b<w.1.size) (λb=>b<w.1.size) w' u->aW u A n B m N
section
variable{o B:Nat}{xs:List Nd}{x:Nd}{F:Nat->Prop}
def NX:∀(xs:List Nd) (j:Nat) (x:Nd),xs[j]?=some x->∀k,k<10->(xs.flatMap sC)[j*10+k]?=(sC x)[k]?
 |[],j,x,h,_,_=>by simp at h
 |y::t,0,x,h,k,hk=>by rw[List.getElem?_cons_zero]at h;obtain rfl:=cH h;rw[g6,e6,cf,lK (by show k<10;exact hk)]
 |y::t,j+1,x,h,k,hk=>by rw[o5]at h;have e:=NX t j x h k hk;rw[g6,eE (by show 10<=_;omega),<-e];congr 1;show(j+1)*10+k-10=_;omega
def qo.nil(w:aa)(B:Nat):qo w B none 0 []:=⟨⟨rfl,.inl ⟨rfl,rfl⟩⟩,λt ht=>(by cases ht),λt ht=>(by cases ht)⟩
def qo.kf(h:qo w B A c xs)(e:Kf F F' w w')(hF:∀b,B<=b->¬F b):qo w' B A c xs:=
 ⟨e.row h.row λb hb=>hF b (h.row.af hb).1,λx j=>(h.el x j).kf e λb hb=>hF b ((h.el x j).lo b hb),h.ne⟩
def qo.at(h:qo w B A c xs)[aT w w']:qo w' B A c xs:=h.kf (F:=λ_=>False) (Kf.later _) λ_ _ h=>h
def qo.push(h:qo w B A c xs)(r:rm B w x)(z:∀b,NF x b->¬AF A b)(m:dm A A' w w')(hr:aU w' B 84 10 A' c' (xs.length+1) (xs.flatMap sC++sC x)):qo w' B A' c' (xs++[x]):=by
 have j:∀y∈xs++[x],∀b,NF y b->¬AF A b:=λy hy b hb=>by rcases bM.1 hy with hy|hy;exact h.ne y hy b hb;rw[cZ.1 hy]at hb;exact z b hb
 have l:∀y∈xs++[x],rm B w y:=λy hy=>by rcases bM.1 hy with hy|hy;exact h.el y hy;rw[cZ.1 hy];exact r
 refine⟨?_,λy hy=>(l y hy).kf (Kf.jt m) (j y hy),λy hy b hb C=>?_⟩;rw[bh,jG];simpa using hr;obtain⟨D,e,rfl⟩:=C;rcases m.new D e with⟨a0,E,G⟩|h9;exact j y hy _ hb ⟨a0,E,G.symm⟩;have:=(l y hy).hi _ hb;omega
def qo.rd(h:qo w B A c xs):ZV w A xs:=λj x r=>by
 have hm:=aC r;have l:=h.el x hm;have y:∀k v,(sC x)[k]?=some v->∃g,A=some ⟨g,0,none⟩/\w.cell? (g,j*10+k)=some v:=λk v hv=>h.row.cell (by
  rw[NX xs j x r k (by have:=(a8.1 hv).1;exact this)];exact hv)
 obtain⟨g,e,-⟩:=y 0 _ rfl;refine⟨g,0,e,(h.row.af ⟨_,e,rfl⟩).2.1,λk v hv=>?_,l.s,l.i,l.p,l.ls,l.li,l.lp,l.k6⟩;obtain⟨C,m,z⟩:=y k v hv;rw[e]at m;injection m with m;injection m with m;subst m;rw[cf];exact z
def QU:∀u∈sC x,u.oneCell'=true:=λu hu=>by
 simp only[sC,PQ,cw,nR,o2]at hu;rcases hu with rfl|rfl|rfl|rfl|rfl|rfl|rfl|rfl|rfl|rfl<;>rfl
def QV(c:Nat):p0 c none=([],none):=by cases c<;>rfl
def QW{k:Nat}{n:Int}(h:0<k):0<(gi k n).length:=by rw[DR];exact h
def QX(v:et):0<(Bt v).length:=by
 unfold Bt;simp only[bh];have:=QW (k:=1) (n:=v.o.kd) am;omega
def DX:∀l:List et,l<=(l.flatMap Bt).length
 |[]=>al _
 |v::t=>by rw[g6,bh,dj];have:=QX v;have:=DX t;omega
def DY{L:au}(hb:na L)(C:L.length<=1000)(hm:(rk L).m4.1=1096042545)(l:(rk L).nd.2=some []):(s1 L).fits/\(s1 L).small:=by
 obtain⟨m,D,E,e⟩:=YR hb hm l;have r:(s1 L).nodes.length<=1000:=by have j:=cq List.length m;unfold Vb at j;simp only[bh]at j;have:=DX (s1 L).nodes;omega
 exact⟨⟨om,om,λv hv=>⟨by have:=(e v hv).i;omega,by have:=(e v hv).s;omega,by have:=(e v hv).p;omega,λz y=>by have:=(e v hv).ps z y;omega⟩⟩,r,λv hv=>by have:=(e v hv).i;omega⟩
def Ji[s:Bs w A n zs](y:n<=4000)(l:n<=c)(hE:Hx (Bw zs=E))(r:E≠0):() 45 #[(A,n,c)] w (aJ w (.tuple #[.pointer none,E])):=by
 have j:=hE.o;by_cases m:n<8;rw[Bw,ah (by rw[<-s.len];exact m)]at j;subst j;exact QS m;refine(By y l om hE).mono ?_;intro e w' h;rw[ag r]at h;rw[Bw,ag (by rw[<-s.len];exact m)]at j;split at j;exact absurd j.symm r;subst j;exact h
def Jj[s:Bs w A n zs](m:n<=4000)(j:n<=c)(hE:Hx (Bw zs=0)):() 45 #[(A,n,c)] w (Vz w (zs.take (n-4))):=by
 have r:8<=n:=by have l:=hE.o;unfold Bw at l;split at l;cases l;rename_i h;rw[s.len];omega
 refine(By m j r hE).mono ?_;intro e w' h;rw[ah rfl]at h;exact h
def kf2:Kf (λb=>b=q) (λb=>b=q) u ((u.setCell (q,0) z0).setCell (q,1) z1):=
 ((Kf.refl (λb=>b=q) u).av (q:=⟨q,0,none⟩) rfl z0).av (q:=⟨q,1,none⟩) rfl z1
theorem ek[aT w u](hq:w<=q):aj ((u.setCell (q,0) z0).setCell (q,1) z1) w:=kf2.prev λb e=>by rw[e];exact hq
def xe1(h:Γ:=by first|exact .inr ⟨by assumption,rfl,ek (al _)⟩|exact⟨rfl,ek (al _)⟩):=h
def xe2(h:Γ:=by rw[cF rfl];go_simp):=h
def Bz[s:Bs w A n zs](hn:n<=1000)(EU:n<=c)(hE:Hx (QT zs=E))(hN:Hx (Mc zs=N)):
  () 16 #[(A,n,c)] w (λe w'=>(E=0/\aba w N e w')\/(E≠0/\aJ w (.tuple #[.agg #[(),()],E]) e w')):=by
 have CB:=@ay;have FB:=@aO;have I:=hE.o;have hv:=hN.o;unfold QT at I;unfold Mc at hv;rw[<-s.len]at I hv;by_cases hr:Bw zs=0;rotate_left
 .rw[ag hr]at I;have HR:=ae I;rw[I]at hr;(have b0:(E !=0)=true:=by simp[hr]);clear I hv;go_in;go_upto_region 1 with fail;refine aE (λu0 Ff k0=>?_);go_wp2_with (go_at_call 45;refine mv (Ji om EU HR hr) λu1 _=>?_);refine aX (v:=.tuple #[.agg #[(),()],.int .i64 (E)]) ?_ rfl ?_;exact xe2;exact xe1
 rw[ah hr]at I;have HRD:=ae hr;obtain⟨L,hL⟩:=lh (zs.take (n-4));rw[hL]at I hv;have UJ:=ae hL;have hLb:na L:=λz hz=>s.all z (by rw[<-hL]at hz;exact cE hz);have zM:L.length<=1000:=by rw[<-hL,bO];omega
 obtain⟨⟨mk,o1⟩,h1⟩:=lh (bp 4 (some L));obtain⟨⟨is,o2⟩,h2⟩:=lh (m9 o1);obtain⟨⟨cn,o3⟩,h3⟩:=lh (bp 2 o2);obtain⟨⟨ns,o4⟩,h4⟩:=lh (p0 cn.toNat o3);have Vh:qn (some L):=λL' e=>by cases e;exact hLb
 have by1:=Vh.get 4;rw[h1]at by1;have by2:=by1.1.sh;rw[h2]at by2;have J:=by2.get 2;rw[h3]at J;dsimp only at J;have e2:(256:Int)^2=65536:=by decide
 rw[e2]at J;obtain⟨d,rfl⟩:=bJ J.2.1;rw[aZ]at h4;have hd:d<65536:=by have:=J.2.2;omega
 have a1:(rk L).m4=(mk,o1):=h1;have a2:(rk L).dV=(is,o2):=by show m9 (bp 4 (some L)).2=_;rw[h1];exact h2
 have a3:(rk L).c=((d:Int),o3):=by show bp 2 (m9 (bp 4 (some L)).2).2=_;rw[h1,h2];exact h3
 have a4:(rk L).nd=(ns,o4):=by show p0 (rk L).c.1.toNat (rk L).c.2=_;rw[a3,aZ];exact h4
 have a5:s1 L=⟨is,ns⟩:=by unfold s1;rw[a2,a4]
 have Ar:Hx (mk=1096042545->o4=some []->(s1 L).fits/\(s1 L).small):=λm1 m2=>DY hLb zM (by rw[a1];exact m1) (by rw[a4];exact m2);rw[a4,a1]at I;dsimp only at I;rw[hv]at I a5;have M:=ae a5;rw[hv]at Ar;have zk:=ae I;have H1:=ae h1;have H2:=ae h2;have H3:=ae h3;have H4:=ae h4;clear I hv hr hL hLb h1 h2 h3 h4 Vh by1 by2 J e2 a1 a2 a3 a4 a5;go_in;go_upto_region 1 with fail;refine aE (λu0 Ff k0=>?_);go_upto_region 4 with(go_at_call 45;refine(Jj om EU HRD).mono ?_;rintro e u1 ⟨g,p,rfl,pp,Vf,sQ⟩);rw[UJ.o]at Vf;have Fg:=Vf.o.hg;go_upto_region 5 with(go_at_call 46;refine(e5 (k:=4) (y:=4) Vf rfl am am H1).mono ?_;rintro e u2 ⟨rfl,vA,m5,sO⟩);go_upto_region 6 with(go_at_call 47;refine(wo vA H2).mono ?_;rintro e u3 ⟨O,cS,rfl,xr,Vq,XW,sN,Vp⟩)
 refine aE (λv pv k1=>?_);obtain⟨P,Jk⟩:=lg u3.1.size;rw[<-Jk]at k1⊢;have uO:=XW.o.hg;have v8:Hx (e8 33 p v v v g P o2 #[.slice O is cS,()]):=ae ⟨XW.o.at,Kf.refl _ _,Kf.refl _ _,k1.ak,om,om,k1.ak.lt,al _⟩;have ti:=k1.ak.lt;have B4:g<v.1.size:=om;have HSL:Hx (Rd v O is/\∀b,AF O b->w.1.size<b/\b≠g/\b≠P/\b<v.1.size):=ae ⟨xr.rd.below (aP u3 v),λb hb=>by
  have q1:=xr.lo b hb;have q2:=xr.hi b hb;have q3:=vA.o.hg;have q4:w.1.size<u0.1.size:=k0.ak.lt;have q5:u0.1.size<=p.1.size:=ai;omega⟩
 have HLS:=ae Vq;clear Jk xr Vq k1;go_upto_region 7 with(go_at_call 46;refine(e5 (k:=2) (y:=2) (ae v8.o.r) rfl am am H3).mono ?_;rintro e S ⟨rfl,HR5,uh,Y1⟩);have wg:Hx (e8 33 p v S S g P o3 #[.slice O is cS,()]):=(v8.o.get HR5 uh).from_;go_loopw [8] (λs8 wr=>∃(q r:Nat) (xs:List Nd) (Q:bF) (Z:Nat) (o:fR),q+r=d/\xs=q/\s8=.int .u64 (r:Int)/\Hx (e8 33 p v S wr g P o #[.slice O is cS,(Q,q,Z)])/\Hx (qo wr S.1.size Q Z xs)/\Hx ((xs.map Nd.val++(p0 r o).1,(p0 r o).2)=(ns,o4))/\aj wr p) (λs8 _=>(intOf s8).toNat);exact⟨0,d,[],none,0,o3,om,rfl,rfl,wg,ae (qo.nil _ _),ae (by rw[H4.o];rfl),Y1⟩;obtain⟨q,r,xs,Q,Z,o,YS,GM,rfl,HS,HO,HM,hp⟩:=hrel;obtain⟨v3,fl,UL,Y5⟩:=HS.o.r.flag;have Y2:Bx wr P 33 #[.slice O is cS,(Q,q,Z)]:=⟨HS.o.bv⟩;subst GM;by_cases u7:0<r/\fl=false
 .obtain⟨hr,rfl⟩:=u7;cases o with
  |none=>cases Y5
  |some L2=>
   obtain⟨r',rfl⟩:∃r',r=r'+1:=⟨r-1,om⟩;obtain⟨⟨V,o'⟩,hG⟩:=lh (Br (some L2));have hm:=HM.o;rw[p0,hG]at hm;dsimp only at hm;have T:decide (0<r'+1)=true:=aD;have m7:=ae hG;have uf:=ae hm;obtain⟨R1,xk⟩:=lg (r'+1:Nat);rw[<-xk]at T⊢;(have wr2:IntKind.u64.wrap ((R1:Int)-1)=(r':Int):=by rw[bq];omega);have Ja:=ae xk;have jQ:xs.length<=100000000:=om;clear hG hm xk Y5 hr;go_upto_region 9 with fail;refine ab p ao (λC _=>?_)
   repeat' (first
    |(refine j8 0 ?_
      refine ff 0 ?_;refine jL 2 38 ?_)
    |(refine j8 6 ?_
      refine jL 6 42 ?_)
    |(intro (tg:Tg 1) K hK
      clear tg;go_simp;refine aG hK ?_;clear hK K)
    |(intro (tg:Tg 3) K hK
      clear tg;have sa:=HS.o.at (u':=C);have L7:=HO.o.at (w':=C);have Je:S.1.size<=C.1.size:=sa.k2.size;have Jf:∀b,AF Q b->b<C.1.size:=λb hb=>(L7.row.af hb).2.1;go_simp
      refine(Vg (ae sa.r) m7).mono ?_
      rintro e C ⟨x9,rfl,HXV,m,Gy,QE,Jb⟩;dsimp only;have Vv:=ae (sa.get Gy QE);have S7:Hx (qo C S.1.size Q Z xs):=ae (L7.kf QE (λb hb=>by have:=wg.o.k.size;show¬b=g;omega));have Jg:Hx (rm S.1.size C x9/\∀b,NF x9 b->¬AF Q b):=ae ⟨⟨m.o.s,m.o.i,m.o.p,m.o.ls,m.o.li,m.o.lp,m.o.k6,λb hb=>aL Je (m.o.lo b hb),m.o.hi⟩,λb hb hx=>by have:=m.o.lo b hb;have:=Jf b hx;omega⟩;have Z1:Bx C P 33 _:=⟨Vv.o.bv⟩;clear Je Jf m;refine aG hK ?_ Jb;clear hK K)
    |(intro (tg:Tg 4) K hK
      clear tg;go_simp;refine aG hK ?_;refine bc (λC _ _=>?_))
    |(intro (tg:Tg 5) K hK
      clear tg;have Vw:=Vv.o.at (u':=C);have Vx:=S7.o.at (w':=C);have Vy:rm S.1.size C x9:=Jg.o.1.kf (F:=λ_=>False) (F':=λ_=>False) (Kf.later _) λ_ _ h=>h;refine rl ao _ _ _ rfl 84 underlying31 10 128 (.agg #[an,an,an,an,an,an,an,(),(),()]) ao rfl am am S.1.size Q Z xs.length (xs.flatMap sC) rfl Vx.row (sC x9) rfl Bx.ak rfl QU jQ Vw.k2.size ?_;intro A4 c4 C qe CE;have U:=ae (Vw.jt CE (λb hb=>(HO.o.row.af hb).1) B4);have QR:Hx (qo C S.1.size A4 c4 (xs++[x9])):=Vx.push Vy Jg.o.2 CE qe;have Pc:aj C p:=U.o.prev;have Z4:Bx C P 33 _:=⟨U.o.bv⟩;refine aG hK ?_ Pc;clear hK K)
    |(intro (tg:Tg 7) K hK
      clear tg;have Pe:=(U.o.at (u':=C)).bv.cell 1;have Vs:=(U.o.at (u':=C)).bv.frozen 1;go_simp;obtain⟨W9,hW9⟩:=lg (C.setCell (P,1) (.slice A4 (xs.length+1) c4));have D:=ae ((U.o.at (u':=C)).set 1 (.slice A4 (xs.length+1) c4));have Jc:Hx (qo W9 S.1.size A4 c4 (xs++[x9])):=ae ((QR.o.at (w':=C)).kf (F:=λb=>b=P) (F':=λb=>b=P) (by rw[hW9];exact(Kf.refl (λb=>b=P) C).av (q:=⟨P,1,none⟩) rfl _) λb hb=>by have:=wg.o.k.size;show¬b=P;omega);rw[<-hW9]at D⊢;have Vt:aj W9 p:=D.o.prev;clear hW9 Pe Vs;refine aG hK ?_ Vt;clear hK K)
    |refine fg 1 ?_
    |refine fg 5 ?_
    |refine fg 7 ?_
    |refine fg 4 ?_
    |refine fg 3 ?_
    |refine mf 1 3 ?_ ?_
    |refine mf 1 4 ?_ ?_
    |refine BU ?_)
   all_goals go_wp2_with fail;exact⟨⟨xs.length+1,r',xs++[x9],A4,c4,o',by have:=Ja.o;omega,aD,rfl,D,Jc,ae (by have:=uf.o;rw[<-this,c9,eO];show _=(_++V::_,_);rw[<-HXV.o];rfl),D.o.prev⟩,by simp[intOf];have:=Ja.o;omega⟩
 .have Jd:ns=xs.map Nd.val/\o4=o:=by
   have hm:=HM.o;have h8:p0 r o=([],o):=by
    rcases EB r with h9|h9;subst h9;rfl
    .cases o with
     |none=>exact QV r
     |some L=>exact absurd ⟨h9,Y5⟩ u7
   rw[h8,en]at hm;injection hm with m1 m2;exact⟨m1.symm,m2.symm⟩
  obtain⟨Y6,rfl⟩:=Jd;have HNS:=ae Y6;(have X:(decide (0<r)=false)\/(decide (0<r)=true/\fl=true):=by by_cases h9:0<r;exact .inr ⟨by simpa using h9,by cases fl;exact absurd ⟨h9,rfl⟩ u7;rfl⟩;exact .inl (by simpa using h9));have sS:Sl wr O is is:=⟨HS.o.k.rd HSL.o.1 λb hb=>by have:=HSL.o.2 b hb;rintro(e|e)<;>omega,rfl⟩;have aN:aW wr O is.length Q xs.length N:=⟨by rw[M.o];exact sS,⟨xs,HO.o.rd,by rw[M.o,<-Y6]⟩,by rw[M.o,Y6,bj]⟩;have hwp:w.1.size<u0.1.size:=k0.ak.lt;have hup:u0.1.size<=p.1.size:=ai;have kr:Bx wr w.1.size 33 #[(),()]:=aq;have HB8:Hx (xs<=Z):=HO.o.row.le;clear u7 Y5 HM Y6;cases o4 with
  |none=>obtain⟨L9,-,Y⟩:=HS.o.r;have Pm:Hx (16=E):=zk;have h0:=Pm.o;subst h0;(have h0:(16:Int)≠0:=by decide);have j:Hx (() 49 #[.pointer g] wr (aJ wr (16:Int))):=ae (NS (L:=L9) (sh:=true) Y);clear Y;rcases X with T|⟨T,rfl⟩;all_goals go_wp2_with (go_at_call 49;refine mv j.o λu9 _=>?_);refine aX (v:=.tuple #[.agg #[(),()],.int .i64 (16)]) ?_ rfl ?_;exact xe2;exact xe1
  |some R=>
   have Y:=HS.o.r.2;have Pm:Hx ((if mk=1096042545 then if R=[]then bo N else 10 else 10)=E):=zk;have j:Hx (() 49 #[.pointer g] wr (aJ wr (if R=[]then 0 else 10:Int))):=ae (NS (L:=R) (sh:=false) Y);have h9:=Pm.o;have l:=j.o;clear Y zk Pm j;by_cases hm:mk=1096042545
   .rw[ah hm]at h9;by_cases hR:R=[]
    .rw[ah hR]at h9 l;have j:=ae l;have wq:=ae h9;obtain⟨VA,EZ⟩:=Ar.o hm (by rw[hR]);have HF:=ae VA;have Z5:=ae EZ;(have b1:(mk !=1096042545)=false:=by simp[hm]);clear l h9 VA EZ hm hR;by_cases h0:E=0
     .subst h0;rcases X with T|⟨T,rfl⟩;all_goals go_wp2_with (first|(go_at_call 49;refine mv j.o λu9 _=>?_)|(go_at_call 40;refine mv (j1 HF Z5 wq) λua _=>?_));(have key:∀u9:World,Kf (λb=>b<=w.1.size) (λb=>b<=w.1.size) ua u9->aW u9 O is.length Q xs.length N:=λu9 hk=>by have ko:Sl ua O is is:=aq;have acB:=HO.o.at (w':=ua);(have hq:=acB.kf hk λb hb=>by have:=wg.o.k.size;show¬b<=w.1.size;omega);exact⟨by rw[M.o];exact⟨hk.rd ko.rd λb hb=>by have:=(HSL.o.2 b hb).1;show¬b<=w.1.size;omega,rfl⟩,⟨xs,hq.rd,by rw[M.o,<-HNS.o]⟩,by rw[M.o,HNS.o,bj]⟩);have TQ:=(kf2 (u:=ua) (q:=w.1.size) (z0:=.slice O is cS) (z1:=.slice Q xs Z)).more (G:=λb=>b<=w.1.size) (G':=λb=>b<=w.1.size) (λb h=>by rw[h];exact al _) (λb h=>.inr (.inl h));refine aX (v:=.tuple #[.agg #[.slice O is cS,.slice Q xs Z],an]) ?_ rfl ⟨O,is.length,cS,Q,xs.length,Z,rfl,key _ TQ,HLS,HB8,ek (al _),λu9 hk=>key u9 (TQ.trans (hk.more (λb h=>fq h) λb h=>.inr (.inl h)))⟩;rw[cF rfl];go_simp
     have b0:(E !=0)=true:=by simp[h0]
     rcases X with T|⟨T,rfl⟩;all_goals go_wp2_with (first|(go_at_call 49;refine mv j.o λu9 _=>?_)|(go_at_call 40;refine mv (j1 HF Z5 wq) λua _=>?_));refine aX (v:=.tuple #[.agg #[(),()],.int .i64 (E)]) ?_ rfl ?_;exact xe2;exact xe1
    rw[ag hR]at h9 l;subst h9;(have h0:(10:Int)≠0:=by decide);have j:=ae l;(have b1:(mk !=1096042545)=false:=by simp[hm]);clear l hm hR;rcases X with T|⟨T,rfl⟩;all_goals go_wp2_with (go_at_call 49;refine mv j.o λu9 _=>?_);refine aX (v:=.tuple #[.agg #[(),()],.int .i64 (10)]) ?_ rfl ?_;exact xe2;exact xe1
   rw[ag hm]at h9;subst h9;(have h0:(10:Int)≠0:=by decide);(have b1:(mk !=1096042545)=true:=by simp[hm]);by_cases hR:R=[];(focus rw[ah hR]at l);rotate_left;(focus rw[ag hR]at l);all_goals have j:=ae l;clear l hm hR;rcases X with T|⟨T,rfl⟩;all_goals go_wp2_with (go_at_call 49;refine mv j.o λu9 _=>?_);refine aX (v:=.tuple #[.agg #[(),()],.int .i64 (10)]) ?_ rfl ?_;exact xe2;exact xe1
end
end
variable{ps:List Tn}{t:Tn}{zs:List Int}{N:bm}{w w':World}{R cb cp cx dx g m mx n np nx:Nat}{T:TypeId}{z0 z1:Value}{A B BA PA XA XB:Option Addr}{cap pl:Int}
structure wu(N:bm)(zs:List Int)(ps:List Tn)(x:TV)(cap:Int):Prop where
 fi:N.fits
 sm:N.small
 hE:bo N=0
 fw:Bn N=true
 ft:U5 N (ps.map Tn.tv) x
 c0:0<=cap
 c1:cap<=16777216
 ln:zs.length<=600
 dc:QT zs=0
 dv:Mc zs=N
def Y7(w:aa)(zs:au)(ps:List Tn)(x:TV)(cap:Int)(e:Ending)(w':aa):Prop:=
 ∃A n c B m d g,e=.returned (.tuple #[.agg #[.slice A n c,.slice B m d],.bool g])/\(g=true->∃N,wu N zs ps x cap/\aW w' A n B m N/\n<=c/\m<=d)/\aj w' w
def QY(h:t∈ps):nM t<=ot ps:=by
 induction ps with
 |nil=>simp at h
 |cons a l b=>unfold ot at*;rw[di,fY];rcases cw.1 h with rfl|h;omega;have:=b h;omega
def VB(hb:∀t∈ps,t.zs.length<=17592186043904/\t.xs.length<=17592186043904):ot ps<=ps*35184372087809:=by
 induction ps with
 |nil=>simp[ot]
 |cons a l b=>have e:=b λt ht=>hb t (dp _ ht);have j:=hb a cm;unfold ot at*;rw[di,fY,dj];unfold nM at*;omega
def Jl(hb:∀t∈ps,t.zs.length<=17592186043904/\t.xs.length<=17592186043904)(ht:t.zs.length<=17592186043904/\t.xs.length<=17592186043904)(e:ps.length<=100000)(h:wrap64 (I4 ps+I4 [t])<=700):ot ps<=700/\nM t<=700:=by
 have j:=VB hb;have b:ot [t]=nM t:=by simp[ot]
 have l:nM t<=35184372087809:=by unfold nM;omega
 unfold I4 at h;rw[b]at h;unfold wrap64 at h;omega
def Y8(hb:na zs)(u:zs.length<=1000)(h:QT zs=0):(Mc zs).fits/\(Mc zs).small/\bo (Mc zs)=0:=by
 unfold QT at h;by_cases hr:Bw zs=0
 .rw[ah hr]at h;have b:na (zs.take (zs.length-4)):=λz r=>hb z (cE r);(have e:(zs.take (zs.length-4)).length<=1000:=by rw[bO];omega);cases hm:(rk (zs.take (zs.length-4))).nd.2 with
  |none=>rw[hm]at h;dsimp only at h;exact absurd h am
  |some R=>rw[hm]at h;dsimp only at h;by_cases j:(rk (zs.take (zs.length-4))).m4.1=1096042545;rw[ah j]at h;by_cases l:R=[];rw[ah l]at h;have m:=DY b e j (by rw[hm,l]);exact⟨m.1,m.2,h⟩;rw[ag l]at h;exact absurd h am;rw[ag j]at h;exact absurd h am
 rw[ag hr]at h;exact absurd h hr
def w9(h:Bn N=true):(bH N).length<=300/\N.nodes.length<=12:=by
 have e:Bm N<=300/\N.nodes.length<=12:=by simpa[Bn]using h
 refine⟨aL ?_ e.1,e.2⟩;unfold Bm bH;refine aL ?_ (Nat.le_add_left _ _);generalize N.nodes=l;induction l with
 |nil=>simp
 |cons a l j=>
  rw[g6,bh,di,fY];have:a.P<=rj a:=by
   unfold rj;have:∀P:List (List Int),P.length<=(P.map λs=>1+s.length).sum:=by
    intro P;induction P with
    |nil=>simp
    |cons b P j=>rw[di,fY,dj];omega
   have:=this a.P;omega
  omega
class u3(w:World)(g:Nat)(T:TypeId):Prop where
 o:∃z0 z1,az w g T #[z0,z1]
instance(priority:=low) u3.of[k:Bx w g T #[z0,z1]]:u3 w g T:=⟨_,_,k.ak⟩
class hj(w:World)(h:Nat)(A:Option Addr)(n:Nat)(B:Option Addr)(m:Nat)(N:outParam bm):Prop where
 o:∀u,Kf (λb=>b<h) (λb=>b<h) w u->aW u A n B m N
instance(priority:=low) hj.step{h:Nat}[p:aj w' w][k:hj w h A n B m N]:hj w' h A n B m N:=⟨λu b=>k.o u ((Kf.later _).trans b)⟩
variable{x:TV}
def wu.ok(h:wu N zs ps x cap)(b:∀t∈ps,t.zs.length<=t.c):eB ps:=λt ht=>⟨h.ft.2.1 t.tv (List.mem_map_of_mem ht),b t ht⟩
def xe5(h:Γ:=by rw[l];exact((Kf.refl _ _).av (q:=⟨w.1.size+1,0,none⟩) hh _).av (q:=⟨w.1.size+1,1,none⟩) hh _):=h
def xe0(h:Γ:=by refine bL 15 ?_;refine aK 16 λK hK=>?_;obtain⟨z0,z1,q9⟩:=(aq:u3 j (w.1.size+1) 33).o;have kt9:Bx j (w.1.size+1) 33 #[z0,z1]:=⟨q9⟩;go_simp;obtain⟨r,l⟩:=lg ((j.setCell (w.1.size+1,0) (A,n,c)).setCell (w.1.size+1,1) (B,m,d));rw[<-l];(have D:Below (World.heap C).size C r:=by rw[l];exact br (aP C j) hz _ _);(have M:∀b,b<j.1.size->b≠w.1.size+1->(World.heap r)[b]?=j.heap[b]?:=λb _ hb=>by rw[l];exact(ba _ ⟨w.1.size+1,1,none⟩ _ b hb).trans (ba _ ⟨w.1.size+1,0,none⟩ _ b hb));have he:Bx r (w.1.size+1) _ #[(A,n,c),(B,m,d)]:=⟨by rw[l];exact az.bP (Bx.ak (w:=j) (g:=w.1.size+1)) _ _⟩;have O:Bx r G 33 #[(A,n,c),(B,m,d)]:=⟨(M G (Bx.ak (w:=j) (g:=G)).lt J).trans (Bx.ak (w:=j) (g:=G))⟩;have m6:aj r C:=⟨D⟩;have P:u3 r (w.1.size+1) 33:=aq;have U:hj r h A n B m N:=⟨λu hk=>(aq:hj j h A n B m N).o u (Kf.trans xe5 hk)⟩;refine aG hK ?_ ⟨⟨D⟩,O,U,P⟩;clear hK K l;refine bL 17 ?_;refine a9 ?_;go_wp2_with fail;refine aX (v:=.tuple #[.agg #[(A,n,c),(B,m,d)],.bool false]) ?_ rfl ⟨A,n,c,B,m,d,false,rfl,λh=>absurd h am,?_⟩;rw[cF rfl];go_simp;exact aF):=h
def xe3(h:Γ:=by rw[l];exact(ba _ ⟨w.1.size+1,1,none⟩ _ b hb).trans (ba _ ⟨w.1.size+1,0,none⟩ _ b hb)):=h
def xe4(h:Γ:=by have h1:w.1.size+1<u1:=(aq:Bx u1 (w.1.size+1) _ _).ak.lt;omega):=h
def VC[s:Bs w BA R zs][tp:Ts w PA np ps][sx:Sl w XA nx x.1][xx:Sl w XB mx x.2][Le mx dx][cv x.2](Jk:R<=cb)(hb:Hx (∀t∈ps,t.zs.length<=17592186043904/\t.xs.length<=17592186043904))(pt:Hx (∀t∈ps,t.zs.length<=t.c))(F:np<=140737488351232)(hx:nx<=17592186043904/\mx<=17592186043904):
  () 7 #[.agg #[(BA,R,cb),(PA,np,cp),(XA,nx,cx),(XB,mx,dx),pl,cap]] w (Y7 w zs ps x cap):=by
 have CB:=@ay;have FB:=@aO;have HNB:Hx (R=zs):=s.len;have Jm:Hx (np=ps):=tp.len;have vn:Hx (nx=x.1/\mx=x.2):=ae ⟨sx.len,xx.len⟩;have V:Hx (∀t∈[(⟨XA,cx,x.1,XB,dx,x.2⟩:Tn)],t.zs.length<=17592186043904/\t.xs.length<=17592186043904):=λt ht=>by rw[cZ]at ht;subst ht;show x.1.length<=_/\x.2.length<=_;rw[<-sx.len,<-xx.len];exact hx
 obtain⟨Z1,Kz⟩:=lh (I4 ps);obtain⟨Z2,hZ2⟩:=lh (I4 [(⟨XA,cx,x.1,XB,dx,x.2⟩:Tn)]);obtain⟨T,hT⟩:=lh (wrap64 (Z1+Z2));have I:=ae Kz;have Z:=ae hZ2;have HT:Hx (wrap64 (I4 ps+I4 [(⟨XA,cx,x.1,XB,dx,x.2⟩:Tn)])=T):=ae (by rw[Kz,hZ2];exact hT);have IF:IntKind.i64.wrap (Z1+Z2)=T:=by rw[<-hT,a7];unfold wrap64;rfl
 clear Kz hZ2 hx;by_cases h1:600<R
 .have g1:decide ((600:Int)<(R:Int))=true:=by simp;omega
  clear hT IF;go_in;go_upto_region 1 with fail;refine dg (λY p0 k1 k2=>?_);refine ab Y ao (λy _=>?_);refine qL [0,1,2,3,4,505,506,507,508,509,510,511,512,513,14,15,516,517,518,19,20,521,522,523,24] ?_;refine a9 ?_;go_wp2_with fail;refine aX (v:=.tuple #[.agg #[(),()],.bool false]) ?_ rfl ⟨none,0,0,none,0,0,false,rfl,λh=>absurd h am,?_⟩;exact xe2;exact ek (cz _)
 have g1:decide ((600:Int)<(R:Int))=false:=by simp;omega
 have qk:R<=1000:=om;have Ks:Hx (R<=600):=ae om;clear h1;by_cases h2:700<T
 .have g2:decide (700<T)=true:=by simpa using h2
  clear h2;go_in;go_upto_region 1 with fail;refine dg (λY p0 k1 k2=>?_);refine ab Y ao (λy _=>?_);refine qL [0,1,2,3,4,5,6,8,9] ?_;refine qr 7 10 (λK hK=>?_) (λK hK=>?_);(focus go_simp;refine(fm hb F I).mono ?_;rintro e y ⟨rfl,_⟩;dsimp only;refine aG hK<|aK 10 λK hK=>?_;go_simp;refine aG hK<|bc (λy _ _=>?_));rotate_left;(focus go_simp;refine aG hK<|bc (λy _ _=>?_);refine aK 7 λK hK=>?_;go_simp;refine(fm hb F I).mono ?_;rintro e y ⟨rfl,_⟩;dsimp only;refine aG hK ?_);all_goals refine aK 11 λK hK=>?_;go_simp;refine(fm (np:=1) V om Z).mono ?_;rintro e y ⟨rfl,_⟩;dsimp only;refine aG hK ?_;refine qL [12,13,14,15,516,517,518,19,20,521,522,523,24] ?_;refine a9 ?_;go_wp2_with fail;refine aX (v:=.tuple #[.agg #[(),()],.bool false]) ?_ rfl ⟨none,0,0,none,0,0,false,rfl,λh=>absurd h am,?_⟩;exact xe2;exact ek (cz _)
 have g2:decide (700<T)=false:=by simpa using h2
 have Y9:Hx (T<=700):=ae om;clear h2;by_cases h3:cap<0
 .have g3:decide (cap<0)=true:=by simpa using h3
  clear h3;go_in;go_upto_region 1 with fail;refine dg (λY p0 k1 k2=>?_);refine ab Y ao (λy _=>?_);refine qL [0,1,2,3,4,5,6,8,9] ?_;refine qr 7 10 (λK hK=>?_) (λK hK=>?_);(focus go_simp;refine(fm hb F I).mono ?_;rintro e y ⟨rfl,_⟩;dsimp only;refine aG hK<|aK 10 λK hK=>?_;go_simp;refine aG hK<|bc (λy _ _=>?_));rotate_left;(focus go_simp;refine aG hK<|bc (λy _ _=>?_);refine aK 7 λK hK=>?_;go_simp;refine(fm hb F I).mono ?_;rintro e y ⟨rfl,_⟩;dsimp only;refine aG hK ?_);all_goals refine aK 11 λK hK=>?_;go_simp;refine(fm (np:=1) V om Z).mono ?_;rintro e y ⟨rfl,_⟩;dsimp only;refine aG hK ?_;refine qL [12,13,14,15,16,17,18,19,20,521,522,523,24] ?_;refine a9 ?_;go_wp2_with fail;refine aX (v:=.tuple #[.agg #[(),()],.bool false]) ?_ rfl ⟨none,0,0,none,0,0,false,rfl,λh=>absurd h am,?_⟩;exact xe2;exact ek (cz _)
 have g3:decide (cap<0)=false:=by simpa using h3
 have HC0:Hx (0<=cap):=ae om;clear h3;by_cases h4:16777216<cap
 .have g4:decide (16777216<cap)=true:=by simpa using h4
  clear h4;go_in;go_upto_region 1 with fail;refine dg (λY p0 k1 k2=>?_);refine ab Y ao (λy _=>?_);refine qL [0,1,2,3,4,5,6,8,9] ?_;refine qr 7 10 (λK hK=>?_) (λK hK=>?_);(focus go_simp;refine(fm hb F I).mono ?_;rintro e y ⟨rfl,_⟩;dsimp only;refine aG hK<|aK 10 λK hK=>?_;go_simp;refine aG hK<|bc (λy _ _=>?_));rotate_left;(focus go_simp;refine aG hK<|bc (λy _ _=>?_);refine aK 7 λK hK=>?_;go_simp;refine(fm hb F I).mono ?_;rintro e y ⟨rfl,_⟩;dsimp only;refine aG hK ?_);all_goals refine aK 11 λK hK=>?_;go_simp;refine(fm (np:=1) V om Z).mono ?_;rintro e y ⟨rfl,_⟩;dsimp only;refine aG hK ?_;refine qL [12,13,14,15,16,17,18,19,20,21,22,23,24] ?_;refine a9 ?_;go_wp2_with fail;refine aX (v:=.tuple #[.agg #[(),()],.bool false]) ?_ rfl ⟨none,0,0,none,0,0,false,rfl,λh=>absurd h am,?_⟩;exact xe2;exact ek (cz _)
 have g4:decide (16777216<cap)=false:=by simpa using h4
 have Gt:Hx (cap<=16777216):=ae om;clear h4;obtain⟨E,HE⟩:=kS (QT zs);obtain⟨N,HN⟩:=kS (Mc zs);go_in;go_upto_region 1 with fail;refine pN (λC Y pz p0 kz hz k1=>?_);go_cut [30] (λs30 wx=>s30=.bool false/\aj wx Y);case first=>refine ab Y ao (λy _=>?_);refine qL [0,1,2,3,4,5,6,8,9] ?_;refine qr 7 10 (λK hK=>?_) (λK hK=>?_);(focus go_simp;refine(fm hb F I).mono ?_;rintro e y ⟨rfl,_⟩;dsimp only;refine aG hK<|aK 10 λK hK=>?_;go_simp;refine aG hK<|bc (λy _ _=>?_));rotate_left;(focus go_simp;refine aG hK<|bc (λy _ _=>?_);refine aK 7 λK hK=>?_;go_simp;refine(fm hb F I).mono ?_;rintro e y ⟨rfl,_⟩;dsimp only;refine aG hK ?_);all_goals refine aK 11 λK hK=>?_;go_simp;refine(fm (np:=1) V om Z).mono ?_;rintro e y ⟨rfl,_⟩;dsimp only;refine aG hK ?_;refine qL [12,13,14,15,16,17,18,19,20,21,22,23,24] ?_;refine a9 ?_;go_wp2_with fail;go_meet;exact bB
 obtain⟨rfl,_⟩:=hcut;obtain⟨y,rfl⟩:=lg wc;by_cases h0:E=0;rotate_left
 .have b0:(E !=0)=true:=by simp[h0]
  have b1:(E==0)=false:=by simp[h0]
  go_upto_region 4 with(go_at_call 16;refine(Bz qk Jk HE HN).mono ?_;rintro e u1 h9;obtain⟨rfl,_⟩:=(h9.resolve_left λk=>h0 k.1).2);refine aE (λu2 p2 k3=>?_);obtain⟨G,hG⟩:=lh u1.1.size;have J:G≠w+1:=xe4;rw[hG]at k3⊢;clear h0;refine a6 C (λQ=>Bx Q G 33 #[(),()]/\u3 Q (w.1.size+1) 33) ao ⟨aq,aq⟩ (λj _=>?_);refine bT 0 ?_;refine bT 1 ?_;refine bT 2 ?_;refine bT 3 ?_;refine fA 4 ?_;refine fA 5 ?_;refine bT 6 ?_;refine bT 7 ?_;refine fA 8 ?_;refine fA 9 ?_;refine fA 10 ?_;refine fA 11 ?_;refine fA 12 ?_;refine fA 13 ?_;refine fA 14 ?_;refine bT 15 ?_;refine aK 16 λK hK=>?_;obtain⟨z0,z1,q9⟩:=(aq:u3 j (w.1.size+1) 33).o;have kt9:Bx j (w.1.size+1) 33 #[z0,z1]:=⟨q9⟩;go_simp;obtain⟨r,l⟩:=lg ((j.setCell (w.1.size+1,0) ()).setCell (w.1.size+1,1) ());rw[<-l];(have D:Below (World.heap C).size C r:=by rw[l];exact br (aP C j) hz _ _);have M:∀b,b<j.1.size->b≠w.1.size+1->(World.heap r)[b]?=j.heap[b]?:=λb _ hb=>xe3;have he:Bx r (w.1.size+1) _ #[(),()]:=⟨by rw[l];exact az.bP (Bx.ak (w:=j) (g:=w.1.size+1)) _ _⟩;have O:Bx r G 33 #[(),()]:=⟨(M G (Bx.ak (w:=j) (g:=G)).lt J).trans (Bx.ak (w:=j) (g:=G))⟩;have m6:aj r C:=⟨D⟩;have P:u3 r (w.1.size+1) 33:=aq;refine aG hK ?_ ⟨⟨D⟩,O,P⟩;clear hK K l;refine bT 17 ?_;refine a9 ?_;go_wp2_with fail;refine aX (v:=.tuple #[.agg #[(),()],.bool false]) ?_ rfl ⟨none,0,0,none,0,0,false,rfl,λh=>absurd h am,?_⟩;exact xe2;exact aF
 subst h0;have L:=Y8 s.all (by rw[<-s.len];exact qk) HE;rw[HN.o]at L;have HF:=ae L.1;have S:=ae L.2.1;have wq:=ae L.2.2;clear L;go_upto_region 4 with(go_at_call 16;refine(Bz qk Jk HE HN).mono ?_;rintro e u1 h9;obtain⟨A,n,c,B,m,d,rfl,aN,EU,H7,_,k9⟩:=(h9.resolve_right λk=>k.1 rfl).2);refine aE (λu2 p2 k3=>?_);obtain⟨G,hG⟩:=lh u1.1.size;have J:G≠w+1:=xe4;rw[hG]at k3⊢;obtain⟨h,hh⟩:=lh y.1.size;rw[hh]at k9;replace hh:w.1.size+1<h:=by have h1:w.1.size+1<y.1.size:=(aq:Bx y (w.1.size+1) _ _).ak.lt;omega
 have nk1:hj u1 h A n B m N:=⟨k9⟩;clear k9;obtain⟨f1,X⟩:=lh (Bn N);cases f1 with
 |false=>refine a6 C (λQ=>Bx Q G 33 #[(A,n,c),(B,m,d)]/\hj Q h A n B m N/\u3 Q (w.1.size+1) 33) ao ⟨aq,aq,aq⟩ (λj _=>?_);refine bL 0 ?_;refine bL 1 ?_;refine bL 2 ?_;refine bL 3 ?_;refine bL 4 ?_;refine aK 5 λK hK=>?_;obtain aN5:aW j A n B m N:=(aq:hj j h A n B m N).o _ (Kf.refl _ _);go_simp;refine(Bp HF S).mono ?_;rintro e j ⟨rfl,_⟩;dsimp only;refine aG hK ?_ ⟨aR C _,⟨aq,aq,aq⟩⟩;rw[X];refine bL 6 ?_;refine bL 7 ?_;refine fA 8 ?_;refine fA 9 ?_;refine fA 10 ?_;refine fA 11 ?_;refine fA 12 ?_;refine fA 13 ?_;refine fA 14 ?_;exact xe0
 |true=>
  obtain⟨hp3,-⟩:=w9 X;have PI:np=(bH N).length->(ot ps<=700/\nM (⟨XA,cx,x.1,XB,dx,x.2⟩:Tn)<=700):=λe=>Jl hb (V.o _ (cZ.2 rfl)) (by rw[<-Jm.o];omega) (by rw[HT.o];exact Y9);by_cases z:U5 N (ps.map Tn.tv) x
  .have xp:np=(bH N).length:=by rw[<-z.1,bj,bj];exact Jm
   have Z6:Hx (wu N zs ps x cap):=ae ⟨HF,S,wq,X,z,HC0,Gt,by rw[<-HNB.o];exact Ks.o,HE,HN⟩;have lZ:Hx (eB ps):=Z6.o.ok pt;have Za:Hx ((ps.map Tn.tv).map (·.1)=bH N):=z.1;have HXF:Hx (x.1=N.dV):=z.2.2.2;have hr:=z.2.2.1;have hpn:np<=100000000:=om;clear z PI xp hp3;refine a6 C (λQ=>Bx Q G 33 #[(A,n,c),(B,m,d)]/\hj Q h A n B m N/\u3 Q (w.1.size+1) 33) ao ⟨aq,aq,aq⟩ (λj _=>?_);refine bL 0 ?_;refine bL 1 ?_;refine bL 2 ?_;refine bL 3 ?_;refine bL 4 ?_;refine aK 5 λK hK=>?_;obtain aN5:aW j A n B m N:=(aq:hj j h A n B m N).o _ (Kf.refl _ _);go_simp;refine(Bp HF S).mono ?_;rintro e j ⟨rfl,_⟩;dsimp only;refine aG hK ?_ ⟨aR C _,⟨aq,aq,aq⟩⟩;rw[X];refine bL 6 ?_;refine bL 7 ?_;refine bL 8 ?_;refine bL 9 ?_;refine bL 10 ?_;refine bL 11 ?_;refine bL 12 ?_;refine aK 13 λK hK=>?_;obtain acC:aW j A n B m N:=(aq:hj j h A n B m N).o _ (Kf.refl _ _);go_simp;refine(Bl HF S wq Za lZ HXF hr hpn).mono ?_;rintro e j ⟨rfl,_⟩;dsimp only;refine aG hK ?_ ⟨aR C _,⟨aq,aq,aq⟩⟩;refine bL 14 ?_;refine bL 15 ?_;refine aK 16 λK hK=>?_;obtain⟨z0,z1,q9⟩:=(aq:u3 j (w.1.size+1) 33).o;have kt9:Bx j (w.1.size+1) 33 #[z0,z1]:=⟨q9⟩;go_simp;obtain⟨r,l⟩:=lg ((j.setCell (w.1.size+1,0) (A,n,c)).setCell (w.1.size+1,1) (B,m,d));rw[<-l];(have D:Below (World.heap C).size C r:=by rw[l];exact br (aP C j) hz _ _);have M:∀b,b<j.1.size->b≠w.1.size+1->(World.heap r)[b]?=j.heap[b]?:=λb _ hb=>xe3;have he:Bx r (w.1.size+1) _ #[(A,n,c),(B,m,d)]:=⟨by rw[l];exact az.bP (Bx.ak (w:=j) (g:=w.1.size+1)) _ _⟩;have O:Bx r G 33 #[(A,n,c),(B,m,d)]:=⟨(M G (Bx.ak (w:=j) (g:=G)).lt J).trans (Bx.ak (w:=j) (g:=G))⟩;have m6:aj r C:=⟨D⟩;have P:u3 r (w.1.size+1) 33:=aq;have U:hj r h A n B m N:=⟨λu hk=>(aq:hj j h A n B m N).o u (Kf.trans xe5 hk)⟩;refine aG hK ?_ ⟨⟨D⟩,O,U,P⟩;clear hK K l;refine bL 17 ?_;refine a9 ?_;go_wp2_with fail;refine aX (v:=.tuple #[.agg #[(A,n,c),(B,m,d)],.bool true]) ?_ rfl ⟨A,n,c,B,m,d,true,rfl,λ_=>⟨N,Z6,U.o _ (Kf.refl _ _),EU,H7⟩,?_⟩;exact xe2;exact aF
  have HNO:=ae z;(have qi:np=(bH N).length->nx<=1000000:=λe=>by have h9:=(PI e).2;unfold nM at h9;dsimp only at h9;rw[vn.o.1];omega);(have HOZ:Hx (np=(bH N).length->∀t∈ps,t.zs.length<=1000000):=ae λe t ht=>by have h8:=QY ht;have h9:=(PI e).1;unfold nM at h8;omega);clear z PI hp3;refine a6 C (λQ=>Bx Q G 33 #[(A,n,c),(B,m,d)]/\hj Q h A n B m N/\u3 Q (w.1.size+1) 33) ao ⟨aq,aq,aq⟩ (λj _=>?_);refine bL 0 ?_;refine bL 1 ?_;refine bL 2 ?_;refine bL 3 ?_;refine bL 4 ?_;refine aK 5 λK hK=>?_;obtain aN5:aW j A n B m N:=(aq:hj j h A n B m N).o _ (Kf.refl _ _);go_simp;refine(Bp HF S).mono ?_;rintro e j ⟨rfl,_⟩;dsimp only;refine aG hK ?_ ⟨aR C _,⟨aq,aq,aq⟩⟩;rw[X];refine bL 6 ?_;refine bL 7 ?_;refine bL 8 ?_;refine bL 9 ?_;refine bL 10 ?_;refine bL 11 ?_;refine bL 12 ?_;refine aK 13 λK hK=>?_;obtain acC:aW j A n B m N:=(aq:hj j h A n B m N).o _ (Kf.refl _ _);go_simp;refine(I3 HF S wq HOZ qi HNO).mono ?_;rintro e j ⟨rfl,_⟩;dsimp only;refine aG hK ?_ ⟨aR C _,⟨aq,aq,aq⟩⟩;refine bL 14 ?_;exact xe0
variable{H:Type}{enc:TypeId×Value->H}{W:World}{base:Nat}{held:Bool}{z:Int}{v:Value}
section
open Go.RowKit Go.ChangeShapes Go.WideShapes Go.Deep
def wf_u8(h:(Lit.int .u8 z).wf=true):0<=z/\z<256:=by
 have:=bounds_u8 h;omega
def xa{x:DataW H×List MemPlace}(h:DataW.trod enc prog W base (λ_=>true) held m 22 [v]=some x):∃A c zs,v=.slice A (List.length zs) c/\Bs W A (List.length zs) zs/\zs.length<=c:=by
 rcases open_ints underlying22 underlying5 ao h with⟨u,_⟩|⟨a,l,c,zs,u,_,G,hm,E,_,e,B⟩;cases u;exact⟨none,0,[],rfl,⟨λj z y=>by simp at y,rfl⟩,al _⟩;cases u;simp only[yn]at E;refine⟨some a,c,zs.take l,by simp[E,dQ G],⟨λj z y=>?_,rfl⟩,by simp;omega⟩;have C:j<zs.length:=by have:=(a8.1 y).1;simp at this;omega
 have F:zs[j]?=some z:=by rw[eG]at y;split at y;exact y;cases y
 have D:zs.getD j 0=z:=by simp[List.getD,F]
 have r:=e j C;rw[D]at r;obtain⟨b,off,rfl⟩:=yY (show W.cell? (a.add 0)=some _ from e 0 om);rw[add_plain]at r;exact⟨b,off,rfl,Es W _ r,r,wf_u8 (B z (aC F))⟩
def Md{d:DataW H}{p:List MemPlace}(b:Value.okWide prog W .any m 22 v)(h:DataW.Trod enc prog W base (λ_=>true) held 22 v d p):∃A c zs,v=.slice A (List.length zs) c/\Bs W A (List.length zs) zs/\zs.length<=c:=by
 obtain⟨a,l,c,rfl⟩:=okWide_slice underlying22 b;obtain⟨e,j⟩:=h;exact xa j
def GO{d:DataW H}{p:List MemPlace}(b:Value.okWide prog W .any m 30 v)(h:DataW.Trod enc prog W base (λ_=>true) held 30 v d p)(j:Wt 30 d):
  ∃u cb zs PA cp ps XA cx l XB dx xs pl cap,v=.agg #[.slice u (List.length zs) cb,.slice PA (List.length ps) cp,.slice XA (List.length l) cx,.slice XB (List.length xs) dx,.int .i64 pl,.int .i64 cap]/\
   Bs W u zs.length zs/\zs.length<=cb/\RG W PA cp ps/\kL W XA cx l/\kL W XB dx xs/\l.length<=iY/\xs.length<=iY:=by
 obtain⟨cs,rfl,y⟩:=okWide_struct underlying30 b;obtain⟨q0,I,J,K,L,q5,rfl⟩:=abl (y.trans ao);obtain⟨G,r⟩:=h;obtain⟨_,_,z,-⟩:=Hb underlying30 r j 0 _ rfl;obtain⟨_,_,B,M⟩:=Hb underlying30 r j 1 _ rfl;obtain⟨_,_,C,N⟩:=Hb underlying30 r j 2 _ rfl;obtain⟨_,_,D,-⟩:=Hb underlying30 r j 3 _ rfl;obtain⟨_,_,E,-⟩:=Hb underlying30 r j 4 _ rfl;replace z:DataW.trod enc prog W base (λ_=>true) held _ 22 [q0]=some _:=z;replace B:DataW.trod enc prog W base (λ_=>true) held _ 23 [I]=some _:=B;replace C:DataW.trod enc prog W base (λ_=>true) held _ 28 [J,K]=some _:=C;replace D:DataW.trod enc prog W base (λ_=>true) held _ 3 [L]=some _:=D;replace E:DataW.trod enc prog W base (λ_=>true) held _ 3 [q5]=some _:=E;obtain⟨u,cb,zs,rfl,bs,hb⟩:=xa z;obtain⟨PA,cp,ps,rfl,O⟩:=Ha B M;obtain⟨XA,cx,l,XB,dx,xs,e,P,i1,Q,l1⟩:=wD C rfl N;injection e with R F;injection F with F _;subst R F;obtain⟨pl,rfl,-⟩:=yI underlying3 D;obtain⟨cap,rfl,-⟩:=yI underlying3 E;exact⟨u,cb,zs,PA,cp,ps,XA,cx,l,XB,dx,xs,pl,cap,rfl,bs,hb,O,P,i1,Q,l1⟩
end
end Go.Proofs.YtmkjnlifimffkaaGreat
