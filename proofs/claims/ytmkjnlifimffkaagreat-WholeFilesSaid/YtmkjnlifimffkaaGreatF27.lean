/- Lemmas. -/
import Derived.Test.YtmkjnlifimffkaaGreatF26
import Derived.Test.YtmkjnlifimffkaaGreatF25
namespace Go.Proofs.YtmkjnlifimffkaaGreat
open Go.RowKit Tryz
set_option linter.all false
set_option maxRecDepth 100000
set_option maxHeartbeats 0
section
variable{p u w':World}{A A':Option Addr}{b c c' g q:Nat}{zs:List Int}{F':Nat->Prop}{E:Int}{z0 z1:Value}
def qI(x:Nd):List Value:=Ng x.o (.slice x.A x.n x.c) (.slice x.I x.ni x.ci) (.slice x.P x.np x.cp)
structure oZ(w:World)(B:Nat)(A:Option Addr)(c:Nat)(xs:List Nd):Prop where
 row:aI w B 84 10 A c xs.length (xs.flatMap qI)
 el:∀x∈xs,pN B w x
 ne:∀x∈xs,∀b,NF x b->¬AF A b
def GC(zs:av):Int:=if t7 zs=0 then(match(ot (zs.take (zs.length-4))).nd.2 with|none=>16|some R=>if(ot (zs.take (zs.length-4))).m4.1=1096042545 then(if R=[]then a6 (rA (zs.take (zs.length-4)))else 10)else 10)else t7 zs
def t8(zs:av):aU:=rA (zs.take (zs.length-4))
def aah(w:ay)(N:aU)(e:Ending)(w':ay):Prop:=∃A n c B m d,e=.returned (.tuple #[.agg #[.slice A n c,.slice B m d],au])/\aQ w' A n B m N/\n<=c/\m<=d/\aj w' w/\∀u,Kf (λb=>b<w.1.size) (λb=>b<w.1.size) w' u->aQ u A n B m N
section
variable{w:World}{n o k B:Nat}{xs:List Nd}{x:Nd}{F:Nat->Prop}
def Lp:∀(xs:List Nd) (j:Nat) (x:Nd),xs[j]?=some x->∀k,k<10->(xs.flatMap qI)[j*10+k]?=(qI x)[k]?
 |[],j,x,h,_,_=>by simp at h
 |y::t,0,x,h,k,hk=>by
  rw[List.getElem?_cons_zero]at h;obtain rfl:=cn h;rw[g8,jt,bX,lI (by show k<10;exact hk)]
 |y::t,j+1,x,h,k,hk=>by
  rw[nh]at h;have e:=Lp t j x h k hk;rw[g8,ew (by show 10<=_;omega),<-e];congr 1
  show(j+1)*10+k-10=_
  omega
def oZ.nil(w:ay)(B:Nat):oZ w B none 0 []:=⟨⟨rfl,.inl ⟨rfl,rfl⟩⟩,λt ht=>(by cases ht),λt ht=>(by cases ht)⟩
def oZ.kf(h:oZ w B A c xs)(e:Kf F F' w w')(hF:∀b,B<=b->¬F b):oZ w' B A c xs:=
 ⟨e.row h.row λb hb=>hF b (h.row.af hb).1,λx j=>(h.el x j).kf e λb hb=>hF b ((h.el x j).lo b hb),h.ne⟩
def oZ.at(h:oZ w B A c xs)[aF w w']:oZ w' B A c xs:=h.kf (F:=λ_=>False) (Kf.later _) λ_ _ h=>h
def oZ.push(h:oZ w B A c xs)(r:pN B w x)(z:∀b,NF x b->¬AF A b)(m:cP A A' w w')(hr:aI w' B 84 10 A' c' (xs.length+1) (xs.flatMap qI++qI x)):oZ w' B A' c' (xs++[x]):=by
 have j:∀y∈xs++[x],∀b,NF y b->¬AF A b:=λy hy b hb=>by
  rcases bJ.1 hy with hy|hy
  .exact h.ne y hy b hb
  .rw[cF.1 hy]at hb;exact z b hb
 have l:∀y∈xs++[x],pN B w y:=λy hy=>by
  rcases bJ.1 hy with hy|hy
  .exact h.el y hy
  .rw[cF.1 hy];exact r
 refine⟨?_,λy hy=>(l y hy).kf (Kf.hD m) (j y hy),λy hy b hb C=>?_⟩
 .rw[a1,jr];simpa using hr
 .obtain⟨D,e,rfl⟩:=C;rcases m.new D e with⟨a0,E,G⟩|h9
  .exact j y hy _ hb ⟨a0,E,G.symm⟩
  .have:=(l y hy).hi _ hb;omega
def oZ.rd(h:oZ w B A c xs):W0 w A xs:=λj x r=>by
 have hm:=aC r;have l:=h.el x hm;have y:∀k v,(qI x)[k]?=some v->∃g,A=some ⟨g,0,none⟩/\w.cell? (g,j*10+k)=some v:=λk v hv=>h.row.cell (by
  rw[Lp xs j x r k (by have:=(a5.1 hv).1;exact this)];exact hv)
 obtain⟨g,e,-⟩:=y 0 _ rfl;refine⟨g,0,e,(h.row.af ⟨_,e,rfl⟩).2.1,λk v hv=>?_,l.s,l.i,l.p,l.ls,l.li,l.lp,l.k6⟩;obtain⟨C,m,z⟩:=y k v hv;rw[e]at m;injection m with m
 injection m with m
 subst m;rw[bX];exact z
def Og:∀u∈qI x,u.oneCell'=true:=λu hu=>by
 simp only[qI,Ng,bT,kG,lN]at hu;rcases hu with rfl|rfl|rfl|rfl|rfl|rfl|rfl|rfl|rfl|rfl<;>rfl
def Oh(c:Nat):oq c none=([],none):=by cases c<;>rfl
def Oi{k:Nat}{n:Int}(h:0<k):0<(bF k n).length:=by rw[ir];exact h
def Oj(v:dV):0<(mg v).length:=by
 unfold mg;simp only[a1];have:=Oi (k:=1) (n:=v.o.kd) ak;omega
def BB:∀l:List dV,l<=(l.flatMap mg).length
 |[]=>an _
 |v::t=>by
  rw[g8,a1,dm];have:=Oj v;have:=BB t;omega
def BC{L:av}(hb:iy L)(C:L.length<=1000)(hm:(ot L).m4.1=1096042545)(l:(ot L).nd.2=some []):(rA L).fits/\(rA L).small:=by
 obtain⟨m,D,E,e⟩:=Lj hb hm l;have r:(rA L).nodes.length<=1000:=by
  have j:=cv List.length m;unfold ka at j;simp only[a1]at j;have:=BB (rA L).nodes;omega
 exact⟨⟨om,om,λv hv=>⟨by have:=(e v hv).i;omega,by have:=(e v hv).s;omega,by have:=(e v hv).p;omega,λz y=>by have:=(e v hv).ps z y;omega⟩⟩,r,λv hv=>by have:=(e v hv).i;omega⟩
def GD[s:Bs w A n zs](y:n<=4000)(l:n<=c)(hE:Hx (t7 zs=E))(r:E≠0):() 45 #[(A,n,c)] w (aD w (.tuple #[.pointer none,E])):=by
 have j:=hE.o;by_cases m:n<8
 .rw[t7,ah (by rw[<-s.len];exact m)]at j;subst j;exact Of m
 .refine(y4 y l om hE).mono ?_;intro e w' h;rw[ag r]at h;rw[t7,ag (by rw[<-s.len];exact m)]at j
  split at j
  .exact absurd j.symm r
  .subst j;exact h
def GF[s:Bs w A n zs](m:n<=4000)(j:n<=c)(hE:Hx (t7 zs=0)):() 45 #[(A,n,c)] w (SB w (zs.take (n-4))):=by
 have r:8<=n:=by
  have l:=hE.o;unfold t7 at l
  split at l
  .cases l
  .rename_i h;rw[s.len];omega
 refine(y4 m j r hE).mono ?_;intro e w' h;rw[ah rfl]at h;exact h
def kf2:Kf (λb=>b=q) (λb=>b=q) u ((u.setCell (q,0) z0).setCell (q,1) z1):=
 ((Kf.refl (λb=>b=q) u).ax (q:=⟨q,0,none⟩) rfl z0).ax (q:=⟨q,1,none⟩) rfl z1
theorem dT[aF w u](hq:w<=q):aj ((u.setCell (q,0) z0).setCell (q,1) z1) w:=kf2.prev λb e=>by rw[e];exact hq
def rC[s:Bs w A n zs](hn:n<=1000)(CC:n<=c)(hE:Hx (GC zs=E)){N:aU}(hN:Hx (t8 zs=N)):
  () 16 #[(A,n,c)] w (λe w'=>(E=0/\aah w N e w')\/(E≠0/\aD w (.tuple #[.agg #[(),()],E]) e w')):=by
 have CB:=@aa;have FB:=@aP;have I:=hE.o;have hv:=hN.o;unfold GC at I;unfold t8 at hv;rw[<-s.len]at I hv;by_cases hr:t7 zs=0;rotate_left
 .rw[ag hr]at I;have HR:=ae I;rw[I]at hr;have b0:(E !=0)=true:=by simp[hr]
  clear I hv
  go_in
  go_upto_region 1 with fail
  refine aw (λu0 CX k0=>?_)
  go_wp2_with (go_at_call 45;refine mv (GD om CC HR hr) λu1 _=>?_)
  refine a8 (v:=.tuple #[.agg #[(),()],.int .i64 (E)]) ?_ rfl ?_
  .rw[b8 rfl];go_simp
  .first|exact .inr ⟨by assumption,rfl,dT (an _)⟩|exact⟨rfl,dT (an _)⟩
 rw[ah hr]at I;have HRD:=ae hr;obtain⟨L,hL⟩:=lh (zs.take (n-4));rw[hL]at I hv;have Gd:=ae hL;have hLb:iy L:=λz hz=>s.all z (by rw[<-hL]at hz;exact cG hz);have Ag:L.length<=1000:=by rw[<-hL,bB];omega
 obtain⟨⟨mk,o1⟩,h1⟩:=lh (bk 4 (some L));obtain⟨⟨is,o2⟩,h2⟩:=lh (lH o1);obtain⟨⟨cn,o3⟩,h3⟩:=lh (bk 2 o2);obtain⟨⟨ns,o4⟩,h4⟩:=lh (oq cn.toNat o3);have Sd:oX (some L):=λL' e=>by cases e;exact hLb
 have by1:=Sd.get 4;rw[h1]at by1;have by2:=by1.1.sh;rw[h2]at by2;have J:=by2.get 2;rw[h3]at J;dsimp only at J;have e2:(256:Int)^2=65536:=by decide
 rw[e2]at J;obtain⟨d,rfl⟩:=cf J.2.1;rw[bI]at h4;have hd:d<65536:=by have:=J.2.2;omega
 have a1:(ot L).m4=(mk,o1):=h1;have a2:(ot L).dd=(is,o2):=by show lH (bk 4 (some L)).2=_;rw[h1];exact h2
 have a3:(ot L).c=((d:Int),o3):=by show bk 2 (lH (bk 4 (some L)).2).2=_;rw[h1,h2];exact h3
 have a4:(ot L).nd=(ns,o4):=by show oq (ot L).c.1.toNat (ot L).c.2=_;rw[a3,bI];exact h4
 have a5:rA L=⟨is,ns⟩:=by unfold rA;rw[a2,a4]
 have vr:Hx (mk=1096042545->o4=some []->(rA L).fits/\(rA L).small):=λm1 m2=>BC hLb Ag (by rw[a1];exact m1) (by rw[a4];exact m2);rw[a4,a1]at I;dsimp only at I;rw[hv]at I a5;have M:=ae a5;rw[hv]at vr;have HX:=ae I;have H1:=ae h1;have H2:=ae h2;have H3:=ae h3;have H4:=ae h4;clear I hv hr hL hLb h1 h2 h3 h4 Sd by1 by2 J e2 a1 a2 a3 a4 a5
 go_in
 go_upto_region 1 with fail
 refine aw (λu0 CX k0=>?_)
 go_upto_region 4 with(go_at_call 45;refine(GF om CC HRD).mono ?_;rintro e u1 ⟨g,p,rfl,pp,Sa,su⟩)
 rw[Gd.o]at Sa;have CY:=Sa.o.hg
 go_upto_region 5 with(go_at_call 46;refine(eF (k:=4) (y:=4) Sa rfl ak ak H1).mono ?_;rintro e u2 ⟨rfl,Ff,kR,q8⟩)
 go_upto_region 6 with(go_at_call 47;refine(t6 Ff H2).mono ?_;rintro e u3 ⟨O,cS,rfl,vo,Sn,HR3,q7,Sm⟩)
 refine aw (λv pv k1=>?_);obtain⟨P,SC⟩:=lg u3.1.size;rw[<-SC]at k1⊢;have yx:=HR3.o.hg;have pJ:Hx (eJ 33 p v v v g P o2 #[.slice O is cS,()]):=ae ⟨HR3.o.at,Kf.refl _ _,Kf.refl _ _,k1.al,om,om,k1.al.lt,an _⟩;have rq:=k1.al.lt;have zS:g<v.1.size:=om;have F3:Hx (Rd v O is/\∀b,AF O b->w.1.size<b/\b≠g/\b≠P/\b<v.1.size):=ae ⟨vo.rd.below (a7 u3 v),λb hb=>by
  have q1:=vo.lo b hb;have q2:=vo.hi b hb;have q3:=Ff.o.hg;have q4:w.1.size<u0.1.size:=k0.al.lt;have q5:u0.1.size<=p.1.size:=ai;omega⟩
 have Sq:=ae Sn;clear SC vo Sn k1
 go_upto_region 7 with(go_at_call 46;refine(eF (k:=2) (y:=2) (ae pJ.o.r) rfl ak ak H3).mono ?_;rintro e U ⟨rfl,HR5,oV,pu5⟩)
 have rv:Hx (eJ 33 p v U U g P o3 #[.slice O is cS,()]):=(pJ.o.get HR5 oV).from_;go_loopw [8] (λs8 wr=>∃(q r:Nat) (xs:List Nd) (Q:cD) (cB:Nat) (o:fa),q+r=d/\xs=q/\s8=.int .u64 (r:Int)/\Hx (eJ 33 p v U wr g P o #[.slice O is cS,(Q,q,cB)])/\Hx (oZ wr U.1.size Q cB xs)/\Hx ((xs.map Nd.val++(oq r o).1,(oq r o).2)=(ns,o4))/\aj wr p) (λs8 _=>(intOf s8).toNat)
 .exact⟨0,d,[],none,0,o3,om,rfl,rfl,rv,ae (oZ.nil _ _),ae (by rw[H4.o];rfl),pu5⟩
 ·
  obtain⟨q,r,xs,Q,cB,o,VV,Jq,rfl,HS,HO,HM,hp⟩:=hrel;obtain⟨v3,fl,NZ,Ol⟩:=HS.o.r.flag;have kbw:Bx wr P 33 #[.slice O is cS,(Q,q,cB)]:=⟨HS.o.bv⟩;subst Jq;by_cases Ju:0<r/\fl=false
  .obtain⟨hr,rfl⟩:=Ju;cases o with
   |none=>cases Ol
   |some L2=>
    obtain⟨r',rfl⟩:∃r',r=r'+1:=⟨r-1,om⟩;obtain⟨⟨V,o'⟩,hG⟩:=lh (yW (some L2));have hm:=HM.o;rw[oq,hG]at hm;dsimp only at hm;have S:decide (0<r'+1)=true:=aG;have mZ:=ae hG;have sw:=ae hm;obtain⟨R1,y3⟩:=lg (r'+1:Nat);rw[<-y3]at S⊢;have wr2:IntKind.u64.wrap ((R1:Int)-1)=(r':Int):=by rw[bg];omega
    have Gt:=ae y3;have vm:xs.length<=100000000:=om;clear hG hm y3 Ol hr
    go_upto_region 9 with fail
    refine aH p aq (λC _=>?_)
    repeat' (first
     |(refine wH 0 ?_
       refine ap 0 ?_;refine uY 2 38 ?_)
     |(refine wH 6 ?_
       refine uY 6 42 ?_)
     |(intro (tg:Tg 1) K hK
       clear tg;go_simp;refine aL hK ?_;clear hK K)
     |(intro (tg:Tg 3) K hK
       clear tg;have pf:=HS.o.at (u':=C);have Jr:=HO.o.at (w':=C);have Gx:U.1.size<=C.1.size:=pf.k2.size;have Gy:∀b,AF Q b->b<C.1.size:=λb hb=>(Jr.row.af hb).2.1;go_simp
       (with_reducible refine(Sc (ae pf.r) mZ).mono ?_)
       rintro e C ⟨x9,rfl,HXV,m,DL,RN,Gu⟩;dsimp only;have Sw:=ae (pf.get DL RN);have Qh:Hx (oZ C U.1.size Q cB xs):=ae (Jr.kf RN (λb hb=>by have:=rv.o.k.size;show¬b=g;omega));have Gz:Hx (pN U.1.size C x9/\∀b,NF x9 b->¬AF Q b):=ae ⟨⟨m.o.s,m.o.i,m.o.p,m.o.ls,m.o.li,m.o.lp,m.o.k6,λb hb=>aO Gx (m.o.lo b hb),m.o.hi⟩,λb hb hx=>by have:=m.o.lo b hb;have:=Gy b hx;omega⟩;have W8:Bx C P 33 _:=⟨Sw.o.bv⟩;clear Gx Gy m;refine aL hK ?_ Gu;clear hK K)
     |(intro (tg:Tg 4) K hK
       clear tg;go_simp;refine aL hK ?_;refine bh (λC _ _=>?_))
     |(intro (tg:Tg 5) K hK
       clear tg;have Sx:=Sw.o.at (u':=C);have Sy:=Qh.o.at (w':=C);have Sz:pN U.1.size C x9:=Gz.o.1.kf (F:=λ_=>False) (F':=λ_=>False) (Kf.later _) λ_ _ h=>h;refine mh aq _ _ _ rfl 84 underlying31 10 128 (.agg #[au,au,au,au,au,au,au,(),(),()]) aq rfl ak ak U.1.size Q cB xs.length (xs.flatMap qI) rfl Sy.row (qI x9) rfl Bx.al rfl Og vm Sx.k2.size ?_;intro A4 c4 C qm Am;have X:=ae (Sx.hD Am (λb hb=>(HO.o.row.af hb).1) zS);have Oe:Hx (oZ C U.1.size A4 c4 (xs++[x9])):=Sy.push Sz Gz.o.2 Am qm;have MF:aj C p:=X.o.prev;have Xb:Bx C P 33 _:=⟨X.o.bv⟩;refine aL hK ?_ MF;clear hK K)
     |(intro (tg:Tg 7) K hK
       clear tg;have MH:=(X.o.at (u':=C)).bv.cell 1;have Ss:=(X.o.at (u':=C)).bv.frozen 1;go_simp;obtain⟨W9,hW9⟩:=lg (C.setCell (P,1) (.slice A4 (xs.length+1) c4));have D:=ae ((X.o.at (u':=C)).set 1 (.slice A4 (xs.length+1) c4));have Gv:Hx (oZ W9 U.1.size A4 c4 (xs++[x9])):=ae ((Oe.o.at (w':=C)).kf (F:=λb=>b=P) (F':=λb=>b=P) (by rw[hW9];exact(Kf.refl (λb=>b=P) C).ax (q:=⟨P,1,none⟩) rfl _) λb hb=>by have:=rv.o.k.size;show¬b=P;omega);rw[<-hW9]at D⊢;have Su:aj W9 p:=D.o.prev;clear hW9 MH Ss;refine aL hK ?_ Su;clear hK K)
     |refine mo 1 ?_
     |refine mo 5 ?_
     |refine mo 7 ?_
     |refine mo 4 ?_
     |refine mo 3 ?_
     |refine uZ 1 3 ?_ ?_
     |refine uZ 1 4 ?_ ?_
     |refine Uq ?_)
    all_goals
     go_wp2_with fail
     exact⟨⟨xs.length+1,r',xs++[x9],A4,c4,o',by have:=Gt.o;omega,aG,rfl,D,Gv,ae (by have:=sw.o;rw[<-this,cJ,dg];show _=(_++V::_,_);rw[<-HXV.o];rfl),D.o.prev⟩,by simp[intOf];have:=Gt.o;omega⟩
  .have Gw:ns=xs.map Nd.val/\o4=o:=by
    have hm:=HM.o;have h8:oq r o=([],o):=by
     rcases Cj r with h9|h9
     .subst h9;rfl
     .cases o with
      |none=>exact Oh r
      |some L=>exact absurd ⟨h9,Ol⟩ Ju
    rw[h8,fG]at hm;injection hm with m1 m2
    exact⟨m1.symm,m2.symm⟩
   obtain⟨Wa,rfl⟩:=Gw;have HNS:=ae Wa;have T:(decide (0<r)=false)\/(decide (0<r)=true/\fl=true):=by
    by_cases h9:0<r
    .exact .inr ⟨by simpa using h9,by cases fl;exact absurd ⟨h9,rfl⟩ Ju;rfl⟩
    .exact .inl (by simpa using h9)
   have sS:Sl wr O is is:=⟨HS.o.k.rd F3.o.1 λb hb=>by have:=F3.o.2 b hb;rintro(e|e)<;>omega,rfl⟩;have aN:aQ wr O is.length Q xs.length N:=⟨by rw[M.o];exact sS,⟨xs,HO.o.rd,by rw[M.o,<-Wa]⟩,by rw[M.o,Wa,br]⟩;have hwp:w.1.size<u0.1.size:=k0.al.lt;have hup:u0.1.size<=p.1.size:=ai;have kr:Bx wr w.1.size 33 #[(),()]:=ao;have HB8:Hx (xs<=cB):=HO.o.row.le;clear Ju Ol HM Wa;cases o4 with
   |none=>
    obtain⟨L9,-,Y⟩:=HS.o.r;have MT:Hx (16=E):=HX;have h0:=MT.o;subst h0;have h0:(16:Int)≠0:=by decide
    have j:Hx (() 49 #[.pointer g] wr (aD wr (16:Int))):=ae (Li (L:=L9) (sh:=true) Y);clear Y;rcases T with S|⟨S,rfl⟩
    all_goals
     go_wp2_with (go_at_call 49;refine mv j.o λZ _=>?_)
     refine a8 (v:=.tuple #[.agg #[(),()],.int .i64 (16)]) ?_ rfl ?_
     .rw[b8 rfl];go_simp
     .first|exact .inr ⟨by assumption,rfl,dT (an _)⟩|exact⟨rfl,dT (an _)⟩
   |some R=>
    have Y:=HS.o.r.2;have MT:Hx ((if mk=1096042545 then if R=[]then a6 N else 10 else 10)=E):=HX;have j:Hx (() 49 #[.pointer g] wr (aD wr (if R=[]then 0 else 10:Int))):=ae (Li (L:=R) (sh:=false) Y);have h9:=MT.o;have l:=j.o;clear Y HX MT j;by_cases hm:mk=1096042545
    .rw[ah hm]at h9;by_cases hR:R=[]
     .rw[ah hR]at h9 l;have j:=ae l;have t9:=ae h9;obtain⟨hfi,LJ⟩:=vr.o hm (by rw[hR]);have HF:=ae hfi;have Xc:=ae LJ;have b1:(mk !=1096042545)=false:=by simp[hm]
      clear l h9 hfi LJ hm hR;by_cases h0:E=0
      .subst h0;rcases T with S|⟨S,rfl⟩
       all_goals
        go_wp2_with (first|(go_at_call 49;refine mv j.o λZ _=>?_)|(go_at_call 40;refine mv (f0 HF Xc t9) λua _=>?_))
        have key:∀Z:World,Kf (λb=>b<=w.1.size) (λb=>b<=w.1.size) ua Z->aQ Z O is.length Q xs.length N:=λZ hk=>by
         have qZ:Sl ua O is is:=ao;have abz:=HO.o.at (w':=ua);have hq:=abz.kf hk λb hb=>by have:=rv.o.k.size;show¬b<=w.1.size;omega
         exact⟨by rw[M.o];exact⟨hk.rd qZ.rd λb hb=>by have:=(F3.o.2 b hb).1;show¬b<=w.1.size;omega,rfl⟩,⟨xs,hq.rd,by rw[M.o,<-HNS.o]⟩,by rw[M.o,HNS.o,br]⟩
        have Vn:=(kf2 (u:=ua) (q:=w.1.size) (z0:=.slice O is cS) (z1:=.slice Q xs cB)).more (G:=λb=>b<=w.1.size) (G':=λb=>b<=w.1.size) (λb h=>by rw[h];exact an _) (λb h=>.inr (.inl h));refine a8 (v:=.tuple #[.agg #[.slice O is cS,.slice Q xs cB],au]) ?_ rfl ⟨O,is.length,cS,Q,xs.length,cB,rfl,key _ Vn,Sq,HB8,dT (an _),λZ hk=>key Z (Vn.trans (hk.more (λb h=>gV h) λb h=>.inr (.inl h)))⟩;rw[b8 rfl];go_simp
      .have b0:(E !=0)=true:=by simp[h0]
       rcases T with S|⟨S,rfl⟩
       all_goals
        go_wp2_with (first|(go_at_call 49;refine mv j.o λZ _=>?_)|(go_at_call 40;refine mv (f0 HF Xc t9) λua _=>?_))
        refine a8 (v:=.tuple #[.agg #[(),()],.int .i64 (E)]) ?_ rfl ?_
        .rw[b8 rfl];go_simp
        .first|exact .inr ⟨by assumption,rfl,dT (an _)⟩|exact⟨rfl,dT (an _)⟩
     .rw[ag hR]at h9 l;subst h9;have h0:(10:Int)≠0:=by decide
      have j:=ae l;have b1:(mk !=1096042545)=false:=by simp[hm]
      clear l hm hR;rcases T with S|⟨S,rfl⟩
      all_goals
       go_wp2_with (go_at_call 49;refine mv j.o λZ _=>?_)
       refine a8 (v:=.tuple #[.agg #[(),()],.int .i64 (10)]) ?_ rfl ?_
       .rw[b8 rfl];go_simp
       .first|exact .inr ⟨by assumption,rfl,dT (an _)⟩|exact⟨rfl,dT (an _)⟩
    .rw[ag hm]at h9;subst h9;have h0:(10:Int)≠0:=by decide
     have b1:(mk !=1096042545)=true:=by simp[hm]
     by_cases hR:R=[]
     .rw[ah hR]at l;have j:=ae l;clear l hm hR;rcases T with S|⟨S,rfl⟩
      all_goals
       go_wp2_with (go_at_call 49;refine mv j.o λZ _=>?_)
       refine a8 (v:=.tuple #[.agg #[(),()],.int .i64 (10)]) ?_ rfl ?_
       .rw[b8 rfl];go_simp
       .first|exact .inr ⟨by assumption,rfl,dT (an _)⟩|exact⟨rfl,dT (an _)⟩
     .rw[ag hR]at l;have j:=ae l;clear l hm hR;rcases T with S|⟨S,rfl⟩
      all_goals
       go_wp2_with (go_at_call 49;refine mv j.o λZ _=>?_)
       refine a8 (v:=.tuple #[.agg #[(),()],.int .i64 (10)]) ?_ rfl ?_
       .rw[b8 rfl];go_simp
       .first|exact .inr ⟨by assumption,rfl,dT (an _)⟩|exact⟨rfl,dT (an _)⟩
end
end
variable{t:Tn}{zs:List Int}{R cb cp cx dx g m mx np:Nat}{T:TypeId}{z0 z1:Value}{w':World}{A B BA PA XA XB:Option Addr}{cap pl:Int}
structure DU(N:aU)(zs:List Int)(ps:List Tn)(x:TV)(cap:Int):Prop where
 fi:N.fits
 sm:N.small
 hE:a6 N=0
 fw:yU N=true
 ft:RY N (ps.map Tn.tv) x
 c0:0<=cap
 c1:cap<=16777216
 ln:zs.length<=600
 dc:GC zs=0
 dv:t8 zs=N
def Wb(w:ay)(zs:av)(ps:List Tn)(x:TV)(cap:Int)(e:Ending)(w':ay):Prop:=
 ∃A n c B m d g,e=.returned (.tuple #[.agg #[.slice A n c,.slice B m d],.bool g])/\(g=true->∃N,DU N zs ps x cap/\aQ w' A n B m N/\n<=c/\m<=d)/\aj w' w
def Om{ps:List Tn}(h:t∈ps):mf t<=mF ps:=by
 induction ps with
 |nil=>simp at h
 |cons a l b=>
  unfold mF at*;rw[dX,iz];rcases bT.1 h with rfl|h
  .omega
  .have:=b h;omega
def SD{ps:List Tn}(hb:∀t∈ps,t.zs.length<=17592186043904/\t.xs.length<=17592186043904):mF ps<=ps*35184372087809:=by
 induction ps with
 |nil=>simp[mF]
 |cons a l b=>
  have e:=b λt ht=>hb t (dl _ ht);have j:=hb a cm;unfold mF at*;rw[dX,iz,dm];unfold mf at*;omega
def GG{ps:List Tn}(hb:∀t∈ps,t.zs.length<=17592186043904/\t.xs.length<=17592186043904)(ht:t.zs.length<=17592186043904/\t.xs.length<=17592186043904)(e:ps.length<=100000)(h:wrap64 (Gn ps+Gn [t])<=700):mF ps<=700/\mf t<=700:=by
 have j:=SD hb;have b:mF [t]=mf t:=by simp[mF]
 have l:mf t<=35184372087809:=by unfold mf;omega
 unfold Gn at h;rw[b]at h;unfold wrap64 at h;omega
def Wc(hb:iy zs)(u:zs.length<=1000)(h:GC zs=0):(t8 zs).fits/\(t8 zs).small/\a6 (t8 zs)=0:=by
 unfold GC at h;by_cases hr:t7 zs=0
 .rw[ah hr]at h;have b:iy (zs.take (zs.length-4)):=λz r=>hb z (cG r);have e:(zs.take (zs.length-4)).length<=1000:=by rw[bB];omega
  cases hm:(ot (zs.take (zs.length-4))).nd.2 with
  |none=>
   rw[hm]at h;dsimp only at h;exact absurd h ak
  |some R=>
   rw[hm]at h;dsimp only at h;by_cases j:(ot (zs.take (zs.length-4))).m4.1=1096042545
   .rw[ah j]at h;by_cases l:R=[]
    .rw[ah l]at h;have m:=BC b e j (by rw[hm,l]);exact⟨m.1,m.2,h⟩
    .rw[ag l]at h;exact absurd h ak
   .rw[ag j]at h;exact absurd h ak
 .rw[ag hr]at h;exact absurd h hr
def uU{N:aU}(h:yU N=true):(bS N).length<=300/\N.nodes.length<=12:=by
 have e:yT N<=300/\N.nodes.length<=12:=by simpa[yU]using h
 refine⟨aO ?_ e.1,e.2⟩;unfold yT bS;refine aO ?_ (Nat.le_add_left _ _);generalize N.nodes=l
 induction l with
 |nil=>simp
 |cons a l j=>
  rw[g8,a1,dX,iz];have:a.P<=pM a:=by
   unfold pM;have:∀P:List (List Int),P.length<=(P.map λs=>1+s.length).sum:=by
    intro P
    induction P with
    |nil=>simp
    |cons b P j=>rw[dX,iz,dm];omega
   have:=this a.P;omega
  omega
class s1(w:World)(g:Nat)(T:TypeId):Prop where
 o:∃z0 z1,aB w g T #[z0,z1]
instance(priority:=low) s1.of{w:ay}[k:Bx w g T #[z0,z1]]:s1 w g T:=⟨_,_,k.al⟩
class gq(w:World)(h:Nat)(A:Option Addr)(n:Nat)(B:Option Addr)(m:Nat)(N:outParam aU):Prop where
 o:∀u,Kf (λb=>b<h) (λb=>b<h) w u->aQ u A n B m N
instance(priority:=low) gq.step{w:ay}{h n:Nat}{N:aU}[p:aj w' w][k:gq w h A n B m N]:gq w' h A n B m N:=⟨λu b=>k.o u ((Kf.later _).trans b)⟩
section
variable{w:World}{nx:Nat}{ps:List Tn}{x:TV}
def DU.ok{N:aU}(h:DU N zs ps x cap)(b:∀t∈ps,t.zs.length<=t.c):fo ps:=λt ht=>⟨h.ft.2.1 t.tv (List.mem_map_of_mem ht),b t ht⟩
def SE[s:Bs w BA R zs][tp:Ts w PA np ps][sx:Sl w XA nx x.1][xx:Sl w XB mx x.2][Le mx dx][dp x.2](SC:R<=cb)(hb:Hx (∀t∈ps,t.zs.length<=17592186043904/\t.xs.length<=17592186043904))(C1:Hx (∀t∈ps,t.zs.length<=t.c))(F:np<=140737488351232)(hx:nx<=17592186043904/\mx<=17592186043904):
  () 7 #[.agg #[(BA,R,cb),(PA,np,cp),(XA,nx,cx),(XB,mx,dx),pl,cap]] w (Wb w zs ps x cap):=by
 have CB:=@aa;have FB:=@aP;have Ys:Hx (R=zs):=s.len;have Wd:Hx (np=ps):=tp.len;have ER:Hx (nx=x.1/\mx=x.2):=ae ⟨sx.len,xx.len⟩;have V:Hx (∀t∈[(⟨XA,cx,x.1,XB,dx,x.2⟩:Tn)],t.zs.length<=17592186043904/\t.xs.length<=17592186043904):=λt ht=>by
  rw[cF]at ht;subst ht
  show x.1.length<=_/\x.2.length<=_
  rw[<-sx.len,<-xx.len];exact hx
 obtain⟨Z1,P5⟩:=lh (Gn ps);obtain⟨Z2,hZ2⟩:=lh (Gn [(⟨XA,cx,x.1,XB,dx,x.2⟩:Tn)]);obtain⟨T,hT⟩:=lh (wrap64 (Z1+Z2));have I:=ae P5;have Z:=ae hZ2;have HT:Hx (wrap64 (Gn ps+Gn [(⟨XA,cx,x.1,XB,dx,x.2⟩:Tn)])=T):=ae (by rw[P5,hZ2];exact hT);have FT:IntKind.i64.wrap (Z1+Z2)=T:=by rw[<-hT,aV];unfold wrap64;rfl
 clear P5 hZ2 hx;by_cases h1:600<R
 .have g1:decide ((600:Int)<(R:Int))=true:=by simp;omega
  clear hT FT
  go_in
  go_upto_region 1 with fail
  refine cT (λY p0 k1 k2=>?_);refine aH Y aq (λy _=>?_);refine qL [0,1,2,3,4,505,506,507,508,509,510,511,512,513,14,15,516,517,518,19,20,521,522,523,24] ?_;refine aZ ?_
  go_wp2_with fail
  refine a8 (v:=.tuple #[.agg #[(),()],.bool false]) ?_ rfl ⟨none,0,0,none,0,0,false,rfl,λh=>absurd h ak,?_⟩
  .rw[b8 rfl];go_simp
  .exact dT (b9 _)
 have g1:decide ((600:Int)<(R:Int))=false:=by simp;omega
 have oY:R<=1000:=om;have H1:Hx (R<=600):=ae om;clear h1;by_cases h2:700<T
 .have g2:decide (700<T)=true:=by simpa using h2
  clear h2
  go_in
  go_upto_region 1 with fail
  refine cT (λY p0 k1 k2=>?_);refine aH Y aq (λy _=>?_);refine qL [0,1,2,3,4,5,6,8,9] ?_;refine o7 7 10 (λK hK=>?_) (λK hK=>?_)
  focus
   go_simp
   (with_reducible refine(eS hb F I).mono ?_)
   rintro e y ⟨rfl,_⟩;dsimp only;refine aL hK ?_;refine aM 10 λK hK=>?_;go_simp;refine aL hK ?_;refine bh (λy _ _=>?_)
  rotate_left
  focus
   go_simp;refine aL hK ?_;refine bh (λy _ _=>?_);refine aM 7 λK hK=>?_;go_simp
   (with_reducible refine(eS hb F I).mono ?_)
   rintro e y ⟨rfl,_⟩;dsimp only;refine aL hK ?_
  all_goals
   refine aM 11 λK hK=>?_;go_simp
   (with_reducible refine(eS (np:=1) V om Z).mono ?_)
   rintro e y ⟨rfl,_⟩;dsimp only;refine aL hK ?_;refine qL [12,13,14,15,516,517,518,19,20,521,522,523,24] ?_;refine aZ ?_
   go_wp2_with fail
   refine a8 (v:=.tuple #[.agg #[(),()],.bool false]) ?_ rfl ⟨none,0,0,none,0,0,false,rfl,λh=>absurd h ak,?_⟩
   .rw[b8 rfl];go_simp
   .exact dT (b9 _)
 have g2:decide (700<T)=false:=by simpa using h2
 have HT7:Hx (T<=700):=ae om;clear h2;by_cases h3:cap<0
 .have g3:decide (cap<0)=true:=by simpa using h3
  clear h3
  go_in
  go_upto_region 1 with fail
  refine cT (λY p0 k1 k2=>?_);refine aH Y aq (λy _=>?_);refine qL [0,1,2,3,4,5,6,8,9] ?_;refine o7 7 10 (λK hK=>?_) (λK hK=>?_)
  focus
   go_simp
   (with_reducible refine(eS hb F I).mono ?_)
   rintro e y ⟨rfl,_⟩;dsimp only;refine aL hK ?_;refine aM 10 λK hK=>?_;go_simp;refine aL hK ?_;refine bh (λy _ _=>?_)
  rotate_left
  focus
   go_simp;refine aL hK ?_;refine bh (λy _ _=>?_);refine aM 7 λK hK=>?_;go_simp
   (with_reducible refine(eS hb F I).mono ?_)
   rintro e y ⟨rfl,_⟩;dsimp only;refine aL hK ?_
  all_goals
   refine aM 11 λK hK=>?_;go_simp
   (with_reducible refine(eS (np:=1) V om Z).mono ?_)
   rintro e y ⟨rfl,_⟩;dsimp only;refine aL hK ?_;refine qL [12,13,14,15,16,17,18,19,20,521,522,523,24] ?_;refine aZ ?_
   go_wp2_with fail
   refine a8 (v:=.tuple #[.agg #[(),()],.bool false]) ?_ rfl ⟨none,0,0,none,0,0,false,rfl,λh=>absurd h ak,?_⟩
   .rw[b8 rfl];go_simp
   .exact dT (b9 _)
 have g3:decide (cap<0)=false:=by simpa using h3
 have HC0:Hx (0<=cap):=ae om;clear h3;by_cases h4:16777216<cap
 .have g4:decide (16777216<cap)=true:=by simpa using h4
  clear h4
  go_in
  go_upto_region 1 with fail
  refine cT (λY p0 k1 k2=>?_);refine aH Y aq (λy _=>?_);refine qL [0,1,2,3,4,5,6,8,9] ?_;refine o7 7 10 (λK hK=>?_) (λK hK=>?_)
  focus
   go_simp
   (with_reducible refine(eS hb F I).mono ?_)
   rintro e y ⟨rfl,_⟩;dsimp only;refine aL hK ?_;refine aM 10 λK hK=>?_;go_simp;refine aL hK ?_;refine bh (λy _ _=>?_)
  rotate_left
  focus
   go_simp;refine aL hK ?_;refine bh (λy _ _=>?_);refine aM 7 λK hK=>?_;go_simp
   (with_reducible refine(eS hb F I).mono ?_)
   rintro e y ⟨rfl,_⟩;dsimp only;refine aL hK ?_
  all_goals
   refine aM 11 λK hK=>?_;go_simp
   (with_reducible refine(eS (np:=1) V om Z).mono ?_)
   rintro e y ⟨rfl,_⟩;dsimp only;refine aL hK ?_;refine qL [12,13,14,15,16,17,18,19,20,21,22,23,24] ?_;refine aZ ?_
   go_wp2_with fail
   refine a8 (v:=.tuple #[.agg #[(),()],.bool false]) ?_ rfl ⟨none,0,0,none,0,0,false,rfl,λh=>absurd h ak,?_⟩
   .rw[b8 rfl];go_simp
   .exact dT (b9 _)
 have g4:decide (16777216<cap)=false:=by simpa using h4
 have Nz:Hx (cap<=16777216):=ae om;clear h4;obtain⟨E,HE⟩:=lC (GC zs);obtain⟨N,HN⟩:=lC (t8 zs)
 go_in
 go_upto_region 1 with fail
 refine n6 (λC Y pz p0 kz hz k1=>?_)
 go_cut [30] (λs30 wx=>s30=.bool false/\aj wx Y)
 case first=>
  refine aH Y aq (λy _=>?_);refine qL [0,1,2,3,4,5,6,8,9] ?_;refine o7 7 10 (λK hK=>?_) (λK hK=>?_)
  focus
   go_simp
   (with_reducible refine(eS hb F I).mono ?_)
   rintro e y ⟨rfl,_⟩;dsimp only;refine aL hK ?_;refine aM 10 λK hK=>?_;go_simp;refine aL hK ?_;refine bh (λy _ _=>?_)
  rotate_left
  focus
   go_simp;refine aL hK ?_;refine bh (λy _ _=>?_);refine aM 7 λK hK=>?_;go_simp
   (with_reducible refine(eS hb F I).mono ?_)
   rintro e y ⟨rfl,_⟩;dsimp only;refine aL hK ?_
  all_goals
   refine aM 11 λK hK=>?_;go_simp
   (with_reducible refine(eS (np:=1) V om Z).mono ?_)
   rintro e y ⟨rfl,_⟩;dsimp only;refine aL hK ?_;refine qL [12,13,14,15,16,17,18,19,20,21,22,23,24] ?_;refine aZ ?_
   go_wp2_with fail
   go_meet
   exact bq
 obtain⟨rfl,_⟩:=hcut;obtain⟨y,rfl⟩:=lg wc;by_cases h0:E=0;rotate_left
 .have b0:(E !=0)=true:=by simp[h0]
  have b1:(E==0)=false:=by simp[h0]
  go_upto_region 4 with(go_at_call 16;refine(rC oY SC HE HN).mono ?_;rintro e u1 h9;obtain⟨rfl,_⟩:=(h9.resolve_left λk=>h0 k.1).2)
  refine aw (λu2 p2 k3=>?_);obtain⟨G,hG⟩:=lh u1.1.size;have J:G≠w+1:=by
   have h1:w.1.size+1<u1:=(ao:Bx u1 (w.1.size+1) _ _).al.lt;omega
  rw[hG]at k3⊢;clear h0;refine aR C (λQ=>Bx Q G 33 #[(),()]/\s1 Q (w.1.size+1) 33) aq ⟨ao,ao⟩ (λj _=>?_);refine bp 0 ?_;refine bp 1 ?_;refine bp 2 ?_;refine bp 3 ?_;refine fA 4 ?_;refine fA 5 ?_;refine bp 6 ?_;refine bp 7 ?_;refine fA 8 ?_;refine fA 9 ?_;refine fA 10 ?_;refine fA 11 ?_;refine fA 12 ?_;refine fA 13 ?_;refine fA 14 ?_;refine bp 15 ?_;refine aM 16 λK hK=>?_;obtain⟨z0,z1,q9⟩:=(ao:s1 j (w.1.size+1) 33).o;have kt9:Bx j (w.1.size+1) 33 #[z0,z1]:=⟨q9⟩;go_simp;obtain⟨r,l⟩:=lg ((j.setCell (w.1.size+1,0) ()).setCell (w.1.size+1,1) ());rw[<-l];have D:Below (World.heap C).size C r:=by rw[l];exact cM (a7 C j) hz _ _
  have M:∀b,b<j.1.size->b≠w.1.size+1->(World.heap r)[b]?=j.heap[b]?:=λb _ hb=>by rw[l];exact(bm _ ⟨w.1.size+1,1,none⟩ _ b hb).trans (bm _ ⟨w.1.size+1,0,none⟩ _ b hb)
  have IT:Bx r (w.1.size+1) _ #[(),()]:=⟨by rw[l];exact aB.cY (Bx.al (w:=j) (g:=w.1.size+1)) _ _⟩;have O:Bx r G 33 #[(),()]:=⟨(M G (Bx.al (w:=j) (g:=G)).lt J).trans (Bx.al (w:=j) (g:=G))⟩;have Dp:aj r C:=⟨D⟩;have P:s1 r (w.1.size+1) 33:=ao;refine aL hK ?_ ⟨⟨D⟩,O,P⟩;clear hK K l;refine bp 17 ?_;refine aZ ?_
  go_wp2_with fail
  refine a8 (v:=.tuple #[.agg #[(),()],.bool false]) ?_ rfl ⟨none,0,0,none,0,0,false,rfl,λh=>absurd h ak,?_⟩
  .rw[b8 rfl];go_simp
  .exact aK
 subst h0;have L:=Wc s.all (by rw[<-s.len];exact oY) HE;rw[HN.o]at L;have HF:=ae L.1;have S:=ae L.2.1;have t9:=ae L.2.2;clear L
 go_upto_region 4 with(go_at_call 16;refine(rC oY SC HE HN).mono ?_;rintro e u1 h9;obtain⟨A,n,c,B,m,d,rfl,aN,CC,MM,_,k9⟩:=(h9.resolve_right λk=>k.1 rfl).2)
 refine aw (λu2 p2 k3=>?_);obtain⟨G,hG⟩:=lh u1.1.size;have J:G≠w+1:=by
  have h1:w.1.size+1<u1:=(ao:Bx u1 (w.1.size+1) _ _).al.lt;omega
 rw[hG]at k3⊢;obtain⟨h,hh⟩:=lh y.1.size;rw[hh]at k9;replace hh:w.1.size+1<h:=by
  have h1:w.1.size+1<y.1.size:=(ao:Bx y (w.1.size+1) _ _).al.lt;omega
 have nk1:gq u1 h A n B m N:=⟨k9⟩;clear k9;obtain⟨f1,X⟩:=lh (yU N);cases f1 with
 |false=>
  refine aR C (λQ=>Bx Q G 33 #[(A,n,c),(B,m,d)]/\gq Q h A n B m N/\s1 Q (w.1.size+1) 33) aq ⟨ao,ao,ao⟩ (λj _=>?_);refine bl 0 ?_;refine bl 1 ?_;refine bl 2 ?_;refine bl 3 ?_;refine bl 4 ?_;refine aM 5 λK hK=>?_;obtain aN5:aQ j A n B m N:=(ao:gq j h A n B m N).o _ (Kf.refl _ _);go_simp
  (with_reducible refine(yV HF S).mono ?_)
  rintro e j ⟨rfl,_⟩;dsimp only;refine aL hK ?_ ⟨ab C _,⟨ao,ao,ao⟩⟩;rw[X];refine bl 6 ?_;refine bl 7 ?_;refine fA 8 ?_;refine fA 9 ?_;refine fA 10 ?_;refine fA 11 ?_;refine fA 12 ?_;refine fA 13 ?_;refine fA 14 ?_;refine bl 15 ?_;refine aM 16 λK hK=>?_;obtain⟨z0,z1,q9⟩:=(ao:s1 j (w.1.size+1) 33).o;have kt9:Bx j (w.1.size+1) 33 #[z0,z1]:=⟨q9⟩;go_simp;obtain⟨r,l⟩:=lg ((j.setCell (w.1.size+1,0) (A,n,c)).setCell (w.1.size+1,1) (B,m,d));rw[<-l];have D:Below (World.heap C).size C r:=by rw[l];exact cM (a7 C j) hz _ _
  have M:∀b,b<j.1.size->b≠w.1.size+1->(World.heap r)[b]?=j.heap[b]?:=λb _ hb=>by rw[l];exact(bm _ ⟨w.1.size+1,1,none⟩ _ b hb).trans (bm _ ⟨w.1.size+1,0,none⟩ _ b hb)
  have IT:Bx r (w.1.size+1) _ #[(A,n,c),(B,m,d)]:=⟨by rw[l];exact aB.cY (Bx.al (w:=j) (g:=w.1.size+1)) _ _⟩;have O:Bx r G 33 #[(A,n,c),(B,m,d)]:=⟨(M G (Bx.al (w:=j) (g:=G)).lt J).trans (Bx.al (w:=j) (g:=G))⟩;have Dp:aj r C:=⟨D⟩;have P:s1 r (w.1.size+1) 33:=ao;have U:gq r h A n B m N:=⟨λu hk=>(ao:gq j h A n B m N).o u (Kf.trans (by rw[l];exact((Kf.refl _ _).ax (q:=⟨w.1.size+1,0,none⟩) hh _).ax (q:=⟨w.1.size+1,1,none⟩) hh _) hk)⟩;refine aL hK ?_ ⟨⟨D⟩,O,U,P⟩;clear hK K l;refine bl 17 ?_;refine aZ ?_
  go_wp2_with fail
  refine a8 (v:=.tuple #[.agg #[(A,n,c),(B,m,d)],.bool false]) ?_ rfl ⟨A,n,c,B,m,d,false,rfl,λh=>absurd h ak,?_⟩
  .rw[b8 rfl];go_simp
  .exact aK
 |true=>
  obtain⟨hp3,-⟩:=uU X;have IN:np=(bS N).length->(mF ps<=700/\mf (⟨XA,cx,x.1,XB,dx,x.2⟩:Tn)<=700):=λe=>GG hb (V.o _ (cF.2 rfl)) (by rw[<-Wd.o];omega) (by rw[HT.o];exact HT7);by_cases z:RY N (ps.map Tn.tv) x
  .have Gs:np=(bS N).length:=by rw[<-z.1,br,br];exact Wd
   have W9:Hx (DU N zs ps x cap):=ae ⟨HF,S,t9,X,z,HC0,Nz,by rw[<-Ys.o];exact H1.o,HE,HN⟩;have pg:Hx (fo ps):=W9.o.ok C1;have HPF:Hx ((ps.map Tn.tv).map (·.1)=bS N):=z.1;have HXF:Hx (x.1=N.dd):=z.2.2.2;have hr:=z.2.2.1;have hpn:np<=100000000:=om;clear z IN Gs hp3;refine aR C (λQ=>Bx Q G 33 #[(A,n,c),(B,m,d)]/\gq Q h A n B m N/\s1 Q (w.1.size+1) 33) aq ⟨ao,ao,ao⟩ (λj _=>?_);refine bl 0 ?_;refine bl 1 ?_;refine bl 2 ?_;refine bl 3 ?_;refine bl 4 ?_;refine aM 5 λK hK=>?_;obtain aN5:aQ j A n B m N:=(ao:gq j h A n B m N).o _ (Kf.refl _ _);go_simp
   (with_reducible refine(yV HF S).mono ?_)
   rintro e j ⟨rfl,_⟩;dsimp only;refine aL hK ?_ ⟨ab C _,⟨ao,ao,ao⟩⟩;rw[X];refine bl 6 ?_;refine bl 7 ?_;refine bl 8 ?_;refine bl 9 ?_;refine bl 10 ?_;refine bl 11 ?_;refine bl 12 ?_;refine aM 13 λK hK=>?_;obtain abA:aQ j A n B m N:=(ao:gq j h A n B m N).o _ (Kf.refl _ _);go_simp
   (with_reducible refine(Gl HF S t9 HPF pg HXF hr hpn).mono ?_)
   rintro e j ⟨rfl,_⟩;dsimp only;refine aL hK ?_ ⟨ab C _,⟨ao,ao,ao⟩⟩;refine bl 14 ?_;refine bl 15 ?_;refine aM 16 λK hK=>?_;obtain⟨z0,z1,q9⟩:=(ao:s1 j (w.1.size+1) 33).o;have kt9:Bx j (w.1.size+1) 33 #[z0,z1]:=⟨q9⟩;go_simp;obtain⟨r,l⟩:=lg ((j.setCell (w.1.size+1,0) (A,n,c)).setCell (w.1.size+1,1) (B,m,d));rw[<-l];have D:Below (World.heap C).size C r:=by rw[l];exact cM (a7 C j) hz _ _
   have M:∀b,b<j.1.size->b≠w.1.size+1->(World.heap r)[b]?=j.heap[b]?:=λb _ hb=>by rw[l];exact(bm _ ⟨w.1.size+1,1,none⟩ _ b hb).trans (bm _ ⟨w.1.size+1,0,none⟩ _ b hb)
   have IT:Bx r (w.1.size+1) _ #[(A,n,c),(B,m,d)]:=⟨by rw[l];exact aB.cY (Bx.al (w:=j) (g:=w.1.size+1)) _ _⟩;have O:Bx r G 33 #[(A,n,c),(B,m,d)]:=⟨(M G (Bx.al (w:=j) (g:=G)).lt J).trans (Bx.al (w:=j) (g:=G))⟩;have Dp:aj r C:=⟨D⟩;have P:s1 r (w.1.size+1) 33:=ao;have U:gq r h A n B m N:=⟨λu hk=>(ao:gq j h A n B m N).o u (Kf.trans (by rw[l];exact((Kf.refl _ _).ax (q:=⟨w.1.size+1,0,none⟩) hh _).ax (q:=⟨w.1.size+1,1,none⟩) hh _) hk)⟩;refine aL hK ?_ ⟨⟨D⟩,O,U,P⟩;clear hK K l;refine bl 17 ?_;refine aZ ?_
   go_wp2_with fail
   refine a8 (v:=.tuple #[.agg #[(A,n,c),(B,m,d)],.bool true]) ?_ rfl ⟨A,n,c,B,m,d,true,rfl,λ_=>⟨N,W9,U.o _ (Kf.refl _ _),CC,MM⟩,?_⟩
   .rw[b8 rfl];go_simp
   .exact aK
  .have HNO:=ae z;have qo:np=(bS N).length->nx<=1000000:=λe=>by have h9:=(IN e).2;unfold mf at h9;dsimp only at h9;rw[ER.o.1];omega
   have HOZ:Hx (np=(bS N).length->∀t∈ps,t.zs.length<=1000000):=ae λe t ht=>by have h8:=Om ht;have h9:=(IN e).1;unfold mf at h8;omega
   clear z IN hp3;refine aR C (λQ=>Bx Q G 33 #[(A,n,c),(B,m,d)]/\gq Q h A n B m N/\s1 Q (w.1.size+1) 33) aq ⟨ao,ao,ao⟩ (λj _=>?_);refine bl 0 ?_;refine bl 1 ?_;refine bl 2 ?_;refine bl 3 ?_;refine bl 4 ?_;refine aM 5 λK hK=>?_;obtain aN5:aQ j A n B m N:=(ao:gq j h A n B m N).o _ (Kf.refl _ _);go_simp
   (with_reducible refine(yV HF S).mono ?_)
   rintro e j ⟨rfl,_⟩;dsimp only;refine aL hK ?_ ⟨ab C _,⟨ao,ao,ao⟩⟩;rw[X];refine bl 6 ?_;refine bl 7 ?_;refine bl 8 ?_;refine bl 9 ?_;refine bl 10 ?_;refine bl 11 ?_;refine bl 12 ?_;refine aM 13 λK hK=>?_;obtain abA:aQ j A n B m N:=(ao:gq j h A n B m N).o _ (Kf.refl _ _);go_simp
   (with_reducible refine(Gm HF S t9 HOZ qo HNO).mono ?_)
   rintro e j ⟨rfl,_⟩;dsimp only;refine aL hK ?_ ⟨ab C _,⟨ao,ao,ao⟩⟩;refine bl 14 ?_;refine bl 15 ?_;refine aM 16 λK hK=>?_;obtain⟨z0,z1,q9⟩:=(ao:s1 j (w.1.size+1) 33).o;have kt9:Bx j (w.1.size+1) 33 #[z0,z1]:=⟨q9⟩;go_simp;obtain⟨r,l⟩:=lg ((j.setCell (w.1.size+1,0) (A,n,c)).setCell (w.1.size+1,1) (B,m,d));rw[<-l];have D:Below (World.heap C).size C r:=by rw[l];exact cM (a7 C j) hz _ _
   have M:∀b,b<j.1.size->b≠w.1.size+1->(World.heap r)[b]?=j.heap[b]?:=λb _ hb=>by rw[l];exact(bm _ ⟨w.1.size+1,1,none⟩ _ b hb).trans (bm _ ⟨w.1.size+1,0,none⟩ _ b hb)
   have IT:Bx r (w.1.size+1) _ #[(A,n,c),(B,m,d)]:=⟨by rw[l];exact aB.cY (Bx.al (w:=j) (g:=w.1.size+1)) _ _⟩;have O:Bx r G 33 #[(A,n,c),(B,m,d)]:=⟨(M G (Bx.al (w:=j) (g:=G)).lt J).trans (Bx.al (w:=j) (g:=G))⟩;have Dp:aj r C:=⟨D⟩;have P:s1 r (w.1.size+1) 33:=ao;have U:gq r h A n B m N:=⟨λu hk=>(ao:gq j h A n B m N).o u (Kf.trans (by rw[l];exact((Kf.refl _ _).ax (q:=⟨w.1.size+1,0,none⟩) hh _).ax (q:=⟨w.1.size+1,1,none⟩) hh _) hk)⟩;refine aL hK ?_ ⟨⟨D⟩,O,U,P⟩;clear hK K l;refine bl 17 ?_;refine aZ ?_
   go_wp2_with fail
   refine a8 (v:=.tuple #[.agg #[(A,n,c),(B,m,d)],.bool false]) ?_ rfl ⟨A,n,c,B,m,d,false,rfl,λh=>absurd h ak,?_⟩
   .rw[b8 rfl];go_simp
   .exact aK
end
variable{H:Type}{enc:TypeId×Value->H}{W:World}{base:Nat}{held:Bool}{z:Int}{v:Value}
section
open Go.RowKit Go.ChangeShapes Go.WideShapes Go.Deep
def wf_u8(h:(Lit.int .u8 z).wf=true):0<=z/\z<256:=by
 have:=bounds_u8 h;omega
def GH{x:DataW H×List MemPlace}(h:DataW.trod enc prog W base (λ_=>true) held m 22 [v]=some x):∃A c zs,v=.slice A (List.length zs) c/\Bs W A (List.length zs) zs/\zs.length<=c:=by
 rcases open_ints underlying22 underlying5 aq h with⟨u,_⟩|⟨a,l,c,zs,u,_,G,hm,E,_,e,B⟩
 .cases u;exact⟨none,0,[],rfl,⟨λj z y=>by simp at y,rfl⟩,an _⟩
 .cases u;simp only[wj]at E;refine⟨some a,c,zs.take l,by simp[E,dt G],⟨λj z y=>?_,rfl⟩,by simp;omega⟩;have C:j<zs.length:=by
   have:=(a5.1 y).1;simp at this;omega
  have F:zs[j]?=some z:=by
   rw[eY]at y
   split at y
   .exact y
   .cases y
  have D:zs.getD j 0=z:=by simp[List.getD,F]
  have r:=e j C;rw[D]at r;obtain⟨b,off,rfl⟩:=wV (show W.cell? (a.add 0)=some _ from e 0 om);rw[add_plain]at r;exact⟨b,off,rfl,Cb W _ r,r,wf_u8 (B z (aC F))⟩
def DV{d:DataW H}{p:List MemPlace}(b:Value.okWide prog W .any m 30 v)(h:DataW.Trod enc prog W base (λ_=>true) held 30 v d p)(j:Wt 30 d):
  ∃u cb zs PA cp ps XA cx l XB dx xs pl cap,v=.agg #[.slice u (List.length zs) cb,.slice PA (List.length ps) cp,.slice XA (List.length l) cx,.slice XB (List.length xs) dx,.int .i64 pl,.int .i64 cap]/\
   Bs W u zs.length zs/\zs.length<=cb/\Pd W PA cp ps/\jx W XA cx l/\jx W XB dx xs/\l.length<=hV/\xs.length<=hV:=by
 obtain⟨cs,rfl,y⟩:=okWide_struct underlying30 b;obtain⟨q0,I,J,K,L,q5,rfl⟩:=aaB (y.trans aq);obtain⟨G,r⟩:=h;obtain⟨_,_,z,-⟩:=Eu underlying30 r j 0 _ rfl;obtain⟨_,_,B,w1⟩:=Eu underlying30 r j 1 _ rfl;obtain⟨_,_,C,w2⟩:=Eu underlying30 r j 2 _ rfl;obtain⟨_,_,D,-⟩:=Eu underlying30 r j 3 _ rfl;obtain⟨_,_,E,-⟩:=Eu underlying30 r j 4 _ rfl;replace z:DataW.trod enc prog W base (λ_=>true) held _ 22 [q0]=some _:=z;replace B:DataW.trod enc prog W base (λ_=>true) held _ 23 [I]=some _:=B;replace C:DataW.trod enc prog W base (λ_=>true) held _ 28 [J,K]=some _:=C;replace D:DataW.trod enc prog W base (λ_=>true) held _ 3 [L]=some _:=D;replace E:DataW.trod enc prog W base (λ_=>true) held _ 3 [q5]=some _:=E;obtain⟨u,cb,zs,rfl,bs,hb⟩:=GH z;obtain⟨PA,cp,ps,rfl,M⟩:=Et B w1;obtain⟨XA,cx,l,XB,dx,xs,e,N,i1,O,l1⟩:=uo C rfl w2;injection e with P F
 injection F with F _
 subst P F;obtain⟨pl,rfl,-⟩:=wE underlying3 D;obtain⟨cap,rfl,-⟩:=wE underlying3 E;exact⟨u,cb,zs,PA,cp,ps,XA,cx,l,XB,dx,xs,pl,cap,rfl,bs,hb,M,N,i1,O,l1⟩
end
