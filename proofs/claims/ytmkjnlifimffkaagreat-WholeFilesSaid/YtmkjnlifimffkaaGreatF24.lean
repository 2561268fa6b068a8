/- Lemmas. -/
import Derived.Test.YtmkjnlifimffkaaGreatF06
import Derived.Test.YtmkjnlifimffkaaGreatF23
namespace Go.Proofs.YtmkjnlifimffkaaGreat
open Go.RowKit Tryz
set_option linter.all false
set_option maxRecDepth 100000
set_option maxHeartbeats 0
section
variable{p u w' w1:World}{c g i j r wd:Nat}{v':cB}{tb:Bool->Tb}{F':Nat->Prop}{a':qn}{A tZ:Option Addr}{h id z:Int}{xs ys zs:List Int}{ss:List Sp}
def oS(s:Bool):Nat:=if s then 13 else 9
structure jl where
 cs:Array Value
 a:qn
 F:Bool->Nat->Prop
def jl.U(m:jl)(g r b:Nat):Prop:=b=g\/m.a.F r b\/m.F false b\/m.F true b
structure MS(w:World)(B g r:Nat)(m:jl)(v:cB)(tb:Bool->Tb):Prop where
 ar:cQ w B r m.a v
 t:∀s,jb w B g (oS s) m.cs (m.F s) (tb s)
 ca:∀s,m.cs[oS s+2]?=some (.pointer r)
 gB:B<=g
 gA:¬m.a.F r g
 FA:∀s b,m.F s b->¬m.a.F r b
 FF:∀s b,m.F s b->¬m.F (!s) b
def jm(cs b:eL):Prop:=∀i,i≠9->i≠10->i≠13->i≠14->b[i]?=cs[i]?
structure dB(w w':World)(g r:Nat)(m m':jl):Prop where
 kf:Kf (m.U g r) (m'.U g r) w w'
 sm:jm m.cs m'.cs
section
variable{w:World}{B k n o:Nat}{m m' m2:jl}{v:cB}{T:Bool->Int->Option (List Int)}{s:Bool}{t:Tb}{b:fu}{x y:Value}
def jm.refl(cs:eL):jm cs cs:=λ_ _ _ _ _=>rfl
def jm.trans{a b d:eL}(h:jm a b)(E:jm b d):jm a d:=λi e l C D=>(E i e l C D).trans (h i e l C D)
def dB.trans(h:dB w w' g r m m')(e:dB w' u g r m' m2):dB w u g r m m2:=⟨h.kf.trans e.kf,h.sm.trans e.sm⟩
def dB.later(g r:Nat)(m:jl)[aF w w']:dB w w' g r m m:=⟨Kf.later _,jm.refl _⟩
def jm.cY(s:Bool)(cs:eL)(x y:Value):jm cs (cY cs (oS s) x y):=λi e l C D=>by
 cases s
 .exact mR (o:=9) e l x y
 .exact mR (o:=13) C D x y
def oR.DN{n c:Nat}{F:Nat->Prop}(h:oR w B A n c F t):∀b,F b->B<=b/\b<w.1.size:=λb hb=>by
 rcases h with⟨C,D,e⟩|⟨C,q,r,G,D,e,l,I,E⟩
 .exact absurd hb (e b)
 .rcases(E b).1 hb with rfl|rfl
  .exact⟨(e.af (d4.2 rfl)).1,(e.af (d4.2 rfl)).2.1⟩
  .exact⟨(l.af (d4.2 rfl)).1,(l.af (d4.2 rfl)).2.1⟩
def jb.DN{cs:eL}{F:Nat->Prop}(h:jb w B g o cs F t):∀b,F b->B<=b/\b<w.1.size:=by
 obtain⟨A,n,c,l,_,_,e⟩:=h.tb;exact e.DN
def jb.yN{cs:eL}{F:Nat->Prop}(h:jb w B g o cs F t)(e:∀b,F b\/b=g->w'.heap[b]?=w.heap[b]?):jb w' B g o cs F t:=by
 obtain⟨A,n,c,l,C,D,E⟩:=h.tb;exact⟨(e g (.inr rfl)).trans h.al,⟨A,n,c,l,C,D,E.keep λb hb=>e b (.inl hb)⟩,h.oK,h.len⟩
def jb.ng{cs:eL}{F:Nat->Prop}(h:jb w B g o cs F t):¬F g:=by
 obtain⟨A,n,c,l,_,_,e⟩:=h.tb;exact e.ne h.al
def MS.lt(h:MS w B g r m v tb):∀b,m.U g r b->B<=b/\b<w.1.size:=λb hb=>by
 rcases hb with rfl|hb|hb|hb
 .exact⟨h.gB,(h.t false).al.lt⟩
 .exact h.ar.lt b hb
 .exact(h.t false).DN b hb
 .exact(h.t true).DN b hb
def MS.at(h:MS w B g r m v tb)[aF w w']:MS w' B g r m v tb:=⟨h.ar.at,λs=>(h.t s).at,h.ca,h.gB,h.gA,h.FA,h.FF⟩
theorem dB.prev(h:dB w w' g r m m')(hm:MS w p.1.size g r m v tb)[aF p w]:aj w' p:=h.kf.prev λb hb=>(hm.lt b hb).1
def MS.Jj(h:MS w B g r m v tb)(e:cQ w' B r a' v')(hK:Kf (m.a.F r) (a'.F r) w w'):MS w' B g r {m with a:=a'} v' tb/\dB w w' g r m {m with a:=a'}:=by
 refine⟨⟨e,λs=>(h.t s).yN λb hb=>hK.keep b ?_ ?_,h.ca,h.gB,λhg=>?_,λs b hb l=>?_,h.FF⟩,⟨hK.more (λb hb=>.inr (.inl hb)) λb hb=>?_,jm.refl _⟩⟩
 .rcases hb with hb|rfl
  .exact((h.t s).DN b hb).2
  .exact(h.t s).al.lt
 .rcases hb with hb|rfl
  .exact h.FA s b hb
  .exact h.gA
 .rcases hK.new g hg with h1|h1
  .exact h.gA h1
  .have:=(h.t false).al.lt;omega
 .rcases hK.new b l with h1|h1
  .exact h.FA s b hb h1
  .have:=((h.t s).DN b hb).2;omega
 .rcases hb with hb|hb|hb|hb
  .exact .inr (.inl (.inl hb))
  .exact .inl hb
  .exact .inr (.inl (.inr (.inr (.inl hb))))
  .exact .inr (.inl (.inr (.inr (.inr hb))))
def RM(s:Bool):oS (!s)≠oS s/\oS (!s)≠oS s+1/\oS (!s)+1≠oS s/\oS (!s)+1≠oS s+1/\oS s+2≠oS (!s)/\oS s+2≠oS (!s)+1/\oS s+2≠oS s/\oS s+2≠oS s+1:=by cases s<;>decide
def MS.table(h:MS w B g r m v tb)(s:Bool)(J:jb w' B g (oS s) (cY m.cs (oS s) x y) F' t)(hK:Kf (λb=>m.F s b\/b=g) (λb=>F' b\/b=g) w w'):
  MS w' B g r ⟨cY m.cs (oS s) x y,m.a,gL m.F s F'⟩ v (gL tb s t)/\dB w w' g r m ⟨cY m.cs (oS s) x y,m.a,gL m.F s F'⟩:=by
 have G:∀e,e≠s->e=!s:=λe hs=>by cases s<;>cases e<;>simp_all
 have D:=RM s;have E:∀b,F' b->m.F s b\/w.1.size<=b:=λb hb=>by
  rcases hK.new b (.inl hb)with(h1|h1)|h1
  .exact .inl h1
  .subst h1;exact absurd hb J.ng
  .exact .inr h1
 refine⟨⟨h.ar.kf hK λb hb I=>?_,λe=>?_,λe=>?_,h.gB,h.gA,λe b hb K=>?_,λe b hb C=>?_⟩,⟨hK.more (λb hb=>?_) λb hb=>?_,jm.cY s _ _ _⟩⟩
 .rcases I with I|rfl
  .exact h.FA s b I hb
  .exact h.gA hb
 .by_cases hs:e=s
  .subst hs
   show jb w' B g (oS e) _ (gL m.F e F' e) (gL tb e t e)
   rw[fl,fl];exact J
  .show jb w' B g (oS e) _ (gL m.F s F' e) (gL tb s t e)
   rw[fX hs,fX hs];obtain rfl:=G e hs;obtain⟨A,n,c,M,h1,N,L⟩:=(h.t (!s)).tb;refine⟨J.al,⟨A,n,c,M,?_,?_,L.keep λb hb=>hK.keep b (L.DN b hb).2 ?_⟩,(h.t (!s)).oK,(h.t (!s)).len⟩
   .rw[mR D.1 D.2.1];exact h1
   .rw[mR D.2.2.1 D.2.2.2.1];exact N
   .rintro(I|rfl)
    .exact h.FF s b I hb
    .exact(h.t (!s)).ng hb
 .show(cY m.cs (oS s) x y)[oS e+2]?=_
  by_cases hs:e=s
  .subst hs;rw[mR D.2.2.2.2.2.2.1 D.2.2.2.2.2.2.2];exact h.ca e
  .obtain rfl:=G e hs;have l:=(RM (!s)).2.2.2.2;rw[Bool.not_not]at l;rw[mR l.1 l.2.1];exact h.ca (!s)
 .by_cases hs:e=s
  .subst hs;have hb:F' b:=by have l:gL m.F e F' e b:=hb;rwa[fl]at l
   rcases E b hb with h1|h1
   .exact h.FA e b h1 K
   .have:=(h.ar.lt b K).2;omega
  .have hb:m.F e b:=by have l:gL m.F s F' e b:=hb;rwa[fX hs]at l
   exact h.FA e b hb K
 .by_cases hs:e=s
  .subst hs;have hb:F' b:=by have l:gL m.F e F' e b:=hb;rwa[fl]at l
   have C:m.F (!e) b:=by have l:gL m.F e F' (!e) b:=C;rwa[fX aG]at l
   rcases E b hb with h1|h1
   .exact h.FF e b h1 C
   .have:=((h.t (!e)).DN b C).2;omega
  .obtain rfl:=G e hs;have hb:m.F (!s) b:=by have l:gL m.F s F' (!s) b:=hb;rwa[fX hs]at l
   have C:F' b:=by have l:gL m.F s F' (!!s) b:=C;rw[Bool.not_not,fl]at l;exact l
   rcases E b C with h1|h1
   .exact h.FF s b h1 hb
   .have:=((h.t (!s)).DN b hb).2;omega
 .rcases hb with hb|rfl
  .cases s
   .exact .inr (.inr (.inl hb))
   .exact .inr (.inr (.inr hb))
  .exact .inl rfl
 .rcases hb with hb|hb|hb|hb
  .exact .inr (.inl (.inl hb))
  .exact .inr (.inl (.inr (.inl hb)))
  .by_cases hs:false=s
   .subst hs;have hb:F' b:=by have l:gL m.F false F' false b:=hb;rwa[fl]at l
    exact .inl (.inl hb)
   .have hb:m.F false b:=by have l:gL m.F s F' false b:=hb;rwa[fX hs]at l
    exact .inr (.inl (.inr (.inr (.inl hb))))
  .by_cases hs:true=s
   .subst hs;have hb:F' b:=by have l:gL m.F true F' true b:=hb;rwa[fl]at l
    exact .inl (.inl hb)
   .have hb:m.F true b:=by have l:gL m.F s F' true b:=hb;rwa[fX hs]at l
    exact .inr (.inl (.inr (.inr (.inr hb))))
end
end
section
variable{p u w' w1:World}{c d g i j r wd:Nat}{m' m2:jl}{v':cB}{tb:Bool->Tb}{F':Nat->Prop}{a':qn}{A C tZ:Option Addr}{h id z:Int}{xs ys zs:List Int}{ss:List Sp}
section
variable{w:World}{B k n o:Nat}{m:jl}{v:cB}{T:Bool->Int->Option (List Int)}{s:Bool}{t:Tb}{b:fu}{x y:Value}
theorem du.at(h:du w A n ss)[l:aF w w']:du w' A n ss:=⟨h.rd.below l.st,h.len⟩
def Gh[aF p w](sh:Hx (du p tZ n ss))(h:Hx (MS w p.1.size g r m v tb))(ce:Hx (cr v tb T))(hT:Hx (T s (j:Int)=none))(hs:Hx (m.cs[oS s+3]?=some (.slice tZ n c)))(hj:Hx ((aW ss)[j]?=some zs))(hr:Hx (aA zs=true))(P:Hx (bt zs=(wd:Int)))
  (h1:1<=wd) (h2:wd<=65536) (hl:v.lv+wd<=v.cap) (Q:v.nx<=1000000000000) (R:v.mv<=1000000000000) (G:(tb s).length<=200):
  () 150 #[.pointer (some ⟨g,oS s,none⟩),j] w (λe w'=>e=.returned au/\∃m' v' I,Hx (MS w' p.1.size g r m' v' I)/\Hx (cr v' I (et T s (j:Int) (some (List.replicate wd 0))))/\Hx (ur v wd v')/\Hx (v'.mv<=v.mv+1)/\Hx (dB w w' g r m m')):=by
 have CC:=@ct;obtain⟨o,J⟩:=lh (oS s);have HO:=ae J;have E:=h.o.t s;have S:du w tZ n ss:=sh.o.at;have U:j<n:=by rw[S.len,<-cj];exact(a5.1 hj).1
 obtain⟨b0,q0,A1,m1,c1,K,rfl,ob,v0,s1,l1,e1⟩:=S.get U;obtain rfl:K=zs:=cn (e1.o.symm.trans hj);have c2:Cl w g (o+2) (.pointer r):=⟨(E.al.cell _).trans (by rw[<-J];exact h.o.ca s)⟩;have c3:Cl w g (o+3) (.slice (some ⟨b0,q0,none⟩) n c):=⟨(E.al.cell _).trans (by rw[<-J];exact hs)⟩;have cz:Cl w b0 (q0+j) (A1,m1,c1):=⟨v0⟩;have V:m1<=1000000:=by have:=cw hr;rw[s1.len];omega
 have X:Hx (cg K=0):=ae (by rw[cg,ah hr.o]);have i1:(j:Int)<(n:Int):=by omega
 rw[J];clear J E S v0
 go_in
 go_upto_region 4 with(go_at_call 73;refine mv (hH V P X) λY _=>?_)
 go_upto_region 7 with(go_at_call 201;refine(PN (p:=p) (h.o.ar.at (w':=Y)) ce.o.ar h1 h2 hl Q R).mono ?_;rintro e Z ⟨rfl,a2,v2,QU,L,M,kR⟩;have D:=ae ((h.o.at (w':=Y)).Jj QU kR);have q8:aj Z p:=D.o.2.prev (h.o.at (w':=Y)))
 have ky:Hx (jb Z p.1.size g o m.cs (m.F s) (tb s)):=ae (by rw[<-HO.o];exact D.o.1.t s);have Z7:Hx (g9 (tb s) (j:Int)=false):=ae (by
  rw[Co];intro hx;obtain⟨xs,N⟩:=ce.o.has.1 hx;rw[hT.o]at N;cases N)
 have HPU:Hx (p.1.size<=Z.1.size):=q8.st.size
 go_wp2_with (go_at_call 202;refine(UG ky Z7 G HPU).mono ?_;rintro e u3 ⟨rfl,x9,y9,F9,l,O⟩;have HT9:=ae l;have RN:=ae O;clear l O)
 go_ret;have l:=HT9.o;rw[<-HO.o]at l;obtain⟨q1,q2⟩:=D.o.1.table s l RN;exact⟨rfl,_,_,_,ae q1,ae (ce.o.oJ hT L),L,M,ae (((dB.later g r m).trans D.o.2).trans q2)⟩
def Lf[aF p w](h:Hx (MS w p.1.size g r m v tb))(ce:Hx (cr v tb T))(hT:Hx (T s id=some ys))[sx:Sl w C k xs](hl:Hx (xs.length=ys.length)):
  () 151 #[.pointer (some ⟨g,oS s,none⟩),id,.agg #[(A,n,c),(C,k,d)]] w (λe w'=>e=.returned au/\∃m' v',Hx (MS w' p.1.size g r m' v' tb)/\Hx (cr v' tb (et T s id (some xs)))/\Hx (v'.lv=v.lv/\v'.pe=v.pe/\v'.cap=v.cap/\v'.nx=v.nx/\v'.mv=v.mv)/\Hx (dB w w' g r m m')):=by
 have CC:=@ct;obtain⟨o,O⟩:=lh (oS s);have l:=h.o.t s;obtain⟨z,hz,b,hb,rfl,G⟩:=ce.o.handle hT;obtain⟨i,hi⟩:=eA hb;have HZ:=ae hz;have Q:=ae hi;have R:=ae hb;have I:=ae ce.o.ar;have J:=ce.o.ar.lay.bd b hb;have L:Hx (xs.length=b.wd):=ae (by rw[hl.o,<-G];exact ig J.2);have S:Hx (k=b.wd):=ae (by rw[sx.len];exact L);have U:=ae h.o.ar;have V:Hx (¬m.a.F r g):=h.o.gA;have X:Hx (jb w p.1.size g o m.cs (m.F s) (tb s)):=ae (by rw[<-O];exact l);have Y:Hx (g<w):=l.al.lt;have c2:Cl w g (o+2) (.pointer r):=⟨(l.al.cell _).trans (by rw[<-O];exact h.o.ca s)⟩;rw[O];clear O l hz hb hi G J
 go_in
 go_upto_region 1 with fail
 refine kQ (λu0 CX k0=>?_);have cb1:Cl u0 w.1.size 1 (C,k,d):=⟨k0.al.cell 1⟩
 go_upto_region 4 with(go_at_call 203;refine mv (KI (X.o.at (w':=u0)) HZ) λu1 _=>?_)
 refine aR p (λw9=>Cl w9 g (o+2) (.pointer r)/\Cl w9 w.1.size 1 (C,k,d)) aq ⟨ao,ao⟩ (λE _=>?_);refine bp 0 ?_;refine bp 1 ?_;refine bp 2 ?_;refine bp 3 ?_;refine bp 4 ?_;refine bp 5 ?_;refine bp 6 ?_;refine aM 7 λK hK=>?_;go_simp;refine(UL (p:=p) (U.o.at (w':=E)) I Q S).mono ?_;rintro e9 P ⟨rfl,M,D⟩;dsimp only;have Z:=ae M;have N:Hx (Kf (m.a.F r) (m.a.F r) w P):=ae ((Kf.later _ (w:=w)).trans D);have hbx:w.1.size<E.1.size:=cE (Cl.eq (w:=E) (g:=w.1.size) (i:=1));have N0:g<E.1.size:=bu Y.o ai;have p9:aj P p:=N.o.prev λb hb=>(h.o.ar.lt b hb).1;have cc1:Cl P g (o+2) (.pointer r):=⟨(dY (D.keep g N0 V)).trans (Cl.eq (w:=E))⟩;have cc2:Cl P w.1.size 1 (C,k,d):=⟨(dY (D.keep w.1.size hbx λhx=>absurd (h.o.ar.lt _ hx).2 (kt _))).trans (Cl.eq (w:=E))⟩;refine aL hK ?_ ⟨p9,cc1,cc2⟩;clear hK K M D;refine bp 8 ?_;refine aZ ?_
 go_wp2_with fail
 go_ret;obtain⟨q1,q2⟩:=h.o.Jj Z N;exact⟨rfl,_,_,ae q1,ae (ce.o.put HZ (KB.of I R L)),ae ⟨rfl,rfl,rfl,rfl,rfl⟩,ae q2⟩
def Gi[aF p w](h:Hx (MS w p.1.size g r m v tb))(ce:Hx (cr v tb T))(Z:Hx (T s id=some ys)):
  () 98 #[.pointer (some ⟨g,oS s,none⟩),id] w (λe w'=>e=.returned au/\∃m' v' G,Hx (MS w' p.1.size g r m' v' G)/\Hx (cr v' G (et T s id none))/\Hx (v'.lv+ys.length=v.lv/\v'.pe=v.pe/\v'.cap=v.cap/\v'.nx=v.nx/\v'.mv=v.mv)/\Hx (dB w w' g r m m')):=by
 have CC:=@ct;obtain⟨o,P⟩:=lh (oS s);have U:=ae P;obtain⟨z,V,b,hb,rfl,I⟩:=ce.o.handle Z;obtain⟨i,hi⟩:=eA hb;have X:=ae V;have J:=ae hi;have K:=ae ce.o.ar;have L:=ce.o.ar.lay.bd b hb;have Q:Hx (b.wd=ys.length):=ae (by rw[<-I];exact(ig L.2).symm);have R:Hx (jb w p.1.size g o m.cs (m.F s) (tb s)):=ae (by rw[<-P];exact h.o.t s);rw[P];clear P V hb hi I L
 go_in
 go_upto_region 4 with(go_at_call 152;refine(UF R X).mono ?_;rintro e S ⟨rfl,x9,y9,F9,E,M⟩;rw[<-U.o]at E;have l:=ae (h.o.table s E M);have su:aj S p:=l.o.2.prev h;have c2:Cl S g (o+2) (.pointer r):=⟨((l.o.1.t s).al.cell _).trans (by rw[<-U.o];exact l.o.1.ca s)⟩;have og:Old g S:=⟨(l.o.1.t s).al.lt⟩;clear E M)
 go_wp2_with (go_at_call 153;refine(PE (p:=p) l.o.1.ar K J).mono ?_;rintro e u2 ⟨rfl,N,O⟩;have D:=ae (l.o.1.Jj N O);clear N O)
 go_ret;have Y:=CM.of K J;refine⟨rfl,_,_,_,ae D.o.1,ae (ce.o.free X Y),ae ⟨by rw[<-Q.o];exact Y.lv,rfl,rfl,rfl,rfl⟩,ae (l.o.2.trans D.o.2)⟩
def yO[aF p w](sh:Hx (du p tZ n ss))(h:Hx (MS w p.1.size g r m v tb))(ce:Hx (cr v tb T))(hT:Hx (T s (j:Int)=some xs))(hs:Hx (m.cs[oS s+3]?=some (.slice tZ n c)))(hj:Hx ((aW ss)[j]?=some zs))(hr:Hx (aJ zs xs=true)):
  () 154 #[.pointer (some ⟨g,oS s,none⟩),j] w (he w zs xs 0):=by
 have CC:=@ct;have CB:=@aa;have FB:=@aP;obtain⟨o,L⟩:=lh (oS s);have D:=h.o.t s;obtain⟨z,hz,b,hb,rfl,E⟩:=ce.o.handle hT;obtain⟨i,hi⟩:=eA hb;have HZ:=ae hz;have M:=ae hi;have N:=ae ce.o.ar;have O:=ae E;have P:=ce.o.ar.lay.bd b hb;have G:aA zs=true/\(xs.length:Int)=aN zs:=(bf zs xs).1 hr;obtain⟨n9,z1,z2,z3⟩:=cV G.1;have Q:b.wd<=65536:=by
  have h9:xs.length=b.wd:=by rw[<-E];exact ig P.2
  omega
 have R:du w tZ n ss:=sh.o.at;have S:j<n:=by rw[R.len,<-cj];exact(a5.1 hj).1
 obtain⟨b0,q0,A1,m1,c1,l,rfl,ob,v0,s1,l1,e1⟩:=R.get S;obtain rfl:l=zs:=cn (e1.o.symm.trans hj);have c2:Cl w g (o+2) (.pointer r):=⟨(D.al.cell _).trans (by rw[<-L];exact h.o.ca s)⟩;have c3:Cl w g (o+3) (.slice (some ⟨b0,q0,none⟩) n c):=⟨(D.al.cell _).trans (by rw[<-L];exact hs)⟩;have cz:Cl w b0 (q0+j) (A1,m1,c1):=⟨v0⟩;have U:m1<=1000000:=by have:=cw G.1;rw[s1.len];omega
 have i1:(j:Int)<(n:Int):=by omega
 have V:Hx (jb w p.1.size g o m.cs (m.F s) (tb s)):=ae (by rw[<-L];exact D);rw[L];clear L D R v0 hz hb hi E P G z1 z2 z3
 go_in
 go_upto_region 1 with fail
 refine kQ (λu0 CX k0=>?_)
 go_upto_region 4 with(go_at_call 203;refine mv (KI (V.o.at (w':=u0)) HZ) λu1 _=>?_)
 go_upto_region 7 with(go_at_call 209;refine(UK (h.o.ar.at (w':=u1)) N M Q).mono ?_;rintro e u2 ⟨A9,c9,rfl,X,_⟩;rw[O.o]at X;obtain⟨sl9,-⟩:Sl u2 A9 b.wd xs/\True:=⟨⟨X.rd,by rw[<-O.o];exact(ig (N.o.lay.bd b (aC M)).2).symm⟩,bA⟩;clear X)
 go_wp2_with (go_at_call 25;refine(wv U om hr).mono ?_;rintro e u ⟨I,J,K,d',rfl,sA,sX,lA,lX,fA,fX,_⟩)
 have kR:Bx u (w.1.size) 28 #[(),()]:=ao;have k3:=kR.al.cY (.slice I l J) (.slice K xs d');have B3:=cM (a7 w u) (p:=w.1.size) om (.slice I l J) (.slice K xs d');have Y:=sA.cU fA (Bx.al (g:=w.1.size)).lt (.slice I l J) (.slice K xs d');have Z:=sX.cU fX (Bx.al (g:=w.1.size)).lt (.slice I l J) (.slice K xs d');obtain⟨r0,r1⟩:=di k3;refine a8 (v:=.tuple #[.agg #[.slice I l J,.slice K xs d'],au]) (by simp[results,results154,go_sem,r0,r1]) rfl ?_;exact⟨I,J,K,d',rfl,Y,Z,lA,lX,fA.less ai,fX.less ai,⟨B3⟩⟩
end
end
