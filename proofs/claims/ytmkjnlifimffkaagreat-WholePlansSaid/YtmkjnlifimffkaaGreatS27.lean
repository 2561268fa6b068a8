/- Lemmas. -/
import Derived.Test.YtmkjnlifimffkaaGreatS06
import Derived.Test.YtmkjnlifimffkaaGreatS26
namespace Go.Proofs.YtmkjnlifimffkaaGreat
open Go.RowKit Tryz
set_option linter.all false
set_option maxRecDepth 100000
set_option maxHeartbeats 0
variable{Γ:Prop}
section
variable{p u w w' w1:World}{c g i j k n r wd:Nat}{v':da}{tb:Bool->Tb}{F':Nat->Prop}{a':r7}{A wm:Option Addr}{h id z:Int}{xs ys zs:List Int}{ss:List Sp}{cs:Array Value}
def oS(s:Bool):Nat:=if s then 13 else 9
structure kE where
 cs:Array Value
 a:r7
 F:Bool->Nat->Prop
def kE.U(m:kE)(g r b:Nat):Prop:=b=g\/m.a.F r b\/m.F false b\/m.F true b
structure MS(w:World)(B g r:Nat)(m:kE)(v:da)(tb:Bool->Tb):Prop where
 ar:dk w B r m.a v
 t:∀s,kq w B g (oS s) m.cs (m.F s) (tb s)
 ca:∀s,m.cs[oS s+2]?=some (.pointer r)
 gB:B<=g
 gA:¬m.a.F r g
 FA:∀s b,m.F s b->¬m.a.F r b
 FF:∀s b,m.F s b->¬m.F (!s) b
def kD(cs b:m0):Prop:=∀i,i≠9->i≠10->i≠13->i≠14->b[i]?=cs[i]?
structure d6(w w':World)(g r:Nat)(m m':kE):Prop where
 kf:Kf (m.U g r) (m'.U g r) w w'
 sm:kD m.cs m'.cs
section
variable{B o:Nat}{m m' m2:kE}{v:da}{T:Bool->Int->Option (List Int)}{s:Bool}{t:Tb}{b:gj}{x y:Value}
def kD.refl(cs:m0):kD cs cs:=λ_ _ _ _ _=>rfl
def kD.trans{a b d:m0}(h:kD a b)(E:kD b d):kD a d:=λi e l C D=>(E i e l C D).trans (h i e l C D)
def d6.trans(h:d6 w w' g r m m')(e:d6 w' u g r m' m2):d6 w u g r m m2:=⟨h.kf.trans e.kf,h.sm.trans e.sm⟩
def d6.later(g r:Nat)(m:kE)[aT w w']:d6 w w' g r m m:=⟨Kf.later _,kD.refl _⟩
def kD.bP(s:Bool)(cs:m0)(x y:Value):kD cs (bP cs (oS s) x y):=λi e l C D=>by
 cases s;exact oG (o:=9) e l x y;exact oG (o:=13) C D x y
def qh.GC{n c:Nat}{F:Nat->Prop}(h:qh w B A n c F t):∀b,F b->B<=b/\b<w.1.size:=λb hb=>by
 rcases h with⟨C,D,e⟩|⟨C,q,r,G,D,e,l,I,E⟩;exact absurd hb (e b);rcases(E b).1 hb with rfl|rfl;exact⟨(e.af (dw.2 rfl)).1,(e.af (dw.2 rfl)).2.1⟩;exact⟨(l.af (dw.2 rfl)).1,(l.af (dw.2 rfl)).2.1⟩
def kq.GC{F:Nat->Prop}(h:kq w B g o cs F t):∀b,F b->B<=b/\b<w.1.size:=by
 obtain⟨A,n,c,l,_,_,e⟩:=h.tb;exact e.GC
def kq.Bf{F:Nat->Prop}(h:kq w B g o cs F t)(e:∀b,F b\/b=g->w'.heap[b]?=w.heap[b]?):kq w' B g o cs F t:=by
 obtain⟨A,n,c,l,C,D,E⟩:=h.tb;exact⟨(e g (.inr rfl)).trans h.ak,⟨A,n,c,l,C,D,E.keep λb hb=>e b (.inl hb)⟩,h.p9,h.len⟩
def kq.ng{F:Nat->Prop}(h:kq w B g o cs F t):¬F g:=by
 obtain⟨A,n,c,l,_,_,e⟩:=h.tb;exact e.ne h.ak
def MS.lt(h:MS w B g r m v tb):∀b,m.U g r b->B<=b/\b<w.1.size:=λb hb=>by
 rcases hb with rfl|hb|hb|hb;exact⟨h.gB,(h.t false).ak.lt⟩;exact h.ar.lt b hb;exact(h.t false).GC b hb;exact(h.t true).GC b hb
def MS.at(h:MS w B g r m v tb)[aT w w']:MS w' B g r m v tb:=⟨h.ar.at,λs=>(h.t s).at,h.ca,h.gB,h.gA,h.FA,h.FF⟩
theorem d6.prev(h:d6 w w' g r m m')(hm:MS w p.1.size g r m v tb)[aT p w]:aj w' p:=h.kf.prev λb hb=>(hm.lt b hb).1
def xb0(h:Γ:=by exact .inr (.inl (.inr (.inr (.inl hb))))):=h
def xb1(h:Γ:=by exact .inr (.inl (.inr (.inr (.inr hb))))):=h
def MS.L2(h:MS w B g r m v tb)(e:dk w' B r a' v')(hK:Kf (m.a.F r) (a'.F r) w w'):MS w' B g r {m with a:=a'} v' tb/\d6 w w' g r m {m with a:=a'}:=by
 refine⟨⟨e,λs=>(h.t s).Bf λb hb=>hK.keep b ?_ ?_,h.ca,h.gB,λhg=>?_,λs b hb l=>?_,h.FF⟩,⟨hK.more (λb hb=>.inr (.inl hb)) λb hb=>?_,kD.refl _⟩⟩;rcases hb with hb|rfl;exact((h.t s).GC b hb).2;exact(h.t s).ak.lt;rcases hb with hb|rfl;exact h.FA s b hb;exact h.gA;rcases hK.new g hg with h1|h1;exact h.gA h1;have:=(h.t false).ak.lt;omega;rcases hK.new b l with h1|h1;exact h.FA s b hb h1;have:=((h.t s).GC b hb).2;omega;rcases hb with hb|hb|hb|hb;exact .inr (.inl (.inl hb));exact .inl hb;exact xb0;exact xb1
def UR(s:Bool):oS (!s)≠oS s/\oS (!s)≠oS s+1/\oS (!s)+1≠oS s/\oS (!s)+1≠oS s+1/\oS s+2≠oS (!s)/\oS s+2≠oS (!s)+1/\oS s+2≠oS s/\oS s+2≠oS s+1:=by cases s<;>decide
def MS.table(h:MS w B g r m v tb)(s:Bool)(J:kq w' B g (oS s) (bP m.cs (oS s) x y) F' t)(hK:Kf (λb=>m.F s b\/b=g) (λb=>F' b\/b=g) w w'):
  MS w' B g r ⟨bP m.cs (oS s) x y,m.a,h0 m.F s F'⟩ v (h0 tb s t)/\d6 w w' g r m ⟨bP m.cs (oS s) x y,m.a,h0 m.F s F'⟩:=by
 have G:∀e,e≠s->e=!s:=λe hs=>by cases s<;>cases e<;>simp_all
 have D:=UR s;have E:∀b,F' b->m.F s b\/w.1.size<=b:=λb hb=>by rcases hK.new b (.inl hb)with(h1|h1)|h1;exact .inl h1;subst h1;exact absurd hb J.ng;exact .inr h1
 refine⟨⟨h.ar.kf hK λb hb I=>?_,λe=>?_,λe=>?_,h.gB,h.gA,λe b hb K=>?_,λe b hb C=>?_⟩,⟨hK.more (λb hb=>?_) λb hb=>?_,kD.bP s _ _ _⟩⟩;rcases I with I|rfl;exact h.FA s b I hb;exact h.gA hb;by_cases hs:e=s;subst hs;show kq w' B g (oS e) _ (h0 m.F e F' e) (h0 tb e t e);rw[ga,ga];exact J;show kq w' B g (oS e) _ (h0 m.F s F' e) (h0 tb s t e);rw[gX hs,gX hs];obtain rfl:=G e hs;obtain⟨A,n,c,M,h1,N,L⟩:=(h.t (!s)).tb;refine⟨J.ak,⟨A,n,c,M,?_,?_,L.keep λb hb=>hK.keep b (L.GC b hb).2 ?_⟩,(h.t (!s)).p9,(h.t (!s)).len⟩;rw[oG D.1 D.2.1];exact h1;rw[oG D.2.2.1 D.2.2.2.1];exact N;rintro(I|rfl);exact h.FF s b I hb;exact(h.t (!s)).ng hb;show(bP m.cs (oS s) x y)[oS e+2]?=_;by_cases hs:e=s;subst hs;rw[oG D.2.2.2.2.2.2.1 D.2.2.2.2.2.2.2];exact h.ca e;obtain rfl:=G e hs;have l:=(UR (!s)).2.2.2.2;rw[Bool.not_not]at l;rw[oG l.1 l.2.1];exact h.ca (!s);by_cases hs:e=s;subst hs;have hb:F' b:=by have l:h0 m.F e F' e b:=hb;rwa[ga]at l
 rcases E b hb with h1|h1;exact h.FA e b h1 K;have:=(h.ar.lt b K).2;omega;have hb:m.F e b:=by have l:h0 m.F s F' e b:=hb;rwa[gX hs]at l
 exact h.FA e b hb K;by_cases hs:e=s;subst hs;have hb:F' b:=by have l:h0 m.F e F' e b:=hb;rwa[ga]at l
 have C:m.F (!e) b:=by have l:h0 m.F e F' (!e) b:=C;rwa[gX aD]at l
 rcases E b hb with h1|h1;exact h.FF e b h1 C;have:=((h.t (!e)).GC b C).2;omega;obtain rfl:=G e hs;have hb:m.F (!s) b:=by have l:h0 m.F s F' (!s) b:=hb;rwa[gX hs]at l
 have C:F' b:=by have l:h0 m.F s F' (!!s) b:=C;rw[Bool.not_not,ga]at l;exact l
 rcases E b C with h1|h1;exact h.FF s b h1 hb;have:=((h.t (!s)).GC b hb).2;omega;rcases hb with hb|rfl;cases s;exact .inr (.inr (.inl hb));exact .inr (.inr (.inr hb));exact .inl rfl;rcases hb with hb|hb|hb|hb;exact .inr (.inl (.inl hb));exact .inr (.inl (.inr (.inl hb)));by_cases hs:false=s;subst hs;have hb:F' b:=by have l:h0 m.F false F' false b:=hb;rwa[ga]at l
 exact .inl (.inl hb);have hb:m.F false b:=by have l:h0 m.F s F' false b:=hb;rwa[gX hs]at l
 exact xb0;by_cases hs:true=s;subst hs;have hb:F' b:=by have l:h0 m.F true F' true b:=hb;rwa[ga]at l
 exact .inl (.inl hb);have hb:m.F true b:=by have l:h0 m.F s F' true b:=hb;rwa[gX hs]at l
 exact xb1
end
end
section
variable{p u w w' w1:World}{c d g i j k n r wd:Nat}{m2:kE}{v':da}{tb:Bool->Tb}{F':Nat->Prop}{a':r7}{A C wm:Option Addr}{h id z:Int}{xs ys zs:List Int}{ss:List Sp}
section
variable{B o:Nat}{m m':kE}{v:da}{T:Bool->Int->Option (List Int)}{s:Bool}{t:Tb}{b:gj}{x y:Value}
theorem dZ.at(h:dZ w A n ss)[l:aT w w']:dZ w' A n ss:=⟨h.rd.below l.st,h.len⟩
def IY[aT p w](sh:Hx (dZ p wm n ss))(h:Hx (MS w p.1.size g r m v tb))(E:Hx (cV v tb T))(hT:Hx (T s (j:Int)=none))(hs:Hx (m.cs[oS s+3]?=some (.slice wm n c)))(hj:Hx ((aS ss)[j]?=some zs))(hr:Hx (aA zs=true))(Q:Hx (bz zs=(wd:Int)))
  (h1:1<=wd) (h2:wd<=65536) (hl:v.lv+wd<=v.cap) (R:v.nx<=1000000000000) (S:v.mv<=1000000000000) (I:(tb s).length<=200):
  () 150 #[.pointer (some ⟨g,oS s,none⟩),j] w (λe w'=>e=.returned an/\∃m' v' J,Hx (MS w' p.1.size g r m' v' J)/\Hx (cV v' J (eW T s (j:Int) (some (List.replicate wd 0))))/\Hx (wG v wd v')/\Hx (v'.mv<=v.mv+1)/\Hx (d6 w w' g r m m')):=by
 have CC:=@cQ;obtain⟨o,K⟩:=lh (oS s);have HO:=ae K;have G:=h.o.t s;have U:dZ w wm n ss:=sh.o.at;have V:j<n:=by rw[U.len,<-cX];exact(a8.1 hj).1
 obtain⟨b0,q0,A1,m1,c1,L,rfl,ob,v0,s1,l1,e1⟩:=U.get V;obtain rfl:L=zs:=cH (e1.o.symm.trans hj);have c2:Cl w g (o+2) (.pointer r):=⟨(G.ak.cell _).trans (by rw[<-K];exact h.o.ca s)⟩;have c3:Cl w g (o+3) (.slice (some ⟨b0,q0,none⟩) n c):=⟨(G.ak.cell _).trans (by rw[<-K];exact hs)⟩;have cz:Cl w b0 (q0+j) (A1,m1,c1):=⟨v0⟩;have X:m1<=1000000:=by have:=cG hr;rw[s1.len];omega
 have Y:Hx (cA L=0):=ae (by rw[cA,ah hr.o]);have i1:(j:Int)<(n:Int):=by omega
 rw[K];clear K G U v0;go_in;go_upto_region 4 with(go_at_call 73;refine mv (h5 X Q Y) λZ _=>?_);go_upto_region 7 with(go_at_call 201;refine(Sn (p:=p) (h.o.ar.at (w':=Z)) E.o.ar h1 h2 hl R S).mono ?_;rintro e u2 ⟨rfl,a2,v2,T7,M,N,m5⟩;have D:=ae ((h.o.at (w':=Z)).L2 T7 m5);have sO:aj u2 p:=D.o.2.prev (h.o.at (w':=Z)))
 have l2:Hx (kq u2 p.1.size g o m.cs (m.F s) (tb s)):=ae (by rw[<-HO.o];exact D.o.1.t s);have HN2:Hx (iF (tb s) (j:Int)=false):=ae (by
  rw[EH];intro hx;obtain⟨xs,O⟩:=E.o.has.1 hx;rw[hT.o]at O;cases O)
 have HPU:Hx (p.1.size<=u2.1.size):=sO.st.size;go_wp2_with (go_at_call 202;refine(Xf l2 HN2 I HPU).mono ?_;rintro e u3 ⟨rfl,x9,y9,F9,l,P⟩;have HT9:=ae l;have QE:=ae P;clear l P);go_ret;have l:=HT9.o;rw[<-HO.o]at l;obtain⟨q1,q2⟩:=D.o.1.table s l QE;exact⟨rfl,_,_,_,ae q1,ae (E.o.p8 hT M),M,N,ae (((d6.later g r m).trans D.o.2).trans q2)⟩
def NR[aT p w](h:Hx (MS w p.1.size g r m v tb))(l:Hx (cV v tb T))(hT:Hx (T s id=some ys))[sx:Sl w C k xs](hl:Hx (xs.length=ys.length)):
  () 151 #[.pointer (some ⟨g,oS s,none⟩),id,.agg #[(A,n,c),(C,k,d)]] w (λe w'=>e=.returned an/\∃m' v',Hx (MS w' p.1.size g r m' v' tb)/\Hx (cV v' tb (eW T s id (some xs)))/\Hx (v'.lv=v.lv/\v'.pe=v.pe/\v'.cap=v.cap/\v'.nx=v.nx/\v'.mv=v.mv)/\Hx (d6 w w' g r m m')):=by
 have CC:=@cQ;obtain⟨o,P⟩:=lh (oS s);have D:=h.o.t s;obtain⟨z,hz,b,hb,rfl,I⟩:=l.o.handle hT;obtain⟨i,hi⟩:=eN hb;have HZ:=ae hz;have R:=ae hi;have S:=ae hb;have J:=ae l.o.ar;have L:=l.o.ar.lay.bd b hb;have M:Hx (xs.length=b.wd):=ae (by rw[hl.o,<-I];exact jj L.2);have U:Hx (k=b.wd):=ae (by rw[sx.len];exact M);have V:=ae h.o.ar;have X:Hx (¬m.a.F r g):=h.o.gA;have Y:Hx (kq w p.1.size g o m.cs (m.F s) (tb s)):=ae (by rw[<-P];exact D);have Z:Hx (g<w):=D.ak.lt;have c2:Cl w g (o+2) (.pointer r):=⟨(D.ak.cell _).trans (by rw[<-P];exact h.o.ca s)⟩;rw[P];clear P D hz hb hi I L;go_in;go_upto_region 1 with fail;refine mr (λu0 Ff k0=>?_);have cb1:Cl u0 w.1.size 1 (C,k,d):=⟨k0.ak.cell 1⟩;go_upto_region 4 with(go_at_call 203;refine mv (Na (Y.o.at (w':=u0)) HZ) λu1 _=>?_);refine a6 p (λw9=>Cl w9 g (o+2) (.pointer r)/\Cl w9 w.1.size 1 (C,k,d)) ao ⟨aq,aq⟩ (λG _=>?_);refine bT 0 ?_;refine bT 1 ?_;refine bT 2 ?_;refine bT 3 ?_;refine bT 4 ?_;refine bT 5 ?_;refine bT 6 ?_;refine aK 7 λK hK=>?_;go_simp;refine(Xk (p:=p) (V.o.at (w':=G)) J R U).mono ?_;rintro e9 Q ⟨rfl,N,E⟩;dsimp only;have HMP:=ae N;have O:Hx (Kf (m.a.F r) (m.a.F r) w Q):=ae ((Kf.later _ (w:=w)).trans E);have hbx:w.1.size<G.1.size:=de (Cl.eq (w:=G) (g:=w.1.size) (i:=1));have uC:g<G.1.size:=bu Z.o ai;have p9:aj Q p:=O.o.prev λb hb=>(h.o.ar.lt b hb).1;have cc1:Cl Q g (o+2) (.pointer r):=⟨(d9 (E.keep g uC X)).trans (Cl.eq (w:=G))⟩;have cc2:Cl Q w.1.size 1 (C,k,d):=⟨(d9 (E.keep w.1.size hbx λhx=>absurd (h.o.ar.lt _ hx).2 (o8 _))).trans (Cl.eq (w:=G))⟩;refine aG hK ?_ ⟨p9,cc1,cc2⟩;clear hK K N E;refine bT 8 ?_;refine a9 ?_;go_wp2_with fail;go_ret;obtain⟨q1,q2⟩:=h.o.L2 HMP O;exact⟨rfl,_,_,ae q1,ae (l.o.put HZ (M3.of J S M)),ae ⟨rfl,rfl,rfl,rfl,rfl⟩,ae q2⟩
def IZ[aT p w](h:Hx (MS w p.1.size g r m v tb))(D:Hx (cV v tb T))(hT:Hx (T s id=some ys)):
  () 98 #[.pointer (some ⟨g,oS s,none⟩),id] w (λe w'=>e=.returned an/\∃m' v' I,Hx (MS w' p.1.size g r m' v' I)/\Hx (cV v' I (eW T s id none))/\Hx (v'.lv+ys.length=v.lv/\v'.pe=v.pe/\v'.cap=v.cap/\v'.nx=v.nx/\v'.mv=v.mv)/\Hx (d6 w w' g r m m')):=by
 have CC:=@cQ;obtain⟨o,Q⟩:=lh (oS s);have V:=ae Q;obtain⟨z,X,b,hb,rfl,J⟩:=D.o.handle hT;obtain⟨i,hi⟩:=eN hb;have Y:=ae X;have K:=ae hi;have L:=ae D.o.ar;have M:=D.o.ar.lay.bd b hb;have R:Hx (b.wd=ys.length):=ae (by rw[<-J];exact(jj M.2).symm);have S:Hx (kq w p.1.size g o m.cs (m.F s) (tb s)):=ae (by rw[<-Q];exact h.o.t s);rw[Q];clear Q X hb hi J M;go_in;go_upto_region 4 with(go_at_call 152;refine(Xe S Y).mono ?_;rintro e U ⟨rfl,x9,y9,F9,G,N⟩;rw[<-V.o]at G;have l:=ae (h.o.table s G N);have sQ:aj U p:=l.o.2.prev h;have c2:Cl U g (o+2) (.pointer r):=⟨((l.o.1.t s).ak.cell _).trans (by rw[<-V.o];exact l.o.1.ca s)⟩;have og:Old g U:=⟨(l.o.1.t s).ak.lt⟩;clear G N);go_wp2_with (go_at_call 153;refine(Sb (p:=p) l.o.1.ar L K).mono ?_;rintro e u2 ⟨rfl,O,P⟩;have E:=ae (l.o.1.L2 O P);clear O P);go_ret;have Z:=E1.of L K;refine⟨rfl,_,_,_,ae E.o.1,ae (D.o.free Y Z),ae ⟨by rw[<-R.o];exact Z.lv,rfl,rfl,rfl,rfl⟩,ae (l.o.2.trans E.o.2)⟩
def Bg[aT p w](sh:Hx (dZ p wm n ss))(h:Hx (MS w p.1.size g r m v tb))(E:Hx (cV v tb T))(hT:Hx (T s (j:Int)=some xs))(hs:Hx (m.cs[oS s+3]?=some (.slice wm n c)))(hj:Hx ((aS ss)[j]?=some zs))(hr:Hx (ap zs xs=true)):
  () 154 #[.pointer (some ⟨g,oS s,none⟩),j] w (dK w zs xs 0):=by
 have CC:=@cQ;have CB:=@ay;have FB:=@aO;obtain⟨o,M⟩:=lh (oS s);have D:=h.o.t s;obtain⟨z,hz,b,hb,rfl,G⟩:=E.o.handle hT;obtain⟨i,hi⟩:=eN hb;have HZ:=ae hz;have N:=ae hi;have O:=ae E.o.ar;have P:=ae G;have Q:=E.o.ar.lay.bd b hb;have I:aA zs=true/\(xs.length:Int)=ax zs:=(aN zs xs).1 hr;obtain⟨n9,z1,z2,z3⟩:=cP I.1;have R:b.wd<=65536:=by (have h9:xs.length=b.wd:=by rw[<-G];exact jj Q.2);omega
 have S:dZ w wm n ss:=sh.o.at;have U:j<n:=by rw[S.len,<-cX];exact(a8.1 hj).1
 obtain⟨b0,q0,A1,m1,c1,l,rfl,ob,v0,s1,l1,e1⟩:=S.get U;obtain rfl:l=zs:=cH (e1.o.symm.trans hj);have c2:Cl w g (o+2) (.pointer r):=⟨(D.ak.cell _).trans (by rw[<-M];exact h.o.ca s)⟩;have c3:Cl w g (o+3) (.slice (some ⟨b0,q0,none⟩) n c):=⟨(D.ak.cell _).trans (by rw[<-M];exact hs)⟩;have cz:Cl w b0 (q0+j) (A1,m1,c1):=⟨v0⟩;have V:m1<=1000000:=by have:=cG I.1;rw[s1.len];omega
 have i1:(j:Int)<(n:Int):=by omega
 have X:Hx (kq w p.1.size g o m.cs (m.F s) (tb s)):=ae (by rw[<-M];exact D);rw[M];clear M D S v0 hz hb hi G Q I z1 z2 z3;go_in;go_upto_region 1 with fail;refine mr (λu0 Ff k0=>?_);go_upto_region 4 with(go_at_call 203;refine mv (Na (X.o.at (w':=u0)) HZ) λu1 _=>?_);go_upto_region 7 with(go_at_call 209;refine(Xj (h.o.ar.at (w':=u1)) O N R).mono ?_;rintro e u2 ⟨A9,c9,rfl,Y,_⟩;rw[P.o]at Y;obtain⟨sl9,-⟩:Sl u2 A9 b.wd xs/\True:=⟨⟨Y.rd,by rw[<-P.o];exact(jj (O.o.lay.bd b (aC N)).2).symm⟩,bX⟩;clear Y);go_wp2_with (go_at_call 25;refine(rJ V om hr).mono ?_;rintro e u ⟨J,K,L,d',rfl,sA,sX,lA,lX,fA,fX,_⟩);have kR:Bx u (w.1.size) 28 #[(),()]:=aq;have k3:=kR.ak.bP (.slice J l K) (.slice L xs d');have B3:=br (aP w u) (p:=w.1.size) om (.slice J l K) (.slice L xs d');have Z:=sA.bA fA (Bx.ak (g:=w.1.size)).lt (.slice J l K) (.slice L xs d');have l4:=sX.bA fX (Bx.ak (g:=w.1.size)).lt (.slice J l K) (.slice L xs d');obtain⟨r0,r1⟩:=bI k3;exact aX (v:=.tuple #[.agg #[.slice J l K,.slice L xs d'],an]) (by simp[results,results154,go_sem,r0,r1]) rfl<|⟨J,K,L,d',rfl,Z,l4,lA,lX,fA.less ai,fX.less ai,⟨B3⟩⟩
end
end
end Go.Proofs.YtmkjnlifimffkaaGreat
