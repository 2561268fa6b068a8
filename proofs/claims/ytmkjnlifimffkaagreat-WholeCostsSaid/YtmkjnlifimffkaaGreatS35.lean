/- Lemmas. No condition. -/
import Derived.Test.YtmkjnlifimffkaaGreatS11
import Derived.Test.YtmkjnlifimffkaaGreatS34
namespace Go.Proofs.YtmkjnlifimffkaaGreat
open Go.RowKit
set_option linter.all false
set_option maxRecDepth 100000
set_option maxHeartbeats 16000000
def oS(s:Bool):Nat:=if s then 13 else 9
structure jB where
 cs:Array Value
 a:oo
 F:Bool->Nat->Prop
def jB.U(m:jB)(g r b:Nat):Prop:=b=g\/m.a.F r b\/m.F false b\/m.F true b
structure MS(w:World)(B g r:Nat)(m:jB)(v:bL)(tb:Bool->Tb):Prop where
 ar:bQ w B r m.a v
 t:∀s,jv w B g (oS s) m.cs (m.F s) (tb s)
 ca:∀s,m.cs[oS s+2]?=some (.pointer r)
 gB:B<=g
 gA:¬m.a.F r g
 FA:∀s b,m.F s b->¬m.a.F r b
 FF:∀s b,m.F s b->¬m.F (!s) b
def vG(cs b:Array Value):Prop:=∀i,i≠9->i≠10->i≠13->i≠14->b[i]?=cs[i]?
structure gH(w w':World)(g r:Nat)(m m':jB):Prop where
 kf:Kf (m.U g r) (m'.U g r) w w'
 sm:vG m.cs m'.cs
section
variable{p w w' u w1:World}{B r g k n i j c wd o:Nat}{m m' m2:jB}{v v':bL}{tb:Bool->Tb}{T:Bool->Int->Option (List Int)}{s:Bool}{t:Tb}{F':Nat->Prop}{a':oo}{b:dW}{A nu:Option Addr}{x y:Value}{id z h:Int}{zs xs ys:List Int}{ss:List Sp}
theorem vG.refl(cs:Array Value):vG cs cs:=fun _ _ _ _ _=>rfl
theorem vG.trans{a b d:Array Value}(h:vG a b)(E:vG b d):vG a d:=fun i e l C D=>(E i e l C D).trans (h i e l C D)
theorem gH.trans(h:gH w w' g r m m')(e:gH w' u g r m' m2):gH w u g r m m2:=⟨h.kf.trans e.kf,h.sm.trans e.sm⟩
theorem gH.later(g r:Nat)(m:jB)[Later w w']:gH w w' g r m m:=⟨Kf.later _,vG.refl _⟩
theorem vG.set2(s:Bool)(cs:Array Value)(x y:Value):vG cs (set2 cs (oS s) x y):=fun i e l C D=>by
 cases s
 ·exact FD (o:=9) e l x y
 ·exact FD (o:=13) C D x y
theorem nY.lt'{n c:Nat}{F:Nat->Prop}(h:nY w B A n c F t):∀b,F b->B<=b/\b<w.heap.size:=fun b hb=>by
 rcases h with⟨C,D,e⟩|⟨C,q,r,G,D,e,l,I,E⟩
 ·exact absurd hb (e b)
 ·rcases(E b).1 hb with rfl|rfl
  ·exact⟨(e.af (pR.2 rfl)).1,(e.af (pR.2 rfl)).2.1⟩
  ·exact⟨(l.af (pR.2 rfl)).1,(l.af (pR.2 rfl)).2.1⟩
theorem jv.lt'{cs:Array Value}{F:Nat->Prop}(h:jv w B g o cs F t):∀b,F b->B<=b/\b<w.heap.size:=by
 obtain⟨A,n,c,sz,_,_,e⟩:=h.tb;exact e.lt'
theorem jv.keep'{cs:Array Value}{F:Nat->Prop}(h:jv w B g o cs F t)(e:∀b,F b\/b=g->w'.heap[b]?=w.heap[b]?):jv w' B g o cs F t:=by
 obtain⟨A,n,c,sz,l,C,D⟩:=h.tb;exact⟨(e g (.inr rfl)).trans h.blk,⟨A,n,c,sz,l,C,D.keep fun b hb=>e b (.inl hb)⟩,h.rise,h.len⟩
theorem jv.ng{cs:Array Value}{F:Nat->Prop}(h:jv w B g o cs F t):¬F g:=by
 obtain⟨A,n,c,sz,_,_,e⟩:=h.tb;exact e.ne h.blk
theorem MS.lt(h:MS w B g r m v tb):∀b,m.U g r b->B<=b/\b<w.heap.size:=fun b hb=>by
 rcases hb with rfl|hb|hb|hb
 ·exact⟨h.gB,(h.t false).blk.lt⟩
 ·exact h.ar.lt b hb
 ·exact(h.t false).lt' b hb
 ·exact(h.t true).lt' b hb
theorem MS.at(h:MS w B g r m v tb)[Later w w']:MS w' B g r m v tb:=⟨h.ar.at,fun s=>(h.t s).at,h.ca,h.gB,h.gA,h.FA,h.FF⟩
theorem gH.prev(h:gH w w' g r m m')(hm:MS w p.heap.size g r m v tb)[Later p w]:ak w' p:=h.kf.prev fun b hb=>(hm.lt b hb).1
theorem MS.arena(h:MS w B g r m v tb)(l:bQ w' B r a' v')(hK:Kf (m.a.F r) (a'.F r) w w'):MS w' B g r {m with a:=a'} v' tb/\gH w w' g r m {m with a:=a'}:=by
 refine⟨⟨l,fun s=>(h.t s).keep' fun b hb=>hK.keep b ?_ ?_,h.ca,h.gB,fun hg=>?_,fun s b hb C=>?_,h.FF⟩,⟨hK.more (fun b hb=>.inr (.inl hb)) fun b hb=>?_,vG.refl _⟩⟩
 ·rcases hb with hb|rfl
  ·exact((h.t s).lt' b hb).2
  ·exact(h.t s).blk.lt
 ·rcases hb with hb|rfl
  ·exact h.FA s b hb
  ·exact h.gA
 ·rcases hK.new g hg with e|e
  ·exact h.gA e
  ·have:=(h.t false).blk.lt;omega
 ·rcases hK.new b C with e|e
  ·exact h.FA s b hb e
  ·have:=((h.t s).lt' b hb).2;omega
 ·rcases hb with hb|hb|hb|hb
  ·exact .inr (.inl (.inl hb))
  ·exact .inl hb
  ·exact .inr (.inl (.inr (.inr (.inl hb))))
  ·exact .inr (.inl (.inr (.inr (.inr hb))))
theorem acm(s:Bool):oS (!s)≠oS s/\oS (!s)≠oS s+1/\oS (!s)+1≠oS s/\oS (!s)+1≠oS s+1/\oS s+2≠oS (!s)/\oS s+2≠oS (!s)+1/\oS s+2≠oS s/\oS s+2≠oS s+1:=by cases s<;>decide
theorem MS.table(h:MS w B g r m v tb)(s:Bool)(J:jv w' B g (oS s) (set2 m.cs (oS s) x y) F' t)(hK:Kf (fun b=>m.F s b\/b=g) (fun b=>F' b\/b=g) w w'):
  MS w' B g r ⟨set2 m.cs (oS s) x y,m.a,kV m.F s F'⟩ v (kV tb s t)/\gH w w' g r m ⟨set2 m.cs (oS s) x y,m.a,kV m.F s F'⟩:=by
 have G:∀s',s'≠s->s'=!s:=fun s' hs=>by cases s<;>cases s'<;>simp_all
 have D:=acm s;have E:∀b,F' b->m.F s b\/w.heap.size<=b:=fun b hb=>by
  rcases hK.new b (.inl hb)with(l|l)|l
  ·exact .inl l
  ·subst l;exact absurd hb J.ng
  ·exact .inr l
 refine⟨⟨h.ar.kf hK fun b hb I=>?_,fun s'=>?_,fun s'=>?_,h.gB,h.gA,fun s' b hb K=>?_,fun s' b hb C=>?_⟩,⟨hK.more (fun b hb=>?_) fun b hb=>?_,vG.set2 s _ _ _⟩⟩
 ·rcases I with I|rfl
  ·exact h.FA s b I hb
  ·exact h.gA hb
 ·by_cases hs:s'=s
  ·subst hs
   show jv w' B g (oS s') _ (kV m.F s' F' s') (kV tb s' t s')
   rw[uH,uH];exact J
  ·show jv w' B g (oS s') _ (kV m.F s F' s') (kV tb s t s')
   rw[vW hs,vW hs];obtain rfl:=G s' hs;obtain⟨A,n,c,sz,l,M,L⟩:=(h.t (!s)).tb;refine⟨J.blk,⟨A,n,c,sz,?_,?_,L.keep fun b hb=>hK.keep b (L.lt' b hb).2 ?_⟩,(h.t (!s)).rise,(h.t (!s)).len⟩
   ·rw[FD D.1 D.2.1];exact l
   ·rw[FD D.2.2.1 D.2.2.2.1];exact M
   ·rintro(I|rfl)
    ·exact h.FF s b I hb
    ·exact(h.t (!s)).ng hb
 ·show(set2 m.cs (oS s) x y)[oS s'+2]?=_
  by_cases hs:s'=s
  ·subst hs;rw[FD D.2.2.2.2.2.2.1 D.2.2.2.2.2.2.2];exact h.ca s'
  ·obtain rfl:=G s' hs;have e:=(acm (!s)).2.2.2.2;rw[Bool.not_not]at e;rw[FD e.1 e.2.1];exact h.ca (!s)
 ·by_cases hs:s'=s
  ·subst hs;have hb:F' b:=by have e:kV m.F s' F' s' b:=hb;rwa[uH]at e
   rcases E b hb with l|l
   ·exact h.FA s' b l K
   ·have:=(h.ar.lt b K).2;omega
  ·have hb:m.F s' b:=by have e:kV m.F s F' s' b:=hb;rwa[vW hs]at e
   exact h.FA s' b hb K
 ·by_cases hs:s'=s
  ·subst hs;have hb:F' b:=by have e:kV m.F s' F' s' b:=hb;rwa[uH]at e
   have C:m.F (!s') b:=by have e:kV m.F s' F' (!s') b:=C;rwa[vW au]at e
   rcases E b hb with l|l
   ·exact h.FF s' b l C
   ·have:=((h.t (!s')).lt' b C).2;omega
  ·obtain rfl:=G s' hs;have hb:m.F (!s) b:=by have e:kV m.F s F' (!s) b:=hb;rwa[vW hs]at e
   have C:F' b:=by have e:kV m.F s F' (!!s) b:=C;rw[Bool.not_not,uH]at e;exact e
   rcases E b C with l|l
   ·exact h.FF s b l hb
   ·have:=((h.t (!s)).lt' b hb).2;omega
 ·rcases hb with hb|rfl
  ·cases s
   ·exact .inr (.inr (.inl hb))
   ·exact .inr (.inr (.inr hb))
  ·exact .inl rfl
 ·rcases hb with hb|hb|hb|hb
  ·exact .inr (.inl (.inl hb))
  ·exact .inr (.inl (.inr (.inl hb)))
  ·by_cases hs:false=s
   ·subst hs;have hb:F' b:=by have e:kV m.F false F' false b:=hb;rwa[uH]at e
    exact .inl (.inl hb)
   ·have hb:m.F false b:=by have e:kV m.F s F' false b:=hb;rwa[vW hs]at e
    exact .inr (.inl (.inr (.inr (.inl hb))))
  ·by_cases hs:true=s
   ·subst hs;have hb:F' b:=by have e:kV m.F true F' true b:=hb;rwa[uH]at e
    exact .inl (.inl hb)
   ·have hb:m.F true b:=by have e:kV m.F s F' true b:=hb;rwa[vW hs]at e
    exact .inr (.inl (.inr (.inr (.inr hb))))
end
section
variable{p w w' u w1:World}{B r g k n i j c d wd o:Nat}{m m' m2:jB}{v v':bL}{tb:Bool->Tb}{T:Bool->Int->Option (List Int)}{s:Bool}{t:Tb}{F':Nat->Prop}{a':oo}{b:dW}{A C nu:Option Addr}{x y:Value}{id z h:Int}{zs xs ys:List Int}{ss:List Sp}
theorem dA.at(h:dA w A n ss)[l:Later w w']:dA w' A n ss:=⟨h.rd.below l.st,h.len⟩
theorem acn[Later p w](sh:Hid (dA p nu n ss))(h:Hid (MS w p.heap.size g r m v tb))(E:Hid (dK v tb T))(hT:Hid (T s (j:Int)=none))(hs:Hid (m.cs[oS s+3]?=some (.slice nu n c)))(hj:Hid ((aJ ss)[j]?=some zs))(hr:Hid (aU zs=true))(Q:Hid (bJ zs=(wd:Int)))
  (h1:1<=wd) (h2:wd<=65536) (hl:v.lv+wd<=v.cap) (R:v.nx<=1000000000000) (S:v.mv<=1000000000000) (I:(tb s).length<=200):
  Calls Tryz.prog 150 #[.pointer (some ⟨g,oS s,none⟩),j] w (fun e w'=>e=.returned (.int .i64 0)/\∃m' v' J,Hid (MS w' p.heap.size g r m' v' J)/\Hid (dK v' J (iG T s (j:Int) (some (List.replicate wd 0))))/\Hid (BP v wd v')/\Hid (v'.mv<=v.mv+1)/\Hid (gH w w' g r m m')):=by
 have CC:=@jK;obtain⟨o,K⟩:=lh (oS s);have HO:=ae K;have G:=h.out.t s;have U:dA w nu n ss:=sh.out.at;have V:j<n:=by rw[U.len,<-jM];exact(aY.1 hj.out).1
 obtain⟨b0,q0,A1,m1,c1,L,rfl,ob,v0,s1,l1,e1⟩:=U.get V;obtain rfl:L=zs:=eP (e1.out.symm.trans hj.out);have c2:Cl w g (o+2) (.pointer r):=⟨(G.blk.cell _).trans (by rw[<-K];exact h.out.ca s)⟩;have c3:Cl w g (o+3) (.slice (some ⟨b0,q0,none⟩) n c):=⟨(G.blk.cell _).trans (by rw[<-K];exact hs.out)⟩;have cz:Cl w b0 (q0+j) (.slice A1 m1 c1):=⟨v0⟩;have X:m1<=1000000:=by have:=ry hr.out;rw[s1.len];omega
 have Y:Hid (eT L=0):=ae (by rw[eT,if_pos hr.out]);have i1:(j:Int)<(n:Int):=by omega
 rw[K];clear K G U v0;go_enter Tryz.func150,Tryz.ntmps150
 go_upto_region 4 with(go_at_call 73;refine(yV X Q Y).mono ?_;rintro e Z ⟨rfl,_⟩)
 go_upto_region 7 with(go_at_call 201;refine(ahp (p:=p) (h.out.ar.at (w':=Z)) E.out.ar h1 h2 hl R S).mono ?_;rintro e u2 ⟨rfl,a2,v2,Jt,M,N,lN⟩;have D:=ae ((h.out.at (w':=Z)).arena Jt.out lN.out);have ru:ak u2 p:=D.out.2.prev (h.out.at (w':=Z)))
 have HT2:Hid (jv u2 p.heap.size g o m.cs (m.F s) (tb s)):=ae (by rw[<-HO.out];exact D.out.1.t s);have Ut:Hid (qB (tb s) (j:Int)=false):=ae (by
  rw[PQ];intro hx;obtain⟨xs,O⟩:=E.out.has.1 hx;rw[hT.out]at O;cases O)
 have HPU:Hid (p.heap.size<=u2.heap.size):=ae ru.st.size
 go_wp2_with (go_at_call 202;refine(agu HT2.out Ut I HPU.out).mono ?_;rintro e u3 ⟨rfl,x9,y9,F9,l,P⟩;have HT9:=ae l;have EA:=ae P;clear l P)
 go_ret;have l:=HT9.out;rw[<-HO.out]at l;obtain⟨q1,q2⟩:=D.out.1.table s l EA.out;exact⟨rfl,_,_,_,ae q1,ae (E.out.give hT.out M.out),M,N,ae (((gH.later g r m).trans D.out.2).trans q2)⟩
theorem aco[Later p w](h:Hid (MS w p.heap.size g r m v tb))(l:Hid (dK v tb T))(hT:Hid (T s id=some ys))[sx:Sl w C k xs](hl:Hid (xs.length=ys.length)):
  Calls Tryz.prog 151 #[.pointer (some ⟨g,oS s,none⟩),id,.agg #[.slice A n c,.slice C k d]] w (fun e w'=>e=.returned (.int .i64 0)/\∃m' v',Hid (MS w' p.heap.size g r m' v' tb)/\Hid (dK v' tb (iG T s id (some xs)))/\Hid (v'.lv=v.lv/\v'.pe=v.pe/\v'.cap=v.cap/\v'.nx=v.nx/\v'.mv=v.mv)/\Hid (gH w w' g r m m')):=by
 have CC:=@jK;obtain⟨o,P⟩:=lh (oS s);have D:=h.out.t s;obtain⟨z,hz,b,hb,rfl,I⟩:=l.out.handle hT.out;obtain⟨i,hi⟩:=jF hb;have HZ:=ae hz;have R:=ae hi;have S:=ae hb;have J:=ae l.out.ar;have L:=l.out.ar.lay.bd b hb;have M:Hid (xs.length=b.wd):=ae (by rw[hl.out,<-I];exact BK L.2);have U:Hid (k=b.wd):=ae (by rw[sx.len];exact M.out);have V:=ae h.out.ar;have X:Hid (¬m.a.F r g):=ae h.out.gA;have Y:Hid (jv w p.heap.size g o m.cs (m.F s) (tb s)):=ae (by rw[<-P];exact D);have Z:Hid (g<w.heap.size):=ae D.blk.lt;have c2:Cl w g (o+2) (.pointer r):=⟨(D.blk.cell _).trans (by rw[<-P];exact h.out.ca s)⟩;rw[P];clear P D hz hb hi I L;go_enter Tryz.func151,Tryz.ntmps151
 go_upto_region 1 with fail
 refine Iw (fun u0 Ah k0=>?_);have cb1:Cl u0 w.heap.size 1 (.slice C k d):=⟨k0.blk.cell 1⟩
 go_upto_region 4 with(go_at_call 203;refine(X8 (Y.out.at (w':=u0)) HZ.out).mono ?_;rintro e u1 ⟨rfl,_⟩)
 refine j6 p (fun w9=>Cl w9 g (o+2) (.pointer r)/\Cl w9 w.heap.size 1 (.slice C k d)) aj ⟨iin,iin⟩ (fun G _=>?_);refine bu 0 19 ?_;refine bu 1 20 ?_;refine bu 2 21 ?_;refine bu 3 22 ?_;refine bu 4 23 ?_;refine bu 5 24 ?_;refine bu 6 25 ?_;refine ay 7 fun K hK=>?_;go_simp;refine(agZ (p:=p) (V.out.at (w':=G)) J.out R.out U.out).mono ?_;rintro e9 Q ⟨rfl,N,E⟩;dsimp only;have UH:=ae N;have O:Hid (Kf (m.a.F r) (m.a.F r) w Q):=ae ((Kf.later _ (w:=w)).trans E);have hbx:w.heap.size<G.heap.size:=ku (Cl.eq (w:=G) (g:=w.heap.size) (i:=1));have hgx:g<G.heap.size:=bV Z.out aH;have p9:ak Q p:=O.out.prev fun b hb=>(h.out.ar.lt b hb).1;have cc1:Cl Q g (o+2) (.pointer r):=⟨(jG (E.keep g hgx X.out)).trans (Cl.eq (w:=G))⟩;have cc2:Cl Q w.heap.size 1 (.slice C k d):=⟨(jG (E.keep w.heap.size hbx fun hx=>absurd (h.out.ar.lt _ hx).2 (Df _))).trans (Cl.eq (w:=G))⟩;refine av hK ?_ ⟨p9,cc1,cc2⟩;clear hK K N E;refine bu 8 6 ?_;refine aO ?_
 go_wp2_with fail
 go_ret;obtain⟨q1,q2⟩:=h.out.arena UH.out O.out;exact⟨rfl,_,_,ae q1,ae (l.out.put HZ.out (Mj.of J.out S.out M.out)),ae ⟨rfl,rfl,rfl,rfl,rfl⟩,ae q2⟩
theorem acp[Later p w](h:Hid (MS w p.heap.size g r m v tb))(D:Hid (dK v tb T))(hT:Hid (T s id=some ys)):
  Calls Tryz.prog 98 #[.pointer (some ⟨g,oS s,none⟩),id] w (fun e w'=>e=.returned (.int .i64 0)/\∃m' v' I,Hid (MS w' p.heap.size g r m' v' I)/\Hid (dK v' I (iG T s id none))/\Hid (v'.lv+ys.length=v.lv/\v'.pe=v.pe/\v'.cap=v.cap/\v'.nx=v.nx/\v'.mv=v.mv)/\Hid (gH w w' g r m m')):=by
 have CC:=@jK;obtain⟨o,Q⟩:=lh (oS s);have V:=ae Q;obtain⟨z,X,b,hb,rfl,J⟩:=D.out.handle hT.out;obtain⟨i,hi⟩:=jF hb;have Y:=ae X;have K:=ae hi;have L:=ae D.out.ar;have M:=D.out.ar.lay.bd b hb;have R:Hid (b.wd=ys.length):=ae (by rw[<-J];exact(BK M.2).symm);have S:Hid (jv w p.heap.size g o m.cs (m.F s) (tb s)):=ae (by rw[<-Q];exact h.out.t s);rw[Q];clear Q X hb hi J M;go_enter Tryz.func98,Tryz.ntmps98
 go_upto_region 4 with(go_at_call 152;refine(agt S.out Y.out).mono ?_;rintro e U ⟨rfl,x9,y9,F9,G,N⟩;rw[<-V.out]at G;have l:=ae (h.out.table s G N);have tJ:ak U p:=l.out.2.prev h.out;have c2:Cl U g (o+2) (.pointer r):=⟨((l.out.1.t s).blk.cell _).trans (by rw[<-V.out];exact l.out.1.ca s)⟩;have og:Old g U:=⟨(l.out.1.t s).blk.lt⟩;clear G N)
 go_wp2_with (go_at_call 153;refine(ag1 (p:=p) l.out.1.ar L.out K.out).mono ?_;rintro e u2 ⟨rfl,O,P⟩;have E:=ae (l.out.1.arena O P);clear O P)
 go_ret;have Z:=Mk.of L.out K.out;refine⟨rfl,_,_,_,ae E.out.1,ae (D.out.free Y.out Z),ae ⟨by rw[<-R.out];exact Z.lv,rfl,rfl,rfl,rfl⟩,ae (l.out.2.trans E.out.2)⟩
theorem acr[Later p w](sh:Hid (dA p nu n ss))(h:Hid (MS w p.heap.size g r m v tb))(E:Hid (dK v tb T))(hT:Hid (T s (j:Int)=some xs))(hs:Hid (m.cs[oS s+3]?=some (.slice nu n c)))(Y:Hid ((aJ ss)[j]?=some zs))(hr:Hid (bH zs xs=true)):
  Calls Tryz.prog 154 #[.pointer (some ⟨g,oS s,none⟩),j] w (qE w zs xs 0):=by
 have CC:=@jK;have CB:=@bf;have FB:=@dV;obtain⟨o,J⟩:=lh (oS s);have D:=h.out.t s;obtain⟨z,Z,b,hb,rfl,G⟩:=E.out.handle hT.out;obtain⟨i,hi⟩:=jF hb;have HZ:=ae Z;have K:=ae hi;have L:=ae E.out.ar;have M:=ae G;have N:=E.out.ar.lay.bd b hb;have I:aU zs=true/\(xs.length:Int)=aV zs:=(jI zs xs).1 hr.out;obtain⟨n9,z1,z2,z3⟩:=pQ I.1;have O:b.wd<=65536:=by
  have h9:xs.length=b.wd:=by rw[<-G];exact BK N.2
  omega
 have P:dA w nu n ss:=sh.out.at;have Q:j<n:=by rw[P.len,<-jM];exact(aY.1 Y.out).1
 obtain⟨b0,q0,A1,m1,c1,l,rfl,ob,v0,s1,l1,e1⟩:=P.get Q;obtain rfl:l=zs:=eP (e1.out.symm.trans Y.out);have c2:Cl w g (o+2) (.pointer r):=⟨(D.blk.cell _).trans (by rw[<-J];exact h.out.ca s)⟩;have c3:Cl w g (o+3) (.slice (some ⟨b0,q0,none⟩) n c):=⟨(D.blk.cell _).trans (by rw[<-J];exact hs.out)⟩;have cz:Cl w b0 (q0+j) (.slice A1 m1 c1):=⟨v0⟩;have R:m1<=1000000:=by have:=ry I.1;rw[s1.len];omega
 have i1:(j:Int)<(n:Int):=by omega
 have S:Hid (jv w p.heap.size g o m.cs (m.F s) (tb s)):=ae (by rw[<-J];exact D);rw[J];clear J D P v0 Z hb hi G N I z1 z2 z3;go_enter Tryz.func154,Tryz.ntmps154
 go_upto_region 1 with fail
 refine Iw (fun u0 Ah k0=>?_)
 go_upto_region 4 with(go_at_call 203;refine(X8 (S.out.at (w':=u0)) HZ.out).mono ?_;rintro e u1 ⟨rfl,_⟩)
 go_upto_region 7 with(go_at_call 209;refine(agY (h.out.ar.at (w':=u1)) L.out K.out O).mono ?_;rintro e u2 ⟨A9,c9,rfl,U,_⟩;rw[M.out]at U;obtain⟨sl9,-⟩:Sl u2 A9 b.wd xs/\True:=⟨⟨U.rd,by rw[<-M.out];exact(BK (L.out.lay.bd b (aK K.out)).2).symm⟩,bO⟩;clear U)
 go_wp2_with (go_at_call 25;refine(MO R om hr.out).mono ?_;rintro e u ⟨A',c',B',d',rfl,sA,sX,lA,lX,fA,fX,_⟩)
 have kR:Bx u (w.heap.size) 28 #[.slice none 0 0,.slice none 0 0]:=iin;have k3:=kR.blk.set2 (.slice A' l.length c') (.slice B' xs.length d');have B3:=gW (aL w u) (p:=w.heap.size) om (.slice A' l.length c') (.slice B' xs.length d');have V:=sA.dY fA (Bx.blk (g:=w.heap.size)).lt (.slice A' l.length c') (.slice B' xs.length d');have X:=sX.dY fX (Bx.blk (g:=w.heap.size)).lt (.slice A' l.length c') (.slice B' xs.length d');obtain⟨r0,r1⟩:=fC k3;refine bM (v:=.tuple #[.agg #[.slice A' l.length c',.slice B' xs.length d'],(0:Int)]) (by simp[results,Tryz.results154,go_sem,r0,r1]) rfl ?_;exact⟨A',c',B',d',rfl,V,X,lA,lX,fA.less aH,fX.less aH,⟨B3⟩⟩
end
end Go.Proofs.YtmkjnlifimffkaaGreat
