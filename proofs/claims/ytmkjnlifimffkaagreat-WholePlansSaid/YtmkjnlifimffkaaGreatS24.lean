/- Lemmas. -/
import Derived.Test.YtmkjnlifimffkaaGreatS23
namespace Go.Proofs.YtmkjnlifimffkaaGreat
open Go.RowKit Tryz
set_option linter.all false
set_option maxRecDepth 100000
set_option maxHeartbeats 0
variable{Γ:Prop}
attribute[local irreducible]Calls
variable{p u w w':World}{c c' g i l m:Nat}{A A':Option Addr}{fi zs:List Int}{kp pr:List Bool}{cd:List (Int×Int)}{T:TypeId}{cs ds:Array Value}
structure vY where
 AI:Option Addr
 nI:Nat
 cI:Nat
 BN:Option Addr
 cN:Nat
 AO:Option Addr
 cO:Nat
 AL:Option Addr
 cL:Nat
structure vZ where
 g:Nat
 F:Nat
 K:Nat
 P:Nat
structure L0 where
 fi:List Int
 kp:List Bool
 pr:List Bool
 cd:List (Int×Int)
abbrev q7(a:vY)(G:vZ)(m l:Nat)(A:Option Addr)(c:Nat)(V:L0):Array Value:=
 #[.slice a.AI a.nI a.cI,.slice a.BN m a.cN,.slice a.AO m a.cO,.slice a.AL (m+1) a.cL,.slice G.F (m+1) (m+1),l,.slice G.K (m+1) (m+1),.slice G.P (m+1) (m+1),.slice A V.cd.length c]
structure m8(p w:World)(a:vY)(G:vZ)(m l:Nat)(A:Option Addr)(c:Nat)(V:L0):Prop where
 prev:aj w p
 bx:az w G.g 172 (q7 a G m l A c V)
 fi:Own w G.F 3 V.fi
 kp:az w G.K 4 (eu V.kp)
 pr:az w G.P 4 (eu V.pr)
 cd:ce w p.1.size A c V.cd
 L1:G.K≠G.P
 hg:p.1.size<=G.g
 hF:p.1.size<=G.F
 hK:p.1.size<=G.K
 hP:p.1.size<=G.P
 lf:V.fi=m+1
 lk:V.kp=m+1
 lp:V.pr=m+1
variable{a:vY}{G:vZ}{V:L0}
def i0{h:Nat}{U:TypeId}(x:az w g T cs)(y:az w h U ds)(b:T≠U):g≠h:=λe=>by
 subst e;unfold az at x y;rw[x]at y;injection y with y;injection y with _ y;exact b y
def m8.at(h:m8 p w a G m l A c V)[k:aT w w']:m8 p w' a G m l A c V:=
 ⟨⟨du h.prev.st k.st⟩,h.bx.at,h.fi.keep k.st,h.kp.at,h.pr.at,h.cd.at,h.L1,h.hg,h.hF,h.hK,h.hP,h.lf,h.lk,h.lp⟩
def ce.eU{q:Addr}{B:Nat}(h:ce w B A c cd)(hp:∀b,A=some b->b.block≠q.block)(v:Value):ce (w.setCell q v) B A c cd:=h.same λb e=>ba w q v _ (hp b e)
def lz(h:Own w g 3 zs):az w g 3 (ints zs):=h
def m8.DH(h:m8 p w a G m l A c ⟨fi,kp,pr,cd⟩)(i:Nat)(b:Bool):m8 p (w.setCell (G.P,i) (.bool b)) a G m l A c ⟨fi,kp,pr.set i b,cd⟩:=
 ⟨⟨h.prev.st.setCell (p:=⟨G.P,i,none⟩) h.hP _⟩,h.bx.aY (i0 h.bx h.pr am) _,h.fi.aY (i0 (lz h.fi) h.pr am) _,h.kp.aY h.L1 _,by rw[<-mM];exact h.pr.av i _,h.cd.eU (λj e=>h.cd.aH h.pr am j e) _,h.L1,h.hg,h.hF,h.hK,h.hP,h.lf,h.lk,by have:=h.lp;simpa using this⟩
def m8.aco(h:m8 p w a G m l A c ⟨fi,kp,pr,cd⟩)(i:Nat)(b:Bool):m8 p (w.setCell (G.K,i) (.bool b)) a G m l A c ⟨fi,kp.set i b,pr,cd⟩:=
 ⟨⟨h.prev.st.setCell (p:=⟨G.K,i,none⟩) h.hK _⟩,h.bx.aY (i0 h.bx h.kp am) _,h.fi.aY (i0 (lz h.fi) h.kp am) _,by rw[<-mM];exact h.kp.av i _,h.pr.aY (dO h.L1) _,h.cd.eU (λj e=>h.cd.aH h.kp am j e) _,h.L1,h.hg,h.hF,h.hK,h.hP,h.lf,by have:=h.lk;simpa using this,h.lp⟩
def m8.AU(h:m8 p w a G m l A c ⟨fi,kp,pr,cd⟩)(i:Nat)(z:Int):m8 p (w.setCell (G.F,i) z) a G m l A c ⟨fi.set i z,kp,pr,cd⟩:=
 ⟨⟨h.prev.st.setCell (p:=⟨G.F,i,none⟩) h.hF _⟩,h.bx.aY (i0 h.bx (lz h.fi) am) _,h.fi.av i z,h.kp.aY (i0 h.kp (lz h.fi) am) _,h.pr.aY (i0 h.pr (lz h.fi) am) _,h.cd.eU (λb e=>h.cd.aH (lz h.fi) am b e) _,h.L1,h.hg,h.hF,h.hK,h.hP,by have:=h.lf;simpa using this,h.lk,h.lp⟩
def m8.zd(h:m8 p w a G m l A c ⟨fi,kp,pr,cd⟩){b:List (Int×Int)}(y:ce u p.1.size A' c' b)(hb:Below p.1.size w u)(j:∀k,k<w.1.size->(∀r,A=some r->r.block≠k)->u.heap[k]?=w.heap[k]?):
  m8 p (u.setCell (G.g,8) (.slice A' b c')) a G m l A' c' ⟨fi,kp,pr,b⟩:=by
 have k1:az u G.g 172 (q7 a G m l A c ⟨fi,kp,pr,cd⟩):=(j _ h.bx.lt (h.cd.aH h.bx am)).trans h.bx;have k2:Own u G.F 3 fi:=(j _ h.fi.lt (h.cd.aH (lz h.fi) am)).trans h.fi;have z:az u G.K 4 (eu kp):=(j _ h.kp.lt (h.cd.aH h.kp am)).trans h.kp;have B:az u G.P 4 (eu pr):=(j _ h.pr.lt (h.cd.aH h.pr am)).trans h.pr;exact⟨⟨(h.prev.st.trans hb).setCell (p:=⟨G.g,8,none⟩) h.hg _⟩,k1.av 8 _,k2.aY (i0 (lz k2) k1 am) _,z.aY (i0 z k1 am) _,B.aY (i0 B k1 am) _,y.eU (λr e=>y.aH k1 am r e) _,h.L1,h.hg,h.hF,h.hK,h.hP,h.lf,h.lk,h.lp⟩
def m8.facts(h:m8 p w a G m l A c V):aj w p/\Bx w G.g 172 (q7 a G m l A c V)/\Bx w G.F 3 (ints V.fi)/\Bx w G.K 4 (eu V.kp)/\Bx w G.P 4 (eu V.pr):=⟨h.prev,⟨h.bx⟩,⟨h.fi⟩,⟨h.kp⟩,⟨h.pr⟩⟩
structure Kl(G:vZ)(w w':World):Prop where
 size:w.1.size<=w'.1.size
 keep:∀b,b<w.1.size->b≠G.g->b≠G.P->(∀cs fz,w.heap[b]?≠some (.cells cs 98 fz))->w'.heap[b]?=w.heap[b]?
def Kl.of[k:aT w w']:Kl G w w':=⟨k.st.size,λb hb _ _ _=>k.st.block b hb⟩
def Kl.trans(h:Kl G w w')(k:Kl G w' u):Kl G w u:=⟨aL h.size k.size,λb hb j r y=>by
 have e:=h.keep b hb j r y;rw[k.keep b (bu hb h.size) j r (by rw[e];exact y),e]⟩
def Kl.ak(h:Kl G w w')(b:az w g T cs)(j:g≠G.g)(r:g≠G.P)(u:T≠98):az w' g T cs:=
 (h.keep g b.lt j r λy z e=>by unfold az at b;rw[b]at e;injection e with e;injection e with _ e;exact u e).trans b
def Kl.av(h:Kl G w w')(hg:g=G.g\/g=G.P)(i:Nat)(v:Value):Kl G w (w'.setCell (g,i) v):=
 ⟨by have:=h.size;simpa using this,λb hb j r u=>by rw[ba w' ⟨g,i,none⟩ v b (λe=>by rcases hg with hg|hg<;>simp at e<;>omega)];exact h.keep b hb j r u⟩
def gT(p w:aa)(a:vY)(G:vZ)(m l:Nat)(V:L0):Prop:=∃A c,m8 p w a G m l A c V
def gT.at(h:gT p w a G m l V)[aT w w']:gT p w' a G m l V:=by
 obtain⟨A,c,h⟩:=h;exact⟨A,c,h.at⟩
def pU(p:aa)(a:vY)(G:vZ)(m l:Nat)(V:L0)(w:aa)(e:Ending)(w':aa):Prop:=e=.returned (.tuple #[])/\Hx (gT p w' a G m l V)/\Hx (Kl G w w')
def pV(h:Hx (gT p w a G m l V))(D:V.cd.length<=1000000)(kd id:Int):() 81 #[.pointer G.g,kd,id] w (pU p a G m l ⟨V.fi,V.kp,V.pr,V.cd++[(kd,id)]⟩ w):=by
 have M:=@ay;have N:=@aO;obtain⟨A,c,h⟩:=h.o;obtain⟨fi,kp,pr,cd⟩:=V;obtain⟨O,u,P,Q,R⟩:=h.facts;have y:ce w p.1.size A c cd:=h.cd;have z:p.1.size<=w.1.size:=ai;dsimp only at D;go_in;go_wp2_with (at_builtin;refine B3 rfl _ _ _ rfl underlying50 rfl y kd id rfl om z ?_;intro E c3 w3 B r j;obtain⟨F,-⟩:Bx w3 G.g 172 (q7 a G m l A c ⟨fi,kp,pr,cd⟩)/\True:=⟨⟨(j _ u.ak.lt (y.aH u.ak am)).trans u.ak⟩,bX⟩);have C:=h.zd B r j;have I:Kl G w w3:=⟨r.size,λb hb _ _ J=>j b hb λK e L=>by obtain⟨cs,S,ht⟩:=y.typ K e;rw[L]at ht;exact J _ _ ht⟩;rw[bh]at C;refine⟨rfl,.tuple #[],by simp[results,results81,go_sem],rfl,ae ⟨E,c3,C⟩,ae (I.av (.inl rfl) _ _)⟩
def oZ(h:Hx (gT p w a G m l V)){b:Bool}(hb:Hx (decide (65536<(V.cd.length:Int))=b)):() 84 #[.pointer G.g] w (aJ w (.bool b)):=by
 have e:=@ay;obtain⟨A,c,h⟩:=h.o;obtain⟨fi,kp,pr,cd⟩:=V;obtain⟨j,r,u,y,z⟩:=h.facts;go_in;go_wp2_with fail;go_ret;exact⟨by rw[<-hb.o];rfl,aF⟩
def wZ(h:Hx (gT p w a G m l V))(r:V.cd.length<=1000000)(kd:Int){id:Nat}(hid:id<=m):() 134 #[.pointer G.g,kd,id] w (pU p a G m l ⟨V.fi,V.kp,V.pr.set id true,V.cd++[(kd,(id:Int))]⟩ w):=by
 have C:=@ay;have D:=@aO;obtain⟨fi,kp,pr,cd⟩:=V;have b:(id:Int)<(m:Int)+1:=by omega
 go_in;go_upto_region 1 with(go_at_call 81;refine(pV h r kd (id:Int)).mono ?_;rintro e u ⟨rfl,y,z⟩);obtain⟨A,c,hS⟩:=y.o;obtain⟨E,F,I,J,K⟩:=hS.facts;obtain⟨L,j,-⟩:=h3 hS.lp (show id<m+1 by omega);have B:=cj j;clear j h;go_wp2_with fail;exact⟨rfl,.tuple #[],by simp[results,results134,go_sem],rfl,ae ⟨A,c,hS.DH id true⟩,ae (z.o.av (.inr rfl) _ _)⟩
def AZ(h:Hx (gT p w a G m l V))(r:V.cd.length<=1000000){id:Nat}(hid:id<=m):() 82 #[.pointer G.g,id] w (pU p a G m l ⟨V.fi,V.kp,V.pr.set id false,V.cd++[(3,(id:Int))]⟩ w):=by
 have C:=@ay;have D:=@aO;obtain⟨fi,kp,pr,cd⟩:=V;have b:(id:Int)<(m:Int)+1:=by omega
 go_in;go_upto_region 1 with(go_at_call 81;refine(pV h r 3 (id:Int)).mono ?_;rintro e u ⟨rfl,y,z⟩);obtain⟨A,c,hS⟩:=y.o;obtain⟨E,F,I,J,K⟩:=hS.facts;obtain⟨L,j,-⟩:=h3 hS.lp (show id<m+1 by omega);have B:=cj j;clear j h;go_wp2_with fail;exact⟨rfl,.tuple #[],by simp[results,results82,go_sem],rfl,ae ⟨A,c,hS.DH id false⟩,ae (z.o.av (.inr rfl) _ _)⟩
variable{j:Nat}{rc:List Bool}{tl:List (Int×Int)}{N:bm}
abbrev kC:=List Bool×List (Int×Int)
def Qx(f:Nat->Bool)(s:kC)(id:Nat):kC:=if s.1.getD id false&&f id then(s.1.set id false,s.2++[(3,(id:Int))])else s
def swp(f:Nat->Bool)(s:kC):Nat->kC
 |0=>s
 |k+1=>Qx f (swp f s k) (k+1)
def ig(N:bm):Nat->Int->kC->kC
 |0,_,s=>s
 |f+1,id,s=>
  if s.1.getD id.toNat false||decide (65536<s.2.length)then s
  else(((bS N id).foldl (λs z=>ig N f z s) s).1.set id.toNat true,((bS N id).foldl (λs z=>ig N f z s) s).2++[(2,id)])
def uP(f:Nat->Bool)(s:kC):∀k,(swp f s k).2.length<=s.2.length+k/\s.2.length<=(swp f s k).2.length/\(swp f s k).1.length=s.1.length
 |0=>by simp[swp]
 |k+1=>by have b:=uP f s k;rw[swp,Qx];split;simp;omega;omega
def wa(f:Nat->Bool)(s:kC):∀k,(swp f s k).1.getD 0 false=s.1.getD 0 false
 |0=>rfl
 |k+1=>by have b:=wa f s k;rw[swp,Qx];split;rw[<-b,aQ,iD,ag om,<-aQ];exact b
def q9{L:List Bool}{i:Nat}(h:L.getD j false=true):(L.set i true).getD j false=true:=by
 rw[aQ]at h⊢;rw[iD];split
 .rename_i e;subst e;split;rfl;rename_i b;rw[fc om]at h;exact h
 exact h
def mT{α β:Type}{f:β->α->β}{I:β->Prop}:∀(L:List α) (s:β),I s->(∀s x,x∈L->I s->I (f s x))->I (L.foldl f s)
 |[],_,h,_=>h
 |x::t,s,h,hs=>mT t (f s x) (hs s x cm h) λs y b=>hs s y (dp _ b)
def we:∀(f:Nat) (id:Int) (s:kC),s.1.getD 0 false=true->(ig N f id s).1.getD 0 false=true
 |0,_,_,h=>h
 |f+1,id,s,h=>by rw[ig];split;exact h;exact q9 (mT (I:=λs:kC=>s.1.getD 0 false=true) _ s h λs x _ h=>we f x s h)
def A4:∀(f:Nat) (id:Int) (s:kC),(ig N f id s).2.length<=max s.2.length (65537+f)/\(ig N f id s).1.length=s.1.length
 |0,_,s=>by rw[ig];omega
 |f+1,id,s=>by rw[ig];split;omega;rename_i b;simp only[Ek,bZ,not_or]at b;(have:=mT (I:=λt:kC=>t.2.length<=max 65536 (65537+f)/\t.1.length=s.1.length) (f:=λs z=>ig N f z s) (bS N id) s om λt x _ h=>by have:=A4 f x t;omega);rw[bh,Ei,d3];omega
def xY0(h:Γ:=by go_wp2_with fail;go_roundw;exact⟨k+1,j,b,om,by go_num,ae (gT.at C),r,ae (E.o.trans Kl.of)⟩;simp[intOf];omega):=h
def xY4(h:Γ:=by simp[intOf];omega):=h
def xY6(h:Γ:=by rw[swp,D.o,Qx];simp only[z,y];rfl):=h
def DL{c1 c2:Value}{f:Nat->Bool}(h:Hx (gT p w a G m l ⟨fi,kp,pr,cd⟩))(hm:m<=1000)(hl:cd.length<=900000)(EG:∀args w,(callFunc g args).run prog w=.ok (.enter g args) w)
  (K:Hx (∀(u:aa) (j:List Bool) (b:List (Int×Int)) (id:Nat),1<=id->id<=m->Hx (gT p u a G m l ⟨fi,kp,j,b⟩)->Hx (Kl G w u)->() g #[id,c1,c2] u (aJ u (.bool (f id)))))
    (hS:Hx (swp f (pr,cd) m=(rc,tl))):
  () 135 #[.pointer G.g,.func (.func g) #[] #[c1,c2]] w (pU p a G m l ⟨fi,kp,rc,tl⟩ w):=by
 have CB:=@ay;go_in;go_wp2_with fail;go_loopw [4] (λi wr=>∃(k:Nat) (j:List Bool) (b:List (Int×Int)),k<=m/\i=.int .i64 ((k:Int)+1)/\Hx (gT p wr a G m l ⟨fi,kp,j,b⟩)/\Hx (swp f (pr,cd) k=(j,b))/\Hx (Kl G w wr)) (λi _=>m+1-(intOf i).toNat);exact⟨0,pr,cd,aM _,by go_num,h,ae rfl,ae ⟨al _,λ_ _ _ _ _=>rfl⟩⟩;clear h;obtain⟨k,j,b,hk,rfl,C,D,E⟩:=hrel;have S:b.length<=902000:=by have:=(uP f (pr,cd) k).1;rw[D.o]at this;dsimp only at this;omega
 obtain⟨A,c,hL⟩:=C.o;obtain⟨p9,kb,kF,kK,kP⟩:=hL.facts;have L:=hL.lp;by_cases T:k<m
 .obtain⟨U,J,z⟩:=h3 (i:=k+1) L om;have X:=cj J;(have Y:IntKind.i64.wrap ((k:Int)+1+1)=(k:Int)+1+1:=by rw[a7];omega);dsimp only at z;rcases U with _|_;have r:Hx (swp f (pr,cd) (k+1)=(j,b)):=ae (by rw[swp,D.o,Qx];simp only[z];rfl);clear J z;exact xY0;obtain⟨Z,y⟩:=lh (f (k+1));have B:=K.o wr j b (k+1) om om C E;rw[y]at B;have F:=ae B;clear B;rcases Z with _|_
  .have r:Hx (swp f (pr,cd) (k+1)=(j,b)):=ae xY6;clear J z y K;go_wp2_with fail;refine(F.o).mono ?_;rintro e u ⟨rfl,_⟩;exact xY0
  have r:Hx (swp f (pr,cd) (k+1)=(j.set (k+1) false,b++[(3,((k+1:Nat):Int))])):=ae xY6;(have I:((k+1:Nat):Int)=(k:Int)+1:=by omega);clear J z y K;go_wp2_with fail;refine(F.o).mono ?_;rintro e u ⟨rfl,_⟩;have M:=AZ (w:=u) (ae (gT.at C)) (show b.length<=1000000 by omega) (show k+1<=m by omega);rw[I]at M;have O:=ae M;clear M;go_wp2_with (go_at_call 82;refine(O.o).mono ?_;rintro e u2 ⟨rfl,P,Q⟩);go_roundw;exact⟨k+1,j.set (k+1) false,b++[(3,(k:Int)+1)],om,by go_num,P,by rw[<-I];exact r,ae ((E.o.trans Kl.of).trans Q)⟩;exact xY4
 obtain rfl:k=m:=om;have R:j=rc/\b=tl:=by have:=hS.o;rw[D.o]at this;exact eQ this
 obtain⟨rfl,rfl⟩:=R;go_wp2_with fail;exact⟨rfl,.tuple #[],by simp[results,results135,go_sem],rfl,ae (gT.at C),ae (E.o.trans Kl.of)⟩
def A0(p:aa)(a:vY)(G:vZ)(m l:Nat)(fi:au)(kp:List Bool)(N:bm)(O:au)(f:Nat):Prop:=
 ∀(w:aa) (pr:List Bool) (cd:List (Int×Int)) (id:Int),Hx (gT p w a G m l ⟨fi,kp,pr,cd⟩)->Hx (id=0\/id∈O.take f)->Hx (pr.getD 0 false=true)->cd.length<=70000->
  () 137 #[.pointer G.g,id] w (pU p a G m l ⟨fi,kp,(ig N f id (pr,cd)).1,(ig N f id (pr,cd)).2⟩ w)
def xY1(h:Γ:=by exact⟨rfl,.tuple #[],by simp[results,results137,go_sem],rfl,ae (gT.at h),ae Kl.of⟩):=h
def uQ{id:Nat}(h:Hx (gT p w a G m l ⟨fi,kp,pr,cd⟩))(hid:id<=m)(C:cd.length<=70000)(r:Hx ((pr.getD id false||decide (65536<cd.length))=true)):() 137 #[.pointer G.g,id] w (pU p a G m l ⟨fi,kp,pr,cd⟩ w):=by
 have D:=@ay;obtain⟨A,c,hL⟩:=h.o;obtain⟨E,F,I,J,K⟩:=hL.facts;obtain⟨y,b,e⟩:=h3 (i:=id) hL.lp om;have z:=cj b;have j:(id:Int)<(m:Int)+1:=by omega
 have hN:=r.o;rw[e]at hN;clear b e;go_in;rcases y with _|_
 .have B:Hx (decide (65536<(cd.length:Int))=true):=ae (by simp at hN⊢;omega);clear hN;go_wp2_with (go_at_call 84;refine mv (oZ (V:=⟨fi,kp,pr,cd⟩) (ae (gT.at h)) B) λu _=>?_);exact xY1
 clear hN;go_wp2_with fail;exact xY1
variable{f:Nat}{O:List Int}{L:List (List Int)}
def xY5(h:Γ:=by rw[<-HI.o];exact al _):=h
def A3(hN:Hx (dF N O L l))[ni:aW p a.AI a.nI a.BN m N](hs:Hx N.small)(hf:f<=1000)(ih:Hx (A0 p a G m l fi kp N O f)):A0 p a G m l fi kp N O (f+1):=by
 intro w pr cd id h hid h0 Y;have Z:Hx (m=N.nodes):=ni.len;have hm:m<=1000:=by rw[Z.o];exact hs.o.1
 have Q:0<=id/\id<=m:=by rcases hid.o with h|h;omega;have:=bn.1 (hN.o.kh.ids id (cE h));rw[<-Z.o]at this;omega
 obtain⟨q,rfl⟩:=bJ Q.1;have hq:q<=m:=om;by_cases B:(pr.getD q false||decide (65536<cd.length))=true;have e:ig N (f+1) (q:Int) (pr,cd)=(pr,cd):=by rw[ig,ah];exact B
 rw[e];exact uQ h hq Y B;have R:=h0.o;obtain⟨CB,CP⟩:=kU;have e:ig N (f+1) (q:Int) (pr,cd)=(((bS N (q:Int)).foldl (λs z=>ig N f z s) (pr,cd)).1.set q true,((bS N (q:Int)).foldl (λs z=>ig N f z s) (pr,cd)).2++[(2,(q:Int))]):=by rw[ig,ag];rfl;exact B
 rw[e];simp only[Ek,bZ,not_or]at B;have Oi:q≠0:=λe=>by subst e;exact B.1 h0.o
 have C:(q:Int)∈O.take (f+1):=by rcases hid.o with h|h;omega;exact h
 obtain⟨t,rfl⟩:∃t,q=t+1:=⟨q-1,om⟩;have Aj:t<m:=om;obtain⟨b0,q0,o,A1,n1,c1,I,M,ci,ins,P,np,cp,ps,hBN,ob,⟨v0,v1,v2,v3,v4,v5,v6,v7,v8,Lz⟩,s1,si,sp,l1,li,lp,ik,D⟩:=ni.node Aj;have y:bS N ((t+1:Nat):Int)=ins:=by rw[bS,show(((t+1:Nat):Int)-1).toNat=t from om,D.o];rfl
 have CK:Hx (∀z∈ins,(z=0\/z∈O.take f)/\0<=z/\z<=m):=λz hz=>by obtain⟨j,hj,hjO⟩:=oW C;have S:=hN.o.kc _ (aC D.o) z hz;rw[<-Z.o]at S;refine⟨?_,S⟩;rcases hN.o.rW hjO z (by rw[y];exact hz)with h|h;exact .inl h;obtain⟨i,hi,hiO⟩:=oW h;exact .inr (DF om hiO)
 have qm:M<=1000:=by have:=hs.o.2 _ (aC D.o);rw[si.len];exact this
 have HI:Hx (M=ins):=si.len;obtain⟨A,c,hL⟩:=h.o;obtain⟨p9,kb,kF,kK,kP⟩:=hL.facts;obtain⟨pb,e1,e2⟩:=h3 (i:=t+1) hL.lp om;obtain rfl:pb=false:=by
  rw[<-e2];cases hx:pr.getD (t+1) false with
  |false=>rfl
  |true=>exact absurd hx B.1
 have CJ:=cj e1;have T:((t+1:Nat):Int)<(m:Int)+1:=by omega
 have HMN:Hx (decide (65536<(cd.length:Int))=false):=ae (by have:=B.2;simp;omega);have hcd:cd.length<=65536:=om;have E:((t+1:Nat):Int)=(t:Int)+1:=by omega
 have w2:(t:Int)+1-1=t:=by omega
 rw[y];have Gt:Hx (∀(u:aa) (r:List Bool) (b:List (Int×Int)),Hx (gT p u a G m l ⟨fi,kp,r,b⟩)->b.length<=1000000->() 134 #[.pointer G.g,(2:Int),.int .i64 ((t:Int)+1)] u (pU p a G m l ⟨fi,kp,r.set (t+1) true,b++[(2,(t:Int)+1)]⟩ u)):=λu r b h Y=>by have:=wZ h Y 2 (show t+1<=m by omega);rwa[E]at this
 rw[E]at T⊢;clear B e e1 e2 Q C y hid Oi E;go_in;go_upto_region 2 with(go_at_call 84;refine mv (oZ (V:=⟨fi,kp,pr,cd⟩) (ae (gT.at h.o)) HMN) λu _=>?_)
 have U:Hx (∀k,((ins.take k).foldl (λs z=>ig N f z s) (pr,cd)).1.getD 0 false=true/\((ins.take k).foldl (λs z=>ig N f z s) (pr,cd)).2.length<=65537+f):=λk=>
  mT (I:=λs:kC=>s.1.getD 0 false=true/\s.2<=65537+f) _ _ ⟨R,by show cd.length<=65537+f;omega⟩ λs x _ hs=>⟨we f x s hs.1,by have:=(A4 (N:=N) f x s).1;omega⟩
 clear R;go_loopw [28] (λi wr=>∃(k:Nat) (r:List Bool) (b:List (Int×Int)),k<=M/\i=.int .i64 k/\Hx (gT p wr a G m l ⟨fi,kp,r,b⟩)/\Hx ((ins.take k).foldl (λs z=>ig N f z s) (pr,cd)=(r,b))/\Hx (Kl G w wr)) (λi _=>M-(intOf i).toNat);exact⟨0,pr,cd,aM _,rfl,ae (gT.at h.o),ae rfl,ae Kl.of⟩;clear h kb kF kK kP p9 CJ hL;obtain⟨k,r,b,hk,rfl,HL,HS,HK⟩:=hrel;obtain⟨A',c',hL⟩:=HL.o;have p9:=hL.prev;have F:=(U.o k).1;have X:=(U.o k).2;rw[HS.o]at F X;have xB:=ae F;dsimp only at X;clear F hL;by_cases bE:k<M
 .obtain⟨b2,q2,z,rfl,jU,vz,ez⟩:=si.get bE;have HZ:Hx (z=0\/z∈O.take f):=(CK.o z (aC ez.o)).1;have HF:=ae (ih.o wr r b z HL HZ xB om);have Al:Hx ((ins.take (k+1)).foldl (λs z=>ig N f z s) (pr,cd)=((ig N f z (r,b)).1,(ig N f z (r,b)).2)):=ae (by rw[take_at ez.o,lN,HS.o];rfl);go_wp2_with (go_at_call 137;refine(HF.o).mono ?_;rintro e u2 ⟨rfl,J,K⟩);go_roundw;exact⟨k+1,_,_,om,by go_num,J,Al,ae (HK.o.trans K)⟩;exact xY4
 obtain rfl:k=M:=om;have ID:Hx (ins.foldl (λs z=>ig N f z s) (pr,cd)=(r,b)):=ae (by have:=HS.o;rwa[bY xY5]at this);have Sx:=ae (Gt.o wr r b HL om);go_wp2_with (go_at_call 134;refine(Sx.o).mono ?_;rintro e u2 ⟨rfl,J,K⟩);refine⟨rfl,.tuple #[],by simp[results,results137,go_sem],rfl,?_,ae (HK.o.trans K)⟩;rw[ID.o];exact J
def uR(hN:Hx (dF N O L l))[aW p a.AI a.nI a.BN m N](hs:Hx N.small):∀f,f<=1001->A0 p a G m l fi kp N O f
 |0,_=>λw pr cd id h hid b e=>by (obtain rfl:id=0:=by rcases hid.o with h|h;exact h;simp at h);exact uQ (id:=0) h (aM _) e (ae (by show(pr.getD 0 false||decide (65536<cd.length))=true;rw[b.o];rfl))
 |f+1,hf=>A3 hN hs om (ae (uR hN hs f om))
variable{R b2 q:Nat}{La:List Int}
def w2(kp:List Bool)(l:Nat)(b:au)(i id:Nat):Bool:=!kp.getD id false&&(decide (id≠l)&&decide (b.getD id 0<=(i:Int)+1))
def A5(kp:List Bool)(fi:au)(q id:Nat):Bool:=!kp.getD id false||decide ((q:Int)<=fi.getD id 0)
def xY2(h:Γ:=by refine a9 ?_;go_wp2_with fail;go_ret;exact bB):=h
def UF(h:Hx (gT p u a G m l ⟨fi,kp,pr,cd⟩))[E:Sl p a.AL (m+1) La][Bx u R 168 #[.pointer G.g]][Bx u b2 3 #[i]](hi:i<=100000){id:Nat}(N:id<=m){b:Bool}(hb:Hx (w2 kp l La i id=b)):
  () 136 #[id,.pointer R,.pointer b2] u (aJ u (.bool b)):=by
 obtain⟨O,P⟩:=kU;obtain⟨A,c,hL⟩:=h.o;obtain⟨Q,S,T,U,V⟩:=hL.facts;obtain⟨r,y,B⟩:=h3 (i:=id) hL.lk om;have F:=cj y;have C:(id:Int)<(m:Int)+1:=by omega
 obtain⟨X,Y,z,I,J,v3,K⟩:=E.get (k:=id) om;have Z:IntKind.i64.wrap ((i:Int)+1)=(i:Int)+1:=by rw[a7];omega
 have e:=hb.o;rw[w2,B,h4 K.o]at e;clear y B;go_in;rcases r with _|_
 .by_cases j:id=l
  .have L:((id:Int) !=(l:Int))=false:=by simp[j]
   obtain rfl:false=b:=by rw[<-e];simp[j]
   clear e j;go_upto_region 1 with fail;refine aw ao (λD _=>?_);refine qL [0,1,2,3,4,5,6,7,8,9,10,11,12,13,14,15,16,517,518,519,520,521,522,523,524,525,526,27,28] ?_;exact xY2
  have L:((id:Int) !=(l:Int))=true:=by simp;omega
  have M:Hx (decide (z<=(i:Int)+1)=b):=ae (by rw[<-e];simp[j]);clear e j;go_upto_region 1 with fail;refine aw ao (λD _=>?_);refine qL [0,1,2,3,4,5,6,7,8,9,10,11,12,13,14,15,16,17,18,19,20,21,22,23,24,25,26,27,28] ?_;refine a9 ?_;go_wp2_with fail;go_ret;exact⟨by rw[<-M.o];rfl,aF⟩
 obtain rfl:false=b:=by rw[<-e];rfl
 clear e;go_upto_region 1 with fail;refine aw ao (λD _=>?_);refine qL [0,1,2,3,4,5,6,7,8,509,510,511,512,513,514,15,16,517,518,519,520,521,522,523,524,525,526,27,28] ?_;exact xY2
def UG(h:Hx (gT p u a G m l ⟨fi,kp,pr,cd⟩))[Bx u R 168 #[.pointer G.g]][Bx u b2 3 #[q]]{id:Nat}(J:id<=m){b:Bool}(hb:Hx (A5 kp fi q id=b)):
  () 138 #[id,.pointer R,.pointer b2] u (aJ u (.bool b)):=by
 have K:=@ay;obtain⟨A,c,hL⟩:=h.o;obtain⟨L,M,N,O,P⟩:=hL.facts;obtain⟨j,y,B⟩:=h3 (i:=id) hL.lk om;have D:=cj y;have C:(id:Int)<(m:Int)+1:=by omega
 obtain⟨z,r⟩:∃z,fi[id]?=some z:=⟨_,List.getElem?_eq_getElem (by have:=hL.lf;dsimp only at this;omega)⟩;have E:(ints fi)[id]?=some (.int .i64 z):=by rw[u4,r];rfl
 have e:=hb.o;rw[A5,B,h4 r]at e;clear y B r;go_in;rcases j with _|_
 .obtain rfl:true=b:=by rw[<-e];rfl
  clear e;go_upto_region 1 with fail;refine aw ao (λF _=>?_);refine qL [0,1,2,3,4,5,6,7,8,509,510,511,512,513,514,515,516,517,18,19] ?_;exact xY2
 have I:Hx (decide ((q:Int)<=z)=b):=ae (by rw[<-e];rfl);clear e;go_upto_region 1 with fail;refine aw ao (λF _=>?_);refine qL [0,1,2,3,4,5,6,7,8,9,10,11,12,13,14,15,16,17,18,19] ?_;refine a9 ?_;go_wp2_with fail;go_ret;exact⟨by rw[<-I.o];rfl,aF⟩
def acp[Sl p a.AL (m+1) La](k1:az u R 168 #[.pointer G.g])(k2:az u b2 3 #[i])(n1:R≠G.g/\R≠G.P)(r:b2≠G.g/\b2≠G.P)(hi:i<=100000):
  Hx (∀(b:aa) (e:List Bool) (j:List (Int×Int)) (id:Nat),1<=id->id<=m->Hx (gT p b a G m l ⟨fi,kp,e,j⟩)->Hx (Kl G u b)->() 136 #[.int .i64 (id:Int),.pointer R,.pointer b2] b (aJ b (.bool (w2 kp l La i id)))):=
 ae λb e j id _ z h y=>by
 have:Bx b R 168 #[.pointer G.g]:=⟨y.o.ak k1 n1.1 n1.2 am⟩;have:Bx b b2 3 #[i]:=⟨y.o.ak k2 r.1 r.2 am⟩;exact UF h hi z rfl
def acq(k1:az u R 168 #[.pointer G.g])(k2:az u b2 3 #[q])(n1:R≠G.g/\R≠G.P)(r:b2≠G.g/\b2≠G.P):
  Hx (∀(b:aa) (e:List Bool) (j:List (Int×Int)) (id:Nat),1<=id->id<=m->Hx (gT p b a G m l ⟨fi,kp,e,j⟩)->Hx (Kl G u b)->() 138 #[.int .i64 (id:Int),.pointer R,.pointer b2] b (aJ b (.bool (A5 kp fi q id)))):=
 ae λb e j id _ z h y=>by
 have:Bx b R 168 #[.pointer G.g]:=⟨y.o.ak k1 n1.1 n1.2 am⟩;have:Bx b b2 3 #[q]:=⟨y.o.ak k2 r.1 r.2 am⟩;exact UG h z rfl
def qc(m:Nat)(kp:List Bool)(l:Nat)(b:au):List Int->Nat->kC->kC
 |[],_,s=>s
 |id::r,i,s=>qc m kp l b r (i+1) (swp (w2 kp l b i) (s.1.set id.toNat true,s.2++[(1,id)]) m)
def gT.ne(h:gT p u a G m l ⟨fi,kp,pr,cd⟩)(hg:u<=g):g≠G.g/\g≠G.P:=by
 obtain⟨A,c,h⟩:=h;have b:=h.bx.lt;have e:=h.pr.lt;omega
def w4(h:Hx (gT p w a G m l ⟨fi,kp,pr,cd⟩))(L:1<=m)(hm:m<=512)(hl:cd.length<=10)[M:Sl p a.AO m O][Sl p a.AL (m+1) La](hO:Hx (∀id∈O,1<=id/\id<=m))(hF:Hx (qc m kp l La O 0 (pr,cd)=(rc,tl))):
  () 80 #[.pointer G.g] w (pU p a G m l ⟨fi,kp,rc,tl⟩ w):=by
 obtain⟨CB,CP,FB⟩:=ia;have N:Hx (m=O):=M.len;obtain⟨b9,q9,z9,P,T6,-⟩:=M.get (k:=0) L;go_in;go_upto_region 1 with fail;refine aE (λu _ Q=>?_);have B:=ae (h.o.at (w':=u));have y:=h.o.ne (al _);obtain⟨A0,c0,F⟩:=B.o;obtain⟨p9,kb,-⟩:=F.facts;go_upto_region 2 with fail;go_loopw [9] (λi wr=>∃(j:Nat) (r:List Bool) (b:List (Int×Int)),j<=m/\i=.int .i64 j/\Hx (gT p wr a G m l ⟨fi,kp,r,b⟩)/\Hx (qc m kp l La (O.drop j) j (r,b)=(rc,tl))/\Hx (Kl G u wr)/\Hx (b<=10+j*513)) (λi _=>m-(intOf i).toNat);exact⟨0,pr,cd,aM _,rfl,B,hF,ae Kl.of,ae om⟩;clear B hF kb p9 F;obtain⟨j,r,b,hj,rfl,B,HS,S,HC⟩:=hrel;obtain⟨A',c',hL⟩:=B.o;have p9:=hL.prev;have k1:Bx wr w.1.size 168 #[.pointer G.g]:=⟨S.o.ak Q.ak y.1 y.2 am⟩;clear hL;by_cases T:j<m
 .obtain⟨b8,q8,id,I,ob8,v9,J⟩:=M.get T;rw[P]at I;cases I;obtain⟨U,X⟩:=hO.o id (aC J.o);obtain⟨q,rfl⟩:=bJ (show 0<=id by omega);have hq:q<=m:=om;have xd:b.length<=270000:=by have:=HC.o;have:j*513<=512*513:=cU _ om;omega
  obtain⟨⟨K,C⟩,z⟩:=lh (swp (w2 kp l La j) (r.set q true,b++[(1,(q:Int))]) m);have Y:=ae z;have Z:Hx (qc m kp l La (O.drop (j+1)) (j+1) (K,C)=(rc,tl)):=ae (by
   have h:=HS.o;obtain⟨h1,h2⟩:=a8.1 J.o;rw[ed h1,h2,qc,aZ,z]at h;exact h)
  have Sx:Hx (C<=10+(j+1)*513):=ae (by
   have h:=(uP (w2 kp l La j) (r.set q true,b++[(1,(q:Int))]) m).1;rw[z]at h;simp only[bh,Ei]at h;have:=HC.o;rw[hx];omega)
  have D:=B.o.ne (al _);clear z U X;go_wp2_with (first|(go_at_call 134;refine ey (λu0 _ k2=>?_);refine(wZ (V:=⟨fi,kp,r,b⟩) (ae (B.o.at (w':=u0))) (show b.length<=1000000 by omega) 1 hq).mono ?_;rintro e u1 ⟨rfl,UH,E⟩;have k3:=E.o.ak k2.ak D.1 D.2 am;have k4:=E.o.ak (k1.ak.at (w':=u0)) y.1 y.2 am;obtain⟨kx3,kx4⟩:Bx u1 wr.1.size 3 #[j]/\Bx u1 w.1.size 168 #[.pointer G.g]:=⟨⟨k3⟩,⟨k4⟩⟩;have Qy:=acp (p:=p) (a:=a) (G:=G) (m:=m) (l:=l) (fi:=fi) (kp:=kp) (La:=La) k4 k3 y D (show j<=100000 by omega))|(go_at_call 135;refine(DL (g:=136) UH om cr (enters_of func136 ao rfl) Qy Y).mono ?_;rintro e u2 ⟨rfl,Xs,m5⟩));go_roundw;exact⟨j+1,K,C,om,by go_num,Xs,Z,ae (((S.o.trans Kl.of).trans E).trans m5),Sx⟩;exact xY4
 obtain rfl:j=m:=om;have Gr:r=rc/\b=tl:=by have h:=HS.o;rw[eF (by rw[<-N.o];exact al _)]at h;exact eQ h
 obtain⟨rfl,rfl⟩:=Gr;go_wp2_with fail;refine⟨rfl,.tuple #[],by simp[results,results80,go_sem],rfl,ae (gT.at B),ae (Kl.of.trans S)⟩
variable{b:Nat}{z:Int}
def Z0(N:bm)(id:Int)(s:kC):kC:=(((bS N id).foldl (λs z=>ig N 1001 z s) s).1,((bS N id).foldl (λs z=>ig N 1001 z s) s).2++[(6,id)])
def w5(N:bm)(m:Nat)(kp:List Bool)(fi O:au):Nat->kC->kC
 |0,s=>s
 |q+1,s=>if 65536<s.2.length then s else w5 N m kp fi O q (swp (A5 kp fi (q+1)) (Z0 N (O.getD q 0) s) m)
def UI(w:aa)(t:Value):Nat:=
 match t with
 |.pointer (some ad)=>
  match w.cell? ad with
   |some v=>(intOf v).toNat
   |none=>0
 |_=>0
def DM(h:az w b T #[z]):UI w (.pointer b)=z.toNat:=by
 have:=h.cell 0;simp at this;simp[UI,this,intOf]
def xY3(h:Γ:=by exact⟨rfl,.tuple #[],by simp[results,results83,go_sem],rfl,ae g1,ae g2⟩):=h
def uU(hN:Hx (dF N O L l))[ni:aW p a.AI a.nI a.BN m N](hs:Hx N.small)(h:Hx (gT p w a G m l ⟨fi,kp,pr,cd⟩))(k8:1<=m)(hm:m<=512)[sO:Sl p a.AO m O](h0:Hx (pr.getD 0 false=true))(hF:Hx (w5 N m kp fi O m (pr,cd)=(rc,tl))):
  () 83 #[.pointer G.g] w (pU p a G m l ⟨fi,kp,rc,tl⟩ w):=by
 obtain⟨CB,CP,FB⟩:=ia;have HM:Hx (m=N.nodes.length):=ni.len;have Kr:Hx (m=O.length):=sO.len;have xE:Hx (∀id∈O,1<=id/\id<=m):=ae λid hid=>by have:=bn.1 (hN.o.kh.ids id hid);rw[<-HM.o]at this;exact this
 have HFO:=ae (uR (p:=p) (a:=a) (G:=G) (m:=m) (fi:=fi) (kp:=kp) hN hs 1001 (al _));obtain⟨b9,q9,z9,hAO,T6,-⟩:=sO.get (k:=0) k8;obtain⟨b0,q0,-,-,-,-,-,-,-,-,-,-,-,-,hBN,ob0,-⟩:=ni.node k8;go_in;go_upto_region 1 with fail;refine aE (λu _ kb1=>?_);have J:=ae (h.o.at (w':=u));have C:=h.o.ne (al _);have r:=J.o.ne (al _);obtain⟨A0,c0,XM⟩:=J.o;obtain⟨p9,kb,-⟩:=XM.facts;clear XM;go_upto_region 2 with fail;refine aE (λv _ zh=>?_);go_loopw [2] (λt wr=>∃(q b2:Nat) (j:List Bool) (b:List (Int×Int)),q<=m/\t=.pointer b2/\Bx wr b2 3 #[q]/\Hx (b2≠G.g/\b2≠G.P)/\Hx (gT p wr a G m l ⟨fi,kp,j,b⟩)/\Hx (w5 N m kp fi O q (j,b)=(rc,tl))/\Hx (Kl G u wr)/\Hx (j.getD 0 false=true)) (λt wr=>UI wr t);exact⟨m,_,pr,cd,al _,rfl,zh,ae r,ae (J.o.at (w':=v)),hF,ae Kl.of,h0⟩;clear J hF kb p9 r h0;obtain⟨q,b2,j,b,hq,rfl,k2,HN2,J,HS,HK,H0⟩:=hrel;obtain⟨A',c',hL⟩:=J.o;obtain⟨p9,kb,-⟩:=hL.facts;clear hL;have k1:Bx wr w.1.size 168 #[.pointer G.g]:=⟨HK.o.ak kb1.ak.at C.1 C.2 am⟩;have hex:∀(x:aa),aj x wr->j=rc->b=tl->gT p x a G m l ⟨fi,kp,rc,tl⟩/\Kl G w x:=λx _ e1 e2=>by subst e1 e2;exact⟨J.o.at,(Kl.of.trans HK).trans Kl.of⟩
 have HEX:=ae hex;clear hex;by_cases P9:q=0
 .subst P9;obtain⟨e1,e2⟩:j=rc/\b=tl:=eQ HS;(have t1:decide ((1:Int)<=((0:Nat):Int))=false:=by decide);go_wp2_with fail;obtain⟨g1,g2⟩:=HEX.o wr ⟨aV _ _⟩ e1 e2;exact xY3
 obtain⟨q,rfl⟩:∃t,q=t+1:=⟨q-1,om⟩;have t1:decide ((1:Int)<=((q+1:Nat):Int))=true:=by simp;omega
 obtain⟨mb,D⟩:=lh (decide (65536<(b.length:Int)));have OD:=ae D;rcases mb with _|_
 .have hcd:b.length<=65536:=by have:=of_decide_eq_false D;omega
  obtain⟨b8,q8,id,hA8,ob8,v9,Ai⟩:=sO.get (k:=q) om;rw[hAO]at hA8;cases hA8;obtain⟨Gm,Gn⟩:=xE.o id (aC Ai.o);obtain⟨t,ht⟩:=bJ (show 0<=id-1 by omega);(obtain rfl:id=(t:Int)+1:=by omega);have Aj:t<m:=om;(have w3:IntKind.i64.wrap (q:Int)=(q:Int):=by rw[a7];omega);(have w4:(q:Int)<(m:Int):=by omega);(have w2:(t:Int)+1-1=t:=by omega);obtain⟨b7,q7,o,A1,n1,c1,I,nn,ci,ins,P,np,cp,ps,hB7,ob7,⟨v0,v1,v2,v3,v4,v5,v6,v7,v8,Lz⟩,s1,si,sp,l1,li,lp,ik,T⟩:=ni.node Aj;rw[hBN]at hB7;cases hB7;(have qm:nn<=1000:=by have:=hs.o.2 _ (aC T.o);rw[si.len];exact this);have HI:Hx (nn=ins.length):=si.len;(have Q:bS N ((t:Int)+1)=ins:=by rw[bS,show((t:Int)+1-1).toNat=t from by omega,T.o];rfl);have CK:Hx (∀z∈ins,z=0\/z∈O.take 1001):=λz hz=>by have jM:=hN.o.kc _ (aC T.o) z hz;by_cases e:z=0;exact .inl e;right;rw[bY (by rw[<-Kr.o];omega)];exact hN.o.mem.2 (bn.2 om)
  have Al:Hx (w5 N m kp fi O q (swp (A5 kp fi (q+1)) (((ins.foldl (λs z=>ig N 1001 z s) (j,b)).1),((ins.foldl (λs z=>ig N 1001 z s) (j,b)).2)++[(6,(t:Int)+1)]) m)=(rc,tl)):=ae (by
   have E:=HS.o;rw[w5,ag (by show¬65536<b.length;omega),h4 Ai.o,Z0,Q]at E;exact E)
  have HP0:Hx (∀k,((ins.take k).foldl (λs z=>ig N 1001 z s) (j,b)).1.getD 0 false=true/\((ins.take k).foldl (λs z=>ig N 1001 z s) (j,b)).2.length<=66538):=λk=>
   mT (I:=λs:kC=>s.1.getD 0 false=true/\s.2.length<=66538) _ _ ⟨H0,by show b.length<=66538;omega⟩ λs x _ hs=>⟨we 1001 x s hs.1,by have:=(A4 (N:=N) 1001 x s).1;omega⟩
  have r:=HN2.o;clear ht Gm Gn Q D HS;go_upto_region 4 with(go_at_call 84;refine mv (oZ (V:=⟨fi,kp,j,b⟩) (ae (J.o.at (w':=wr))) OD) λu5 _=>?_);refine aw ao (λu6 _=>?_);refine qL [0,1,2,3,4,5,6,7,8] ?_;refine a9 ?_;go_upto_region 6 with fail;have HL6:=ae (J.o.at (w':=u6));have U:Hx (Kl G wr u6):=Kl.of;clear kb p9;go_loopw [39] (λi wy=>∃(k:Nat) (B:List Bool) (y:List (Int×Int)),k<=nn/\i=.int .i64 k/\Hx (gT p wy a G m l ⟨fi,kp,B,y⟩)/\Hx ((ins.take k).foldl (λs z=>ig N 1001 z s) (j,b)=(B,y))/\Hx (Kl G u6 wy)) (λi _=>nn-(intOf i).toNat);exact⟨0,j,b,aM _,rfl,HL6,ae rfl,ae Kl.of⟩;obtain⟨k,B,y,hk,rfl,X,Y,K⟩:=hrel;obtain⟨A3,c3,hL3⟩:=X.o;have p9:=hL3.prev;have Z:=(HP0.o k).1;have hH:=(HP0.o k).2;rw[Y.o]at Z hH;have xB:=ae Z;dsimp only at hH;have k1y:Bx wr w.1.size 168 #[.pointer G.g]:=⟨((U.o.trans K).ak k1.ak C.1 C.2 am)⟩;have k2y:Bx wr b2 3 #[.int .i64 ((q+1:Nat):Int)]:=⟨((U.o.trans K).ak k2.ak r.1 r.2 am)⟩;clear Z hL3;by_cases bE:k<nn
  .obtain⟨b4,q4,z,rfl,ob4,vz,ez⟩:=si.get bE;have HZ:Hx (z=0\/z∈O.take 1001):=CK.o z (aC ez.o);have HF:=ae (HFO.o wr B y z X HZ xB om);have HS4:Hx ((ins.take (k+1)).foldl (λs z=>ig N 1001 z s) (j,b)=((ig N 1001 z (B,y)).1,(ig N 1001 z (B,y)).2)):=ae (by rw[take_at ez.o,lN,Y.o];rfl);go_wp2_with (go_at_call 137;refine(HF.o).mono ?_;rintro e u7 ⟨rfl,HL7,F⟩);go_roundw;exact⟨k+1,_,_,om,by go_num,HL7,HS4,ae (K.o.trans F)⟩;exact xY4
  obtain rfl:k=nn:=om;have S:ins.foldl (λs z=>ig N 1001 z s) (j,b)=(B,y):=by have:=Y.o;rwa[bY xY5]at this
  have E:=Al.o;rw[S]at E;dsimp only at E;obtain⟨⟨pr4,cd4⟩,M⟩:=lh (swp (A5 kp fi (q+1)) (B,y++[(6,(t:Int)+1)]) m);rw[M]at E;have wg:=ae E;have HSW:=ae M;have HZ4:Hx (pr4.getD 0 false=true):=ae (by
   have:=wa (A5 kp fi (q+1)) (B,y++[(6,(t:Int)+1)]) m;rw[M]at this;exact this.trans xB)
  clear M E S;go_wp2_with (first|(go_at_call 81;refine(pV X (show y.length<=1000000 by omega) 6 ((t:Int)+1)).mono ?_;rintro e u7 ⟨rfl,HL7,F⟩;obtain⟨k1z,k2z⟩:Bx u7 w.1.size 168 #[.pointer G.g]/\Bx u7 b2 3 #[.int .i64 ((q+1:Nat):Int)]:=⟨⟨F.o.ak k1y.ak C.1 C.2 am⟩,⟨F.o.ak k2y.ak r.1 r.2 am⟩⟩;have Qy:=acq (p:=p) (a:=a) (G:=G) (m:=m) (l:=l) (fi:=fi) (kp:=kp) k1z.ak k2z.ak C r)|(go_at_call 135;refine(DL (g:=138) HL7 om cr (enters_of func138 ao rfl) Qy HSW).mono ?_;rintro e u8 ⟨rfl,HL8,HK8⟩;have k2w:Bx u8 b2 3 #[.int .i64 ((q+1:Nat):Int)]:=⟨HK8.o.ak k2z.ak r.1 r.2 am⟩));exact⟨⟨q,u8.1.size,pr4,cd4,om,rfl,Bx.new,ae (HL8.o.ne (al _)),ae (HL8.o.at),wg,ae ((((((HK.o.trans U).trans K).trans F).trans HK8)).trans Kl.of),HZ4⟩,by rw[DM Bx.new.ak,DM k2.ak];omega⟩
 obtain⟨e1,e2⟩:j=rc/\b=tl:=by have E:=HS.o;rw[w5,ah (by have:=o6 D;show 65536<b.length;omega)]at E;exact eQ E
 clear D;go_wp2_with (go_at_call 84;refine mv (oZ (V:=⟨fi,kp,j,b⟩) (ae (J.o.at (w':=wr))) OD) λu5 _=>?_);obtain⟨g1,g2⟩:=HEX.o u5 aq e1 e2;exact xY3
variable{w0:World}{B:Option Addr}{d n:Nat}{E:Int}
structure re(w0 w:World)(t:Nat)(T:TypeId)(cs:Array Value)(gs:List (Nat×TypeId×Array Value)):Prop where
 pr:aj w w0
 box:az w t T cs
 bs:∀x∈gs,az w x.1 x.2.1 x.2.2
 nd:(t::gs.map (·.1)).Nodup
 ge:∀x∈gs,w0.1.size<=x.1
 ht:w0<=t
def r3(q:Nat)(ins:au)(L:au):List Int:=ins.foldl (λL z=>L.set z.toNat (q:Int)) L
def i4(N:bm)(O:au):Nat->List Int->List Int
 |0,L=>L
 |q+1,L=>i4 N O q (r3 (q+1) (bS N (O.getD q 0)) L)
section
variable{t:Nat}{U:TypeId}{gs:List (Nat×TypeId×Array Value)}
theorem re.bx(h:re w0 w t T cs gs):Bx w t T cs:=⟨h.box⟩
def re.at[l:aT w w'](h:re w0 w t T cs gs):re w0 w' t T cs gs:=⟨⟨du h.pr.st l.st⟩,h.box.at,λx b=>(h.bs x b).at,h.nd,h.ge,h.ht⟩
def re.mk'[aj w' w](h:re w0 w t T cs gs)(k:az w' w.1.size U ds):re w0 w' t T cs ((w.1.size,U,ds)::gs):=by
 have b:=h.at (w':=w');refine⟨b.pr,b.box,λx hx=>?_,?_,λx hx=>?_,h.ht⟩;rcases cw.1 hx with rfl|hx;exact k;exact b.bs x hx;have j:=h.nd;rw[sE]at j;rw[di,sE,sE];refine⟨λhm=>?_,λhm=>?_,j.2⟩;rcases cw.1 hm with e|hm;have:=h.box.lt;rw[e]at this;exact o8 _ this;exact j.1 hm;obtain⟨x,hx,e⟩:=bw.1 hm;have:=(h.bs x hx).lt;rw[e]at this;exact o8 _ this;rcases cw.1 hx with rfl|hx;exact h.pr.st.size;exact h.ge x hx
def re.set(h:re w0 w t T cs gs)(i:Nat)(v:Value):re w0 (w.setCell (t,i) v) t T (cs.setIfInBounds i v) gs:=
 ⟨⟨h.pr.st.setCell (p:=⟨t,i,none⟩) h.ht _⟩,h.box.av i v,λx b=>(h.bs x b).aY (λe=>(sE.1 h.nd).1 (by have j:x.1=t:=e;rw[<-j];exact bw.2 ⟨x,b,rfl⟩)) _,h.nd,h.ge,h.ht⟩
def re.fin{a:vY}{F K P:Nat}{z:au}{f g:List Bool}(h:re w0 w t 172 (q7 a ⟨t,F,K,P⟩ m l none 0 ⟨z,f,g,[]⟩) gs)(b:(F,3,ints z)∈gs)(e:(K,4,eu f)∈gs)(j:(P,4,eu g)∈gs)(r:K≠P)(y:z=m+1)(lf:f=m+1)(lg:g=m+1):m8 w0 w a ⟨t,F,K,P⟩ m l none 0 ⟨z,f,g,[]⟩:=
 ⟨h.pr,h.box,h.bs _ b,h.bs _ e,h.bs _ j,ce.nil _ _,r,h.ht,h.ge _ b,h.ge _ e,h.ge _ j,y,lf,lg⟩
def Qz[aW w A n B m N](j:Hx N.fits)(hs:Hx N.small)(hE:Hx (bo N=E)){W:au}(hV:Hx (q3 N=W)){x:Nat}(r:Hx (W=x)):
  () 133 #[.agg #[.slice A n c,(B,m,d)]] w λe w'=>∃A c,e=.returned (.tuple #[.slice A x c,E])/\Sl w' A x W/\aB w' w.1.size 3 A c W/\aj w' w:=by
 obtain rfl:=r.o;exact(Ux j hs hE hV).mono λe w' ⟨A,c,y,b,z⟩=>⟨A,c,y,⟨b.rd,rfl⟩,b,z⟩
def YI(w:aa)(N:bm)(O La:au)(l m:Nat)(e:Ending)(w':aa):Prop:=
 ∃(p:aa) (a:vY) (G:vZ),e=.returned (.tuple #[.pointer G.g,an])/\aj p w/\aW p a.AI a.nI a.BN m N/\Sl p a.AO m O/\Sl p a.AL (m+1) La/\
  Hx (gT p w' a G m l ⟨i4 N O m (List.replicate (m+1) 0),List.replicate (m+1) false,(List.replicate (m+1) false).set 0 true,[]⟩)
def Gx[aW w A n B m N](C:Hx N.fits)(hs:Hx N.small)(b:Hx (bo N=E))(z:E≠0):() 79 #[.agg #[(A,n,c),(B,m,d)]] w (aJ w (.tuple #[.pointer none,E])):=by
 have D:=@ay;obtain⟨⟨O,L,l⟩,j⟩:=kS (dB N);obtain⟨y,r⟩:=kS O.length;have F:(E !=0)=true:=by simp[z]
 clear z;go_in;go_wp2_with (go_at_call 60;refine(kA C hs b j r).mono ?_;rintro e u ⟨AO,cO,rfl,G,I,J⟩);go_ret2;exact bB
def QB[a:aW w A n B m N](hf:Hx N.fits)(hs:Hx N.small)(G:Hx (bo N=0))(hN:Hx (dF N O L l))(X:Hx (dB N=(O,L,(l:Int))))(Y:Hx (q3 N=La))(hm:m<=512):
  () 79 #[.agg #[(A,n,c),(B,m,d)]] w (YI w N O La l m):=by
 obtain⟨CB,CP,FB⟩:=ia;have Z:Hx (m=N.nodes):=a.len;have Kr:Hx (O=m):=ae (by rw[hN.o.sB,Z.o]);have UJ:Hx (La=m+1):=ae (by
  rw[<-Y.o,q3,ah G.o,AG,eY,Z.o])
 have UK:∀W:World,(Instr.makeSlice 24 ((m:Int)+1:Int) ((m:Int)+1:Int)).run prog W=.ok (.slice (some ⟨W.1.size,0,none⟩) (m+1) (m+1)) (W.alloc (.cells (ints (List.replicate (m+1) 0)) 3)):=λW=>by have h:=kz (m+1) om W;rwa[ee]at h
 have Ak:∀W:World,(Instr.makeSlice 106 ((m:Int)+1:Int) ((m:Int)+1:Int)).run prog W=.ok (.slice (some ⟨W.1.size,0,none⟩) (m+1) (m+1)) (W.alloc (.cells (eu (List.replicate (m+1) false)) 4)):=λW=>by have h:=nE (m+1) om W;rwa[ee]at h
 go_in;go_upto_region 1 with fail;refine aE (λu0 _ kn=>?_);go_upto_region 11 with(first|(go_at_call 60;refine(kA hf hs G X Kr).mono ?_;rintro e u ⟨AO,cO,rfl,sO,oO,pO⟩)|(go_at_call 133;refine(Qz hf hs G Y UJ).mono ?_;rintro e u ⟨AL,cL,rfl,sL,oL,pL⟩)|(go_at_call 61;refine(yE hf hs G X).mono ?_;rintro e u ⟨rfl,_⟩));obtain⟨p,hp⟩:=lg u;rw[<-hp];obtain⟨nip,sOp,sLp,pp⟩:aW p A n B m N/\Sl p AO m O/\Sl p AL (m+1) La/\aj p w:=by rw[hp];exact⟨aq,aq,aq,aF⟩
 have kn:Bx p w.1.size 33 #[(A,n,c),(B,m,d)]:=by rw[hp];exact aq
 clear hp;go_upto_region 12 with fail;refine aE (λu2 _ r=>?_);obtain⟨tb,J⟩:=lg p.1.size;have b:Hx (re p u2 tb 172 #[(A,n,c),(B,m,d),(AO,m,cO),.slice AL (m+1) cL,(),l,(),(),()] []):=ae ⟨aq,by rw[J];exact r.ak,aD,aD,aD,by rw[J];exact al _⟩;rw[<-J]at r⊢;clear J;go_cut [] (λwx=>∃F K P,Hx (m8 p wx ⟨A,n,c,B,d,AO,cO,AL,cL⟩ ⟨tb,F,K,P⟩ m l none 0 ⟨List.replicate (m+1) 0,List.replicate (m+1) false,List.replicate (m+1) false,[]⟩));case first=>
  refine ab p ao (λj _=>?_)
  repeat' (first
   |(refine j8 0 ?_
     refine qL [0,1,2,3,5] ?_;refine jL 7 54 ?_)
   |(refine j8 9 ?_
     refine ff 9 ?_;refine jL 10 57 ?_)
   |(refine j8 12 ?_
     refine ff 12 ?_;refine jL 13 59 ?_)
   |(refine j8 15 ?_
     refine ff 15 ?_;refine jL 16 61 ?_)
   |(intro (tg:Tg 4) K hK
     clear tg;obtain⟨gF,hgF⟩:=lg ((World.heap j).size);have b:=ae (b.o.at (w':=j));go_simp;refine aG hK ?_;refine bc (λj _ _=>?_);have b:=ae (b.o.mk' (w':=j) Bx.ak);rw[<-hgF]at b⊢;clear hgF;have r:=b.o.bx)
   |(intro (tg:Tg 6) K hK
     clear tg;obtain⟨gK,hgK⟩:=lg ((World.heap j).size);have b:=ae (b.o.at (w':=j));go_simp;refine aG hK ?_;refine bc (λj _ _=>?_);have b:=ae (b.o.mk' (w':=j) Bx.ak);rw[<-hgK]at b⊢;clear hgK;have r:=b.o.bx)
   |(intro (tg:Tg 8) K hK
     clear tg;obtain⟨gP,hgP⟩:=lg ((World.heap j).size);have b:=ae (b.o.at (w':=j));go_simp;refine aG hK ?_;refine bc (λj _ _=>?_);have b:=ae (b.o.mk' (w':=j) Bx.ak);rw[<-hgP]at b⊢;clear hgP;have r:=b.o.bx)
   |(intro (tg:Tg 11) K hK
     clear tg;go_simp;have D:=ae (b.o.set 4 (.slice gF (m+1) (m+1)));obtain⟨v1,K4⟩:=lg (j.setCell (tb,4) (.slice gF (m+1) (m+1)));rw[<-K4]at D⊢;clear K4 b;obtain⟨b,-⟩:_/\True:=⟨D,bX⟩;clear D;have pv1:=b.o.pr;have r:=b.o.bx;refine aG hK ?_ pv1;obtain⟨j,rfl⟩:∃W:World,W=v1:=⟨_,rfl⟩)
   |(intro (tg:Tg 14) K hK
     clear tg;go_simp;have D:=ae (b.o.set 6 (.slice gK (m+1) (m+1)));obtain⟨v2,Lq⟩:=lg (j.setCell (tb,6) (.slice gK (m+1) (m+1)));rw[<-Lq]at D⊢;clear Lq b;obtain⟨b,-⟩:_/\True:=⟨D,bX⟩;clear D;have PJ:=b.o.pr;have r:=b.o.bx;refine aG hK ?_ PJ;obtain⟨j,rfl⟩:∃W:World,W=v2:=⟨_,rfl⟩)
   |(intro (tg:Tg 17) K hK
     clear tg;go_simp;have D:=ae (b.o.set 7 (.slice gP (m+1) (m+1)));obtain⟨v3,Hy⟩:=lg (j.setCell (tb,7) (.slice gP (m+1) (m+1)));rw[<-Hy]at D⊢;clear Hy b;obtain⟨b,-⟩:_/\True:=⟨D,bX⟩;clear D;have pv3:=b.o.pr;have r:=b.o.bx;refine aG hK ?_ pv3;obtain⟨j,rfl⟩:∃W:World,W=v3:=⟨_,rfl⟩)
   |refine fg 4 ?_
   |refine fg 11 ?_
   |refine fg 14 ?_
   |refine fg 17 ?_
   |refine fg 6 ?_
   |refine fg 8 ?_
   |refine mf 4 6 ?_ ?_
   |refine mf 6 11 ?_ ?_
   |refine mf 4 8 ?_ ?_
   |refine mf 8 11 ?_ ?_
   |refine mf 8 14 ?_ ?_
   |refine mf 6 8 ?_ ?_
   |refine rz3 4 6 8 ?_ ?_ ?_
   |refine rz3 6 8 11 ?_ ?_ ?_
   |refine BU ?_)
  all_goals go_wp2_with fail;go_meet;have ND:=b.o.nd;simp only[sE,di,jz,cw,nR,o2,not_or,aal,WN,MA]at ND;exact⟨gF,gK,gP,ae (b.o.fin aD aD aD (by rintro rfl;simp at ND) aD aD aD)⟩
 obtain⟨F,K,P,C⟩:=hcut;clear b r UK Ak;have xE:Hx (∀id∈O,1<=id/\id<=m):=ae λid hid=>by have:=bn.1 (hN.o.kh.ids id hid);rw[<-Z.o]at this;exact this
 have h1m:1<=m:=by have:=hN.o.oo;have:=hN.o.lE;rw[<-Z.o]at this;omega
 go_upto_region 14 with fail;go_loopw [10] (λt wr=>∃(q:Nat) (fi:au),q<=m/\t=.int .i64 q/\Hx (m8 p wr ⟨A,n,c,B,d,AO,cO,AL,cL⟩ ⟨tb,F,K,P⟩ m l none 0 ⟨fi,List.replicate (m+1) false,List.replicate (m+1) false,[]⟩)/\Hx (i4 N O q fi=i4 N O m (List.replicate (m+1) 0))) (λt _=>(intOf t).toNat);exact⟨m,_,al _,rfl,C,ae rfl⟩;clear C;obtain⟨q,fi,hq,rfl,C,S⟩:=hrel;obtain⟨p9,r,kF,kK,kP⟩:=C.o.facts;have kn2:Bx wr w.1.size 33 #[(A,n,c),(B,m,d)]:=aq;by_cases P9:q=0
 .subst P9;(have t1:decide ((1:Int)<=((0:Nat):Int))=false:=by decide);have hF:fi=i4 N O m (List.replicate (m+1) 0):=S.o;have e0:(eu (List.replicate (m+1) false))[0]?=some (.bool false):=cj (by rw[jy,ah om]);(have hm0:(0:Int)<(m:Int)+1:=by omega);have Q:=ae hF;clear hF;go_wp2_with fail;go_ret2;refine⟨p,⟨A,n,c,B,d,AO,cO,AL,cL⟩,⟨tb,F,K,P⟩,rfl,pp,nip,sOp,sLp,ae ⟨none,0,?_⟩⟩;rw[<-Q.o];exact C.o.DH 0 true
 obtain⟨q,rfl⟩:∃t,q=t+1:=⟨q-1,om⟩;have t1:decide ((1:Int)<=((q+1:Nat):Int))=true:=by simp;omega
 have w3:IntKind.i64.wrap (q:Int)=(q:Int):=by rw[a7];omega
 have w4:(q:Int)<(m:Int):=by omega
 obtain⟨b8,q8,id,rfl,ob8,v9,Ai⟩:=sOp.get (k:=q) om;obtain⟨Gm,Gn⟩:=xE.o id (aC Ai.o);obtain⟨t,ht⟩:=bJ (show 0<=id-1 by omega);obtain rfl:id=(t:Int)+1:=by omega
 have Aj:t<m:=om;have w2:(t:Int)+1-1=t:=by omega
 have w5:IntKind.i64.wrap (t:Int)=(t:Int):=by rw[a7];omega
 have w6:(t:Int)<(m:Int):=by omega
 obtain⟨b7,q7,o,A1,n1,c1,I,V,ci,ins,P1,np,cp,ps,rfl,ob7,⟨v0,v1,v2,v3,v4,v5,v6,v7,v8,Lz⟩,s1,si,sp,l1,li,lp,ik,R⟩:=nip.node Aj;have qm:V<=1000:=by have:=hs.o.2 _ (aC R.o);rw[si.len];exact this
 have HI:Hx (V=ins):=si.len;have CK:Hx (∀z∈ins,0<=z/\z<=m):=ae λz hz=>by have:=hN.o.kc _ (aC R.o) z hz;rw[<-Z.o]at this;exact this
 have HN:Hx (i4 N O q (r3 (q+1) ins fi)=i4 N O m (List.replicate (m+1) 0)):=ae (by
  rw[<-S.o,i4,h4 Ai.o,bS,show((t:Int)+1-1).toNat=t from om,R.o];rfl)
 clear ht Gm Gn S;go_upto_region 16 with fail;refine aw ao (λj _=>?_);refine qL [0,1,2,3,4,5,6,7,8,9,10,11,12] ?_;refine a9 ?_;go_upto_region 17 with fail;have HSu:=ae (C.o.at (w':=j));clear r kF kK kP p9 kn2;go_loopw [80] (λi wy=>∃(k:Nat) (M:au),k<=V/\i=.int .i64 k/\Hx (m8 p wy ⟨A,n,c,some ⟨b7,q7,none⟩,d,some ⟨b8,q8,none⟩,cO,AL,cL⟩ ⟨tb,F,K,P⟩ m l none 0 ⟨M,List.replicate (m+1) false,List.replicate (m+1) false,[]⟩)/\Hx (r3 (q+1) (ins.drop k) M=r3 (q+1) ins fi)) (λi _=>V-(intOf i).toNat);exact⟨0,fi,aM _,rfl,HSu,ae rfl⟩;clear C HSu;obtain⟨k,M,hk,rfl,C,S⟩:=hrel;obtain⟨p9,r,kF,kK,kP⟩:=C.o.facts;by_cases bE:k<V
 .obtain⟨b4,q4,z,rfl,ob4,vz,ez⟩:=si.get bE;have hz:=CK.o z (aC ez.o);obtain⟨y,rfl⟩:=bJ hz.1;(have hyi:(y:Int)<(m:Int)+1:=by omega);obtain⟨x,hx⟩:∃x,M[y]?=some x:=⟨_,List.getElem?_eq_getElem (by have:=C.o.lf;dsimp only at this;omega)⟩;have vE:(ints M)[y]?=some (.int .i64 x):=by rw[u4,hx];rfl
  have Q:Hx (r3 (q+1) (ins.drop (k+1)) (M.set y ((q:Int)+1))=r3 (q+1) ins fi):=ae (by
   obtain⟨h1,h2⟩:=a8.1 ez.o;rw[<-S.o,ed h1,h2];rfl)
  clear hx hz;go_wp2_with fail;go_roundw;exact⟨k+1,_,om,by go_num,ae (C.o.AU y ((q:Int)+1)),Q⟩;exact xY4
 obtain rfl:k=V:=om;have HF3:Hx (i4 N O q M=i4 N O m (List.replicate (m+1) 0)):=ae (by
  rw[<-HN.o,<-S.o,eF xY5];rfl)
 go_wp2_with fail;exact⟨⟨q,M,om,by go_num,C,HF3⟩,by simp[intOf]⟩
end
end Go.Proofs.YtmkjnlifimffkaaGreat
