/- Lemmas. -/
import Derived.Test.YtmkjnlifimffkaaGreatF20
namespace Go.Proofs.YtmkjnlifimffkaaGreat
open Go.RowKit Tryz
set_option linter.all false
set_option maxRecDepth 100000
set_option maxHeartbeats 0
variable{p u w':World}{c c' g i l m:Nat}{A A':Option Addr}{fi zs:List Int}{kp pr:List Bool}{cd:List (Int×Int)}{T:TypeId}{ds:Array Value}
structure tS where
 AI:Option Addr
 nI:Nat
 cI:Nat
 BN:Option Addr
 cN:Nat
 AO:Option Addr
 cO:Nat
 AL:Option Addr
 cL:Nat
structure Gc where
 g:Nat
 F:Nat
 K:Nat
 P:Nat
structure Jh where
 fi:List Int
 kp:List Bool
 pr:List Bool
 cd:List (Int×Int)
abbrev pF(a:tS)(G:Gc)(m l:Nat)(A:Option Addr)(c:Nat)(V:Jh):Array Value:=
 #[.slice a.AI a.nI a.cI,.slice a.BN m a.cN,.slice a.AO m a.cO,.slice a.AL (m+1) a.cL,.slice G.F (m+1) (m+1),l,.slice G.K (m+1) (m+1),.slice G.P (m+1) (m+1),.slice A V.cd.length c]
structure lG(p w:World)(a:tS)(G:Gc)(m l:Nat)(A:Option Addr)(c:Nat)(V:Jh):Prop where
 prev:aj w p
 bx:aB w G.g 172 (pF a G m l A c V)
 fi:Own w G.F 3 V.fi
 kp:aB w G.K 4 (d6 V.kp)
 pr:aB w G.P 4 (d6 V.pr)
 cd:bM w p.1.size A c V.cd
 Ji:G.K≠G.P
 hg:p.1.size<=G.g
 hF:p.1.size<=G.F
 hK:p.1.size<=G.K
 hP:p.1.size<=G.P
 lf:V.fi=m+1
 lk:V.kp=m+1
 lp:V.pr=m+1
section
variable{w:World}{a:tS}{G:Gc}{V:Jh}
def jF{h:Nat}{U:TypeId}{cs:eL}(x:aB w g T cs)(y:aB w h U ds)(b:T≠U):g≠h:=λe=>by
 subst e;unfold aB at x y;rw[x]at y;injection y with y;injection y with _ y
 exact b y
def lG.at(h:lG p w a G m l A c V)[k:aF w w']:lG p w' a G m l A c V:=
 ⟨⟨dW h.prev.st k.st⟩,h.bx.at,h.fi.keep k.st,h.kp.at,h.pr.at,h.cd.at,h.Ji,h.hg,h.hF,h.hK,h.hP,h.lf,h.lk,h.lp⟩
def bM.ec{q:Addr}{B:Nat}(h:bM w B A c cd)(hp:∀b,A=some b->b.block≠q.block)(v:Value):bM (w.setCell q v) B A c cd:=h.same λb e=>bm w q v _ (hp b e)
def jW(h:Own w g 3 zs):aB w g 3 (ints zs):=h
def lG.Bm(h:lG p w a G m l A c ⟨fi,kp,pr,cd⟩)(i:Nat)(b:Bool):lG p (w.setCell (G.P,i) (.bool b)) a G m l A c ⟨fi,kp,pr.set i b,cd⟩:=
 ⟨⟨h.prev.st.setCell (p:=⟨G.P,i,none⟩) h.hP _⟩,h.bx.a9 (jF h.bx h.pr ak) _,h.fi.a9 (jF (jW h.fi) h.pr ak) _,h.kp.a9 h.Ji _,by rw[<-k5];exact h.pr.ax i _,h.cd.ec (λj e=>h.cd.aS h.pr ak j e) _,h.Ji,h.hg,h.hF,h.hK,h.hP,h.lf,h.lk,by have:=h.lp;simpa using this⟩
def lG.abl(h:lG p w a G m l A c ⟨fi,kp,pr,cd⟩)(i:Nat)(b:Bool):lG p (w.setCell (G.K,i) (.bool b)) a G m l A c ⟨fi,kp.set i b,pr,cd⟩:=
 ⟨⟨h.prev.st.setCell (p:=⟨G.K,i,none⟩) h.hK _⟩,h.bx.a9 (jF h.bx h.kp ak) _,h.fi.a9 (jF (jW h.fi) h.kp ak) _,by rw[<-k5];exact h.kp.ax i _,h.pr.a9 (dF h.Ji) _,h.cd.ec (λj e=>h.cd.aS h.kp ak j e) _,h.Ji,h.hg,h.hF,h.hK,h.hP,h.lf,by have:=h.lk;simpa using this,h.lp⟩
def lG.yt(h:lG p w a G m l A c ⟨fi,kp,pr,cd⟩)(i:Nat)(z:Int):lG p (w.setCell (G.F,i) z) a G m l A c ⟨fi.set i z,kp,pr,cd⟩:=
 ⟨⟨h.prev.st.setCell (p:=⟨G.F,i,none⟩) h.hF _⟩,h.bx.a9 (jF h.bx (jW h.fi) ak) _,h.fi.ax i z,h.kp.a9 (jF h.kp (jW h.fi) ak) _,h.pr.a9 (jF h.pr (jW h.fi) ak) _,h.cd.ec (λb e=>h.cd.aS (jW h.fi) ak b e) _,h.Ji,h.hg,h.hF,h.hK,h.hP,by have:=h.lf;simpa using this,h.lk,h.lp⟩
def lG.EE(h:lG p w a G m l A c ⟨fi,kp,pr,cd⟩){b:List (Int×Int)}(y:bM u p.1.size A' c' b)(hb:Below p.1.size w u)(j:∀k,k<w.1.size->(∀r,A=some r->r.block≠k)->u.heap[k]?=w.heap[k]?):
  lG p (u.setCell (G.g,8) (.slice A' b c')) a G m l A' c' ⟨fi,kp,pr,b⟩:=by
 have k1:aB u G.g 172 (pF a G m l A c ⟨fi,kp,pr,cd⟩):=(j _ h.bx.lt (h.cd.aS h.bx ak)).trans h.bx;have k2:Own u G.F 3 fi:=(j _ h.fi.lt (h.cd.aS (jW h.fi) ak)).trans h.fi;have k3:aB u G.K 4 (d6 kp):=(j _ h.kp.lt (h.cd.aS h.kp ak)).trans h.kp;have k4:aB u G.P 4 (d6 pr):=(j _ h.pr.lt (h.cd.aS h.pr ak)).trans h.pr;exact⟨⟨(h.prev.st.trans hb).setCell (p:=⟨G.g,8,none⟩) h.hg _⟩,k1.ax 8 _,k2.a9 (jF (jW k2) k1 ak) _,k3.a9 (jF k3 k1 ak) _,k4.a9 (jF k4 k1 ak) _,y.ec (λr e=>y.aS k1 ak r e) _,h.Ji,h.hg,h.hF,h.hK,h.hP,h.lf,h.lk,h.lp⟩
def lG.facts(h:lG p w a G m l A c V):aj w p/\Bx w G.g 172 (pF a G m l A c V)/\Bx w G.F 3 (ints V.fi)/\Bx w G.K 4 (d6 V.kp)/\Bx w G.P 4 (d6 V.pr):=⟨h.prev,⟨h.bx⟩,⟨h.fi⟩,⟨h.kp⟩,⟨h.pr⟩⟩
structure Kl(G:Gc)(w w':World):Prop where
 size:w.1.size<=w'.1.size
 keep:∀b,b<w.1.size->b≠G.g->b≠G.P->(∀cs fz,w.heap[b]?≠some (.cells cs 98 fz))->w'.heap[b]?=w.heap[b]?
def Kl.of[k:aF w w']:Kl G w w':=⟨k.st.size,λb hb _ _ _=>k.st.block b hb⟩
def Kl.trans(h:Kl G w w')(k:Kl G w' u):Kl G w u:=⟨aO h.size k.size,λb hb j r y=>by
 have e:=h.keep b hb j r y;rw[k.keep b (bu hb h.size) j r (by rw[e];exact y),e]⟩
def Kl.al{cs:eL}(h:Kl G w w')(b:aB w g T cs)(j:g≠G.g)(r:g≠G.P)(u:T≠98):aB w' g T cs:=
 (h.keep g b.lt j r λy z e=>by unfold aB at b;rw[b]at e;injection e with e;injection e with _ e;exact u e).trans b
def Kl.ax(h:Kl G w w')(hg:g=G.g\/g=G.P)(i:Nat)(v:Value):Kl G w (w'.setCell (g,i) v):=
 ⟨by have:=h.size;simpa using this,λb hb j r u=>by rw[bm w' ⟨g,i,none⟩ v b (λe=>by rcases hg with hg|hg<;>simp at e<;>omega)];exact h.keep b hb j r u⟩
def fS(p w:ay)(a:tS)(G:Gc)(m l:Nat)(V:Jh):Prop:=∃A c,lG p w a G m l A c V
def fS.at(h:fS p w a G m l V)[aF w w']:fS p w' a G m l V:=by
 obtain⟨A,c,h⟩:=h;exact⟨A,c,h.at⟩
def oh(p:ay)(a:tS)(G:Gc)(m l:Nat)(V:Jh)(w:ay)(e:Ending)(w':ay):Prop:=e=.returned (.tuple #[])/\Hx (fS p w' a G m l V)/\Hx (Kl G w w')
def oj(h:Hx (fS p w a G m l V))(D:V.cd.length<=1000000)(kd id:Int):() 81 #[.pointer G.g,kd,id] w (oh p a G m l ⟨V.fi,V.kp,V.pr,V.cd++[(kd,id)]⟩ w):=by
 have M:=@aa;have N:=@aP;obtain⟨A,c,h⟩:=h.o;obtain⟨fi,kp,pr,cd⟩:=V;obtain⟨O,u,P,Q,R⟩:=h.facts;have y:bM w p.1.size A c cd:=h.cd;have z:p.1.size<=w.1.size:=ai;dsimp only at D
 go_in
 go_wp2_with (at_builtin;refine qB rfl _ _ _ rfl underlying50 rfl y kd id rfl om z ?_;intro E c3 w3 B r j;obtain⟨F,-⟩:Bx w3 G.g 172 (pF a G m l A c ⟨fi,kp,pr,cd⟩)/\True:=⟨⟨(j _ u.al.lt (y.aS u.al ak)).trans u.al⟩,bA⟩)
 have C:=h.EE B r j;have I:Kl G w w3:=⟨r.size,λb hb _ _ J=>j b hb λK e L=>by obtain⟨cs,S,ht⟩:=y.HD K e;rw[L]at ht;exact J _ _ ht⟩;rw[a1]at C;refine⟨rfl,.tuple #[],by simp[results,results81,go_sem],rfl,ae ⟨E,c3,C⟩,ae (I.ax (.inl rfl) _ _)⟩
def m9(h:Hx (fS p w a G m l V)){b:Bool}(hb:Hx (decide (65536<(V.cd.length:Int))=b)):() 84 #[.pointer G.g] w (aD w (.bool b)):=by
 have e:=@aa;obtain⟨A,c,h⟩:=h.o;obtain⟨fi,kp,pr,cd⟩:=V;obtain⟨j,r,u,y,z⟩:=h.facts
 go_in
 go_wp2_with fail
 go_ret;exact⟨by rw[<-hb.o];rfl,aK⟩
def uL(h:Hx (fS p w a G m l V))(r:V.cd.length<=1000000)(kd:Int){id:Nat}(hid:id<=m):() 134 #[.pointer G.g,kd,id] w (oh p a G m l ⟨V.fi,V.kp,V.pr.set id true,V.cd++[(kd,(id:Int))]⟩ w):=by
 have C:=@aa;have D:=@aP;obtain⟨fi,kp,pr,cd⟩:=V;have b:(id:Int)<(m:Int)+1:=by omega
 go_in
 go_upto_region 1 with(go_at_call 81;refine(oj h r kd (id:Int)).mono ?_;rintro e u ⟨rfl,y,z⟩)
 obtain⟨A,c,hS⟩:=y.o;obtain⟨E,F,I,J,K⟩:=hS.facts;obtain⟨L,j,-⟩:=gT hS.lp (show id<m+1 by omega);have B:=bO j;clear j h
 go_wp2_with fail
 exact⟨rfl,.tuple #[],by simp[results,results134,go_sem],rfl,ae ⟨A,c,hS.Bm id true⟩,ae (z.o.ax (.inr rfl) _ _)⟩
def yy(h:Hx (fS p w a G m l V))(r:V.cd.length<=1000000){id:Nat}(hid:id<=m):() 82 #[.pointer G.g,id] w (oh p a G m l ⟨V.fi,V.kp,V.pr.set id false,V.cd++[(3,(id:Int))]⟩ w):=by
 have C:=@aa;have D:=@aP;obtain⟨fi,kp,pr,cd⟩:=V;have b:(id:Int)<(m:Int)+1:=by omega
 go_in
 go_upto_region 1 with(go_at_call 81;refine(oj h r 3 (id:Int)).mono ?_;rintro e u ⟨rfl,y,z⟩)
 obtain⟨A,c,hS⟩:=y.o;obtain⟨E,F,I,J,K⟩:=hS.facts;obtain⟨L,j,-⟩:=gT hS.lp (show id<m+1 by omega);have B:=bO j;clear j h
 go_wp2_with fail
 exact⟨rfl,.tuple #[],by simp[results,results82,go_sem],rfl,ae ⟨A,c,hS.Bm id false⟩,ae (z.o.ax (.inr rfl) _ _)⟩
end
variable{G:Gc}{j:Nat}{pH:List Bool}{ru:List (Int×Int)}
abbrev jj:=List Bool×List (Int×Int)
def NT(f:Nat->Bool)(s:jj)(id:Nat):jj:=if s.1.getD id false&&f id then(s.1.set id false,s.2++[(3,(id:Int))])else s
def swp(f:Nat->Bool)(s:jj):Nat->jj
 |0=>s
 |k+1=>NT f (swp f s k) (k+1)
def gU(N:aU):Nat->Int->jj->jj
 |0,_,s=>s
 |f+1,id,s=>
  if s.1.getD id.toNat false||decide (65536<s.2.length)then s
  else(((bG N id).foldl (λs z=>gU N f z s) s).1.set id.toNat true,((bG N id).foldl (λs z=>gU N f z s) s).2++[(2,id)])
section
variable{w:World}{a:tS}{V:Jh}{N:aU}
def sS(f:Nat->Bool)(s:jj):∀k,(swp f s k).2.length<=s.2.length+k/\s.2.length<=(swp f s k).2.length/\(swp f s k).1.length=s.1.length
 |0=>by simp[swp]
 |k+1=>by
  have b:=sS f s k;rw[swp,NT]
  split
  .simp;omega
  .omega
def tT(f:Nat->Bool)(s:jj):∀k,(swp f s k).1.getD 0 false=s.1.getD 0 false
 |0=>rfl
 |k+1=>by
  have b:=tT f s k;rw[swp,NT]
  split
  .rw[<-b,aX,eZ,ag om,<-aX]
  .exact b
def pG{L:List Bool}{i:Nat}(h:L.getD j false=true):(L.set i true).getD j false=true:=by
 rw[aX]at h⊢;rw[eZ]
 split
 .rename_i e;subst e
  split
  .rfl
  .rename_i b;rw[c6 om]at h;exact h
 .exact h
def ll{α β:Type}{f:β->α->β}{I:β->Prop}:∀(L:List α) (s:β),I s->(∀s x,x∈L->I s->I (f s x))->I (L.foldl f s)
 |[],_,h,_=>h
 |x::t,s,h,hs=>ll t (f s x) (hs s x cm h) λs y b=>hs s y (dl _ b)
def tU:∀(f:Nat) (id:Int) (s:jj),s.1.getD 0 false=true->(gU N f id s).1.getD 0 false=true
 |0,_,_,h=>h
 |f+1,id,s,h=>by
  rw[gU]
  split
  .exact h
  .exact pG (ll (I:=λs:jj=>s.1.getD 0 false=true) _ s h λs x _ h=>tU f x s h)
def yz:∀(f:Nat) (id:Int) (s:jj),(gU N f id s).2.length<=max s.2.length (65537+f)/\(gU N f id s).1.length=s.1.length
 |0,_,s=>by rw[gU];omega
 |f+1,id,s=>by
  rw[gU]
  split
  .omega
  .rename_i b;simp only[B4,cu,not_or]at b;have:=ll (I:=λt:jj=>t.2.length<=max 65536 (65537+f)/\t.1.length=s.1.length) (f:=λs z=>gU N f z s) (bG N id) s om λt x _ h=>by
    have:=yz f x t;omega
   rw[a1,lO,ej];omega
def Bq{c1 c2:Value}{f:Nat->Bool}(h:Hx (fS p w a G m l ⟨fi,kp,pr,cd⟩))(hm:m<=1000)(hl:cd.length<=900000)(EG:∀args w,(callFunc g args).run prog w=.ok (.enter g args) w)
  (K:Hx (∀(u:ay) (j:List Bool) (b:List (Int×Int)) (id:Nat),1<=id->id<=m->Hx (fS p u a G m l ⟨fi,kp,j,b⟩)->Hx (Kl G w u)->() g #[id,c1,c2] u (aD u (.bool (f id)))))
    (hS:Hx (swp f (pr,cd) m=(pH,ru))):
  () 135 #[.pointer G.g,.func (.func g) #[] #[c1,c2]] w (oh p a G m l ⟨fi,kp,pH,ru⟩ w):=by
 have CB:=@aa
 go_in
 go_wp2_with fail
 go_loopw [4] (λi wr=>∃(k:Nat) (j:List Bool) (b:List (Int×Int)),k<=m/\i=.int .i64 ((k:Int)+1)/\Hx (fS p wr a G m l ⟨fi,kp,j,b⟩)/\Hx (swp f (pr,cd) k=(j,b))/\Hx (Kl G w wr)) (λi _=>m+1-(intOf i).toNat)
 .exact⟨0,pr,cd,aT _,by go_num,h,ae rfl,ae ⟨an _,λ_ _ _ _ _=>rfl⟩⟩
 ·
  clear h;obtain⟨k,j,b,hk,rfl,C,D,E⟩:=hrel;have S:b.length<=902000:=by
   have:=(sS f (pr,cd) k).1;rw[D.o]at this;dsimp only at this;omega
  obtain⟨A,c,hL⟩:=C.o;obtain⟨p9,kb,kF,kK,kP⟩:=hL.facts;have L:=hL.lp;by_cases T:k<m
  .obtain⟨U,J,z⟩:=gT (i:=k+1) L om;have X:=bO J;have Y:IntKind.i64.wrap ((k:Int)+1+1)=(k:Int)+1+1:=by rw[aV];omega
   dsimp only at z;rcases U with _|_
   .have r:Hx (swp f (pr,cd) (k+1)=(j,b)):=ae (by rw[swp,D.o,NT];simp only[z];rfl);clear J z
    go_wp2_with fail
    go_roundw
    .exact⟨k+1,j,b,om,by go_num,ae (fS.at C),r,ae (E.o.trans Kl.of)⟩
    .simp[intOf];omega
   .obtain⟨Z,y⟩:=lh (f (k+1));have B:=K.o wr j b (k+1) om om C E;rw[y]at B;have F:=ae B;clear B;rcases Z with _|_
    .have r:Hx (swp f (pr,cd) (k+1)=(j,b)):=ae (by rw[swp,D.o,NT];simp only[z,y];rfl);clear J z y K
     go_wp2_with fail
     refine(F.o).mono ?_;rintro e u ⟨rfl,_⟩
     go_wp2_with fail
     go_roundw
     .exact⟨k+1,j,b,om,by go_num,ae (fS.at C),r,ae (E.o.trans Kl.of)⟩
     .simp[intOf];omega
    .have r:Hx (swp f (pr,cd) (k+1)=(j.set (k+1) false,b++[(3,((k+1:Nat):Int))])):=ae (by rw[swp,D.o,NT];simp only[z,y];rfl);have I:((k+1:Nat):Int)=(k:Int)+1:=by omega
     clear J z y K
     go_wp2_with fail
     refine(F.o).mono ?_;rintro e u ⟨rfl,_⟩;have M:=yy (w:=u) (ae (fS.at C)) (show b.length<=1000000 by omega) (show k+1<=m by omega);rw[I]at M;have O:=ae M;clear M
     go_wp2_with (go_at_call 82;refine(O.o).mono ?_;rintro e u2 ⟨rfl,P,Q⟩)
     go_roundw
     .exact⟨k+1,j.set (k+1) false,b++[(3,(k:Int)+1)],om,by go_num,P,by rw[<-I];exact r,ae ((E.o.trans Kl.of).trans Q)⟩
     .simp[intOf];omega
  .obtain rfl:k=m:=om;have R:j=pH/\b=ru:=by have:=hS.o;rw[D.o]at this;exact en this
   obtain⟨rfl,rfl⟩:=R
   go_wp2_with fail
   exact⟨rfl,.tuple #[],by simp[results,results135,go_sem],rfl,ae (fS.at C),ae (E.o.trans Kl.of)⟩
def yA(p:ay)(a:tS)(G:Gc)(m l:Nat)(fi:av)(kp:List Bool)(N:aU)(O:av)(f:Nat):Prop:=
 ∀(w:ay) (pr:List Bool) (cd:List (Int×Int)) (id:Int),Hx (fS p w a G m l ⟨fi,kp,pr,cd⟩)->Hx (id=0\/id∈O.take f)->Hx (pr.getD 0 false=true)->cd.length<=70000->
  () 137 #[.pointer G.g,id] w (oh p a G m l ⟨fi,kp,(gU N f id (pr,cd)).1,(gU N f id (pr,cd)).2⟩ w)
def sT{id:Nat}(h:Hx (fS p w a G m l ⟨fi,kp,pr,cd⟩))(hid:id<=m)(C:cd.length<=70000)(r:Hx ((pr.getD id false||decide (65536<cd.length))=true)):() 137 #[.pointer G.g,id] w (oh p a G m l ⟨fi,kp,pr,cd⟩ w):=by
 have D:=@aa;obtain⟨A,c,hL⟩:=h.o;obtain⟨E,F,I,J,K⟩:=hL.facts;obtain⟨y,b,e⟩:=gT (i:=id) hL.lp om;have z:=bO b;have j:(id:Int)<(m:Int)+1:=by omega
 have hN:=r.o;rw[e]at hN;clear b e
 go_in
 rcases y with _|_
 .have B:Hx (decide (65536<(cd.length:Int))=true):=ae (by simp at hN⊢;omega);clear hN
  go_wp2_with (go_at_call 84;refine mv (m9 (V:=⟨fi,kp,pr,cd⟩) (ae (fS.at h)) B) λu _=>?_)
  exact⟨rfl,.tuple #[],by simp[results,results137,go_sem],rfl,ae (fS.at h),ae Kl.of⟩
 .clear hN
  go_wp2_with fail
  exact⟨rfl,.tuple #[],by simp[results,results137,go_sem],rfl,ae (fS.at h),ae Kl.of⟩
end
variable{f:Nat}{O:List Int}{L:List (List Int)}
section
variable{w:World}{a:tS}{V:Jh}{N:aU}
def yB(hN:Hx (db N O L l))[ni:aQ p a.AI a.nI a.BN m N](hs:Hx N.small)(hf:f<=1000)(ih:Hx (yA p a G m l fi kp N O f)):yA p a G m l fi kp N O (f+1):=by
 intro w pr cd id h hid h0 Y;have Z:Hx (m=N.nodes):=ni.len;have hm:m<=1000:=by rw[Z.o];exact hs.o.1
 have Q:0<=id/\id<=m:=by
  rcases hid.o with h|h
  .omega
  .have:=bn.1 (hN.o.j7.ids id (cG h));rw[<-Z.o]at this;omega
 obtain⟨q,rfl⟩:=cf Q.1;have hq:q<=m:=om;by_cases B:(pr.getD q false||decide (65536<cd.length))=true
 .have e:gU N (f+1) (q:Int) (pr,cd)=(pr,cd):=by rw[gU,ah];exact B
  rw[e];exact sT h hq Y B
 have R:=h0.o;obtain⟨CB,CP⟩:=h5;have e:gU N (f+1) (q:Int) (pr,cd)=(((bG N (q:Int)).foldl (λs z=>gU N f z s) (pr,cd)).1.set q true,((bG N (q:Int)).foldl (λs z=>gU N f z s) (pr,cd)).2++[(2,(q:Int))]):=by
  rw[gU,ag]
  .rfl
  .exact B
 rw[e];simp only[B4,cu,not_or]at B;have LM:q≠0:=λe=>by subst e;exact B.1 h0.o
 have C:(q:Int)∈O.take (f+1):=by
  rcases hid.o with h|h
  .omega
  .exact h
 obtain⟨t,rfl⟩:∃t,q=t+1:=⟨q-1,om⟩;have xR:t<m:=om;obtain⟨b0,q0,o,A1,n1,c1,I,M,ci,ins,P,np,cp,ps,hBN,ob,⟨v0,v1,v2,v3,v4,v5,v6,v7,v8,IV⟩,s1,si,sp,l1,li,lp,ik,D⟩:=ni.node xR;have y:bG N ((t+1:Nat):Int)=ins:=by rw[bG,show(((t+1:Nat):Int)-1).toNat=t from om,D.o];rfl
 have Aq:Hx (∀z∈ins,(z=0\/z∈O.take f)/\0<=z/\z<=m):=λz hz=>by
  obtain⟨j,hj,hjO⟩:=m6 C;have S:=hN.o.jS _ (aC D.o) z hz;rw[<-Z.o]at S;refine⟨?_,S⟩;rcases hN.o.sN hjO z (by rw[y];exact hz)with h|h
  .exact .inl h
  .obtain⟨i,hi,hiO⟩:=m6 h;exact .inr (Bj om hiO)
 have vp:M<=1000:=by have:=hs.o.2 _ (aC D.o);rw[si.len];exact this
 have HI:Hx (M=ins):=si.len;obtain⟨A,c,hL⟩:=h.o;obtain⟨p9,kb,kF,kK,kP⟩:=hL.facts;obtain⟨pb,e1,e2⟩:=gT (i:=t+1) hL.lp om;obtain rfl:pb=false:=by
  rw[<-e2];cases hx:pr.getD (t+1) false with
  |false=>rfl
  |true=>exact absurd hx B.1
 have Ap:=bO e1;have T:((t+1:Nat):Int)<(m:Int)+1:=by omega
 have Ry:Hx (decide (65536<(cd.length:Int))=false):=ae (by have:=B.2;simp;omega);have hcd:cd.length<=65536:=om;have E:((t+1:Nat):Int)=(t:Int)+1:=by omega
 have w2:(t:Int)+1-1=t:=by omega
 rw[y];have Nz:Hx (∀(u:ay) (r:List Bool) (b:List (Int×Int)),Hx (fS p u a G m l ⟨fi,kp,r,b⟩)->b.length<=1000000->() 134 #[.pointer G.g,(2:Int),.int .i64 ((t:Int)+1)] u (oh p a G m l ⟨fi,kp,r.set (t+1) true,b++[(2,(t:Int)+1)]⟩ u)):=λu r b h Y=>by
  have:=uL h Y 2 (show t+1<=m by omega);rwa[E]at this
 rw[E]at T⊢;clear B e e1 e2 Q C y hid LM E
 go_in
 go_upto_region 2 with(go_at_call 84;refine mv (m9 (V:=⟨fi,kp,pr,cd⟩) (ae (fS.at h.o)) Ry) λu _=>?_)
 have U:Hx (∀k,((ins.take k).foldl (λs z=>gU N f z s) (pr,cd)).1.getD 0 false=true/\((ins.take k).foldl (λs z=>gU N f z s) (pr,cd)).2.length<=65537+f):=λk=>
  ll (I:=λs:jj=>s.1.getD 0 false=true/\s.2<=65537+f) _ _ ⟨R,by show cd.length<=65537+f;omega⟩ λs x _ hs=>⟨tU f x s hs.1,by have:=(yz (N:=N) f x s).1;omega⟩
 clear R;go_loopw [28] (λi wr=>∃(k:Nat) (r:List Bool) (b:List (Int×Int)),k<=M/\i=.int .i64 k/\Hx (fS p wr a G m l ⟨fi,kp,r,b⟩)/\Hx ((ins.take k).foldl (λs z=>gU N f z s) (pr,cd)=(r,b))/\Hx (Kl G w wr)) (λi _=>M-(intOf i).toNat)
 .exact⟨0,pr,cd,aT _,rfl,ae (fS.at h.o),ae rfl,ae Kl.of⟩
 ·
  clear h kb kF kK kP p9 Ap hL;obtain⟨k,r,b,hk,rfl,HL,HS,HK⟩:=hrel;obtain⟨A',c',hL⟩:=HL.o;have p9:=hL.prev;have F:=(U.o k).1;have X:=(U.o k).2;rw[HS.o]at F X;have ri:=ae F;dsimp only at X;clear F hL;by_cases bK:k<M
  .obtain⟨b2,q2,z,rfl,jf,vz,ez⟩:=si.get bK;have HZ:Hx (z=0\/z∈O.take f):=(Aq.o z (aC ez.o)).1;have HF:=ae (ih.o wr r b z HL HZ ri om);have xS:Hx ((ins.take (k+1)).foldl (λs z=>gU N f z s) (pr,cd)=((gU N f z (r,b)).1,(gU N f z (r,b)).2)):=ae (by rw[take_at ez.o,nr,HS.o];rfl)
   go_wp2_with (go_at_call 137;refine(HF.o).mono ?_;rintro e u2 ⟨rfl,J,K⟩)
   go_roundw
   .exact⟨k+1,_,_,om,by go_num,J,xS,ae (HK.o.trans K)⟩
   .simp[intOf];omega
  .obtain rfl:k=M:=om;have FR:Hx (ins.foldl (λs z=>gU N f z s) (pr,cd)=(r,b)):=ae (by have:=HS.o;rwa[bR (by rw[<-HI.o];exact an _)]at this);have vk:=ae (Nz.o wr r b HL om)
   go_wp2_with (go_at_call 134;refine(vk.o).mono ?_;rintro e u2 ⟨rfl,J,K⟩)
   refine⟨rfl,.tuple #[],by simp[results,results137,go_sem],rfl,?_,ae (HK.o.trans K)⟩;rw[FR.o];exact J
def sU(hN:Hx (db N O L l))[aQ p a.AI a.nI a.BN m N](hs:Hx N.small):∀f,f<=1001->yA p a G m l fi kp N O f
 |0,_=>λw pr cd id h hid b e=>by
  obtain rfl:id=0:=by
   rcases hid.o with h|h
   .exact h
   .simp at h
  exact sT (id:=0) h (aT _) e (ae (by show(pr.getD 0 false||decide (65536<cd.length))=true;rw[b.o];rfl))
 |f+1,hf=>yB hN hs om (ae (sU hN hs f om))
end
variable{R b2 q:Nat}{La:List Int}
def uM(kp:List Bool)(l:Nat)(b:av)(i id:Nat):Bool:=!kp.getD id false&&(decide (id≠l)&&decide (b.getD id 0<=(i:Int)+1))
def yC(kp:List Bool)(fi:av)(q id:Nat):Bool:=!kp.getD id false||decide ((q:Int)<=fi.getD id 0)
section
variable{w:World}{a:tS}
def Rz(h:Hx (fS p u a G m l ⟨fi,kp,pr,cd⟩))[E:Sl p a.AL (m+1) La][Bx u R 168 #[.pointer G.g]][Bx u b2 3 #[i]](hi:i<=100000){id:Nat}(N:id<=m){b:Bool}(hb:Hx (uM kp l La i id=b)):
  () 136 #[id,.pointer R,.pointer b2] u (aD u (.bool b)):=by
 obtain⟨O,P⟩:=h5;obtain⟨A,c,hL⟩:=h.o;obtain⟨Q,S,T,U,V⟩:=hL.facts;obtain⟨r,y,B⟩:=gT (i:=id) hL.lk om;have F:=bO y;have C:(id:Int)<(m:Int)+1:=by omega
 obtain⟨X,Y,z,I,J,v3,K⟩:=E.get (k:=id) om;have w1:IntKind.i64.wrap ((i:Int)+1)=(i:Int)+1:=by rw[aV];omega
 have e:=hb.o;rw[uM,B,f8 K.o]at e;clear y B
 go_in
 rcases r with _|_
 .by_cases j:id=l
  .have L:((id:Int) !=(l:Int))=false:=by simp[j]
   obtain rfl:false=b:=by rw[<-e];simp[j]
   clear e j
   go_upto_region 1 with fail
   refine am aq (λD _=>?_);refine qL [0,1,2,3,4,5,6,7,8,9,10,11,12,13,14,15,16,517,518,519,520,521,522,523,524,525,526,27,28] ?_;refine aZ ?_
   go_wp2_with fail
   go_ret;exact bq
  .have L:((id:Int) !=(l:Int))=true:=by simp;omega
   have M:Hx (decide (z<=(i:Int)+1)=b):=ae (by rw[<-e];simp[j]);clear e j
   go_upto_region 1 with fail
   refine am aq (λD _=>?_);refine qL [0,1,2,3,4,5,6,7,8,9,10,11,12,13,14,15,16,17,18,19,20,21,22,23,24,25,26,27,28] ?_;refine aZ ?_
   go_wp2_with fail
   go_ret;exact⟨by rw[<-M.o];rfl,aK⟩
 .obtain rfl:false=b:=by rw[<-e];rfl
  clear e
  go_upto_region 1 with fail
  refine am aq (λD _=>?_);refine qL [0,1,2,3,4,5,6,7,8,509,510,511,512,513,514,15,16,517,518,519,520,521,522,523,524,525,526,27,28] ?_;refine aZ ?_
  go_wp2_with fail
  go_ret;exact bq
def RA(h:Hx (fS p u a G m l ⟨fi,kp,pr,cd⟩))[Bx u R 168 #[.pointer G.g]][Bx u b2 3 #[q]]{id:Nat}(J:id<=m){b:Bool}(hb:Hx (yC kp fi q id=b)):
  () 138 #[id,.pointer R,.pointer b2] u (aD u (.bool b)):=by
 have K:=@aa;obtain⟨A,c,hL⟩:=h.o;obtain⟨L,M,N,O,P⟩:=hL.facts;obtain⟨j,y,B⟩:=gT (i:=id) hL.lk om;have D:=bO y;have C:(id:Int)<(m:Int)+1:=by omega
 obtain⟨z,r⟩:∃z,fi[id]?=some z:=⟨_,List.getElem?_eq_getElem (by have:=hL.lf;dsimp only at this;omega)⟩;have E:(ints fi)[id]?=some (.int .i64 z):=by rw[eu,r];rfl
 have e:=hb.o;rw[yC,B,f8 r]at e;clear y B r
 go_in
 rcases j with _|_
 .obtain rfl:true=b:=by rw[<-e];rfl
  clear e
  go_upto_region 1 with fail
  refine am aq (λF _=>?_);refine qL [0,1,2,3,4,5,6,7,8,509,510,511,512,513,514,515,516,517,18,19] ?_;refine aZ ?_
  go_wp2_with fail
  go_ret;exact bq
 .have I:Hx (decide ((q:Int)<=z)=b):=ae (by rw[<-e];rfl);clear e
  go_upto_region 1 with fail
  refine am aq (λF _=>?_);refine qL [0,1,2,3,4,5,6,7,8,9,10,11,12,13,14,15,16,17,18,19] ?_;refine aZ ?_
  go_wp2_with fail
  go_ret;exact⟨by rw[<-I.o];rfl,aK⟩
def abm[Sl p a.AL (m+1) La](k1:aB u R 168 #[.pointer G.g])(k2:aB u b2 3 #[i])(n1:R≠G.g/\R≠G.P)(n2:b2≠G.g/\b2≠G.P)(hi:i<=100000):
  Hx (∀(b:ay) (e:List Bool) (j:List (Int×Int)) (id:Nat),1<=id->id<=m->Hx (fS p b a G m l ⟨fi,kp,e,j⟩)->Hx (Kl G u b)->() 136 #[.int .i64 (id:Int),.pointer R,.pointer b2] b (aD b (.bool (uM kp l La i id)))):=
 ae λb e j id _ y h r=>by
  have:Bx b R 168 #[.pointer G.g]:=⟨r.o.al k1 n1.1 n1.2 ak⟩;have:Bx b b2 3 #[i]:=⟨r.o.al k2 n2.1 n2.2 ak⟩;exact Rz h hi y rfl
def abn(k1:aB u R 168 #[.pointer G.g])(k2:aB u b2 3 #[q])(n1:R≠G.g/\R≠G.P)(n2:b2≠G.g/\b2≠G.P):
  Hx (∀(b:ay) (e:List Bool) (j:List (Int×Int)) (id:Nat),1<=id->id<=m->Hx (fS p b a G m l ⟨fi,kp,e,j⟩)->Hx (Kl G u b)->() 138 #[.int .i64 (id:Int),.pointer R,.pointer b2] b (aD b (.bool (yC kp fi q id)))):=
 ae λb e j id _ y h r=>by
  have:Bx b R 168 #[.pointer G.g]:=⟨r.o.al k1 n1.1 n1.2 ak⟩;have:Bx b b2 3 #[q]:=⟨r.o.al k2 n2.1 n2.2 ak⟩;exact RA h y rfl
end
def oN(m:Nat)(kp:List Bool)(l:Nat)(b:av):List Int->Nat->jj->jj
 |[],_,s=>s
 |id::r,i,s=>oN m kp l b r (i+1) (swp (uM kp l b i) (s.1.set id.toNat true,s.2++[(1,id)]) m)
section
variable{w:World}{a:tS}
def fS.ne(h:fS p u a G m l ⟨fi,kp,pr,cd⟩)(hg:u<=g):g≠G.g/\g≠G.P:=by
 obtain⟨A,c,h⟩:=h;have b:=h.bx.lt;have e:=h.pr.lt;omega
def uN(h:Hx (fS p w a G m l ⟨fi,kp,pr,cd⟩))(L:1<=m)(hm:m<=512)(hl:cd.length<=10)[M:Sl p a.AO m O][Sl p a.AL (m+1) La](hO:Hx (∀id∈O,1<=id/\id<=m))(hF:Hx (oN m kp l La O 0 (pr,cd)=(pH,ru))):
  () 80 #[.pointer G.g] w (oh p a G m l ⟨fi,kp,pH,ru⟩ w):=by
 obtain⟨CB,CP,FB⟩:=ha;have N:Hx (m=O):=M.len;obtain⟨b9,q9,z9,P,QT,-⟩:=M.get (k:=0) L
 go_in
 go_upto_region 1 with fail
 refine aw (λu _ Q=>?_);have B:=ae (h.o.at (w':=u));have y:=h.o.ne (an _);obtain⟨A0,c0,F⟩:=B.o;obtain⟨p9,kb,-⟩:=F.facts
 go_upto_region 2 with fail
 go_loopw [9] (λi wr=>∃(j:Nat) (r:List Bool) (b:List (Int×Int)),j<=m/\i=.int .i64 j/\Hx (fS p wr a G m l ⟨fi,kp,r,b⟩)/\Hx (oN m kp l La (O.drop j) j (r,b)=(pH,ru))/\Hx (Kl G u wr)/\Hx (b<=10+j*513)) (λi _=>m-(intOf i).toNat)
 .exact⟨0,pr,cd,aT _,rfl,B,hF,ae Kl.of,ae om⟩
 ·
  clear B hF kb p9 F;obtain⟨j,r,b,hj,rfl,B,HS,S,HC⟩:=hrel;obtain⟨A',c',hL⟩:=B.o;have p9:=hL.prev;have k1:Bx wr w.1.size 168 #[.pointer G.g]:=⟨S.o.al Q.al y.1 y.2 ak⟩;clear hL;by_cases T:j<m
  .obtain⟨b8,q8,id,I,ob8,v9,J⟩:=M.get T;rw[P]at I;cases I;obtain⟨U,X⟩:=hO.o id (aC J.o);obtain⟨q,rfl⟩:=cf (show 0<=id by omega);have hq:q<=m:=om;have wW:b.length<=270000:=by have:=HC.o;have:j*513<=512*513:=hZ _ om;omega
   obtain⟨⟨K,C⟩,z⟩:=lh (swp (uM kp l La j) (r.set q true,b++[(1,(q:Int))]) m);have Y:=ae z;have Z:Hx (oN m kp l La (O.drop (j+1)) (j+1) (K,C)=(pH,ru)):=ae (by
    have h:=HS.o;obtain⟨h1,h2⟩:=a5.1 J.o;rw[ei h1,h2,oN,bI,z]at h;exact h)
   have vk:Hx (C<=10+(j+1)*513):=ae (by
    have h:=(sS (uM kp l La j) (r.set q true,b++[(1,(q:Int))]) m).1;rw[z]at h;simp only[a1,lO]at h;have:=HC.o;rw[rP];omega)
   have D:=B.o.ne (an _);clear z U X
   go_wp2_with (first|(go_at_call 134;(with_reducible refine dO (λu0 _ k2=>?_));(with_reducible refine(uL (V:=⟨fi,kp,r,b⟩) (ae (B.o.at (w':=u0))) (show b.length<=1000000 by omega) 1 hq).mono ?_);rintro e u1 ⟨rfl,RB,E⟩;have k3:=E.o.al k2.al D.1 D.2 ak;have k4:=E.o.al (k1.al.at (w':=u0)) y.1 y.2 ak;obtain⟨kx3,kx4⟩:Bx u1 wr.1.size 3 #[j]/\Bx u1 w.1.size 168 #[.pointer G.g]:=⟨⟨k3⟩,⟨k4⟩⟩;have NU:=abm (p:=p) (a:=a) (G:=G) (m:=m) (l:=l) (fi:=fi) (kp:=kp) (La:=La) k4 k3 y D (show j<=100000 by omega))|(go_at_call 135;refine(Bq (g:=136) RB om bY (enters_of func136 aq rfl) NU Y).mono ?_;rintro e u2 ⟨rfl,UT,kR⟩))
   go_roundw
   .exact⟨j+1,K,C,om,by go_num,UT,Z,ae (((S.o.trans Kl.of).trans E).trans kR),vk⟩
   .simp[intOf];omega
  .obtain rfl:j=m:=om;have DE:r=pH/\b=ru:=by
    have h:=HS.o;rw[ey (by rw[<-N.o];exact an _)]at h;exact en h
   obtain⟨rfl,rfl⟩:=DE
   go_wp2_with fail
   refine⟨rfl,.tuple #[],by simp[results,results80,go_sem],rfl,ae (fS.at B),ae (Kl.of.trans S)⟩
end
variable{b:Nat}{z:Int}
def W7(N:aU)(id:Int)(s:jj):jj:=(((bG N id).foldl (λs z=>gU N 1001 z s) s).1,((bG N id).foldl (λs z=>gU N 1001 z s) s).2++[(6,id)])
def uO(N:aU)(m:Nat)(kp:List Bool)(fi O:av):Nat->jj->jj
 |0,s=>s
 |q+1,s=>if 65536<s.2.length then s else uO N m kp fi O q (swp (yC kp fi (q+1)) (W7 N (O.getD q 0) s) m)
def RC(w:ay)(t:Value):Nat:=
 match t with
 |.pointer (some ad)=>match w.cell? ad with
  |some v=>(intOf v).toNat
  |none=>0
 |_=>0
def Br{w:ay}(h:aB w b T #[z]):RC w (.pointer b)=z.toNat:=by
 have:=h.cell 0;simp at this;simp[RC,this,intOf]
section
variable{w:World}{a:tS}{N:aU}
def sV(hN:Hx (db N O L l))[ni:aQ p a.AI a.nI a.BN m N](hs:Hx N.small)(h:Hx (fS p w a G m l ⟨fi,kp,pr,cd⟩))(pm:1<=m)(hm:m<=512)[sO:Sl p a.AO m O](h0:Hx (pr.getD 0 false=true))(hF:Hx (uO N m kp fi O m (pr,cd)=(pH,ru))):
  () 83 #[.pointer G.g] w (oh p a G m l ⟨fi,kp,pH,ru⟩ w):=by
 obtain⟨CB,CP,FB⟩:=ha;have HM:Hx (m=N.nodes.length):=ni.len;have xk:Hx (m=O.length):=sO.len;have vu:Hx (∀id∈O,1<=id/\id<=m):=ae λid hid=>by have:=bn.1 (hN.o.j7.ids id hid);rw[<-HM.o]at this;exact this
 have HFO:=ae (sU (p:=p) (a:=a) (G:=G) (m:=m) (fi:=fi) (kp:=kp) hN hs 1001 (an _));obtain⟨b9,q9,z9,hAO,QT,-⟩:=sO.get (k:=0) pm;obtain⟨b0,q0,-,-,-,-,-,-,-,-,-,-,-,-,hBN,YF,-⟩:=ni.node pm
 go_in
 go_upto_region 1 with fail
 refine aw (λu _ VM=>?_);have F:=ae (h.o.at (w':=u));have C:=h.o.ne (an _);have r:=F.o.ne (an _);obtain⟨A0,c0,U9⟩:=F.o;obtain⟨p9,kb,-⟩:=U9.facts;clear U9
 go_upto_region 2 with fail
 refine aw (λv _ ty=>?_);go_loopw [2] (λt wr=>∃(q b2:Nat) (j:List Bool) (b:List (Int×Int)),q<=m/\t=.pointer b2/\Bx wr b2 3 #[q]/\Hx (b2≠G.g/\b2≠G.P)/\Hx (fS p wr a G m l ⟨fi,kp,j,b⟩)/\Hx (uO N m kp fi O q (j,b)=(pH,ru))/\Hx (Kl G u wr)/\Hx (j.getD 0 false=true)) (λt wr=>RC wr t)
 .exact⟨m,_,pr,cd,an _,rfl,ty,ae r,ae (F.o.at (w':=v)),hF,ae Kl.of,h0⟩
 ·
  clear F hF kb p9 r h0;obtain⟨q,b2,j,b,hq,rfl,k2,Z7,F,HS,HK,H0⟩:=hrel;obtain⟨A',c',hL⟩:=F.o;obtain⟨p9,kb,-⟩:=hL.facts;clear hL;have k1:Bx wr w.1.size 168 #[.pointer G.g]:=⟨HK.o.al VM.al.at C.1 C.2 ak⟩;have hex:∀(x:ay),aj x wr->j=pH->b=ru->fS p x a G m l ⟨fi,kp,pH,ru⟩/\Kl G w x:=λx _ e1 e2=>by
   subst e1 e2;exact⟨F.o.at,(Kl.of.trans HK).trans Kl.of⟩
  have HEX:=ae hex;clear hex;by_cases Nv:q=0
  .subst Nv;obtain⟨e1,e2⟩:j=pH/\b=ru:=en HS;have t1:decide ((1:Int)<=((0:Nat):Int))=false:=by decide
   go_wp2_with fail
   obtain⟨g1,g2⟩:=HEX.o wr ⟨aY _ _⟩ e1 e2;exact⟨rfl,.tuple #[],by simp[results,results83,go_sem],rfl,ae g1,ae g2⟩
  .obtain⟨q,rfl⟩:∃t,q=t+1:=⟨q-1,om⟩;have t1:decide ((1:Int)<=((q+1:Nat):Int))=true:=by simp;omega
   obtain⟨mb,ce⟩:=lh (decide (65536<(b.length:Int)));have EO:=ae ce;rcases mb with _|_
   .have hcd:b.length<=65536:=by have:=of_decide_eq_false ce;omega
    obtain⟨b8,q8,id,hA8,ob8,v9,xQ⟩:=sO.get (k:=q) om;rw[hAO]at hA8;cases hA8;obtain⟨Dw,Dx⟩:=vu.o id (aC xQ.o);obtain⟨t,ht⟩:=cf (show 0<=id-1 by omega);obtain rfl:id=(t:Int)+1:=by omega
    have xR:t<m:=om;have w3:IntKind.i64.wrap (q:Int)=(q:Int):=by rw[aV];omega
    have w4:(q:Int)<(m:Int):=by omega
    have w2:(t:Int)+1-1=t:=by omega
    obtain⟨b7,q7,o,A1,n1,c1,I,nn,ci,ins,P,np,cp,ps,hB7,ZP,⟨v0,v1,v2,v3,v4,v5,v6,v7,v8,IV⟩,s1,si,sp,l1,li,lp,ik,S⟩:=ni.node xR;rw[hBN]at hB7;cases hB7;have vp:nn<=1000:=by have:=hs.o.2 _ (aC S.o);rw[si.len];exact this
    have HI:Hx (nn=ins.length):=si.len;have M:bG N ((t:Int)+1)=ins:=by rw[bG,show((t:Int)+1-1).toNat=t from by omega,S.o];rfl
    have Aq:Hx (∀z∈ins,z=0\/z∈O.take 1001):=λz hz=>by
     have tr:=hN.o.jS _ (aC S.o) z hz;by_cases e:z=0
     .exact .inl e
     .right;rw[bR (by rw[<-xk.o];omega)];exact hN.o.mem.2 (bn.2 om)
    have xS:Hx (uO N m kp fi O q (swp (yC kp fi (q+1)) (((ins.foldl (λs z=>gU N 1001 z s) (j,b)).1),((ins.foldl (λs z=>gU N 1001 z s) (j,b)).2)++[(6,(t:Int)+1)]) m)=(pH,ru)):=ae (by
     have D:=HS.o;rw[uO,ag (by show¬65536<b.length;omega),f8 xQ.o,W7,M]at D;exact D)
    have HP0:Hx (∀k,((ins.take k).foldl (λs z=>gU N 1001 z s) (j,b)).1.getD 0 false=true/\((ins.take k).foldl (λs z=>gU N 1001 z s) (j,b)).2.length<=66538):=λk=>
     ll (I:=λs:jj=>s.1.getD 0 false=true/\s.2.length<=66538) _ _ ⟨H0,by show b.length<=66538;omega⟩ λs x _ hs=>⟨tU 1001 x s hs.1,by have:=(yz (N:=N) 1001 x s).1;omega⟩
    have r:=Z7.o;clear ht Dw Dx M ce HS
    go_upto_region 4 with(go_at_call 84;refine mv (m9 (V:=⟨fi,kp,j,b⟩) (ae (F.o.at (w':=wr))) EO) λu5 _=>?_)
    refine am aq (λu6 _=>?_);refine qL [0,1,2,3,4,5,6,7,8] ?_;refine aZ ?_
    go_upto_region 6 with fail
    have HL6:=ae (F.o.at (w':=u6));have T:Hx (Kl G wr u6):=Kl.of;clear kb p9;go_loopw [39] (λi wy=>∃(k:Nat) (B:List Bool) (y:List (Int×Int)),k<=nn/\i=.int .i64 k/\Hx (fS p wy a G m l ⟨fi,kp,B,y⟩)/\Hx ((ins.take k).foldl (λs z=>gU N 1001 z s) (j,b)=(B,y))/\Hx (Kl G u6 wy)) (λi _=>nn-(intOf i).toNat)
    .exact⟨0,j,b,aT _,rfl,HL6,ae rfl,ae Kl.of⟩
    ·
     obtain⟨k,B,y,hk,rfl,U,X,J⟩:=hrel;obtain⟨A3,c3,hL3⟩:=U.o;have p9:=hL3.prev;have Y:=(HP0.o k).1;have lD:=(HP0.o k).2;rw[X.o]at Y lD;have ri:=ae Y;dsimp only at lD;have k1y:Bx wr w.1.size 168 #[.pointer G.g]:=⟨((T.o.trans J).al k1.al C.1 C.2 ak)⟩;have k2y:Bx wr b2 3 #[.int .i64 ((q+1:Nat):Int)]:=⟨((T.o.trans J).al k2.al r.1 r.2 ak)⟩;clear Y hL3;by_cases bK:k<nn
     .obtain⟨b4,q4,z,rfl,Z8,vz,ez⟩:=si.get bK;have HZ:Hx (z=0\/z∈O.take 1001):=Aq.o z (aC ez.o);have HF:=ae (HFO.o wr B y z U HZ ri om);have HS4:Hx ((ins.take (k+1)).foldl (λs z=>gU N 1001 z s) (j,b)=((gU N 1001 z (B,y)).1,(gU N 1001 z (B,y)).2)):=ae (by rw[take_at ez.o,nr,X.o];rfl)
      go_wp2_with (go_at_call 137;refine(HF.o).mono ?_;rintro e u7 ⟨rfl,Z,E⟩)
      go_roundw
      .exact⟨k+1,_,_,om,by go_num,Z,HS4,ae (J.o.trans E)⟩
      .simp[intOf];omega
     .obtain rfl:k=nn:=om;have Q:ins.foldl (λs z=>gU N 1001 z s) (j,b)=(B,y):=by have:=X.o;rwa[bR (by rw[<-HI.o];exact an _)]at this
      have D:=xS.o;rw[Q]at D;dsimp only at D;obtain⟨⟨pr4,cd4⟩,K⟩:=lh (swp (yC kp fi (q+1)) (B,y++[(6,(t:Int)+1)]) m);rw[K]at D;have rv:=ae D;have HSW:=ae K;have HZ4:Hx (pr4.getD 0 false=true):=ae (by
       have:=tT (yC kp fi (q+1)) (B,y++[(6,(t:Int)+1)]) m;rw[K]at this;exact this.trans ri)
      clear K D Q
      go_wp2_with (first|(go_at_call 81;refine(oj U (show y.length<=1000000 by omega) 6 ((t:Int)+1)).mono ?_;rintro e u7 ⟨rfl,Z,E⟩;obtain⟨k1z,k2z⟩:Bx u7 w.1.size 168 #[.pointer G.g]/\Bx u7 b2 3 #[.int .i64 ((q+1:Nat):Int)]:=⟨⟨E.o.al k1y.al C.1 C.2 ak⟩,⟨E.o.al k2y.al r.1 r.2 ak⟩⟩;have NU:=abn (p:=p) (a:=a) (G:=G) (m:=m) (l:=l) (fi:=fi) (kp:=kp) k1z.al k2z.al C r)|(go_at_call 135;refine(Bq (g:=138) Z om bY (enters_of func138 aq rfl) NU HSW).mono ?_;rintro e u8 ⟨rfl,HL8,Z9⟩;have k2w:Bx u8 b2 3 #[.int .i64 ((q+1:Nat):Int)]:=⟨Z9.o.al k2z.al r.1 r.2 ak⟩))
      exact⟨⟨q,u8.1.size,pr4,cd4,om,rfl,Bx.new,ae (HL8.o.ne (an _)),ae (HL8.o.at),rv,ae ((((((HK.o.trans T).trans J).trans E).trans Z9)).trans Kl.of),HZ4⟩,by rw[Br Bx.new.al,Br k2.al];omega⟩
   .obtain⟨e1,e2⟩:j=pH/\b=ru:=by
     have D:=HS.o;rw[uO,ah (by have:=nm ce;show 65536<b.length;omega)]at D;exact en D
    clear ce
    go_wp2_with (go_at_call 84;refine mv (m9 (V:=⟨fi,kp,j,b⟩) (ae (F.o.at (w':=wr))) EO) λu5 _=>?_)
    obtain⟨g1,g2⟩:=HEX.o u5 ao e1 e2;exact⟨rfl,.tuple #[],by simp[results,results83,go_sem],rfl,ae g1,ae g2⟩
end
variable{w0:World}{B:Option Addr}{d:Nat}{D:List Int}{E:Int}
structure pI(w0 w:World)(t:Nat)(T:TypeId)(cs:Array Value)(gs:List (Nat×TypeId×Array Value)):Prop where
 pr:aj w w0
 box:aB w t T cs
 bs:∀x∈gs,aB w x.1 x.2.1 x.2.2
 nd:(t::gs.map (·.1)).Nodup
 ge:∀x∈gs,w0.1.size<=x.1
 ht:w0<=t
def qf(q:Nat)(ins:av)(L:av):List Int:=ins.foldl (λL z=>L.set z.toNat (q:Int)) L
def hX(N:aU)(O:av):Nat->List Int->List Int
 |0,L=>L
 |q+1,L=>hX N O q (qf (q+1) (bG N (O.getD q 0)) L)
section
variable{w:World}{n t:Nat}{U:TypeId}{cs:Array Value}{gs:List (Nat×TypeId×Array Value)}{N:aU}
theorem pI.bx(h:pI w0 w t T cs gs):Bx w t T cs:=⟨h.box⟩
def pI.at[l:aF w w'](h:pI w0 w t T cs gs):pI w0 w' t T cs gs:=⟨⟨dW h.pr.st l.st⟩,h.box.at,λx b=>(h.bs x b).at,h.nd,h.ge,h.ht⟩
def pI.mk'[aj w' w](h:pI w0 w t T cs gs)(k:aB w' w.1.size U ds):pI w0 w' t T cs ((w.1.size,U,ds)::gs):=by
 have b:=h.at (w':=w');refine⟨b.pr,b.box,λx hx=>?_,?_,λx hx=>?_,h.ht⟩
 .rcases bT.1 hx with rfl|hx
  .exact k
  .exact b.bs x hx
 .have j:=h.nd;rw[qN]at j;rw[dX,qN,qN];refine⟨λhm=>?_,λhm=>?_,j.2⟩
  .rcases bT.1 hm with e|hm
   .have:=h.box.lt;rw[e]at this;exact kt _ this
   .exact j.1 hm
  .obtain⟨x,hx,e⟩:=bC.1 hm;have:=(h.bs x hx).lt;rw[e]at this;exact kt _ this
 .rcases bT.1 hx with rfl|hx
  .exact h.pr.st.size
  .exact h.ge x hx
def pI.set(h:pI w0 w t T cs gs)(i:Nat)(v:Value):pI w0 (w.setCell (t,i) v) t T (cs.setIfInBounds i v) gs:=
 ⟨⟨h.pr.st.setCell (p:=⟨t,i,none⟩) h.ht _⟩,h.box.ax i v,λx b=>(h.bs x b).a9 (λe=>(qN.1 h.nd).1 (by have j:x.1=t:=e;rw[<-j];exact bC.2 ⟨x,b,rfl⟩)) _,h.nd,h.ge,h.ht⟩
def pI.fin{a:tS}{F K P:Nat}{f g:List Bool}(h:pI w0 w t 172 (pF a ⟨t,F,K,P⟩ m l none 0 ⟨D,f,g,[]⟩) gs)(b:(F,3,ints D)∈gs)(e:(K,4,d6 f)∈gs)(j:(P,4,d6 g)∈gs)(r:K≠P)(y:D=m+1)(lf:f=m+1)(lg:g=m+1):lG w0 w a ⟨t,F,K,P⟩ m l none 0 ⟨D,f,g,[]⟩:=
 ⟨h.pr,h.box,h.bs _ b,h.bs _ e,h.bs _ j,bM.nil _ _,r,h.ht,h.ge _ b,h.ge _ e,h.ge _ j,y,lf,lg⟩
def NV[aQ w A n B m N](j:Hx N.fits)(hs:Hx N.small)(hE:Hx (a6 N=E)){W:av}(hV:Hx (pD N=W)){x:Nat}(r:Hx (W=x)):
  () 133 #[.agg #[.slice A n c,(B,m,d)]] w λe w'=>∃A c,e=.returned (.tuple #[.slice A x c,E])/\Sl w' A x W/\az w' w.1.size 3 A c W/\aj w' w:=by
 obtain rfl:=r.o;exact(Rr j hs hE hV).mono λe w' ⟨A,c,y,b,z⟩=>⟨A,c,y,⟨b.rd,rfl⟩,b,z⟩
def VN(w:ay)(N:aU)(O La:av)(l m:Nat)(e:Ending)(w':ay):Prop:=
 ∃(p:ay) (a:tS) (G:Gc),e=.returned (.tuple #[.pointer G.g,au])/\aj p w/\aQ p a.AI a.nI a.BN m N/\Sl p a.AO m O/\Sl p a.AL (m+1) La/\
  Hx (fS p w' a G m l ⟨hX N O m (List.replicate (m+1) 0),List.replicate (m+1) false,(List.replicate (m+1) false).set 0 true,[]⟩)
def DK[aQ w A n B m N](C:Hx N.fits)(hs:Hx N.small)(b:Hx (a6 N=E))(z:E≠0):() 79 #[.agg #[(A,n,c),(B,m,d)]] w (aD w (.tuple #[.pointer none,E])):=by
 have D:=@aa;obtain⟨⟨O,L,l⟩,j⟩:=lC (dh N);obtain⟨y,r⟩:=lC O.length;have F:(E !=0)=true:=by simp[z]
 clear z
 go_in
 go_wp2_with (go_at_call 60;(with_reducible refine(io C hs b j r).mono ?_);rintro e u ⟨AO,cO,rfl,G,I,J⟩)
 go_ret2;exact bq
def NW[a:aQ w A n B m N](hf:Hx N.fits)(hs:Hx N.small)(G:Hx (a6 N=0))(hN:Hx (db N O L l))(X:Hx (dh N=(O,L,(l:Int))))(Y:Hx (pD N=La))(hm:m<=512):
  () 79 #[.agg #[(A,n,c),(B,m,d)]] w (VN w N O La l m):=by
 obtain⟨CB,CP,FB⟩:=ha;have Z:Hx (m=N.nodes):=a.len;have xk:Hx (O=m):=ae (by rw[hN.o.sM,Z.o]);have Gd:Hx (La=m+1):=ae (by
  rw[<-Y.o,pD,ah G.o,yh,fg,Z.o])
 have RD:∀W:World,(Instr.makeSlice 24 ((m:Int)+1:Int) ((m:Int)+1:Int)).run prog W=.ok (.slice (some ⟨W.1.size,0,none⟩) (m+1) (m+1)) (W.alloc (.cells (ints (List.replicate (m+1) 0)) 3)):=λW=>by
  have h:=jh (m+1) om W;rwa[fH]at h
 have FM:∀W:World,(Instr.makeSlice 106 ((m:Int)+1:Int) ((m:Int)+1:Int)).run prog W=.ok (.slice (some ⟨W.1.size,0,none⟩) (m+1) (m+1)) (W.alloc (.cells (d6 (List.replicate (m+1) false)) 4)):=λW=>by
  have h:=l7 (m+1) om W;rwa[fH]at h
 go_in
 go_upto_region 1 with fail
 refine aw (λu0 _ kn=>?_)
 go_upto_region 11 with(first|(go_at_call 60;(with_reducible refine(io hf hs G X xk).mono ?_);rintro e u ⟨AO,cO,rfl,sO,oO,pO⟩)|(go_at_call 133;(with_reducible refine(NV hf hs G Y Gd).mono ?_);rintro e u ⟨AL,cL,rfl,sL,oL,pL⟩)|(go_at_call 61;(with_reducible refine(DG hf hs G X).mono ?_);rintro e u ⟨rfl,_⟩))
 obtain⟨p,hp⟩:=lg u;rw[<-hp];obtain⟨nip,sOp,sLp,pp⟩:aQ p A n B m N/\Sl p AO m O/\Sl p AL (m+1) La/\aj p w:=by rw[hp];exact⟨ao,ao,ao,aK⟩
 have kn:Bx p w.1.size 33 #[(A,n,c),(B,m,d)]:=by rw[hp];exact ao
 clear hp
 go_upto_region 12 with fail
 refine aw (λu2 _ r=>?_);obtain⟨tb,J⟩:=lg p.1.size;have b:Hx (pI p u2 tb 172 #[(A,n,c),(B,m,d),(AO,m,cO),.slice AL (m+1) cL,(),l,(),(),()] []):=ae ⟨ao,by rw[J];exact r.al,aG,aG,aG,by rw[J];exact an _⟩;rw[<-J]at r⊢;clear J
 go_cut [] (λwx=>∃F K P,Hx (lG p wx ⟨A,n,c,B,d,AO,cO,AL,cL⟩ ⟨tb,F,K,P⟩ m l none 0 ⟨List.replicate (m+1) 0,List.replicate (m+1) false,List.replicate (m+1) false,[]⟩))
 case first=>
  refine aH p aq (λj _=>?_)
  repeat' (first
   |(refine wH 0 ?_
     refine qL [0,1,2,3,5] ?_;refine uY 7 54 ?_)
   |(refine wH 9 ?_
     refine ap 9 ?_;refine uY 10 57 ?_)
   |(refine wH 12 ?_
     refine ap 12 ?_;refine uY 13 59 ?_)
   |(refine wH 15 ?_
     refine ap 15 ?_;refine uY 16 61 ?_)
   |(intro (tg:Tg 4) K hK
     clear tg;obtain⟨gF,hgF⟩:=lg ((World.heap j).size);have b:=ae (b.o.at (w':=j));go_simp;refine aL hK ?_;refine bh (λj _ _=>?_);have b:=ae (b.o.mk' (w':=j) Bx.al);rw[<-hgF]at b⊢;clear hgF;have r:=b.o.bx)
   |(intro (tg:Tg 6) K hK
     clear tg;obtain⟨gK,hgK⟩:=lg ((World.heap j).size);have b:=ae (b.o.at (w':=j));go_simp;refine aL hK ?_;refine bh (λj _ _=>?_);have b:=ae (b.o.mk' (w':=j) Bx.al);rw[<-hgK]at b⊢;clear hgK;have r:=b.o.bx)
   |(intro (tg:Tg 8) K hK
     clear tg;obtain⟨gP,hgP⟩:=lg ((World.heap j).size);have b:=ae (b.o.at (w':=j));go_simp;refine aL hK ?_;refine bh (λj _ _=>?_);have b:=ae (b.o.mk' (w':=j) Bx.al);rw[<-hgP]at b⊢;clear hgP;have r:=b.o.bx)
   |(intro (tg:Tg 11) K hK
     clear tg;go_simp;have D:=ae (b.o.set 4 (.slice gF (m+1) (m+1)));obtain⟨v1,Iy⟩:=lg (j.setCell (tb,4) (.slice gF (m+1) (m+1)));rw[<-Iy]at D⊢;clear Iy b;obtain⟨b,-⟩:_/\True:=⟨D,bA⟩;clear D;have pv1:=b.o.pr;have r:=b.o.bx;refine aL hK ?_ pv1;obtain⟨j,rfl⟩:∃W:World,W=v1:=⟨_,rfl⟩)
   |(intro (tg:Tg 14) K hK
     clear tg;go_simp;have D:=ae (b.o.set 6 (.slice gK (m+1) (m+1)));obtain⟨v2,IM⟩:=lg (j.setCell (tb,6) (.slice gK (m+1) (m+1)));rw[<-IM]at D⊢;clear IM b;obtain⟨b,-⟩:_/\True:=⟨D,bA⟩;clear D;have M6:=b.o.pr;have r:=b.o.bx;refine aL hK ?_ M6;obtain⟨j,rfl⟩:∃W:World,W=v2:=⟨_,rfl⟩)
   |(intro (tg:Tg 17) K hK
     clear tg;go_simp;have D:=ae (b.o.set 7 (.slice gP (m+1) (m+1)));obtain⟨v3,EU⟩:=lg (j.setCell (tb,7) (.slice gP (m+1) (m+1)));rw[<-EU]at D⊢;clear EU b;obtain⟨b,-⟩:_/\True:=⟨D,bA⟩;clear D;have pv3:=b.o.pr;have r:=b.o.bx;refine aL hK ?_ pv3;obtain⟨j,rfl⟩:∃W:World,W=v3:=⟨_,rfl⟩)
   |refine mo 4 ?_
   |refine mo 11 ?_
   |refine mo 14 ?_
   |refine mo 17 ?_
   |refine mo 6 ?_
   |refine mo 8 ?_
   |refine uZ 4 6 ?_ ?_
   |refine uZ 6 11 ?_ ?_
   |refine uZ 4 8 ?_ ?_
   |refine uZ 8 11 ?_ ?_
   |refine uZ 8 14 ?_ ?_
   |refine uZ 6 8 ?_ ?_
   |refine rz3 4 6 8 ?_ ?_ ?_
   |refine rz3 6 8 11 ?_ ?_ ?_
   |refine Uq ?_)
  all_goals
   go_wp2_with fail
   go_meet
   have ND:=b.o.nd;simp only[qN,dX,jZ,bT,kG,lN,not_or,Xv,Ue,J4]at ND;exact⟨gF,gK,gP,ae (b.o.fin aG aG aG (by rintro rfl;simp at ND) aG aG aG)⟩
 ·
  obtain⟨F,K,P,C⟩:=hcut;clear b r RD FM;have vu:Hx (∀id∈O,1<=id/\id<=m):=ae λid hid=>by have:=bn.1 (hN.o.j7.ids id hid);rw[<-Z.o]at this;exact this
  have h1m:1<=m:=by have:=hN.o.n9;have:=hN.o.mB;rw[<-Z.o]at this;omega
  go_upto_region 14 with fail
  go_loopw [10] (λt wr=>∃(q:Nat) (fi:av),q<=m/\t=.int .i64 q/\Hx (lG p wr ⟨A,n,c,B,d,AO,cO,AL,cL⟩ ⟨tb,F,K,P⟩ m l none 0 ⟨fi,List.replicate (m+1) false,List.replicate (m+1) false,[]⟩)/\Hx (hX N O q fi=hX N O m (List.replicate (m+1) 0))) (λt _=>(intOf t).toNat)
  .exact⟨m,_,an _,rfl,C,ae rfl⟩
  ·
   clear C;obtain⟨q,fi,hq,rfl,C,S⟩:=hrel;obtain⟨p9,r,kF,kK,kP⟩:=C.o.facts;have kn2:Bx wr w.1.size 33 #[(A,n,c),(B,m,d)]:=ao;by_cases Nv:q=0
   .subst Nv;have t1:decide ((1:Int)<=((0:Nat):Int))=false:=by decide
    have hF:fi=hX N O m (List.replicate (m+1) 0):=S.o;have e0:(d6 (List.replicate (m+1) false))[0]?=some (.bool false):=bO (by rw[ix,ah om]);have hm0:(0:Int)<(m:Int)+1:=by omega
    have Q:=ae hF;clear hF
    go_wp2_with fail
    go_ret2;refine⟨p,⟨A,n,c,B,d,AO,cO,AL,cL⟩,⟨tb,F,K,P⟩,rfl,pp,nip,sOp,sLp,ae ⟨none,0,?_⟩⟩;rw[<-Q.o];exact C.o.Bm 0 true
   .obtain⟨q,rfl⟩:∃t,q=t+1:=⟨q-1,om⟩;have t1:decide ((1:Int)<=((q+1:Nat):Int))=true:=by simp;omega
    have w3:IntKind.i64.wrap (q:Int)=(q:Int):=by rw[aV];omega
    have w4:(q:Int)<(m:Int):=by omega
    obtain⟨b8,q8,id,rfl,ob8,v9,xQ⟩:=sOp.get (k:=q) om;obtain⟨Dw,Dx⟩:=vu.o id (aC xQ.o);obtain⟨t,ht⟩:=cf (show 0<=id-1 by omega);obtain rfl:id=(t:Int)+1:=by omega
    have xR:t<m:=om;have w2:(t:Int)+1-1=t:=by omega
    have w5:IntKind.i64.wrap (t:Int)=(t:Int):=by rw[aV];omega
    have w6:(t:Int)<(m:Int):=by omega
    obtain⟨b7,q7,o,A1,n1,c1,I,V,ci,ins,P1,np,cp,ps,rfl,ZP,⟨v0,v1,v2,v3,v4,v5,v6,v7,v8,IV⟩,s1,si,sp,l1,li,lp,ik,R⟩:=nip.node xR;have vp:V<=1000:=by have:=hs.o.2 _ (aC R.o);rw[si.len];exact this
    have HI:Hx (V=ins):=si.len;have Aq:Hx (∀z∈ins,0<=z/\z<=m):=ae λz hz=>by have:=hN.o.jS _ (aC R.o) z hz;rw[<-Z.o]at this;exact this
    have HN:Hx (hX N O q (qf (q+1) ins fi)=hX N O m (List.replicate (m+1) 0)):=ae (by
     rw[<-S.o,hX,f8 xQ.o,bG,show((t:Int)+1-1).toNat=t from om,R.o];rfl)
    clear ht Dw Dx S
    go_upto_region 16 with fail
    refine am aq (λj _=>?_);refine qL [0,1,2,3,4,5,6,7,8,9,10,11,12] ?_;refine aZ ?_
    go_upto_region 17 with fail
    have HSu:=ae (C.o.at (w':=j));clear r kF kK kP p9 kn2;go_loopw [80] (λi wy=>∃(k:Nat) (M:av),k<=V/\i=.int .i64 k/\Hx (lG p wy ⟨A,n,c,some ⟨b7,q7,none⟩,d,some ⟨b8,q8,none⟩,cO,AL,cL⟩ ⟨tb,F,K,P⟩ m l none 0 ⟨M,List.replicate (m+1) false,List.replicate (m+1) false,[]⟩)/\Hx (qf (q+1) (ins.drop k) M=qf (q+1) ins fi)) (λi _=>V-(intOf i).toNat)
    .exact⟨0,fi,aT _,rfl,HSu,ae rfl⟩
    ·
     clear C HSu;obtain⟨k,M,hk,rfl,C,S⟩:=hrel;obtain⟨p9,r,kF,kK,kP⟩:=C.o.facts;by_cases bK:k<V
     .obtain⟨b4,q4,z,rfl,Z8,vz,ez⟩:=si.get bK;have hz:=Aq.o z (aC ez.o);obtain⟨y,rfl⟩:=cf hz.1;have hyi:(y:Int)<(m:Int)+1:=by omega
      obtain⟨x,hx⟩:∃x,M[y]?=some x:=⟨_,List.getElem?_eq_getElem (by have:=C.o.lf;dsimp only at this;omega)⟩;have qt:(ints M)[y]?=some (.int .i64 x):=by rw[eu,hx];rfl
      have Q:Hx (qf (q+1) (ins.drop (k+1)) (M.set y ((q:Int)+1))=qf (q+1) ins fi):=ae (by
       obtain⟨h1,h2⟩:=a5.1 ez.o;rw[<-S.o,ei h1,h2];rfl)
      clear hx hz
      go_wp2_with fail
      go_roundw
      .exact⟨k+1,_,om,by go_num,ae (C.o.yt y ((q:Int)+1)),Q⟩
      .simp[intOf];omega
     .obtain rfl:k=V:=om;have RE:Hx (hX N O q M=hX N O m (List.replicate (m+1) 0)):=ae (by
       rw[<-HN.o,<-S.o,ey (by rw[<-HI.o];exact an _)];rfl)
      go_wp2_with fail
      exact⟨⟨q,M,om,by go_num,C,RE⟩,by simp[intOf]⟩
end
