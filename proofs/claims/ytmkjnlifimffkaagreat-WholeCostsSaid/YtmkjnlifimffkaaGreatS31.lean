/- Lemmas. No condition. -/
import Derived.Test.YtmkjnlifimffkaaGreatS30
import Derived.Test.YtmkjnlifimffkaaGreatS26
namespace Go.Proofs.YtmkjnlifimffkaaGreat
open Go.RowKit
set_option linter.all false
set_option maxRecDepth 100000
set_option maxHeartbeats 16000000
structure vB where
 AI:Option Addr
 nI:Nat
 cI:Nat
 BN:Option Addr
 cN:Nat
 AO:Option Addr
 cO:Nat
 AL:Option Addr
 cL:Nat
structure vD where
 g:Nat
 F:Nat
 K:Nat
 P:Nat
structure Eu where
 fi:List Int
 kp:List Bool
 pr:List Bool
 cd:List (Int×Int)
abbrev JJ(a:vB)(G:vD)(m l:Nat)(A:Option Addr)(c:Nat)(V:Eu):Array Value:=
 #[.slice a.AI a.nI a.cI,.slice a.BN m a.cN,.slice a.AO m a.cO,.slice a.AL (m+1) a.cL,.slice G.F (m+1) (m+1),l,.slice G.K (m+1) (m+1),.slice G.P (m+1) (m+1),.slice A V.cd.length c]
structure lW(p w:World)(a:vB)(G:vD)(m l:Nat)(A:Option Addr)(c:Nat)(V:Eu):Prop where
 prev:ak w p
 bx:aD w G.g 172 (JJ a G m l A c V)
 fi:Own w G.F 3 V.fi
 kp:aD w G.K 4 (dL V.kp)
 pr:aD w G.P 4 (dL V.pr)
 cd:bX w p.heap.size A c V.cd
 Ev:G.K≠G.P
 hg:p.heap.size<=G.g
 hF:p.heap.size<=G.F
 hK:p.heap.size<=G.K
 hP:p.heap.size<=G.P
 lf:V.fi.length=m+1
 lk:V.kp.length=m+1
 lp:V.pr.length=m+1
section
variable{p w w':World}{a:vB}{G:vD}{m l c c' i:Nat}{A A':Option Addr}{V:Eu}{fi:List Int}{kp pr:List Bool}{cd:List (Int×Int)}
theorem zG{g h:Nat}{T U:TypeId}{cs b:Array Value}(x:aD w g T cs)(y:aD w h U b)(j:T≠U):g≠h:=fun e=>by
 subst e;unfold aD at x y;rw[x]at y;injection y with y;injection y with _ y
 exact j y
theorem lW.at(h:lW p w a G m l A c V)[k:Later w w']:lW p w' a G m l A c V:=
 ⟨⟨dS h.prev.st k.st⟩,h.bx.at,h.fi.keep k.st,h.kp.at,h.pr.at,h.cd.at,h.Ev,h.hg,h.hF,h.hK,h.hP,h.lf,h.lk,h.lp⟩
theorem bX.mV{q:Addr}{B:Nat}(h:bX w B A c cd)(hp:∀ad,A=some ad->ad.block≠q.block)(v:Value):bX (w.setCell q v) B A c cd:=h.same fun ad e=>dM w q v _ (hp ad e)
theorem Cy{g:Nat}{zs:List Int}(h:Own w g 3 zs):aD w g 3 (ints zs):=h
theorem lW.Gw(h:lW p w a G m l A c ⟨fi,kp,pr,cd⟩)(i:Nat)(b:Bool):lW p (w.setCell ⟨G.P,i,none⟩ (.bool b)) a G m l A c ⟨fi,kp,pr.set i b,cd⟩:=
 ⟨⟨h.prev.st.setCell (p:=⟨G.P,i,none⟩) h.hP _⟩,h.bx.far (zG h.bx h.pr ah) _,h.fi.far (zG (Cy h.fi) h.pr ah) _,h.kp.far h.Ev _,by rw[<-Ec];exact h.pr.aF i _,h.cd.mV (fun ad e=>h.cd.bP h.pr ah ad e) _,h.Ev,h.hg,h.hF,h.hK,h.hP,h.lf,h.lk,by have:=h.lp;simpa using this⟩
theorem lW.anB(h:lW p w a G m l A c ⟨fi,kp,pr,cd⟩)(i:Nat)(b:Bool):lW p (w.setCell ⟨G.K,i,none⟩ (.bool b)) a G m l A c ⟨fi,kp.set i b,pr,cd⟩:=
 ⟨⟨h.prev.st.setCell (p:=⟨G.K,i,none⟩) h.hK _⟩,h.bx.far (zG h.bx h.kp ah) _,h.fi.far (zG (Cy h.fi) h.kp ah) _,by rw[<-Ec];exact h.kp.aF i _,h.pr.far (lI h.Ev) _,h.cd.mV (fun ad e=>h.cd.bP h.kp ah ad e) _,h.Ev,h.hg,h.hF,h.hK,h.hP,h.lf,by have:=h.lk;simpa using this,h.lp⟩
theorem lW.Et(h:lW p w a G m l A c ⟨fi,kp,pr,cd⟩)(i:Nat)(z:Int):lW p (w.setCell ⟨G.F,i,none⟩ (.int .i64 z)) a G m l A c ⟨fi.set i z,kp,pr,cd⟩:=
 ⟨⟨h.prev.st.setCell (p:=⟨G.F,i,none⟩) h.hF _⟩,h.bx.far (zG h.bx (Cy h.fi) ah) _,h.fi.aF i z,h.kp.far (zG h.kp (Cy h.fi) ah) _,h.pr.far (zG h.pr (Cy h.fi) ah) _,h.cd.mV (fun ad e=>h.cd.bP (Cy h.fi) ah ad e) _,h.Ev,h.hg,h.hF,h.hK,h.hP,by have:=h.lf;simpa using this,h.lk,h.lp⟩
theorem lW.Ir(h:lW p w a G m l A c ⟨fi,kp,pr,cd⟩){u:World}{b:List (Int×Int)}(r:bX u p.heap.size A' c' b)(hb:Below p.heap.size w u)(j:∀k,k<w.heap.size->(∀ad,A=some ad->ad.block≠k)->u.heap[k]?=w.heap[k]?):
  lW p (u.setCell ⟨G.g,8,none⟩ (.slice A' b.length c')) a G m l A' c' ⟨fi,kp,pr,b⟩:=by
 have k1:aD u G.g 172 (JJ a G m l A c ⟨fi,kp,pr,cd⟩):=(j _ h.bx.lt (h.cd.bP h.bx ah)).trans h.bx;have k2:Own u G.F 3 fi:=(j _ h.fi.lt (h.cd.bP (Cy h.fi) ah)).trans h.fi;have y:aD u G.K 4 (dL kp):=(j _ h.kp.lt (h.cd.bP h.kp ah)).trans h.kp;have z:aD u G.P 4 (dL pr):=(j _ h.pr.lt (h.cd.bP h.pr ah)).trans h.pr;exact⟨⟨(h.prev.st.trans hb).setCell (p:=⟨G.g,8,none⟩) h.hg _⟩,k1.aF 8 _,k2.far (zG (Cy k2) k1 ah) _,y.far (zG y k1 ah) _,z.far (zG z k1 ah) _,r.mV (fun ad e=>r.bP k1 ah ad e) _,h.Ev,h.hg,h.hF,h.hK,h.hP,h.lf,h.lk,h.lp⟩
theorem lW.facts(h:lW p w a G m l A c V):ak w p/\Bx w G.g 172 (JJ a G m l A c V)/\Bx w G.F 3 (ints V.fi)/\Bx w G.K 4 (dL V.kp)/\Bx w G.P 4 (dL V.pr):=⟨h.prev,⟨h.bx⟩,⟨h.fi⟩,⟨h.kp⟩,⟨h.pr⟩⟩
structure Kl(G:vD)(w w':World):Prop where
 size:w.heap.size<=w'.heap.size
 keep:∀b,b<w.heap.size->b≠G.g->b≠G.P->(∀cs fz,w.heap[b]?≠some (.cells cs 98 fz))->w'.heap[b]?=w.heap[b]?
theorem Kl.of[k:Later w w']:Kl G w w':=⟨k.st.size,fun b hb _ _ _=>k.st.block b hb⟩
theorem Kl.trans{u:World}(h:Kl G w w')(k:Kl G w' u):Kl G w u:=⟨aZ h.size k.size,fun b hb j r y=>by
 have e:=h.keep b hb j r y;rw[k.keep b (bV hb h.size) j r (by rw[e];exact y),e]⟩
theorem Kl.blk{g:Nat}{T:TypeId}{cs:Array Value}(h:Kl G w w')(b:aD w g T cs)(j:g≠G.g)(r:g≠G.P)(u:T≠98):aD w' g T cs:=
 (h.keep g b.lt j r fun y fz e=>by unfold aD at b;rw[b]at e;injection e with e;injection e with _ e;exact u e).trans b
theorem Kl.aF(h:Kl G w w'){g:Nat}(hg:g=G.g\/g=G.P)(i:Nat)(v:Value):Kl G w (w'.setCell ⟨g,i,none⟩ v):=
 ⟨by have:=h.size;simpa using this,fun b hb j r u=>by rw[dM w' ⟨g,i,none⟩ v b (fun e=>by rcases hg with hg|hg<;>simp at e<;>omega)];exact h.keep b hb j r u⟩
def gy(p w:World)(a:vB)(G:vD)(m l:Nat)(V:Eu):Prop:=∃A c,lW p w a G m l A c V
theorem gy.at(h:gy p w a G m l V)[Later w w']:gy p w' a G m l V:=by
 obtain⟨A,c,h⟩:=h;exact⟨A,c,h.at⟩
def AU(p:World)(a:vB)(G:vD)(m l:Nat)(V:Eu)(w:World)(e:Ending)(w':World):Prop:=e=.returned (.tuple #[])/\Hid (gy p w' a G m l V)/\Hid (Kl G w w')
theorem Ew(h:Hid (gy p w a G m l V))(E:V.cd.length<=1000000)(kd id:Int):Calls Tryz.prog 81 #[.pointer G.g,kd,id] w (AU p a G m l ⟨V.fi,V.kp,V.pr,V.cd++[(kd,id)]⟩ w):=by
 have M:=@bf;have N:=@dV;obtain⟨A,c,h⟩:=h.out;obtain⟨fi,kp,pr,cd⟩:=V;obtain⟨O,u,P,Q,R⟩:=h.facts;have y:bX w p.heap.size A c cd:=h.cd;have z:p.heap.size<=w.heap.size:=aH;dsimp only at E;go_enter Tryz.func81,Tryz.ntmps81
 go_wp2_with (at_builtin;refine afQ rfl _ _ _ rfl Tryz.underlying50 rfl y kd id rfl om z ?_;intro F c3 C B r j;obtain⟨I,-⟩:Bx C G.g 172 (JJ a G m l A c ⟨fi,kp,pr,cd⟩)/\True:=⟨⟨(j _ u.blk.lt (y.bP u.blk ah)).trans u.blk⟩,bO⟩)
 have D:=h.Ir B r j;have J:Kl G w C:=⟨r.size,fun b hb _ _ K=>j b hb fun ad e L=>by obtain⟨cs,fz,ht⟩:=y.typ ad e;rw[L]at ht;exact K _ _ ht⟩;rw[cu]at D;refine⟨rfl,.tuple #[],by simp[results,Tryz.results81,go_sem],rfl,ae ⟨F,c3,D⟩,ae (J.aF (.inl rfl) _ _)⟩
theorem Gx(h:Hid (gy p w a G m l V)){b:Bool}(hb:Hid (decide (65536<(V.cd.length:Int))=b)):Calls Tryz.prog 84 #[.pointer G.g] w (aM w (.bool b)):=by
 have e:=@bf;obtain⟨A,c,h⟩:=h.out;obtain⟨fi,kp,pr,cd⟩:=V;obtain⟨j,r,u,y,z⟩:=h.facts;go_enter Tryz.func84,Tryz.ntmps84
 go_wp2_with fail
 go_ret;exact⟨by rw[<-hb.out];rfl,ai _ _⟩
theorem abR(h:Hid (gy p w a G m l V))(r:V.cd.length<=1000000)(kd:Int){id:Nat}(hid:id<=m):Calls Tryz.prog 134 #[.pointer G.g,kd,id] w (AU p a G m l ⟨V.fi,V.kp,V.pr.set id true,V.cd++[(kd,(id:Int))]⟩ w):=by
 have C:=@bf;have D:=@dV;obtain⟨fi,kp,pr,cd⟩:=V;have b:(id:Int)<(m:Int)+1:=by omega
 go_enter Tryz.func134,Tryz.ntmps134
 go_upto_region 1 with(go_at_call 81;refine(Ew h r kd (id:Int)).mono ?_;rintro e u ⟨rfl,y,z⟩)
 obtain⟨A,c,hS⟩:=y.out;obtain⟨E,F,I,J,K⟩:=hS.facts;obtain⟨L,j,-⟩:=lq hS.lp (show id<m+1 by omega);have B:=iN j;clear j h
 go_wp2_with fail
 exact⟨rfl,.tuple #[],by simp[results,Tryz.results134,go_sem],rfl,ae ⟨A,c,hS.Gw id true⟩,ae (z.out.aF (.inr rfl) _ _)⟩
theorem Ui(h:Hid (gy p w a G m l V))(r:V.cd.length<=1000000){id:Nat}(hid:id<=m):Calls Tryz.prog 82 #[.pointer G.g,id] w (AU p a G m l ⟨V.fi,V.kp,V.pr.set id false,V.cd++[(3,(id:Int))]⟩ w):=by
 have C:=@bf;have D:=@dV;obtain⟨fi,kp,pr,cd⟩:=V;have b:(id:Int)<(m:Int)+1:=by omega
 go_enter Tryz.func82,Tryz.ntmps82
 go_upto_region 1 with(go_at_call 81;refine(Ew h r 3 (id:Int)).mono ?_;rintro e u ⟨rfl,y,z⟩)
 obtain⟨A,c,hS⟩:=y.out;obtain⟨E,F,I,J,K⟩:=hS.facts;obtain⟨L,j,-⟩:=lq hS.lp (show id<m+1 by omega);have B:=iN j;clear j h
 go_wp2_with fail
 exact⟨rfl,.tuple #[],by simp[results,Tryz.results82,go_sem],rfl,ae ⟨A,c,hS.Gw id false⟩,ae (z.out.aF (.inr rfl) _ _)⟩
end
abbrev iI:=List Bool×List (Int×Int)
def Cz(f:Nat->Bool)(s:iI)(id:Nat):iI:=if s.1.getD id false&&f id then(s.1.set id false,s.2++[(3,(id:Int))])else s
def swp(f:Nat->Bool)(s:iI):Nat->iI
 |0=>s
 |k+1=>Cz f (swp f s k) (k+1)
def gL(N:aI):Nat->Int->iI->iI
 |0,_,s=>s
 |f+1,id,s=>
  if s.1.getD id.toNat false||decide (65536<s.2.length)then s
  else(((bG N id).foldl (fun s z=>gL N f z s) s).1.set id.toNat true,((bG N id).foldl (fun s z=>gL N f z s) s).2++[(2,id)])
section
variable{p w w':World}{a:vB}{G:vD}{m l c c' i:Nat}{A A':Option Addr}{V:Eu}{fi:List Int}{kp pr:List Bool}{cd:List (Int×Int)}{N:aI}
theorem JK(f:Nat->Bool)(s:iI):∀k,(swp f s k).2.length<=s.2.length+k/\s.2.length<=(swp f s k).2.length/\(swp f s k).1.length=s.1.length
 |0=>by simp[swp]
 |k+1=>by
  have b:=JK f s k;rw[swp,Cz]
  split
  ·simp;omega
  ·omega
theorem Uj(f:Nat->Bool)(s:iI):∀k,(swp f s k).1.getD 0 false=s.1.getD 0 false
 |0=>rfl
 |k+1=>by
  have b:=Uj f s k;rw[swp,Cz]
  split
  ·rw[<-b,aQ,nQ,if_neg om,<-aQ]
  ·exact b
theorem abS{L:List Bool}{i j:Nat}(h:L.getD j false=true):(L.set i true).getD j false=true:=by
 rw[aQ]at h⊢;rw[nQ]
 split
 ·rename_i e;subst e
  split
  ·rfl
  ·rename_i b;rw[mE om]at h;exact h
 ·exact h
theorem JL{α β:Type}{f:β->α->β}{I:β->Prop}:∀(L:List α) (s:β),I s->(∀s x,x∈L->I s->I (f s x))->I (L.foldl f s)
 |[],_,h,_=>h
 |x::t,s,h,hs=>JL t (f s x) (hs s x dN h) fun s y b=>hs s y (fI _ b)
theorem Uk:∀(f:Nat) (id:Int) (s:iI),s.1.getD 0 false=true->(gL N f id s).1.getD 0 false=true
 |0,_,_,h=>h
 |f+1,id,s,h=>by
  rw[gL]
  split
  ·exact h
  ·exact abS (JL (I:=fun s:iI=>s.1.getD 0 false=true) _ s h fun s x _ h=>Uk f x s h)
theorem Ul:∀(f:Nat) (id:Int) (s:iI),(gL N f id s).2.length<=max s.2.length (65537+f)/\(gL N f id s).1.length=s.1.length
 |0,_,s=>by rw[gL];omega
 |f+1,id,s=>by
  rw[gL]
  split
  ·omega
  ·rename_i b;simp only[Fj,dU,not_or]at b;have:=JL (I:=fun t:iI=>t.2.length<=max 65536 (65537+f)/\t.1.length=s.1.length) (f:=fun s z=>gL N f z s) (bG N id) s om fun t x _ h=>by
    have:=Ul f x t;omega
   rw[cu,Hl,jQ];omega
theorem abT{g:Nat}{c1 c2:Value}{f:Nat->Bool}(h:Hid (gy p w a G m l ⟨fi,kp,pr,cd⟩))(hm:m<=1000)(hl:cd.length<=900000)(EG:∀args w,(callFunc g args).run Tryz.prog w=.ok (.enter g args) w)
  (M:Hid (∀(u:World) (j:List Bool) (b:List (Int×Int)) (id:Nat),1<=id->id<=m->Hid (gy p u a G m l ⟨fi,kp,j,b⟩)->Hid (Kl G w u)->Calls Tryz.prog g #[id,c1,c2] u (aM u (.bool (f id)))))
  {z:List Bool} {B:List (Int×Int)} (hS:Hid (swp f (pr,cd) m=(z,B))):
  Calls Tryz.prog 135 #[.pointer G.g,.func (.func g) #[] #[c1,c2]] w (AU p a G m l ⟨fi,kp,z,B⟩ w):=by
 have CB:=@bf;go_enter Tryz.func135,Tryz.ntmps135
 go_wp2_with fail
 go_loopw [4] (fun i wr=>∃(k:Nat) (j:List Bool) (b:List (Int×Int)),k<=m/\i=.int .i64 ((k:Int)+1)/\Hid (gy p wr a G m l ⟨fi,kp,j,b⟩)/\Hid (swp f (pr,cd) k=(j,b))/\Hid (Kl G w wr)) (fun i _=>m+1-(intOf i).toNat)
 case atStart=>exact⟨0,pr,cd,aS _,by go_num,h,ae rfl,ae ⟨az _,fun _ _ _ _ _=>rfl⟩⟩
 case round=>
  clear h;obtain⟨k,j,b,hk,rfl,E,F,I⟩:=hrel;have U:b.length<=902000:=by
   have:=(JK f (pr,cd) k).1;rw[F.out]at this;dsimp only at this;omega
  obtain⟨A,c,hL⟩:=E.out;obtain⟨p9,kb,kF,kK,kP⟩:=hL.facts;have O:=hL.lp;by_cases X:k<m
  ·obtain⟨Y,L,C⟩:=lq (i:=k+1) O om;have Z:=iN L;have hw1:IntKind.i64.wrap ((k:Int)+1+1)=(k:Int)+1+1:=by rw[bF];omega
   dsimp only at C;rcases Y with _|_
   ·have r:Hid (swp f (pr,cd) (k+1)=(j,b)):=ae (by rw[swp,F.out,Cz];simp only[C];rfl);clear L C
    go_wp2_with fail
    go_roundw
    case rel=>exact⟨k+1,j,b,om,by go_num,ae (gy.at E.out),r,ae (I.out.trans Kl.of)⟩
    case measure=>simp[intOf];omega
   ·obtain⟨fb,y⟩:=lh (f (k+1));have D:=M.out wr j b (k+1) om om E I;rw[y]at D;have J:=ae D;clear D;rcases fb with _|_
    ·have r:Hid (swp f (pr,cd) (k+1)=(j,b)):=ae (by rw[swp,F.out,Cz];simp only[C,y];rfl);clear L C y M
     go_wp2_with fail
     refine(J.out).mono ?_;rintro e u ⟨rfl,_⟩
     go_wp2_with fail
     go_roundw
     case rel=>exact⟨k+1,j,b,om,by go_num,ae (gy.at E.out),r,ae (I.out.trans Kl.of)⟩
     case measure=>simp[intOf];omega
    ·have r:Hid (swp f (pr,cd) (k+1)=(j.set (k+1) false,b++[(3,((k+1:Nat):Int))])):=ae (by rw[swp,F.out,Cz];simp only[C,y];rfl);have K:((k+1:Nat):Int)=(k:Int)+1:=by omega
     clear L C y M
     go_wp2_with fail
     refine(J.out).mono ?_;rintro e u ⟨rfl,_⟩;have P:=Ui (w:=u) (ae (gy.at E.out)) (show b.length<=1000000 by omega) (show k+1<=m by omega);rw[K]at P;have Q:=ae P;clear P
     go_wp2_with (go_at_call 82;refine(Q.out).mono ?_;rintro e u2 ⟨rfl,R,S⟩)
     go_roundw
     case rel=>exact⟨k+1,j.set (k+1) false,b++[(3,(k:Int)+1)],om,by go_num,R,by rw[<-K];exact r,ae ((I.out.trans Kl.of).trans S.out)⟩
     case measure=>simp[intOf];omega
  ·obtain rfl:k=m:=om;have T:j=z/\b=B:=by have:=hS.out;rw[F.out]at this;exact nD this
   obtain⟨rfl,rfl⟩:=T
   go_wp2_with fail
   exact⟨rfl,.tuple #[],by simp[results,Tryz.results135,go_sem],rfl,ae (gy.at E.out),ae (I.out.trans Kl.of)⟩
def Um(p:World)(a:vB)(G:vD)(m l:Nat)(fi:List Int)(kp:List Bool)(N:aI)(O:List Int)(f:Nat):Prop:=
 ∀(w:World) (pr:List Bool) (cd:List (Int×Int)) (id:Int),Hid (gy p w a G m l ⟨fi,kp,pr,cd⟩)->Hid (id=0\/id∈O.take f)->Hid (pr.getD 0 false=true)->cd.length<=70000->
  Calls Tryz.prog 137 #[.pointer G.g,id] w (AU p a G m l ⟨fi,kp,(gL N f id (pr,cd)).1,(gL N f id (pr,cd)).2⟩ w)
theorem abU{id:Nat}(h:Hid (gy p w a G m l ⟨fi,kp,pr,cd⟩))(hid:id<=m)(D:cd.length<=70000)(y:Hid ((pr.getD id false||decide (65536<cd.length))=true)):Calls Tryz.prog 137 #[.pointer G.g,id] w (AU p a G m l ⟨fi,kp,pr,cd⟩ w):=by
 have E:=@bf;obtain⟨A,c,hL⟩:=h.out;obtain⟨F,I,J,K,L⟩:=hL.facts;obtain⟨z,b,j⟩:=lq (i:=id) hL.lp om;have B:=iN b;have r:(id:Int)<(m:Int)+1:=by omega
 have hN:=y.out;rw[j]at hN;clear b j;go_enter Tryz.func137,Tryz.ntmps137;rcases z with _|_
 ·have C:Hid (decide (65536<(cd.length:Int))=true):=ae (by simp at hN⊢;omega);clear hN
  go_wp2_with (go_at_call 84;refine(Gx (V:=⟨fi,kp,pr,cd⟩) (ae (gy.at h.out)) C).mono ?_;rintro e u ⟨rfl,_⟩)
  exact⟨rfl,.tuple #[],by simp[results,Tryz.results137,go_sem],rfl,ae (gy.at h.out),ae Kl.of⟩
 ·clear hN
  go_wp2_with fail
  exact⟨rfl,.tuple #[],by simp[results,Tryz.results137,go_sem],rfl,ae (gy.at h.out),ae Kl.of⟩
end
section
variable{p w w':World}{a:vB}{G:vD}{m l c c' i:Nat}{A A':Option Addr}{V:Eu}{fi:List Int}{kp pr:List Bool}{cd:List (Int×Int)}{N:aI}{O:List Int}{L:List (List Int)}
theorem anC(hN:Hid (dX N O L l))[ni:aX p a.AI a.nI a.BN m N](hs:Hid N.small){f:Nat}(hf:f<=1000)(ih:Hid (Um p a G m l fi kp N O f)):Um p a G m l fi kp N O (f+1):=by
 intro w pr cd id h hid h0 Y;have Z:Hid (m=N.nodes.length):=ae ni.len;have hm:m<=1000:=by rw[Z.out];exact hs.out.1
 have Q:0<=id/\id<=m:=by
  rcases hid.out with h|h
  ·omega
  ·have:=dR.1 (hN.out.lV.ids id (gU h));rw[<-Z.out]at this;omega
 obtain⟨q,rfl⟩:=eF Q.1;have hq:q<=m:=om;by_cases B:(pr.getD q false||decide (65536<cd.length))=true
 ·have e:gL N (f+1) (q:Int) (pr,cd)=(pr,cd):=by rw[gL,if_pos];exact B
  rw[e];exact abU h hq Y (ae B)
 have R:=h0.out;obtain⟨CB,CP⟩:=lM;have e:gL N (f+1) (q:Int) (pr,cd)=(((bG N (q:Int)).foldl (fun s z=>gL N f z s) (pr,cd)).1.set q true,((bG N (q:Int)).foldl (fun s z=>gL N f z s) (pr,cd)).2++[(2,(q:Int))]):=by
  rw[gL,if_neg]
  ·rfl
  ·exact B
 rw[e];simp only[Fj,dU,not_or]at B;have hq1:q≠0:=fun e=>by subst e;exact B.1 h0.out
 have C:(q:Int)∈O.take (f+1):=by
  rcases hid.out with h|h
  ·omega
  ·exact h
 obtain⟨t,rfl⟩:∃t,q=t+1:=⟨q-1,om⟩;have xR:t<m:=om;obtain⟨b0,q0,o,A1,n1,c1,I,M,ci,ins,P,np,cp,ps,hBN,ob,⟨v0,v1,v2,v3,v4,v5,v6,v7,v8,Ed⟩,s1,si,sp,l1,li,lp,ik,D⟩:=ni.node xR;have y:bG N ((t+1:Nat):Int)=ins:=by rw[bG,show(((t+1:Nat):Int)-1).toNat=t from om,D.out];rfl
 have zH:Hid (∀z∈ins,(z=0\/z∈O.take f)/\0<=z/\z<=m):=ae fun z hz=>by
  obtain⟨j,hj,hjO⟩:=El C;have S:=hN.out.iR _ (aK D.out) z hz;rw[<-Z.out]at S;refine⟨?_,S⟩;rcases hN.out.JA hjO z (by rw[y];exact hz)with h|h
  ·exact .inl h
  ·obtain⟨i,hi,hiO⟩:=El h;exact .inr (N7 om hiO)
 have hni:M<=1000:=by have:=hs.out.2 _ (aK D.out);rw[si.len];exact this
 have HI:Hid (M=ins.length):=ae si.len;obtain⟨A,c,hL⟩:=h.out;obtain⟨p9,kb,kF,kK,kP⟩:=hL.facts;obtain⟨pb,e1,e2⟩:=lq (i:=t+1) hL.lp om;obtain rfl:pb=false:=by
  rw[<-e2];cases hx:pr.getD (t+1) false with
  |false=>rfl
  |true=>exact absurd hx B.1
 have hg1:=iN e1;have T:((t+1:Nat):Int)<(m:Int)+1:=by omega
 have Un:Hid (decide (65536<(cd.length:Int))=false):=ae (by have:=B.2;simp;omega);have hcd:cd.length<=65536:=om;have E:((t+1:Nat):Int)=(t:Int)+1:=by omega
 have w2:(t:Int)+1-1=t:=by omega
 rw[y];have Gq:Hid (∀(u:World) (r:List Bool) (b:List (Int×Int)),Hid (gy p u a G m l ⟨fi,kp,r,b⟩)->b.length<=1000000->Calls Tryz.prog 134 #[.pointer G.g,(2:Int),.int .i64 ((t:Int)+1)] u (AU p a G m l ⟨fi,kp,r.set (t+1) true,b++[(2,(t:Int)+1)]⟩ u)):=ae fun u r b h Y=>by
  have:=abR h Y 2 (show t+1<=m by omega);rwa[E]at this
 rw[E]at T⊢;clear B e e1 e2 Q C y hid hq1 E;go_enter Tryz.func137,Tryz.ntmps137
 go_upto_region 2 with(go_at_call 84;refine(Gx (V:=⟨fi,kp,pr,cd⟩) (ae (gy.at h.out)) Un).mono ?_;rintro e u ⟨rfl,_⟩)
 have U:Hid (∀k,((ins.take k).foldl (fun s z=>gL N f z s) (pr,cd)).1.getD 0 false=true/\((ins.take k).foldl (fun s z=>gL N f z s) (pr,cd)).2.length<=65537+f):=ae fun k=>
  JL (I:=fun s:iI=>s.1.getD 0 false=true/\s.2.length<=65537+f) _ _ ⟨R,by show cd.length<=65537+f;omega⟩ fun s x _ hs=>⟨Uk f x s hs.1,by have:=(Ul (N:=N) f x s).1;omega⟩
 clear R;go_loopw [28] (fun i wr=>∃(k:Nat) (r:List Bool) (b:List (Int×Int)),k<=M/\i=.int .i64 k/\Hid (gy p wr a G m l ⟨fi,kp,r,b⟩)/\Hid ((ins.take k).foldl (fun s z=>gL N f z s) (pr,cd)=(r,b))/\Hid (Kl G w wr)) (fun i _=>M-(intOf i).toNat)
 case atStart=>exact⟨0,pr,cd,aS _,rfl,ae (gy.at h.out),ae rfl,ae Kl.of⟩
 case round=>
  clear h kb kF kK kP p9 hg1 hL;obtain⟨k,r,b,hk,rfl,HL,HS,HK⟩:=hrel;obtain⟨A',c',hL⟩:=HL.out;have p9:=hL.prev;have F:=(U.out k).1;have X:=(U.out k).2;rw[HS.out]at F X;have HZ0:=ae F;dsimp only at X;clear F hL;by_cases hlt:k<M
  ·obtain⟨b2,q2,z,rfl,jT,vz,ez⟩:=si.get hlt;have HZ:Hid (z=0\/z∈O.take f):=ae (zH.out z (aK ez.out)).1;have HF:=ae (ih.out wr r b z HL HZ HZ0 om);have HS2:Hid ((ins.take (k+1)).foldl (fun s z=>gL N f z s) (pr,cd)=((gL N f z (r,b)).1,(gL N f z (r,b)).2)):=ae (by rw[take_at ez.out,C9,HS.out];rfl)
   go_wp2_with (go_at_call 137;refine(HF.out).mono ?_;rintro e u2 ⟨rfl,J,K⟩)
   go_roundw
   case rel=>exact⟨k+1,_,_,om,by go_num,J,HS2,ae (HK.out.trans K.out)⟩
   case measure=>simp[intOf];omega
  ·obtain rfl:k=M:=om;have wF:Hid (ins.foldl (fun s z=>gL N f z s) (pr,cd)=(r,b)):=ae (by have:=HS.out;rwa[dB (by rw[<-HI.out];exact az _)]at this);have IE:=ae (Gq.out wr r b HL om)
   go_wp2_with (go_at_call 134;refine(IE.out).mono ?_;rintro e u2 ⟨rfl,J,K⟩)
   refine⟨rfl,.tuple #[],by simp[results,Tryz.results137,go_sem],rfl,?_,ae (HK.out.trans K.out)⟩;rw[wF.out];exact J
theorem abV(hN:Hid (dX N O L l))[aX p a.AI a.nI a.BN m N](hs:Hid N.small):∀f,f<=1001->Um p a G m l fi kp N O f
 |0,_=>fun w pr cd id h hid b e=>by
  obtain rfl:id=0:=by
   rcases hid.out with h|h
   ·exact h
   ·simp at h
  exact abU (id:=0) h (aS _) e (ae (by show(pr.getD 0 false||decide (65536<cd.length))=true;rw[b.out];rfl))
 |f+1,hf=>anC hN hs om (ae (abV hN hs f om))
end
def AV(kp:List Bool)(l:Nat)(La:List Int)(i id:Nat):Bool:=!kp.getD id false&&(decide (id≠l)&&decide (La.getD id 0<=(i:Int)+1))
def zI(kp:List Bool)(fi:List Int)(q id:Nat):Bool:=!kp.getD id false||decide ((q:Int)<=fi.getD id 0)
section
variable{p w w' u:World}{a:vB}{G:vD}{m l c i q b1 b2:Nat}{A:Option Addr}{fi La:List Int}{kp pr:List Bool}{cd:List (Int×Int)}
theorem anF(h:Hid (gy p u a G m l ⟨fi,kp,pr,cd⟩))[E:Sl p a.AL (m+1) La][Bx u b1 168 #[.pointer G.g]][Bx u b2 3 #[i]](hi:i<=100000){id:Nat}(N:id<=m){b:Bool}(hb:Hid (AV kp l La i id=b)):
  Calls Tryz.prog 136 #[id,.pointer b1,.pointer b2] u (aM u (.bool b)):=by
 obtain⟨O,P⟩:=lM;obtain⟨A,c,hL⟩:=h.out;obtain⟨Q,R,S,T,U⟩:=hL.facts;obtain⟨r,y,B⟩:=lq (i:=id) hL.lk om;have F:=iN y;have C:(id:Int)<(m:Int)+1:=by omega
 obtain⟨V,X,z,I,J,v3,K⟩:=E.get (k:=id) om;have Y:IntKind.i64.wrap ((i:Int)+1)=(i:Int)+1:=by rw[bF];omega
 have e:=hb.out;rw[AV,B,xZ K.out]at e;clear y B;go_enter Tryz.func136,Tryz.ntmps136;rcases r with _|_
 ·by_cases j:id=l
  ·have L:((id:Int) !=(l:Int))=false:=by simp[j]
   obtain rfl:false=b:=by rw[<-e];simp[j]
   clear e j
   go_upto_region 1 with fail
   refine bZ aj (fun D _=>?_);refine ag 0 5 ?_;refine ag 1 6 ?_;refine ag 2 7 ?_;refine ag 3 8 ?_;refine ag 4 9 ?_;refine ag 5 10 ?_;refine ag 6 11 ?_;refine ag 7 12 ?_;refine ag 8 13 ?_;refine ag 9 14 ?_;refine ag 10 15 ?_;refine ag 11 16 ?_;refine ag 12 17 ?_;refine ag 13 18 ?_;refine ag 14 19 ?_;refine ag 15 20 ?_;refine ag 16 21 ?_;refine ax 17 22 ?_;refine ax 18 23 ?_;refine ax 19 24 ?_;refine ax 20 25 ?_;refine ax 21 26 ?_;refine ax 22 27 ?_;refine ax 23 28 ?_;refine ax 24 29 ?_;refine ax 25 30 ?_;refine ax 26 31 ?_;refine ag 27 32 ?_;refine ag 28 4 ?_;refine aO ?_
   go_wp2_with fail
   go_ret;exact⟨rfl,ai _ _⟩
  ·have L:((id:Int) !=(l:Int))=true:=by simp;omega
   have M:Hid (decide (z<=(i:Int)+1)=b):=ae (by rw[<-e];simp[j]);clear e j
   go_upto_region 1 with fail
   refine bZ aj (fun D _=>?_);refine ag 0 5 ?_;refine ag 1 6 ?_;refine ag 2 7 ?_;refine ag 3 8 ?_;refine ag 4 9 ?_;refine ag 5 10 ?_;refine ag 6 11 ?_;refine ag 7 12 ?_;refine ag 8 13 ?_;refine ag 9 14 ?_;refine ag 10 15 ?_;refine ag 11 16 ?_;refine ag 12 17 ?_;refine ag 13 18 ?_;refine ag 14 19 ?_;refine ag 15 20 ?_;refine ag 16 21 ?_;refine ag 17 22 ?_;refine ag 18 23 ?_;refine ag 19 24 ?_;refine ag 20 25 ?_;refine ag 21 26 ?_;refine ag 22 27 ?_;refine ag 23 28 ?_;refine ag 24 29 ?_;refine ag 25 30 ?_;refine ag 26 31 ?_;refine ag 27 32 ?_;refine ag 28 4 ?_;refine aO ?_
   go_wp2_with fail
   go_ret;exact⟨by rw[<-M.out];rfl,ai _ _⟩
 ·obtain rfl:false=b:=by rw[<-e];rfl
  clear e
  go_upto_region 1 with fail
  refine bZ aj (fun D _=>?_);refine ag 0 5 ?_;refine ag 1 6 ?_;refine ag 2 7 ?_;refine ag 3 8 ?_;refine ag 4 9 ?_;refine ag 5 10 ?_;refine ag 6 11 ?_;refine ag 7 12 ?_;refine ag 8 13 ?_;refine ax 9 14 ?_;refine ax 10 15 ?_;refine ax 11 16 ?_;refine ax 12 17 ?_;refine ax 13 18 ?_;refine ax 14 19 ?_;refine ag 15 20 ?_;refine ag 16 21 ?_;refine ax 17 22 ?_;refine ax 18 23 ?_;refine ax 19 24 ?_;refine ax 20 25 ?_;refine ax 21 26 ?_;refine ax 22 27 ?_;refine ax 23 28 ?_;refine ax 24 29 ?_;refine ax 25 30 ?_;refine ax 26 31 ?_;refine ag 27 32 ?_;refine ag 28 4 ?_;refine aO ?_
  go_wp2_with fail
  go_ret;exact⟨rfl,ai _ _⟩
theorem anG(h:Hid (gy p u a G m l ⟨fi,kp,pr,cd⟩))[Bx u b1 168 #[.pointer G.g]][Bx u b2 3 #[q]]{id:Nat}(J:id<=m){b:Bool}(hb:Hid (zI kp fi q id=b)):
  Calls Tryz.prog 138 #[id,.pointer b1,.pointer b2] u (aM u (.bool b)):=by
 have K:=@bf;obtain⟨A,c,hL⟩:=h.out;obtain⟨L,M,N,O,P⟩:=hL.facts;obtain⟨j,y,B⟩:=lq (i:=id) hL.lk om;have D:=iN y;have C:(id:Int)<(m:Int)+1:=by omega
 obtain⟨z,r⟩:∃z,fi[id]?=some z:=⟨_,List.getElem?_eq_getElem (by have:=hL.lf;dsimp only at this;omega)⟩;have E:(ints fi)[id]?=some (.int .i64 z):=by rw[Pm,r];rfl
 have e:=hb.out;rw[zI,B,xZ r]at e;clear y B r;go_enter Tryz.func138,Tryz.ntmps138;rcases j with _|_
 ·obtain rfl:true=b:=by rw[<-e];rfl
  clear e
  go_upto_region 1 with fail
  refine bZ aj (fun F _=>?_);refine ag 0 5 ?_;refine ag 1 6 ?_;refine ag 2 7 ?_;refine ag 3 8 ?_;refine ag 4 9 ?_;refine ag 5 10 ?_;refine ag 6 11 ?_;refine ag 7 12 ?_;refine ag 8 13 ?_;refine ax 9 14 ?_;refine ax 10 15 ?_;refine ax 11 16 ?_;refine ax 12 17 ?_;refine ax 13 18 ?_;refine ax 14 19 ?_;refine ax 15 20 ?_;refine ax 16 21 ?_;refine ax 17 22 ?_;refine ag 18 23 ?_;refine ag 19 4 ?_;refine aO ?_
  go_wp2_with fail
  go_ret;exact⟨rfl,ai _ _⟩
 ·have I:Hid (decide ((q:Int)<=z)=b):=ae (by rw[<-e];rfl);clear e
  go_upto_region 1 with fail
  refine bZ aj (fun F _=>?_);refine ag 0 5 ?_;refine ag 1 6 ?_;refine ag 2 7 ?_;refine ag 3 8 ?_;refine ag 4 9 ?_;refine ag 5 10 ?_;refine ag 6 11 ?_;refine ag 7 12 ?_;refine ag 8 13 ?_;refine ag 9 14 ?_;refine ag 10 15 ?_;refine ag 11 16 ?_;refine ag 12 17 ?_;refine ag 13 18 ?_;refine ag 14 19 ?_;refine ag 15 20 ?_;refine ag 16 21 ?_;refine ag 17 22 ?_;refine ag 18 23 ?_;refine ag 19 4 ?_;refine aO ?_
  go_wp2_with fail
  go_ret;exact⟨by rw[<-I.out];rfl,ai _ _⟩
theorem anH[Sl p a.AL (m+1) La](k1:aD u b1 168 #[.pointer G.g])(k2:aD u b2 3 #[i])(n1:b1≠G.g/\b1≠G.P)(j:b2≠G.g/\b2≠G.P)(hi:i<=100000):
  Hid (∀(u':World) (b:List Bool) (e:List (Int×Int)) (id:Nat),1<=id->id<=m->Hid (gy p u' a G m l ⟨fi,kp,b,e⟩)->Hid (Kl G u u')->Calls Tryz.prog 136 #[.int .i64 (id:Int),.pointer b1,.pointer b2] u' (aM u' (.bool (AV kp l La i id)))):=
 ae fun u' b e id _ y h r=>by
  have:Bx u' b1 168 #[.pointer G.g]:=⟨r.out.blk k1 n1.1 n1.2 ah⟩;have:Bx u' b2 3 #[i]:=⟨r.out.blk k2 j.1 j.2 ah⟩;exact anF h hi y (ae rfl)
theorem anI(k1:aD u b1 168 #[.pointer G.g])(k2:aD u b2 3 #[q])(n1:b1≠G.g/\b1≠G.P)(j:b2≠G.g/\b2≠G.P):
  Hid (∀(u':World) (b:List Bool) (e:List (Int×Int)) (id:Nat),1<=id->id<=m->Hid (gy p u' a G m l ⟨fi,kp,b,e⟩)->Hid (Kl G u u')->Calls Tryz.prog 138 #[.int .i64 (id:Int),.pointer b1,.pointer b2] u' (aM u' (.bool (zI kp fi q id)))):=
 ae fun u' b e id _ y h r=>by
  have:Bx u' b1 168 #[.pointer G.g]:=⟨r.out.blk k1 n1.1 n1.2 ah⟩;have:Bx u' b2 3 #[q]:=⟨r.out.blk k2 j.1 j.2 ah⟩;exact anG h y (ae rfl)
end
def oI(m:Nat)(kp:List Bool)(l:Nat)(La:List Int):List Int->Nat->iI->iI
 |[],_,s=>s
 |id::r,i,s=>oI m kp l La r (i+1) (swp (AV kp l La i) (s.1.set id.toNat true,s.2++[(1,id)]) m)
section
variable{p w w' u:World}{a:vB}{G:vD}{m l c i q b1 b2:Nat}{A:Option Addr}{fi La O:List Int}{kp pr:List Bool}{cd:List (Int×Int)}
theorem gy.ne(h:gy p u a G m l ⟨fi,kp,pr,cd⟩){g:Nat}(hg:u.heap.size<=g):g≠G.g/\g≠G.P:=by
 obtain⟨A,c,h⟩:=h;have b:=h.bx.lt;have e:=h.pr.lt;omega
theorem abW(h:Hid (gy p w a G m l ⟨fi,kp,pr,cd⟩))(N:1<=m)(hm:m<=512)(hl:cd.length<=10)[P:Sl p a.AO m O][Sl p a.AL (m+1) La](hO:Hid (∀id∈O,1<=id/\id<=m)){z:List Bool}{B:List (Int×Int)}(hF:Hid (oI m kp l La O 0 (pr,cd)=(z,B))):
  Calls Tryz.prog 80 #[.pointer G.g] w (AU p a G m l ⟨fi,kp,z,B⟩ w):=by
 obtain⟨CB,CP,FB⟩:=iK;have Q:Hid (m=O.length):=ae P.len;obtain⟨b9,q9,z9,R,Jr,-⟩:=P.get (k:=0) N;go_enter Tryz.func80,Tryz.ntmps80
 go_upto_region 1 with fail
 refine bI (fun u _ S=>?_);have E:=ae (h.out.at (w':=u));have C:=h.out.ne (az _);obtain⟨A0,c0,K⟩:=E.out;obtain⟨p9,kb,-⟩:=K.facts
 go_upto_region 2 with fail
 go_loopw [9] (fun i wr=>∃(j:Nat) (r:List Bool) (b:List (Int×Int)),j<=m/\i=.int .i64 j/\Hid (gy p wr a G m l ⟨fi,kp,r,b⟩)/\Hid (oI m kp l La (O.drop j) j (r,b)=(z,B))/\Hid (Kl G u wr)/\Hid (b.length<=10+j*513)) (fun i _=>m-(intOf i).toNat)
 case atStart=>exact⟨0,pr,cd,aS _,rfl,E,hF,ae Kl.of,ae om⟩
 case round=>
  clear E hF kb p9 K;obtain⟨j,r,b,hj,rfl,E,HS,T,HC⟩:=hrel;obtain⟨A',c',hL⟩:=E.out;have p9:=hL.prev;have k1:Bx wr w.heap.size 168 #[.pointer G.g]:=⟨T.out.blk S.blk C.1 C.2 ah⟩;clear hL;by_cases U:j<m
  ·obtain⟨b8,q8,id,y,ob8,v9,L⟩:=P.get U;rw[R]at y;injection y with y;injection y with y X;subst y X
   obtain⟨Y,Z⟩:=hO.out id (aK L.out);obtain⟨q,rfl⟩:=eF (show 0<=id by omega);have hq:q<=m:=om;have hcl:b.length<=270000:=by have:=HC.out;have:j*513<=512*513:=qV _ om;omega
   obtain⟨⟨M,F⟩,D⟩:=lh (swp (AV kp l La j) (r.set q true,b++[(1,(q:Int))]) m);have Uo:=ae D;have HS2:Hid (oI m kp l La (O.drop (j+1)) (j+1) (M,F)=(z,B)):=ae (by
    have h:=HS.out;obtain⟨h1,h2⟩:=aY.1 L.out;rw[jE h1,h2,oI,dD,D]at h;exact h)
   have IE:Hid (F.length<=10+(j+1)*513):=ae (by
    have h:=(JK (AV kp l La j) (r.set q true,b++[(1,(q:Int))]) m).1;rw[D]at h;simp only[cu,Hl]at h;have:=HC.out;rw[Hr];omega)
   have I:=E.out.ne (az _);clear D Y Z
   go_wp2_with (first|(go_at_call 134;(with_reducible refine qZ (fun u0 _ k2=>?_));(with_reducible refine(abR (V:=⟨fi,kp,r,b⟩) (ae (E.out.at (w':=u0))) (show b.length<=1000000 by omega) 1 hq).mono ?_);rintro e u1 ⟨rfl,JM,J⟩;have k3:=J.out.blk k2.blk I.1 I.2 ah;have k4:=J.out.blk (k1.blk.at (w':=u0)) C.1 C.2 ah;obtain⟨kx3,kx4⟩:Bx u1 wr.heap.size 3 #[j]/\Bx u1 w.heap.size 168 #[.pointer G.g]:=⟨⟨k3⟩,⟨k4⟩⟩;have Gy:=anH (p:=p) (a:=a) (G:=G) (m:=m) (l:=l) (fi:=fi) (kp:=kp) (La:=La) k4 k3 C I (show j<=100000 by omega))|(go_at_call 135;refine(abT (g:=136) JM om bD (enters_of Tryz.func136 aj rfl) Gy Uo).mono ?_;rintro e u2 ⟨rfl,HL2,lN⟩))
   go_roundw
   case rel=>exact⟨j+1,M,F,om,by go_num,HL2,HS2,ae (((T.out.trans Kl.of).trans J.out).trans lN.out),IE⟩
   case measure=>simp[intOf];omega
  ·obtain rfl:j=m:=om;have hS2:r=z/\b=B:=by
    have h:=HS.out;rw[kL (by rw[<-Q.out];exact az _)]at h;exact nD h
   obtain⟨rfl,rfl⟩:=hS2
   go_wp2_with fail
   refine⟨rfl,.tuple #[],by simp[results,Tryz.results80,go_sem],rfl,ae (gy.at E.out),ae (Kl.of.trans T.out)⟩
end
def Uq(N:aI)(id:Int)(s:iI):iI:=(((bG N id).foldl (fun s z=>gL N 1001 z s) s).1,((bG N id).foldl (fun s z=>gL N 1001 z s) s).2++[(6,id)])
def wM(N:aI)(m:Nat)(kp:List Bool)(fi O:List Int):Nat->iI->iI
 |0,s=>s
 |q+1,s=>if 65536<s.2.length then s else wM N m kp fi O q (swp (zI kp fi (q+1)) (Uq N (O.getD q 0) s) m)
def Us(w:World)(t:Value):Nat:=
 match t with
 |.pointer (some ad)=>match w.cell? ad with
  |some v=>(intOf v).toNat
  |none=>0
 |_=>0
theorem abY{w:World}{b:Nat}{T:TypeId}{z:Int}(h:aD w b T #[z]):Us w (.pointer b)=z.toNat:=by
 have:=h.cell 0;simp at this;simp[Us,this,intOf]
section
variable{p w w' u:World}{a:vB}{G:vD}{m l c i q b1 b2:Nat}{A:Option Addr}{fi La O:List Int}{kp pr:List Bool}{cd:List (Int×Int)}{N:aI}{L:List (List Int)}
theorem abZ(hN:Hid (dX N O L l))[ni:aX p a.AI a.nI a.BN m N](hs:Hid N.small)(h:Hid (gy p w a G m l ⟨fi,kp,pr,cd⟩))(hm1:1<=m)(hm:m<=512)[sO:Sl p a.AO m O](h0:Hid (pr.getD 0 false=true)){C:List Bool}{D:List (Int×Int)}(hF:Hid (wM N m kp fi O m (pr,cd)=(C,D))):
  Calls Tryz.prog 83 #[.pointer G.g] w (AU p a G m l ⟨fi,kp,C,D⟩ w):=by
 obtain⟨CB,CP,FB⟩:=iK;have HM:Hid (m=N.nodes.length):=ae ni.len;have DI:Hid (m=O.length):=ae sO.len;have wH:Hid (∀id∈O,1<=id/\id<=m):=ae fun id hid=>by have:=dR.1 (hN.out.lV.ids id hid);rw[<-HM.out]at this;exact this
 have HFO:=ae (abV (p:=p) (a:=a) (G:=G) (m:=m) (fi:=fi) (kp:=kp) hN hs 1001 (az _));obtain⟨b9,q9,z9,hAO,Jr,-⟩:=sO.get (k:=0) hm1;obtain⟨b0,q0,-,-,-,-,-,-,-,-,-,-,-,-,hBN,Rz,-⟩:=ni.node hm1;go_enter Tryz.func83,Tryz.ntmps83
 go_upto_region 1 with fail
 refine bI (fun u _ Oj=>?_);have R:=ae (h.out.at (w':=u));have E:=h.out.ne (az _);have r:=R.out.ne (az _);obtain⟨A0,c0,hL0⟩:=R.out;obtain⟨p9,kb,-⟩:=hL0.facts;clear hL0
 go_upto_region 2 with fail
 refine bI (fun v _ uJ=>?_);go_loopw [2] (fun t wr=>∃(q b2:Nat) (j:List Bool) (b:List (Int×Int)),q<=m/\t=.pointer b2/\Bx wr b2 3 #[q]/\Hid (b2≠G.g/\b2≠G.P)/\Hid (gy p wr a G m l ⟨fi,kp,j,b⟩)/\Hid (wM N m kp fi O q (j,b)=(C,D))/\Hid (Kl G u wr)/\Hid (j.getD 0 false=true)) (fun t wr=>Us wr t)
 case atStart=>exact⟨m,_,pr,cd,az _,rfl,uJ,ae r,ae (R.out.at (w':=v)),hF,ae Kl.of,h0⟩
 case round=>
  clear R hF kb p9 r h0;obtain⟨q,b2,j,b,hq,rfl,k2,Ut,R,HS,HK,H0⟩:=hrel;obtain⟨A',c',hL⟩:=R.out;obtain⟨p9,kb,-⟩:=hL.facts;clear hL;have k1:Bx wr w.heap.size 168 #[.pointer G.g]:=⟨HK.out.blk Oj.blk.at E.1 E.2 ah⟩;have hex:∀(x:World),ak x wr->j=C->b=D->gy p x a G m l ⟨fi,kp,C,D⟩/\Kl G w x:=fun x _ e1 e2=>by
   subst e1 e2;exact⟨R.out.at,(Kl.of.trans HK.out).trans Kl.of⟩
  have HEX:=ae hex;clear hex;by_cases hq0:q=0
  ·subst hq0;obtain⟨e1,e2⟩:j=C/\b=D:=nD HS.out;have t1:decide ((1:Int)<=((0:Nat):Int))=false:=by decide
   go_wp2_with fail
   obtain⟨g1,g2⟩:=HEX.out wr ⟨bq _ _⟩ e1 e2;exact⟨rfl,.tuple #[],by simp[results,Tryz.results83,go_sem],rfl,ae g1,ae g2⟩
  ·obtain⟨q,rfl⟩:∃t,q=t+1:=⟨q-1,om⟩;have t1:decide ((1:Int)<=((q+1:Nat):Int))=true:=by simp;omega
   obtain⟨mb,K⟩:=lh (decide (65536<(b.length:Int)));have FL:=ae K;rcases mb with _|_
   ·have hcd:b.length<=65536:=by have:=of_decide_eq_false K;omega
    obtain⟨b8,q8,id,F,ob8,v9,xQ⟩:=sO.get (k:=q) om;rw[hAO]at F;injection F with F;injection F with F Ol;subst F Ol
    obtain⟨Aw,Ay⟩:=wH.out id (aK xQ.out);obtain⟨t,ht⟩:=eF (show 0<=id-1 by omega);obtain rfl:id=(t:Int)+1:=by omega
    have xR:t<m:=om;have w3:IntKind.i64.wrap (q:Int)=(q:Int):=by rw[bF];omega
    have w4:(q:Int)<(m:Int):=by omega
    have w2:(t:Int)+1-1=t:=by omega
    obtain⟨b7,q7,o,A1,n1,c1,I,nn,ci,ins,P,np,cp,ps,J,TM,⟨v0,v1,v2,v3,v4,v5,v6,v7,v8,Ed⟩,s1,si,sp,l1,li,lp,ik,Y⟩:=ni.node xR;rw[hBN]at J;injection J with J;injection J with J hB8;subst J hB8
    have hni:nn<=1000:=by have:=hs.out.2 _ (aK Y.out);rw[si.len];exact this
    have HI:Hid (nn=ins.length):=ae si.len;have U:bG N ((t:Int)+1)=ins:=by rw[bG,show((t:Int)+1-1).toNat=t from by omega,Y.out];rfl
    have zH:Hid (∀z∈ins,z=0\/z∈O.take 1001):=ae fun z hz=>by
     have hz2:=hN.out.iR _ (aK Y.out) z hz;by_cases e:z=0
     ·exact .inl e
     ·right;rw[dB (by rw[<-DI.out];omega)];exact hN.out.mem.2 (dR.2 om)
    have HS2:Hid (wM N m kp fi O q (swp (zI kp fi (q+1)) (((ins.foldl (fun s z=>gL N 1001 z s) (j,b)).1),((ins.foldl (fun s z=>gL N 1001 z s) (j,b)).2)++[(6,(t:Int)+1)]) m)=(C,D)):=ae (by
     have M:=HS.out;rw[wM,if_neg (by show¬65536<b.length;omega),xZ xQ.out,Uq,U]at M;exact M)
    have HP0:Hid (∀k,((ins.take k).foldl (fun s z=>gL N 1001 z s) (j,b)).1.getD 0 false=true/\((ins.take k).foldl (fun s z=>gL N 1001 z s) (j,b)).2.length<=66538):=ae fun k=>
     JL (I:=fun s:iI=>s.1.getD 0 false=true/\s.2.length<=66538) _ _ ⟨H0.out,by show b.length<=66538;omega⟩ fun s x _ hs=>⟨Uk 1001 x s hs.1,by have:=(Ul (N:=N) 1001 x s).1;omega⟩
    have r:=Ut.out;clear ht Aw Ay U K HS
    go_upto_region 4 with(go_at_call 84;refine(Gx (V:=⟨fi,kp,j,b⟩) (ae (R.out.at (w':=wr))) FL).mono ?_;rintro e u5 ⟨rfl,_⟩)
    refine bZ aj (fun u6 _=>?_);refine ag 0 20 ?_;refine ag 1 21 ?_;refine ag 2 22 ?_;refine ag 3 23 ?_;refine ag 4 24 ?_;refine ag 5 25 ?_;refine ag 6 26 ?_;refine ag 7 27 ?_;refine ag 8 3 ?_;refine aO ?_
    go_upto_region 6 with fail
    have HL6:=ae (R.out.at (w':=u6));have Z:Hid (Kl G wr u6):=ae Kl.of;clear kb p9;go_loopw [39] (fun i wy=>∃(k:Nat) (B:List Bool) (y:List (Int×Int)),k<=nn/\i=.int .i64 k/\Hid (gy p wy a G m l ⟨fi,kp,B,y⟩)/\Hid ((ins.take k).foldl (fun s z=>gL N 1001 z s) (j,b)=(B,y))/\Hid (Kl G u6 wy)) (fun i _=>nn-(intOf i).toNat)
    case atStart=>exact⟨0,j,b,aS _,rfl,HL6,ae rfl,ae Kl.of⟩
    case round=>
     obtain⟨k,B,y,hk,rfl,Aj,wF,S⟩:=hrel;obtain⟨A3,c3,hL3⟩:=Aj.out;have p9:=hL3.prev;have hz0:=(HP0.out k).1;have hz1:=(HP0.out k).2;rw[wF.out]at hz0 hz1;have HZ0:=ae hz0;dsimp only at hz1;have k1y:Bx wr w.heap.size 168 #[.pointer G.g]:=⟨((Z.out.trans S.out).blk k1.blk E.1 E.2 ah)⟩;have k2y:Bx wr b2 3 #[.int .i64 ((q+1:Nat):Int)]:=⟨((Z.out.trans S.out).blk k2.blk r.1 r.2 ah)⟩;clear hz0 hL3;by_cases hlt:k<nn
     ·obtain⟨b4,q4,z,rfl,Uu,vz,ez⟩:=si.get hlt;have HZ:Hid (z=0\/z∈O.take 1001):=ae (zH.out z (aK ez.out));have HF:=ae (HFO.out wr B y z Aj HZ HZ0 om);have HS4:Hid ((ins.take (k+1)).foldl (fun s z=>gL N 1001 z s) (j,b)=((gL N 1001 z (B,y)).1,(gL N 1001 z (B,y)).2)):=ae (by rw[take_at ez.out,C9,wF.out];rfl)
      go_wp2_with (go_at_call 137;refine(HF.out).mono ?_;rintro e u7 ⟨rfl,Uv,Q⟩)
      go_roundw
      case rel=>exact⟨k+1,_,_,om,by go_num,Uv,HS4,ae (S.out.trans Q.out)⟩
      case measure=>simp[intOf];omega
     ·obtain rfl:k=nn:=om;have X:ins.foldl (fun s z=>gL N 1001 z s) (j,b)=(B,y):=by have:=wF.out;rwa[dB (by rw[<-HI.out];exact az _)]at this
      have M:=HS2.out;rw[X]at M;dsimp only at M;obtain⟨⟨pr4,cd4⟩,T⟩:=lh (swp (zI kp fi (q+1)) (B,y++[(6,(t:Int)+1)]) m);rw[T]at M;have rO:=ae M;have Uo:=ae T;have HZ4:Hid (pr4.getD 0 false=true):=ae (by
       have:=Uj (zI kp fi (q+1)) (B,y++[(6,(t:Int)+1)]) m;rw[T]at this;exact this.trans HZ0.out)
      clear T M X
      go_wp2_with (first|(go_at_call 81;refine(Ew Aj (show y.length<=1000000 by omega) 6 ((t:Int)+1)).mono ?_;rintro e u7 ⟨rfl,Uv,Q⟩;obtain⟨k1z,k2z⟩:Bx u7 w.heap.size 168 #[.pointer G.g]/\Bx u7 b2 3 #[.int .i64 ((q+1:Nat):Int)]:=⟨⟨Q.out.blk k1y.blk E.1 E.2 ah⟩,⟨Q.out.blk k2y.blk r.1 r.2 ah⟩⟩;have Gy:=anI (p:=p) (a:=a) (G:=G) (m:=m) (l:=l) (fi:=fi) (kp:=kp) k1z.blk k2z.blk E r)|(go_at_call 135;refine(abT (g:=138) Uv om bD (enters_of Tryz.func138 aj rfl) Gy Uo).mono ?_;rintro e u8 ⟨rfl,HL8,HK8⟩;have k2w:Bx u8 b2 3 #[.int .i64 ((q+1:Nat):Int)]:=⟨HK8.out.blk k2z.blk r.1 r.2 ah⟩))
      exact⟨⟨q,u8.heap.size,pr4,cd4,om,rfl,Bx.new,ae (HL8.out.ne (az _)),ae (HL8.out.at),rO,ae ((((((HK.out.trans Z.out).trans S.out).trans Q.out).trans HK8.out)).trans Kl.of),HZ4⟩,by rw[abY Bx.new.blk,abY k2.blk];omega⟩
   ·obtain⟨e1,e2⟩:j=C/\b=D:=by
     have M:=HS.out;rw[wM,if_pos (by have:=Bu K;show 65536<b.length;omega)]at M;exact nD M
    clear K
    go_wp2_with (go_at_call 84;refine(Gx (V:=⟨fi,kp,j,b⟩) (ae (R.out.at (w':=wr))) FL).mono ?_;rintro e u5 ⟨rfl,_⟩)
    obtain⟨g1,g2⟩:=HEX.out u5 iin e1 e2;exact⟨rfl,.tuple #[],by simp[results,Tryz.results83,go_sem],rfl,ae g1,ae g2⟩
end
end Go.Proofs.YtmkjnlifimffkaaGreat
