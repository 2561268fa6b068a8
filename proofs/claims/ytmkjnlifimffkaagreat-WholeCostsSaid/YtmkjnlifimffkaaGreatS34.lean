/- Lemmas. No condition. -/
import Derived.Test.YtmkjnlifimffkaaGreatS33
namespace Go.Proofs.YtmkjnlifimffkaaGreat
open Go.RowKit
set_option linter.all false
set_option maxRecDepth 100000
set_option maxHeartbeats 16000000
noncomputable def fZ(N:aI)(O:List Int)(L:List (List Int))(l:Nat)(P:List TV)(x:TV)(d:Nat):List TV×List TV:=JC N P (ed N P x) (wK N L l P) (O.reverse.take d)
structure qP where
 A:bL
 tb:Bool->Tb
 T:Bool->Int->Option (List Int)
 G:List TV
 X:TV
 lo:Int
structure gM(N:aI)(O:List Int)(L:List (List Int))(l:Nat)(P:List TV)(x:TV):Prop where
 hN:dX N O L l
 hE:bU N=0
 hO:fQ N=0
 hF:rJ N P x
 hL:gZ N=(O,L,(l:Int))
structure gz(N:aI)(O:List Int)(L:List (List Int))(l:Nat)(P:List TV)(x:TV)(cap:Int)(s:di)(e:qP):Prop where
 mb:dK e.A e.tb e.T
 lv:(e.A.lv:Int)=s.now
 pe:(e.A.pe:Int)=s.fE
 np:s.now<=s.fE
 cap:(e.A.cap:Int)=cap
 tt:∀id:Int,e.T false id=if 1<=id/\id<=N.nodes.length/\s.present.getD id.toNat false=true then some ((ed N P x).getD id.toNat T0).2 else none
 gg:∀id:Int,e.T true id=if 1<=id/\id<=N.nodes.length/\s.aT.getD id.toNat false=true then some ((fZ N O L l P x s.done.toNat).1.getD id.toNat T0).2 else none
 gs:∀id:Int,1<=id->id<=N.nodes.length->(s.aT.getD id.toNat false=true↔s.gu=true/\((fZ N O L l P x s.done.toNat).1.getD id.toNat T0).2≠[]/\id∉O.reverse.take s.done.toNat)
 sd:s.gu=false->s.done=0
 d0:0<=s.done
 d1:s.done<=O.length
 G:e.G=(fZ N O L l P x s.done.toNat).2
 X:e.X=(fZ N O L l P x s.done.toNat).1.getD 0 T0
 em:s.gG=true->e.lo=Ct N P x
 ps:∀id:Nat,1<=id->s.present.getD id false=true->s.saved.getD id false=true
 lp:s.present.length=N.nodes.length+1
 ls:s.saved.length=N.nodes.length+1
 lg:s.aT.length=N.nodes.length+1
def eH(L:List (List Int))(z:Int):Nat:=(bJ (L.getD z.toNat [])).toNat
section
variable{N:aI}{O D R:List Int}{L:List (List Int)}{l i:Nat}{P vals gr:List TV}{x:TV}{cap kd id z:Int}{s:di}{e e':qP}{A':bL}{iE:Bool->Tb}
theorem je{L:List Bool}{i j:Nat}{b:Bool}(h:i<L.length):(L.set i b).getD j false=if i=j then b else L.getD j false:=by
 by_cases e:i=j
 ·subst e;rw[if_pos rfl,aQ,qX h];rfl
 ·rw[if_neg e,aQ,Bp e,<-aQ]
theorem AY(h:1<=id):(aC N cap).ins.getD id.toNat []=bG N id:=by
 show([]::N.nodes.map (·.ins)).getD id.toNat []=_
 rw[show id.toNat=(id-1).toNat+1 from om,List.getD_cons_succ,aQ,dE];rfl
theorem gM.words(c:gM N O L l P x):(aC N cap).words=L.map bJ:=by
 exact(JP c.hO c.hL c.hN).1
theorem gM.len(c:gM N O L l P x):L.length=N.nodes.length+1:=c.hN.len
theorem gM.word(c:gM N O L l P x)(m:0<=z)(b:z<=N.nodes.length):(aC N cap).words.getD z.toNat 0=(eH L z:Int)/\1<=eH L z/\eH L z<=65536:=by
 have hr:=c.hN.right c.hF m b;have j:z.toNat<L.length:=by rw[c.len];omega
 have e:(aC N cap).words.getD z.toNat 0=bJ (L.getD z.toNat []):=by
  rw[c.words,aQ,dE,aQ,aW j];rfl
 obtain⟨n,b,r,u⟩:=pQ hr;have y:bJ (L.getD z.toNat [])=(n:Int):=by rw[bJ,if_pos hr,b]
 rw[e,eH,y];exact⟨au,by simpa using r,by simpa using u⟩
theorem JU{t:TV}(h:TV.ok t)(hs:t.1=L.getD z.toNat []):t.2.length=eH L z:=by
 have j:=h.len;have b:=h.right;rw[eH,<-hs,bJ,if_pos b];omega
theorem gM.val(c:gM N O L l P x)(m:1<=z)(r:z<=N.nodes.length):((ed N P x).getD z.toNat T0).1=L.getD z.toNat []/\TV.ok ((ed N P x).getD z.toNat T0)/\((ed N P x).getD z.toNat T0).2.length=eH L z:=by
 obtain⟨b,j⟩:=(Cr c.hN c.hF).sh z (c.hN.mem.2 (dR.2 ⟨m,r⟩));exact⟨b,j,JU j b⟩
theorem gM.aog(c:gM N O L l P x):(aC N cap).words.length=N.nodes.length+1:=by rw[c.words,dF,c.len]
theorem gM.jl(c:gM N O L l P x):(aC N cap).jl=l:=by
 show(iH N).toNat=l
 rw[c.hN.iH];rfl
theorem UC(c:gM N O L l P x)(h:iV (aC N cap) s kd id=0)(j:kd=1\/kd=2\/kd=3\/kd=6):1<=id/\id<=N.nodes.length/\fV (aC N cap) s kd id.toNat=true/\s.now+bK (aC N cap) s kd id.toNat<=cap:=by
 obtain⟨b,m,r,u⟩:=CE h;rw[AQ j]at b;simp only[dm,dU]at b;rw[c.aog]at m;exact⟨b.1,om,r,u⟩
theorem ach(b:1<=id)(h:nL (aC N cap) s id.toNat=true):∀z∈bG N id,s.present.getD z.toNat false=true:=by
 unfold nL at h;rw[AY b,fK]at h;exact h
theorem gz.ins(c:gM N O L l P x)(h:gz N O L l P x cap s e)(b:1<=id)(m:id<=N.nodes.length)(hr:nL (aC N cap) s id.toNat=true):∀z∈bG N id,z=0\/(1<=z/\z<=N.nodes.length/\e.T false z=some ((ed N P x).getD z.toNat T0).2):=fun z j=>by
 obtain⟨v,hv,_,_,hi,hm⟩:=c.hN.at (dR.2 ⟨b,m⟩);have hb:=c.hN.iR v hm z (by rw[<-hi];exact j);by_cases r:z=0
 ·exact .inl r
 ·exact .inr ⟨om,hb.2,by rw[h.tt,if_pos ⟨om,hb.2,ach b hr z j⟩]⟩
theorem gz.comp(c:gM N O L l P x)(h:gz N O L l P x cap s e)(M:iV (aC N cap) s kd id=0)(E:kd=1\/kd=2):
  (1<=id/\id<=N.nodes.length/\e.T false id=none/\(∀z∈bG N id,z=0\/(1<=z/\z<=N.nodes.length/\e.T false z=some ((ed N P x).getD z.toNat T0).2))/\(e.A.lv:Int)+eH L id<=e.A.cap)/\
  ∀(A':bL) (iE:Bool->Tb),dK A' iE (iG e.T false id (some ((ed N P x).getD id.toNat T0).2))->A'.lv=e.A.lv+eH L id->A'.pe=max e.A.pe (e.A.lv+eH L id)->A'.cap=e.A.cap->
   gz N O L l P x cap (bB (aC N cap) s kd id) {e with A:=A',tb:=iE,T:=iG e.T false id (some ((ed N P x).getD id.toNat T0).2)}:=by
 obtain⟨F,B,j,Q⟩:=UC c M om;obtain⟨S,w2,w3⟩:=c.word (cap:=cap) (z:=id) om B;have hm:bK (aC N cap) s kd id.toNat=(eH L id:Int):=by rw[bK,if_pos E,S]
 rw[hm]at Q;have m:s.present.getD id.toNat false=false/\nL (aC N cap) s id.toNat=true:=by
  rcases E with rfl|rfl
  ·rw[fV,if_pos rfl,dm]at j;refine⟨?_,j.2⟩;cases hp:s.present.getD id.toNat false with
   |false=>rfl
   |true=>
    have:=h.ps id.toNat om hp;rw[this]at j;exact absurd j.1 ah
  ·rw[fV,if_neg ah,if_pos rfl,dm,dm]at j;exact⟨by simpa using j.1.2,j.2⟩
 have hq:id.toNat<s.present.length:=by rw[h.lp];omega
 have I:id.toNat<s.saved.length:=by rw[h.ls];omega
 have U:=h.lv;have V:=h.pe;have r:=h.cap;refine⟨⟨F,B,?_,h.ins c F B m.2,om⟩,fun A' iE J Y hp K=>?_⟩
 ·rw[h.tt,if_neg (by rw[m.1];intro ⟨_,_,b⟩;cases b)]
 ·have Z:bB (aC N cap) s kd id=⟨s.present.set id.toNat true,s.saved.set id.toNat true,s.aT,s.gG,s.gu,s.done,s.now+(eH L id:Int),max s.fE (s.now+(eH L id:Int))⟩:=by
   unfold bB;dsimp only;rw[if_pos E,hm]
  rw[Z];refine⟨J,by show((A'.lv:Nat):Int)=_;rw[Y];dsimp only;omega,by show((A'.pe:Nat):Int)=_;rw[hp];dsimp only;omega,by dsimp only;omega,by show((A'.cap:Nat):Int)=_;rw[K];exact r,fun y=>?_,fun y=>?_,h.gs,h.sd,h.d0,h.d1,h.G,h.X,h.em,fun y C=>?_,by simpa using h.lp,by simpa using h.ls,h.lg⟩
  ·dsimp only;by_cases C:y=id
   ·subst C;rw[xq,if_pos ⟨F,B,by rw[je hq,if_pos rfl]⟩]
   ·rw[nW (fun b=>C b.2),h.tt];by_cases u:1<=y
    ·rw[show(s.present.set id.toNat true).getD y.toNat false=s.present.getD y.toNat false from by rw[je hq,if_neg om]]
    ·rw[if_neg (fun b=>u b.1),if_neg (fun b=>u b.1)]
  ·dsimp only;rw[nW (fun b=>absurd b.1 ah)];exact h.gg y
  ·dsimp only;rw[je hq,je I]
   split
   ·intro _;rfl
   ·exact h.ps y C
theorem gz.freed(c:gM N O L l P x)(h:gz N O L l P x cap s e)(I:iV (aC N cap) s 3 id=0):
  (1<=id/\id<=N.nodes.length/\e.T false id=some ((ed N P x).getD id.toNat T0).2)/\
  ∀(A':bL) (iE:Bool->Tb),dK A' iE (iG e.T false id none)->A'.lv+((ed N P x).getD id.toNat T0).2.length=e.A.lv->A'.pe=e.A.pe->A'.cap=e.A.cap->
   gz N O L l P x cap (bB (aC N cap) s 3 id) {e with A:=A',tb:=iE,T:=iG e.T false id none}:=by
 obtain⟨u,m,F,V⟩:=UC c I om;obtain⟨J,Y,Z⟩:=c.word (cap:=cap) (z:=id) om m;obtain⟨v1,v2,v3⟩:=c.val u m;have B:s.present.getD id.toNat false=true:=by rw[fV,if_neg ah,if_neg ah,if_pos rfl]at F;exact F
 have hq:id.toNat<s.present.length:=by rw[h.lp];omega
 have K:=h.lv;have M:=h.pe;have Q:=h.np;refine⟨⟨u,m,by rw[h.tt,if_pos ⟨u,m,B⟩]⟩,fun A' iE C S hp E=>?_⟩;have U:bB (aC N cap) s 3 id=⟨s.present.set id.toNat false,s.saved,s.aT,s.gG,s.gu,s.done,s.now+0-(eH L id:Int),max s.fE (s.now+0)⟩:=by
  unfold bB;dsimp only;rw[if_neg ah,if_pos rfl,J];rfl
 rw[U];rw[v3]at S;refine⟨C,by show((A'.lv:Nat):Int)=_;dsimp only;omega,by show((A'.pe:Nat):Int)=_;rw[hp];dsimp only;omega,by dsimp only;omega,by show((A'.cap:Nat):Int)=_;rw[E];exact h.cap,fun y=>?_,fun y=>?_,h.gs,h.sd,h.d0,h.d1,h.G,h.X,h.em,fun y r=>?_,by simpa using h.lp,h.ls,h.lg⟩
 ·dsimp only;by_cases r:y=id
  ·subst r;rw[xq,if_neg (fun b=>by have:=b.2.2;rw[je hq,if_pos rfl]at this;cases this)]
  ·rw[nW (fun b=>r b.2),h.tt];by_cases j:1<=y
   ·rw[show(s.present.set id.toNat false).getD y.toNat false=s.present.getD y.toNat false from by rw[je hq,if_neg om]]
   ·rw[if_neg (fun b=>j b.1),if_neg (fun b=>j b.1)]
 ·dsimp only;rw[nW (fun b=>absurd b.1 ah)];exact h.gg y
 ·dsimp only;rw[je hq]
  split
  ·intro b;cases b
  ·exact h.ps y r
theorem aci(h:iV (aC N cap) s kd id=0)(j:kd=4\/kd=5):id=0/\fV (aC N cap) s kd 0=true/\s.now+bK (aC N cap) s kd 0<=cap:=by
 obtain⟨b,u,m,r⟩:=CE h;rw[Oi j]at b;obtain rfl:id=0:=by simpa using b
 exact⟨rfl,m,r⟩
theorem gz.emit(c:gM N O L l P x)(h:gz N O L l P x cap s e)(m:iV (aC N cap) s 4 id=0):
  e.T false (l:Int)=some ((ed N P x).getD l T0).2/\gz N O L l P x cap (bB (aC N cap) s 4 id) {e with lo:=((ed N P x).getD l T0).2.getD 0 0}:=by
 obtain⟨rfl,j,B⟩:=aci m (.inl rfl);have l1:=c.hN.xV;have C:=c.hN.vk;have b:s.present.getD l false=true:=by
  rw[fV,if_neg ah,if_neg ah,if_neg ah,if_pos rfl,dm,c.jl]at j;exact j.1
 have r:=h.pe;have u:=h.np;refine⟨by rw[h.tt,if_pos ⟨om,om,by rw[dD];exact b⟩,dD],?_⟩;have y:bB (aC N cap) s 4 0=⟨s.present,s.saved,s.aT,true,s.gu,s.done,s.now+0,max s.fE (s.now+0)⟩:=by
  unfold bB;dsimp only;rw[if_neg ah,if_neg ah,if_pos rfl];rfl
 rw[y];refine⟨h.mb,by have:=h.lv;dsimp only;omega,by dsimp only;omega,by dsimp only;omega,h.cap,h.tt,h.gg,h.gs,h.sd,h.d0,h.d1,h.G,h.X,fun _=>?_,h.ps,h.lp,h.ls,h.lg⟩
 show _=Ct N P x
 rw[Ct,c.hN.iH];rfl
theorem aoh(b:l<=N.nodes.length)(z:Nat):(wK N L l P).1.getD z T0=if l=z then wJ (L.getD l [])else T0:=by
 show((List.replicate (N.nodes.length+1) T0).set l (wJ (L.getD l []))).getD z T0=_
 rw[vo bD];congr 1;rw[aQ,sj]
 split<;>rfl
theorem gz.seed(c:gM N O L l P x)(h:gz N O L l P x cap s e)(U:iV (aC N cap) s 5 id=0):
  (e.T true (l:Int)=none/\(e.A.lv:Int)+eH L l<=e.A.cap/\(wJ (L.getD l [])).2.length=eH L l)/\
  ∀(A':bL) (iE:Bool->Tb),dK A' iE (iG e.T true (l:Int) (some (wJ (L.getD l [])).2))->A'.lv=e.A.lv+eH L l->A'.pe=max e.A.pe (e.A.lv+eH L l)->A'.cap=e.A.cap->
   gz N O L l P x cap (bB (aC N cap) s 5 id) {e with A:=A',tb:=iE,T:=iG e.T true (l:Int) (some (wJ (L.getD l [])).2)}:=by
 obtain⟨rfl,Q,V⟩:=aci U (.inr rfl);have l1:=c.hN.xV;have Y:=c.hN.vk;have B:s.gu=false:=by
  rw[fV,if_neg ah,if_neg ah,if_neg ah,if_neg ah,if_pos rfl]at Q;simpa using Q
 have C:=h.sd B;obtain⟨S,w2,w3⟩:=c.word (cap:=cap) (z:=(l:Int)) om om;rw[dD]at S;have hm:bK (aC N cap) s 5 0=(eH L l:Int):=by rw[bK,if_neg ah,if_pos rfl,c.jl,S]
 rw[hm]at V;have r:∀y:Int,1<=y->y<=N.nodes.length->s.aT.getD y.toNat false=false:=fun y y1 I=>by
  cases hp:s.aT.getD y.toNat false with
  |false=>rfl
  |true=>
   have:=((h.gs y y1 I).1 hp).1;rw[B]at this;cases this
 have hq:l<s.aT.length:=by rw[h.lg];omega
 have m:=TJ (c.hN.right c.hF (z:=(l:Int)) om om);rw[dD]at m;have J:(wJ (L.getD l [])).2.length=eH L l:=JU (z:=(l:Int)) m (by rw[dD];rfl);have Z:=h.lv;have hpe:=h.pe;have E:=h.cap;refine⟨⟨?_,om,J⟩,fun A' iE K hl hp M=>?_⟩
 ·rw[h.gg,if_neg (fun b=>by have:=b.2.2;rw[r _ om om]at this;cases this)]
 ·have hD:bB (aC N cap) s 5 0=⟨s.present,s.saved,s.aT.set l true,s.gG,true,s.done,s.now+(eH L l:Int),max s.fE (s.now+(eH L l:Int))⟩:=by
   unfold bB;dsimp only;rw[if_neg ah,if_neg ah,if_neg ah,if_pos rfl,c.jl,show(0:Int).toNat=0 from rfl,hm]
  rw[hD];have F:∀y:Int,(fZ N O L l P x s.done.toNat).1.getD y.toNat T0=if l=y.toNat then wJ (L.getD l [])else T0:=fun y=>by
   rw[C];exact aoh Y _
  refine⟨K,by show((A'.lv:Nat):Int)=_;rw[hl];dsimp only;omega,by show((A'.pe:Nat):Int)=_;rw[hp];dsimp only;omega,by dsimp only;omega,by show((A'.cap:Nat):Int)=_;rw[M];exact E,fun y=>?_,fun y=>?_,fun y y1 I=>?_,fun b=>(by cases b),h.d0,h.d1,h.G,h.X,h.em,h.ps,h.lp,h.ls,by simpa using h.lg⟩
  ·dsimp only;rw[nW (fun b=>absurd b.1 ah)];exact h.tt y
  ·dsimp only;rw[F];by_cases u:y=(l:Int)
   ·subst u;rw[xq,if_pos ⟨om,om,by rw[dD,je hq,if_pos rfl]⟩,dD,if_pos rfl]
   ·rw[nW (fun b=>u b.2),h.gg];by_cases j:1<=y/\y<=N.nodes.length
    ·rw[if_neg (fun b=>by have:=b.2.2;rw[r y j.1 j.2]at this;cases this),if_neg (fun b=>by have:=b.2.2;rw[je hq,if_neg om,r y j.1 j.2]at this;cases this)]
    ·rw[if_neg (fun b=>j ⟨b.1,b.2.1⟩),if_neg (fun b=>j ⟨b.1,b.2.1⟩)]
  ·dsimp only;rw[F,je hq,C];by_cases u:l=y.toNat
   ·rw[if_pos u,if_pos u];exact⟨fun _=>⟨rfl,m.ne,au⟩,fun _=>rfl⟩
   ·rw[if_neg u,if_neg u,r y y1 I];exact⟨fun b=>(by cases b),fun b=>absurd rfl b.2.1⟩
end
def eQ(N:aI)(s:di)(id:Int)(i:Nat):List Int:=iD s.aT ((bG N id).take i) []
def oM(L:List (List Int))(F:List Int):Nat:=(F.map (eH L)).sum
def mr(N:aI)(s:di)(id:Int)(i:Nat):Bool:=decide ((bG N id).getD i 0≠0)&& !s.aT.getD ((bG N id).getD i 0).toNat false&& !((bG N id).take i).contains ((bG N id).getD i 0)
structure rT(N:aI)(L:List (List Int))(s:di)(e:qP)(id:Int)(i:Nat)(A:bL)(tb:Bool->Tb)(T:Bool->Int->Option (List Int)):Prop where
 mb:dK A tb T
 lv:A.lv=e.A.lv+oM L (eQ N s id i)
 pe:A.pe=max e.A.pe A.lv
 cap:A.cap=e.A.cap
 tf:∀z,T false z=e.T false z
 tg:∀z,T true z=if z∈eQ N s id i then some (List.replicate (eH L z) 0)else e.T true z
noncomputable def nM(N:aI)(O:List Int)(L:List (List Int))(l:Nat)(P:List TV)(x:TV)(d:Nat)(id:Int)(v:dJ)(i:Nat):List TV:=
 qN (fZ N O L l P x d).1 (v.ins.take i) ((qj N P (ed N P x) (fZ N O L l P x d).1 id v).take i)
structure vF(N:aI)(O:List Int)(L:List (List Int))(l:Nat)(P:List TV)(x:TV)(s:di)(e:qP)(id:Int)(v:dJ)(i:Nat)(A:bL)(tb:Bool->Tb)(T:Bool->Int->Option (List Int))(X:TV):Prop where
 mb:dK A tb T
 lv:A.lv=e.A.lv+oM L (eQ N s id v.ins.length)
 pe:A.pe=max e.A.pe A.lv
 cap:A.cap=e.A.cap
 tf:∀z,T false z=e.T false z
 tg:∀z:Int,T true z=if 1<=z/\z<=N.nodes.length/\(s.aT.getD z.toNat false=true\/z∈v.ins)then some (if((nM N O L l P x s.done.toNat id v i).getD z.toNat T0).2=[]then List.replicate (eH L z) 0 else((nM N O L l P x s.done.toNat id v i).getD z.toNat T0).2)else none
 X:X=(nM N O L l P x s.done.toNat id v i).getD 0 T0
section
variable{N:aI}{O D R:List Int}{L:List (List Int)}{l i d:Nat}{P vals gr:List TV}{x X t:TV}{cap kd id z:Int}{s:di}{e e':qP}{A A':bL}{tb iE:Bool->Tb}{T:Bool->Int->Option (List Int)}{v:dJ}
theorem UD(G:List Bool):∀(a b l:List Int),iD G (a++b) l=iD G b (iD G a l)
 |[],_,_=>rfl
 |z::t,b,l=>by rw[Wz,iD,iD,UD G t b]
theorem CF(G:List Bool):∀(a l:List Int) (z:Int),z∈iD G a l↔z∈l\/(z∈a/\z≠0/\G.getD z.toNat false=false)
 |[],l,z=>by simp[iD]
 |y::t,l,z=>by
  rw[iD,CF G t];by_cases h:y≠0/\G.getD y.toNat false=false/\l.contains y=false
  ·rw[if_pos h,dP,gm,dz];constructor
   ·rintro((b|rfl)|b)
    ·exact .inl b
    ·exact .inr ⟨.inl rfl,h.1,h.2.1⟩
    ·exact .inr ⟨.inr b.1,b.2⟩
   ·rintro(b|⟨rfl|b,j⟩)
    ·exact .inl (.inl b)
    ·exact .inl (.inr rfl)
    ·exact .inr ⟨b,j⟩
  ·rw[if_neg h,dz];constructor
   ·rintro(b|b)
    ·exact .inl b
    ·exact .inr ⟨.inr b.1,b.2⟩
   ·rintro(b|⟨rfl|b,j⟩)
    ·exact .inl b
    ·left;have:l.contains z=true:=by
      cases m:l.contains z with
      |true=>rfl
      |false=>exact absurd ⟨j.1,j.2,m⟩ h
     simpa using this
    ·exact .inr ⟨b,j⟩
theorem UE(G:List Bool):∀(a l:List Int),∃r,iD G a l=l++r
 |[],l=>⟨[],by simp[iD]⟩
 |z::t,l=>by
  rw[iD]
  split
  ·obtain⟨r,h⟩:=UE G t (l++[z]);exact⟨z::r,by rw[h];simp⟩
  ·exact UE G t l
theorem Ez:z∈eQ N s id i↔z∈(bG N id).take i/\z≠0/\s.aT.getD z.toNat false=false:=by
 unfold eQ;rw[CF];simp
theorem UF(h:(bG N id)[i]?=some z):eQ N s id (i+1)=if mr N s id i=true then eQ N s id i++[z]else eQ N s id i:=by
 have j:(bG N id).getD i 0=z:=by rw[aQ,h];rfl
 unfold eQ mr;rw[j,take_at h,UD,iD];rw[iD];have m:(iD s.aT ((bG N id).take i) []).contains z=(decide (z≠0)&& !s.aT.getD z.toNat false&&((bG N id).take i).contains z):=by
  have:=CF s.aT ((bG N id).take i) [] z;rw[H9];simp only[Pz,dm,dU,PO];rw[this];simp only[mG,false_or];exact⟨fun⟨a,b,c⟩=>⟨⟨b,c⟩,a⟩,fun⟨⟨b,c⟩,a⟩=>⟨a,b,c⟩⟩
 rw[m];cases s.aT.getD z.toNat false<;>cases ((bG N id).take i).contains z<;>by_cases r:z=0<;>simp[r]
theorem aoi:oM L (eQ N s id i)<=oM L (eQ N s id (bG N id).length):=by
 have e:eQ N s id (bG N id).length=iD s.aT ((bG N id).drop i) (eQ N s id i):=by
  unfold eQ;rw[jq,<-UD,iX]
 obtain⟨r,hr⟩:=UE s.aT ((bG N id).drop i) (eQ N s id i);rw[e,hr];unfold oM;rw[gV,E5];omega
structure rU(N:aI)(O:List Int)(L:List (List Int))(l:Nat)(P:List TV)(x:TV)(cap:Int)(s:di)(e:qP)(id:Int)(v:dJ):Prop where
 i1:1<=id
 i2:id<=N.nodes.length
 hv:N.nodes[(id-1).toNat]?=some v
 hm:v∈N.nodes
 hi:bG N id=v.ins
 at_:O.reverse[s.done.toNat]?=some id
 sd:s.gu=true
 gd:s.aT.getD id.toNat false=true
 tg:e.T true id=some ((fZ N O L l P x s.done.toNat).1.getD id.toNat T0).2
 JD:((fZ N O L l P x s.done.toNat).1.getD id.toNat T0).1=L.getD id.toNat []/\TV.ok ((fZ N O L l P x s.done.toNat).1.getD id.toNat T0)
 ins:∀z∈v.ins,z=0\/(1<=z/\z<=N.nodes.length/\e.T false z=some ((ed N P x).getD z.toNat T0).2)
 x8:∀z∈v.ins,0<=z/\z<=N.nodes.length
 sum:(e.A.lv:Int)+oM L (eQ N s id v.ins.length)<=cap
 x1:(qj N P (ed N P x) (fZ N O L l P x s.done.toNat).1 id v).map (·.1)=iO v L
 x2:∀t∈qj N P (ed N P x) (fZ N O L l P x s.done.toNat).1 id v,TV.ok t
 bi:xW N L l P (O.reverse.take s.done.toNat) (fZ N O L l P x s.done.toNat)
theorem UG(W:List Int)(f:Int->Nat):∀F:List Int,(∀z∈F,W.getD z.toNat 0=(f z:Int))->(F.map fun z=>W.getD z.toNat 0).sum=(((F.map f).sum:Nat):Int)
 |[],_=>rfl
 |z::t,h=>by
  rw[fe,jR,fe,jR,UG W f t fun y b=>h y (fI _ b),h z dN,mF]
theorem gz.aoj(c:gM N O L l P x)(h:gz N O L l P x cap s e)(U:iV (aC N cap) s 6 id=0):∃v,rU N O L l P x cap s e id v:=by
 obtain⟨r,y,I,V⟩:=UC c U om;rw[fV,if_neg ah,if_neg ah,if_neg ah,if_neg ah,if_neg ah]at I;simp only[dm,dU]at I;obtain⟨⟨⟨hg,hr⟩,hd⟩,F⟩:=I;have hO:(aC N cap).order=O:=c.hN.ord;rw[hO]at hd F;have Y:=h.d0;have J:s.done.toNat<O.length:=om;have B:O.reverse[s.done.toNat]?=some id:=by
  rw[Hm J];have e:((O.length:Int)-1-s.done).toNat=O.length-1-s.done.toNat:=om;rw[e]at F;have Q:O.length-1-s.done.toNat<O.length:=om;rw[aQ,aW Q]at F;rw[aW Q];congr 1;have:=eq_of_beq F;rw[E9]at this;rw[this];omega
 have C:=abe c.hN c.hE c.hF (Cr c.hN c.hF) s.done.toNat om;have b:=C.there c.hN c.hE B;obtain⟨v,p1,S,G,p4,p5,p6,p7,p8,p9,K,M,Z,p13⟩:=xW.parts c.hN c.hF (Cr c.hN c.hF) (dR.2 ⟨r,y⟩) b;have j:=c.hN.iR v S;have m:=h.ins c r y hr;rw[G]at m;have E:bK (aC N cap) s 6 id.toNat=(oM L (eQ N s id v.ins.length):Int):=by
  rw[bK,if_neg ah,if_neg ah,if_pos rfl,jA,AY r,G,oM,eQ,G,jq];refine UG _ _ _ fun z u=>?_;rw[CF]at u;rcases u with u|u
  ·cases u
  ·have:=j z u.1;exact(c.word this.1 this.2).1
 rw[E]at V;have hlv:=h.lv;exact⟨v,r,y,p1,S,G,B,((h.gs id r y).1 hg).1,hg,by rw[h.gg,if_pos ⟨r,y,hg⟩],b,m,j,om,K,M,C⟩
theorem rT.zero(h:dK e.A e.tb e.T)(j:e.A.lv<=e.A.pe):rT N L s e id 0 e.A e.tb e.T:=by
 have b:eQ N s id 0=[]:=by unfold eQ;rw[jr];rfl
 exact⟨h,by rw[b];rfl,om,rfl,fun z=>rfl,fun z=>by rw[b];simp⟩
theorem gz.lp_(h:gz N O L l P x cap s e):e.A.lv<=e.A.pe:=by
 have b:=h.lv;have j:=h.pe;have m:=h.np;omega
theorem rT.has(h:gz N O L l P x cap s e)(b:rU N O L l P x cap s e id v)(g:rT N L s e id i A tb T)(B:(bG N id)[i]?=some z):(mr N s id i=true↔z≠0/\T true z=none)/\(mr N s id i=false↔z=0\/∃xs,T true z=some xs):=by
 have u:(bG N id).getD i 0=z:=by rw[aQ,B];rfl
 have hr:=b.x8 z (by rw[<-b.hi];exact aK B);have key:z≠0->(T true z=none↔(s.aT.getD z.toNat false=false/\z∉(bG N id).take i)):=fun r=>by
  rw[g.tg];by_cases hm:z∈eQ N s id i
  ·rw[if_pos hm];rw[Ez]at hm;exact⟨fun j=>(by cases j),fun j=>absurd hm.1 j.2⟩
  ·rw[if_neg hm,h.gg];rw[Ez]at hm;by_cases hg:s.aT.getD z.toNat false=true
   ·rw[if_pos ⟨om,hr.2,hg⟩];exact⟨fun j=>(by cases j),fun j=>(by rw[hg]at j;cases j.1)⟩
   ·rw[if_neg (fun j=>hg j.2.2)];have m:s.aT.getD z.toNat false=false:=by simpa using hg
    exact⟨fun _=>⟨m,fun j=>hm ⟨j,r,m⟩⟩,fun _=>rfl⟩
 have C:mr N s id i=true↔z≠0/\T true z=none:=by
  unfold mr;rw[u];simp only[dm,dU,PO];constructor
  ·rintro⟨⟨a,y⟩,d⟩;exact⟨a,(key a).2 ⟨y,by simpa using d⟩⟩
  ·rintro⟨a,y⟩;obtain⟨F,G⟩:=(key a).1 y;exact⟨⟨a,F⟩,by simpa using G⟩
 refine⟨C,?_⟩;rw[<-Bool.not_eq_true,C];constructor
 ·intro j;by_cases r:z=0
  ·exact .inl r
  ·right;cases ht:T true z with
   |none=>exact absurd ⟨r,ht⟩ j
   |some xs=>exact⟨xs,rfl⟩
 ·rintro(j|⟨xs,j⟩) ⟨I,E⟩
  ·exact I j
  ·rw[j]at E;cases E
theorem rT.skip(g:rT N L s e id i A tb T)(j:(bG N id)[i]?=some z)(hb:mr N s id i=false):rT N L s e id (i+1) A tb T:=by
 have b:eQ N s id (i+1)=eQ N s id i:=by rw[UF j,hb];rfl
 exact⟨g.mb,by rw[b];exact g.lv,g.pe,g.cap,g.tf,fun y=>by rw[b];exact g.tg y⟩
theorem rT.room(h:gz N O L l P x cap s e)(b:rU N O L l P x cap s e id v)(g:rT N L s e id i A tb T)(j:(bG N id)[i]?=some z)(hb:mr N s id i=true):(A.lv:Int)+eH L z<=A.cap:=by
 have m:=aoi (N:=N) (L:=L) (s:=s) (id:=id) (i:=i+1);rw[UF j,hb,if_pos rfl]at m;have u:oM L (eQ N s id i++[z])=oM L (eQ N s id i)+eH L z:=by unfold oM;simp
 have r:=b.sum;have y:=h.cap;rw[<-b.hi]at r;rw[g.lv,g.cap];omega
theorem rT.gave(g:rT N L s e id i A tb T)(u:(bG N id)[i]?=some z)(hb:mr N s id i=true){A':bL}{iE:Bool->Tb}(j:dK A' iE (iG T true z (some (List.replicate (eH L z) 0))))(G:A'.lv=A.lv+eH L z)(hp:A'.pe=max A.pe (A.lv+eH L z))(B:A'.cap=A.cap):
  rT N L s e id (i+1) A' iE (iG T true z (some (List.replicate (eH L z) 0))):=by
 have r:eQ N s id (i+1)=eQ N s id i++[z]:=by rw[UF u,hb];rfl
 have C:oM L (eQ N s id i++[z])=oM L (eQ N s id i)+eH L z:=by unfold oM;simp
 have E:=g.pe;have F:=g.lv;refine⟨j,by rw[r,C];omega,om,by rw[B];exact g.cap,fun y=>?_,fun y=>?_⟩
 ·rw[nW (fun b=>absurd b.1 ah)];exact g.tf y
 ·rw[r];by_cases m:y=z
  ·subst m;rw[xq,if_pos au]
  ·rw[nW (fun b=>m b.2),g.tg];have:y∈eQ N s id i++[z]↔y∈eQ N s id i:=by simp[m]
   by_cases hm:y∈eQ N s id i
   ·rw[if_pos hm,if_pos (this.2 hm)]
   ·rw[if_neg hm,if_neg fun b=>hm (this.1 b)]
theorem acj:∀(zs:List Int) (ts:List TV) (gr:List TV) (i:Nat) (z:Int) (t:TV),zs[i]?=some z->ts[i]?=some t->qN gr (zs.take (i+1)) (ts.take (i+1))=(qN gr (zs.take i) (ts.take i)).set z.toNat (mq ((qN gr (zs.take i) (ts.take i)).getD z.toNat T0) t)
 |[],_,_,_,_,_,h,_=>by simp at h
 |_::_,[],_,_,_,_,_,h=>by simp at h
 |y::zs,u::ts,gr,0,z,t,h1,h2=>by
  simp at h1 h2;subst h1 h2;simp[qN]
 |y::zs,u::ts,gr,i+1,z,t,h1,h2=>by
  rw[CY]at h1 h2;rw[mH,mH,qN,acj zs ts _ i z t h1 h2,mH,mH,qN]
theorem rU.at(b:rU N O L l P x cap s e id v):(nM N O L l P x s.done.toNat id v i).length=N.nodes.length+1/\(∀z:Int,0<=z->z<=N.nodes.length->Gu L (nM N O L l P x s.done.toNat id v i) z)/\
  ∀z:Int,0<=z->z<=N.nodes.length->(((nM N O L l P x s.done.toNat id v i).getD z.toNat T0).2≠[]↔((fZ N O L l P x s.done.toNat).1.getD z.toNat T0).2≠[]\/z∈v.ins.take i):=by
 have h:=TI (L:=L) (m:=N.nodes.length) (v.ins.take i) ((qj N P (ed N P x) (fZ N O L l P x s.done.toNat).1 id v).take i) (fZ N O L l P x s.done.toNat).1 b.bi.len (fun z j=>b.x8 z (gU j)) (by rw[yJ,b.x1,iO,yJ]) (fun t ht=>b.x2 t (gU ht)) b.bi.sh;exact⟨h.1,h.2.1,h.2.2.1⟩
theorem ack(c:gM N O L l P x)(hd:O.reverse[d]?=some id)(m:z∈bG N id)(r:z≠0):z∉O.reverse.take d:=by
 obtain⟨F,u⟩:=Ej hd;rcases c.hN.JA u z m with b|b
 ·exact absurd b r
 ·intro y;obtain⟨k,G,B⟩:=El y;obtain⟨I,C⟩:=Ej B;obtain⟨j,J,E⟩:=El b;have:=TK c.hN.lV.nd C E;omega
theorem rU.none_(c:gM N O L l P x)(h:gz N O L l P x cap s e)(b:rU N O L l P x cap s e id v)(r:z∈v.ins)(u:z≠0):(s.aT.getD z.toNat false=false↔((fZ N O L l P x s.done.toNat).1.getD z.toNat T0).2=[]):=by
 have hr:=b.x8 z r;have hg:=h.gs z om hr.2;have y:=ack c b.at_ (by rw[b.hi];exact r) u;constructor
 ·intro j;rcases P8 (((fZ N O L l P x s.done.toNat).1.getD z.toNat T0).2=[])with m|m
  ·exact m
  ·have:=hg.2 ⟨b.sd,m,y⟩;rw[j]at this;cases this
 ·intro j;cases hq:s.aT.getD z.toNat false with
  |false=>rfl
  |true=>exact absurd j (hg.1 hq).2.1
theorem rU.fresh(c:gM N O L l P x)(h:gz N O L l P x cap s e)(b:rU N O L l P x cap s e id v)(B:v.ins[i]?=some z)(C:z≠0):mr N s id i=true↔((nM N O L l P x s.done.toNat id v i).getD z.toNat T0).2=[]:=by
 have hm:=aK B;have hr:=b.x8 z hm;have r:=(b.at (i:=i)).2.2 z hr.1 hr.2;have E:=b.none_ c h hm C;have u:(bG N id).getD i 0=z:=by rw[b.hi,aQ,B];rfl
 unfold mr;rw[u,b.hi];simp only[dm,dU,PO];rw[E];constructor
 ·rintro⟨⟨_,j⟩,F⟩;refine Pv fun y=>?_;rcases r.1 y with m|m
  ·exact m j
  ·rw[<-Pz,F]at m;cases m
 ·intro j;refine⟨⟨C,?_⟩,?_⟩
  ·exact Pv fun y=>(r.2 (.inl y)) j
  ·cases hq:(v.ins.take i).contains z with
   |false=>rfl
   |true=>exact absurd j (r.2 (.inr (Pz.1 hq)))
theorem vF.start(c:gM N O L l P x)(h:gz N O L l P x cap s e)(b:rU N O L l P x cap s e id v)(g:rT N L s e id v.ins.length A tb T):vF N O L l P x s e id v 0 A tb T e.X:=by
 have y:nM N O L l P x s.done.toNat id v 0=(fZ N O L l P x s.done.toNat).1:=by
  unfold nM;rw[jr,jr];rfl
 refine⟨g.mb,g.lv,g.pe,g.cap,g.tf,fun z=>?_,by rw[y];exact h.X⟩;rw[y,g.tg,h.gg];have m:z∈eQ N s id v.ins.length↔z∈v.ins/\z≠0/\s.aT.getD z.toNat false=false:=by rw[Ez,b.hi,jq]
 by_cases hm:z∈eQ N s id v.ins.length
 ·rw[if_pos hm];obtain⟨j,u,r⟩:=m.1 hm;have hr:=b.x8 z j;rw[if_pos ⟨om,hr.2,.inr j⟩,if_pos ((b.none_ c h j u).1 r)]
 ·rw[if_neg hm];by_cases hg:1<=z/\z<=N.nodes.length/\s.aT.getD z.toNat false=true
  ·rw[if_pos hg,if_pos ⟨hg.1,hg.2.1,.inl hg.2.2⟩,if_neg ((h.gs z hg.1 hg.2.1).1 hg.2.2).2.1]
  ·rw[if_neg hg,if_neg];rintro⟨j,u,r|r⟩
   ·exact hg ⟨j,u,r⟩
   ·refine hm (m.2 ⟨r,om,?_⟩);cases hq:s.aT.getD z.toNat false with
    |false=>rfl
    |true=>exact absurd ⟨j,u,hq⟩ hg
theorem Ot(b:v.ins[i]?=some z)(ht:(qj N P (ed N P x) (fZ N O L l P x d).1 id v)[i]?=some t):nM N O L l P x d id v (i+1)=(nM N O L l P x d id v i).set z.toNat (mq ((nM N O L l P x d id v i).getD z.toNat T0) t):=acj _ _ _ i z t b ht
theorem rU.get(b:rU N O L l P x cap s e id v)(u:v.ins[i]?=some z):∃t,(qj N P (ed N P x) (fZ N O L l P x s.done.toNat).1 id v)[i]?=some t/\t.1=L.getD z.toNat []/\TV.ok t/\t.2.length=eH L z:=by
 have y:=b.x1;have m:((qj N P (ed N P x) (fZ N O L l P x s.done.toNat).1 id v).map (·.1))[i]?=some (L.getD z.toNat []):=by
  rw[y,iO,dE,u];rfl
 rw[dE]at m;obtain⟨t,ht,r⟩:=bN.1 m;have j:=b.x2 t (aK ht);exact⟨t,ht,r,j,JU j r⟩
theorem vF.zero(b:rU N O L l P x cap s e id v)(p:vF N O L l P x s e id v i A tb T X)(m:v.ins[i]?=some 0)(ht:(qj N P (ed N P x) (fZ N O L l P x s.done.toNat).1 id v)[i]?=some t):
  vF N O L l P x s e id v (i+1) A tb T (mq X t):=by
 obtain⟨r,B,C⟩:=b.at (i:=i);refine⟨p.mb,p.lv,p.pe,p.cap,p.tf,fun y=>?_,?_⟩
 ·rw[p.tg,Ot m ht,vo (by rw[r];exact Fp _)];by_cases j:1<=y/\y<=N.nodes.length/\(s.aT.getD y.toNat false=true\/y∈v.ins)
  ·have u:¬(0:Int).toNat=y.toNat:=by have:=j.1;rw[Int.toNat_zero];omega
   rw[if_pos j,if_pos j,if_neg u]
  ·rw[if_neg j,if_neg j]
 ·rw[Ot m ht,vo (by rw[r];exact Fp _),Int.toNat_zero,if_pos rfl,p.X]
theorem vF.node(c:gM N O L l P x)(h:gz N O L l P x cap s e)(b:rU N O L l P x cap s e id v)(p:vF N O L l P x s e id v i A tb T X)(E:v.ins[i]?=some z)(h0:z≠0)(ht:(qj N P (ed N P x) (fZ N O L l P x s.done.toNat).1 id v)[i]?=some t):
  (1<=z/\z<=N.nodes.length/\(mr N s id i=true->T true z=some (List.replicate (eH L z) 0))/\
   (mr N s id i=false->∃g:TV,(nM N O L l P x s.done.toNat id v i).getD z.toNat T0=g/\g.1=L.getD z.toNat []/\TV.ok g/\T true z=some g.2/\g.2.length=eH L z))/\
  ∀(A':bL) (iE:Bool->Tb) (ys:List Int),ys=(if mr N s id i=true then t.2 else((nM N O L l P x s.done.toNat id v i).getD z.toNat T0).2.zipWith dQ t.2)->dK A' iE (iG T true z (some ys))->A'.lv=A.lv->A'.pe=A.pe->A'.cap=A.cap->
   vF N O L l P x s e id v (i+1) A' iE (iG T true z (some ys)) X:=by
 have hm:=aK E;have hr:=b.x8 z hm;obtain⟨Z,F,g3⟩:=b.at (i:=i);have G:=b.fresh c h E h0;have Q:=p.tg z;rw[if_pos ⟨om,hr.2,.inr hm⟩]at Q;obtain⟨t',I,te,tok,tl⟩:=b.get E;rw[ht]at I;obtain rfl:=eP I;obtain⟨S,j⟩:=lh (nM N O L l P x s.done.toNat id v i);rw[j]at Z g3 G Q;have F:=F z hr.1 hr.2;rw[j]at F;refine⟨⟨om,hr.2,fun hb=>?_,fun hb=>?_⟩,fun A' iE ys r U J V Y=>?_⟩
 ·rw[Q,if_pos (G.1 hb)]
 ·have m:(S.getD z.toNat T0).2≠[]:=fun C=>by rw[G.2 C]at hb;cases hb
  rw[j];rcases F with u|u
  ·rw[u]at m;exact absurd rfl m
  ·exact⟨_,rfl,u.1,u.2,by rw[Q,if_neg m],JU u.2 u.1⟩
 ·rw[j]at r;have K:z.toNat<S.length:=by rw[Z];omega
  have M:ys=(mq (S.getD z.toNat T0) t).2/\ys≠[]:=by
   unfold mq;by_cases hb:mr N s id i=true
   ·rw[if_pos hb]at r;rw[if_pos (G.1 hb),r];exact⟨rfl,tok.ne⟩
   ·rw[if_neg hb]at r;have m:(S.getD z.toNat T0).2≠[]:=fun C=>hb (G.2 C);rw[if_neg m,r];refine⟨rfl,?_⟩;rcases F with u|u
    ·rw[u]at m;exact absurd rfl m
    ·exact(u.2.add tok (by rw[te,u.1])).ne
  refine⟨U,by rw[J];exact p.lv,by rw[V,J];exact p.pe,by rw[Y];exact p.cap,fun y=>?_,fun y=>?_,?_⟩
  ·rw[nW (fun C=>absurd C.1 ah)];exact p.tf y
  ·rw[Ot E ht,j,vo K];by_cases hy:y=z
   ·subst hy;rw[xq,if_pos ⟨om,hr.2,.inr hm⟩,if_pos rfl,<-M.1,if_neg M.2]
   ·rw[nW (fun C=>hy C.2),p.tg,j];by_cases B:1<=y/\y<=N.nodes.length/\(s.aT.getD y.toNat false=true\/y∈v.ins)
    ·have h9:¬z.toNat=y.toNat:=by have:=B.1;omega
     rw[if_pos B,if_pos B,if_neg h9]
    ·rw[if_neg B,if_neg B]
  ·rw[Ot E ht,j,vo K,if_neg (by show¬z.toNat=0;omega),p.X,j]
theorem GD:∀(F:List Int) (G:List Bool) (z:Nat),(∀y∈F,y.toNat<G.length)->(iW G F).getD z false=(G.getD z false||F.any fun y=>decide (y.toNat=z))
 |[],G,z,_=>by simp[iW]
 |y::t,G,z,h=>by
  have e:iW G (y::t)=iW (G.set y.toNat true) t:=rfl;rw[e,GD t _ z (fun w j=>by rw[jQ];exact h w (fI _ j)),je (h y dN),List.any_cons];by_cases b:y.toNat=z
  ·simp[b]
  ·simp[b]
theorem vF.done(c:gM N O L l P x)(h:gz N O L l P x cap s e)(b:rU N O L l P x cap s e id v)(p:vF N O L l P x s e id v v.ins.length A tb T X):
  (∃g:TV,T true id=some g.2/\g.2.length=eH L id)/\
  ∀(A':bL) (iE:Bool->Tb),dK A' iE (iG T true id none)->A'.lv+eH L id=A.lv->A'.pe=A.pe->A'.cap=A.cap->
   gz N O L l P x cap (bB (aC N cap) s 6 id) ⟨A',iE,iG T true id none,AJ e.G (Cs N P (ed N P x) (fZ N O L l P x s.done.toNat).1 id v) (gJ N (id-1).toNat),X,e.lo⟩:=by
 have hd0:=h.d0;have Z:(qj N P (ed N P x) (fZ N O L l P x s.done.toNat).1 id v).length=v.ins.length:=by
  have:=eD List.length b.x1;simpa[iO]using this
 obtain⟨F,u⟩:=lh (nM N O L l P x s.done.toNat id v v.ins.length);have hgl:F=qN (fZ N O L l P x s.done.toNat).1 v.ins (qj N P (ed N P x) (fZ N O L l P x s.done.toNat).1 id v):=by
  rw[<-u,nM,jq,<-Z,jq]
 have hS:fZ N O L l P x (s.done+1).toNat=(F,AJ (fZ N O L l P x s.done.toNat).2 (Cs N P (ed N P x) (fZ N O L l P x s.done.toNat).1 id v) (gJ N (id-1).toNat)):=by
  rw[show(s.done+1).toNat=s.done.toNat+1 from om];have e:O.reverse.take (s.done.toNat+1)=O.reverse.take s.done.toNat++[id]:=by rw[vO,b.at_];rfl
  have K:fZ N O L l P x (s.done.toNat+1)=JB N P (ed N P x) (fZ N O L l P x s.done.toNat) id:=by
   unfold fZ JC;rw[e,C9];rfl
  rw[K,JB,b.hv,hgl]
 obtain⟨g1,g2,V⟩:=b.at (i:=v.ins.length);rw[u,jq]at V;rw[u]at g1 g2;have hT:=p.tg;rw[u]at hT;have Q:=V id (by have:=b.i1;omega) b.i2;have I:(F.getD id.toNat T0).2≠[]:=Q.2 (.inl b.JD.2.ne);obtain⟨k1,k2⟩:(F.getD id.toNat T0).1=L.getD id.toNat []/\TV.ok (F.getD id.toNat T0):=by
  rcases g2 id (by have:=b.i1;omega) b.i2 with r|r
  ·rw[r]at I;exact absurd rfl I
  ·exact r
 refine⟨⟨F.getD id.toNat T0,by rw[hT,if_pos ⟨b.i1,b.i2,.inl b.gd⟩,if_neg I],JU k2 k1⟩,fun A' iE hmb hlv hpe hcp=>?_⟩;obtain⟨w1,w2,w3⟩:=c.word (cap:=cap) (z:=id) (by have:=b.i1;omega) b.i2;have S:jA (aC N cap) s id.toNat=eQ N s id v.ins.length:=by
  rw[jA,AY b.i1,eQ,b.hi,jq]
 have hmv:bK (aC N cap) s 6 id.toNat=(oM L (eQ N s id v.ins.length):Int):=by
  rw[bK,if_neg ah,if_neg ah,if_pos rfl,S,oM];refine UG _ _ _ fun z M=>?_;rw[Ez]at M;have:=b.x8 z (by rw[<-b.hi];exact gU M.1);exact(c.word this.1 this.2).1
 have J:∀z,z∈eQ N s id v.ins.length↔z∈v.ins/\z≠0/\s.aT.getD z.toNat false=false:=fun z=>by rw[Ez,b.hi,jq]
 have C:∀y:Int,1<=y->y<=N.nodes.length->(((iW s.aT (eQ N s id v.ins.length)).set id.toNat false).getD y.toNat false=true↔y≠id/\(s.aT.getD y.toNat false=true\/y∈v.ins)):=fun y y1 Y=>by
  have hin:∀z∈eQ N s id v.ins.length,z.toNat<s.aT.length:=fun z M=>by
   have:=b.x8 z ((J z).1 M).1;rw[h.lg];omega
  rw[je (by rw[AR,h.lg];have:=b.i1;have:=b.i2;omega),GD _ _ _ hin];have i1:=b.i1;by_cases E:id.toNat=y.toNat
  ·rw[if_pos E];exact⟨fun j=>(by cases j),fun j=>absurd om j.1⟩
  ·rw[if_neg E,Fj,Fg];constructor
   ·rintro(j|⟨z,M,j⟩)
    ·exact⟨fun he=>E (by rw[he]),.inl j⟩
    ·have r:=(J z).1 M;have h4:=b.x8 z r.1;have h5:z.toNat=y.toNat:=by simpa using j
     have:z=y:=om;subst this;exact⟨fun he=>E (by rw[he]),.inr r.1⟩
   ·rintro⟨_,j⟩;by_cases hg:s.aT.getD y.toNat false=true
    ·exact .inl hg
    ·rcases j with j|j
     ·exact .inl j
     ·exact .inr ⟨y,(J y).2 ⟨j,om,by simpa using hg⟩,au⟩
 have hD:bB (aC N cap) s 6 id=⟨s.present,s.saved,(iW s.aT (eQ N s id v.ins.length)).set id.toNat false,s.gG,s.gu,s.done+1,s.now+(oM L (eQ N s id v.ins.length):Int)-(eH L id:Int),max s.fE (s.now+(oM L (eQ N s id v.ins.length):Int))⟩:=by
  unfold bB;dsimp only;rw[if_neg ah,if_neg ah,if_neg ah,if_neg ah,hmv,S,w1]
 rw[hD];have auz:=h.lv;have auA:=h.pe;have auB:=p.lv;have auC:=p.pe;have hat:=(Ej b.at_).1;refine⟨hmb,by dsimp only;omega,by dsimp only;omega,by dsimp only;omega,by dsimp only;rw[hcp,p.cap];exact h.cap,fun y=>?_,fun y=>?_,fun y y1 Y=>?_,fun j=>absurd (j.symm.trans b.sd) ah,by dsimp only;omega,by dsimp only;omega,?_,?_,h.em,h.ps,h.lp,h.ls,by simp[AR,h.lg]⟩
 ·dsimp only;rw[nW (fun j=>absurd j.1 ah),p.tf];exact h.tt y
 ·dsimp only;rw[hS];by_cases E:y=id
  ·subst E;rw[xq,if_neg (fun j=>((C y j.1 j.2.1).1 j.2.2).1 rfl)]
  ·rw[nW (fun j=>E j.2),hT];by_cases m:1<=y/\y<=N.nodes.length/\(s.aT.getD y.toNat false=true\/y∈v.ins)
   ·have hn:(F.getD y.toNat T0).2≠[]:=(V y om m.2.1).2 (by
     rcases m.2.2 with r|r
     ·exact .inl ((h.gs y m.1 m.2.1).1 r).2.1
     ·exact .inr r)
    rw[if_pos m,if_neg hn,if_pos ⟨m.1,m.2.1,(C y m.1 m.2.1).2 ⟨E,m.2.2⟩⟩]
   ·rw[if_neg m,if_neg (fun j=>m ⟨j.1,j.2.1,((C y j.1 j.2.1).1 j.2.2).2⟩)]
 ·dsimp only;rw[hS,C y y1 Y,V y om Y];have e:O.reverse.take (s.done+1).toNat=O.reverse.take s.done.toNat++[id]:=by
   rw[show(s.done+1).toNat=s.done.toNat+1 from om,vO,b.at_];rfl
  rw[e,dP,gm];have U:=h.gs y y1 Y;constructor
  ·rintro⟨K,B|B⟩
   ·have:=U.1 B;exact⟨b.sd,.inl this.2.1,fun j=>j.elim this.2.2 K⟩
   ·exact⟨b.sd,.inr B,fun j=>j.elim (ack c b.at_ (by rw[b.hi];exact B) om) K⟩
  ·rintro⟨K,B,r⟩;refine⟨fun j=>r (.inr j),?_⟩;rcases B with B|B
   ·exact .inl (U.2 ⟨K,B,fun j=>r (.inl j)⟩)
   ·exact .inr B
 ·dsimp only;rw[hS,h.G]
 ·dsimp only;rw[hS,p.X,u]
end
end Go.Proofs.YtmkjnlifimffkaaGreat
