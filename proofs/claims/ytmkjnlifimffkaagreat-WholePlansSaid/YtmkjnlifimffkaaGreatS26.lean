/- Lemmas. -/
import Derived.Test.YtmkjnlifimffkaaGreatS25
namespace Go.Proofs.YtmkjnlifimffkaaGreat
open Go.RowKit Tryz
set_option linter.all false
set_option maxRecDepth 100000
set_option maxHeartbeats 0
variable{Γ:Prop}
variable{N:bm}{O:List Int}{L:List (List Int)}{i j l:Nat}{gr vals:List TV}{cap id kd z:Int}{s:jv}{jw:Bool->Tb}
noncomputable def cD(N:bm)(O:au)(L:f0)(l:Nat)(P:List TV)(x:TV)(d:Nat):List TV×List TV:=LL N P (dU N P x) (q2 N L l P) (O.reverse.take d)
structure si where
 A:da
 tb:Bool->Tb
 T:Bool->Int->Option (List Int)
 G:List TV
 X:TV
 lo:Int
structure fQ(N:bm)(O:List Int)(L:List (List Int))(l:Nat)(P:List TV)(x:TV):Prop where
 hN:dF N O L l
 hE:bo N=0
 hO:iR N=0
 hF:mQ N P x
 hL:dB N=(O,L,(l:Int))
structure gU(N:bm)(O:List Int)(L:List (List Int))(l:Nat)(P:List TV)(x:TV)(cap:Int)(s:jv)(e:si):Prop where
 mb:cV e.A e.tb e.T
 lv:(e.A.lv:Int)=s.now
 pe:(e.A.pe:Int)=s.kb
 np:s.now<=s.kb
 cap:(e.A.cap:Int)=cap
 tt:∀id:Int,e.T false id=if 1<=id/\id<=N.nodes/\s.bl.getD id.toNat false=true then some ((dU N P x).getD id.toNat T0).2 else none
 gg:∀id:Int,e.T true id=if 1<=id/\id<=N.nodes/\s.aI.getD id.toNat false=true then some ((cD N O L l P x s.done.toNat).1.getD id.toNat T0).2 else none
 gs:∀id:Int,1<=id->id<=N.nodes->(s.aI.getD id.toNat false=true↔s.fW=true/\((cD N O L l P x s.done.toNat).1.getD id.toNat T0).2≠[]/\id∉O.reverse.take s.done.toNat)
 sd:s.fW=false->s.done=0
 d0:0<=s.done
 d1:s.done<=O.length
 G:e.G=(cD N O L l P x s.done.toNat).2
 X:e.X=(cD N O L l P x s.done.toNat).1.getD 0 T0
 em:s.eM=true->e.lo=ra N P x
 ps:∀id:Nat,1<=id->s.bl.getD id false=true->s.saved.getD id false=true
 lp:s.bl=N.nodes.length+1
 ls:s.saved=N.nodes.length+1
 lg:s.aI=N.nodes.length+1
def fD(L:f0)(z:Int):Nat:=(bz (L.getD z.toNat [])).toNat
variable{D R:List Int}{P:List TV}{x:TV}{e e':si}{A':da}
def ej{L:List Bool}{i:Nat}{b:Bool}(h:i<L):(L.set i b).getD j false=if i=j then b else L.getD j false:=by
 by_cases e:i=j;subst e;rw[ah rfl,aQ,fF h];rfl;rw[ag e,aQ,kH e,<-aQ]
def A9(h:1<=id):(dt N cap).ins.getD id.toNat []=bS N id:=by
 show([]::N.nodes.map (·.ins)).getD id.toNat []=_;rw[show id.toNat=(id-1).toNat+1 from om,List.getD_cons_succ,aQ,bf];rfl
def fQ.words(c:fQ N O L l P x):(dt N cap).words=L.map bz:=by
 exact(uV c.hO c.hL c.hN).1
def fQ.len(c:fQ N O L l P x):L=N.nodes.length+1:=c.hN.len
def fQ.word(c:fQ N O L l P x)(m:0<=z)(b:z<=N.nodes):(dt N cap).words.getD z.toNat 0=(fD L z:Int)/\1<=fD L z/\fD L z<=65536:=by
 have hr:=c.hN.right c.hF m b;have j:z.toNat<L.length:=by rw[c.len];omega
 have e:(dt N cap).words.getD z.toNat 0=bz (L.getD z.toNat []):=by rw[c.words,aQ,bf,aQ,a5 j];rfl
 obtain⟨n,b,r,u⟩:=cP hr;have y:bz (L.getD z.toNat [])=(n:Int):=by rw[bz,ah hr,b]
 rw[e,fD,y];exact⟨aD,by simpa using r,by simpa using u⟩
def Ba{t:TV}(h:TV.ok t)(hs:t.1=L.getD z.toNat []):t.2=fD L z:=by
 have j:=h.len;have b:=h.right;rw[fD,<-hs,bz,ah b];omega
def fQ.val(c:fQ N O L l P x)(m:1<=z)(r:z<=N.nodes):((dU N P x).getD z.toNat T0).1=L.getD z.toNat []/\TV.ok ((dU N P x).getD z.toNat T0)/\((dU N P x).getD z.toNat T0).2.length=fD L z:=by
 obtain⟨b,j⟩:=(kQ c.hN c.hF).sh z (c.hN.mem.2 (bn.2 ⟨m,r⟩));exact⟨b,j,Ba j b⟩
def fQ.acr(c:fQ N O L l P x):(dt N cap).words.length=N.nodes+1:=by rw[c.words,bj,c.len]
def fQ.g2(c:fQ N O L l P x):(dt N cap).g2=l:=by
 show(fj N).toNat=l;rw[c.hN.fj];rfl
def Bb(c:fQ N O L l P x)(h:lG (dt N cap) s kd id=0)(j:kd=1\/kd=2\/kd=3\/kd=6):1<=id/\id<=N.nodes/\dY (dt N cap) s kd id.toNat=true/\s.now+ev (dt N cap) s kd id.toNat<=cap:=by
 obtain⟨b,m,r,u⟩:=r4 h;rw[mR j]at b;simp only[bK,bZ]at b;rw[c.acr]at m;exact⟨b.1,om,r,u⟩
def UO(b:1<=id)(h:mS (dt N cap) s id.toNat=true):∀z∈bS N id,s.bl.getD z.toNat false=true:=by
 unfold mS at h;rw[A9 b,dz]at h;exact h
def gU.ins(c:fQ N O L l P x)(h:gU N O L l P x cap s e)(b:1<=id)(m:id<=N.nodes)(hr:mS (dt N cap) s id.toNat=true):∀z∈bS N id,z=0\/(1<=z/\z<=N.nodes.length/\e.T false z=some ((dU N P x).getD z.toNat T0).2):=λz j=>by
 obtain⟨v,hv,_,_,hi,hm⟩:=c.hN.at (bn.2 ⟨b,m⟩);have hb:=c.hN.kc v hm z (by rw[<-hi];exact j);by_cases r:z=0;exact .inl r;exact .inr ⟨om,hb.2,by rw[h.tt,ah ⟨om,hb.2,UO b hr z j⟩]⟩
def xa0(h:Γ:=by dsimp only;rw[eb (λb=>absurd b.1 am)];exact h.gg y):=h
def gU.comp(c:fQ N O L l P x)(h:gU N O L l P x cap s e)(M:lG (dt N cap) s kd id=0)(E:kd=1\/kd=2):
  (1<=id/\id<=N.nodes/\e.T false id=none/\(∀z∈bS N id,z=0\/(1<=z/\z<=N.nodes.length/\e.T false z=some ((dU N P x).getD z.toNat T0).2))/\(e.A.lv:Int)+fD L id<=e.A.cap)/\
  ∀(A':da) (jw:Bool->Tb),cV A' jw (eW e.T false id (some ((dU N P x).getD id.toNat T0).2))->A'.lv=e.A.lv+fD L id->A'.pe=max e.A.pe (e.A.lv+fD L id)->A'.cap=e.A.cap->
   gU N O L l P x cap (g4 (dt N cap) s kd id) {e with A:=A',tb:=jw,T:=eW e.T false id (some ((dU N P x).getD id.toNat T0).2)}:=by
 obtain⟨F,B,j,Q⟩:=Bb c M om;obtain⟨S,w2,w3⟩:=c.word (cap:=cap) (z:=id) om B;have hm:ev (dt N cap) s kd id.toNat=(fD L id:Int):=by rw[ev,ah E,S]
 rw[hm]at Q;have m:s.bl.getD id.toNat false=false/\mS (dt N cap) s id.toNat=true:=by
  rcases E with rfl|rfl
  .rw[dY,ah rfl,bK]at j;refine⟨?_,j.2⟩;cases hp:s.bl.getD id.toNat false with
   |false=>rfl
   |true=>have:=h.ps id.toNat om hp;rw[this]at j;exact absurd j.1 am
  rw[dY,ag am,ah rfl,bK,bK]at j;exact⟨by simpa using j.1.2,j.2⟩
 have hq:id.toNat<s.bl.length:=by rw[h.lp];omega
 have I:id.toNat<s.saved.length:=by rw[h.ls];omega
 have U:=h.lv;have V:=h.pe;have r:=h.cap;refine⟨⟨F,B,?_,h.ins c F B m.2,om⟩,λA' jw J Y hp K=>?_⟩;rw[h.tt,ag (by rw[m.1];intro ⟨_,_,b⟩;cases b)];have Z:g4 (dt N cap) s kd id=⟨s.bl.set id.toNat true,s.saved.set id.toNat true,s.aI,s.eM,s.fW,s.done,s.now+(fD L id:Int),max s.kb (s.now+(fD L id:Int))⟩:=by unfold g4;dsimp only;rw[ah E,hm]
 rw[Z];refine⟨J,by show((A'.lv:Nat):Int)=_;rw[Y];dsimp only;omega,by show((A'.pe:Nat):Int)=_;rw[hp];dsimp only;omega,by dsimp only;omega,by show((A'.cap:Nat):Int)=_;rw[K];exact r,λy=>?_,λy=>?_,h.gs,h.sd,h.d0,h.d1,h.G,h.X,h.em,λy C=>?_,by simpa using h.lp,by simpa using h.ls,h.lg⟩;dsimp only;by_cases C:y=id;subst C;rw[h6,ah ⟨F,B,by rw[ej hq,ah rfl]⟩];rw[eb (λb=>C b.2),h.tt];by_cases u:1<=y;rw[show(s.bl.set id.toNat true).getD y.toNat false=s.bl.getD y.toNat false from by rw[ej hq,ag om]];rw[ag (λb=>u b.1),ag (λb=>u b.1)];exact xa0;dsimp only;rw[ej hq,ej I];split;intro _;rfl;exact h.ps y C
def gU.aa4(c:fQ N O L l P x)(h:gU N O L l P x cap s e)(I:lG (dt N cap) s 3 id=0):
  (1<=id/\id<=N.nodes/\e.T false id=some ((dU N P x).getD id.toNat T0).2)/\
  ∀(A':da) (jw:Bool->Tb),cV A' jw (eW e.T false id none)->A'.lv+((dU N P x).getD id.toNat T0).2.length=e.A.lv->A'.pe=e.A.pe->A'.cap=e.A.cap->
   gU N O L l P x cap (g4 (dt N cap) s 3 id) {e with A:=A',tb:=jw,T:=eW e.T false id none}:=by
 obtain⟨u,m,F,V⟩:=Bb c I om;obtain⟨J,Y,w3⟩:=c.word (cap:=cap) (z:=id) om m;obtain⟨Z,v2,v3⟩:=c.val u m;have B:s.bl.getD id.toNat false=true:=by rw[dY,ag am,ag am,ah rfl]at F;exact F
 have hq:id.toNat<s.bl.length:=by rw[h.lp];omega
 have K:=h.lv;have M:=h.pe;have Q:=h.np;refine⟨⟨u,m,by rw[h.tt,ah ⟨u,m,B⟩]⟩,λA' jw C S hp E=>?_⟩;have U:g4 (dt N cap) s 3 id=⟨s.bl.set id.toNat false,s.saved,s.aI,s.eM,s.fW,s.done,s.now+0-(fD L id:Int),max s.kb (s.now+0)⟩:=by unfold g4;dsimp only;rw[ag am,ah rfl,J];rfl
 rw[U];rw[v3]at S;refine⟨C,by show((A'.lv:Nat):Int)=_;dsimp only;omega,by show((A'.pe:Nat):Int)=_;rw[hp];dsimp only;omega,by dsimp only;omega,by show((A'.cap:Nat):Int)=_;rw[E];exact h.cap,λy=>?_,λy=>?_,h.gs,h.sd,h.d0,h.d1,h.G,h.X,h.em,λy r=>?_,by simpa using h.lp,h.ls,h.lg⟩;dsimp only;by_cases r:y=id;subst r;rw[h6,ag (λb=>by have:=b.2.2;rw[ej hq,ah rfl]at this;cases this)];rw[eb (λb=>r b.2),h.tt];by_cases j:1<=y;rw[show(s.bl.set id.toNat false).getD y.toNat false=s.bl.getD y.toNat false from by rw[ej hq,ag om]];rw[ag (λb=>j b.1),ag (λb=>j b.1)];exact xa0;dsimp only;rw[ej hq];split;intro b;cases b;exact h.ps y r
def IX(h:lG (dt N cap) s kd id=0)(j:kd=4\/kd=5):id=0/\dY (dt N cap) s kd 0=true/\s.now+ev (dt N cap) s kd 0<=cap:=by
 obtain⟨b,u,m,r⟩:=r4 h;rw[pR j]at b;obtain rfl:id=0:=by simpa using b
 exact⟨rfl,m,r⟩
def gU.emit(c:fQ N O L l P x)(h:gU N O L l P x cap s e)(m:lG (dt N cap) s 4 id=0):
  e.T false (l:Int)=some ((dU N P x).getD l T0).2/\gU N O L l P x cap (g4 (dt N cap) s 4 id) {e with lo:=((dU N P x).getD l T0).2.getD 0 0}:=by
 obtain⟨rfl,j,B⟩:=IX m (.inl rfl);have l1:=c.hN.oo;have C:=c.hN.lE;have b:s.bl.getD l false=true:=by rw[dY,ag am,ag am,ag am,ah rfl,bK,c.g2]at j;exact j.1
 have r:=h.pe;have u:=h.np;refine⟨by rw[h.tt,ah ⟨om,om,by rw[aZ];exact b⟩,aZ],?_⟩;have y:g4 (dt N cap) s 4 0=⟨s.bl,s.saved,s.aI,true,s.fW,s.done,s.now+0,max s.kb (s.now+0)⟩:=by unfold g4;dsimp only;rw[ag am,ag am,ah rfl];rfl
 rw[y];refine⟨h.mb,by have:=h.lv;dsimp only;omega,by dsimp only;omega,by dsimp only;omega,h.cap,h.tt,h.gg,h.gs,h.sd,h.d0,h.d1,h.G,h.X,λ_=>?_,h.ps,h.lp,h.ls,h.lg⟩;show _=ra N P x;rw[ra,c.hN.fj];rfl
def YM(b:l<=N.nodes)(z:Nat):(q2 N L l P).1.getD z T0=if l=z then nH (L.getD l [])else T0:=by
 show((List.replicate (N.nodes.length+1) T0).set l (nH (L.getD l []))).getD z T0=_;rw[eh cr];congr 1;rw[aQ,jy];split<;>rfl
def gU.acs(c:fQ N O L l P x)(h:gU N O L l P x cap s e)(V:lG (dt N cap) s 5 id=0):
  (e.T true (l:Int)=none/\(e.A.lv:Int)+fD L l<=e.A.cap/\(nH (L.getD l [])).2.length=fD L l)/\
  ∀(A':da) (jw:Bool->Tb),cV A' jw (eW e.T true (l:Int) (some (nH (L.getD l [])).2))->A'.lv=e.A.lv+fD L l->A'.pe=max e.A.pe (e.A.lv+fD L l)->A'.cap=e.A.cap->
   gU N O L l P x cap (g4 (dt N cap) s 5 id) {e with A:=A',tb:=jw,T:=eW e.T true (l:Int) (some (nH (L.getD l [])).2)}:=by
 obtain⟨rfl,S,Y⟩:=IX V (.inr rfl);have l1:=c.hN.oo;have Z:=c.hN.lE;have B:s.fW=false:=by rw[dY,ag am,ag am,ag am,ag am,ah rfl]at S;simpa using S
 have C:=h.sd B;obtain⟨U,w2,w3⟩:=c.word (cap:=cap) (z:=(l:Int)) om om;rw[aZ]at U;have hm:ev (dt N cap) s 5 0=(fD L l:Int):=by rw[ev,ag am,ah rfl,c.g2,U]
 rw[hm]at Y;have r:∀y:Int,1<=y->y<=N.nodes.length->s.aI.getD y.toNat false=false:=λy I J=>by
  cases hp:s.aI.getD y.toNat false with
  |false=>rfl
  |true=>have:=((h.gs y I J).1 hp).1;rw[B]at this;cases this
 have hq:l<s.aI:=by rw[h.lg];omega
 have m:=uL (c.hN.right c.hF (z:=(l:Int)) om om);rw[aZ]at m;have K:(nH (L.getD l [])).2.length=fD L l:=Ba (z:=(l:Int)) m (by rw[aZ];rfl);have qA:=h.lv;have uj:=h.pe;have E:=h.cap;refine⟨⟨?_,om,K⟩,λA' jw M hl hp Q=>?_⟩;rw[h.gg,ag (λb=>by have:=b.2.2;rw[r _ om om]at this;cases this)];have hD:g4 (dt N cap) s 5 0=⟨s.bl,s.saved,s.aI.set l true,s.eM,true,s.done,s.now+(fD L l:Int),max s.kb (s.now+(fD L l:Int))⟩:=by unfold g4;dsimp only;rw[ag am,ag am,ag am,ah rfl,c.g2,show(0:Int).toNat=0 from rfl,hm]
 rw[hD];have F:∀y:Int,(cD N O L l P x s.done.toNat).1.getD y.toNat T0=if l=y.toNat then nH (L.getD l [])else T0:=λy=>by rw[C];exact YM Z _
 refine⟨M,by show((A'.lv:Nat):Int)=_;rw[hl];dsimp only;omega,by show((A'.pe:Nat):Int)=_;rw[hp];dsimp only;omega,by dsimp only;omega,by show((A'.cap:Nat):Int)=_;rw[Q];exact E,λy=>?_,λy=>?_,λy I J=>?_,λb=>(by cases b),h.d0,h.d1,h.G,h.X,h.em,h.ps,h.lp,h.ls,by simpa using h.lg⟩;dsimp only;rw[eb (λb=>absurd b.1 am)];exact h.tt y;dsimp only;rw[F];by_cases u:y=(l:Int);subst u;rw[h6,ah ⟨om,om,by rw[aZ,ej hq,ah rfl]⟩,aZ,ah rfl];rw[eb (λb=>u b.2),h.gg];by_cases j:1<=y/\y<=N.nodes.length;rw[ag (λb=>by have:=b.2.2;rw[r y j.1 j.2]at this;cases this),ag (λb=>by have:=b.2.2;rw[ej hq,ag om,r y j.1 j.2]at this;cases this)];rw[ag (λb=>j ⟨b.1,b.2.1⟩),ag (λb=>j ⟨b.1,b.2.1⟩)];dsimp only;rw[F,ej hq,C];by_cases u:l=y.toNat;rw[ah u,ah u];exact⟨λ_=>⟨rfl,m.ne,aD⟩,λ_=>rfl⟩;rw[ag u,ag u,r y I J];exact⟨λb=>(by cases b),λb=>absurd rfl b.2.1⟩
variable{d:Nat}{tb:Bool->Tb}
def fL(N:bm)(s:jv)(id:Int)(i:Nat):List Int:=jc s.aI ((bS N id).take i) []
def kg(L:f0)(F:au):Nat:=(F.map (fD L)).sum
def oq(N:bm)(s:jv)(id:Int)(i:Nat):Bool:=decide ((bS N id).getD i 0≠0)&& !s.aI.getD ((bS N id).getD i 0).toNat false&& !((bS N id).take i).contains ((bS N id).getD i 0)
structure tn(N:bm)(L:List (List Int))(s:jv)(e:si)(id:Int)(i:Nat)(A:da)(tb:Bool->Tb)(T:Bool->Int->Option (List Int)):Prop where
 mb:cV A tb T
 lv:A.lv=e.A.lv+kg L (fL N s id i)
 pe:A.pe=max e.A.pe A.lv
 cap:A.cap=e.A.cap
 tf:∀z,T false z=e.T false z
 tg:∀z,T true z=if z∈fL N s id i then some (List.replicate (fD L z) 0)else e.T true z
noncomputable def j4(N:bm)(O:au)(L:f0)(l:Nat)(P:List TV)(x:TV)(d:Nat)(id:Int)(v:et)(i:Nat):List TV:=
 iQ (cD N O L l P x d).1 (v.ins.take i) ((oU N P (dU N P x) (cD N O L l P x d).1 id v).take i)
structure wh(N:bm)(O:List Int)(L:List (List Int))(l:Nat)(P:List TV)(x:TV)(s:jv)(e:si)(id:Int)(v:et)(i:Nat)(A:da)(tb:Bool->Tb)(T:Bool->Int->Option (List Int))(X:TV):Prop where
 mb:cV A tb T
 lv:A.lv=e.A.lv+kg L (fL N s id v.ins.length)
 pe:A.pe=max e.A.pe A.lv
 cap:A.cap=e.A.cap
 tf:∀z,T false z=e.T false z
 tg:∀z:Int,T true z=if 1<=z/\z<=N.nodes.length/\(s.aI.getD z.toNat false=true\/z∈v.ins)then some (if((j4 N O L l P x s.done.toNat id v i).getD z.toNat T0).2=[]then List.replicate (fD L z) 0 else((j4 N O L l P x s.done.toNat id v i).getD z.toNat T0).2)else none
 X:X=(j4 N O L l P x s.done.toNat id v i).getD 0 T0
variable{X t:TV}{A:da}{T:Bool->Int->Option (List Int)}{v:et}
def Bc(G:List Bool):∀(a b l:au),jc G (a++b) l=jc G b (jc G a l)
 |[],_,_=>rfl
 |z::t,b,l=>by rw[tP,jc,jc,Bc G t b]
def uX(G:List Bool):∀(a l:au) (z:Int),z∈jc G a l↔z∈l\/(z∈a/\z≠0/\G.getD z.toNat false=false)
 |[],l,z=>by simp[jc]
 |y::t,l,z=>
  by
   rw[jc,uX G t];by_cases h:y≠0/\G.getD y.toNat false=false/\l.contains y=false;rw[ah h,bM,cZ,cw];constructor;rintro((h1|rfl)|h1);exact .inl h1;exact .inr ⟨.inl rfl,h.1,h.2.1⟩;exact .inr ⟨.inr h1.1,h1.2⟩;rintro(h1|⟨rfl|h1,b⟩);exact .inl (.inl h1);exact .inl (.inr rfl);exact .inr ⟨h1,b⟩;rw[ag h,cw];constructor;rintro(h1|h1);exact .inl h1;exact .inr ⟨.inr h1.1,h1.2⟩;rintro(h1|⟨rfl|h1,b⟩);exact .inl h1;left;have:l.contains z=true:=by
    cases j:l.contains z with
    |true=>rfl
    |false=>exact absurd ⟨b.1,b.2,j⟩ h
   simpa using this;exact .inr ⟨h1,b⟩
def Bd(G:List Bool):∀(a l:au),∃r,jc G a l=l++r
 |[],l=>⟨[],by simp[jc]⟩
 |z::t,l=>by rw[jc];split;obtain⟨r,h⟩:=Bd G t (l++[z]);exact⟨z::r,by rw[h];simp⟩;exact Bd G t l
def mW:z∈fL N s id i↔z∈(bS N id).take i/\z≠0/\s.aI.getD z.toNat false=false:=by
 unfold fL;rw[uX];simp
def wj(h:(bS N id)[i]?=some z):fL N s id (i+1)=if oq N s id i=true then fL N s id i++[z]else fL N s id i:=by
 have j:(bS N id).getD i 0=z:=by rw[aQ,h];rfl
 unfold fL oq;rw[j,take_at h,Bc,jc];rw[jc];have m:(jc s.aI ((bS N id).take i) []).contains z=(decide (z≠0)&& !s.aI.getD z.toNat false&&((bS N id).take i).contains z):=by have:=uX s.aI ((bS N id).take i) [] z;rw[tN];simp only[Ev,bK,bZ,EG];rw[this];simp only[nR,false_or];exact⟨λ⟨a,b,c⟩=>⟨⟨b,c⟩,a⟩,λ⟨⟨b,c⟩,a⟩=>⟨a,b,c⟩⟩
 rw[m];cases s.aI.getD z.toNat false<;>cases ((bS N id).take i).contains z<;>by_cases r:z=0<;>simp[r]
def UP:kg L (fL N s id i)<=kg L (fL N s id (bS N id).length):=by
 have e:fL N s id (bS N id).length=jc s.aI ((bS N id).drop i) (fL N s id i):=by unfold fL;rw[dR,<-Bc,dC]
 obtain⟨r,hr⟩:=Bd s.aI ((bS N id).drop i) (fL N s id i);rw[e,hr];unfold kg;rw[c9,nk];omega
structure je(N:bm)(O:List Int)(L:List (List Int))(l:Nat)(P:List TV)(x:TV)(cap:Int)(s:jv)(e:si)(id:Int)(v:et):Prop where
 i1:1<=id
 i2:id<=N.nodes
 hv:N.nodes[(id-1).toNat]?=some v
 hm:v∈N.nodes
 hi:bS N id=v.ins
 at_:O.reverse[s.done.toNat]?=some id
 sd:s.fW=true
 gd:s.aI.getD id.toNat false=true
 tg:e.T true id=some ((cD N O L l P x s.done.toNat).1.getD id.toNat T0).2
 Qi:((cD N O L l P x s.done.toNat).1.getD id.toNat T0).1=L.getD id.toNat []/\TV.ok ((cD N O L l P x s.done.toNat).1.getD id.toNat T0)
 ins:∀z∈v.ins,z=0\/(1<=z/\z<=N.nodes.length/\e.T false z=some ((dU N P x).getD z.toNat T0).2)
 Be:∀z∈v.ins,0<=z/\z<=N.nodes.length
 sum:(e.A.lv:Int)+kg L (fL N s id v.ins.length)<=cap
 x1:(oU N P (dU N P x) (cD N O L l P x s.done.toNat).1 id v).map (·.1)=d8 v L
 x2:∀t∈oU N P (dU N P x) (cD N O L l P x s.done.toNat).1 id v,TV.ok t
 bi:vV N L l P (O.reverse.take s.done.toNat) (cD N O L l P x s.done.toNat)
def wk(W:au)(f:Int->Nat):∀F:List Int,(∀z∈F,W.getD z.toNat 0=(f z:Int))->(F.map λz=>W.getD z.toNat 0).sum=(((F.map f).sum:Nat):Int)
 |[],_=>rfl
 |z::t,h=>by rw[di,fY,di,fY,wk W f t λy b=>h y (dp _ b),h z cm,ee]
def gU.UQ(c:fQ N O L l P x)(h:gU N O L l P x cap s e)(S:lG (dt N cap) s 6 id=0):∃v,je N O L l P x cap s e id v:=by
 obtain⟨r,u,G,U⟩:=Bb c S om;rw[dY,ag am,ag am,ag am,ag am,ag am]at G;simp only[bK,bZ]at G;obtain⟨⟨⟨hg,hr⟩,hd⟩,E⟩:=G;have hO:(dt N cap).order=O:=c.hN.ord;rw[hO]at hd E;have V:=h.d0;have I:s.done.toNat<O.length:=om;have y:O.reverse[s.done.toNat]?=some id:=by rw[xU I];have e:((O.length:Int)-1-s.done).toNat=O-1-s.done.toNat:=om;rw[e]at E;have M:O.length-1-s.done.toNat<O:=om;rw[aQ,a5 M]at E;rw[a5 M];congr 1;have:=eq_of_beq E;rw[tB]at this;rw[this];omega
 have B:=rX c.hN c.hE c.hF (kQ c.hN c.hF) s.done.toNat om;have b:=B.there c.hN c.hE y;obtain⟨v,p1,Q,F,p4,p5,p6,p7,p8,p9,J,K,Y,Z⟩:=vV.parts c.hN c.hF (kQ c.hN c.hF) (bn.2 ⟨r,u⟩) b;have j:=c.hN.kc v Q;have m:=h.ins c r u hr;rw[F]at m;have C:ev (dt N cap) s 6 id.toNat=(kg L (fL N s id v.ins.length):Int):=by rw[ev,ag am,ag am,ah rfl,ix,A9 r,F,kg,fL,F,dR];refine wk _ _ _ λz hz=>?_;rw[uX]at hz;rcases hz with hz|hz;cases hz;have:=j z hz.1;exact(c.word this.1 this.2).1
 rw[C]at U;have qA:=h.lv;exact⟨v,r,u,p1,Q,F,y,((h.gs id r u).1 hg).1,hg,by rw[h.gg,ah ⟨r,u,hg⟩],b,m,j,om,J,K,B⟩
def tn.zero(h:cV e.A e.tb e.T)(j:e.A.lv<=e.A.pe):tn N L s e id 0 e.A e.tb e.T:=by
 have b:fL N s id 0=[]:=by unfold fL;rw[dW];rfl
 exact⟨h,by rw[b];rfl,om,rfl,λz=>rfl,λz=>by rw[b];simp⟩
def gU.lp_(h:gU N O L l P x cap s e):e.A.lv<=e.A.pe:=by
 have b:=h.lv;have j:=h.pe;have m:=h.np;omega
def tn.has(h:gU N O L l P x cap s e)(b:je N O L l P x cap s e id v)(g:tn N L s e id i A tb T)(B:(bS N id)[i]?=some z):(oq N s id i=true↔z≠0/\T true z=none)/\(oq N s id i=false↔z=0\/∃xs,T true z=some xs):=by
 have u:(bS N id).getD i 0=z:=by rw[aQ,B];rfl
 have hr:=b.Be z (by rw[<-b.hi];exact aC B);have key:z≠0->(T true z=none↔(s.aI.getD z.toNat false=false/\z∉(bS N id).take i)):=λr=>by rw[g.tg];by_cases hm:z∈fL N s id i;rw[ah hm];rw[mW]at hm;exact⟨λj=>(by cases j),λj=>absurd hm.1 j.2⟩;rw[ag hm,h.gg];rw[mW]at hm;by_cases hg:s.aI.getD z.toNat false=true;rw[ah ⟨om,hr.2,hg⟩];exact⟨λj=>(by cases j),λj=>(by rw[hg]at j;cases j.1)⟩;rw[ag (λj=>hg j.2.2)];(have m:s.aI.getD z.toNat false=false:=by simpa using hg);exact⟨λ_=>⟨m,λj=>hm ⟨j,r,m⟩⟩,λ_=>rfl⟩
 have C:oq N s id i=true↔z≠0/\T true z=none:=by unfold oq;rw[u];simp only[bK,bZ,EG];constructor;rintro⟨⟨a,y⟩,d⟩;exact⟨a,(key a).2 ⟨y,by simpa using d⟩⟩;rintro⟨a,y⟩;obtain⟨F,G⟩:=(key a).1 y;exact⟨⟨a,F⟩,by simpa using G⟩
 refine⟨C,?_⟩;rw[<-Bool.not_eq_true,C];constructor;intro j;by_cases r:z=0;exact .inl r
 .right;cases ht:T true z with
  |none=>exact absurd ⟨r,ht⟩ j
  |some xs=>exact⟨xs,rfl⟩
 rintro(j|⟨xs,j⟩) ⟨I,E⟩;exact I j;rw[j]at E;cases E
def tn.skip(g:tn N L s e id i A tb T)(j:(bS N id)[i]?=some z)(hb:oq N s id i=false):tn N L s e id (i+1) A tb T:=by
 have b:fL N s id (i+1)=fL N s id i:=by rw[wj j,hb];rfl
 exact⟨g.mb,by rw[b];exact g.lv,g.pe,g.cap,g.tf,λy=>by rw[b];exact g.tg y⟩
def tn.room(h:gU N O L l P x cap s e)(b:je N O L l P x cap s e id v)(g:tn N L s e id i A tb T)(j:(bS N id)[i]?=some z)(hb:oq N s id i=true):(A.lv:Int)+fD L z<=A.cap:=by
 have m:=UP (N:=N) (L:=L) (s:=s) (id:=id) (i:=i+1);rw[wj j,hb,ah rfl]at m;have u:kg L (fL N s id i++[z])=kg L (fL N s id i)+fD L z:=by unfold kg;simp
 have r:=b.sum;have y:=h.cap;rw[<-b.hi]at r;rw[g.lv,g.cap];omega
def tn.RK(g:tn N L s e id i A tb T)(u:(bS N id)[i]?=some z)(hb:oq N s id i=true){A':da}{jw:Bool->Tb}(j:cV A' jw (eW T true z (some (List.replicate (fD L z) 0))))(G:A'.lv=A.lv+fD L z)(hp:A'.pe=max A.pe (A.lv+fD L z))(B:A'.cap=A.cap):
  tn N L s e id (i+1) A' jw (eW T true z (some (List.replicate (fD L z) 0))):=by
 have r:fL N s id (i+1)=fL N s id i++[z]:=by rw[wj u,hb];rfl
 have C:kg L (fL N s id i++[z])=kg L (fL N s id i)+fD L z:=by unfold kg;simp
 have E:=g.pe;have F:=g.lv;refine⟨j,by rw[r,C];omega,om,by rw[B];exact g.cap,λy=>?_,λy=>?_⟩;rw[eb (λb=>absurd b.1 am)];exact g.tf y;rw[r];by_cases m:y=z;subst m;rw[h6,ah aD];rw[eb (λb=>m b.2),g.tg];have:y∈fL N s id i++[z]↔y∈fL N s id i:=by simp[m]
 by_cases hm:y∈fL N s id i;rw[ah hm,ah (this.2 hm)];rw[ag hm,ag λb=>hm (this.1 b)]
def tr:∀(zs:au) (ts:List TV) (gr:List TV) (i:Nat) (z:Int) (t:TV),zs[i]?=some z->ts[i]?=some t->iQ gr (zs.take (i+1)) (ts.take (i+1))=(iQ gr (zs.take i) (ts.take i)).set z.toNat (iz ((iQ gr (zs.take i) (ts.take i)).getD z.toNat T0) t)
 |[],_,_,_,_,_,h,_=>by simp at h
 |_::_,[],_,_,_,_,_,h=>by simp at h
 |y::zs,u::ts,gr,0,z,t,h1,h2=>by simp at h1 h2;subst h1 h2;simp[iQ]
 |y::zs,u::ts,gr,i+1,z,t,h1,h2=>by rw[o5]at h1 h2;rw[fX,fX,iQ,tr zs ts _ i z t h1 h2,fX,fX,iQ]
def je.at(b:je N O L l P x cap s e id v):(j4 N O L l P x s.done.toNat id v i).length=N.nodes+1/\(∀z:Int,0<=z->z<=N.nodes.length->AA L (j4 N O L l P x s.done.toNat id v i) z)/\
  ∀z:Int,0<=z->z<=N.nodes.length->(((j4 N O L l P x s.done.toNat id v i).getD z.toNat T0).2≠[]↔((cD N O L l P x s.done.toNat).1.getD z.toNat T0).2≠[]\/z∈v.ins.take i):=by
 have h:=uJ (L:=L) (m:=N.nodes.length) (v.ins.take i) ((oU N P (dU N P x) (cD N O L l P x s.done.toNat).1 id v).take i) (cD N O L l P x s.done.toNat).1 b.bi.len (λz j=>b.Be z (cE j)) (by rw[gI,b.x1,d8,gI]) (λt ht=>b.x2 t (cE ht)) b.bi.sh;exact⟨h.1,h.2.1,h.2.2.1⟩
def DN(c:fQ N O L l P x)(hd:O.reverse[d]?=some id)(b:z∈bS N id)(m:z≠0):z∉O.reverse.take d:=by
 obtain⟨E,r⟩:=oV hd;rcases c.hN.rW r z b with h3|h3;exact absurd h3 m;intro u;obtain⟨k,F,y⟩:=oW u;obtain⟨G,B⟩:=oV y;obtain⟨j,I,C⟩:=oW h3;have:=DG c.hN.kh.nd B C;omega
def je.none_(c:fQ N O L l P x)(h:gU N O L l P x cap s e)(b:je N O L l P x cap s e id v)(m:z∈v.ins)(r:z≠0):(s.aI.getD z.toNat false=false↔((cD N O L l P x s.done.toNat).1.getD z.toNat T0).2=[]):=by
 have hr:=b.Be z m;have hg:=h.gs z om hr.2;have u:=DN c b.at_ (by rw[b.hi];exact m) r;constructor;intro j;rcases EP (((cD N O L l P x s.done.toNat).1.getD z.toNat T0).2=[])with h1|h1;exact h1;have:=hg.2 ⟨b.sd,h1,u⟩;rw[j]at this;cases this
 .intro j;cases hq:s.aI.getD z.toNat false with
  |false=>rfl
  |true=>exact absurd j (hg.1 hq).2.1
def je.fresh(c:fQ N O L l P x)(h:gU N O L l P x cap s e)(b:je N O L l P x cap s e id v)(y:v.ins[i]?=some z)(B:z≠0):oq N s id i=true↔((j4 N O L l P x s.done.toNat id v i).getD z.toNat T0).2=[]:=by
 have hm:=aC y;have hr:=b.Be z hm;have m:=(b.at (i:=i)).2.2 z hr.1 hr.2;have C:=b.none_ c h hm B;have r:(bS N id).getD i 0=z:=by rw[b.hi,aQ,y];rfl
 unfold oq;rw[r,b.hi];simp only[bK,bZ,EG];rw[C];constructor;rintro⟨⟨_,j⟩,E⟩;refine Eo λu=>?_;rcases m.1 u with h6|h6;exact h6 j;rw[<-Ev,E]at h6;cases h6;intro j;refine⟨⟨B,?_⟩,?_⟩;exact Eo λu=>(m.2 (.inl u)) j
 .cases hq:(v.ins.take i).contains z with
  |false=>rfl
  |true=>exact absurd j (m.2 (.inr (Ev.1 hq)))
def wh.start(c:fQ N O L l P x)(h:gU N O L l P x cap s e)(b:je N O L l P x cap s e id v)(g:tn N L s e id v.ins.length A tb T):wh N O L l P x s e id v 0 A tb T e.X:=by
 have u:j4 N O L l P x s.done.toNat id v 0=(cD N O L l P x s.done.toNat).1:=by unfold j4;rw[dW,dW];rfl
 refine⟨g.mb,g.lv,g.pe,g.cap,g.tf,λz=>?_,by rw[u];exact h.X⟩;rw[u,g.tg,h.gg];have m:z∈fL N s id v.ins.length↔z∈v.ins/\z≠0/\s.aI.getD z.toNat false=false:=by rw[mW,b.hi,dR]
 by_cases hm:z∈fL N s id v.ins.length;rw[ah hm];obtain⟨j,r,h3⟩:=m.1 hm;have hr:=b.Be z j;rw[ah ⟨om,hr.2,.inr j⟩,ah ((b.none_ c h j r).1 h3)];rw[ag hm];by_cases hg:1<=z/\z<=N.nodes.length/\s.aI.getD z.toNat false=true;rw[ah hg,ah ⟨hg.1,hg.2.1,.inl hg.2.2⟩,ag ((h.gs z hg.1 hg.2.1).1 hg.2.2).2.1];rw[ag hg,ag];rintro⟨j,r,h3|h3⟩;exact hg ⟨j,r,h3⟩
 .refine hm (m.2 ⟨h3,om,?_⟩);cases hq:s.aI.getD z.toNat false with
  |false=>rfl
  |true=>exact absurd ⟨j,r,hq⟩ hg
def pW(b:v.ins[i]?=some z)(ht:(oU N P (dU N P x) (cD N O L l P x d).1 id v)[i]?=some t):j4 N O L l P x d id v (i+1)=(j4 N O L l P x d id v i).set z.toNat (iz ((j4 N O L l P x d id v i).getD z.toNat T0) t):=tr _ _ _ i z t b ht
def je.get(b:je N O L l P x cap s e id v)(u:v.ins[i]?=some z):∃t,(oU N P (dU N P x) (cD N O L l P x s.done.toNat).1 id v)[i]?=some t/\t.1=L.getD z.toNat []/\TV.ok t/\t.2=fD L z:=by
 have y:=b.x1;have m:((oU N P (dU N P x) (cD N O L l P x s.done.toNat).1 id v).map (·.1))[i]?=some (L.getD z.toNat []):=by rw[y,d8,bf,u];rfl
 rw[bf]at m;obtain⟨t,ht,r⟩:=bt.1 m;have j:=b.x2 t (aC ht);exact⟨t,ht,r,j,Ba j r⟩
def wh.zero(b:je N O L l P x cap s e id v)(p:wh N O L l P x s e id v i A tb T X)(m:v.ins[i]?=some 0)(ht:(oU N P (dU N P x) (cD N O L l P x s.done.toNat).1 id v)[i]?=some t):
  wh N O L l P x s e id v (i+1) A tb T (iz X t):=by
 obtain⟨r,B,C⟩:=b.at (i:=i);refine⟨p.mb,p.lv,p.pe,p.cap,p.tf,λy=>?_,?_⟩;rw[p.tg,pW m ht,eh (by rw[r];exact tO _)];by_cases j:1<=y/\y<=N.nodes.length/\(s.aI.getD y.toNat false=true\/y∈v.ins);have u:¬(0:Int).toNat=y.toNat:=by have:=j.1;rw[Int.toNat_zero];omega
 rw[ah j,ah j,ag u];rw[ag j,ag j];rw[pW m ht,eh (by rw[r];exact tO _),Int.toNat_zero,ah rfl,p.X]
def wh.node(c:fQ N O L l P x)(h:gU N O L l P x cap s e)(b:je N O L l P x cap s e id v)(p:wh N O L l P x s e id v i A tb T X)(E:v.ins[i]?=some z)(h0:z≠0)(ht:(oU N P (dU N P x) (cD N O L l P x s.done.toNat).1 id v)[i]?=some t):
  (1<=z/\z<=N.nodes/\(oq N s id i=true->T true z=some (List.replicate (fD L z) 0))/\
   (oq N s id i=false->∃g:TV,(j4 N O L l P x s.done.toNat id v i).getD z.toNat T0=g/\g.1=L.getD z.toNat []/\TV.ok g/\T true z=some g.2/\g.2=fD L z))/\
  ∀(A':da) (jw:Bool->Tb) (C:au),C=(if oq N s id i=true then t.2 else((j4 N O L l P x s.done.toNat id v i).getD z.toNat T0).2.zipWith bQ t.2)->cV A' jw (eW T true z (some C))->A'.lv=A.lv->A'.pe=A.pe->A'.cap=A.cap->
   wh N O L l P x s e id v (i+1) A' jw (eW T true z (some C)) X:=by
 have hm:=aC E;have hr:=b.Be z hm;obtain⟨Z,F,g3⟩:=b.at (i:=i);have G:=b.fresh c h E h0;have Q:=p.tg z;rw[ah ⟨om,hr.2,.inr hm⟩]at Q;obtain⟨t',I,te,tok,tl⟩:=b.get E;rw[ht]at I;obtain rfl:=cH I;obtain⟨S,j⟩:=lh (j4 N O L l P x s.done.toNat id v i);rw[j]at Z g3 G Q;have F:=F z hr.1 hr.2;rw[j]at F;refine⟨⟨om,hr.2,λhb=>?_,λhb=>?_⟩,λA' jw C r U J V Y=>?_⟩;rw[Q,ah (G.1 hb)];have m:(S.getD z.toNat T0).2≠[]:=λB=>by rw[G.2 B]at hb;cases hb
 rw[j];rcases F with h3|h3;rw[h3]at m;exact absurd rfl m;exact⟨_,rfl,h3.1,h3.2,by rw[Q,ag m],Ba h3.2 h3.1⟩;rw[j]at r;have K:z.toNat<S.length:=by rw[Z];omega
 have M:C=(iz (S.getD z.toNat T0) t).2/\C≠[]:=by unfold iz;by_cases hb:oq N s id i=true;rw[ah hb]at r;rw[ah (G.1 hb),r];exact⟨rfl,tok.ne⟩;rw[ag hb]at r;have m:(S.getD z.toNat T0).2≠[]:=λB=>hb (G.2 B);rw[ag m,r];refine⟨rfl,?_⟩;rcases F with h3|h3;rw[h3]at m;exact absurd rfl m;exact(h3.2.add tok (by rw[te,h3.1])).ne
 refine⟨U,by rw[J];exact p.lv,by rw[V,J];exact p.pe,by rw[Y];exact p.cap,λy=>?_,λy=>?_,?_⟩;rw[eb (λB=>absurd B.1 am)];exact p.tf y;rw[pW E ht,j,eh K];by_cases hy:y=z;subst hy;rw[h6,ah ⟨om,hr.2,.inr hm⟩,ah rfl,<-M.1,ag M.2];rw[eb (λB=>hy B.2),p.tg,j];by_cases u:1<=y/\y<=N.nodes.length/\(s.aI.getD y.toNat false=true\/y∈v.ins);have h9:¬z.toNat=y.toNat:=by have:=u.1;omega
 rw[ah u,ah u,ag h9];rw[ag u,ag u];rw[pW E ht,j,eh K,ag (by show¬z.toNat=0;omega),p.X,j]
def DO:∀(F:au) (G:List Bool) (z:Nat),(∀y∈F,y.toNat<G.length)->(pS G F).getD z false=(G.getD z false||F.any λy=>decide (y.toNat=z))
 |[],G,z,_=>by simp[pS]
 |y::t,G,z,h=>by have e:pS G (y::t)=pS (G.set y.toNat true) t:=rfl;rw[e,DO t _ z (λw j=>by rw[d3];exact h w (dp _ j)),ej (h y cm),List.any_cons];by_cases b:y.toNat=z;simp[b];simp[b]
def xa1(h:Γ:=by have:=b.i1;omega):=h
def wh.done(c:fQ N O L l P x)(h:gU N O L l P x cap s e)(b:je N O L l P x cap s e id v)(p:wh N O L l P x s e id v v.ins.length A tb T X):
  (∃g:TV,T true id=some g.2/\g.2=fD L id)/\
  ∀(A':da) (jw:Bool->Tb),cV A' jw (eW T true id none)->A'.lv+fD L id=A.lv->A'.pe=A.pe->A'.cap=A.cap->
   gU N O L l P x cap (g4 (dt N cap) s 6 id) ⟨A',jw,eW T true id none,q8 e.G (Az N P (dU N P x) (cD N O L l P x s.done.toNat).1 id v) (dJ N (id-1).toNat),X,e.lo⟩:=by
 have oK:=h.d0;have U:(oU N P (dU N P x) (cD N O L l P x s.done.toNat).1 id v).length=v.ins:=by have:=cq List.length b.x1;simpa[d8]using this
 obtain⟨B,m⟩:=lh (j4 N O L l P x s.done.toNat id v v.ins.length);have V:B=iQ (cD N O L l P x s.done.toNat).1 v.ins (oU N P (dU N P x) (cD N O L l P x s.done.toNat).1 id v):=by rw[<-m,j4,dR,<-U,dR]
 have hS:cD N O L l P x (s.done+1).toNat=(B,q8 (cD N O L l P x s.done.toNat).2 (Az N P (dU N P x) (cD N O L l P x s.done.toNat).1 id v) (dJ N (id-1).toNat)):=by rw[show(s.done+1).toNat=s.done.toNat+1 from om];(have e:O.reverse.take (s.done.toNat+1)=O.reverse.take s.done.toNat++[id]:=by rw[jC,b.at_];rfl);(have F:cD N O L l P x (s.done.toNat+1)=LK N P (dU N P x) (cD N O L l P x s.done.toNat) id:=by unfold cD LL;rw[e,lN];rfl);rw[F,LK,b.hv,V]
 obtain⟨g1,g2,Q⟩:=b.at (i:=v.ins.length);rw[m,dR]at Q;rw[m]at g1 g2;have Y:=p.tg;rw[m]at Y;have J:=Q id xa1 b.i2;have C:(B.getD id.toNat T0).2≠[]:=J.2 (.inl b.Qi.2.ne);obtain⟨k1,k2⟩:(B.getD id.toNat T0).1=L.getD id.toNat []/\TV.ok (B.getD id.toNat T0):=by rcases g2 id xa1 b.i2 with h3|h3;rw[h3]at C;exact absurd rfl C;exact h3
 refine⟨⟨B.getD id.toNat T0,by rw[Y,ah ⟨b.i1,b.i2,.inl b.gd⟩,ag C],Ba k2 k1⟩,λA' jw Z qA uj pt=>?_⟩;obtain⟨w1,w2,w3⟩:=c.word (cap:=cap) (z:=id) xa1 b.i2;have K:ix (dt N cap) s id.toNat=fL N s id v.ins.length:=by rw[ix,A9 b.i1,fL,b.hi,dR]
 have r9:ev (dt N cap) s 6 id.toNat=(kg L (fL N s id v.ins.length):Int):=by rw[ev,ag am,ag am,ah rfl,K,kg];refine wk _ _ _ λz I=>?_;rw[mW]at I;have:=b.Be z (by rw[<-b.hi];exact cE I.1);exact(c.word this.1 this.2).1
 have E:∀z,z∈fL N s id v.ins.length↔z∈v.ins/\z≠0/\s.aI.getD z.toNat false=false:=λz=>by rw[mW,b.hi,dR]
 have r:∀y:Int,1<=y->y<=N.nodes.length->(((pS s.aI (fL N s id v.ins.length)).set id.toNat false).getD y.toNat false=true↔y≠id/\(s.aI.getD y.toNat false=true\/y∈v.ins)):=λy y1 S=>by (have sI:∀z∈fL N s id v.ins.length,z.toNat<s.aI.length:=λz I=>by have:=b.Be z ((E z).1 I).1;rw[h.lg];omega);rw[ej (by rw[q4,h.lg];have:=b.i1;have:=b.i2;omega),DO _ _ _ sI];have i1:=b.i1;by_cases u:id.toNat=y.toNat;rw[ah u];exact⟨λhx=>(by cases hx),λhx=>absurd om hx.1⟩;rw[ag u,Ek,Ej];constructor;rintro(hx|⟨z,I,hx⟩);exact⟨λhe=>u (by rw[he]),.inl hx⟩;have h3:=(E z).1 I;have h4:=b.Be z h3.1;(have h5:z.toNat=y.toNat:=by simpa using hx);have:z=y:=om;subst this;exact⟨λhe=>u (by rw[he]),.inr h3.1⟩;rintro⟨_,hx⟩;by_cases hg:s.aI.getD y.toNat false=true;exact .inl hg;rcases hx with hx|hx;exact .inl hx;exact .inr ⟨y,(E y).2 ⟨hx,om,by simpa using hg⟩,aD⟩
 have hD:g4 (dt N cap) s 6 id=⟨s.bl,s.saved,(pS s.aI (fL N s id v.ins.length)).set id.toNat false,s.eM,s.fW,s.done+1,s.now+(kg L (fL N s id v.ins.length):Int)-(fD L id:Int),max s.kb (s.now+(kg L (fL N s id v.ins.length):Int))⟩:=by unfold g4;dsimp only;rw[ag am,ag am,ag am,ag am,r9,K,w1]
 rw[hD];have adN:=h.lv;have adO:=h.pe;have adP:=p.lv;have adQ:=p.pe;have Ok:=(oV b.at_).1;refine⟨Z,by dsimp only;omega,by dsimp only;omega,by dsimp only;omega,by dsimp only;rw[pt,p.cap];exact h.cap,λy=>?_,λy=>?_,λy y1 S=>?_,λhx=>absurd (hx.symm.trans b.sd) am,by dsimp only;omega,by dsimp only;omega,?_,?_,h.em,h.ps,h.lp,h.ls,by simp[q4,h.lg]⟩;dsimp only;rw[eb (λhx=>absurd hx.1 am),p.tf];exact h.tt y;dsimp only;rw[hS];by_cases u:y=id;subst u;rw[h6,ag (λhx=>((r y hx.1 hx.2.1).1 hx.2.2).1 rfl)];rw[eb (λhx=>u hx.2),Y];by_cases j:1<=y/\y<=N.nodes.length/\(s.aI.getD y.toNat false=true\/y∈v.ins)
 have hn:(B.getD y.toNat T0).2≠[]:=(Q y om j.2.1).2 (by
  rcases j.2.2 with h3|h3
  .exact .inl ((h.gs y j.1 j.2.1).1 h3).2.1
  .exact .inr h3)
 rw[ah j,ag hn,ah ⟨j.1,j.2.1,(r y j.1 j.2.1).2 ⟨u,j.2.2⟩⟩];rw[ag j,ag (λhx=>j ⟨hx.1,hx.2.1,((r y hx.1 hx.2.1).1 hx.2.2).2⟩)];dsimp only;rw[hS,r y y1 S,Q y om S];have e:O.reverse.take (s.done+1).toNat=O.reverse.take s.done.toNat++[id]:=by rw[show(s.done+1).toNat=s.done.toNat+1 from om,jC,b.at_];rfl
 rw[e,bM,cZ];have M:=h.gs y y1 S;constructor;rintro⟨F,h2|h2⟩;have:=M.1 h2;exact⟨b.sd,.inl this.2.1,λhx=>hx.elim this.2.2 F⟩;exact⟨b.sd,.inr h2,λhx=>hx.elim (DN c b.at_ (by rw[b.hi];exact h2) om) F⟩;rintro⟨F,h2,h3⟩;refine⟨λhx=>h3 (.inr hx),?_⟩;rcases h2 with h2|h2;exact .inl (M.2 ⟨F,h2,λhx=>h3 (.inl hx)⟩);exact .inr h2;dsimp only;rw[hS,h.G];dsimp only;rw[hS,p.X,m]
end Go.Proofs.YtmkjnlifimffkaaGreat
