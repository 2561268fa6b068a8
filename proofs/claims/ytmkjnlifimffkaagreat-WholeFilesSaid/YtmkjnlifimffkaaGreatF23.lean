/- Lemmas. -/
import Derived.Test.YtmkjnlifimffkaaGreatF22
namespace Go.Proofs.YtmkjnlifimffkaaGreat
open Go.RowKit Tryz
set_option linter.all false
set_option maxRecDepth 100000
set_option maxHeartbeats 0
variable{D O:List Int}{L:List (List Int)}{i j l:Nat}{gr vals:List TV}{cap id kd z:Int}{s:iv}{iw:Bool->Tb}
noncomputable def dr(N:aU)(O:av)(L:fV)(l:Nat)(P:List TV)(x:TV)(d:Nat):List TV×List TV:=Rj N P (eI N P x) (vy N L l P) (O.reverse.take d)
structure qw where
 A:cB
 tb:Bool->Tb
 T:Bool->Int->Option (List Int)
 G:List TV
 X:TV
 lo:Int
structure gn(N:aU)(O:List Int)(L:List (List Int))(l:Nat)(P:List TV)(x:TV):Prop where
 hN:db N O L l
 hE:a6 N=0
 hO:hB N=0
 hF:la N P x
 hL:dh N=(O,L,(l:Int))
structure fT(N:aU)(O:List Int)(L:List (List Int))(l:Nat)(P:List TV)(x:TV)(cap:Int)(s:iv)(e:qw):Prop where
 mb:cr e.A e.tb e.T
 lv:(e.A.lv:Int)=s.now
 pe:(e.A.pe:Int)=s.iU
 np:s.now<=s.iU
 cap:(e.A.cap:Int)=cap
 tt:∀id:Int,e.T false id=if 1<=id/\id<=N.nodes/\s.bb.getD id.toNat false=true then some ((eI N P x).getD id.toNat T0).2 else none
 gg:∀id:Int,e.T true id=if 1<=id/\id<=N.nodes/\s.aE.getD id.toNat false=true then some ((dr N O L l P x s.done.toNat).1.getD id.toNat T0).2 else none
 gs:∀id:Int,1<=id->id<=N.nodes->(s.aE.getD id.toNat false=true↔s.fe=true/\((dr N O L l P x s.done.toNat).1.getD id.toNat T0).2≠[]/\id∉O.reverse.take s.done.toNat)
 sd:s.fe=false->s.done=0
 d0:0<=s.done
 d1:s.done<=O.length
 G:e.G=(dr N O L l P x s.done.toNat).2
 X:e.X=(dr N O L l P x s.done.toNat).1.getD 0 T0
 em:s.eh=true->e.lo=uJ N P x
 ps:∀id:Nat,1<=id->s.bb.getD id false=true->s.saved.getD id false=true
 lp:s.bb=N.nodes.length+1
 ls:s.saved=N.nodes.length+1
 lg:s.aE=N.nodes.length+1
def eW(L:fV)(z:Int):Nat:=(bt (L.getD z.toNat [])).toNat
section
variable{N:aU}{R:List Int}{P:List TV}{x:TV}{e e':qw}{A':cB}
def dS{L:List Bool}{i:Nat}{b:Bool}(h:i<L):(L.set i b).getD j false=if i=j then b else L.getD j false:=by
 by_cases e:i=j
 .subst e;rw[ah rfl,aX,h0 h];rfl
 .rw[ag e,aX,lJ e,<-aX]
def yG(h:1<=id):(cX N cap).ins.getD id.toNat []=bG N id:=by
 show([]::N.nodes.map (·.ins)).getD id.toNat []=_
 rw[show id.toNat=(id-1).toNat+1 from om,List.getD_cons_succ,aX,bj];rfl
def gn.words(c:gn N O L l P x):(cX N cap).words=L.map bt:=by
 exact(sX c.hO c.hL c.hN).1
def gn.len(c:gn N O L l P x):L=N.nodes.length+1:=c.hN.len
def gn.word(c:gn N O L l P x)(m:0<=z)(b:z<=N.nodes):(cX N cap).words.getD z.toNat 0=(eW L z:Int)/\1<=eW L z/\eW L z<=65536:=by
 have hr:=c.hN.right c.hF m b;have j:z.toNat<L.length:=by rw[c.len];omega
 have e:(cX N cap).words.getD z.toNat 0=bt (L.getD z.toNat []):=by
  rw[c.words,aX,bj,aX,bc j];rfl
 obtain⟨n,b,r,u⟩:=cV hr;have y:bt (L.getD z.toNat [])=(n:Int):=by rw[bt,ah hr,b]
 rw[e,eW,y];exact⟨aG,by simpa using r,by simpa using u⟩
def yH{t:TV}(h:TV.ok t)(hs:t.1=L.getD z.toNat []):t.2=eW L z:=by
 have j:=h.len;have b:=h.right;rw[eW,<-hs,bt,ah b];omega
def gn.val(c:gn N O L l P x)(m:1<=z)(r:z<=N.nodes):((eI N P x).getD z.toNat T0).1=L.getD z.toNat []/\TV.ok ((eI N P x).getD z.toNat T0)/\((eI N P x).getD z.toNat T0).2.length=eW L z:=by
 obtain⟨b,j⟩:=(ma c.hN c.hF).sh z (c.hN.mem.2 (bn.2 ⟨m,r⟩));exact⟨b,j,yH j b⟩
def gn.abo(c:gn N O L l P x):(cX N cap).words.length=N.nodes+1:=by rw[c.words,br,c.len]
def gn.f9(c:gn N O L l P x):(cX N cap).f9=l:=by
 show(e1 N).toNat=l
 rw[c.hN.e1];rfl
def yI(c:gn N O L l P x)(h:j3 (cX N cap) s kd id=0)(j:kd=1\/kd=2\/kd=3\/kd=6):1<=id/\id<=N.nodes/\dy (cX N cap) s kd id.toNat=true/\s.now+d8 (cX N cap) s kd id.toNat<=cap:=by
 obtain⟨b,m,r,u⟩:=qg h;rw[lb j]at b;simp only[bW,cu]at b;rw[c.abo]at m;exact⟨b.1,om,r,u⟩
def RJ(b:1<=id)(h:lj (cX N cap) s id.toNat=true):∀z∈bG N id,s.bb.getD z.toNat false=true:=by
 unfold lj at h;rw[yG b,cZ]at h;exact h
def fT.ins(c:gn N O L l P x)(h:fT N O L l P x cap s e)(b:1<=id)(m:id<=N.nodes)(hr:lj (cX N cap) s id.toNat=true):∀z∈bG N id,z=0\/(1<=z/\z<=N.nodes.length/\e.T false z=some ((eI N P x).getD z.toNat T0).2):=λz j=>by
 obtain⟨v,hv,_,_,hi,hm⟩:=c.hN.at (bn.2 ⟨b,m⟩);have hb:=c.hN.jS v hm z (by rw[<-hi];exact j);by_cases r:z=0
 .exact .inl r
 .exact .inr ⟨om,hb.2,by rw[h.tt,ah ⟨om,hb.2,RJ b hr z j⟩]⟩
def fT.comp(c:gn N O L l P x)(h:fT N O L l P x cap s e)(K:j3 (cX N cap) s kd id=0)(E:kd=1\/kd=2):
  (1<=id/\id<=N.nodes/\e.T false id=none/\(∀z∈bG N id,z=0\/(1<=z/\z<=N.nodes.length/\e.T false z=some ((eI N P x).getD z.toNat T0).2))/\(e.A.lv:Int)+eW L id<=e.A.cap)/\
  ∀(A':cB) (iw:Bool->Tb),cr A' iw (et e.T false id (some ((eI N P x).getD id.toNat T0).2))->A'.lv=e.A.lv+eW L id->A'.pe=max e.A.pe (e.A.lv+eW L id)->A'.cap=e.A.cap->
   fT N O L l P x cap (ga (cX N cap) s kd id) {e with A:=A',tb:=iw,T:=et e.T false id (some ((eI N P x).getD id.toNat T0).2)}:=by
 obtain⟨F,B,j,M⟩:=yI c K om;obtain⟨w1,w2,w3⟩:=c.word (cap:=cap) (z:=id) om B;have hm:d8 (cX N cap) s kd id.toNat=(eW L id:Int):=by rw[d8,ah E,w1]
 rw[hm]at M;have m:s.bb.getD id.toNat false=false/\lj (cX N cap) s id.toNat=true:=by
  rcases E with rfl|rfl
  .rw[dy,ah rfl,bW]at j;refine⟨?_,j.2⟩;cases hp:s.bb.getD id.toNat false with
   |false=>rfl
   |true=>
    have:=h.ps id.toNat om hp;rw[this]at j;exact absurd j.1 ak
  .rw[dy,ag ak,ah rfl,bW,bW]at j;exact⟨by simpa using j.1.2,j.2⟩
 have hq:id.toNat<s.bb.length:=by rw[h.lp];omega
 have I:id.toNat<s.saved.length:=by rw[h.ls];omega
 have Q:=h.lv;have S:=h.pe;have r:=h.cap;refine⟨⟨F,B,?_,h.ins c F B m.2,om⟩,λA' iw ce U hp J=>?_⟩
 .rw[h.tt,ag (by rw[m.1];intro ⟨_,_,b⟩;cases b)]
 .have V:ga (cX N cap) s kd id=⟨s.bb.set id.toNat true,s.saved.set id.toNat true,s.aE,s.eh,s.fe,s.done,s.now+(eW L id:Int),max s.iU (s.now+(eW L id:Int))⟩:=by
   unfold ga;dsimp only;rw[ah E,hm]
  rw[V];refine⟨ce,by show((A'.lv:Nat):Int)=_;rw[U];dsimp only;omega,by show((A'.pe:Nat):Int)=_;rw[hp];dsimp only;omega,by dsimp only;omega,by show((A'.cap:Nat):Int)=_;rw[J];exact r,λy=>?_,λy=>?_,h.gs,h.sd,h.d0,h.d1,h.G,h.X,h.em,λy C=>?_,by simpa using h.lp,by simpa using h.ls,h.lg⟩
  .dsimp only;by_cases C:y=id
   .subst C;rw[gM,ah ⟨F,B,by rw[dS hq,ah rfl]⟩]
   .rw[dG (λb=>C b.2),h.tt];by_cases u:1<=y
    .rw[show(s.bb.set id.toNat true).getD y.toNat false=s.bb.getD y.toNat false from by rw[dS hq,ag om]]
    .rw[ag (λb=>u b.1),ag (λb=>u b.1)]
  .dsimp only;rw[dG (λb=>absurd b.1 ak)];exact h.gg y
  .dsimp only;rw[dS hq,dS I]
   split
   .intro _;rfl
   .exact h.ps y C
def fT.aaa(c:gn N O L l P x)(h:fT N O L l P x cap s e)(F:j3 (cX N cap) s 3 id=0):
  (1<=id/\id<=N.nodes/\e.T false id=some ((eI N P x).getD id.toNat T0).2)/\
  ∀(A':cB) (iw:Bool->Tb),cr A' iw (et e.T false id none)->A'.lv+((eI N P x).getD id.toNat T0).2.length=e.A.lv->A'.pe=e.A.pe->A'.cap=e.A.cap->
   fT N O L l P x cap (ga (cX N cap) s 3 id) {e with A:=A',tb:=iw,T:=et e.T false id none}:=by
 obtain⟨u,m,E,S⟩:=yI c F om;obtain⟨w1,w2,w3⟩:=c.word (cap:=cap) (z:=id) om m;obtain⟨U,V,v3⟩:=c.val u m;have B:s.bb.getD id.toNat false=true:=by rw[dy,ag ak,ag ak,ah rfl]at E;exact E
 have hq:id.toNat<s.bb.length:=by rw[h.lp];omega
 have I:=h.lv;have J:=h.pe;have K:=h.np;refine⟨⟨u,m,by rw[h.tt,ah ⟨u,m,B⟩]⟩,λA' iw ce M hp C=>?_⟩;have Q:ga (cX N cap) s 3 id=⟨s.bb.set id.toNat false,s.saved,s.aE,s.eh,s.fe,s.done,s.now+0-(eW L id:Int),max s.iU (s.now+0)⟩:=by
  unfold ga;dsimp only;rw[ag ak,ah rfl,w1];rfl
 rw[Q];rw[v3]at M;refine⟨ce,by show((A'.lv:Nat):Int)=_;dsimp only;omega,by show((A'.pe:Nat):Int)=_;rw[hp];dsimp only;omega,by dsimp only;omega,by show((A'.cap:Nat):Int)=_;rw[C];exact h.cap,λy=>?_,λy=>?_,h.gs,h.sd,h.d0,h.d1,h.G,h.X,h.em,λy r=>?_,by simpa using h.lp,h.ls,h.lg⟩
 .dsimp only;by_cases r:y=id
  .subst r;rw[gM,ag (λb=>by have:=b.2.2;rw[dS hq,ah rfl]at this;cases this)]
  .rw[dG (λb=>r b.2),h.tt];by_cases j:1<=y
   .rw[show(s.bb.set id.toNat false).getD y.toNat false=s.bb.getD y.toNat false from by rw[dS hq,ag om]]
   .rw[ag (λb=>j b.1),ag (λb=>j b.1)]
 .dsimp only;rw[dG (λb=>absurd b.1 ak)];exact h.gg y
 .dsimp only;rw[dS hq]
  split
  .intro b;cases b
  .exact h.ps y r
def Gf(h:j3 (cX N cap) s kd id=0)(j:kd=4\/kd=5):id=0/\dy (cX N cap) s kd 0=true/\s.now+d8 (cX N cap) s kd 0<=cap:=by
 obtain⟨b,u,m,r⟩:=qg h;rw[od j]at b;obtain rfl:id=0:=by simpa using b
 exact⟨rfl,m,r⟩
def fT.emit(c:gn N O L l P x)(h:fT N O L l P x cap s e)(m:j3 (cX N cap) s 4 id=0):
  e.T false (l:Int)=some ((eI N P x).getD l T0).2/\fT N O L l P x cap (ga (cX N cap) s 4 id) {e with lo:=((eI N P x).getD l T0).2.getD 0 0}:=by
 obtain⟨rfl,j,B⟩:=Gf m (.inl rfl);have l1:=c.hN.n9;have C:=c.hN.mB;have b:s.bb.getD l false=true:=by
  rw[dy,ag ak,ag ak,ag ak,ah rfl,bW,c.f9]at j;exact j.1
 have r:=h.pe;have u:=h.np;refine⟨by rw[h.tt,ah ⟨om,om,by rw[bI];exact b⟩,bI],?_⟩;have y:ga (cX N cap) s 4 0=⟨s.bb,s.saved,s.aE,true,s.fe,s.done,s.now+0,max s.iU (s.now+0)⟩:=by
  unfold ga;dsimp only;rw[ag ak,ag ak,ah rfl];rfl
 rw[y];refine⟨h.mb,by have:=h.lv;dsimp only;omega,by dsimp only;omega,by dsimp only;omega,h.cap,h.tt,h.gg,h.gs,h.sd,h.d0,h.d1,h.G,h.X,λ_=>?_,h.ps,h.lp,h.ls,h.lg⟩
 show _=uJ N P x
 rw[uJ,c.hN.e1];rfl
def VR(b:l<=N.nodes)(z:Nat):(vy N L l P).1.getD z T0=if l=z then oM (L.getD l [])else T0:=by
 show((List.replicate (N.nodes.length+1) T0).set l (oM (L.getD l []))).getD z T0=_
 rw[dR bY];congr 1;rw[aX,ix]
 split<;>rfl
def fT.abp(c:gn N O L l P x)(h:fT N O L l P x cap s e)(S:j3 (cX N cap) s 5 id=0):
  (e.T true (l:Int)=none/\(e.A.lv:Int)+eW L l<=e.A.cap/\(oM (L.getD l [])).2.length=eW L l)/\
  ∀(A':cB) (iw:Bool->Tb),cr A' iw (et e.T true (l:Int) (some (oM (L.getD l [])).2))->A'.lv=e.A.lv+eW L l->A'.pe=max e.A.pe (e.A.lv+eW L l)->A'.cap=e.A.cap->
   fT N O L l P x cap (ga (cX N cap) s 5 id) {e with A:=A',tb:=iw,T:=et e.T true (l:Int) (some (oM (L.getD l [])).2)}:=by
 obtain⟨rfl,Q,U⟩:=Gf S (.inr rfl);have l1:=c.hN.n9;have V:=c.hN.mB;have B:s.fe=false:=by
  rw[dy,ag ak,ag ak,ag ak,ag ak,ah rfl]at Q;simpa using Q
 have C:=h.sd B;obtain⟨w1,w2,w3⟩:=c.word (cap:=cap) (z:=(l:Int)) om om;rw[bI]at w1;have hm:d8 (cX N cap) s 5 0=(eW L l:Int):=by rw[d8,ag ak,ah rfl,c.f9,w1]
 rw[hm]at U;have r:∀y:Int,1<=y->y<=N.nodes.length->s.aE.getD y.toNat false=false:=λy I J=>by
  cases hp:s.aE.getD y.toNat false with
  |false=>rfl
  |true=>
   have:=((h.gs y I J).1 hp).1;rw[B]at this;cases this
 have hq:l<s.aE:=by rw[h.lg];omega
 have m:=ye (c.hN.right c.hF (z:=(l:Int)) om om);rw[bI]at m;have K:(oM (L.getD l [])).2.length=eW L l:=yH (z:=(l:Int)) m (by rw[bI];rfl);have Y:=h.lv;have Z:=h.pe;have E:=h.cap;refine⟨⟨?_,om,K⟩,λA' iw ce hl hp M=>?_⟩
 .rw[h.gg,ag (λb=>by have:=b.2.2;rw[r _ om om]at this;cases this)]
 .have hD:ga (cX N cap) s 5 0=⟨s.bb,s.saved,s.aE.set l true,s.eh,true,s.done,s.now+(eW L l:Int),max s.iU (s.now+(eW L l:Int))⟩:=by
   unfold ga;dsimp only;rw[ag ak,ag ak,ag ak,ah rfl,c.f9,show(0:Int).toNat=0 from rfl,hm]
  rw[hD];have F:∀y:Int,(dr N O L l P x s.done.toNat).1.getD y.toNat T0=if l=y.toNat then oM (L.getD l [])else T0:=λy=>by
   rw[C];exact VR V _
  refine⟨ce,by show((A'.lv:Nat):Int)=_;rw[hl];dsimp only;omega,by show((A'.pe:Nat):Int)=_;rw[hp];dsimp only;omega,by dsimp only;omega,by show((A'.cap:Nat):Int)=_;rw[M];exact E,λy=>?_,λy=>?_,λy I J=>?_,λb=>(by cases b),h.d0,h.d1,h.G,h.X,h.em,h.ps,h.lp,h.ls,by simpa using h.lg⟩
  .dsimp only;rw[dG (λb=>absurd b.1 ak)];exact h.tt y
  .dsimp only;rw[F];by_cases u:y=(l:Int)
   .subst u;rw[gM,ah ⟨om,om,by rw[bI,dS hq,ah rfl]⟩,bI,ah rfl]
   .rw[dG (λb=>u b.2),h.gg];by_cases j:1<=y/\y<=N.nodes.length
    .rw[ag (λb=>by have:=b.2.2;rw[r y j.1 j.2]at this;cases this),ag (λb=>by have:=b.2.2;rw[dS hq,ag om,r y j.1 j.2]at this;cases this)]
    .rw[ag (λb=>j ⟨b.1,b.2.1⟩),ag (λb=>j ⟨b.1,b.2.1⟩)]
  .dsimp only;rw[F,dS hq,C];by_cases u:l=y.toNat
   .rw[ah u,ah u];exact⟨λ_=>⟨rfl,m.ne,aG⟩,λ_=>rfl⟩
   .rw[ag u,ag u,r y I J];exact⟨λb=>(by cases b),λb=>absurd rfl b.2.1⟩
end
variable{d:Nat}{e':qw}{tb:Bool->Tb}
def e2(N:aU)(s:iv)(id:Int)(i:Nat):List Int:=h3 s.aE ((bG N id).take i) []
def iV(L:fV)(F:av):Nat:=(F.map (eW L)).sum
def mD(N:aU)(s:iv)(id:Int)(i:Nat):Bool:=decide ((bG N id).getD i 0≠0)&& !s.aE.getD ((bG N id).getD i 0).toNat false&& !((bG N id).take i).contains ((bG N id).getD i 0)
structure ry(N:aU)(L:List (List Int))(s:iv)(e:qw)(id:Int)(i:Nat)(A:cB)(tb:Bool->Tb)(T:Bool->Int->Option (List Int)):Prop where
 mb:cr A tb T
 lv:A.lv=e.A.lv+iV L (e2 N s id i)
 pe:A.pe=max e.A.pe A.lv
 cap:A.cap=e.A.cap
 tf:∀z,T false z=e.T false z
 tg:∀z,T true z=if z∈e2 N s id i then some (List.replicate (eW L z) 0)else e.T true z
noncomputable def iK(N:aU)(O:av)(L:fV)(l:Nat)(P:List TV)(x:TV)(d:Nat)(id:Int)(v:dV)(i:Nat):List TV:=
 j8 (dr N O L l P x d).1 (v.ins.take i) ((pB N P (eI N P x) (dr N O L l P x d).1 id v).take i)
structure tW(N:aU)(O:List Int)(L:List (List Int))(l:Nat)(P:List TV)(x:TV)(s:iv)(e:qw)(id:Int)(v:dV)(i:Nat)(A:cB)(tb:Bool->Tb)(T:Bool->Int->Option (List Int))(X:TV):Prop where
 mb:cr A tb T
 lv:A.lv=e.A.lv+iV L (e2 N s id v.ins.length)
 pe:A.pe=max e.A.pe A.lv
 cap:A.cap=e.A.cap
 tf:∀z,T false z=e.T false z
 tg:∀z:Int,T true z=if 1<=z/\z<=N.nodes.length/\(s.aE.getD z.toNat false=true\/z∈v.ins)then some (if((iK N O L l P x s.done.toNat id v i).getD z.toNat T0).2=[]then List.replicate (eW L z) 0 else((iK N O L l P x s.done.toNat id v i).getD z.toNat T0).2)else none
 X:X=(iK N O L l P x s.done.toNat id v i).getD 0 T0
section
variable{N:aU}{R:List Int}{P:List TV}{x X t:TV}{e:qw}{A A':cB}{T:Bool->Int->Option (List Int)}{v:dV}
def yJ(G:List Bool):∀(a b l:av),h3 G (a++b) l=h3 G b (h3 G a l)
 |[],_,_=>rfl
 |z::t,b,l=>by rw[Ug,h3,h3,yJ G t b]
def sW(G:List Bool):∀(a l:av) (z:Int),z∈h3 G a l↔z∈l\/(z∈a/\z≠0/\G.getD z.toNat false=false)
 |[],l,z=>by simp[h3]
 |y::t,l,z=>by
  rw[h3,sW G t];by_cases h:y≠0/\G.getD y.toNat false=false/\l.contains y=false
  .rw[ah h,bJ,cF,bT];constructor
   .rintro((h1|rfl)|h1)
    .exact .inl h1
    .exact .inr ⟨.inl rfl,h.1,h.2.1⟩
    .exact .inr ⟨.inr h1.1,h1.2⟩
   .rintro(h1|⟨rfl|h1,b⟩)
    .exact .inl (.inl h1)
    .exact .inl (.inr rfl)
    .exact .inr ⟨h1,b⟩
  .rw[ag h,bT];constructor
   .rintro(h1|h1)
    .exact .inl h1
    .exact .inr ⟨.inr h1.1,h1.2⟩
   .rintro(h1|⟨rfl|h1,b⟩)
    .exact .inl h1
    .left;have:l.contains z=true:=by
      cases j:l.contains z with
      |true=>rfl
      |false=>exact absurd ⟨b.1,b.2,j⟩ h
     simpa using this
    .exact .inr ⟨h1,b⟩
def yK(G:List Bool):∀(a l:av),∃r,h3 G a l=l++r
 |[],l=>⟨[],by simp[h3]⟩
 |z::t,l=>by
  rw[h3]
  split
  .obtain⟨r,h⟩:=yK G t (l++[z]);exact⟨z::r,by rw[h];simp⟩
  .exact yK G t l
def lq:z∈e2 N s id i↔z∈(bG N id).take i/\z≠0/\s.aE.getD z.toNat false=false:=by
 unfold e2;rw[sW];simp
def tX(h:(bG N id)[i]?=some z):e2 N s id (i+1)=if mD N s id i=true then e2 N s id i++[z]else e2 N s id i:=by
 have j:(bG N id).getD i 0=z:=by rw[aX,h];rfl
 unfold e2 mD;rw[j,take_at h,yJ,h3];rw[h3];have m:(h3 s.aE ((bG N id).take i) []).contains z=(decide (z≠0)&& !s.aE.getD z.toNat false&&((bG N id).take i).contains z):=by
  have:=sW s.aE ((bG N id).take i) [] z;rw[rX];simp only[Cd,bW,cu,Cn];rw[this];simp only[kG,false_or];exact⟨λ⟨a,b,c⟩=>⟨⟨b,c⟩,a⟩,λ⟨⟨b,c⟩,a⟩=>⟨a,b,c⟩⟩
 rw[m];cases s.aE.getD z.toNat false<;>cases ((bG N id).take i).contains z<;>by_cases r:z=0<;>simp[r]
def RK:iV L (e2 N s id i)<=iV L (e2 N s id (bG N id).length):=by
 have e:e2 N s id (bG N id).length=h3 s.aE ((bG N id).drop i) (e2 N s id i):=by
  unfold e2;rw[dJ,<-yJ,de]
 obtain⟨r,hr⟩:=yK s.aE ((bG N id).drop i) (e2 N s id i);rw[e,hr];unfold iV;rw[cJ,pY];omega
structure h7(N:aU)(O:List Int)(L:List (List Int))(l:Nat)(P:List TV)(x:TV)(cap:Int)(s:iv)(e:qw)(id:Int)(v:dV):Prop where
 i1:1<=id
 i2:id<=N.nodes
 hv:N.nodes[(id-1).toNat]?=some v
 hm:v∈N.nodes
 hi:bG N id=v.ins
 at_:O.reverse[s.done.toNat]?=some id
 sd:s.fe=true
 gd:s.aE.getD id.toNat false=true
 tg:e.T true id=some ((dr N O L l P x s.done.toNat).1.getD id.toNat T0).2
 Rk:((dr N O L l P x s.done.toNat).1.getD id.toNat T0).1=L.getD id.toNat []/\TV.ok ((dr N O L l P x s.done.toNat).1.getD id.toNat T0)
 ins:∀z∈v.ins,z=0\/(1<=z/\z<=N.nodes.length/\e.T false z=some ((eI N P x).getD z.toNat T0).2)
 yL:∀z∈v.ins,0<=z/\z<=N.nodes.length
 sum:(e.A.lv:Int)+iV L (e2 N s id v.ins.length)<=cap
 x1:(pB N P (eI N P x) (dr N O L l P x s.done.toNat).1 id v).map (·.1)=eD v L
 x2:∀t∈pB N P (eI N P x) (dr N O L l P x s.done.toNat).1 id v,TV.ok t
 bi:yc N L l P (O.reverse.take s.done.toNat) (dr N O L l P x s.done.toNat)
def tY(W:av)(f:Int->Nat):∀F:List Int,(∀z∈F,W.getD z.toNat 0=(f z:Int))->(F.map λz=>W.getD z.toNat 0).sum=(((F.map f).sum:Nat):Int)
 |[],_=>rfl
 |z::t,h=>by
  rw[dX,iz,dX,iz,tY W f t λy b=>h y (dl _ b),h z cm,fH]
def fT.RL(c:gn N O L l P x)(h:fT N O L l P x cap s e)(S:j3 (cX N cap) s 6 id=0):∃v,h7 N O L l P x cap s e id v:=by
 obtain⟨r,u,G,U⟩:=yI c S om;rw[dy,ag ak,ag ak,ag ak,ag ak,ag ak]at G;simp only[bW,cu]at G;obtain⟨⟨⟨hg,hr⟩,hd⟩,E⟩:=G;have hO:(cX N cap).order=O:=c.hN.ord;rw[hO]at hd E;have V:=h.d0;have I:s.done.toNat<O.length:=om;have y:O.reverse[s.done.toNat]?=some id:=by
  rw[B2 I];have e:((O.length:Int)-1-s.done).toNat=O-1-s.done.toNat:=om;rw[e]at E;have M:O.length-1-s.done.toNat<O:=om;rw[aX,bc M]at E;rw[bc M];congr 1;have:=eq_of_beq E;rw[pZ]at this;rw[this];omega
 have B:=Bl c.hN c.hE c.hF (ma c.hN c.hF) s.done.toNat om;have b:=B.there c.hN c.hE y;obtain⟨v,p1,Q,F,p4,p5,p6,p7,p8,p9,J,K,Y,Z⟩:=yc.parts c.hN c.hF (ma c.hN c.hF) (bn.2 ⟨r,u⟩) b;have j:=c.hN.jS v Q;have m:=h.ins c r u hr;rw[F]at m;have C:d8 (cX N cap) s 6 id.toNat=(iV L (e2 N s id v.ins.length):Int):=by
  rw[d8,ag ak,ag ak,ah rfl,g3,yG r,F,iV,e2,F,dJ];refine tY _ _ _ λz hz=>?_;rw[sW]at hz;rcases hz with hz|hz
  .cases hz
  .have:=j z hz.1;exact(c.word this.1 this.2).1
 rw[C]at U;have nN:=h.lv;exact⟨v,r,u,p1,Q,F,y,((h.gs id r u).1 hg).1,hg,by rw[h.gg,ah ⟨r,u,hg⟩],b,m,j,om,J,K,B⟩
def ry.zero(h:cr e.A e.tb e.T)(j:e.A.lv<=e.A.pe):ry N L s e id 0 e.A e.tb e.T:=by
 have b:e2 N s id 0=[]:=by unfold e2;rw[dK];rfl
 exact⟨h,by rw[b];rfl,om,rfl,λz=>rfl,λz=>by rw[b];simp⟩
def fT.lp_(h:fT N O L l P x cap s e):e.A.lv<=e.A.pe:=by
 have b:=h.lv;have j:=h.pe;have m:=h.np;omega
def ry.has(h:fT N O L l P x cap s e)(b:h7 N O L l P x cap s e id v)(g:ry N L s e id i A tb T)(B:(bG N id)[i]?=some z):(mD N s id i=true↔z≠0/\T true z=none)/\(mD N s id i=false↔z=0\/∃xs,T true z=some xs):=by
 have u:(bG N id).getD i 0=z:=by rw[aX,B];rfl
 have hr:=b.yL z (by rw[<-b.hi];exact aC B);have key:z≠0->(T true z=none↔(s.aE.getD z.toNat false=false/\z∉(bG N id).take i)):=λr=>by
  rw[g.tg];by_cases hm:z∈e2 N s id i
  .rw[ah hm];rw[lq]at hm;exact⟨λj=>(by cases j),λj=>absurd hm.1 j.2⟩
  .rw[ag hm,h.gg];rw[lq]at hm;by_cases hg:s.aE.getD z.toNat false=true
   .rw[ah ⟨om,hr.2,hg⟩];exact⟨λj=>(by cases j),λj=>(by rw[hg]at j;cases j.1)⟩
   .rw[ag (λj=>hg j.2.2)];have m:s.aE.getD z.toNat false=false:=by simpa using hg
    exact⟨λ_=>⟨m,λj=>hm ⟨j,r,m⟩⟩,λ_=>rfl⟩
 have C:mD N s id i=true↔z≠0/\T true z=none:=by
  unfold mD;rw[u];simp only[bW,cu,Cn];constructor
  .rintro⟨⟨a,y⟩,d⟩;exact⟨a,(key a).2 ⟨y,by simpa using d⟩⟩
  .rintro⟨a,y⟩;obtain⟨F,G⟩:=(key a).1 y;exact⟨⟨a,F⟩,by simpa using G⟩
 refine⟨C,?_⟩;rw[<-Bool.not_eq_true,C];constructor
 .intro j;by_cases r:z=0
  .exact .inl r
  .right;cases ht:T true z with
   |none=>exact absurd ⟨r,ht⟩ j
   |some xs=>exact⟨xs,rfl⟩
 .rintro(j|⟨xs,j⟩) ⟨I,E⟩
  .exact I j
  .rw[j]at E;cases E
def ry.skip(g:ry N L s e id i A tb T)(j:(bG N id)[i]?=some z)(hb:mD N s id i=false):ry N L s e id (i+1) A tb T:=by
 have b:e2 N s id (i+1)=e2 N s id i:=by rw[tX j,hb];rfl
 exact⟨g.mb,by rw[b];exact g.lv,g.pe,g.cap,g.tf,λy=>by rw[b];exact g.tg y⟩
def ry.room(h:fT N O L l P x cap s e)(b:h7 N O L l P x cap s e id v)(g:ry N L s e id i A tb T)(j:(bG N id)[i]?=some z)(hb:mD N s id i=true):(A.lv:Int)+eW L z<=A.cap:=by
 have m:=RK (N:=N) (L:=L) (s:=s) (id:=id) (i:=i+1);rw[tX j,hb,ah rfl]at m;have u:iV L (e2 N s id i++[z])=iV L (e2 N s id i)+eW L z:=by unfold iV;simp
 have r:=b.sum;have y:=h.cap;rw[<-b.hi]at r;rw[g.lv,g.cap];omega
def ry.Pg(g:ry N L s e id i A tb T)(r:(bG N id)[i]?=some z)(hb:mD N s id i=true){A':cB}{iw:Bool->Tb}(ce:cr A' iw (et T true z (some (List.replicate (eW L z) 0))))(F:A'.lv=A.lv+eW L z)(hp:A'.pe=max A.pe (A.lv+eW L z))(u:A'.cap=A.cap):
  ry N L s e id (i+1) A' iw (et T true z (some (List.replicate (eW L z) 0))):=by
 have m:e2 N s id (i+1)=e2 N s id i++[z]:=by rw[tX r,hb];rfl
 have B:iV L (e2 N s id i++[z])=iV L (e2 N s id i)+eW L z:=by unfold iV;simp
 have C:=g.pe;have E:=g.lv;refine⟨ce,by rw[m,B];omega,om,by rw[u];exact g.cap,λy=>?_,λy=>?_⟩
 .rw[dG (λb=>absurd b.1 ak)];exact g.tf y
 .rw[m];by_cases j:y=z
  .subst j;rw[gM,ah aG]
  .rw[dG (λb=>j b.2),g.tg];have:y∈e2 N s id i++[z]↔y∈e2 N s id i:=by simp[j]
   by_cases hm:y∈e2 N s id i
   .rw[ah hm,ah (this.2 hm)]
   .rw[ag hm,ag λb=>hm (this.1 b)]
def yM:∀(zs:av) (b:List TV) (gr:List TV) (i:Nat) (z:Int) (t:TV),zs[i]?=some z->b[i]?=some t->j8 gr (zs.take (i+1)) (b.take (i+1))=(j8 gr (zs.take i) (b.take i)).set z.toNat (hJ ((j8 gr (zs.take i) (b.take i)).getD z.toNat T0) t)
 |[],_,_,_,_,_,h,_=>by simp at h
 |_::_,[],_,_,_,_,_,h=>by simp at h
 |y::zs,u::b,gr,0,z,t,h1,h2=>by
  simp at h1 h2;subst h1 h2;simp[j8]
 |y::zs,u::b,gr,i+1,z,t,h1,h2=>by
  rw[nh]at h1 h2;rw[fh,fh,j8,yM zs b _ i z t h1 h2,fh,fh,j8]
def h7.at(b:h7 N O L l P x cap s e id v):(iK N O L l P x s.done.toNat id v i).length=N.nodes+1/\(∀z:Int,0<=z->z<=N.nodes.length->Bi L (iK N O L l P x s.done.toNat id v i) z)/\
  ∀z:Int,0<=z->z<=N.nodes.length->(((iK N O L l P x s.done.toNat id v i).getD z.toNat T0).2≠[]↔((dr N O L l P x s.done.toNat).1.getD z.toNat T0).2≠[]\/z∈v.ins.take i):=by
 have h:=yd (L:=L) (m:=N.nodes.length) (v.ins.take i) ((pB N P (eI N P x) (dr N O L l P x s.done.toNat).1 id v).take i) (dr N O L l P x s.done.toNat).1 b.bi.len (λz j=>b.yL z (cG j)) (by rw[jw,b.x1,eD,jw]) (λt ht=>b.x2 t (cG ht)) b.bi.sh;exact⟨h.1,h.2.1,h.2.2.1⟩
def Bt(c:gn N O L l P x)(hd:O.reverse[d]?=some id)(b:z∈bG N id)(m:z≠0):z∉O.reverse.take d:=by
 obtain⟨E,r⟩:=m5 hd;rcases c.hN.sN r z b with h3|h3
 .exact absurd h3 m
 .intro u;obtain⟨k,F,y⟩:=m6 u;obtain⟨G,B⟩:=m5 y;obtain⟨j,I,C⟩:=m6 h3;have:=Bk c.hN.j7.nd B C;omega
def h7.none_(c:gn N O L l P x)(h:fT N O L l P x cap s e)(b:h7 N O L l P x cap s e id v)(m:z∈v.ins)(r:z≠0):(s.aE.getD z.toNat false=false↔((dr N O L l P x s.done.toNat).1.getD z.toNat T0).2=[]):=by
 have hr:=b.yL z m;have hg:=h.gs z om hr.2;have u:=Bt c b.at_ (by rw[b.hi];exact m) r;constructor
 .intro j;rcases Cv (((dr N O L l P x s.done.toNat).1.getD z.toNat T0).2=[])with h1|h1
  .exact h1
  .have:=hg.2 ⟨b.sd,h1,u⟩;rw[j]at this;cases this
 .intro j;cases hq:s.aE.getD z.toNat false with
  |false=>rfl
  |true=>exact absurd j (hg.1 hq).2.1
def h7.fresh(c:gn N O L l P x)(h:fT N O L l P x cap s e)(b:h7 N O L l P x cap s e id v)(y:v.ins[i]?=some z)(B:z≠0):mD N s id i=true↔((iK N O L l P x s.done.toNat id v i).getD z.toNat T0).2=[]:=by
 have hm:=aC y;have hr:=b.yL z hm;have m:=(b.at (i:=i)).2.2 z hr.1 hr.2;have C:=b.none_ c h hm B;have r:(bG N id).getD i 0=z:=by rw[b.hi,aX,y];rfl
 unfold mD;rw[r,b.hi];simp only[bW,cu,Cn];rw[C];constructor
 .rintro⟨⟨_,j⟩,E⟩;refine B9 λu=>?_;rcases m.1 u with h6|h6
  .exact h6 j
  .rw[<-Cd,E]at h6;cases h6
 .intro j;refine⟨⟨B,?_⟩,?_⟩
  .exact B9 λu=>(m.2 (.inl u)) j
  .cases hq:(v.ins.take i).contains z with
   |false=>rfl
   |true=>exact absurd j (m.2 (.inr (Cd.1 hq)))
def tW.start(c:gn N O L l P x)(h:fT N O L l P x cap s e)(b:h7 N O L l P x cap s e id v)(g:ry N L s e id v.ins.length A tb T):tW N O L l P x s e id v 0 A tb T e.X:=by
 have u:iK N O L l P x s.done.toNat id v 0=(dr N O L l P x s.done.toNat).1:=by
  unfold iK;rw[dK,dK];rfl
 refine⟨g.mb,g.lv,g.pe,g.cap,g.tf,λz=>?_,by rw[u];exact h.X⟩;rw[u,g.tg,h.gg];have m:z∈e2 N s id v.ins.length↔z∈v.ins/\z≠0/\s.aE.getD z.toNat false=false:=by rw[lq,b.hi,dJ]
 by_cases hm:z∈e2 N s id v.ins.length
 .rw[ah hm];obtain⟨j,r,h3⟩:=m.1 hm;have hr:=b.yL z j;rw[ah ⟨om,hr.2,.inr j⟩,ah ((b.none_ c h j r).1 h3)]
 .rw[ag hm];by_cases hg:1<=z/\z<=N.nodes.length/\s.aE.getD z.toNat false=true
  .rw[ah hg,ah ⟨hg.1,hg.2.1,.inl hg.2.2⟩,ag ((h.gs z hg.1 hg.2.1).1 hg.2.2).2.1]
  .rw[ag hg,ag];rintro⟨j,r,h3|h3⟩
   .exact hg ⟨j,r,h3⟩
   .refine hm (m.2 ⟨h3,om,?_⟩);cases hq:s.aE.getD z.toNat false with
    |false=>rfl
    |true=>exact absurd ⟨j,r,hq⟩ hg
def ol(b:v.ins[i]?=some z)(ht:(pB N P (eI N P x) (dr N O L l P x d).1 id v)[i]?=some t):iK N O L l P x d id v (i+1)=(iK N O L l P x d id v i).set z.toNat (hJ ((iK N O L l P x d id v i).getD z.toNat T0) t):=yM _ _ _ i z t b ht
def h7.get(b:h7 N O L l P x cap s e id v)(u:v.ins[i]?=some z):∃t,(pB N P (eI N P x) (dr N O L l P x s.done.toNat).1 id v)[i]?=some t/\t.1=L.getD z.toNat []/\TV.ok t/\t.2=eW L z:=by
 have y:=b.x1;have m:((pB N P (eI N P x) (dr N O L l P x s.done.toNat).1 id v).map (·.1))[i]?=some (L.getD z.toNat []):=by
  rw[y,eD,bj,u];rfl
 rw[bj]at m;obtain⟨t,ht,r⟩:=bD.1 m;have j:=b.x2 t (aC ht);exact⟨t,ht,r,j,yH j r⟩
def tW.zero(b:h7 N O L l P x cap s e id v)(p:tW N O L l P x s e id v i A tb T X)(m:v.ins[i]?=some 0)(ht:(pB N P (eI N P x) (dr N O L l P x s.done.toNat).1 id v)[i]?=some t):
  tW N O L l P x s e id v (i+1) A tb T (hJ X t):=by
 obtain⟨r,B,C⟩:=b.at (i:=i);refine⟨p.mb,p.lv,p.pe,p.cap,p.tf,λy=>?_,?_⟩
 .rw[p.tg,ol m ht,dR (by rw[r];exact rY _)];by_cases j:1<=y/\y<=N.nodes.length/\(s.aE.getD y.toNat false=true\/y∈v.ins)
  .have u:¬(0:Int).toNat=y.toNat:=by have:=j.1;rw[Int.toNat_zero];omega
   rw[ah j,ah j,ag u]
  .rw[ag j,ag j]
 .rw[ol m ht,dR (by rw[r];exact rY _),Int.toNat_zero,ah rfl,p.X]
def tW.node(c:gn N O L l P x)(h:fT N O L l P x cap s e)(b:h7 N O L l P x cap s e id v)(p:tW N O L l P x s e id v i A tb T X)(E:v.ins[i]?=some z)(h0:z≠0)(ht:(pB N P (eI N P x) (dr N O L l P x s.done.toNat).1 id v)[i]?=some t):
  (1<=z/\z<=N.nodes/\(mD N s id i=true->T true z=some (List.replicate (eW L z) 0))/\
   (mD N s id i=false->∃g:TV,(iK N O L l P x s.done.toNat id v i).getD z.toNat T0=g/\g.1=L.getD z.toNat []/\TV.ok g/\T true z=some g.2/\g.2=eW L z))/\
  ∀(A':cB) (iw:Bool->Tb) (C:av),C=(if mD N s id i=true then t.2 else((iK N O L l P x s.done.toNat id v i).getD z.toNat T0).2.zipWith cA t.2)->cr A' iw (et T true z (some C))->A'.lv=A.lv->A'.pe=A.pe->A'.cap=A.cap->
   tW N O L l P x s e id v (i+1) A' iw (et T true z (some C)) X:=by
 have hm:=aC E;have hr:=b.yL z hm;obtain⟨Y,F,g3⟩:=b.at (i:=i);have G:=b.fresh c h E h0;have Q:=p.tg z;rw[ah ⟨om,hr.2,.inr hm⟩]at Q;obtain⟨t',I,te,tok,tl⟩:=b.get E;rw[ht]at I;obtain rfl:=cn I;obtain⟨S,j⟩:=lh (iK N O L l P x s.done.toNat id v i);rw[j]at Y g3 G Q;have F:=F z hr.1 hr.2;rw[j]at F;refine⟨⟨om,hr.2,λhb=>?_,λhb=>?_⟩,λA' iw C r ce J U V=>?_⟩
 .rw[Q,ah (G.1 hb)]
 .have m:(S.getD z.toNat T0).2≠[]:=λB=>by rw[G.2 B]at hb;cases hb
  rw[j];rcases F with h3|h3
  .rw[h3]at m;exact absurd rfl m
  .exact⟨_,rfl,h3.1,h3.2,by rw[Q,ag m],yH h3.2 h3.1⟩
 .rw[j]at r;have K:z.toNat<S.length:=by rw[Y];omega
  have M:C=(hJ (S.getD z.toNat T0) t).2/\C≠[]:=by
   unfold hJ;by_cases hb:mD N s id i=true
   .rw[ah hb]at r;rw[ah (G.1 hb),r];exact⟨rfl,tok.ne⟩
   .rw[ag hb]at r;have m:(S.getD z.toNat T0).2≠[]:=λB=>hb (G.2 B);rw[ag m,r];refine⟨rfl,?_⟩;rcases F with h3|h3
    .rw[h3]at m;exact absurd rfl m
    .exact(h3.2.add tok (by rw[te,h3.1])).ne
  refine⟨ce,by rw[J];exact p.lv,by rw[U,J];exact p.pe,by rw[V];exact p.cap,λy=>?_,λy=>?_,?_⟩
  .rw[dG (λB=>absurd B.1 ak)];exact p.tf y
  .rw[ol E ht,j,dR K];by_cases Z:y=z
   .subst Z;rw[gM,ah ⟨om,hr.2,.inr hm⟩,ah rfl,<-M.1,ag M.2]
   .rw[dG (λB=>Z B.2),p.tg,j];by_cases u:1<=y/\y<=N.nodes.length/\(s.aE.getD y.toNat false=true\/y∈v.ins)
    .have h9:¬z.toNat=y.toNat:=by have:=u.1;omega
     rw[ah u,ah u,ag h9]
    .rw[ag u,ag u]
  .rw[ol E ht,j,dR K,ag (by show¬z.toNat=0;omega),p.X,j]
def Bu:∀(F:av) (G:List Bool) (z:Nat),(∀y∈F,y.toNat<G.length)->(og G F).getD z false=(G.getD z false||F.any λy=>decide (y.toNat=z))
 |[],G,z,_=>by simp[og]
 |y::t,G,z,h=>by
  have e:og G (y::t)=og (G.set y.toNat true) t:=rfl;rw[e,Bu t _ z (λw j=>by rw[ej];exact h w (dl _ j)),dS (h y cm),List.any_cons];by_cases b:y.toNat=z
  .simp[b]
  .simp[b]
def tW.done(c:gn N O L l P x)(h:fT N O L l P x cap s e)(b:h7 N O L l P x cap s e id v)(p:tW N O L l P x s e id v v.ins.length A tb T X):
  (∃g:TV,T true id=some g.2/\g.2=eW L id)/\
  ∀(A':cB) (iw:Bool->Tb),cr A' iw (et T true id none)->A'.lv+eW L id=A.lv->A'.pe=A.pe->A'.cap=A.cap->
   fT N O L l P x cap (ga (cX N cap) s 6 id) ⟨A',iw,et T true id none,sO e.G (FY N P (eI N P x) (dr N O L l P x s.done.toNat).1 id v) (dH N (id-1).toNat),X,e.lo⟩:=by
 have rh:=h.d0;have S:(pB N P (eI N P x) (dr N O L l P x s.done.toNat).1 id v).length=v.ins:=by
  have:=cv List.length b.x1;simpa[eD]using this
 obtain⟨B,m⟩:=lh (iK N O L l P x s.done.toNat id v v.ins.length);have U:B=j8 (dr N O L l P x s.done.toNat).1 v.ins (pB N P (eI N P x) (dr N O L l P x s.done.toNat).1 id v):=by
  rw[<-m,iK,dJ,<-S,dJ]
 have hS:dr N O L l P x (s.done+1).toNat=(B,sO (dr N O L l P x s.done.toNat).2 (FY N P (eI N P x) (dr N O L l P x s.done.toNat).1 id v) (dH N (id-1).toNat)):=by
  rw[show(s.done+1).toNat=s.done.toNat+1 from om];have e:O.reverse.take (s.done.toNat+1)=O.reverse.take s.done.toNat++[id]:=by rw[fb,b.at_];rfl
  have F:dr N O L l P x (s.done.toNat+1)=Ri N P (eI N P x) (dr N O L l P x s.done.toNat) id:=by
   unfold dr Rj;rw[e,nr];rfl
  rw[F,Ri,b.hv,U]
 obtain⟨g1,g2,M⟩:=b.at (i:=v.ins.length);rw[m,dJ]at M;rw[m]at g1 g2;have V:=p.tg;rw[m]at V;have J:=M id (by have:=b.i1;omega) b.i2;have C:(B.getD id.toNat T0).2≠[]:=J.2 (.inl b.Rk.2.ne);obtain⟨k1,k2⟩:(B.getD id.toNat T0).1=L.getD id.toNat []/\TV.ok (B.getD id.toNat T0):=by
  rcases g2 id (by have:=b.i1;omega) b.i2 with h3|h3
  .rw[h3]at C;exact absurd rfl C
  .exact h3
 refine⟨⟨B.getD id.toNat T0,by rw[V,ah ⟨b.i1,b.i2,.inl b.gd⟩,ag C],yH k2 k1⟩,λA' iw ce nN H5 Y=>?_⟩;obtain⟨w1,w2,w3⟩:=c.word (cap:=cap) (z:=id) (by have:=b.i1;omega) b.i2;have K:g3 (cX N cap) s id.toNat=e2 N s id v.ins.length:=by
  rw[g3,yG b.i1,e2,b.hi,dJ]
 have Z:d8 (cX N cap) s 6 id.toNat=(iV L (e2 N s id v.ins.length):Int):=by
  rw[d8,ag ak,ag ak,ah rfl,K,iV];refine tY _ _ _ λz I=>?_;rw[lq]at I;have:=b.yL z (by rw[<-b.hi];exact cG I.1);exact(c.word this.1 this.2).1
 have E:∀z,z∈e2 N s id v.ins.length↔z∈v.ins/\z≠0/\s.aE.getD z.toNat false=false:=λz=>by rw[lq,b.hi,dJ]
 have r:∀y:Int,1<=y->y<=N.nodes.length->(((og s.aE (e2 N s id v.ins.length)).set id.toNat false).getD y.toNat false=true↔y≠id/\(s.aE.getD y.toNat false=true\/y∈v.ins)):=λy y1 Q=>by
  have tu:∀z∈e2 N s id v.ins.length,z.toNat<s.aE.length:=λz I=>by
   have:=b.yL z ((E z).1 I).1;rw[h.lg];omega
  rw[dS (by rw[pE,h.lg];have:=b.i1;have:=b.i2;omega),Bu _ _ _ tu];have i1:=b.i1;by_cases u:id.toNat=y.toNat
  .rw[ah u];exact⟨λhx=>(by cases hx),λhx=>absurd om hx.1⟩
  .rw[ag u,B4,B3];constructor
   .rintro(hx|⟨z,I,hx⟩)
    .exact⟨λhe=>u (by rw[he]),.inl hx⟩
    .have h3:=(E z).1 I;have h4:=b.yL z h3.1;have h5:z.toNat=y.toNat:=by simpa using hx
     have:z=y:=om;subst this;exact⟨λhe=>u (by rw[he]),.inr h3.1⟩
   .rintro⟨_,hx⟩;by_cases hg:s.aE.getD y.toNat false=true
    .exact .inl hg
    .rcases hx with hx|hx
     .exact .inl hx
     .exact .inr ⟨y,(E y).2 ⟨hx,om,by simpa using hg⟩,aG⟩
 have hD:ga (cX N cap) s 6 id=⟨s.bb,s.saved,(og s.aE (e2 N s id v.ins.length)).set id.toNat false,s.eh,s.fe,s.done+1,s.now+(iV L (e2 N s id v.ins.length):Int)-(eW L id:Int),max s.iU (s.now+(iV L (e2 N s id v.ins.length):Int))⟩:=by
  unfold ga;dsimp only;rw[ag ak,ag ak,ag ak,ag ak,Z,K,w1]
 rw[hD];have acz:=h.lv;have acA:=h.pe;have acB:=p.lv;have acC:=p.pe;have LO:=(m5 b.at_).1;refine⟨ce,by dsimp only;omega,by dsimp only;omega,by dsimp only;omega,by dsimp only;rw[Y,p.cap];exact h.cap,λy=>?_,λy=>?_,λy y1 Q=>?_,λhx=>absurd (hx.symm.trans b.sd) ak,by dsimp only;omega,by dsimp only;omega,?_,?_,h.em,h.ps,h.lp,h.ls,by simp[pE,h.lg]⟩
 .dsimp only;rw[dG (λhx=>absurd hx.1 ak),p.tf];exact h.tt y
 .dsimp only;rw[hS];by_cases u:y=id
  .subst u;rw[gM,ag (λhx=>((r y hx.1 hx.2.1).1 hx.2.2).1 rfl)]
  .rw[dG (λhx=>u hx.2),V];by_cases j:1<=y/\y<=N.nodes.length/\(s.aE.getD y.toNat false=true\/y∈v.ins)
   .have hn:(B.getD y.toNat T0).2≠[]:=(M y om j.2.1).2 (by
     rcases j.2.2 with h3|h3
     .exact .inl ((h.gs y j.1 j.2.1).1 h3).2.1
     .exact .inr h3)
    rw[ah j,ag hn,ah ⟨j.1,j.2.1,(r y j.1 j.2.1).2 ⟨u,j.2.2⟩⟩]
   .rw[ag j,ag (λhx=>j ⟨hx.1,hx.2.1,((r y hx.1 hx.2.1).1 hx.2.2).2⟩)]
 .dsimp only;rw[hS,r y y1 Q,M y om Q];have e:O.reverse.take (s.done+1).toNat=O.reverse.take s.done.toNat++[id]:=by
   rw[show(s.done+1).toNat=s.done.toNat+1 from om,fb,b.at_];rfl
  rw[e,bJ,cF];have Gg:=h.gs y y1 Q;constructor
  .rintro⟨F,h2|h2⟩
   .have:=Gg.1 h2;exact⟨b.sd,.inl this.2.1,λhx=>hx.elim this.2.2 F⟩
   .exact⟨b.sd,.inr h2,λhx=>hx.elim (Bt c b.at_ (by rw[b.hi];exact h2) om) F⟩
  .rintro⟨F,h2,h3⟩;refine⟨λhx=>h3 (.inr hx),?_⟩;rcases h2 with h2|h2
   .exact .inl (Gg.2 ⟨F,h2,λhx=>h3 (.inl hx)⟩)
   .exact .inr h2
 .dsimp only;rw[hS,h.G]
 .dsimp only;rw[hS,p.X,m]
end
