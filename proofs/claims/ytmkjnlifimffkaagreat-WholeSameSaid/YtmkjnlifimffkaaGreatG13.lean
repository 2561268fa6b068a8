/- Lemmas. -/
import Derived.Test.YtmkjnlifimffkaaGreatG12
namespace Go.Proofs.YtmkjnlifimffkaaGreat
open Go.RowKit Tryz
set_option linter.all false
set_option maxRecDepth 100000
set_option maxHeartbeats 0
variable{Γ:Prop}
variable{O:List Int}{L:List (List Int)}{i j l:Nat}{gr vals:List TV}{cap id kd z:Int}{s:jI}{kn:Bool->Tb}
noncomputable def cD(N:a6)(O:au)(L:f0)(l:Nat)(P:List TV)(x:TV)(d:Nat):List TV×List TV:=Oz N P (dR N P x) (rV N L l P) (O.reverse.take d)
structure tu where
 A:da
 tb:Bool->Tb
 T:Bool->Int->Option (List Int)
 G:List TV
 X:TV
 lo:Int
@[grind cases]structure fI(N:a6)(O:List Int)(L:List (List Int))(l:Nat)(P:List TV)(x:TV):Prop where
 hN:dA N O L l
 hE:bm N=0
 hO:iy N=0
 hF:lW N P x
 hL:dz N=(O,L,(l:Int))
@[grind cases]structure gw(N:a6)(O:List Int)(L:List (List Int))(l:Nat)(P:List TV)(x:TV)(cap:Int)(s:jI)(e:tu):Prop where
 mb:cM e.A e.tb e.T
 lv:(e.A.lv:Int)=s.now
 pe:(e.A.pe:Int)=s.kq
 np:s.now<=s.kq
 cap:(e.A.cap:Int)=cap
 tt:∀id:Int,e.T false id=if 1<=id/\id<=N.nodes/\s.bu.getD id.toNat false=true then some ((dR N P x).getD id.toNat T0).2 else none
 gg:∀id:Int,e.T true id=if 1<=id/\id<=N.nodes/\s.aN.getD id.toNat false=true then some ((cD N O L l P x s.done.toNat).1.getD id.toNat T0).2 else none
 gs:∀id:Int,1<=id->id<=N.nodes->(s.aN.getD id.toNat false=true↔s.fX=true/\((cD N O L l P x s.done.toNat).1.getD id.toNat T0).2≠[]/\id∉O.reverse.take s.done.toNat)
 sd:s.fX=false->s.done=0
 d0:0<=s.done
 d1:s.done<=O.length
 G:e.G=(cD N O L l P x s.done.toNat).2
 X:e.X=(cD N O L l P x s.done.toNat).1.getD 0 T0
 em:s.eR=true->e.lo=rW N P x
 ps:∀id:Nat,1<=id->s.bu.getD id false=true->s.saved.getD id false=true
 lp:s.bu=N.nodes.length+1
 ls:s.saved=N.nodes.length+1
 lg:s.aN=N.nodes.length+1
def fy(L:f0)(z:Int):Nat:=(bG (L.getD z.toNat [])).toNat
section
variable{N:a6}{D R:List Int}{P:List TV}{x:TV}{e e':tu}{A':da}
theorem fJ{L:List Bool}{i:Nat}{b:Bool}(h:i<L):(L.set i b).getD j false=if i=j then b else L.getD j false:=by
 grind
theorem CP(h:1<=id):(dt N cap).ins.getD id.toNat []=bS N id:=by
 show([]::N.nodes.map (·.ins)).getD id.toNat []=_;rw[show id.toNat=(id-1).toNat+1 from Y,List.getD_cons_succ,a5,bo];rfl
def fI.words(c:fI N O L l P x):(dt N cap).words=L.map bG:=by
 exact(wx c.hO c.hL c.hN).1
def fI.len(c:fI N O L l P x):L=N.nodes.length+1:=c.hN.len
theorem fI.word(c:fI N O L l P x)(m:0<=z)(b:z<=N.nodes):(dt N cap).words.getD z.toNat 0=(fy L z:Int)/\1<=fy L z/\fy L z<=65536:=by
 have hr:=c.hN.right c.hF m b;have j:z.toNat<L.length:=by rw[c.len];omega
 have e:(dt N cap).words.getD z.toNat 0=bG (L.getD z.toNat []):=by rw[c.words,a5,bo,a5,bk j];rfl
 obtain⟨n,b,r,u⟩:=cG hr;have y:bG (L.getD z.toNat [])=(n:Int):=by rw[bG,ah hr,b]
 grind [fy]
theorem CV{t:TV}(h:TV.ok t)(hs:t.1=L.getD z.toNat []):t.2=fy L z:=by
 have j:=h.len;have b:=h.right;rw[fy,<-hs,bG,ah b];omega
def fI.val(c:fI N O L l P x)(m:1<=z)(r:z<=N.nodes):((dR N P x).getD z.toNat T0).1=L.getD z.toNat []/\TV.ok ((dR N P x).getD z.toNat T0)/\((dR N P x).getD z.toNat T0).2.length=fy L z:=by
 obtain⟨b,j⟩:=(k8 c.hN c.hF).sh z (c.hN.mem.2 (bt.2 ⟨m,r⟩));exact⟨b,j,CV j b⟩
def fI.ae4(c:fI N O L l P x):(dt N cap).words.length=N.nodes+1:=by rw[c.words,bn,c.len]
theorem fI.g2(c:fI N O L l P x):(dt N cap).g2=l:=by
 show(gj N).toNat=l;grind
def CW(c:fI N O L l P x)(h:lS (dt N cap) s kd id=0)(j:kd=1\/kd=2\/kd=3\/kd=6):1<=id/\id<=N.nodes/\dW (dt N cap) s kd id.toNat=true/\s.now+eD (dt N cap) s kd id.toNat<=cap:=by
 obtain⟨b,m,r,u⟩:=s1 h;rw[m9 j]at b;simp only[bU,b9]at b;rw[c.ae4]at m;exact⟨b.1,Y,r,u⟩
theorem Yk(b:1<=id)(h:na (dt N cap) s id.toNat=true):∀z∈bS N id,s.bu.getD z.toNat false=true:=by
 grind [na,CP,List.all_eq_true]
theorem gw.ins(c:fI N O L l P x)(h:gw N O L l P x cap s e)(b:1<=id)(j:id<=N.nodes)(hr:na (dt N cap) s id.toNat=true):∀z∈bS N id,z=0\/(1<=z/\z<=N.nodes.length/\e.T false z=some ((dR N P x).getD z.toNat T0).2):=λz m=>by
 obtain⟨v,hv,_,_,hi,hm⟩:=c.hN.at (bt.2 ⟨b,j⟩);have hb:=c.hN.ko v hm z ay;by_cases r:z=0;exact .inl r;exact .inr ⟨Y,hb.2,by rw[h.tt,ah ⟨Y,hb.2,Yk b hr z m⟩]⟩
theorem gw.comp(c:fI N O L l P x)(h:gw N O L l P x cap s e)(I:lS (dt N cap) s kd id=0)(u:kd=1\/kd=2):
  (1<=id/\id<=N.nodes/\e.T false id=none/\(∀z∈bS N id,z=0\/(1<=z/\z<=N.nodes.length/\e.T false z=some ((dR N P x).getD z.toNat T0).2))/\(e.A.lv:Int)+fy L id<=e.A.cap)/\
  ∀(A':da) (kn:Bool->Tb),cM A' kn (e0 e.T false id (some ((dR N P x).getD id.toNat T0).2))->A'.lv=e.A.lv+fy L id->A'.pe=max e.A.pe (e.A.lv+fy L id)->A'.cap=e.A.cap->
   gw N O L l P x cap (g4 (dt N cap) s kd id) {e with A:=A',tb:=kn,T:=e0 e.T false id (some ((dR N P x).getD id.toNat T0).2)}:=by
 obtain⟨B,m,E,J⟩:=CW c I Y;obtain⟨w1,w2,w3⟩:=c.word (cap:=cap) (z:=id) Y m;have hm:eD (dt N cap) s kd id.toNat=(fy L id:Int):=by rw[eD,ah u,w1]
 rw[hm]at J;have b:s.bu.getD id.toNat false=false/\na (dt N cap) s id.toNat=true:=by rcases u with rfl|rfl;rw[dW,ah rfl,bU]at E;grind;rw[dW,ag ao,ah rfl,bU,bU]at E;grind
 have hq:id.toNat<s.bu.length:=by rw[h.lp];omega
 have C:id.toNat<s.saved.length:=by rw[h.ls];omega
 have K:=h.lv;have M:=h.pe;have F:=h.cap;refine⟨⟨B,m,?_,h.ins c B m b.2,Y⟩,λA' kn cA hl hp Q=>?_⟩;rw[h.tt,ag (by rw[b.1];intro ⟨_,_,j⟩;cases j)];have S:g4 (dt N cap) s kd id=⟨s.bu.set id.toNat true,s.saved.set id.toNat true,s.aN,s.eR,s.fX,s.done,s.now+(fy L id:Int),max s.kq (s.now+(fy L id:Int))⟩:=by unfold g4;dsimp only;rw[ah u,hm]
 rw[S];refine⟨cA,ay,by show((A'.pe:Nat):Int)=_;rw[hp];dsimp only;omega,by dsimp only;omega,ay,λy=>?_,λy=>?_,h.gs,h.sd,h.d0,h.d1,h.G,h.X,h.em,λy r=>?_,by simpa using h.lp,by simpa using h.ls,h.lg⟩;dsimp only;by_cases r:y=id;subst r;rw[h6,ah ⟨B,m,ay⟩];rw[ef (λj=>r j.2),h.tt];by_cases V:1<=y;rw[show(s.bu.set id.toNat true).getD y.toNat false=s.bu.getD y.toNat false from by rw[fJ hq,ag Y]];grind;dsimp only;rw[ef (λj=>absurd j.1 ao)];exact h.gg y;dsimp only;rw[fJ hq,fJ C];split;intro _;rfl;exact h.ps y r
theorem gw.ady(c:fI N O L l P x)(h:gw N O L l P x cap s e)(C:lS (dt N cap) s 3 id=0):
  (1<=id/\id<=N.nodes/\e.T false id=some ((dR N P x).getD id.toNat T0).2)/\
  ∀(A':da) (kn:Bool->Tb),cM A' kn (e0 e.T false id none)->A'.lv+((dR N P x).getD id.toNat T0).2.length=e.A.lv->A'.pe=e.A.pe->A'.cap=e.A.cap->
   gw N O L l P x cap (g4 (dt N cap) s 3 id) {e with A:=A',tb:=kn,T:=e0 e.T false id none}:=by
 obtain⟨r,b,B,S⟩:=CW c C Y;obtain⟨w1,w2,w3⟩:=c.word (cap:=cap) (z:=id) Y b;obtain⟨V,v2,v3⟩:=c.val r b;have u:s.bu.getD id.toNat false=true:=by rw[dW,ag ao,ag ao,ah rfl]at B;exact B
 have hq:id.toNat<s.bu.length:=by rw[h.lp];omega
 have E:=h.lv;have F:=h.pe;have I:=h.np;refine⟨⟨r,b,by rw[h.tt,ah ⟨r,b,u⟩]⟩,λA' kn cA J hp K=>?_⟩;have M:g4 (dt N cap) s 3 id=⟨s.bu.set id.toNat false,s.saved,s.aN,s.eR,s.fX,s.done,s.now+0-(fy L id:Int),max s.kq (s.now+0)⟩:=by unfold g4;dsimp only;rw[ag ao,ah rfl,w1];rfl
 rw[M];rw[v3]at J;refine⟨cA,ay,by show((A'.pe:Nat):Int)=_;rw[hp];dsimp only;omega,by dsimp only;omega,ay,λy=>?_,λy=>?_,h.gs,h.sd,h.d0,h.d1,h.G,h.X,h.em,λy j=>?_,by simpa using h.lp,h.ls,h.lg⟩;dsimp only;by_cases j:y=id;subst j;rw[h6,ag (λm=>by grind)];rw[ef (λm=>j m.2),h.tt];by_cases Q:1<=y;rw[show(s.bu.set id.toNat false).getD y.toNat false=s.bu.getD y.toNat false from by rw[fJ hq,ag Y]];grind;dsimp only;rw[ef (λm=>absurd m.1 ao)];exact h.gg y;dsimp only;rw[fJ hq];split;grind;exact h.ps y j
def K7(h:lS (dt N cap) s kd id=0)(j:kd=4\/kd=5):id=0/\dW (dt N cap) s kd 0=true/\s.now+eD (dt N cap) s kd 0<=cap:=by
 obtain⟨b,u,m,r⟩:=s1 h;rw[qp j]at b;obtain rfl:id=0:=by simpa using b
 exact⟨rfl,m,r⟩
theorem gw.emit(c:fI N O L l P x)(h:gw N O L l P x cap s e)(m:lS (dt N cap) s 4 id=0):
  e.T false (l:Int)=some ((dR N P x).getD l T0).2/\gw N O L l P x cap (g4 (dt N cap) s 4 id) {e with lo:=((dR N P x).getD l T0).2.getD 0 0}:=by
 obtain⟨rfl,j,B⟩:=K7 m (.inl rfl);have l1:=c.hN.oT;have C:=c.hN.lQ;have b:s.bu.getD l false=true:=by rw[dW,ag ao,ag ao,ag ao,ah rfl,bU,c.g2]at j;exact j.1
 have r:=h.pe;have u:=h.np;refine⟨by rw[h.tt,ah ⟨Y,Y,by rw[a9];exact b⟩,a9],?_⟩;have y:g4 (dt N cap) s 4 0=⟨s.bu,s.saved,s.aN,true,s.fX,s.done,s.now+0,max s.kq (s.now+0)⟩:=by unfold g4;dsimp only;rw[ag ao,ag ao,ah rfl];rfl
 rw[y];refine⟨h.mb,ay,by dsimp only;omega,by dsimp only;omega,h.cap,h.tt,h.gg,h.gs,h.sd,h.d0,h.d1,h.G,h.X,λ_=>?_,h.ps,h.lp,h.ls,h.lg⟩;show _=rW N P x;rw[rW,c.hN.gj];rfl
theorem abA(b:l<=N.nodes)(z:Nat):(rV N L l P).1.getD z T0=if l=z then oc (L.getD l [])else T0:=by
 show((List.replicate (N.nodes.length+1) T0).set l (oc (L.getD l []))).getD z T0=_;grind
theorem gw.ae5(c:fI N O L l P x)(h:gw N O L l P x cap s e)(K:lS (dt N cap) s 5 id=0):
  (e.T true (l:Int)=none/\(e.A.lv:Int)+fy L l<=e.A.cap/\(oc (L.getD l [])).2.length=fy L l)/\
  ∀(A':da) (kn:Bool->Tb),cM A' kn (e0 e.T true (l:Int) (some (oc (L.getD l [])).2))->A'.lv=e.A.lv+fy L l->A'.pe=max e.A.pe (e.A.lv+fy L l)->A'.cap=e.A.cap->
   gw N O L l P x cap (g4 (dt N cap) s 5 id) {e with A:=A',tb:=kn,T:=e0 e.T true (l:Int) (some (oc (L.getD l [])).2)}:=by
 obtain⟨rfl,I,M⟩:=K7 K (.inr rfl);have l1:=c.hN.oT;have Q:=c.hN.lQ;have C:s.fX=false:=by rw[dW,ag ao,ag ao,ag ao,ag ao,ah rfl]at I;simpa using I
 have r:=h.sd C;obtain⟨w1,w2,w3⟩:=c.word (cap:=cap) (z:=(l:Int)) Y Y;rw[a9]at w1;have hm:eD (dt N cap) s 5 0=(fy L l:Int):=by rw[eD,ag ao,ah rfl,c.g2,w1]
 rw[hm]at M;have u:∀y:Int,1<=y->y<=N.nodes.length->s.aN.getD y.toNat false=false:=ay;have hq:l<s.aN:=by rw[h.lg];omega
 have m:=wk (c.hN.right c.hF (z:=(l:Int)) Y Y);rw[a9]at m;have E:(oc (L.getD l [])).2.length=fy L l:=CV (z:=(l:Int)) m (by rw[a9];rfl);have S:=h.lv;have V:=h.pe;have J:=h.cap;refine⟨⟨?_,Y,E⟩,λA' kn cA hl hp rj=>?_⟩;rw[h.gg,ag (λb=>by have:=b.2.2;rw[u _ Y Y]at this;cases this)];have hD:g4 (dt N cap) s 5 0=⟨s.bu,s.saved,s.aN.set l true,s.eR,true,s.done,s.now+(fy L l:Int),max s.kq (s.now+(fy L l:Int))⟩:=by unfold g4;dsimp only;rw[ag ao,ag ao,ag ao,ah rfl,c.g2,show(0:Int).toNat=0 from rfl,hm]
 rw[hD];have B:∀y:Int,(cD N O L l P x s.done.toNat).1.getD y.toNat T0=if l=y.toNat then oc (L.getD l [])else T0:=λy=>by rw[r];exact abA Q _
 refine⟨cA,ay,by show((A'.pe:Nat):Int)=_;rw[hp];dsimp only;omega,by dsimp only;omega,ay,λy=>?_,λy=>?_,λy y1 y2=>?_,λb=>(by cases b),h.d0,h.d1,h.G,h.X,h.em,h.ps,h.lp,h.ls,by simpa using h.lg⟩;dsimp only;rw[ef (λb=>absurd b.1 ao)];exact h.tt y;dsimp only;rw[B];by_cases F:y=(l:Int);subst F;rw[h6,ah ⟨Y,Y,by rw[a9,fJ hq,ah rfl]⟩,a9,ah rfl];rw[ef (λb=>F b.2),h.gg];by_cases j:1<=y/\y<=N.nodes.length;rw[ag (λb=>by grind),ag (λb=>by have:=b.2.2;rw[fJ hq,ag Y,u y j.1 j.2]at this;cases this)];rw[ag (λb=>j ⟨b.1,b.2.1⟩),ag (λb=>j ⟨b.1,b.2.1⟩)];dsimp only;rw[B,fJ hq,r];by_cases F:l=y.toNat;grind;grind
end
variable{d:Nat}{tb:Bool->Tb}
def fK(N:a6)(s:jI)(id:Int)(i:Nat):List Int:=jo s.aN ((bS N id).take i) []
def kr(L:f0)(F:au):Nat:=(F.map (fy L)).sum
def oV(N:a6)(s:jI)(id:Int)(i:Nat):Bool:=decide ((bS N id).getD i 0≠0)&& !s.aN.getD ((bS N id).getD i 0).toNat false&& !((bS N id).take i).contains ((bS N id).getD i 0)
@[grind cases]structure tw(N:a6)(L:List (List Int))(s:jI)(e:tu)(id:Int)(i:Nat)(A:da)(tb:Bool->Tb)(T:Bool->Int->Option (List Int)):Prop where
 mb:cM A tb T
 lv:A.lv=e.A.lv+kr L (fK N s id i)
 pe:A.pe=max e.A.pe A.lv
 cap:A.cap=e.A.cap
 tf:∀z,T false z=e.T false z
 tg:∀z,T true z=if z∈fK N s id i then some (List.replicate (fy L z) 0)else e.T true z
noncomputable def j8(N:a6)(O:au)(L:f0)(l:Nat)(P:List TV)(x:TV)(d:Nat)(id:Int)(v:dV)(i:Nat):List TV:=
 i0 (cD N O L l P x d).1 (v.ins.take i) ((pt N P (dR N P x) (cD N O L l P x d).1 id v).take i)
structure xT(N:a6)(O:List Int)(L:List (List Int))(l:Nat)(P:List TV)(x:TV)(s:jI)(e:tu)(id:Int)(v:dV)(i:Nat)(A:da)(tb:Bool->Tb)(T:Bool->Int->Option (List Int))(X:TV):Prop where
 mb:cM A tb T
 lv:A.lv=e.A.lv+kr L (fK N s id v.ins.length)
 pe:A.pe=max e.A.pe A.lv
 cap:A.cap=e.A.cap
 tf:∀z,T false z=e.T false z
 tg:∀z:Int,T true z=if 1<=z/\z<=N.nodes.length/\(s.aN.getD z.toNat false=true\/z∈v.ins)then some (if((j8 N O L l P x s.done.toNat id v i).getD z.toNat T0).2=[]then List.replicate (fy L z) 0 else((j8 N O L l P x s.done.toNat id v i).getD z.toNat T0).2)else none
 X:X=(j8 N O L l P x s.done.toNat id v i).getD 0 T0
section
variable{N:a6}{D R:List Int}{P:List TV}{x X t:TV}{e e':tu}{A A':da}{T:Bool->Int->Option (List Int)}{v:dV}
def CX(G:List Bool):∀(a b l:au),jo G (a++b) l=jo G b (jo G a l)
 |[],_,_=>rfl
 |z::t,b,l=>by rw[uZ,jo,jo,CX G t b]
theorem wy(G:List Bool):∀(a l:au) (z:Int),z∈jo G a l↔z∈l\/(z∈a/\z≠0/\G.getD z.toNat false=false)
 |[],l,z=>by simp[jo]
 |y::t,l,z=>by rw[jo,wy G t];grind
theorem CY(G:List Bool):∀(a l:au),∃r,jo G a l=l++r
 |[],l=>⟨[],by simp[jo]⟩
 |z::t,l=>by rw[jo];split;obtain⟨r,h⟩:=CY G t (l++[z]);grind;exact CY G t l
theorem nj:z∈fK N s id i↔z∈(bS N id).take i/\z≠0/\s.aN.getD z.toNat false=false:=by
 unfold fK;rw[wy];simp
theorem xU(h:(bS N id)[i]?=some z):fK N s id (i+1)=if oV N s id i=true then fK N s id i++[z]else fK N s id i:=by
 have b:(bS N id).getD i 0=z:=by rw[a5,h];rfl
 unfold fK oV;rw[b,take_at h,CX,jo];rw[jo];have j:(jo s.aN ((bS N id).take i) []).contains z=(decide (z≠0)&& !s.aN.getD z.toNat false&&((bS N id).take i).contains z):=by have:=wy s.aN ((bS N id).take i) [] z;rw[zR];simp only[aaG,bU,b9,GO];rw[this];simp only[tO,false_or];exact ay
 grind
theorem Yl:kr L (fK N s id i)<=kr L (fK N s id (bS N id).length):=by
 have e:fK N s id (bS N id).length=jo s.aN ((bS N id).drop i) (fK N s id i):=by unfold fK;rw[ek,<-CX,d3]
 obtain⟨r,hr⟩:=CY s.aN ((bS N id).drop i) (fK N s id i);grind [kr]
@[grind cases]structure iR(N:a6)(O:List Int)(L:List (List Int))(l:Nat)(P:List TV)(x:TV)(cap:Int)(s:jI)(e:tu)(id:Int)(v:dV):Prop where
 i1:1<=id
 i2:id<=N.nodes
 hv:N.nodes[(id-1).toNat]?=some v
 hm:v∈N.nodes
 hi:bS N id=v.ins
 at_:O.reverse[s.done.toNat]?=some id
 sd:s.fX=true
 gd:s.aN.getD id.toNat false=true
 tg:e.T true id=some ((cD N O L l P x s.done.toNat).1.getD id.toNat T0).2
 TX:((cD N O L l P x s.done.toNat).1.getD id.toNat T0).1=L.getD id.toNat []/\TV.ok ((cD N O L l P x s.done.toNat).1.getD id.toNat T0)
 ins:∀z∈v.ins,z=0\/(1<=z/\z<=N.nodes.length/\e.T false z=some ((dR N P x).getD z.toNat T0).2)
 CZ:∀z∈v.ins,0<=z/\z<=N.nodes.length
 sum:(e.A.lv:Int)+kr L (fK N s id v.ins.length)<=cap
 x1:(pt N P (dR N P x) (cD N O L l P x s.done.toNat).1 id v).map (·.1)=d7 v L
 x2:∀t∈pt N P (dR N P x) (cD N O L l P x s.done.toNat).1 id v,TV.ok t
 bi:wh N L l P (O.reverse.take s.done.toNat) (cD N O L l P x s.done.toNat)
def xV(W:au)(f:Int->Nat):∀F:List Int,(∀z∈F,W.getD z.toNat 0=(f z:Int))->(F.map λz=>W.getD z.toNat 0).sum=(((F.map f).sum:Nat):Int)
 |[],_=>rfl
 |z::t,h=>by rw[eh,jL,eh,jL,xV W f t λy b=>h y (iD _ b),h z dD,en]
def gw.Ym(c:fI N O L l P x)(h:gw N O L l P x cap s e)(S:lS (dt N cap) s 6 id=0):∃v,iR N O L l P x cap s e id v:=by
 obtain⟨r,u,G,V⟩:=CW c S Y;rw[dW,ag ao,ag ao,ag ao,ag ao,ag ao]at G;simp only[bU,b9]at G;obtain⟨⟨⟨hg,hr⟩,hd⟩,E⟩:=G;have hO:(dt N cap).order=O:=c.hN.ord;rw[hO]at hd E;have oM:=h.d0;have I:s.done.toNat<O.length:=Y;have y:O.reverse[s.done.toNat]?=some id:=by rw[PI I];have e:((O.length:Int)-1-s.done).toNat=O-1-s.done.toNat:=Y;rw[e]at E;have M:O.length-1-s.done.toNat<O:=Y;rw[a5,bk M]at E;rw[bk M];congr 1;have:=eq_of_beq E;rw[sC]at this;rw[this];omega
 have B:=s0 c.hN c.hE c.hF (k8 c.hN c.hF) s.done.toNat Y;have b:=B.there c.hN c.hE y;obtain⟨v,p1,Q,F,p4,p5,p6,p7,p8,p9,J,K,p12,p13⟩:=wh.parts c.hN c.hF (k8 c.hN c.hF) (bt.2 ⟨r,u⟩) b;have j:=c.hN.ko v Q;have m:=h.ins c r u hr;rw[F]at m;have C:eD (dt N cap) s 6 id.toNat=(kr L (fK N s id v.ins.length):Int):=by rw[eD,ag ao,ag ao,ah rfl,iz,CP r,F,kr,fK,F,ek];refine xV _ _ _ λz hz=>?_;rw[wy]at hz;rcases hz with hz|hz;cases hz;have:=j z hz.1;exact(c.word this.1 this.2).1
 rw[C]at V;have pZ:=h.lv;exact⟨v,r,u,p1,Q,F,y,((h.gs id r u).1 hg).1,hg,by rw[h.gg,ah ⟨r,u,hg⟩],b,m,j,Y,J,K,B⟩
theorem tw.zero(h:cM e.A e.tb e.T)(b:e.A.lv<=e.A.pe):tw N L s e id 0 e.A e.tb e.T:=by
 have j:fK N s id 0=[]:=by unfold fK;rw[d8];rfl
 exact⟨h,by rw[j];rfl,Y,rfl,λz=>rfl,ay⟩
theorem gw.lp_(h:gw N O L l P x cap s e):e.A.lv<=e.A.pe:=by
 grind
theorem tw.has(h:gw N O L l P x cap s e)(b:iR N O L l P x cap s e id v)(g:tw N L s e id i A tb T)(m:(bS N id)[i]?=some z):(oV N s id i=true↔z≠0/\T true z=none)/\(oV N s id i=false↔z=0\/∃xs,T true z=some xs):=by
 have j:(bS N id).getD i 0=z:=by rw[a5,m];rfl
 have hr:=b.CZ z (by rw[<-b.hi];exact aK m);have key:z≠0->(T true z=none↔(s.aN.getD z.toNat false=false/\z∉(bS N id).take i)):=λr=>by rw[g.tg];by_cases hm:z∈fK N s id i;rw[ah hm];grind [nj,absurd];rw[ag hm,h.gg];rw[nj]at hm;by_cases hg:s.aN.getD z.toNat false=true;rw[ah ⟨Y,hr.2,hg⟩];grind;grind
 have u:oV N s id i=true↔z≠0/\T true z=none:=by unfold oV;rw[j];simp only[bU,b9,GO];constructor;grind;grind
 refine⟨u,?_⟩;rw[<-Bool.not_eq_true,u];constructor;intro y;by_cases r:z=0;exact .inl r
 .right;cases ht:T true z with
  |none=>grind
  |some xs=>grind
 grind
theorem tw.skip(g:tw N L s e id i A tb T)(b:(bS N id)[i]?=some z)(hb:oV N s id i=false):tw N L s e id (i+1) A tb T:=by
 have j:fK N s id (i+1)=fK N s id i:=by rw[xU b,hb];rfl
 exact⟨g.mb,ay,g.pe,g.cap,g.tf,ay⟩
theorem tw.room(h:gw N O L l P x cap s e)(b:iR N O L l P x cap s e id v)(g:tw N L s e id i A tb T)(j:(bS N id)[i]?=some z)(hb:oV N s id i=true):(A.lv:Int)+fy L z<=A.cap:=by
 have m:=Yl (N:=N) (L:=L) (s:=s) (id:=id) (i:=i+1);rw[xU j,hb,ah rfl]at m;have r:kr L (fK N s id i++[z])=kr L (fK N s id i)+fy L z:=by unfold kr;simp
 have u:=b.sum;have y:=h.cap;grind
theorem tw.VG(g:tw N L s e id i A tb T)(j:(bS N id)[i]?=some z)(hb:oV N s id i=true){A':da}{kn:Bool->Tb}(cA:cM A' kn (e0 T true z (some (List.replicate (fy L z) 0))))(C:A'.lv=A.lv+fy L z)(hp:A'.pe=max A.pe (A.lv+fy L z))(E:A'.cap=A.cap):
  tw N L s e id (i+1) A' kn (e0 T true z (some (List.replicate (fy L z) 0))):=by
 have m:fK N s id (i+1)=fK N s id i++[z]:=by rw[xU j,hb];rfl
 have F:kr L (fK N s id i++[z])=kr L (fK N s id i)+fy L z:=by unfold kr;simp
 have r:=g.pe;have u:=g.lv;refine⟨cA,ay,Y,ay,λy=>?_,λy=>?_⟩;grind [ef,absurd];rw[m];by_cases b:y=z;subst b;rw[h6,ah aI];rw[ef (λB=>b B.2),g.tg];have:y∈fK N s id i++[z]↔y∈fK N s id i:=by simp[b]
 by_cases hm:y∈fK N s id i;grind;grind
theorem uv:∀(zs:au) (ts:List TV) (gr:List TV) (i:Nat) (z:Int) (t:TV),zs[i]?=some z->ts[i]?=some t->i0 gr (zs.take (i+1)) (ts.take (i+1))=(i0 gr (zs.take i) (ts.take i)).set z.toNat (iC ((i0 gr (zs.take i) (ts.take i)).getD z.toNat T0) t)
 |[],_,_,_,_,_,h,_=>by simp at h
 |_::_,[],_,_,_,_,_,h=>by simp at h
 |y::zs,u::ts,gr,0,z,t,h1,h2=>by grind [i0]
 |y::zs,u::ts,gr,i+1,z,t,h1,h2=>by rw[pE]at h1 h2;rw[f6,f6,i0,uv zs ts _ i z t h1 h2,f6,f6,i0]
theorem iR.at(b:iR N O L l P x cap s e id v):(j8 N O L l P x s.done.toNat id v i).length=N.nodes+1/\(∀z:Int,0<=z->z<=N.nodes.length->Cq L (j8 N O L l P x s.done.toNat id v i) z)/\
  ∀z:Int,0<=z->z<=N.nodes.length->(((j8 N O L l P x s.done.toNat id v i).getD z.toNat T0).2≠[]↔((cD N O L l P x s.done.toNat).1.getD z.toNat T0).2≠[]\/z∈v.ins.take i):=by
 have h:=wj (L:=L) (m:=N.nodes.length) (v.ins.take i) ((pt N P (dR N P x) (cD N O L l P x s.done.toNat).1 id v).take i) (cD N O L l P x s.done.toNat).1 b.bi.len (λz j=>b.CZ z ay) (by rw[fT,b.x1,d7,fT]) (λt ht=>b.x2 t ay) b.bi.sh;exact⟨h.1,h.2.1,h.2.2.1⟩
theorem FW(c:fI N O L l P x)(hd:O.reverse[d]?=some id)(b:z∈bS N id)(C:z≠0):z∉O.reverse.take d:=by
 obtain⟨E,m⟩:=pq hd;rcases c.hN.sZ m z b with h3|h3;grind;intro r;obtain⟨k,F,u⟩:=pu r;obtain⟨G,y⟩:=pq u;obtain⟨j,I,B⟩:=pu h3;have:=FO c.hN.m8.nd y B;omega
theorem iR.none_(c:fI N O L l P x)(h:gw N O L l P x cap s e)(b:iR N O L l P x cap s e id v)(j:z∈v.ins)(m:z≠0):(s.aN.getD z.toNat false=false↔((cD N O L l P x s.done.toNat).1.getD z.toNat T0).2=[]):=by
 have hr:=b.CZ z j;have hg:=h.gs z Y hr.2;have r:=FW c b.at_ ay m;constructor;grind;grind
theorem iR.fresh(c:fI N O L l P x)(h:gw N O L l P x cap s e)(b:iR N O L l P x cap s e id v)(m:v.ins[i]?=some z)(r:z≠0):oV N s id i=true↔((j8 N O L l P x s.done.toNat id v i).getD z.toNat T0).2=[]:=by
 have hm:=aK m;have hr:=b.CZ z hm;have y:=(b.at (i:=i)).2.2 z hr.1 hr.2;have u:=b.none_ c h hm r;have j:(bS N id).getD i 0=z:=by rw[b.hi,a5,m];rfl
 unfold oV;rw[j,b.hi];simp only[bU,b9,GO];rw[u];constructor;grind;grind
theorem xT.start(c:fI N O L l P x)(h:gw N O L l P x cap s e)(b:iR N O L l P x cap s e id v)(g:tw N L s e id v.ins.length A tb T):xT N O L l P x s e id v 0 A tb T e.X:=by
 have r:j8 N O L l P x s.done.toNat id v 0=(cD N O L l P x s.done.toNat).1:=by unfold j8;rw[d8,d8];rfl
 refine⟨g.mb,g.lv,g.pe,g.cap,g.tf,λz=>?_,by rw[r];exact h.X⟩;rw[r,g.tg,h.gg];have j:z∈fK N s id v.ins.length↔z∈v.ins/\z≠0/\s.aN.getD z.toNat false=false:=by rw[nj,b.hi,ek]
 by_cases hm:z∈fK N s id v.ins.length;rw[ah hm];obtain⟨m,u,y⟩:=j.1 hm;have hr:=b.CZ z m;rw[ah ⟨Y,hr.2,.inr m⟩,ah ((b.none_ c h m u).1 y)];rw[ag hm];by_cases hg:1<=z/\z<=N.nodes.length/\s.aN.getD z.toNat false=true;rw[ah hg,ah ⟨hg.1,hg.2.1,.inl hg.2.2⟩,ag ((h.gs z hg.1 hg.2.1).1 hg.2.2).2.1];rw[ag hg,ag];grind
def qv(b:v.ins[i]?=some z)(ht:(pt N P (dR N P x) (cD N O L l P x d).1 id v)[i]?=some t):j8 N O L l P x d id v (i+1)=(j8 N O L l P x d id v i).set z.toNat (iC ((j8 N O L l P x d id v i).getD z.toNat T0) t):=uv _ _ _ i z t b ht
theorem iR.get(b:iR N O L l P x cap s e id v)(m:v.ins[i]?=some z):∃t,(pt N P (dR N P x) (cD N O L l P x s.done.toNat).1 id v)[i]?=some t/\t.1=L.getD z.toNat []/\TV.ok t/\t.2=fy L z:=by
 have r:=b.x1;have j:((pt N P (dR N P x) (cD N O L l P x s.done.toNat).1 id v).map (·.1))[i]?=some (L.getD z.toNat []):=by rw[r,d7,bo,m];rfl
 rw[bo]at j;obtain⟨t,ht,y⟩:=bJ.1 j;have u:=b.x2 t ay;grind [CV]
theorem xT.zero(b:iR N O L l P x cap s e id v)(p:xT N O L l P x s e id v i A tb T X)(m:v.ins[i]?=some 0)(ht:(pt N P (dR N P x) (cD N O L l P x s.done.toNat).1 id v)[i]?=some t):
  xT N O L l P x s e id v (i+1) A tb T (iC X t):=by
 obtain⟨u,B,C⟩:=b.at (i:=i);refine⟨p.mb,p.lv,p.pe,p.cap,p.tf,λy=>?_,?_⟩;rw[p.tg,qv m ht,eN ay];by_cases j:1<=y/\y<=N.nodes.length/\(s.aN.getD y.toNat false=true\/y∈v.ins);have r:¬(0:Int).toNat=y.toNat:=by have:=j.1;rw[Int.toNat_zero];omega
 rw[ah j,ah j,ag r];rw[ag j,ag j];rw[qv m ht,eN ay,Int.toNat_zero,ah rfl,p.X]
theorem xT.node(c:fI N O L l P x)(h:gw N O L l P x cap s e)(b:iR N O L l P x cap s e id v)(p:xT N O L l P x s e id v i A tb T X)(B:v.ins[i]?=some z)(h0:z≠0)(ht:(pt N P (dR N P x) (cD N O L l P x s.done.toNat).1 id v)[i]?=some t):
  (1<=z/\z<=N.nodes/\(oV N s id i=true->T true z=some (List.replicate (fy L z) 0))/\
   (oV N s id i=false->∃g:TV,(j8 N O L l P x s.done.toNat id v i).getD z.toNat T0=g/\g.1=L.getD z.toNat []/\TV.ok g/\T true z=some g.2/\g.2=fy L z))/\
  ∀(A':da) (kn:Bool->Tb) (u:au),u=(if oV N s id i=true then t.2 else((j8 N O L l P x s.done.toNat id v i).getD z.toNat T0).2.zipWith bB t.2)->cM A' kn (e0 T true z (some u))->A'.lv=A.lv->A'.pe=A.pe->A'.cap=A.cap->
   xT N O L l P x s e id v (i+1) A' kn (e0 T true z (some u)) X:=by
 have hm:=aK B;have hr:=b.CZ z hm;obtain⟨g1,C,g3⟩:=b.at (i:=i);have Q:=b.fresh c h B h0;have hT:=p.tg z;rw[ah ⟨Y,hr.2,.inr hm⟩]at hT;obtain⟨t',E,te,tok,tl⟩:=b.get B;rw[ht]at E;obtain rfl:=cU E;obtain⟨M,j⟩:=lh (j8 N O L l P x s.done.toNat id v i);rw[j]at g1 g3 Q hT;have C:=C z hr.1 hr.2;rw[j]at C;refine⟨⟨Y,hr.2,λhb=>?_,λhb=>?_⟩,λA' kn u m cA F S V=>?_⟩;grind;have G:(M.getD z.toNat T0).2≠[]:=ay;rw[j];rcases C with h3|h3;grind;exact⟨_,rfl,h3.1,h3.2,ay,CV h3.2 h3.1⟩;rw[j]at m;have I:z.toNat<M.length:=by rw[g1];omega
 have J:u=(iC (M.getD z.toNat T0) t).2/\u≠[]:=by unfold iC;by_cases hb:oV N s id i=true;rw[ah hb]at m;rw[ah (Q.1 hb),m];exact⟨rfl,tok.ne⟩;rw[ag hb]at m;have G:(M.getD z.toNat T0).2≠[]:=λK=>hb (Q.2 K);rw[ag G,m];refine⟨rfl,?_⟩;rcases C with h3|h3;grind;exact(h3.2.add tok (by rw[te,h3.1])).ne
 refine⟨cA,by rw[F];exact p.lv,by rw[S,F];exact p.pe,by rw[V];exact p.cap,λy=>?_,λy=>?_,?_⟩;rw[ef (λK=>absurd K.1 ao)];exact p.tf y;rw[qv B ht,j,eN I];by_cases hy:y=z;subst hy;rw[h6,ah ⟨Y,hr.2,.inr hm⟩,ah rfl,<-J.1,ag J.2];rw[ef (λK=>hy K.2),p.tg,j];by_cases r:1<=y/\y<=N.nodes.length/\(s.aN.getD y.toNat false=true\/y∈v.ins);have h9:¬z.toNat=y.toNat:=by have:=r.1;omega
 rw[ah r,ah r,ag h9];rw[ag r,ag r];rw[qv B ht,j,eN I,ag (by show¬z.toNat=0;omega),p.X,j]
theorem FX:∀(F:au) (G:List Bool) (z:Nat),(∀y∈F,y.toNat<G.length)->(qr G F).getD z false=(G.getD z false||F.any λy=>decide (y.toNat=z))
 |[],G,z,_=>by simp[qr]
 |y::t,G,z,h=>by have e:qr G (y::t)=qr (G.set y.toNat true) t:=rfl;rw[e,FX t _ z (λw b=>by grind),fJ (h y dD),List.any_cons];grind
def zM2(h:Γ:=by have:=b.i1;omega):=h
theorem xT.done(c:fI N O L l P x)(h:gw N O L l P x cap s e)(b:iR N O L l P x cap s e id v)(p:xT N O L l P x s e id v v.ins.length A tb T X):
  (∃g:TV,T true id=some g.2/\g.2=fy L id)/\
  ∀(A':da) (kn:Bool->Tb),cM A' kn (e0 T true id none)->A'.lv+fy L id=A.lv->A'.pe=A.pe->A'.cap=A.cap->
   gw N O L l P x cap (g4 (dt N cap) s 6 id) ⟨A',kn,e0 T true id none,rU e.G (Cp N P (dR N P x) (cD N O L l P x s.done.toNat).1 id v) (dK N (id-1).toNat),X,e.lo⟩:=by
 have oM:=h.d0;have Q:(pt N P (dR N P x) (cD N O L l P x s.done.toNat).1 id v).length=v.ins:=by have:=di List.length b.x1;simpa[d7]using this
 obtain⟨B,r⟩:=lh (j8 N O L l P x s.done.toNat id v v.ins.length);have S:B=i0 (cD N O L l P x s.done.toNat).1 v.ins (pt N P (dR N P x) (cD N O L l P x s.done.toNat).1 id v):=by rw[<-r,j8,ek,<-Q,ek]
 have hS:cD N O L l P x (s.done+1).toNat=(B,rU (cD N O L l P x s.done.toNat).2 (Cp N P (dR N P x) (cD N O L l P x s.done.toNat).1 id v) (dK N (id-1).toNat)):=by rw[show(s.done+1).toNat=s.done.toNat+1 from Y];(have e:O.reverse.take (s.done.toNat+1)=O.reverse.take s.done.toNat++[id]:=by rw[i5,b.at_];rfl);(have V:cD N O L l P x (s.done.toNat+1)=Oy N P (dR N P x) (cD N O L l P x s.done.toNat) id:=by unfold cD Oz;rw[e,sB];rfl);rw[V,Oy,b.hv,S]
 obtain⟨g1,g2,K⟩:=b.at (i:=v.ins.length);rw[r,ek]at K;rw[r]at g1 g2;have hT:=p.tg;rw[r]at hT;have E:=K id zM2 b.i2;have ia:(B.getD id.toNat T0).2≠[]:=E.2 (.inl b.TX.2.ne);obtain⟨k1,k2⟩:(B.getD id.toNat T0).1=L.getD id.toNat []/\TV.ok (B.getD id.toNat T0):=by rcases g2 id zM2 b.i2 with h3|h3;grind;exact h3
 refine⟨⟨B.getD id.toNat T0,by rw[hT,ah ⟨b.i1,b.i2,.inl b.gd⟩,ag ia],CV k2 k1⟩,λA' kn cA pZ xa rj=>?_⟩;obtain⟨w1,w2,w3⟩:=c.word (cap:=cap) (z:=id) zM2 b.i2;have F:iz (dt N cap) s id.toNat=fK N s id v.ins.length:=by rw[iz,CP b.i1,fK,b.hi,ek]
 have td:eD (dt N cap) s 6 id.toNat=(kr L (fK N s id v.ins.length):Int):=by rw[eD,ag ao,ag ao,ah rfl,F,kr];refine xV _ _ _ λz C=>?_;rw[nj]at C;have:=b.CZ z (by rw[<-b.hi];exact eS C.1);exact(c.word this.1 this.2).1
 have I:∀z,z∈fK N s id v.ins.length↔z∈v.ins/\z≠0/\s.aN.getD z.toNat false=false:=λz=>by rw[nj,b.hi,ek]
 have u:∀y:Int,1<=y->y<=N.nodes.length->(((qr s.aN (fK N s id v.ins.length)).set id.toNat false).getD y.toNat false=true↔y≠id/\(s.aN.getD y.toNat false=true\/y∈v.ins)):=λy y1 M=>by (have tU:∀z∈fK N s id v.ins.length,z.toNat<s.aN.length:=λz C=>by have:=b.CZ z ((I z).1 C).1;rw[h.lg];omega);rw[fJ (by rw[rZ,h.lg];have:=b.i1;have:=b.i2;omega),FX _ _ _ tU];have i1:=b.i1;by_cases J:id.toNat=y.toNat;grind;rw[ag J,Gy,PK];constructor;rintro(m|⟨z,C,m⟩);grind;have h3:=(I z).1 C;have h4:=b.CZ z h3.1;(have h5:z.toNat=y.toNat:=by simpa using m);have:z=y:=Y;grind;rintro⟨_,m⟩;grind
 have hD:g4 (dt N cap) s 6 id=⟨s.bu,s.saved,(qr s.aN (fK N s id v.ins.length)).set id.toNat false,s.eR,s.fX,s.done+1,s.now+(kr L (fK N s id v.ins.length):Int)-(fy L id:Int),max s.kq (s.now+(kr L (fK N s id v.ins.length):Int))⟩:=by unfold g4;dsimp only;rw[ag ao,ag ao,ag ao,ag ao,td,F,w1]
 rw[hD];have agv:=h.lv;have agw:=h.pe;have agx:=p.lv;have agy:=p.pe;have RK:=(pq b.at_).1;refine⟨cA,ay,by dsimp only;omega,by dsimp only;omega,by dsimp only;rw[rj,p.cap];exact h.cap,λy=>?_,λy=>?_,λy y1 M=>?_,λm=>absurd (m.symm.trans b.sd) ao,ay,by dsimp only;omega,?_,?_,h.em,h.ps,h.lp,h.ls,by simp[rZ,h.lg]⟩;dsimp only;rw[ef (λm=>absurd m.1 ao),p.tf];exact h.tt y;dsimp only;rw[hS];by_cases J:y=id;subst J;rw[h6,ag (λm=>((u y m.1 m.2.1).1 m.2.2).1 rfl)];rw[ef (λm=>J m.2),hT];by_cases j:1<=y/\y<=N.nodes.length/\(s.aN.getD y.toNat false=true\/y∈v.ins)
 have hn:(B.getD y.toNat T0).2≠[]:=(K y Y j.2.1).2 (by
  rcases j.2.2 with h3|h3
  .exact .inl ((h.gs y j.1 j.2.1).1 h3).2.1
  grind)
 rw[ah j,ag hn,ah ⟨j.1,j.2.1,(u y j.1 j.2.1).2 ⟨J,j.2.2⟩⟩];rw[ag j,ag (λm=>j ⟨m.1,m.2.1,((u y m.1 m.2.1).1 m.2.2).2⟩)];dsimp only;rw[hS,u y y1 M,K y Y M];have e:O.reverse.take (s.done+1).toNat=O.reverse.take s.done.toNat++[id]:=by rw[show(s.done+1).toNat=s.done.toNat+1 from Y,i5,b.at_];rfl
 rw[e,cu,de];have BX:=h.gs y y1 M;constructor;rintro⟨V,h2|h2⟩;grind;exact⟨b.sd,.inr h2,λm=>m.elim (FW c b.at_ (by rw[b.hi];exact h2) Y) V⟩;grind;dsimp only;rw[hS,h.G];dsimp only;rw[hS,p.X,r]
end
section
variable{p u w' w1:World}{c g r wd:Nat}{v':da}{F':Nat->Prop}{a':ta}{A xW:Option Addr}{h:Int}{xs ys zs:List Int}{ss:List Sp}
def oS(s:Bool):Nat:=if s then 13 else 9
structure kP where
 cs:Array Value
 a:ta
 F:Bool->Nat->Prop
def kP.qaa(m:kP)(g r b:Nat):Prop:=b=g\/m.a.F r b\/m.F false b\/m.F true b
structure MS(w:World)(B g r:Nat)(m:kP)(v:da)(tb:Bool->Tb):Prop where
 ar:dk w B r m.a v
 t:∀s,kF w B g (oS s) m.cs (m.F s) (tb s)
 ca:∀s,m.cs[oS s+2]?=some (.pointer r)
 gB:B<=g
 gA:¬m.a.F r g
 FA:∀s b,m.F s b->¬m.a.F r b
 FF:∀s b,m.F s b->¬m.F (!s) b
def kQ(cs b:dw):Prop:=∀i,i≠9->i≠10->i≠13->i≠14->b[i]?=cs[i]?
structure d6(w w':World)(g r:Nat)(m m':kP):Prop where
 kf:Kf (m.qaa g r) (m'.qaa g r) w w'
 sm:kQ m.cs m'.cs
section
variable{w:World}{B k n o:Nat}{m m' m2:kP}{v:da}{T:Bool->Int->Option (List Int)}{s:Bool}{t:Tb}{b:gb}{x y:Value}
def kQ.refl(cs:dw):kQ cs cs:=λ_ _ _ _ _=>rfl
def kQ.trans{a b d:dw}(h:kQ a b)(E:kQ b d):kQ a d:=λi e l C D=>(E i e l C D).trans (h i e l C D)
def d6.trans(h:d6 w w' g r m m')(e:d6 w' u g r m' m2):d6 w u g r m m2:=⟨h.kf.trans e.kf,h.sm.trans e.sm⟩
def d6.later(g r:Nat)(m:kP)[aM w w']:d6 w w' g r m m:=⟨Kf.later _,kQ.refl _⟩
def kQ.bP(s:Bool)(cs:dw)(x y:Value):kQ cs (bP cs (oS s) x y):=λi e l C D=>by
 cases s;exact pb (o:=9) e l x y;exact pb (o:=13) C D x y
def qR.Iz{n c:Nat}{F:Nat->Prop}(h:qR w B A n c F t):∀b,F b->B<=b/\b<w.1.size:=λb hb=>by
 rcases h with⟨C,D,e⟩|⟨C,q,r,G,D,e,l,I,E⟩;exact absurd hb (e b);rcases(E b).1 hb with rfl|rfl;exact⟨(e.af (du.2 rfl)).1,(e.af (du.2 rfl)).2.1⟩;exact⟨(l.af (du.2 rfl)).1,(l.af (du.2 rfl)).2.1⟩
def kF.Iz{cs:dw}{F:Nat->Prop}(h:kF w B g o cs F t):∀b,F b->B<=b/\b<w.1.size:=by
 obtain⟨A,n,c,l,_,_,e⟩:=h.tb;exact e.Iz
def kF.C1{cs:dw}{F:Nat->Prop}(h:kF w B g o cs F t)(e:∀b,F b\/b=g->w'.heap[b]?=w.heap[b]?):kF w' B g o cs F t:=by
 obtain⟨A,n,c,l,C,D,E⟩:=h.tb;exact⟨(e g (.inr rfl)).trans h.ak,⟨A,n,c,l,C,D,E.keep λb hb=>e b (.inl hb)⟩,h.qK,h.len⟩
def kF.ng{cs:dw}{F:Nat->Prop}(h:kF w B g o cs F t):¬F g:=by
 obtain⟨A,n,c,l,_,_,e⟩:=h.tb;exact e.ne h.ak
def MS.lt(h:MS w B g r m v tb):∀b,m.qaa g r b->B<=b/\b<w.1.size:=λb hb=>by
 rcases hb with rfl|hb|hb|hb;exact⟨h.gB,(h.t false).ak.lt⟩;exact h.ar.lt b hb;exact(h.t false).Iz b hb;exact(h.t true).Iz b hb
def MS.at(h:MS w B g r m v tb)[l:aM w w']:MS w' B g r m v tb:=⟨h.ar.at,λs=>(h.t s).at,h.ca,h.gB,h.gA,h.FA,h.FF⟩
theorem d6.prev(h:d6 w w' g r m m')(hm:MS w p.1.size g r m v tb)[aM p w]:aj w' p:=h.kf.prev λb hb=>(hm.lt b hb).1
def zM0(h:Γ:=by exact .inr (.inl (.inr (.inr (.inl hb))))):=h
def zM1(h:Γ:=by exact .inr (.inl (.inr (.inr (.inr hb))))):=h
def MS.OQ(h:MS w B g r m v tb)(e:dk w' B r a' v')(hK:Kf (m.a.F r) (a'.F r) w w'):MS w' B g r {m with a:=a'} v' tb/\d6 w w' g r m {m with a:=a'}:=by
 refine⟨⟨e,λs=>(h.t s).C1 λb hb=>hK.keep b ?_ ?_,h.ca,h.gB,λhg=>?_,λs b hb l=>?_,h.FF⟩,⟨hK.more (λb hb=>.inr (.inl hb)) λb hb=>?_,kQ.refl _⟩⟩;rcases hb with hb|rfl;exact((h.t s).Iz b hb).2;exact(h.t s).ak.lt;rcases hb with hb|rfl;exact h.FA s b hb;exact h.gA;rcases hK.new g hg with h1|h1;exact h.gA h1;have:=(h.t false).ak.lt;omega;rcases hK.new b l with h1|h1;exact h.FA s b hb h1;have:=((h.t s).Iz b hb).2;omega;rcases hb with hb|hb|hb|hb;exact .inr (.inl (.inl hb));exact .inl hb;exact zM0;exact zM1
def Yn(s:Bool):oS (!s)≠oS s/\oS (!s)≠oS s+1/\oS (!s)+1≠oS s/\oS (!s)+1≠oS s+1/\oS s+2≠oS (!s)/\oS s+2≠oS (!s)+1/\oS s+2≠oS s/\oS s+2≠oS s+1:=by cases s<;>decide
def MS.table(h:MS w B g r m v tb)(s:Bool)(J:kF w' B g (oS s) (bP m.cs (oS s) x y) F' t)(hK:Kf (λb=>m.F s b\/b=g) (λb=>F' b\/b=g) w w'):
  MS w' B g r ⟨bP m.cs (oS s) x y,m.a,h0 m.F s F'⟩ v (h0 tb s t)/\d6 w w' g r m ⟨bP m.cs (oS s) x y,m.a,h0 m.F s F'⟩:=by
 have G:∀e,e≠s->e=!s:=λe hs=>by cases s<;>cases e<;>simp_all
 have D:=Yn s;have E:∀b,F' b->m.F s b\/w.1.size<=b:=λb hb=>by rcases hK.new b (.inl hb)with(h1|h1)|h1;exact .inl h1;subst h1;exact absurd hb J.ng;exact .inr h1
 refine⟨⟨h.ar.kf hK λb hb I=>?_,λe=>?_,λe=>?_,h.gB,h.gA,λe b hb K=>?_,λe b hb C=>?_⟩,⟨hK.more (λb hb=>?_) λb hb=>?_,kQ.bP s _ _ _⟩⟩;rcases I with I|rfl;exact h.FA s b I hb;exact h.gA hb;by_cases hs:e=s;subst hs;show kF w' B g (oS e) _ (h0 m.F e F' e) (h0 tb e t e);rw[gf,gf];exact J;show kF w' B g (oS e) _ (h0 m.F s F' e) (h0 tb s t e);rw[gY hs,gY hs];obtain rfl:=G e hs;obtain⟨A,n,c,M,h1,N,L⟩:=(h.t (!s)).tb;refine⟨J.ak,⟨A,n,c,M,?_,?_,L.keep λb hb=>hK.keep b (L.Iz b hb).2 ?_⟩,(h.t (!s)).qK,(h.t (!s)).len⟩;rw[pb D.1 D.2.1];exact h1;rw[pb D.2.2.1 D.2.2.2.1];exact N;rintro(I|rfl);exact h.FF s b I hb;exact(h.t (!s)).ng hb;show(bP m.cs (oS s) x y)[oS e+2]?=_;by_cases hs:e=s;subst hs;rw[pb D.2.2.2.2.2.2.1 D.2.2.2.2.2.2.2];exact h.ca e;obtain rfl:=G e hs;have l:=(Yn (!s)).2.2.2.2;rw[Bool.not_not]at l;rw[pb l.1 l.2.1];exact h.ca (!s);by_cases hs:e=s;subst hs;have hb:F' b:=by have l:h0 m.F e F' e b:=hb;rwa[gf]at l
 rcases E b hb with h1|h1;exact h.FA e b h1 K;have:=(h.ar.lt b K).2;omega;have hb:m.F e b:=by have l:h0 m.F s F' e b:=hb;rwa[gY hs]at l
 exact h.FA e b hb K;by_cases hs:e=s;subst hs;have hb:F' b:=by have l:h0 m.F e F' e b:=hb;rwa[gf]at l
 have C:m.F (!e) b:=by have l:h0 m.F e F' (!e) b:=C;rwa[gY aI]at l
 rcases E b hb with h1|h1;exact h.FF e b h1 C;have:=((h.t (!e)).Iz b C).2;omega;obtain rfl:=G e hs;have hb:m.F (!s) b:=by have l:h0 m.F s F' (!s) b:=hb;rwa[gY hs]at l
 have C:F' b:=by have l:h0 m.F s F' (!!s) b:=C;rw[Bool.not_not,gf]at l;exact l
 rcases E b C with h1|h1;exact h.FF s b h1 hb;have:=((h.t (!s)).Iz b hb).2;omega;rcases hb with hb|rfl;cases s;exact .inr (.inr (.inl hb));exact .inr (.inr (.inr hb));exact .inl rfl;rcases hb with hb|hb|hb|hb;exact .inr (.inl (.inl hb));exact .inr (.inl (.inr (.inl hb)));by_cases hs:false=s;subst hs;have hb:F' b:=by have l:h0 m.F false F' false b:=hb;rwa[gf]at l
 exact .inl (.inl hb);have hb:m.F false b:=by have l:h0 m.F s F' false b:=hb;rwa[gY hs]at l
 exact zM0;by_cases hs:true=s;subst hs;have hb:F' b:=by have l:h0 m.F true F' true b:=hb;rwa[gf]at l
 exact .inl (.inl hb);have hb:m.F true b:=by have l:h0 m.F s F' true b:=hb;rwa[gY hs]at l
 exact zM1
end
end
section
variable{p u w' w1:World}{c g r wd:Nat}{m2:kP}{v':da}{F':Nat->Prop}{a':ta}{A C xW:Option Addr}{h:Int}{xs ys zs:List Int}{ss:List Sp}
section
variable{w:World}{B k n o:Nat}{m m':kP}{v:da}{T:Bool->Int->Option (List Int)}{s:Bool}{t:Tb}{b:gb}{x y:Value}
theorem dX.at(h:dX w A n ss)[l:aM w w']:dX w' A n ss:=⟨h.rd.below l.st,h.len⟩
def K8[aM p w](sh:Z (dX p xW n ss))(h:Z (MS w p.1.size g r m v tb))(cA:Z (cM v tb T))(hT:Z (T s (j:Int)=none))(hs:Z (m.cs[oS s+3]?=some (.slice xW n c)))(hj:Z ((aX ss)[j]?=some zs))(hr:Z (aH zs=true))(P:Z (bG zs=(wd:Int)))
  (h1:1<=wd) (h2:wd<=65536) (hl:v.lv+wd<=v.cap) (Q:v.nx<=1000000000000) (R:v.mv<=1000000000000) (G:(tb s).length<=200):
  () 150 #[.pointer (some ⟨g,oS s,none⟩),j] w (λe w'=>e=.returned an/\∃m' v' I,Z (MS w' p.1.size g r m' v' I)/\Z (cM v' I (e0 T s (j:Int) (some (List.replicate wd 0))))/\Z (vm v wd v')/\Z (v'.mv<=v.mv+1)/\Z (d6 w w' g r m m')):=by
 have CC:=@cJ;obtain⟨o,J⟩:=lh (oS s);have HO:=U J;have E:=h.o.t s;have S:dX w xW n ss:=sh.o.at;have V:j<n:=by rw[S.len,<-cR];exact(bj.1 hj).1
 obtain⟨b0,q0,A1,m1,c1,K,rfl,ob,v0,s1,l1,e1⟩:=S.get V;obtain rfl:K=zs:=cU (e1.o.symm.trans hj);have c2:Cl w g (o+2) (.pointer r):=⟨(E.ak.cell _).trans (by rw[<-J];exact h.o.ca s)⟩;have c3:Cl w g (o+3) (.slice (some ⟨b0,q0,none⟩) n c):=⟨(E.ak.cell _).trans (by rwa[<-J])⟩;have cz:Cl w b0 (q0+j) (A1,m1,c1):=⟨v0⟩;have X:m1<=1000000:=by have:=cv hr;rw[s1.len];omega
 have HJ0:Z (cB K=0):=U (by rw[cB,ah hr.o]);have i1:(j:Int)<(n:Int):=by omega
 rw[J];clear J E S v0;go_in;go_upto_region 4 with(go_at_call 73;refine mv (h5 X P HJ0) λu1 _=>?_);go_upto_region 7 with(go_at_call 201;refine(Wd (p:=p) (h.o.ar.at (w':=u1)) cA.o.ar h1 h2 hl Q R).mono ?_;rintro e u2 ⟨rfl,a2,v2,XH,L,M,nB⟩;have D:=U ((h.o.at (w':=u1)).OQ XH nB);have t8:aj u2 p:=D.o.2.prev (h.o.at (w':=u1)))
 have mf:Z (kF u2 p.1.size g o m.cs (m.F s) (tb s)):=U (by rw[<-HO.o];exact D.o.1.t s);have HN2:Z (iL (tb s) (j:Int)=false):=U (by
  rw[GQ];intro hx;obtain⟨xs,N⟩:=cA.o.has.1 hx;rw[hT.o]at N;cases N)
 have HPU:Z (p.1.size<=u2.1.size):=t8.st.size;go_wp2_with (go_at_call 202;refine(aaX mf HN2 G HPU).mono ?_;rintro e u3 ⟨rfl,x9,y9,F9,l,O⟩;have HT9:=U l;have Uk:=U O;clear l O);go_ret;have l:=HT9.o;rw[<-HO.o]at l;obtain⟨q1,q2⟩:=D.o.1.table s l Uk;exact⟨rfl,_,_,_,U q1,U (cA.o.qJ hT L),L,M,U (((d6.later g r m).trans D.o.2).trans q2)⟩
def Rb[aM p w](h:Z (MS w p.1.size g r m v tb))(cA:Z (cM v tb T))(hT:Z (T s id=some ys))[sx:Sl w C k xs](hl:Z (xs.length=ys.length)):
  () 151 #[.pointer (some ⟨g,oS s,none⟩),id,.agg #[(A,n,c),(C,k,d)]] w (λe w'=>e=.returned an/\∃m' v',Z (MS w' p.1.size g r m' v' tb)/\Z (cM v' tb (e0 T s id (some xs)))/\Z (v'.lv=v.lv/\v'.pe=v.pe/\v'.cap=v.cap/\v'.nx=v.nx/\v'.mv=v.mv)/\Z (d6 w w' g r m m')):=by
 have CC:=@cJ;obtain⟨o,O⟩:=lh (oS s);have l:=h.o.t s;obtain⟨z,hz,b,hb,rfl,G⟩:=cA.o.handle hT;obtain⟨i,hi⟩:=fZ hb;have HZ:=U hz;have Q:=U hi;have R:=U hb;have I:=U cA.o.ar;have J:=cA.o.ar.lay.bd b hb;have L:Z (xs.length=b.wd):=U (by rw[hl.o,<-G];exact ju J.2);have S:Z (k=b.wd):=U (by rwa[sx.len]);have V:=U h.o.ar;have X:Z (¬m.a.F r g):=h.o.gA;have HTB:Z (kF w p.1.size g o m.cs (m.F s) (tb s)):=U (by rwa[<-O]);have HGW:Z (g<w):=l.ak.lt;have c2:Cl w g (o+2) (.pointer r):=⟨(l.ak.cell _).trans (by rw[<-O];exact h.o.ca s)⟩;rw[O];clear O l hz hb hi G J;go_in;go_upto_region 1 with fail;refine mJ (λu0 Bd k0=>?_);have cb1:Cl u0 w.1.size 1 (C,k,d):=⟨k0.ak.cell 1⟩;go_upto_region 4 with(go_at_call 203;refine mv (Qp (HTB.o.at (w':=u0)) HZ) λu1 _=>?_);refine aU p (λw9=>Cl w9 g (o+2) (.pointer r)/\Cl w9 w.1.size 1 (C,k,d)) ap ⟨am,am⟩ (λE _=>?_);refine bp 0 ?_;refine bp 1 ?_;refine bp 2 ?_;refine bp 3 ?_;refine bp 4 ?_;refine bp 5 ?_;refine bp 6 ?_;refine aJ 7 λK hK=>?_;go_simp;refine(aa2 (p:=p) (V.o.at (w':=E)) I Q S).mono ?_;rintro e9 P ⟨rfl,M,D⟩;dsimp only;have HMP:=U M;have N:Z (Kf (m.a.F r) (m.a.F r) w P):=U ((Kf.later _ (w:=w)).trans D);have hbx:w.1.size<E.1.size:=cY (Cl.eq (w:=E) (g:=w.1.size) (i:=1));have vX:g<E.1.size:=bN HGW.o ai;have p9:aj P p:=N.o.prev λb hb=>(h.o.ar.lt b hb).1;have cc1:Cl P g (o+2) (.pointer r):=⟨(d4 (D.keep g vX X)).trans (Cl.eq (w:=E))⟩;have cc2:Cl P w.1.size 1 (C,k,d):=⟨(d4 (D.keep w.1.size hbx λhx=>absurd (h.o.ar.lt _ hx).2 (pJ _))).trans (Cl.eq (w:=E))⟩;refine aE hK ?_ ⟨p9,cc1,cc2⟩;clear hK K M D;refine bp 8 ?_;refine a8 ?_;go_wp2_with fail;go_ret;obtain⟨q1,q2⟩:=h.o.OQ HMP N;exact⟨rfl,_,_,U q1,U (cA.o.put HZ (Jk.of I R L)),U ⟨rfl,rfl,rfl,rfl,rfl⟩,U q2⟩
def Lc[aM p w](h:Z (MS w p.1.size g r m v tb))(cA:Z (cM v tb T))(hT:Z (T s id=some ys)):
  () 98 #[.pointer (some ⟨g,oS s,none⟩),id] w (λe w'=>e=.returned an/\∃m' v' G,Z (MS w' p.1.size g r m' v' G)/\Z (cM v' G (e0 T s id none))/\Z (v'.lv+ys.length=v.lv/\v'.pe=v.pe/\v'.cap=v.cap/\v'.nx=v.nx/\v'.mv=v.mv)/\Z (d6 w w' g r m m')):=by
 have CC:=@cJ;obtain⟨o,P⟩:=lh (oS s);have V:=U P;obtain⟨z,X,b,hb,rfl,I⟩:=cA.o.handle hT;obtain⟨i,hi⟩:=fZ hb;have HZ:=U X;have J:=U hi;have K:=U cA.o.ar;have L:=cA.o.ar.lay.bd b hb;have Q:Z (b.wd=ys.length):=U (by rw[<-I];exact(ju L.2).symm);have R:Z (kF w p.1.size g o m.cs (m.F s) (tb s)):=U (by rw[<-P];exact h.o.t s);rw[P];clear P X hb hi I L;go_in;go_upto_region 4 with(go_at_call 152;refine(aaW R HZ).mono ?_;rintro e S ⟨rfl,x9,y9,F9,E,M⟩;rw[<-V.o]at E;have l:=U (h.o.table s E M);have t7:aj S p:=l.o.2.prev h;have c2:Cl S g (o+2) (.pointer r):=⟨((l.o.1.t s).ak.cell _).trans (by rw[<-V.o];exact l.o.1.ca s)⟩;have og:Old g S:=⟨(l.o.1.t s).ak.lt⟩;clear E M);go_wp2_with (go_at_call 153;refine(V1 (p:=p) l.o.1.ar K J).mono ?_;rintro e u2 ⟨rfl,N,O⟩;have D:=U (l.o.1.OQ N O);clear N O);go_ret;have hf:=AY.of K J;refine⟨rfl,_,_,_,U D.o.1,U (cA.o.free HZ hf),U ⟨by rw[<-Q.o];exact hf.lv,rfl,rfl,rfl,rfl⟩,U (l.o.2.trans D.o.2)⟩
def C2[aM p w](sh:Z (dX p xW n ss))(h:Z (MS w p.1.size g r m v tb))(cA:Z (cM v tb T))(hT:Z (T s (j:Int)=some xs))(hs:Z (m.cs[oS s+3]?=some (.slice xW n c)))(hj:Z ((aX ss)[j]?=some zs))(hr:Z (aw zs xs=true)):
  () 154 #[.pointer (some ⟨g,oS s,none⟩),j] w (dM w zs xs 0):=by
 have CC:=@cJ;have CB:=@az;have FB:=@aP;obtain⟨o,L⟩:=lh (oS s);have D:=h.o.t s;obtain⟨z,hz,b,hb,rfl,E⟩:=cA.o.handle hT;obtain⟨i,hi⟩:=fZ hb;have HZ:=U hz;have M:=U hi;have N:=U cA.o.ar;have O:=U E;have P:=cA.o.ar.lay.bd b hb;have G:aH zs=true/\(xs.length:Int)=aB zs:=(aS zs xs).1 hr;obtain⟨n9,z1,z2,z3⟩:=cG G.1;have Q:b.wd<=65536:=by (have h9:xs.length=b.wd:=by rw[<-E];exact ju P.2);omega
 have R:dX w xW n ss:=sh.o.at;have S:j<n:=by rw[R.len,<-cR];exact(bj.1 hj).1
 obtain⟨b0,q0,A1,m1,c1,l,rfl,ob,v0,s1,l1,e1⟩:=R.get S;obtain rfl:l=zs:=cU (e1.o.symm.trans hj);have c2:Cl w g (o+2) (.pointer r):=⟨(D.ak.cell _).trans (by rw[<-L];exact h.o.ca s)⟩;have c3:Cl w g (o+3) (.slice (some ⟨b0,q0,none⟩) n c):=⟨(D.ak.cell _).trans (by rwa[<-L])⟩;have cz:Cl w b0 (q0+j) (A1,m1,c1):=⟨v0⟩;have V:m1<=1000000:=by have:=cv G.1;rw[s1.len];omega
 have i1:(j:Int)<(n:Int):=by omega
 have X:Z (kF w p.1.size g o m.cs (m.F s) (tb s)):=U (by rwa[<-L]);rw[L];clear L D R v0 hz hb hi E P G z1 z2 z3;go_in;go_upto_region 1 with fail;refine mJ (λu0 Bd k0=>?_);go_upto_region 4 with(go_at_call 203;refine mv (Qp (X.o.at (w':=u0)) HZ) λu1 _=>?_);go_upto_region 7 with(go_at_call 209;refine(aa1 (h.o.ar.at (w':=u1)) N M Q).mono ?_;rintro e u2 ⟨A9,c9,rfl,o9,_⟩;rw[O.o]at o9;obtain⟨sl9,-⟩:Sl u2 A9 b.wd xs/\True:=⟨⟨o9.rd,by rw[<-O.o];exact(ju (N.o.lay.bd b (aK M)).2).symm⟩,bq⟩;clear o9);go_wp2_with (go_at_call 25;refine(sM V Y hr).mono ?_;rintro e u ⟨I,J,K,d',rfl,sA,sX,lA,lX,fA,fX,_⟩);have kR:Bx u (w.1.size) 28 #[(),()]:=am;have k3:=kR.ak.bP (.slice I l J) (.slice K xs d');have B3:=bA (aO w u) (p:=w.1.size) Y (.slice I l J) (.slice K xs d');have oQ:=sA.bH fA (Bx.ak (g:=w.1.size)).lt (.slice I l J) (.slice K xs d');have mg:=sX.bH fX (Bx.ak (g:=w.1.size)).lt (.slice I l J) (.slice K xs d');obtain⟨r0,r1⟩:=bM k3;exact aZ (v:=.tuple #[.agg #[.slice I l J,.slice K xs d'],an]) (by simp[results,results154,go_sem,r0,r1]) rfl<|⟨I,J,K,d',rfl,oQ,mg,lA,lX,fA.less ai,fX.less ai,⟨B3⟩⟩
end
end
