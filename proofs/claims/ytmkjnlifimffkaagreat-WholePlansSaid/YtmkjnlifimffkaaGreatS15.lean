/- Lemmas. -/
import Derived.OrdersIn
import Derived.Test.YtmkjnlifimffkaaGreatS11
namespace Go.Proofs.YtmkjnlifimffkaaGreat
open Go.RowKit Tryz
set_option linter.all false
set_option maxRecDepth 100000
set_option maxHeartbeats 0
variable{Γ:Prop}
attribute[local irreducible]Calls
variable{S z:Int}{V ws xs:List Int}{w:World}{A B D:Option Addr}{c d e k m n:Nat}
def ab2(f:CF)(b xs V:au):Prop:=
 (xs=[(f.C:Int),(f.W:Int)]/\b=[(f.O:Int),(f.C:Int),(f.L:Int)]/\V=[(f.O:Int),(f.N:Int)]/\f.K=1/\f.H=1/\f.M=1)\/
  (xs=[(f.C:Int),(f.H:Int),(f.W:Int)]/\b=[(f.O:Int),(f.C:Int),(f.K:Int),(f.L:Int)]/\V=[(f.O:Int),(f.M:Int),(f.N:Int)])
structure nz(f:CF)(ws xs V:List Int)(S:Int):Prop where
 ok:zD f
 is:ab2 f ws xs V
 s:S=(f.S:Int)
 w:ax ws=((f.O*(f.C*(f.K*f.L)):Nat):Int)
 x:ax xs=((f.C*(f.H*f.W):Nat):Int)
 v:ax V=((f.O*(f.M*f.N):Nat):Int)
 vr:aA V=true
 FX:f.K<=1024/\f.L<=1024/\f.H<=1024/\f.W<=1024
 adK:kT (f.H:Int) (f.K:Int) (if ws.length=3 then 1 else f.S:Int)=(f.M:Int)
 adL:kT (f.W:Int) (f.L:Int) (f.S:Int)=(f.N:Int)
def g3(h:1<=z/\z<=1024):∃n:Nat,z=(n:Int)/\1<=n/\n<=1024:=⟨z.toNat,om,om,om⟩
def qN(h:oh V xs S=0):∃f,nz f V xs (qj V xs S) S:=by
 have hV:qj V xs S=su V xs S:=by rw[qj,ah h]
 unfold oh at h;split at h
 .rename_i hp;split at h
  .rename_i G;split at h;rename_i hr;simp only[qF,bK,bZ]at hp;obtain⟨⟨⟨⟨⟨h1,h2⟩,h3⟩,h4⟩,X⟩,I⟩:=hp;obtain⟨-,-,Cc,wpr⟩:=(a2 V).1 h1;obtain⟨-,-,r,xpr⟩:=(a2 xs).1 h2;obtain⟨-,-,vin,y⟩:=(a2 _).1 hr;rw[qG,dz]at G;by_cases hx:xs.length=2;obtain⟨x0,x1,rfl⟩:∃x0 x1,xs=[x0,x1]:=by
    match xs,hx with
    |[x0,x1],_=>exact⟨x0,x1,rfl⟩
   obtain⟨b,j,l,rfl⟩:∃b j l,V=[b,j,l]:=by
    match V,X with
    |[b,j,l],_=>exact⟨b,j,l,rfl⟩
   simp at I;subst I;obtain⟨O,rfl,o1,o2⟩:=g3 (b0 Cc (z:=b) aD);obtain⟨C,rfl,c1,c2⟩:=g3 (b0 Cc (z:=j) aD);obtain⟨L,rfl,l1,J⟩:=g3 (b0 Cc (z:=l) aD);obtain⟨W,rfl,v1,P⟩:=g3 (b0 r (z:=x1) aD);(have B:f7 (W:Int) (L:Int) S=true:=by have:=G 0 (by simp);simpa[oc]using this);have u:=B;simp only[f7,bK,bZ,pc]at u;obtain⟨D,rfl⟩:=bJ (show 0<=S by omega);obtain⟨N,e,n1,-,s1,-,s2,-,fit,-,-⟩:=rL B;(have m:su [(O:Int),C,L] [(C:Int),W] D=[(O:Int),N]:=by simp[su,jW,e]);rw[hV,m];rw[m]at hr y;(have pw:ax [(O:Int),(C:Int),(L:Int)]=((O*(C*(1*L)):Nat):Int):=by simp[ax,hI]);(have Q:ax [(C:Int),(W:Int)]=((C*(1*W):Nat):Int):=by simp[ax]);have R:ax [(O:Int),(N:Int)]=((O*(1*N):Nat):Int):=by simp[ax]
   refine⟨⟨O,C,1,L,1,W,1,N,D⟩,⟨⟨λi hi=>by
    simp only at hi⊢;obtain rfl:i=0:=om;simp,fit,?_,?_,?_,o1,c1,al _,l1,al _,n1,s2⟩,.inl ⟨rfl,rfl,rfl,rfl,rfl,rfl⟩,rfl,?_,?_,?_,hr,⟨show 1<=1024 by omega,J,show 1<=1024 by omega,P⟩,by simp[kT,f7],e⟩⟩
   simp only;omega;simp only;omega;simp only;omega;exact pw;exact Q;exact R;have T:xs.length=3:=om;obtain⟨x0,x1,x2,rfl⟩:∃x0 x1 x2,xs=[x0,x1,x2]:=by
    match xs,T with
    |[x0,x1,x2],_=>exact⟨x0,x1,x2,rfl⟩
   obtain⟨b,j,l,w3,rfl⟩:∃b j l w3,V=[b,j,l,w3]:=by
    match V,X with
    |[b,j,l,w3],_=>exact⟨b,j,l,w3,rfl⟩
   simp at I;subst I;obtain⟨O,rfl,o1,o2⟩:=g3 (b0 Cc (z:=b) aD);obtain⟨C,rfl,c1,c2⟩:=g3 (b0 Cc (z:=j) aD);obtain⟨K,rfl,k1,k2⟩:=g3 (b0 Cc (z:=l) aD);obtain⟨L,rfl,l1,J⟩:=g3 (b0 Cc (z:=w3) aD);obtain⟨H,rfl,h1',U⟩:=g3 (b0 r (z:=x1) aD);obtain⟨W,rfl,v1,P⟩:=g3 (b0 r (z:=x2) aD);(have hh:f7 (H:Int) (K:Int) S=true:=by have:=G 0 (by simp);simpa[oc]using this);(have B:f7 (W:Int) (L:Int) S=true:=by have:=G 1 (by simp);simpa[oc]using this);have u:=B;simp only[f7,bK,bZ,pc]at u;obtain⟨D,rfl⟩:=bJ (show 0<=S by omega);obtain⟨M,Y,m1,-,-,-,-,-,E,-,-⟩:=rL hh;obtain⟨N,Z,n1,-,s1,-,s2,-,F,-,-⟩:=rL B;(have m:su [(O:Int),C,K,L] [(C:Int),H,W] D=[(O:Int),M,N]:=by simp[su,jW,Y,Z,g5]);rw[hV,m];rw[m]at hr y;(have pw:ax [(O:Int),(C:Int),(K:Int),(L:Int)]=((O*(C*(K*L)):Nat):Int):=by simp[ax,hI]);(have Q:ax [(C:Int),(H:Int),(W:Int)]=((C*(H*W):Nat):Int):=by simp[ax,hI]);(have R:ax [(O:Int),(M:Int),(N:Int)]=((O*(M*N):Nat):Int):=by simp[ax,hI]);refine⟨⟨O,C,K,L,H,W,M,N,D⟩,⟨⟨E,F,?_,?_,?_,o1,c1,k1,l1,m1,n1,s2⟩,.inr ⟨rfl,rfl,rfl⟩,rfl,?_,?_,?_,hr,⟨k2,J,U,P⟩,by simpa using Y,Z⟩⟩;simp only;omega;simp only;omega;simp only;omega;exact pw;exact Q;exact R;omega
  omega
 omega
def Px{f:CF}[a:Sl w A n ws][b:Sl w B m xs][g:Sl w D k V][lc:Le n c][ld:Le m d][le:Le k e](z:Hx (nz f ws xs V S)):() 220 #[(A,n,c),(B,m,d),(D,k,e),S] w (aJ w (uq f)):=by
 obtain⟨O,C,K,L,H,W,M,N,Q⟩:=f;obtain⟨E,j,F,l⟩:=z.o.FX;have hs:=z.o.s;have G:=lc.le;have hd:=ld.le;have I:=le.le;have r:=a.len;have u:=b.len;have y:=g.len;rcases z.o.is with⟨rfl,rfl,rfl,J,P,hm⟩|⟨rfl,rfl,rfl⟩;simp only at J P hm hs E j F l;subst J P hm hs;simp at r u y;subst r u y;exact HP G hd I j l;simp only at hs E j F l;subst hs;simp at r u y;subst r u y;exact FD G hd I E j F l
def sx[Sl w A n ws][Sl w B m xs][Le n c][Le m d](j:n<=1000000)(hm:m<=1000000){f:CF}(hE:Hx (oh ws xs S=0))(hV:Hx (qj ws xs S=V))(b:Hx (nz f ws xs V S)):
  () 172 #[(A,n,c),(B,m,d),S] w (aJ w (.func (.func 221) #[uq f] #[])):=by
 go_in;go_wp2_with (first|(go_at_call 126;refine(rO om om hE hV).mono ?_;rintro e u ⟨l,r,rfl,y,z,C,_⟩)|(go_at_call 220;refine(Px b).mono ?_;rintro e u ⟨rfl,_⟩));go_ret;exact bB
section
variable{ops:Array Oper}{i l:Nat}{P:Program}{Q:Exit->Act->World->Prop}{a:Act}{K:Act->World->Prop}
def mJ(b:Array Oper):Bool:=b.all λo=>match o.op with
 |.defer _=>false
 |_=>true
def Ic(h:mJ ops=true){o:Oper}(hi:ops[i]?=some o):∀c,o.op≠.defer c:=by
 intro c b;unfold mJ at h;rw[Array.all_eq_true]at h;obtain⟨e,rfl⟩:=dP.1 hi;have:=h i e;rw[b]at this;cases this
def Ie{o:Oper}(hd:∀c,o.op≠.defer c)(h:o.wp P a w K Q):o.wpIn (Fence.wide.inRound l) n P a w K Q:=by
 refine⟨λ_ _=>bX,?_⟩;unfold Oper.wp at h;rw[show Oper.semAt (Fence.wide.inRound l).round a.eval o=execOp a.eval o from Oper.semAt_some l _ o hd];generalize(execOp a.eval o).run P w=r at*;cases r with
 |ok x w'=>cases x<;>simp only[Oper.upon]at h<;>simp only[Oper.uponIn];(case value=>exact h);(case skip=>exact h);(case defer=>exact h);(case enter=>exact⟨(λh=>by simp[Fence.wide]at h),CallsIn.inRound l (callsIn_wide.2 h)⟩);case row=>exact⟨(λh=>by simp[Fence.wide]at h),λc cs _=>let⟨v,w',r,s⟩:=h c cs;⟨v,w',r,stepsIn_wide.2 s⟩⟩
 |halt x w'=>cases x<;>simp only[Oper.upon]at h<;>simp only[Oper.uponIn]<;>exact h
def zU(hd:mJ ops=true)(hq:¬LetsOut Q){j:Act->World->Prop}(hK:∀a w,K a w->j a w)(h:wpOp P ops Q i K a w):wpOpIn (Fence.wide.inRound l) n P ops Q i j a w:=by
 unfold wpOp at h;unfold wpOpIn;split;rename_i e;rw[e]at h;exact hK _ _ h;rename_i o e;rw[e]at h;simp only at h;split;rename_i b;rw[ah b]at h;rcases h with h|⟨-,h⟩;exact Oper.wpIn_mono hK (Ie (Ic hd e) h);exact absurd h hq;rename_i b;rw[ag b]at h;exact⟨λ_ _=>bX,hK _ _ h⟩
def pI{b:Region.Mode}(hd:mJ ops=true)(hq:¬LetsOut Q):∀(fuel:Nat) (listed:Array Bool) (a:Act) (w:aa),wpAny P b ops Q fuel listed a w->wpAnyIn (Fence.wide.inRound l) n P b ops Q fuel listed a w
 |0,_,_,_,h=>h
 |fuel+1,_,_,_,h=>⟨h.1,λi hi=>zU hd hq (λa w=>pI hd hq fuel _ a w) (h.2 i hi)⟩
def xy{id:Nat}(X:aa)(hm:P.follows .mixedOrders=true)(hd:mJ ops=true)(hq:¬LetsOut Q)
  (h:∀u,aj u w->wpAnyH P .any ops Q (λw'=>aj w' X) ops.size (Array.replicate ops.size false) a u):(Code.region id ops true).wpIn (Fence.wide.inRound l) n P Q a w:=
 wpIn_region_any hm (pI hd hq _ _ _ _ (wpAny_of_held _ _ _ _ (h _ (aj.drew w))))
def vJ{id:Nat}(hm:P.follows .mixedOrders=true)(hd:mJ ops=true)(hq:¬LetsOut Q)
  (h:∀u,aj u w->wpAnyH P .any ops Q (λw'=>aj w' w) ops.size (Array.replicate ops.size false) a u):(Code.region id ops true).wpIn (Fence.wide.inRound l) n P Q a w:=xy w hm hd hq h
def ky{id:Nat}(X:aa)(R:World->Prop)(hm:P.follows .mixedOrders=true)(hd:mJ ops=true)(hq:¬LetsOut Q)
  (h:∀u,aj u w->wpAnyH P .any ops Q (λw'=>aj w' X/\R w') ops.size (Array.replicate ops.size false) a u):(Code.region id ops true).wpIn (Fence.wide.inRound l) n P Q a w:=
 wpIn_region_any hm (pI hd hq _ _ _ _ (wpAny_of_held _ _ _ _ (h _ (aj.drew w))))
end
def yy(b xs L:au)(x:gY):List Int:=L.set x.1 (bQ (L.getD x.1 0) (bN (b.getD x.2.1 0) (xs.getD x.2.2 0)))
def fU(e xs:au)(N:Nat)(b:List gY):List Int:=b.foldl (yy e xs) (List.replicate N 0)
def yz(gs xs L:au)(x:gY):List Int:=L.set x.2.1 (bQ (L.getD x.2.1 0) (bN (gs.getD x.1 0) (xs.getD x.2.2 0)))
def eS(gs xs:au)(N:Nat)(b:List gY):List Int:=b.foldl (yz gs xs) (List.replicate N 0)
def yA(gs b L:au)(x:gY):List Int:=L.set x.2.2 (bQ (L.getD x.2.2 0) (bN (gs.getD x.1 0) (b.getD x.2.1 0)))
def eT(gs e:au)(N:Nat)(b:List gY):List Int:=b.foldl (yA gs e) (List.replicate N 0)
variable{us vs L:List Int}{N:Nat}{pre:List gY}{x:gY}
def FY:fU us vs N (pre++[x])=yy us vs (fU us vs N pre) x:=by simp[fU]
def FZ:eS us vs N (pre++[x])=yz us vs (eS us vs N pre) x:=by simp[eS]
def F0:eT us vs N (pre++[x])=yA us vs (eT us vs N pre) x:=by simp[eT]
def rR(f:List Int->gY->List Int)(h:∀L x,(f L x).length=L.length):∀(pre:List gY) (L:au),(pre.foldl f L).length=L.length
 |[],_=>rfl
 |x::pre,L=>by rw[jD,rR f h pre,h]
def uy(f:List Int->gY->List Int)(h:∀L x,(∀z∈L,bb z)->∀z∈f L x,bb z):∀(pre:List gY) (L:au),(∀z∈L,bb z)->∀z∈pre.foldl f L,bb z
 |[],_,hL=>hL
 |x::pre,L,hL=>by rw[jD];exact uy f h pre _ (h L x hL)
def F1{L:au}{v:Int}(hL:∀z∈L,bb z)(hv:bb v):∀z∈L.set k v,bb z:=λz b=>by
 rcases hA b with h|rfl;exact hL z h;exact hv
def vK:∀z∈List.replicate N (0:Int),bb z:=λz b=>by
 obtain⟨-,rfl⟩:=List.mem_replicate.1 b;unfold bb;omega
def nA:(fU us vs N pre).length=N:=by rw[fU,rR _ (λL x=>by simp[yy])];simp
def nB:(eS us vs N pre).length=N:=by rw[eS,rR _ (λL x=>by simp[yz])];simp
def nC:(eT us vs N pre).length=N:=by rw[eT,rR _ (λL x=>by simp[yA])];simp
def zV:∀z∈fU us vs N pre,bb z:=uy _ (λ_ _ h=>F1 h (hW _ _)) _ _ vK
def s4:∀z∈eS us vs N pre,bb z:=uy _ (λ_ _ h=>F1 h (hW _ _)) _ _ vK
def s5:∀z∈eT us vs N pre,bb z:=uy _ (λ_ _ h=>F1 h (hW _ _)) _ _ vK
variable{C:Option Addr}{R c' cx d' m':Nat}{xw xx zw zx:List Int}
section
open Go.RowKit Go.Shelf
attribute [local go_sem] Oper.semAt_some
def GoI(w:aa)(g e j:Nat)(zw xw zx xx V:au)(A B C D:bF)(c d c' d' N:Nat)(b:List gY)(W:aa):Prop:=
 Own W e 65 (fU xw xx N b)/\Own W g 3 V/\az W j 28 #[.slice g V V.length,(e,N,N)]/\
  az W w.1.size 28 #[.slice A zw c,.slice B xw d]/\az W (w.1.size+1) 28 #[.slice C zx c',.slice D xx d']/\az W (w.1.size+1+1) 28 #[(),()]/\Below w.1.size w W
def xP0(h:Γ:=by rintro⟨_,_,h⟩;exact h):=h
def Lk[a:Sl w A n zw][b:Sl w B m xw][a':Sl w C R zx][b':Sl w D m' xx][cv xw][cv xx][Le n c][Le R cx](hn:n<=1000000)(FR:R<=1000000){X:au}{f:CF}
  (h1:ap zw xw=true) (h2:ap zx xx=true) (hE:Hx (oh zw zx S=0)) (hV:Hx (qj zw zx S=V)) (J:Hx (nz f zw zx V S)) (hX:Hx (X=fU xw xx (f.O*(f.M*f.N)) f.all)):
  () 160 #[.agg #[.slice A n c,(B,m,d)],.agg #[(C,R,cx),(D,m',d')],S] w (dK w V X 0):=by
 obtain⟨CB,CP,FB⟩:=ia;have Tm:=J.o.vr;obtain⟨N,hN⟩:=lh (f.O*(f.M*f.N));have Ph:Hx (ax V=(N:Int)):=ae (by rw[J.o.v,hN]);have hV4:V.length<=1000000:=by have:=((a2 V).1 Tm).2.1;omega
 have lZ:Hx (zD f):=J.o.ok;have Hs:xw.length=f.O*(f.C*(f.K*f.L)):=by have h:=((aN _ _).1 h1).2;rw[J.o.w]at h;omega
 have jQ:xx.length=f.C*(f.H*f.W):=by have h:=((aN _ _).1 h2).2;rw[J.o.x]at h;omega
 have HB:Hx (∀x∈f.all,x.1<N/\x.2.1<xw.length/\x.2.2<xx.length):=λx hx=>by rw[<-hN,Hs,jQ];exact No J.o.ok hx
 have hw6:xw.length<=65536:=by rw[Hs];exact J.o.ok.ow
 have zq:xx.length<=65536:=by rw[jQ];exact J.o.ok.ox
 rw[hN]at hX;obtain⟨a,rfl⟩:=a;have a:Sl w A zw zw:=⟨a,rfl⟩;obtain⟨b,rfl⟩:=b;have b:Sl w B xw xw:=⟨b,rfl⟩;obtain⟨a',rfl⟩:=a';have a':Sl w C zx zx:=⟨a',rfl⟩;obtain⟨b',rfl⟩:=b';have b':Sl w D xx xx:=⟨b',rfl⟩;have Sq:0<xw.length:=by have:=(gO h1).2.1;omega
 have Cr:0<xx.length:=by have:=(gO h2).2.1;omega
 obtain⟨bb,ob,_,rfl,XD,-,-⟩:=b.get (k:=0) Sq;obtain⟨bd,od,_,rfl,obd,-,-⟩:=b'.get (k:=0) Cr;clear hN Hs jQ;refine(callsIn_wide (n:=3)).1<|callsIn_of_wp_marks func160 rfl bX ?_;simp only[ntmps160,ij,dj,iW,Nat.reduceAdd,Nat.reduceSub,Array.replicate_succ,Array.replicate_zero,List.push_toArray,List.append_toArray,jE,tP];gi_wp2_with (first|(refine⟨bX,?_⟩;gi_at_call 69;refine(callsIn_wide.2 (bD om)).mono ?_;rintro e u ⟨rfl,_⟩)|(refine⟨bX,?_⟩;gi_at_call 126;refine(callsIn_wide.2 (rO om om hE hV)).mono ?_;rintro e u ⟨A',c',rfl,sJ,lJ,fJ,_⟩));obtain⟨ua,rfl⟩:=lg u;gi_wp2_with (refine⟨bX,?_⟩;gi_at_call 62;refine(callsIn_wide.2 (Dd om Tm Ph)).mono ?_;rintro e u ⟨g,j,rfl,hg,zr,oS,oX,vD⟩);obtain⟨P,rfl⟩:=lg u;gi_wp2_with (refine⟨bX,?_⟩;gi_at_call 172;refine(callsIn_wide.2 (sx om om hE hV J)).mono ?_;rintro e u ⟨rfl,_⟩);obtain⟨Q,rfl⟩:=lg u;have xj:w<=g:=aL (ai (w:=w) (w':=ua)) hg;have G:w<=j:=aL (ai (w:=w) (w':=ua)) zr;have kO:Bx Q P.1.size 28 #[.slice g V V.length,.slice j N N]:=aq;have kW:Bx Q w.1.size 28 #[.slice A zw c,.slice (some ⟨bb,ob,none⟩) xw d]:=aq;have kX:Bx Q (w.1.size+1) 28 #[.slice C zx cx,.slice (some ⟨bd,od,none⟩) xx d']:=aq;have kR:Bx Q (w.1.size+1+1) 28 #[(),()]:=aq;have b2:=aP w Q;have I0:GoI w g j P.1.size zw xw zx xx V A (some ⟨bb,ob,none⟩) C (some ⟨bd,od,none⟩) c d cx d' N [] Q:=⟨oX.at,oS.at,kO.ak,kW.ak,kX.ak,kR.ak,b2⟩
 refine C9 (gf:=221) (fb:= #[uq f]) (lb:= #[]) (α:=gY) rfl (enters_of func221 ao rfl) (zE f lZ Q) (aV _ _) (λ_=>rfl) (GoI w g j P.1.size zw xw zx xx V A (some ⟨bb,ob,none⟩) C (some ⟨bd,od,none⟩) c d cx d' N) (λ_ _ _=>False)
  ?firm (λ_=>db.none_) I0 ?acts (λx W=>W.alloc (.cells #[.int .i64 x.1,.int .i64 x.2.1,.int .i64 x.2.2] 267)) (λx n W=>az W n 267 #[.int .i64 x.1,.int .i64 x.2.1,.int .i64 x.2.2]) (λ_ _=>eR _ _) (λ_ _=>az.new _ _ _)
  (λx n W l o o' h ho hc=>(db.ak (B:=0) (λ(_:Unit)=>n) 267 (λ_=>_)).iO () W l o o' h (aM _) ho hc) ?assign ?body ?done (λ_ _ _ _ _ _ h=>h.elim)
 case firm=>exact(db.own (λ_=>j) _ (fU xw xx N)).and ((db.own (λ_=>g) _ (λ_=>V)).and ((db.ak (λ_=>P.1.size) _ (λ_=>_)).and ((db.ak (λ_=>w.1.size) _ (λ_=>_)).and ((db.ak (λ_=>w.1.size+1) _ (λ_=>_)).and ((db.ak (λ_=>w.1.size+1+1) _ (λ_=>_)).and (db.below (al _) b2.size))))))
 case assign=>intro l x W K hK;simp only[ur];gi_wp2;exact hK
 case body=>
  rintro l T ⟨x1,x2,x3⟩ W0 W ⟨F,iS,U,Y,Z,r,bW⟩ ⟨post,hT⟩ zb Ov hA;dsimp only at hA⊢;obtain⟨ug,Cs,If⟩:=HB.o (x1,x2,x3) (by rw[hT];simp);simp only at ug Cs If;have pW:aj W w:=⟨bW⟩;have qO:Bx W P.1.size 28 #[.slice g V V.length,.slice j N N]:=⟨U⟩;have qW:Bx W w.1.size 28 #[.slice A zw c,.slice (some ⟨bb,ob,none⟩) xw d]:=⟨Y⟩;have qX:Bx W (w.1.size+1) 28 #[.slice C zx cx,.slice (some ⟨bd,od,none⟩) xx d']:=⟨Z⟩;have qA:Bx W W0.1.size 267 #[x1,x2,x3]:=⟨hA⟩;obtain⟨y,hy⟩:∃y,xw[x2]?=some y:=⟨_,a5 Cs⟩;obtain⟨z,hz⟩:∃z,xx[x3]?=some z:=⟨_,a5 If⟩;obtain⟨o,ho⟩:∃o,(fU xw xx N T)[x1]?=some o:=⟨_,a5 (by rw[nA];exact ug)⟩;have cy:=b.rd.all hy;have cz:=b'.rd.all hz;have iy:I6 y:=cv.at hy;have iz:I6 z:=cv.at hz;have io:I6 o:=⟨zV o (aC ho)⟩;have hco:=F.cell ho;have og:Old j W:=⟨F.lt⟩;have K9:Hx ((fU xw xx N T).set x1 (bQ o (bN y z))=fU xw xx N (T++[(x1,x2,x3)])):=ae (by
   rw[FY,yy];simp only;rw[aQ,ho,aQ,hy,aQ,hz];rfl)
  (have n6:j<Q+2:=by have:=oX.lt;have:=ai (w:=P) (w':=Q);omega);have n0:W0≠j:=om;(have n1:P≠j:=by have:=oX.lt;omega);have HO:=ae ho;clear hy hz;gi_wp2;refine vJ ao ao xP0 (λv1 _=>?_);refine qL [0,1,2,3,4,5,6,7,8,9,10,11] ?_;refine aK 12 λK hK=>?_;go_simp;refine(ip).mono ?_;rintro e v1 ⟨rfl,_⟩;dsimp only;refine aG hK ?_;refine ff 13 ?_;refine a9 ?_;gi_wp2;refine ky w (λw9=>Bx w9 P.1.size 28 #[.slice g V V.length,.slice j N N]/\Bx w9 W0.1.size 267 #[x1,x2,x3]) ao ao xP0 (λE _=>?_);refine bT 0 ?_;refine bT 1 ?_;refine bT 2 ?_;refine bT 3 ?_;refine bT 4 ?_;refine bT 5 ?_;refine bT 6 ?_;refine bT 7 ?_;refine bT 8 ?_;refine bT 10 ?_;refine aK 9 λK hK=>?_;go_simp;refine aG hK ?_ ⟨aR w _,⟨aq,aq⟩⟩;refine aK 11 λK hK=>?_;go_simp;refine(pi).mono ?_;rintro e E ⟨rfl,_⟩;dsimp only;refine aG hK ?_ ⟨aR w _,⟨aq,aq⟩⟩;refine bT 12 ?_;refine aK 13 λK hK=>?_;have sG:=((F).at (w':=E)).cell HO;have tY:=((F).at (w':=E)).frozen x1;go_simp;refine aG hK ?_ ⟨⟨(aP w E).setCell (p:=⟨j,x1,none⟩) G _⟩,⟨⟨(Bx.ak (w:=E)).aY n1 _⟩,⟨(Bx.ak (w:=E)).aY n0 _⟩⟩⟩;clear hK K sG tY;refine a9 ?_;gi_wp2
  have o2:=(F.at (w':=E)).av x1 (bQ o (bN y z));rw[K9.o]at o2;have ne1:g≠j:=iS.aH (cs:=ints (fU xw xx N T)) F am;have n2:=F.aH Y am;have n3:=F.aH Z am;have n4:=F.aH r am;exact⟨mE (kv (aP W E)) _ _,(dL.below (aP W E)).trans (dL.av (p:=⟨j,x1,none⟩) _ n6),
   o2,(iS.at (w':=E)).aY (p:=⟨j,x1,none⟩) ne1 _,(U.at (w':=E)).aY (p:=⟨j,x1,none⟩) n1 _,(Y.at (w':=E)).aY (p:=⟨j,x1,none⟩) (dO n2) _,(Z.at (w':=E)).aY (p:=⟨j,x1,none⟩) (dO n3) _,
   (r.at (w':=E)).aY (p:=⟨j,x1,none⟩) (dO n4) _,(aP w E).setCell (p:=⟨j,x1,none⟩) G _⟩
 case done=>rintro D xs W hD rfl ⟨F,iS,U,Y,Z,r,bW⟩ hK;have qO:Bx W P.1.size 28 #[.slice g V V.length,.slice j N N]:=⟨U⟩;have qR:Bx W (w.1.size+1+1) 28 #[(),()]:=⟨r⟩;have pW:aj W w:=⟨bW⟩;have HO:=ae F;clear F;gi_wp2;have I:=(KeepsOthers.setCell (W.setCell (w.1.size+1+1,0) (.slice g V V.length)) ⟨w.1.size+1+1,1,none⟩ (.slice j N N)).same D _ ((KeepsOthers.setCell W ⟨w.1.size+1+1,0,none⟩ (.slice g V V.length)).same D _ hK rfl) rfl;refine⟨aD,.inl ⟨_,_,rfl,run_takeDeferred I,?_⟩⟩;have l1:=iS.aH r am;have l2:=HO.o.aH r am;have k2:=az.bP r (.slice g V V.length) (.slice j N N);have o2:=iS.bA l1 (.slice g V V.length) (.slice j N N);have o3:=HO.o.bA l2 (.slice g V V.length) (.slice j N N);have b3:=br bW (p:=w.1.size+1+1) om (.slice g V V.length) (.slice j N N);have k4:=(db.ak (B:=0) (λ(_:Unit)=>w.1.size+1+1) 28 (λ_=>_)).iO () _ D _ (.deferred none) k2 (aM _) I rfl;have o4:=(db.own (B:=0) (λ(_:Unit)=>g) 3 (λ_=>V)).iO () _ D _ (.deferred none) o2 (aM _) I rfl;have o5:=(db.own (B:=0) (λ(_:Unit)=>j) 65 (λ_=>fU xw xx N f.all)).iO () _ D _ (.deferred none) o3 (aM _) I rfl;have b4:=(db.below (β:=Unit) (w:=w) (al _) b2.size).iO () _ D _ (.deferred none) b3 hD I rfl;have c0:=k4.cell 0;have c1:=k4.cell 1;generalize((W.setCell (w.1.size+1+1,0) (.slice g V V.length)).setCell (w.1.size+1+1,1) (.slice j N N)).putObj D (.deferred none)=W3 at*;refine⟨.tuple #[.agg #[.slice g V V.length,.slice j N N],an],by simp[results,results160,go_sem,c0,c1],?_⟩;exact⟨_,_,_,_,by rw[hX.o,nA],⟨o4.rd,rfl⟩,⟨by rw[hX.o];exact o5.rd,rfl⟩,⟨al _⟩,⟨by rw[hX.o,nA];exact al _⟩,⟨λad e=>by cases e;exact xj⟩,⟨λad e=>by cases e;exact G⟩,⟨b4⟩⟩
end
end Go.Proofs.YtmkjnlifimffkaaGreat
