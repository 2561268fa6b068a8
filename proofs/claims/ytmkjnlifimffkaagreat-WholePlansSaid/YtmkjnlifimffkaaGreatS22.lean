/- Lemmas. -/
import Derived.Test.YtmkjnlifimffkaaGreatS21
namespace Go.Proofs.YtmkjnlifimffkaaGreat
open Go.RowKit Tryz
set_option linter.all false
set_option maxRecDepth 100000
set_option maxHeartbeats 0
variable{Γ:Prop}
attribute[local irreducible]Calls
variable{w w':World}{A:Option Addr}{k n:Nat}{id z:Int}
def fC(b id:Int):Bool:=if b=4\/b=5 then id==0 else if b=1\/b=2\/b=3\/b=6 then decide (1<=id)&&decide (id<=512)else false
variable{p:Nat}{ps:List (Int×Int)}
def mR(h:z=1\/z=2\/z=3\/z=6):fC z id=(decide (1<=id)&&decide (id<=512)):=by
 unfold fC;rw[ag om,ah h]
def pR(h:z=4\/z=5):fC z id=(id==0):=by
 unfold fC;rw[ah h]
def xW1(h:Γ:=by rcases h.o with rfl|rfl|rfl|rfl;all_goals go_in;go_wp2_with fail;go_ret;exact⟨by rw[b.o];rfl,aF⟩):=h
def AJ(h:Hx (z=1\/z=2\/z=3\/z=6)):() 85 #[.agg #[z,id]] w (aJ w (.bool (fC z id))):=by
 have m:=@ay;have e:=ae (mR (id:=id) h);by_cases j:1<=id;by_cases l:id<=512;have b:Hx (fC z id=true):=ae (by rw[e.o,gC j,gC l];rfl);exact xW1;have b:Hx (fC z id=false):=ae (by rw[e.o,gC j,gD l];rfl);exact xW1;have b:Hx (fC z id=false):=ae (by rw[e.o,gD j];rfl);exact xW1
def AM(h:Hx (z=4\/z=5)):() 85 #[.agg #[z,id]] w (aJ w (.bool (fC z id))):=by
 have e:=@ay;have b:=ae (pR (id:=id) h);rcases h.o with rfl|rfl;all_goals go_in;go_wp2_with fail;go_ret;exact⟨by rw[b.o];rfl,aF⟩
def Gv(h:Hx (fC z id=false))(k1:(z==1)=false)(k2:(z==2)=false)(b:(z==3)=false)(e:(z==4)=false)(j:(z==5)=false)(k6:(z==6)=false):
  () 85 #[.agg #[z,id]] w (aJ w (.bool (fC z id))):=by
 have l:=@ay;go_in;go_wp2_with fail;go_ret;exact⟨by rw[h.o];rfl,aF⟩
def kB:() 85 #[.agg #[z,id]] w (aJ w (.bool (fC z id))):=by
 by_cases h:z=1\/z=2\/z=3\/z=6;exact AJ h;by_cases b:z=4\/z=5;exact AM b;have:∀j:Int,(j=1\/j=2\/j=3\/j=4\/j=5\/j=6)->(z==j)=false:=λj e=>by rw[beq_eq_false_iff_ne];omega
 exact Gv (ae (by unfold fC;rw[ag b,ag h])) (this 1 aD) (this 2 aD) (this 3 aD) (this 4 aD) (this 5 aD) (this 6 aD)
def Gw(ps:List (Int×Int)):Bool:=ps.all λx=>fC x.1 x.2
def Qm{f:Int×Int->Bool}{ps:List (Int×Int)}{x:Int×Int}(h:ps[k]?=some x)(b:f x=false):ps.all f=false:=by
 rw[rz];exact⟨x,aC h,by simp[b]⟩
def LS{f:Int×Int->Bool}{ps:List (Int×Int)}{x:Int×Int}(h:(ps.take k).all f=true)(b:ps[k]?=some x)(e:f x=true):(ps.take (k+1)).all f=true:=by
 rw[jC,yf,h,b];simp[e]
def Qn{f:Int×Int->Bool}{ps:List (Int×Int)}(h:(ps.take k).all f=true)(b:ps<=k):ps.all f=true:=by rwa[bY b]at h
def e7(ps:List (Int×Int)):Int:=if Gw ps then 0 else 10
def xW7(h:Γ:=by simp[intOf];omega):=h
def Qo[i:Is w A n ps](C:n<=65536):() 33 #[(A,n,p)] w (aJ w (e7 ps:Int)):=by
 obtain⟨D,E⟩:=kU;have z:Hx (n=ps):=i.len;go_in;go_wp2_with fail;go_loopw [10] (λi wr=>∃k:Nat,k<=n/\i=.int .i64 k/\Hx ((ps.take k).all (λx=>fC x.1 x.2)=true)/\aj wr w) (λi _=>n-(intOf i).toNat);exact⟨0,aM _,rfl,ae rfl,aF⟩;obtain⟨k,F,rfl,r,hp⟩:=hrel;by_cases j:k<n
 .obtain⟨G,o1,x,y,rfl,B,I,J,b⟩:=i.get j;rcases hx:fC x y with _|_
  .have l:Hx (e7 ps=10):=ae (by rw[e7,ag];rw[Gw,Qm b.o hx];simp);clear b;go_wp2_with (go_at_call 85;refine(kB).mono ?_;rintro e u ⟨rfl,_⟩);go_ret;exact⟨by rw[l.o];rfl,aF⟩
  have m:=ae (LS r b.o hx);clear b;go_wp2_with (go_at_call 85;refine(kB).mono ?_;rintro e u ⟨rfl,_⟩);go_roundw;exact⟨k+1,om,by go_num,m,aF⟩;exact xW7
 have l:Hx (e7 ps=0):=ae (by rw[e7,ah];exact Qn r (by rw[<-z.o];omega));go_wp2_with fail;go_ret;exact⟨by rw[l.o];rfl,aF⟩
variable{B:Option Addr}{c d j m:Nat}{E y:Int}
def sA(b:Int)(ps:List (Int×Int)):Nat:=ps.countP λx=>x.1==b
def gf(cost:au):List (Int×Int)->Option (List Int)
 |[]=>some []
 |x::t=>if x.1=1\/x.1=2 then(if gJ (cost.getD x.2.toNat (-1))then(gf cost t).map (cost.getD x.2.toNat (-1):: ·)else none)else gf cost t
def AN(cost:au)(ps:List (Int×Int)):Int:=if e7 ps=0 then(match gf cost ps with|none=>10|some l=>if uG l=0 then 0 else 12)else e7 ps
def uN(cost:au)(ps:List (Int×Int)):Int:=if e7 ps=0 then(match gf cost ps with|none=>0|some l=>if uG l=0 then wX l else 0)else 0
variable{cost:List Int}
def xW0(h:Γ:=by go_wp2_with fail;go_ret;exact bB):=h
def Qp[i:Is w A n ps](J:n<=65536)(hV:Hx (sA z ps=j)):() 39 #[(A,n,c),z] w (aJ w (j:Int)):=by
 obtain⟨K,L⟩:=kU;have F:Hx (n=ps):=i.len;go_in;go_wp2_with fail;go_loopw [5,10] (λs i wr=>∃k:Nat,k<=n/\i=.int .i64 k/\s=.int .i64 (sA z (ps.take k):Nat)/\aj wr w) (λ_ i _=>n-(intOf i).toNat);exact⟨0,aM _,rfl,rfl,aF⟩;obtain⟨k,M,rfl,rfl,hp⟩:=hrel;have C:sA z (ps.take k)<=k:=aL tC cr;obtain⟨l,b⟩:=lh (sA z (ps.take k));rw[b]at C⊢;have E:=ae b;clear b;by_cases D:k<n
 .obtain⟨N,o1,x,y,rfl,G,O,P,I⟩:=i.get D;have r:Hx (sA z (ps.take (k+1))=if x=z then l+1 else l):=ae (by
   rw[sA,take_at I.o,ED,List.countP_singleton,show List.countP (λx=>x.1==z) (ps.take k)=l from E.o];by_cases h:x=z<;>simp[h])
  by_cases u:x=z
  .subst u;have e:Hx (sA x (ps.take (k+1))=l+1):=ae (by rw[r.o,ah rfl]);clear r;go_wp2_with fail;go_roundw;exact⟨k+1,om,by go_num,by rw[e.o];simp,aF⟩;exact xW7
  have e:Hx (sA z (ps.take (k+1))=l):=ae (by rw[r.o,ag u]);(have Q:(x==z)=false:=by simpa using u);clear r u;go_wp2_with fail;go_roundw;exact⟨k+1,om,by go_num,by rw[e.o],aF⟩;exact xW7
 obtain rfl:l=j:=by rw[<-E.o,<-hV.o,bY (by rw[<-F.o];omega)]
 exact xW0
def AP{b:Bool}(hb:Hx (gJ z=b)):() 77 #[z] w (aJ w (.bool b)):=
 (qu z w).mono λe w' ⟨j,l⟩=>⟨by rw[j,hb.o],l▸⟨aV _ _⟩⟩
def h9[Is w A n ps](b:n<=65536)(hE:Hx (e7 ps=E)):() 33 #[(A,n,c)] w (aJ w E):=by
 obtain rfl:=hE.o;exact Qo b
def xW6(h:Γ:=by go_wp2_with (go_at_call 31;refine mv (yF om Uv Uw) λu9 _=>?_);go_ret2;exact bB):=h
def IM[i:Is w A n ps](hn:n<=65536)[s:Sl w B m cost](hV:Hx (uN cost ps=y))(hE:Hx (AN cost ps=E)):() 37 #[(A,n,c),(B,m,d)] w (aJ w (.tuple #[y,E])):=by
 obtain⟨CB,CP⟩:=kU;have HL:Hx (n=ps):=i.len;have HM:Hx (m=cost):=s.len;have b:=hE.o;have e:=hV.o;rw[AN]at b;rw[uN]at e;obtain⟨ck,D⟩:=lh (e7 ps);rw[D]at b e;have T:Hx (e7 ps=ck):=D;go_in;by_cases G:ck=0
 .subst G;rw[ah rfl]at b e;(have O:Gw ps=true:=by unfold e7 at D;split at D;assumption;omega);have U:=ae O;obtain⟨S,hS⟩:=lh (gf cost ps);rw[hS]at b e;have HS:=ae hS;have I:=ae b;have L:=ae e;clear b e hS O D;go_wp2_with (go_at_call 33;refine mv (h9 om T) λu _=>?_);go_loopw [7,19] (λs i wr=>∃(j:Nat) (A:bF) (c:Nat) (X:au),j<=n/\i=.int .i64 j/\s=.slice A X c/\X<=j/\aB wr u.1.size 3 A c X/\Hx (S=(gf cost (ps.drop j)).map (X++ ·))/\aj wr u) (λ_ i _=>n-(intOf i).toNat);exact⟨0,none,0,[],aM _,rfl,rfl,al _,aB.nil _ _ _,ae (by rw[<-HS.o];simp),⟨aV _ _⟩⟩;obtain⟨j,A',c',X,hj,rfl,rfl,XZ,hO,Y,hp⟩:=hrel;by_cases bE:j<n
  .obtain⟨b1,o1,x,aa,rfl,pq,v1,v2,e1⟩:=i.get bE;have P:Hx (S=(if x=1\/x=2 then(if gJ (cost.getD aa.toNat (-1))then(gf cost (ps.drop (j+1))).map (cost.getD aa.toNat (-1):: ·)else none)else gf cost (ps.drop (j+1))).map (X++ ·)):=ae (by
    obtain⟨h1,h2⟩:=a8.1 e1.o;rw[Y.o,ed h1,h2];rfl)
   by_cases Q:x=1\/x=2
   .have hy:1<=aa/\aa<=512:=by have:=dz.1 U _ (aC e1.o);rw[mR om]at this;simpa using this
    obtain⟨q,rfl⟩:=bJ (show 0<=aa by omega);(have F:gJ (cost.getD q (-1))=false->E=10/\y=0:=λhb=>by (have hSn:S=none:=by rw[P.o,ah Q,aZ,hb];rfl);have h1:=I.o;have h2:=L.o;rw[hSn]at h1 h2;exact⟨h1.symm,h2.symm⟩);by_cases M:q<m
    .obtain⟨b2,q2,z,rfl,jU,vz,ez⟩:=s.get M;(have N:cost.getD q (-1)=z:=by rw[aQ,ez.o];rfl);rw[N]at F;(have Oi:¬(m:Int)<=(q:Int):=by omega);rcases Qq:gJ z with _|_
     .obtain⟨rfl,rfl⟩:=F Qq;have HZ:=ae Qq;clear Qq N P Y F I L M;rcases Q with rfl|rfl;all_goals go_wp2_with (go_at_call 77;refine mv (AP HZ) λu9 _=>?_);go_ret2;exact bB
     have HZ:=ae Qq;have R:Hx (S=(gf cost (ps.drop (j+1))).map ((X++[z])++ ·)):=ae (by
      rw[P.o,ah Q,aZ,N,Qq,ah rfl,Option.map_map];congr 1
      funext l
      simp)
     clear Qq N P Y F M;rcases Q with rfl|rfl;all_goals go_wp2_with (first|(go_at_call 77;refine mv (AP HZ) λu9 _=>?_)|(at_builtin;refine iJ rfl _ _ _ rfl 3 underlying24 ao u.1.size A' c' X rfl hO.at z rfl om ai ?_;intro A3 c3 w3 qe qv _ _));go_roundw;exact⟨j+1,A3,c3,_,om,by go_num,aD,by simp;omega,qe,R,⟨(aP u u9).trans qv⟩⟩;exact xW7
    obtain⟨rfl,rfl⟩:=F (by rw[aQ,fc (by rw[<-HM.o];omega)];rfl);(have Oi:(m:Int)<=(q:Int):=by omega);clear P Y F I L M;rcases Q with rfl|rfl;all_goals go_wp2_with fail;go_ret2;exact bB
   have R:Hx (S=(gf cost (ps.drop (j+1))).map (X++ ·)):=ae (by rw[P.o,ag Q]);(have b1:(x !=1)=true:=by simp;omega);(have b2:(x !=2)=true:=by simp;omega);clear P Q;go_wp2_with fail;go_roundw;exact⟨j+1,A',c',X,om,by go_num,rfl,om,hO.at,R,aF⟩;exact xW7
  have Z:S=some X:=by rw[Y.o,eF (by rw[<-HL.o];omega)];simp[gf]
  have C:=I.o;have r:=L.o;rw[Z]at C r;dsimp only at C r;obtain⟨K,hK⟩:=lh (wX X);obtain⟨J,hJ⟩:=lh (uG X);rw[hJ]at C r;rw[hK]at r;have Uv:=ae hK;have Uw:=ae hJ;have sX:Sl wr A' X X:=⟨hO.rd,rfl⟩;clear hK hJ Z;by_cases G:J=0;subst G;rw[ah rfl]at C r;subst C r;exact xW6;rw[ag G]at C r;subst C r;(have b0:(J !=0)=true:=by simp[G]);clear G;exact xW6
 rw[ag G]at b e;subst b e;have b0:(ck !=0)=true:=by simp[G]
 clear D G;go_wp2_with (go_at_call 33;refine mv (h9 om T) λu _=>?_);go_ret2;exact bB
variable{p:World}{ss:List Sp}
structure ju where
 words:List Int
 cost:List Int
 ins:List (List Int)
 order:List Int
 g2:Nat
 cap:Int
structure jv where
 bl:List Bool
 saved:List Bool
 aI:List Bool
 eM:Bool
 fW:Bool
 done:Int
 now:Int
 kb:Int
structure oX where
 AW:Option Addr
 cW:Nat
 AC:Option Addr
 cC:Nat
 AI:Option Addr
 cI:Nat
 AO:Option Addr
 cO:Nat
structure lF(p:World)(a:oX)(m:Nat)(C:ju)(ss:List Sp):Prop where
 words:Sl p a.AW (m+1) C.words
 cost:Sl p a.AC (m+1) C.cost
 ins:dZ p a.AI (m+1) ss
 UB:aS ss=C.ins
 order:Sl p a.AO m C.order
 g2:C.g2<=m
 kc:∀l∈C.ins,l.length<=1000/\∀z∈l,0<=z/\z<=m
 hm:m<=1000
 wb:∀z∈C.words,0<=z/\z<=1099511627776
abbrev c6(p:World)(a:oX)(m:Nat)(C:ju)(s:jv):Array Value:=
 #[.slice a.AW (m+1) a.cW,.slice a.AC (m+1) a.cC,.slice a.AI (m+1) a.cI,.slice a.AO m a.cO,C.g2,C.cap,.slice (some ⟨p.1.size+1,0,none⟩) (m+1) (m+1),.slice (some ⟨p.1.size+1+1,0,none⟩) (m+1) (m+1),.slice (some ⟨p.1.size+1+1+1,0,none⟩) (m+1) (m+1),
  .bool s.eM,.bool s.fW,.int .i64 s.done,.int .i64 s.now,.int .i64 s.kb]
structure ec(p w:World)(a:oX)(m:Nat)(C:ju)(s:jv):Prop where
 prev:aj w p
 st:az w p.1.size 108 (c6 p a m C s)
 pr:az w (p.1.size+1) 4 (eu s.bl)
 sv:az w (p.1.size+1+1) 4 (eu s.saved)
 gr:az w (p.1.size+1+1+1) 4 (eu s.aI)
 lp:s.bl=m+1
 ls:s.saved=m+1
 lg:s.aI=m+1
def mS(C:ju)(s:jv)(id:Nat):Bool:=(C.ins.getD id []).all λz=>s.bl.getD z.toNat false
def nJ(C:ju)(s:jv):Bool:=s.eM&&decide (s.done=(C.order.length:Int))
variable{a:oX}{C:ju}{s:jv}
def ec.at(h:ec p w a m C s)[l:aT w w']:ec p w' a m C s:=⟨⟨du h.prev.st l.st⟩,h.st.at,h.pr.at,h.sv.at,h.gr.at,h.lp,h.ls,h.lg⟩
def xW9(h:Γ:=by first|(simp;omega)|simp):=h
def ec.DH(h:ec p w a m C s)(i:Nat)(b:Bool):ec p (w.setCell (p.1.size+1,i) (.bool b)) a m C {s with bl:=s.bl.set i b}:=
 ⟨⟨h.prev.st.setCell (p:=⟨p.1.size+1,i,none⟩) (cz _) _⟩,h.st.aY aD _,by rw[<-mM];exact h.pr.av i _,h.sv.aY aD _,h.gr.aY xW9 _,by simp[h.lp],h.ls,h.lg⟩
def ec.acm(h:ec p w a m C s)(i:Nat)(b:Bool):ec p (w.setCell (p.1.size+1+1,i) (.bool b)) a m C {s with saved:=s.saved.set i b}:=
 ⟨⟨h.prev.st.setCell (p:=⟨p.1.size+1+1,i,none⟩) xW9 _⟩,h.st.aY xW9 _,h.pr.aY aD _,by rw[<-mM];exact h.sv.av i _,h.gr.aY aD _,h.lp,by simp[h.ls],h.lg⟩
def ec.acn(h:ec p w a m C s)(i:Nat)(b:Bool):ec p (w.setCell (p.1.size+1+1+1,i) (.bool b)) a m C {s with aI:=s.aI.set i b}:=
 ⟨⟨h.prev.st.setCell (p:=⟨p.1.size+1+1+1,i,none⟩) xW9 _⟩,h.st.aY xW9 _,h.pr.aY xW9 _,h.sv.aY aD _,by rw[<-mM];exact h.gr.av i _,h.lp,h.ls,by simp[h.lg]⟩
def xW5(h:Γ:=by refine a9 ?_;exact xW0):=h
def vW(hP:lF p a m C ss)(h:ec p w a m C s){b:Bool}(hb:Hx (nJ C s=b)):() 36 #[.pointer p.1.size] w (aJ w (.bool b)):=by
 have u:=@ay;have y:Bx w p.1.size 108 (c6 p a m C s):=⟨h.st⟩;have e:C.order=m:=hP.order.len.symm;have j:=hb.o;rw[nJ,e]at j;clear e;go_in;rcases he:s.eM with _|_
 .obtain rfl:b=false:=by rw[<-j,he];rfl
  clear j;go_upto_region 1 with fail;refine aw ao (λl _=>?_);refine qL [0,1,2,3,4,505,506,507,508,509,510,511,512,513,514,15,16] ?_;exact xW5
 have r:Hx (decide (s.done=(m:Int))=b):=ae (by rw[<-j,he];rfl);clear j;go_upto_region 1 with fail;refine aw ao (λl _=>?_);refine qL [0,1,2,3,4,5,6,7,8,9,10,11,12,13,14,15,16] ?_;refine a9 ?_;go_wp2_with fail;go_ret;exact⟨by rw[<-r.o];try rfl,aF⟩
def xW4(h:Γ:=by go_wp2_with fail;go_ret;exact⟨rfl,⟨aV _ _⟩⟩):=h
def UC(h:ec p w a m C s):() 234 #[.pointer p.1.size] w (aJ w (.int .i64 s.kb)):=by
 have b:=@ay;have e:Bx w p.1.size 108 (c6 p a m C s):=⟨h.st⟩;go_in;exact xW4
def oY(hP:lF p a m C ss)(h:ec p w a m C s){id:Nat}(hid:id<=m){b:Bool}(hb:Hx (mS C s id=b)):() 139 #[.pointer p.1.size,id] w (aJ w (.bool b)):=by
 obtain⟨S,T⟩:=kU;have U:Bx w p.1.size 108 (c6 p a m C s):=⟨h.st⟩;have V:=h.prev;obtain⟨AW,cW,AC,cC,AI,cI,AO,cO⟩:=a;have L:dZ p AI (m+1) ss:=hP.ins;obtain⟨X,o1,Y,m1,c1,zs,rfl,M,Z,u,l1,N⟩:=L.get (k:=id) om;have B:C.ins[id]?=some zs:=by rw[<-hP.UB];exact N.o
 have e:=hP.kc zs (aC B);have O:m1<=1000:=by rw[u.len];exact e.1
 have P:Hx (m1=zs):=u.len;have D:=ae e.2;have I:Hx (zs.all (λz=>s.bl.getD z.toNat false)=b):=ae (by rw[<-hb.o,mS,aQ,B];rfl);clear B e;go_in;go_wp2_with fail;go_loop [15] (λi=>∃j:Nat,j<=m1/\i=.int .i64 j/\Hx ((zs.take j).all (λz=>s.bl.getD z.toNat false)=true)) (λi=>m1-(intOf i).toNat);exact⟨0,aM _,rfl,ae rfl⟩;obtain⟨j,hj,rfl,J⟩:=hrel;by_cases E:j<m1
 .obtain⟨b2,q2,z,rfl,Q,vz,F⟩:=u.get E;have r:=D.o z (aC F.o);obtain⟨y,rfl⟩:=bJ r.1;have R:y<m+1:=om;obtain⟨K,l⟩:∃x,s.bl[y]?=some x:=⟨_,a5 (by rw[h.lp];exact R)⟩;have hc:=(h.pr.cell y).trans (cj l);(have hg:s.bl.getD ((y:Int)).toNat false=K:=by rw[aZ,aQ,l];rfl);clear l r;rcases K with _|_;(obtain rfl:b=false:=by rw[<-I.o,rz];exact⟨_,aC F.o,by rw[hg];simp⟩);clear hg;exact xW4;have G:Hx ((zs.take (j+1)).all (λz=>s.bl.getD z.toNat false)=true):=ae (by rw[take_at F.o,yf,J.o,WQ,hg];rfl);clear hg;go_wp2_with fail;go_round;exact⟨j+1,om,by go_num,G⟩;exact xW7
 obtain rfl:b=true:=by rw[<-I.o];have:=J.o;rwa[bY (by rw[<-P.o];omega)]at this
 exact xW4
def jc(G:List Bool):List Int->List Int->List Int
 |[],l=>l
 |z::t,l=>jc G t (if z≠0/\G.getD z.toNat false=false/\l.contains z=false then l++[z]else l)
def ix(C:ju)(s:jv)(id:Nat):List Int:=jc s.aI (C.ins.getD id []) []
def xW2(h:Γ:=by go_roundw;exact⟨j+1,e,r,X,om,by go_num,rfl,om,hO.at,b,aF⟩;simp[intOf];omega):=h
def DI(hP:lF p a m C ss)(h:ec p w a m C s){id:Nat}(hid:id<=m){F:au}(hF:Hx (ix C s id=F)):() 89 #[.pointer p.1.size,id] w (zi w F):=by
 obtain⟨CB,CP⟩:=kU;have kS:Bx w p.1.size 108 (c6 p a m C s):=⟨h.st⟩;have pp:=h.prev;obtain⟨AW,cW,AC,cC,AI,cI,AO,cO⟩:=a;have V:dZ p AI (m+1) ss:=hP.ins;obtain⟨b1,o1,A1,m1,c1,zs,rfl,Y,v1,L,l1,Z⟩:=V.get (k:=id) om;have M:C.ins[id]?=some zs:=by rw[<-hP.UB];exact Z.o
 have B:=hP.kc zs (aC M);have k8:m1<=1000:=by rw[L.len];exact B.1
 have HL:Hx (m1=zs):=L.len;have N:=ae B.2;have G:Hx (jc s.aI zs []=F):=ae (by rw[<-hF.o,ix,aQ,M];rfl);clear M B;go_in;go_wp2_with fail;go_loopw [5,16] (λt i wr=>∃(j:Nat) (e:bF) (r:Nat) (X:au),j<=m1/\i=.int .i64 j/\t=.slice e X r/\X<=j/\aB wr w.1.size 3 e r X/\Hx (jc s.aI (zs.drop j) X=F)/\aj wr w) (λ_ i _=>m1-(intOf i).toNat);exact⟨0,none,0,[],aM _,rfl,rfl,al _,aB.nil _ _ _,G,⟨aV _ _⟩⟩;clear G;obtain⟨j,e,r,X,hj,rfl,rfl,XZ,hO,G,hp⟩:=hrel;have hS:=h.at (w':=wr);by_cases O:j<m1
 .obtain⟨b2,q2,z,rfl,jU,T,U⟩:=L.get O;have I:=N.o z (aC U.o);obtain⟨y,rfl⟩:=bJ I.1;have hy:y<m+1:=om;obtain⟨P,D⟩:∃x,s.aI[y]?=some x:=⟨_,a5 (by rw[h.lg];exact hy)⟩;have hc:=(hS.gr.cell y).trans (cj D);have hg:s.aI.getD ((y:Int)).toNat false=P:=by rw[aZ,aQ,D];rfl
  have l:Hx (jc s.aI (zs.drop (j+1)) (if(y:Int)≠0/\P=false/\X.contains (y:Int)=false then X++[(y:Int)]else X)=F):=ae (by
   obtain⟨h1,h2⟩:=a8.1 U.o;have:=G.o;rw[ed h1,h2,jc,hg]at this;exact this)
  have sX:Sl wr e X X:=⟨hO.rd,rfl⟩;clear D I hg hS;by_cases K:y=0
  .subst K;have b:Hx (jc s.aI (zs.drop (j+1)) X=F):=ae (by have:=l.o;rwa[ag (λh=>h.1 rfl)]at this);have Q:=T;rw[show((0:Nat):Int)=0 from rfl]at Q;clear l T hc;go_wp2_with fail;exact xW2
  have b0:((y:Int) !=0)=true:=by simp;omega
  rcases P with _|_
  .obtain⟨cb,E⟩:=lh (X.contains (y:Int));have J:=ae E;rw[E]at l;clear E;rcases cb with _|_
   .have b:Hx (jc s.aI (zs.drop (j+1)) (X++[(y:Int)])=F):=ae (by have:=l.o;rwa[ah ⟨om,rfl,rfl⟩]at this);clear l K;go_wp2_with (first|(go_at_call 140;refine mv (sq om J) λu _=>?_)|(at_builtin;refine iJ rfl _ _ _ rfl 3 underlying24 ao w.1.size e r X rfl hO.at (y:Int) rfl om ai ?_;intro A3 c3 w3 R S _ _));go_roundw;exact⟨j+1,A3,c3,_,om,by go_num,aD,by simp;omega,R,b,⟨(aP w u).trans S⟩⟩;exact xW7
   have b:Hx (jc s.aI (zs.drop (j+1)) X=F):=ae (by have:=l.o;rwa[ag (λh=>by cases h.2.2)]at this);clear l K;go_wp2_with (go_at_call 140;refine mv (sq om J) λu _=>?_);exact xW2
  have b:Hx (jc s.aI (zs.drop (j+1)) X=F):=ae (by have:=l.o;rwa[ag (λh=>by cases h.2.1)]at this);clear l K;go_wp2_with fail;exact xW2
 have hx:X=F:=by have:=G.o;rwa[eF (by rw[<-HL.o];omega)]at this
 subst hx;go_wp2_with fail;go_ret;exact⟨e,r,rfl,hO.at,aF⟩
def ev(C:ju)(s:jv)(b:Int)(id:Nat):Int:=
 if b=1\/b=2 then C.words.getD id 0 else if b=5 then C.words.getD C.g2 0 else if b=6 then((ix C s id).map λz=>C.words.getD z.toNat 0).sum else 0
def AQ(hP:lF p a m C ss)(h:ec p w a m C s){id:Nat}(hid:id<=m)(b:y=1\/y=2)(hV:Hx (ev C s y id=E)):() 88 #[.pointer p.1.size,.agg #[y,id]] w (aJ w E):=by
 obtain⟨u,B⟩:=kU;have D:Bx w p.1.size 108 (c6 p a m C s):=⟨h.st⟩;have F:=h.prev;obtain⟨AW,cW,AC,cC,AI,cI,AO,cO⟩:=a;have j:Sl p AW (m+1) C.words:=hP.words;obtain⟨G,o1,z,rfl,l,I,r⟩:=j.get (k:=id) om;obtain rfl:z=E:=by rw[<-hV.o,ev,ah b,h4 r.o]
 have e:(id:Int)<(m:Int)+1:=by omega
 go_in;rcases b with rfl|rfl;all_goals go_upto_region 4 with fail;refine aw ao (λJ _=>?_);refine qL [0,1,2,3,4,5,6,7,8] ?_;refine a9 ?_;go_wp2_with fail;go_ret;exact bB
def Qr(hP:lF p a m C ss)(h:ec p w a m C s)(hV:Hx (ev C s 5 0=y)):() 88 #[.pointer p.1.size,.agg #[(5:Int),id]] w (aJ w y):=by
 obtain⟨r,u⟩:=kU;have B:Bx w p.1.size 108 (c6 p a m C s):=⟨h.st⟩;have D:=h.prev;obtain⟨AW,cW,AC,cC,AI,cI,AO,cO⟩:=a;have E:=hP.g2;have b:(C.g2:Int)<(m:Int)+1:=by omega
 have e:Sl p AW (m+1) C.words:=hP.words;obtain⟨F,o1,z,rfl,j,G,l⟩:=e.get (k:=C.g2) om;obtain rfl:z=y:=by rw[<-hV.o,ev,ag om,ah rfl,h4 l.o]
 go_in;go_upto_region 6 with fail;refine aw ao (λI _=>?_);refine qL [0,1,2,3,4,5,6,7,8,9,10] ?_;exact xW5
def AR(b:z=3\/z=4){P:Value}:() 88 #[P,.agg #[z,id]] w (aJ w an):=by
 have e:=@ay;go_in;rcases b with rfl|rfl;all_goals go_wp2_with fail;go_ret;exact bB
def AS(G:List Bool):∀(zs l:au),∀x∈jc G zs l,x∈zs\/x∈l
 |[],_,_,h=>.inr h
 |z::t,l,x,h=>by rw[jc]at h;rcases AS G t _ x h with h|h;exact .inl (dp _ h);split at h;rcases bM.1 h with h|h;exact .inr h;exact .inl (by rw[cZ.1 h];exact cm);exact .inr h
def AT(G:List Bool):∀(zs l:au),(jc G zs l).length<=l+zs.length
 |[],_=>by simp[jc]
 |z::t,l=>by rw[jc];refine aL (AT G t _) ?_;split<;>first|(simp;done)|(simp;omega)
def NM{L:au}{b:Int}(h:∀z∈L,0<=z/\z<=b):0<=L.sum/\L.sum<=(L.length:Int)*b:=by
 induction L with
 |nil=>simp
 |cons z t e=>have l:=h z cm;have r:=e λx j=>h x (dp _ j);rw[fY,dj,ee,iV];omega
def Qt(hP:lF p a m C ss)(h:ec p w a m C s){id:Nat}(hid:id<=m)(hV:Hx (ev C s 6 id=y)):() 88 #[.pointer p.1.size,.agg #[(6:Int),id]] w (aJ w y):=by
 obtain⟨CB,CP⟩:=kU;have pp:=h.prev;obtain⟨F,hF⟩:=lh (ix C s id);have Z:=ae hF;have HV:Hx ((F.map λz=>C.words.getD z.toNat 0).sum=y):=ae (by rw[<-hV.o,ev,ag om,ag om,ah rfl,hF]);have B:id<C.ins:=by rw[<-hP.UB,cX,<-hP.ins.len];omega
 have l:C.ins.getD id []∈C.ins:=by rw[aQ,a5 B];exact o0 _
 have hFl:F.length<=1000:=by have T:=AT s.aI (C.ins.getD id []) [];have h2:=(hP.kc _ l).1;rw[<-hF];rw[iW,cf]at T;exact aL T h2
 have K:Hx (∀z∈F,0<=z/\z<=m):=λz U=>by rw[<-hF]at U;rcases AS _ _ _ z U with h|h;exact(hP.kc _ l).2 z h;cases h
 have M:C.words=m+1:=hP.words.len.symm;have G:Hx (∀aa:Nat,0<=C.words.getD aa 0/\C.words.getD aa 0<=1099511627776):=λaa=>by rw[aQ];rcases N:C.words[aa]? with _|z;simp;exact hP.wb z (aC N)
 clear hF B l M;go_in;go_wp2_with (go_at_call 89;refine ey (λu0 _ _=>?_);refine(DI hP (h.at (w':=u0)) hid Z).mono ?_;rintro e u ⟨AF,cF,rfl,oF,_⟩);have sF:Sl u AF F F:=⟨oF.rd,rfl⟩;have hS:=h.at (w':=u);have kS:Bx u p.1.size 108 (c6 p a m C s):=⟨hS.st⟩;obtain⟨AW,cW,AC,cC,AI,cI,AO,cO⟩:=a;have sW:Sl p AW (m+1) C.words:=hP.words;go_loop [5,40] (λt i=>∃j:Nat,j<=F/\i=.int .i64 j/\t=.int .i64 ((F.take j).map λz=>C.words.getD z.toNat 0).sum) (λ_ i=>F.length-(intOf i).toNat);exact⟨0,aM _,rfl,rfl⟩
 obtain⟨j,hj,rfl,rfl⟩:=hrel;have O:=NM (L:=(F.take j).map λz=>C.words.getD z.toNat 0) (b:=1099511627776) (λx hx=>by
  obtain⟨aa,_,rfl⟩:=bw.1 hx;exact G.o _)
 have P:((F.take j).map λz=>C.words.getD z.toNat 0).length<=1000:=by simp;omega
 obtain⟨S,r⟩:=lh (((F.take j).map λz=>C.words.getD z.toNat 0).sum);obtain⟨sl,D⟩:=lh (((F.take j).map λz=>C.words.getD z.toNat 0).length);rw[r,D]at O;rw[D]at P;rw[r];have I:=ae r;clear r D;by_cases Q:j<F
 .obtain⟨b2,q2,z,rfl,jU,vz,X⟩:=sF.get Q;have J:=K.o z (aC X.o);obtain⟨aa,rfl⟩:=bJ J.1;have N:aa<m+1:=om;obtain⟨b3,q3,Y,rfl,Tv,vw,ew⟩:=sW.get N;have E:C.words.getD aa 0=Y:=h4 ew.o;have R:=G.o aa;rw[E]at R;have HT:Hx (((F.take (j+1)).map λz=>C.words.getD z.toNat 0).sum=S+Y):=ae (by rw[take_at X.o,c9,nk,I.o,di,jz,fY,List.sum_nil,aZ,E,MR]);clear E J;go_wp2_with fail;go_round;exact⟨j+1,om,by go_num,by rw[HT.o]⟩;exact xW7
 obtain rfl:S=y:=by rw[<-HV.o,<-I.o,bY om]
 exact xW0
variable{i:Nat}{v:Value}
variable{s':jv}
def ec.AU(h:ec p w a m C s)(l:(c6 p a m C s).setIfInBounds i v=c6 p a m C s')(b:s'.bl=s.bl)(e:s'.saved=s.saved)(j:s'.aI=s.aI):ec p (w.setCell (p.1.size,i) v) a m C s':=
 ⟨⟨h.prev.st.setCell (p:=⟨p.1.size,i,none⟩) (al _) _⟩,by rw[<-l];exact h.st.av i v,by rw[b];exact h.pr.aY aD _,by rw[e];exact h.sv.aY cr _,by rw[j];exact h.gr.aY cr _,by rw[b];exact h.lp,by rw[e];exact h.ls,by rw[j];exact h.lg⟩
def ec.aa0(h:ec p w a m C s)(b:Bool):ec p (w.setCell (p.1.size,9) (.bool b)) a m C {s with eM:=b}:=h.AU rfl rfl rfl rfl
def ec.aa1(h:ec p w a m C s)(b:Bool):ec p (w.setCell (p.1.size,10) (.bool b)) a m C {s with fW:=b}:=h.AU rfl rfl rfl rfl
def ec.aa2(h:ec p w a m C s)(z:Int):ec p (w.setCell (p.1.size,11) z) a m C {s with done:=z}:=h.AU rfl rfl rfl rfl
def ec.YG(h:ec p w a m C s)(z:Int):ec p (w.setCell (p.1.size,12) z) a m C {s with now:=z}:=h.AU rfl rfl rfl rfl
def ec.aa3(h:ec p w a m C s)(z:Int):ec p (w.setCell (p.1.size,13) z) a m C {s with kb:=z}:=h.AU rfl rfl rfl rfl
def dY(C:ju)(s:jv)(b:Int)(id:Nat):Bool:=
 if b=1 then !s.saved.getD id false&&mS C s id
 else if b=2 then s.saved.getD id false&& !s.bl.getD id false&&mS C s id
 else if b=3 then s.bl.getD id false
 else if b=4 then s.bl.getD C.g2 false&& !s.eM
 else if b=5 then !s.fW
 else s.aI.getD id false&&mS C s id&&decide (s.done<(C.order.length:Int))&&(C.order.getD ((C.order.length:Int)-1-s.done).toNat 0==(id:Int))
def h3{L:List Bool}(j:L=n)(h:i<n):∃b,L[i]?=some b/\L.getD i false=b:=by
 have e:L[i]?=some (L[i]'om):=a5 _;exact⟨_,e,by rw[aQ,e];rfl⟩
def LU(hP:lF p a m C ss)(h:ec p w a m C s){id:Nat}(hid:id<=m){b:Bool}(hb:Hx (dY C s 3 id=b)):() 87 #[.pointer p.1.size,.agg #[(3:Int),id]] w (aJ w (.bool b)):=by
 have u:=@ay;have y:Bx w p.1.size 108 (c6 p a m C s):=⟨h.st⟩;obtain⟨r,e,j⟩:=h3 h.lp (show id<m+1 by omega);obtain rfl:r=b:=by rw[<-hb.o,dY];simp only[j];rfl
 have z:Bx w (p.1.size+1) 4 (eu s.bl):=⟨h.pr⟩;have hg:=cj e;have l:(id:Int)<(m:Int)+1:=by omega
 clear e j;go_in;exact xW0
def LW(h:ec p w a m C s){b:Bool}(hb:Hx (dY C s 5 0=b)):() 87 #[.pointer p.1.size,.agg #[(5:Int),id]] w (aJ w (.bool b)):=by
 have e:=@ay;have j:Bx w p.1.size 108 (c6 p a m C s):=⟨h.st⟩;obtain rfl:(!s.fW)=b:=by rw[<-hb.o];rfl
 go_in;exact xW0
def xW3(h:Γ:=by (obtain rfl:b=false:=by rw[<-l];rfl);clear l;exact xW0):=h
def LX(hP:lF p a m C ss)(h:ec p w a m C s){id:Nat}(hid:id<=m){b:Bool}(hb:Hx (dY C s 1 id=b)):() 87 #[.pointer p.1.size,.agg #[(1:Int),id]] w (aJ w (.bool b)):=by
 have G:=@ay;have I:Bx w p.1.size 108 (c6 p a m C s):=⟨h.st⟩;obtain⟨y,z,B⟩:=h3 h.ls (show id<m+1 by omega);obtain⟨D,j⟩:=lh (mS C s id);have l:(!y&&D)=b:=by rw[<-hb.o,dY];simp only[B,j];rfl
 have r:=ae j;have J:Bx w (p.1.size+1+1) 4 (eu s.saved):=⟨h.sv⟩;have hg:=cj z;have E:(id:Int)<(m:Int)+1:=by omega
 clear z B j;go_in;rcases y with _|_
 .obtain rfl:D=b:=by rw[<-l];rfl
  clear l;go_wp2_with (go_at_call 139;refine ey (λF _ _=>?_);refine(oY hP (h.at (w':=F)) hid r).mono ?_;rintro e u ⟨rfl,_⟩);go_ret;exact bB
 exact xW3
def LY(hP:lF p a m C ss)(h:ec p w a m C s){id:Nat}(hid:id<=m){b:Bool}(hb:Hx (dY C s 2 id=b)):() 87 #[.pointer p.1.size,.agg #[(2:Int),id]] w (aJ w (.bool b)):=by
 have L:=@ay;have M:Bx w p.1.size 108 (c6 p a m C s):=⟨h.st⟩;obtain⟨y,z,B⟩:=h3 h.ls (show id<m+1 by omega);obtain⟨D,E,F⟩:=h3 h.lp (show id<m+1 by omega);obtain⟨G,j⟩:=lh (mS C s id);have l:(y&& !D&&G)=b:=by rw[<-hb.o,dY];simp only[B,F,j];rfl
 have r:=ae j;have N:Bx w (p.1.size+1+1) 4 (eu s.saved):=⟨h.sv⟩;have O:Bx w (p.1.size+1) 4 (eu s.bl):=⟨h.pr⟩;have hg:=cj z;have J:=cj E;have I:(id:Int)<(m:Int)+1:=by omega
 clear z B E F j;go_in;rcases y with _|_;exact xW3;rcases D with _|_
 .obtain rfl:G=b:=by rw[<-l];rfl
  clear l;go_wp2_with (go_at_call 139;refine ey (λK _ _=>?_);refine(oY hP (h.at (w':=K)) hid r).mono ?_;rintro e u ⟨rfl,_⟩);go_ret;exact bB
 exact xW3
def LZ(hP:lF p a m C ss)(h:ec p w a m C s){b:Bool}(hb:Hx (dY C s 4 0=b)):() 87 #[.pointer p.1.size,.agg #[(4:Int),id]] w (aJ w (.bool b)):=by
 have B:=@ay;have D:Bx w p.1.size 108 (c6 p a m C s):=⟨h.st⟩;have E:=hP.g2;obtain⟨j,l,r⟩:=h3 h.lp (show C.g2<m+1 by omega);have e:(j&& !s.eM)=b:=by rw[<-hb.o,dY];simp only[r];rfl
 have F:Bx w (p.1.size+1) 4 (eu s.bl):=⟨h.pr⟩;have u:=cj l;have y:(C.g2:Int)<(m:Int)+1:=by omega
 clear l r;go_in;rcases j with _|_
 .obtain rfl:b=false:=by rw[<-e];rfl
  clear e;go_upto_region 10 with fail;refine aw ao (λz _=>?_);refine qL [0,1,2,3,4,5,6,7,8,9,10,511,512,513,514,515,16,17] ?_;exact xW5
 obtain rfl:(!s.eM)=b:=by rw[<-e];rfl
 clear e;go_upto_region 10 with fail;refine aw ao (λz _=>?_);refine qL [0,1,2,3,4,5,6,7,8,9,10,11,12,13,14,15,16,17] ?_;exact xW5
def IN(hP:lF p a m C ss)(h:ec p w a m C s){id:Nat}(hid:id<=m)(b:s.aI.getD id false=false):() 87 #[.pointer p.1.size,.agg #[(6:Int),id]] w (aJ w (.bool false)):=by
 have y:=@ay;have z:Bx w p.1.size 108 (c6 p a m C s):=⟨h.st⟩;obtain⟨r,e,j⟩:=h3 h.lg (show id<m+1 by omega);obtain rfl:r=false:=by rw[<-j];exact b
 have B:Bx w (p.1.size+1+1+1) 4 (eu s.aI):=⟨h.gr⟩;have u:=cj e;have l:(id:Int)<(m:Int)+1:=by omega
 clear e j b;go_in;go_upto_region 14 with fail;refine aw ao (λD _=>?_);refine qL [0,1,2,3,4,5,6,7,508,509,510,11,12,513,514,515,516,517,518,519,520,521,522,23,24,525,526,527,528,529,530,531,532,533,534,535,536,537,538,539,540,541,542,543,44,45] ?_;exact xW5
def IP(hP:lF p a m C ss)(h:ec p w a m C s){id:Nat}(hid:id<=m)(j:s.aI.getD id false=true)(b:Hx (mS C s id=false)):() 87 #[.pointer p.1.size,.agg #[(6:Int),id]] w (aJ w (.bool false)):=by
 have D:=@ay;have E:Bx w p.1.size 108 (c6 p a m C s):=⟨h.st⟩;obtain⟨y,l,r⟩:=h3 h.lg (show id<m+1 by omega);obtain rfl:y=true:=by rw[<-r];exact j
 have F:Bx w (p.1.size+1+1+1) 4 (eu s.aI):=⟨h.gr⟩;have z:=cj l;have u:(id:Int)<(m:Int)+1:=by omega
 clear l r j;go_in;go_upto_region 14 with fail;refine aw ao (λB _=>?_);refine qL [0,1,2,3,4,5,6,7,8,9] ?_;refine aK 10 λK hK=>?_;go_simp;refine(oY hP h.at hid b).mono ?_;rintro e B ⟨rfl,_⟩;dsimp only;refine aG hK ?_;refine qL [11,12,513,514,515,516,517,518,519,520,521,522,23,24,525,526,527,528,529,530,531,532,533,534,535,536,537,538,539,540,541,542,543,44,45] ?_;exact xW5
def IQ(hP:lF p a m C ss)(h:ec p w a m C s){id:Nat}(hid:id<=m)(j:s.aI.getD id false=true)(b:Hx (mS C s id=true))(hd:¬s.done<(m:Int)):() 87 #[.pointer p.1.size,.agg #[(6:Int),id]] w (aJ w (.bool false)):=by
 have D:=@ay;have E:Bx w p.1.size 108 (c6 p a m C s):=⟨h.st⟩;obtain⟨y,l,r⟩:=h3 h.lg (show id<m+1 by omega);obtain rfl:y=true:=by rw[<-r];exact j
 have F:Bx w (p.1.size+1+1+1) 4 (eu s.aI):=⟨h.gr⟩;have z:=cj l;have u:(id:Int)<(m:Int)+1:=by omega
 clear l r j;go_in;go_upto_region 14 with fail;refine aw ao (λB _=>?_);refine qL [0,1,2,3,4,5,6,7,8,9] ?_;refine aK 10 λK hK=>?_;go_simp;refine(oY hP h.at hid b).mono ?_;rintro e B ⟨rfl,_⟩;dsimp only;refine aG hK ?_;refine qL [11,12,13,14,15,16,17,18,19,20,21,22,23,24,525,526,527,528,529,530,531,532,533,534,535,536,537,538,539,540,541,542,543,44,45] ?_;exact xW5
def IR(hP:lF p a m C ss)(h:ec p w a m C s){id:Nat}(hid:id<=m)(r:s.aI.getD id false=true)(j:Hx (mS C s id=true))(D:0<=s.done)(hd:s.done<(m:Int)){b:Bool}(hb:Hx ((C.order.getD ((m:Int)-1-s.done).toNat 0==(id:Int))=b)):
  () 87 #[.pointer p.1.size,.agg #[(6:Int),id]] w (aJ w (.bool b)):=by
 obtain⟨N,O⟩:=kU;have P:Bx w p.1.size 108 (c6 p a m C s):=⟨h.st⟩;have hm:=hP.hm;have Q:=h.prev;obtain⟨E,u,y⟩:=h3 h.lg (show id<m+1 by omega);obtain rfl:E=true:=by rw[<-y];exact r
 have R:Bx w (p.1.size+1+1+1) 4 (eu s.aI):=⟨h.gr⟩;have F:=cj u;have B:(id:Int)<(m:Int)+1:=by omega
 obtain⟨q,hq⟩:∃q:Nat,(m:Int)-1-s.done=(q:Int):=⟨((m:Int)-1-s.done).toNat,om⟩;have l:q<m:=om;obtain⟨AW,cW,AC,cC,AI,cI,AO,cO⟩:=a;have G:Sl p AO m C.order:=hP.order;obtain⟨S,o1,z,rfl,I,T,J⟩:=G.get l;have L:Hx ((z==(id:Int))=b):=ae (by rw[<-hb.o,hq,aZ,h4 J.o]);have U:IntKind.i64.wrap ((m:Int)-1)=(m:Int)-1:=by rw[a7];omega
 have V:IntKind.i64.wrap ((m:Int)-1-s.done)=(q:Int):=by rw[a7,hq];omega
 clear u y r hq hb;go_in;go_upto_region 14 with fail;refine aw ao (λM _=>?_);refine qL [0,1,2,3,4,5,6,7,8,9] ?_;refine aK 10 λK hK=>?_;go_simp;refine(oY hP h.at hid j).mono ?_;rintro e M ⟨rfl,_⟩;dsimp only;refine aG hK ?_;refine qL [11,12,13,14,15,16,17,18,19,20,21,22,23,24,25,26,27,28,29,30,31,32,33,34,35,36,37,38,39,40,41,42,43,44,45] ?_;refine a9 ?_;go_wp2_with fail;go_ret;exact⟨by rw[L.o];rfl,aF⟩
def vX(hP:lF p a m C ss)(h:ec p w a m C s)(hr:fC z id=true)(hid:id<=m)(l:0<=s.done){b:Bool}(hb:Hx (dY C s z id.toNat=b)):
  () 87 #[.pointer p.1.size,.agg #[z,id]] w (aJ w (.bool b)):=by
 by_cases j:z=4\/z=5;obtain rfl:id=0:=by rw[pR j]at hr;simpa using hr
 rcases j with rfl|rfl;exact LZ hP h hb;exact LW h hb;have k:z=1\/z=2\/z=3\/z=6:=by by_cases k:z=1\/z=2\/z=3\/z=6;exact k;rw[fC,ag j,ag k]at hr;cases hr
 rw[mR k]at hr;simp only[bK,bZ]at hr;obtain⟨q,rfl⟩:∃q:Nat,id=(q:Int):=⟨id.toNat,om⟩;rw[aZ]at hb;have hq:q<=m:=om;rcases k with rfl|rfl|rfl|rfl;exact LX hP h hq hb;exact LY hP h hq hb;exact LU hP h hq hb;have r:C.order=m:=hP.order.len.symm;have e:=hb.o;rw[dY,ag am,ag am,ag am,ag am,ag am,r]at e;rcases hg:s.aI.getD q false with _|_;rw[hg]at e;obtain rfl:false=b:=by simpa using e
 exact IN hP h hq hg;rw[hg]at e;rcases hy:mS C s q with _|_;rw[hy]at e;obtain rfl:false=b:=by simpa using e
 exact IP hP h hq hg hy;rw[hy]at e;by_cases hd:s.done<(m:Int);rw[gC hd]at e;exact IR hP h hq hg hy l hd (ae (by simpa using e));rw[gD hd]at e;obtain rfl:false=b:=by simpa using e
 exact IQ hP h hq hg hy hd
def IS(hP:lF p a m C ss)(h:ec p w a m C s)(hr:fC z id=true)(hid:id<=m)(hV:Hx (ev C s z id.toNat=y)):
  () 88 #[.pointer p.1.size,.agg #[z,id]] w (aJ w y):=by
 by_cases b:z=4\/z=5;obtain rfl:id=0:=by rw[pR b]at hr;simpa using hr
 rcases b with rfl|rfl;obtain rfl:0=y:=by rw[<-hV.o];rfl
 exact AR (.inr rfl);exact Qr hP h hV;have k:z=1\/z=2\/z=3\/z=6:=by by_cases k:z=1\/z=2\/z=3\/z=6;exact k;rw[fC,ag b,ag k]at hr;cases hr
 rw[mR k]at hr;simp only[bK,bZ]at hr;obtain⟨q,rfl⟩:∃q:Nat,id=(q:Int):=⟨id.toNat,om⟩;rw[aZ]at hV;have hq:q<=m:=om;rcases k with rfl|rfl|rfl|rfl;exact AQ hP h hq (.inl rfl) hV;exact AQ hP h hq (.inr rfl) hV;obtain rfl:0=y:=by rw[<-hV.o];rfl
 exact AR (.inl rfl);exact Qt hP h hq hV
variable{q wb:Nat}{kd:Int}{pr:List Bool}
structure fP(p:World)(wb:Nat)(w:World)(a:oX)(m:Nat)(C:ju)(s:jv)(kd id:Int):Prop where
 ck:ec p w a m C s
 box:az w wb 98 #[kd,id]
 aY:p.1.size+3<wb
variable{nw pk dn:Int}{sv gr:List Bool}{em sd b:Bool}
def fP.at(h:fP p wb w a m C s kd id)[aT w w']:fP p wb w' a m C s kd id:=⟨h.ck.at,h.box.at,h.aY⟩
def xW8(h:Γ:=by have:=h.aY;simp;omega):=h
def fP.UD(h:fP p wb w a m C ⟨pr,sv,gr,em,sd,dn,nw,pk⟩ kd id)(z:Int):fP p wb (w.setCell (p.1.size,12) z) a m C ⟨pr,sv,gr,em,sd,dn,z,pk⟩ kd id:=⟨h.ck.YG z,h.box.aY xW8 _,h.aY⟩
def fP.spk(h:fP p wb w a m C ⟨pr,sv,gr,em,sd,dn,nw,pk⟩ kd id)(z:Int):fP p wb (w.setCell (p.1.size,13) z) a m C ⟨pr,sv,gr,em,sd,dn,nw,z⟩ kd id:=⟨h.ck.aa3 z,h.box.aY xW8 _,h.aY⟩
def fP.sdn(h:fP p wb w a m C ⟨pr,sv,gr,em,sd,dn,nw,pk⟩ kd id)(z:Int):fP p wb (w.setCell (p.1.size,11) z) a m C ⟨pr,sv,gr,em,sd,z,nw,pk⟩ kd id:=⟨h.ck.aa2 z,h.box.aY xW8 _,h.aY⟩
def fP.sem(h:fP p wb w a m C ⟨pr,sv,gr,em,sd,dn,nw,pk⟩ kd id)(b:Bool):fP p wb (w.setCell (p.1.size,9) (.bool b)) a m C ⟨pr,sv,gr,b,sd,dn,nw,pk⟩ kd id:=⟨h.ck.aa0 b,h.box.aY xW8 _,h.aY⟩
def fP.ssd(h:fP p wb w a m C ⟨pr,sv,gr,em,sd,dn,nw,pk⟩ kd id)(b:Bool):fP p wb (w.setCell (p.1.size,10) (.bool b)) a m C ⟨pr,sv,gr,em,b,dn,nw,pk⟩ kd id:=⟨h.ck.aa1 b,h.box.aY xW8 _,h.aY⟩
def fP.spr(h:fP p wb w a m C ⟨pr,sv,gr,em,sd,dn,nw,pk⟩ kd id)(i:Nat)(b:Bool):fP p wb (w.setCell (p.1.size+1,i) (.bool b)) a m C ⟨pr.set i b,sv,gr,em,sd,dn,nw,pk⟩ kd id:=⟨h.ck.DH i b,h.box.aY xW8 _,h.aY⟩
def fP.ssv(h:fP p wb w a m C ⟨pr,sv,gr,em,sd,dn,nw,pk⟩ kd id)(i:Nat)(b:Bool):fP p wb (w.setCell (p.1.size+1+1,i) (.bool b)) a m C ⟨pr,sv.set i b,gr,em,sd,dn,nw,pk⟩ kd id:=⟨h.ck.acm i b,h.box.aY xW8 _,h.aY⟩
def fP.sgr(h:fP p wb w a m C ⟨pr,sv,gr,em,sd,dn,nw,pk⟩ kd id)(i:Nat)(b:Bool):fP p wb (w.setCell (p.1.size+1+1+1,i) (.bool b)) a m C ⟨pr,sv,gr.set i b,em,sd,dn,nw,pk⟩ kd id:=⟨h.ck.acn i b,h.box.aY xW8 _,h.aY⟩
def fP.facts(h:fP p wb w a m C ⟨pr,sv,gr,em,sd,dn,nw,pk⟩ kd id):aj w p/\Bx w p.1.size 108 (c6 p a m C ⟨pr,sv,gr,em,sd,dn,nw,pk⟩)/\Bx w wb 98 #[kd,id]/\Bx w (p.1.size+1) 4 (eu pr)/\Bx w (p.1.size+1+1) 4 (eu sv)/\Bx w (p.1.size+1+1+1) 4 (eu gr):=
 ⟨h.ck.prev,⟨h.ck.st⟩,⟨h.box⟩,⟨h.ck.pr⟩,⟨h.ck.sv⟩,⟨h.ck.gr⟩⟩
def lG(C:ju)(s:jv)(kd id:Int):Int:=
 if fC kd id=true/\id<(C.words.length:Int)then(if dY C s kd id.toNat then(if s.now+ev C s kd id.toNat<=C.cap then 0 else 25)else 24)else 10
def pS(gr:List Bool)(F:au):List Bool:=F.foldl (λG z=>G.set z.toNat true) gr
def g4(C:ju)(s:jv)(kd id:Int):jv:=
 let q:=id.toNat
 let n:=s.now+ev C s kd q
 let k:=max s.kb n
 if kd=1\/kd=2 then⟨s.bl.set q true,s.saved.set q true,s.aI,s.eM,s.fW,s.done,n,k⟩
 else if kd=3 then⟨s.bl.set q false,s.saved,s.aI,s.eM,s.fW,s.done,n-C.words.getD q 0,k⟩
 else if kd=4 then⟨s.bl,s.saved,s.aI,true,s.fW,s.done,n,k⟩
 else if kd=5 then⟨s.bl,s.saved,s.aI.set C.g2 true,s.eM,true,s.done,n,k⟩
 else⟨s.bl,s.saved,(pS s.aI (ix C s q)).set q false,s.eM,s.fW,s.done+1,n-C.words.getD q 0,k⟩
def DJ{L:au}{b:Int}(hb:0<=b)(h:∀z∈L,0<=z/\z<=b)(y:Nat):0<=L.getD y 0/\L.getD y 0<=b:=by
 rw[aQ];rcases hy:L[y]? with _|z;exact⟨eI _,hb⟩;exact h z (aC hy)
def AV(hP:lF p a m C ss)(q:Nat):(ix C s q).length<=1000:=by
 have e:=AT s.aI (C.ins.getD q []) [];rw[iW,cf]at e;refine aL e ?_;rw[aQ];rcases hy:C.ins[q]? with _|z;exact aM _;exact(hP.kc z (aC hy)).1
def Qu(hP:lF p a m C ss){z:Int}(e:z∈ix C s q):0<=z/\z<=m:=by
 rcases AS _ _ _ z e with h|h;rw[aQ]at h;rcases hy:C.ins[q]? with _|l;rw[hy]at h;cases h;rw[hy]at h;exact(hP.kc l (aC hy)).2 z h;cases h
def AX(hP:lF p a m C ss)(kd:Int)(q:Nat):0<=ev C s kd q/\ev C s kd q<=1099511627776000:=by
 have e:=DJ om hP.wb;unfold ev;split;have:=e q;omega;split;have:=e C.g2;omega;split
 have j:=NM (L:=(ix C s q).map λz=>C.words.getD z.toNat 0) (b:=1099511627776) (λx l=>by
  obtain⟨y,_,rfl⟩:=bw.1 l;exact e _)
 have r:=AV (s:=s) hP q;rw[bj]at j;omega;omega
def q4:∀(F:au) (G:List Bool),(pS G F).length=G
 |[],_=>rfl
 |z::t,G=>by rw[pS,jD,<-pS,q4 t];simp
def Qv(G:List Bool)(F:au)(z:Int):pS G (F++[z])=(pS G F).set z.toNat true:=by simp[pS]
end Go.Proofs.YtmkjnlifimffkaaGreat
