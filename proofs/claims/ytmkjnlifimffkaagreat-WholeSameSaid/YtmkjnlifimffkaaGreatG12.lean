/- Lemmas. -/
import Derived.Test.YtmkjnlifimffkaaGreatG11
namespace Go.Proofs.YtmkjnlifimffkaaGreat
open Go.RowKit Tryz
set_option linter.all false
set_option maxRecDepth 100000
set_option maxHeartbeats 0
variable{Γ:Prop}
attribute[local irreducible]Calls
variable{w':World}{A:Option Addr}{id z:Int}
def fx(b id:Int):Bool:=if b=4\/b=5 then id==0 else if b=1\/b=2\/b=3\/b=6 then decide (1<=id)&&decide (id<=512)else false
section
variable{w:World}{n p:Nat}{ps:List (Int×Int)}
def m9(h:z=1\/z=2\/z=3\/z=6):fx z id=(decide (1<=id)&&decide (id<=512)):=by
 unfold fx;rw[ag Y,ah h]
def qp(h:z=4\/z=5):fx z id=(id==0):=by
 unfold fx;rw[ah h]
def zL3(h:Γ:=by rcases h.o with rfl|rfl|rfl|rfl;all_goals go_in;go_wp2_with fail;go_ret;exact⟨by rw[b.o];rfl,aC⟩):=h
def Cx(h:Z (z=1\/z=2\/z=3\/z=6)):() 85 #[.agg #[z,id]] w (aL w (.bool (fx z id))):=by
 have m:=@az;have e:=U (m9 (id:=id) h);by_cases j:1<=id;by_cases l:id<=512;have b:Z (fx z id=true):=U (by rw[e.o,ea j,ea l];rfl);exact zL3;have b:Z (fx z id=false):=U (by rw[e.o,ea j,ew l];rfl);exact zL3;have b:Z (fx z id=false):=U (by rw[e.o,ew j];rfl);exact zL3
def Cy(h:Z (z=4\/z=5)):() 85 #[.agg #[z,id]] w (aL w (.bool (fx z id))):=by
 have e:=@az;have b:=U (qp (id:=id) h);rcases h.o with rfl|rfl;all_goals go_in;go_wp2_with fail;go_ret;exact⟨by rw[b.o];rfl,aC⟩
def Iu(h:Z (fx z id=false))(k1:(z==1)=false)(k2:(z==2)=false)(b:(z==3)=false)(e:(z==4)=false)(j:(z==5)=false)(k6:(z==6)=false):
  () 85 #[.agg #[z,id]] w (aL w (.bool (fx z id))):=by
 have l:=@az;go_in;go_wp2_with fail;go_ret;exact⟨by rw[h.o];rfl,aC⟩
def kN:() 85 #[.agg #[z,id]] w (aL w (.bool (fx z id))):=by
 by_cases h:z=1\/z=2\/z=3\/z=6;exact Cx h;by_cases b:z=4\/z=5;exact Cy b;have:∀j:Int,(j=1\/j=2\/j=3\/j=4\/j=5\/j=6)->(z==j)=false:=λj e=>by rw[beq_eq_false_iff_ne];omega
 exact Iu (U (by unfold fx;rw[ag b,ag h])) (this 1 aI) (this 2 aI) (this 3 aI) (this 4 aI) (this 5 aI) (this 6 aI)
def Iv(ps:List (Int×Int)):Bool:=ps.all λx=>fx x.1 x.2
def T5{f:Int×Int->Bool}{ps:List (Int×Int)}{k:Nat}{x:Int×Int}(h:ps[k]?=some x)(b:f x=false):ps.all f=false:=by
 rw[pI];exact⟨x,aK h,by simp[b]⟩
def OG{f:Int×Int->Bool}{ps:List (Int×Int)}{k:Nat}{x:Int×Int}(h:(ps.take k).all f=true)(b:ps[k]?=some x)(e:f x=true):(ps.take (k+1)).all f=true:=by
 rw[i5,va,h,b];simp[e]
def T6{f:Int×Int->Bool}{ps:List (Int×Int)}{k:Nat}(h:(ps.take k).all f=true)(b:ps<=k):ps.all f=true:=by rwa[bV b]at h
def gT(ps:List (Int×Int)):Int:=if Iv ps then 0 else 10
def zL4(h:Γ:=by simp[intOf];omega):=h
def T7[i:Is w A n ps](C:n<=65536):() 33 #[(A,n,p)] w (aL w (gT ps:Int)):=by
 obtain⟨D,E⟩:=hY;have z:Z (n=ps):=i.len;go_in;go_wp2_with fail;go_loopw [10] (λi wr=>∃k:Nat,k<=n/\i=.int .i64 k/\Z ((ps.take k).all (λx=>fx x.1 x.2)=true)/\aj wr w) (λi _=>n-(intOf i).toNat);exact⟨0,aR _,rfl,U rfl,aC⟩;obtain⟨k,F,rfl,r,hp⟩:=hrel;by_cases j:k<n
 .obtain⟨G,o1,x,y,rfl,B,I,J,b⟩:=i.get j;rcases hx:fx x y with _|_
  .have l:Z (gT ps=10):=U (by rw[gT,ag];rw[Iv,T5 b.o hx];simp);clear b;go_wp2_with (go_at_call 85;refine(kN).mono ?_;rintro e u ⟨rfl,_⟩);go_ret;exact⟨by rw[l.o];rfl,aC⟩
  have m:=U (OG r b.o hx);clear b;go_wp2_with (go_at_call 85;refine(kN).mono ?_;rintro e u ⟨rfl,_⟩);go_roundw;exact⟨k+1,Y,by go_num,m,aC⟩;exact zL4
 have l:Z (gT ps=0):=U (by rw[gT,ah];exact T6 r (by rw[<-z.o];omega));go_wp2_with fail;go_ret;exact⟨by rw[l.o];rfl,aC⟩
end
variable{B:Option Addr}{c d m:Nat}{E:Int}
def tJ(b:Int)(ps:List (Int×Int)):Nat:=ps.countP λx=>x.1==b
def gm(cost:au):List (Int×Int)->Option (List Int)
 |[]=>some []
 |x::t=>if x.1=1\/x.1=2 then(if ep (cost.getD x.2.toNat (-1))then(gm cost t).map (cost.getD x.2.toNat (-1):: ·)else none)else gm cost t
def Cz(cost:au)(ps:List (Int×Int)):Int:=if gT ps=0 then(match gm cost ps with|none=>10|some l=>if v9 l=0 then 0 else 12)else gT ps
def wn(cost:au)(ps:List (Int×Int)):Int:=if gT ps=0 then(match gm cost ps with|none=>0|some l=>if v9 l=0 then yN l else 0)else 0
section
variable{w:World}{n:Nat}{ps:List (Int×Int)}{cost:List Int}
def zL1(h:Γ:=by go_wp2_with fail;go_ret;exact bF):=h
def T8[i:Is w A n ps](I:n<=65536){V:Nat}(hV:Z (tJ z ps=V)):() 39 #[(A,n,c),z] w (aL w (V:Int)):=by
 obtain⟨J,K⟩:=hY;have E:Z (n=ps):=i.len;go_in;go_wp2_with fail;go_loopw [5,10] (λs i wr=>∃k:Nat,k<=n/\i=.int .i64 k/\s=.int .i64 (tJ z (ps.take k):Nat)/\aj wr w) (λ_ i _=>n-(intOf i).toNat);exact⟨0,aR _,rfl,rfl,aC⟩;obtain⟨k,L,rfl,rfl,hp⟩:=hrel;have u:tJ z (ps.take k)<=k:=aQ uJ ch;obtain⟨j,b⟩:=lh (tJ z (ps.take k));rw[b]at u⊢;have D:=U b;clear b;by_cases C:k<n
 .obtain⟨M,o1,x,y,rfl,F,N,O,G⟩:=i.get C;have l:Z (tJ z (ps.take (k+1))=if x=z then j+1 else j):=U (by
   rw[tJ,take_at G.o,PV,List.countP_singleton,show List.countP (λx=>x.1==z) (ps.take k)=j from D.o];by_cases h:x=z<;>simp[h])
  by_cases r:x=z
  .subst r;have e:Z (tJ x (ps.take (k+1))=j+1):=U (by rw[l.o,ah rfl]);clear l;go_wp2_with fail;go_roundw;exact⟨k+1,Y,by go_num,by rw[e.o];simp,aC⟩;exact zL4
  have e:Z (tJ z (ps.take (k+1))=j):=U (by rw[l.o,ag r]);(have P:(x==z)=false:=by simpa using r);clear l r;go_wp2_with fail;go_roundw;exact⟨k+1,Y,by go_num,by rw[e.o],aC⟩;exact zL4
 obtain rfl:j=V:=by rw[<-D.o,<-hV.o,bV (by rw[<-E.o];omega)]
 exact zL1
def CC{b:Bool}(hb:Z (ep z=b)):() 77 #[z] w (aL w (.bool b)):=
 (nR z w).mono λe w' ⟨j,l⟩=>⟨by rw[j,hb.o],l▸⟨aY _ _⟩⟩
def qq[Is w A n ps](b:n<=65536)(hE:Z (gT ps=E)):() 33 #[(A,n,c)] w (aL w E):=by
 obtain rfl:=hE.o;exact T7 b
def zLc(h:Γ:=by go_wp2_with (go_at_call 31;refine mv (Ap Y X2 X3) λu9 _=>?_);go_ret2;exact bF):=h
def KX[i:Is w A n ps](hn:n<=65536)[s:Sl w B m cost]{V:Int}(hV:Z (wn cost ps=V))(hE:Z (Cz cost ps=E)):() 37 #[(A,n,c),(B,m,d)] w (aL w (.tuple #[V,E])):=by
 obtain⟨CB,CP⟩:=hY;have HL:Z (n=ps):=i.len;have HM:Z (m=cost):=s.len;have b:=hE.o;have e:=hV.o;rw[Cz]at b;rw[wn]at e;obtain⟨ck,D⟩:=lh (gT ps);rw[D]at b e;have T:Z (gT ps=ck):=D;go_in;by_cases G:ck=0
 .subst G;rw[ah rfl]at b e;(have O:Iv ps=true:=by unfold gT at D;split at D;assumption;omega);have aeY:=U O;obtain⟨S,hS⟩:=lh (gm cost ps);rw[hS]at b e;have HS:=U hS;have I:=U b;have L:=U e;clear b e hS O D;go_wp2_with (go_at_call 33;refine mv (qq Y T) λu _=>?_);go_loopw [7,19] (λs i wr=>∃(j:Nat) (A:bz) (c:Nat) (X:au),j<=n/\i=.int .i64 j/\s=.slice A X c/\X<=j/\aD wr u.1.size 3 A c X/\Z (S=(gm cost (ps.drop j)).map (X++ ·))/\aj wr u) (λ_ i _=>n-(intOf i).toNat);exact⟨0,none,0,[],aR _,rfl,rfl,al _,aD.nil _ _ _,U (by rw[<-HS.o];simp),⟨aY _ _⟩⟩;obtain⟨j,A',c',X,hj,rfl,rfl,hXl,hO,HJ,hp⟩:=hrel;by_cases bD:j<n
  .obtain⟨b1,o1,x,y,rfl,mM,v1,v2,e1⟩:=i.get bD;have P:Z (S=(if x=1\/x=2 then(if ep (cost.getD y.toNat (-1))then(gm cost (ps.drop (j+1))).map (cost.getD y.toNat (-1):: ·)else none)else gm cost (ps.drop (j+1))).map (X++ ·)):=U (by
    obtain⟨h1,h2⟩:=bj.1 e1.o;rw[HJ.o,e7 h1,h2];rfl)
   by_cases Q:x=1\/x=2
   .have hy:1<=y/\y<=512:=by have:=dL.1 aeY _ (aK e1.o);rw[m9 Y]at this;simpa using this
    obtain⟨q,rfl⟩:=bO (show 0<=y by omega);(have F:ep (cost.getD q (-1))=false->E=10/\V=0:=λhb=>by (have hSn:S=none:=by rw[P.o,ah Q,a9,hb];rfl);have h1:=I.o;have h2:=L.o;rw[hSn]at h1 h2;exact⟨h1.symm,h2.symm⟩);by_cases M:q<m
    .obtain⟨b2,q2,z,rfl,iM,vz,ez⟩:=s.get M;(have N:cost.getD q (-1)=z:=by rw[a5,ez.o];rfl);rw[N]at F;(have RJ:¬(m:Int)<=(q:Int):=by omega);rcases xm:ep z with _|_
     .obtain⟨rfl,rfl⟩:=F xm;have HZ:=U xm;clear xm N P HJ F I L M;rcases Q with rfl|rfl;all_goals go_wp2_with (go_at_call 77;refine mv (CC HZ) λu9 _=>?_);go_ret2;exact bF
     have HZ:=U xm;have R:Z (S=(gm cost (ps.drop (j+1))).map ((X++[z])++ ·)):=U (by
      rw[P.o,ah Q,a9,N,xm,ah rfl,Option.map_map];congr 1
      funext l
      simp)
     clear xm N P HJ F M;rcases Q with rfl|rfl;all_goals go_wp2_with (first|(go_at_call 77;refine mv (CC HZ) λu9 _=>?_)|(at_builtin;refine iS rfl _ _ _ rfl 3 underlying24 ap u.1.size A' c' X rfl hO.at z rfl Y ai ?_;intro A3 c3 w3 lN s9 _ _));go_roundw;exact⟨j+1,A3,c3,_,Y,by go_num,aI,by simp;omega,lN,R,⟨(aO u u9).trans s9⟩⟩;exact zL4
    obtain⟨rfl,rfl⟩:=F (by rw[a5,ej (by rw[<-HM.o];omega)];rfl);(have RJ:(m:Int)<=(q:Int):=by omega);clear P HJ F I L M;rcases Q with rfl|rfl;all_goals go_wp2_with fail;go_ret2;exact bF
   have R:Z (S=(gm cost (ps.drop (j+1))).map (X++ ·)):=U (by rw[P.o,ag Q]);(have b1:(x !=1)=true:=by simp;omega);(have b2:(x !=2)=true:=by simp;omega);clear P Q;go_wp2_with fail;go_roundw;exact⟨j+1,A',c',X,Y,by go_num,rfl,Y,hO.at,R,aC⟩;exact zL4
  have hSX:S=some X:=by rw[HJ.o,eU (by rw[<-HL.o];omega)];simp[gm]
  have C:=I.o;have r:=L.o;rw[hSX]at C r;dsimp only at C r;obtain⟨K,hK⟩:=lh (yN X);obtain⟨J,hJ⟩:=lh (v9 X);rw[hJ]at C r;rw[hK]at r;have X2:=U hK;have X3:=U hJ;have sX:Sl wr A' X X:=⟨hO.rd,rfl⟩;clear hK hJ hSX;by_cases G:J=0;subst G;rw[ah rfl]at C r;subst C r;exact zLc;rw[ag G]at C r;subst C r;(have b0:(J !=0)=true:=by simp[G]);clear G;exact zLc
 rw[ag G]at b e;subst b e;have b0:(ck !=0)=true:=by simp[G]
 clear D G;go_wp2_with (go_at_call 33;refine mv (qq Y T) λu _=>?_);go_ret2;exact bF
end
variable{p:World}{ss:List Sp}
structure jH where
 words:List Int
 cost:List Int
 ins:List (List Int)
 order:List Int
 g2:Nat
 cap:Int
structure jI where
 bu:List Bool
 saved:List Bool
 aN:List Bool
 eR:Bool
 fX:Bool
 done:Int
 now:Int
 kq:Int
structure px where
 AW:Option Addr
 cW:Nat
 AC:Option Addr
 cC:Nat
 AI:Option Addr
 cI:Nat
 AO:Option Addr
 cO:Nat
structure lR(p:World)(a:px)(m:Nat)(C:jH)(ss:List Sp):Prop where
 words:Sl p a.AW (m+1) C.words
 cost:Sl p a.AC (m+1) C.cost
 ins:dX p a.AI (m+1) ss
 X7:aX ss=C.ins
 order:Sl p a.AO m C.order
 g2:C.g2<=m
 ko:∀l∈C.ins,l.length<=1000/\∀z∈l,0<=z/\z<=m
 hm:m<=1000
 wb:∀z∈C.words,0<=z/\z<=1099511627776
abbrev cZ(p:World)(a:px)(m:Nat)(C:jH)(s:jI):Array Value:=
 #[.slice a.AW (m+1) a.cW,.slice a.AC (m+1) a.cC,.slice a.AI (m+1) a.cI,.slice a.AO m a.cO,C.g2,C.cap,.slice (some ⟨p.1.size+1,0,none⟩) (m+1) (m+1),.slice (some ⟨p.1.size+1+1,0,none⟩) (m+1) (m+1),.slice (some ⟨p.1.size+1+1+1,0,none⟩) (m+1) (m+1),
  .bool s.eR,.bool s.fX,.int .i64 s.done,.int .i64 s.now,.int .i64 s.kq]
@[grind cases]structure ee(p w:World)(a:px)(m:Nat)(C:jH)(s:jI):Prop where
 prev:aj w p
 st:aA w p.1.size 108 (cZ p a m C s)
 pr:aA w (p.1.size+1) 4 (eB s.bu)
 sv:aA w (p.1.size+1+1) 4 (eB s.saved)
 gr:aA w (p.1.size+1+1+1) 4 (eB s.aN)
 lp:s.bu=m+1
 ls:s.saved=m+1
 lg:s.aN=m+1
def na(C:jH)(s:jI)(id:Nat):Bool:=(C.ins.getD id []).all λz=>s.bu.getD z.toNat false
def od(C:jH)(s:jI):Bool:=s.eR&&decide (s.done=(C.order.length:Int))
section
variable{w:World}{a:px}{C:jH}{s:jI}
def ee.at(h:ee p w a m C s)[l:aM w w']:ee p w' a m C s:=⟨⟨dm h.prev.st l.st⟩,h.st.at,h.pr.at,h.sv.at,h.gr.at,h.lp,h.ls,h.lg⟩
theorem ee.FP(h:ee p w a m C s)(i:Nat)(b:Bool):ee p (w.setCell (p.1.size+1,i) (.bool b)) a m C {s with bu:=s.bu.set i b}:=
 ⟨⟨h.prev.st.setCell (p:=⟨p.1.size+1,i,none⟩) (db _) _⟩,h.st.aV aI _,by rw[<-m6];exact h.pr.av i _,h.sv.aV aI _,h.gr.aV ay _,by simp[h.lp],h.ls,h.lg⟩
theorem ee.aeZ(h:ee p w a m C s)(i:Nat)(b:Bool):ee p (w.setCell (p.1.size+1+1,i) (.bool b)) a m C {s with saved:=s.saved.set i b}:=
 ⟨⟨h.prev.st.setCell (p:=⟨p.1.size+1+1,i,none⟩) ay _⟩,h.st.aV ay _,h.pr.aV aI _,by rw[<-m6];exact h.sv.av i _,h.gr.aV aI _,h.lp,by simp[h.ls],h.lg⟩
theorem ee.ae0(h:ee p w a m C s)(i:Nat)(b:Bool):ee p (w.setCell (p.1.size+1+1+1,i) (.bool b)) a m C {s with aN:=s.aN.set i b}:=
 ⟨⟨h.prev.st.setCell (p:=⟨p.1.size+1+1+1,i,none⟩) ay _⟩,h.st.aV ay _,h.pr.aV ay _,h.sv.aV aI _,by rw[<-m6];exact h.gr.av i _,h.lp,h.ls,by simp[h.lg]⟩
def zL5(h:Γ:=by refine a8 ?_;exact zL1):=h
theorem xL(hP:lR p a m C ss)(h:ee p w a m C s){b:Bool}(hb:Z (od C s=b)):() 36 #[.pointer p.1.size] w (aL w (.bool b)):=by
 have u:=@az;have y:Bx w p.1.size 108 (cZ p a m C s):=⟨h.st⟩;have e:C.order=m:=hP.order.len.symm;have j:=hb.o;rw[od,e]at j;clear e;go_in;rcases he:s.eR with _|_
 .obtain rfl:b=false:=ay;clear j;go_upto_region 1 with fail;refine aq ap (λl _=>?_);refine qL [0,1,2,3,4,505,506,507,508,509,510,511,512,513,514,15,16] ?_;exact zL5
 have r:Z (decide (s.done=(m:Int))=b):=U ay;clear j;go_upto_region 1 with fail;refine aq ap (λl _=>?_);refine qL [0,1,2,3,4,5,6,7,8,9,10,11,12,13,14,15,16] ?_;refine a8 ?_;go_wp2_with fail;go_ret;exact⟨by rw[<-r.o];try rfl,aC⟩
def zL9(h:Γ:=by go_wp2_with fail;go_ret;exact⟨rfl,⟨aY _ _⟩⟩):=h
def X8(h:ee p w a m C s):() 234 #[.pointer p.1.size] w (aL w (.int .i64 s.kq)):=by
 have b:=@az;have e:Bx w p.1.size 108 (cZ p a m C s):=⟨h.st⟩;go_in;exact zL9
end
variable{s:jI}
section
variable{w:World}{a:px}{C:jH}
def py(hP:lR p a m C ss)(h:ee p w a m C s){id:Nat}(hid:id<=m){b:Bool}(hb:Z (na C s id=b)):() 139 #[.pointer p.1.size,id] w (aL w (.bool b)):=by
 obtain⟨S,T⟩:=hY;have V:Bx w p.1.size 108 (cZ p a m C s):=⟨h.st⟩;have X:=h.prev;obtain⟨AW,cW,AC,cC,AI,cI,AO,cO⟩:=a;have L:dX p AI (m+1) ss:=hP.ins;obtain⟨b1,o1,A1,m1,c1,zs,rfl,M,v1,u,l1,N⟩:=L.get (k:=id) Y;have B:C.ins[id]?=some zs:=by rw[<-hP.X7];exact N.o
 have e:=hP.ko zs (aK B);have O:m1<=1000:=by rw[u.len];exact e.1
 have P:Z (m1=zs):=u.len;have D:=U e.2;have I:Z (zs.all (λz=>s.bu.getD z.toNat false)=b):=U (by rw[<-hb.o,na,a5,B];rfl);clear B e;go_in;go_wp2_with fail;go_loop [15] (λi=>∃j:Nat,j<=m1/\i=.int .i64 j/\Z ((zs.take j).all (λz=>s.bu.getD z.toNat false)=true)) (λi=>m1-(intOf i).toNat);exact⟨0,aR _,rfl,U rfl⟩;obtain⟨j,hj,rfl,J⟩:=hrel;by_cases E:j<m1
 .obtain⟨b2,q2,z,rfl,Q,vz,F⟩:=u.get E;have r:=D.o z (aK F.o);obtain⟨y,rfl⟩:=bO r.1;have R:y<m+1:=Y;obtain⟨K,l⟩:∃x,s.bu[y]?=some x:=⟨_,bk (by rwa[h.lp])⟩;have hc:=(h.pr.cell y).trans (ce l);(have hg:s.bu.getD ((y:Int)).toNat false=K:=by rw[a9,a5,l];rfl);clear l r;rcases K with _|_;(obtain rfl:b=false:=by rw[<-I.o,pI];exact⟨_,aK F.o,by rw[hg];simp⟩);clear hg;exact zL9;have G:Z ((zs.take (j+1)).all (λz=>s.bu.getD z.toNat false)=true):=U (by rw[take_at F.o,va,J.o,aaL,hg];rfl);clear hg;go_wp2_with fail;go_round;exact⟨j+1,Y,by go_num,G⟩;exact zL4
 obtain rfl:b=true:=by rw[<-I.o];have:=J.o;rwa[bV (by rw[<-P.o];omega)]at this
 exact zL9
end
def jo(G:List Bool):List Int->List Int->List Int
 |[],l=>l
 |z::t,l=>jo G t (if z≠0/\G.getD z.toNat false=false/\l.contains z=false then l++[z]else l)
def iz(C:jH)(s:jI)(id:Nat):List Int:=jo s.aN (C.ins.getD id []) []
section
variable{w:World}{a:px}{C:jH}
def zL6(h:Γ:=by go_roundw;exact⟨j+1,e,r,X,Y,by go_num,rfl,Y,hO.at,b,aC⟩;exact zL4):=h
def FQ(hP:lR p a m C ss)(h:ee p w a m C s){id:Nat}(hid:id<=m){F:au}(hF:Z (iz C s id=F)):() 89 #[.pointer p.1.size,id] w (Bc w F):=by
 obtain⟨CB,CP⟩:=hY;have kS:Bx w p.1.size 108 (cZ p a m C s):=⟨h.st⟩;have pp:=h.prev;obtain⟨AW,cW,AC,cC,AI,cI,AO,cO⟩:=a;have sI:dX p AI (m+1) ss:=hP.ins;obtain⟨b1,o1,A1,m1,c1,zs,rfl,mM,v1,L,l1,e1⟩:=sI.get (k:=id) Y;have M:C.ins[id]?=some zs:=by rw[<-hP.X7];exact e1.o
 have B:=hP.ko zs (aK M);have lz:m1<=1000:=by rw[L.len];exact B.1
 have HL:Z (m1=zs):=L.len;have N:=U B.2;have G:Z (jo s.aN zs []=F):=U (by rw[<-hF.o,iz,a5,M];rfl);clear M B;go_in;go_wp2_with fail;go_loopw [5,16] (λt i wr=>∃(j:Nat) (e:bz) (r:Nat) (X:au),j<=m1/\i=.int .i64 j/\t=.slice e X r/\X<=j/\aD wr w.1.size 3 e r X/\Z (jo s.aN (zs.drop j) X=F)/\aj wr w) (λ_ i _=>m1-(intOf i).toNat);exact⟨0,none,0,[],aR _,rfl,rfl,al _,aD.nil _ _ _,G,⟨aY _ _⟩⟩;clear G;obtain⟨j,e,r,X,hj,rfl,rfl,hXl,hO,G,hp⟩:=hrel;have hS:=h.at (w':=wr);by_cases O:j<m1
 .obtain⟨b2,q2,z,rfl,iM,T,V⟩:=L.get O;have I:=N.o z (aK V.o);obtain⟨y,rfl⟩:=bO I.1;have hy:y<m+1:=Y;obtain⟨P,D⟩:∃x,s.aN[y]?=some x:=⟨_,bk (by rwa[h.lg])⟩;have hc:=(hS.gr.cell y).trans (ce D);have hg:s.aN.getD ((y:Int)).toNat false=P:=by rw[a9,a5,D];rfl
  have l:Z (jo s.aN (zs.drop (j+1)) (if(y:Int)≠0/\P=false/\X.contains (y:Int)=false then X++[(y:Int)]else X)=F):=U (by
   obtain⟨h1,h2⟩:=bj.1 V.o;have:=G.o;rw[e7 h1,h2,jo,hg]at this;exact this)
  have sX:Sl wr e X X:=⟨hO.rd,rfl⟩;clear D I hg hS;by_cases K:y=0
  .subst K;have b:Z (jo s.aN (zs.drop (j+1)) X=F):=U (by have:=l.o;rwa[ag (λh=>h.1 rfl)]at this);have Q:=T;rw[show((0:Nat):Int)=0 from rfl]at Q;clear l T hc;go_wp2_with fail;exact zL6
  have b0:((y:Int) !=0)=true:=by simp;omega
  rcases P with _|_
  .obtain⟨cb,E⟩:=lh (X.contains (y:Int));have J:=U E;rw[E]at l;clear E;rcases cb with _|_
   .have b:Z (jo s.aN (zs.drop (j+1)) (X++[(y:Int)])=F):=U (by have:=l.o;rwa[ah ⟨Y,rfl,rfl⟩]at this);clear l K;go_wp2_with (first|(go_at_call 140;refine mv (tC Y J) λu _=>?_)|(at_builtin;refine iS rfl _ _ _ rfl 3 underlying24 ap w.1.size e r X rfl hO.at (y:Int) rfl Y ai ?_;intro A3 c3 w3 R S _ _));go_roundw;exact⟨j+1,A3,c3,_,Y,by go_num,aI,by simp;omega,R,b,⟨(aO w u).trans S⟩⟩;exact zL4
   have b:Z (jo s.aN (zs.drop (j+1)) X=F):=U (by have:=l.o;rwa[ag (λh=>by cases h.2.2)]at this);clear l K;go_wp2_with (go_at_call 140;refine mv (tC Y J) λu _=>?_);exact zL6
  have b:Z (jo s.aN (zs.drop (j+1)) X=F):=U (by have:=l.o;rwa[ag (λh=>by cases h.2.1)]at this);clear l K;go_wp2_with fail;exact zL6
 have hx:X=F:=by have:=G.o;rwa[eU (by rw[<-HL.o];omega)]at this
 subst hx;go_wp2_with fail;go_ret;exact⟨e,r,rfl,hO.at,aC⟩
end
variable{y:Int}
def eD(C:jH)(s:jI)(b:Int)(id:Nat):Int:=
 if b=1\/b=2 then C.words.getD id 0 else if b=5 then C.words.getD C.g2 0 else if b=6 then((iz C s id).map λz=>C.words.getD z.toNat 0).sum else 0
section
variable{w:World}{a:px}{C:jH}
def CB(hP:lR p a m C ss)(h:ee p w a m C s){id:Nat}(hid:id<=m)(b:y=1\/y=2){V:Int}(hV:Z (eD C s y id=V)):() 88 #[.pointer p.1.size,.agg #[y,id]] w (aL w V):=by
 obtain⟨u,B⟩:=hY;have D:Bx w p.1.size 108 (cZ p a m C s):=⟨h.st⟩;have E:=h.prev;obtain⟨AW,cW,AC,cC,AI,cI,AO,cO⟩:=a;have j:Sl p AW (m+1) C.words:=hP.words;obtain⟨F,o1,z,rfl,l,G,r⟩:=j.get (k:=id) Y;obtain rfl:z=V:=by rw[<-hV.o,eD,ah b,g3 r.o]
 have e:(id:Int)<(m:Int)+1:=by omega
 go_in;rcases b with rfl|rfl;all_goals go_upto_region 4 with fail;refine aq ap (λI _=>?_);refine qL [0,1,2,3,4,5,6,7,8] ?_;refine a8 ?_;go_wp2_with fail;go_ret;exact bF
def T9(hP:lR p a m C ss)(h:ee p w a m C s){V:Int}(hV:Z (eD C s 5 0=V)):() 88 #[.pointer p.1.size,.agg #[(5:Int),id]] w (aL w V):=by
 obtain⟨r,u⟩:=hY;have y:Bx w p.1.size 108 (cZ p a m C s):=⟨h.st⟩;have B:=h.prev;obtain⟨AW,cW,AC,cC,AI,cI,AO,cO⟩:=a;have D:=hP.g2;have b:(C.g2:Int)<(m:Int)+1:=by omega
 have e:Sl p AW (m+1) C.words:=hP.words;obtain⟨E,o1,z,rfl,j,F,l⟩:=e.get (k:=C.g2) Y;obtain rfl:z=V:=by rw[<-hV.o,eD,ag Y,ah rfl,g3 l.o]
 go_in;go_upto_region 6 with fail;refine aq ap (λG _=>?_);refine qL [0,1,2,3,4,5,6,7,8,9,10] ?_;exact zL5
def CD(b:z=3\/z=4){P:Value}:() 88 #[P,.agg #[z,id]] w (aL w an):=by
 have e:=@az;go_in;rcases b with rfl|rfl;all_goals go_wp2_with fail;go_ret;exact bF
end
def CE(G:List Bool):∀(zs l:au),∀x∈jo G zs l,x∈zs\/x∈l
 |[],_,_,h=>.inr h
 |z::t,l,x,h=>by rw[jo]at h;rcases CE G t _ x h with h|h;exact .inl (iD _ h);split at h;rcases cu.1 h with h|h;exact .inr h;exact .inl (by rw[de.1 h];exact dD);exact .inr h
def CG(G:List Bool):∀(zs l:au),(jo G zs l).length<=l+zs.length
 |[],_=>by simp[jo]
 |z::t,l=>by rw[jo];refine aQ (CG G t _) ?_;split<;>first|(simp;done)|(simp;omega)
section
variable{w:World}{a:px}{C:jH}
def Q5{L:au}{b:Int}(h:∀z∈L,0<=z/\z<=b):0<=L.sum/\L.sum<=(L.length:Int)*b:=by
 induction L with
 |nil=>simp
 |cons z t e=>have l:=h z dD;have r:=e λx j=>h x (iD _ j);rw[jL,fD,en,l0];omega
def Ua(hP:lR p a m C ss)(h:ee p w a m C s){id:Nat}(hid:id<=m){V:Int}(hV:Z (eD C s 6 id=V)):() 88 #[.pointer p.1.size,.agg #[(6:Int),id]] w (aL w V):=by
 obtain⟨CB,CP⟩:=hY;have pp:=h.prev;obtain⟨F,hF⟩:=lh (iz C s id);have HF:=U hF;have HV:Z ((F.map λz=>C.words.getD z.toNat 0).sum=V):=U (by rw[<-hV.o,eD,ag Y,ag Y,ah rfl,hF]);have B:id<C.ins:=by rw[<-hP.X7,cR,<-hP.ins.len];omega
 have l:C.ins.getD id []∈C.ins:=by rw[a5,bk B];exact Av _
 have hFl:F.length<=1000:=by have T:=CG s.aN (C.ins.getD id []) [];have h2:=(hP.ko _ l).1;rw[<-hF];rw[ja,cQ]at T;exact aQ T h2
 have K:Z (∀z∈F,0<=z/\z<=m):=λz X=>by rw[<-hF]at X;rcases CE _ _ _ z X with h|h;exact(hP.ko _ l).2 z h;cases h
 have M:C.words=m+1:=hP.words.len.symm;have G:Z (∀y:Nat,0<=C.words.getD y 0/\C.words.getD y 0<=1099511627776):=λy=>by rw[a5];rcases N:C.words[y]? with _|z;simp;exact hP.wb z (aK N)
 clear hF B l M;go_in;go_wp2_with (go_at_call 89;refine er (λu0 _ _=>?_);refine(FQ hP (h.at (w':=u0)) hid HF).mono ?_;rintro e u ⟨AF,cF,rfl,oF,_⟩);have sF:Sl u AF F F:=⟨oF.rd,rfl⟩;have hS:=h.at (w':=u);have kS:Bx u p.1.size 108 (cZ p a m C s):=⟨hS.st⟩;obtain⟨AW,cW,AC,cC,AI,cI,AO,cO⟩:=a;have sW:Sl p AW (m+1) C.words:=hP.words;go_loop [5,40] (λt i=>∃j:Nat,j<=F/\i=.int .i64 j/\t=.int .i64 ((F.take j).map λz=>C.words.getD z.toNat 0).sum) (λ_ i=>F.length-(intOf i).toNat);exact⟨0,aR _,rfl,rfl⟩
 obtain⟨j,hj,rfl,rfl⟩:=hrel;have O:=Q5 (L:=(F.take j).map λz=>C.words.getD z.toNat 0) (b:=1099511627776) (λx hx=>by
  obtain⟨y,_,rfl⟩:=cw.1 hx;exact G.o _)
 have P:((F.take j).map λz=>C.words.getD z.toNat 0).length<=1000:=by simp;omega
 obtain⟨S,r⟩:=lh (((F.take j).map λz=>C.words.getD z.toNat 0).sum);obtain⟨sl,D⟩:=lh (((F.take j).map λz=>C.words.getD z.toNat 0).length);rw[r,D]at O;rw[D]at P;rw[r];have I:=U r;clear r D;by_cases Q:j<F
 .obtain⟨b2,q2,z,rfl,iM,vz,ez⟩:=sF.get Q;have J:=K.o z (aK ez.o);obtain⟨y,rfl⟩:=bO J.1;have N:y<m+1:=Y;obtain⟨b3,q3,zw,rfl,SZ,vw,ew⟩:=sW.get N;have E:C.words.getD y 0=zw:=g3 ew.o;have R:=G.o y;rw[E]at R;have HT:Z (((F.take (j+1)).map λz=>C.words.getD z.toNat 0).sum=S+zw):=U (by rw[take_at ez.o,c9,sA,I.o,eh,lM,jL,List.sum_nil,a9,E,P7]);clear E J;go_wp2_with fail;go_round;exact⟨j+1,Y,by go_num,by rw[HT.o]⟩;exact zL4
 obtain rfl:S=V:=by rw[<-HV.o,<-I.o,bV Y]
 exact zL1
end
variable{i:Nat}{v:Value}
section
variable{w:World}{a:px}{C:jH}{s':jI}
theorem ee.CH(h:ee p w a m C s)(b:(cZ p a m C s).setIfInBounds i v=cZ p a m C s')(e:s'.bu=s.bu)(j:s'.saved=s.saved)(l:s'.aN=s.aN):ee p (w.setCell (p.1.size,i) v) a m C s':=
 ⟨⟨h.prev.st.setCell (p:=⟨p.1.size,i,none⟩) (al _) _⟩,by rw[<-b];exact h.st.av i v,by rw[e];exact h.pr.aV aI _,by rw[j];exact h.sv.aV ch _,by rw[l];exact h.gr.aV ch _,ay,ay,ay⟩
def ee.adu(h:ee p w a m C s)(b:Bool):ee p (w.setCell (p.1.size,9) (.bool b)) a m C {s with eR:=b}:=h.CH rfl rfl rfl rfl
def ee.adv(h:ee p w a m C s)(b:Bool):ee p (w.setCell (p.1.size,10) (.bool b)) a m C {s with fX:=b}:=h.CH rfl rfl rfl rfl
def ee.adw(h:ee p w a m C s)(z:Int):ee p (w.setCell (p.1.size,11) z) a m C {s with done:=z}:=h.CH rfl rfl rfl rfl
def ee.abw(h:ee p w a m C s)(z:Int):ee p (w.setCell (p.1.size,12) z) a m C {s with now:=z}:=h.CH rfl rfl rfl rfl
def ee.adx(h:ee p w a m C s)(z:Int):ee p (w.setCell (p.1.size,13) z) a m C {s with kq:=z}:=h.CH rfl rfl rfl rfl
def dW(C:jH)(s:jI)(b:Int)(id:Nat):Bool:=
 if b=1 then !s.saved.getD id false&&na C s id
 else if b=2 then s.saved.getD id false&& !s.bu.getD id false&&na C s id
 else if b=3 then s.bu.getD id false
 else if b=4 then s.bu.getD C.g2 false&& !s.eR
 else if b=5 then !s.fX
 else s.aN.getD id false&&na C s id&&decide (s.done<(C.order.length:Int))&&(C.order.getD ((C.order.length:Int)-1-s.done).toNat 0==(id:Int))
end
section
variable{w:World}{a:px}{C:jH}
def ii{L:List Bool}{n:Nat}(j:L=n)(h:i<n):∃b,L[i]?=some b/\L.getD i false=b:=by
 have e:L[i]?=some (L[i]'Y):=bk _;exact⟨_,e,by rw[a5,e];rfl⟩
def OH(hP:lR p a m C ss)(h:ee p w a m C s){id:Nat}(hid:id<=m){b:Bool}(hb:Z (dW C s 3 id=b)):() 87 #[.pointer p.1.size,.agg #[(3:Int),id]] w (aL w (.bool b)):=by
 have u:=@az;have y:Bx w p.1.size 108 (cZ p a m C s):=⟨h.st⟩;obtain⟨r,e,j⟩:=ii h.lp (show id<m+1 by omega);obtain rfl:r=b:=by rw[<-hb.o,dW];simp only[j];rfl
 have z:Bx w (p.1.size+1) 4 (eB s.bu):=⟨h.pr⟩;have hg:=ce e;have l:(id:Int)<(m:Int)+1:=by omega
 clear e j;go_in;exact zL1
def OI(h:ee p w a m C s){b:Bool}(hb:Z (dW C s 5 0=b)):() 87 #[.pointer p.1.size,.agg #[(5:Int),id]] w (aL w (.bool b)):=by
 have e:=@az;have j:Bx w p.1.size 108 (cZ p a m C s):=⟨h.st⟩;obtain rfl:(!s.fX)=b:=by rw[<-hb.o];rfl
 go_in;exact zL1
def zL8(h:Γ:=by (obtain rfl:b=false:=by rw[<-l];rfl);clear l;exact zL1):=h
def OJ(hP:lR p a m C ss)(h:ee p w a m C s){id:Nat}(hid:id<=m){b:Bool}(hb:Z (dW C s 1 id=b)):() 87 #[.pointer p.1.size,.agg #[(1:Int),id]] w (aL w (.bool b)):=by
 have G:=@az;have I:Bx w p.1.size 108 (cZ p a m C s):=⟨h.st⟩;obtain⟨y,z,B⟩:=ii h.ls (show id<m+1 by omega);obtain⟨D,j⟩:=lh (na C s id);have l:(!y&&D)=b:=by rw[<-hb.o,dW];simp only[B,j];rfl
 have r:=U j;have J:Bx w (p.1.size+1+1) 4 (eB s.saved):=⟨h.sv⟩;have hg:=ce z;have E:(id:Int)<(m:Int)+1:=by omega
 clear z B j;go_in;rcases y with _|_
 .obtain rfl:D=b:=by rw[<-l];rfl
  clear l;go_wp2_with (go_at_call 139;refine er (λF _ _=>?_);refine(py hP (h.at (w':=F)) hid r).mono ?_;rintro e u ⟨rfl,_⟩);go_ret;exact bF
 exact zL8
end
section
variable{w:World}{a:px}{C:jH}
def OK(hP:lR p a m C ss)(h:ee p w a m C s){id:Nat}(hid:id<=m){b:Bool}(hb:Z (dW C s 2 id=b)):() 87 #[.pointer p.1.size,.agg #[(2:Int),id]] w (aL w (.bool b)):=by
 have L:=@az;have M:Bx w p.1.size 108 (cZ p a m C s):=⟨h.st⟩;obtain⟨y,z,B⟩:=ii h.ls (show id<m+1 by omega);obtain⟨D,E,F⟩:=ii h.lp (show id<m+1 by omega);obtain⟨G,j⟩:=lh (na C s id);have l:(y&& !D&&G)=b:=by rw[<-hb.o,dW];simp only[B,F,j];rfl
 have r:=U j;have N:Bx w (p.1.size+1+1) 4 (eB s.saved):=⟨h.sv⟩;have O:Bx w (p.1.size+1) 4 (eB s.bu):=⟨h.pr⟩;have hg:=ce z;have J:=ce E;have I:(id:Int)<(m:Int)+1:=by omega
 clear z B E F j;go_in;rcases y with _|_;exact zL8;rcases D with _|_
 .obtain rfl:G=b:=by rw[<-l];rfl
  clear l;go_wp2_with (go_at_call 139;refine er (λK _ _=>?_);refine(py hP (h.at (w':=K)) hid r).mono ?_;rintro e u ⟨rfl,_⟩);go_ret;exact bF
 exact zL8
def OL(hP:lR p a m C ss)(h:ee p w a m C s){b:Bool}(hb:Z (dW C s 4 0=b)):() 87 #[.pointer p.1.size,.agg #[(4:Int),id]] w (aL w (.bool b)):=by
 have B:=@az;have D:Bx w p.1.size 108 (cZ p a m C s):=⟨h.st⟩;have E:=hP.g2;obtain⟨j,l,r⟩:=ii h.lp (show C.g2<m+1 by omega);have e:(j&& !s.eR)=b:=by rw[<-hb.o,dW];simp only[r];rfl
 have F:Bx w (p.1.size+1) 4 (eB s.bu):=⟨h.pr⟩;have u:=ce l;have y:(C.g2:Int)<(m:Int)+1:=by omega
 clear l r;go_in;rcases j with _|_
 .obtain rfl:b=false:=by rw[<-e];rfl
  clear e;go_upto_region 10 with fail;refine aq ap (λz _=>?_);refine qL [0,1,2,3,4,5,6,7,8,9,10,511,512,513,514,515,16,17] ?_;exact zL5
 obtain rfl:(!s.eR)=b:=by rw[<-e];rfl
 clear e;go_upto_region 10 with fail;refine aq ap (λz _=>?_);refine qL [0,1,2,3,4,5,6,7,8,9,10,11,12,13,14,15,16,17] ?_;exact zL5
end
section
variable{w:World}{a:px}{C:jH}
def KY(hP:lR p a m C ss)(h:ee p w a m C s){id:Nat}(hid:id<=m)(b:s.aN.getD id false=false):() 87 #[.pointer p.1.size,.agg #[(6:Int),id]] w (aL w (.bool false)):=by
 have y:=@az;have z:Bx w p.1.size 108 (cZ p a m C s):=⟨h.st⟩;obtain⟨r,e,j⟩:=ii h.lg (show id<m+1 by omega);obtain rfl:r=false:=by rwa[<-j]
 have B:Bx w (p.1.size+1+1+1) 4 (eB s.aN):=⟨h.gr⟩;have u:=ce e;have l:(id:Int)<(m:Int)+1:=by omega
 clear e j b;go_in;go_upto_region 14 with fail;refine aq ap (λD _=>?_);refine qL [0,1,2,3,4,5,6,7,508,509,510,11,12,513,514,515,516,517,518,519,520,521,522,23,24,525,526,527,528,529,530,531,532,533,534,535,536,537,538,539,540,541,542,543,44,45] ?_;exact zL5
def KZ(hP:lR p a m C ss)(h:ee p w a m C s){id:Nat}(hid:id<=m)(j:s.aN.getD id false=true)(b:Z (na C s id=false)):() 87 #[.pointer p.1.size,.agg #[(6:Int),id]] w (aL w (.bool false)):=by
 have D:=@az;have E:Bx w p.1.size 108 (cZ p a m C s):=⟨h.st⟩;obtain⟨y,l,r⟩:=ii h.lg (show id<m+1 by omega);obtain rfl:y=true:=by rwa[<-r]
 have F:Bx w (p.1.size+1+1+1) 4 (eB s.aN):=⟨h.gr⟩;have z:=ce l;have u:(id:Int)<(m:Int)+1:=by omega
 clear l r j;go_in;go_upto_region 14 with fail;refine aq ap (λB _=>?_);refine qL [0,1,2,3,4,5,6,7,8,9] ?_;refine aJ 10 λK hK=>?_;go_simp;refine(py hP h.at hid b).mono ?_;rintro e B ⟨rfl,_⟩;dsimp only;refine aE hK ?_;refine qL [11,12,513,514,515,516,517,518,519,520,521,522,23,24,525,526,527,528,529,530,531,532,533,534,535,536,537,538,539,540,541,542,543,44,45] ?_;exact zL5
end
section
variable{w:World}{a:px}{C:jH}
def K0(hP:lR p a m C ss)(h:ee p w a m C s){id:Nat}(hid:id<=m)(j:s.aN.getD id false=true)(b:Z (na C s id=true))(hd:¬s.done<(m:Int)):() 87 #[.pointer p.1.size,.agg #[(6:Int),id]] w (aL w (.bool false)):=by
 have D:=@az;have E:Bx w p.1.size 108 (cZ p a m C s):=⟨h.st⟩;obtain⟨y,l,r⟩:=ii h.lg (show id<m+1 by omega);obtain rfl:y=true:=by rwa[<-r]
 have F:Bx w (p.1.size+1+1+1) 4 (eB s.aN):=⟨h.gr⟩;have z:=ce l;have u:(id:Int)<(m:Int)+1:=by omega
 clear l r j;go_in;go_upto_region 14 with fail;refine aq ap (λB _=>?_);refine qL [0,1,2,3,4,5,6,7,8,9] ?_;refine aJ 10 λK hK=>?_;go_simp;refine(py hP h.at hid b).mono ?_;rintro e B ⟨rfl,_⟩;dsimp only;refine aE hK ?_;refine qL [11,12,13,14,15,16,17,18,19,20,21,22,23,24,525,526,527,528,529,530,531,532,533,534,535,536,537,538,539,540,541,542,543,44,45] ?_;exact zL5
end
section
variable{w:World}{a:px}{C:jH}
def K1(hP:lR p a m C ss)(h:ee p w a m C s){id:Nat}(hid:id<=m)(r:s.aN.getD id false=true)(j:Z (na C s id=true))(D:0<=s.done)(hd:s.done<(m:Int)){b:Bool}(hb:Z ((C.order.getD ((m:Int)-1-s.done).toNat 0==(id:Int))=b)):
  () 87 #[.pointer p.1.size,.agg #[(6:Int),id]] w (aL w (.bool b)):=by
 obtain⟨N,O⟩:=hY;have P:Bx w p.1.size 108 (cZ p a m C s):=⟨h.st⟩;have hm:=hP.hm;have Q:=h.prev;obtain⟨E,u,y⟩:=ii h.lg (show id<m+1 by omega);obtain rfl:E=true:=by rwa[<-y]
 have R:Bx w (p.1.size+1+1+1) 4 (eB s.aN):=⟨h.gr⟩;have F:=ce u;have B:(id:Int)<(m:Int)+1:=by omega
 obtain⟨q,hq⟩:∃q:Nat,(m:Int)-1-s.done=(q:Int):=⟨((m:Int)-1-s.done).toNat,Y⟩;have l:q<m:=Y;obtain⟨AW,cW,AC,cC,AI,cI,AO,cO⟩:=a;have G:Sl p AO m C.order:=hP.order;obtain⟨S,o1,z,rfl,I,T,J⟩:=G.get l;have L:Z ((z==(id:Int))=b):=U (by rw[<-hb.o,hq,a9,g3 J.o]);have w1:IntKind.i64.wrap ((m:Int)-1)=(m:Int)-1:=by rw[a7];omega
 have w2:IntKind.i64.wrap ((m:Int)-1-s.done)=(q:Int):=by rw[a7,hq];omega
 clear u y r hq hb;go_in;go_upto_region 14 with fail;refine aq ap (λM _=>?_);refine qL [0,1,2,3,4,5,6,7,8,9] ?_;refine aJ 10 λK hK=>?_;go_simp;refine(py hP h.at hid j).mono ?_;rintro e M ⟨rfl,_⟩;dsimp only;refine aE hK ?_;refine qL [11,12,13,14,15,16,17,18,19,20,21,22,23,24,25,26,27,28,29,30,31,32,33,34,35,36,37,38,39,40,41,42,43,44,45] ?_;refine a8 ?_;go_wp2_with fail;go_ret;exact⟨by rw[L.o];rfl,aC⟩
def xM(hP:lR p a m C ss)(h:ee p w a m C s)(hr:fx z id=true)(hid:id<=m)(l:0<=s.done){b:Bool}(hb:Z (dW C s z id.toNat=b)):
  () 87 #[.pointer p.1.size,.agg #[z,id]] w (aL w (.bool b)):=by
 by_cases j:z=4\/z=5;obtain rfl:id=0:=by rw[qp j]at hr;simpa using hr
 rcases j with rfl|rfl;exact OL hP h hb;exact OI h hb;have k:z=1\/z=2\/z=3\/z=6:=by by_cases k:z=1\/z=2\/z=3\/z=6;exact k;rw[fx,ag j,ag k]at hr;cases hr
 rw[m9 k]at hr;simp only[bU,b9]at hr;obtain⟨q,rfl⟩:∃q:Nat,id=(q:Int):=⟨id.toNat,Y⟩;rw[a9]at hb;have hq:q<=m:=Y;rcases k with rfl|rfl|rfl|rfl;exact OJ hP h hq hb;exact OK hP h hq hb;exact OH hP h hq hb;have r:C.order=m:=hP.order.len.symm;have e:=hb.o;rw[dW,ag ao,ag ao,ag ao,ag ao,ag ao,r]at e;rcases hg:s.aN.getD q false with _|_;rw[hg]at e;obtain rfl:false=b:=by simpa using e
 exact KY hP h hq hg;rw[hg]at e;rcases hy:na C s q with _|_;rw[hy]at e;obtain rfl:false=b:=by simpa using e
 exact KZ hP h hq hg hy;rw[hy]at e;by_cases hd:s.done<(m:Int);rw[ea hd]at e;exact K1 hP h hq hg hy l hd (U (by simpa using e));rw[ew hd]at e;obtain rfl:false=b:=by simpa using e
 exact K0 hP h hq hg hy hd
def K2(hP:lR p a m C ss)(h:ee p w a m C s)(hr:fx z id=true)(hid:id<=m){V:Int}(hV:Z (eD C s z id.toNat=V)):
  () 88 #[.pointer p.1.size,.agg #[z,id]] w (aL w V):=by
 by_cases b:z=4\/z=5;obtain rfl:id=0:=by rw[qp b]at hr;simpa using hr
 rcases b with rfl|rfl;obtain rfl:0=V:=by rw[<-hV.o];rfl
 exact CD (.inr rfl);exact T9 hP h hV;have k:z=1\/z=2\/z=3\/z=6:=by by_cases k:z=1\/z=2\/z=3\/z=6;exact k;rw[fx,ag b,ag k]at hr;cases hr
 rw[m9 k]at hr;simp only[bU,b9]at hr;obtain⟨q,rfl⟩:∃q:Nat,id=(q:Int):=⟨id.toNat,Y⟩;rw[a9]at hV;have hq:q<=m:=Y;rcases k with rfl|rfl|rfl|rfl;exact CB hP h hq (.inl rfl) hV;exact CB hP h hq (.inr rfl) hV;obtain rfl:0=V:=by rw[<-hV.o];rfl
 exact CD (.inl rfl);exact Ua hP h hq hV
end
variable{q wb:Nat}{kd:Int}{pr:List Bool}
structure fQ(p:World)(wb:Nat)(w:World)(a:px)(m:Nat)(C:jH)(s:jI)(kd id:Int):Prop where
 ck:ee p w a m C s
 box:aA w wb 98 #[kd,id]
 aV:p.1.size+3<wb
section
variable{w:World}{a:px}{C:jH}{nw pk dn:Int}{sv gr:List Bool}{em sd b:Bool}
def fQ.at(h:fQ p wb w a m C s kd id)[l:aM w w']:fQ p wb w' a m C s kd id:=⟨h.ck.at,h.box.at,h.aV⟩
def zLg(h:Γ:=by have:=h.aV;simp;omega):=h
def fQ.X9(h:fQ p wb w a m C ⟨pr,sv,gr,em,sd,dn,nw,pk⟩ kd id)(z:Int):fQ p wb (w.setCell (p.1.size,12) z) a m C ⟨pr,sv,gr,em,sd,dn,z,pk⟩ kd id:=⟨h.ck.abw z,h.box.aV zLg _,h.aV⟩
def fQ.spk(h:fQ p wb w a m C ⟨pr,sv,gr,em,sd,dn,nw,pk⟩ kd id)(z:Int):fQ p wb (w.setCell (p.1.size,13) z) a m C ⟨pr,sv,gr,em,sd,dn,nw,z⟩ kd id:=⟨h.ck.adx z,h.box.aV zLg _,h.aV⟩
def fQ.sdn(h:fQ p wb w a m C ⟨pr,sv,gr,em,sd,dn,nw,pk⟩ kd id)(z:Int):fQ p wb (w.setCell (p.1.size,11) z) a m C ⟨pr,sv,gr,em,sd,z,nw,pk⟩ kd id:=⟨h.ck.adw z,h.box.aV zLg _,h.aV⟩
def fQ.sem(h:fQ p wb w a m C ⟨pr,sv,gr,em,sd,dn,nw,pk⟩ kd id)(b:Bool):fQ p wb (w.setCell (p.1.size,9) (.bool b)) a m C ⟨pr,sv,gr,b,sd,dn,nw,pk⟩ kd id:=⟨h.ck.adu b,h.box.aV zLg _,h.aV⟩
def fQ.ssd(h:fQ p wb w a m C ⟨pr,sv,gr,em,sd,dn,nw,pk⟩ kd id)(b:Bool):fQ p wb (w.setCell (p.1.size,10) (.bool b)) a m C ⟨pr,sv,gr,em,b,dn,nw,pk⟩ kd id:=⟨h.ck.adv b,h.box.aV zLg _,h.aV⟩
def fQ.spr(h:fQ p wb w a m C ⟨pr,sv,gr,em,sd,dn,nw,pk⟩ kd id)(i:Nat)(b:Bool):fQ p wb (w.setCell (p.1.size+1,i) (.bool b)) a m C ⟨pr.set i b,sv,gr,em,sd,dn,nw,pk⟩ kd id:=⟨h.ck.FP i b,h.box.aV zLg _,h.aV⟩
def fQ.ssv(h:fQ p wb w a m C ⟨pr,sv,gr,em,sd,dn,nw,pk⟩ kd id)(i:Nat)(b:Bool):fQ p wb (w.setCell (p.1.size+1+1,i) (.bool b)) a m C ⟨pr,sv.set i b,gr,em,sd,dn,nw,pk⟩ kd id:=⟨h.ck.aeZ i b,h.box.aV zLg _,h.aV⟩
def fQ.sgr(h:fQ p wb w a m C ⟨pr,sv,gr,em,sd,dn,nw,pk⟩ kd id)(i:Nat)(b:Bool):fQ p wb (w.setCell (p.1.size+1+1+1,i) (.bool b)) a m C ⟨pr,sv,gr.set i b,em,sd,dn,nw,pk⟩ kd id:=⟨h.ck.ae0 i b,h.box.aV zLg _,h.aV⟩
def fQ.facts(h:fQ p wb w a m C ⟨pr,sv,gr,em,sd,dn,nw,pk⟩ kd id):aj w p/\Bx w p.1.size 108 (cZ p a m C ⟨pr,sv,gr,em,sd,dn,nw,pk⟩)/\Bx w wb 98 #[kd,id]/\Bx w (p.1.size+1) 4 (eB pr)/\Bx w (p.1.size+1+1) 4 (eB sv)/\Bx w (p.1.size+1+1+1) 4 (eB gr):=
 ⟨h.ck.prev,⟨h.ck.st⟩,⟨h.box⟩,⟨h.ck.pr⟩,⟨h.ck.sv⟩,⟨h.ck.gr⟩⟩
def lS(C:jH)(s:jI)(kd id:Int):Int:=
 if fx kd id=true/\id<(C.words.length:Int)then(if dW C s kd id.toNat then(if s.now+eD C s kd id.toNat<=C.cap then 0 else 25)else 24)else 10
def qr(gr:List Bool)(F:au):List Bool:=F.foldl (λG z=>G.set z.toNat true) gr
def g4(C:jH)(s:jI)(kd id:Int):jI:=
 let q:=id.toNat
 let n:=s.now+eD C s kd q
 let k:=max s.kq n
 if kd=1\/kd=2 then⟨s.bu.set q true,s.saved.set q true,s.aN,s.eR,s.fX,s.done,n,k⟩
 else if kd=3 then⟨s.bu.set q false,s.saved,s.aN,s.eR,s.fX,s.done,n-C.words.getD q 0,k⟩
 else if kd=4 then⟨s.bu,s.saved,s.aN,true,s.fX,s.done,n,k⟩
 else if kd=5 then⟨s.bu,s.saved,s.aN.set C.g2 true,s.eR,true,s.done,n,k⟩
 else⟨s.bu,s.saved,(qr s.aN (iz C s q)).set q false,s.eR,s.fX,s.done+1,n-C.words.getD q 0,k⟩
def FR{L:au}{b:Int}(hb:0<=b)(h:∀z∈L,0<=z/\z<=b)(y:Nat):0<=L.getD y 0/\L.getD y 0<=b:=by
 rw[a5];rcases hy:L[y]? with _|z;exact⟨eb _,hb⟩;exact h z (aK hy)
def CI(hP:lR p a m C ss)(q:Nat):(iz C s q).length<=1000:=by
 have e:=CG s.aN (C.ins.getD q []) [];rw[ja,cQ]at e;refine aQ e ?_;rw[a5];rcases hy:C.ins[q]? with _|z;exact aR _;exact(hP.ko z (aK hy)).1
def Ub(hP:lR p a m C ss){z:Int}(e:z∈iz C s q):0<=z/\z<=m:=by
 rcases CE _ _ _ z e with h|h;rw[a5]at h;rcases hy:C.ins[q]? with _|l;rw[hy]at h;cases h;rw[hy]at h;exact(hP.ko l (aK hy)).2 z h;cases h
def CJ(hP:lR p a m C ss)(kd:Int)(q:Nat):0<=eD C s kd q/\eD C s kd q<=1099511627776000:=by
 have e:=FR Y hP.wb;unfold eD;split;have:=e q;omega;split;have:=e C.g2;omega;split
 have j:=Q5 (L:=(iz C s q).map λz=>C.words.getD z.toNat 0) (b:=1099511627776) (λx l=>by
  obtain⟨y,_,rfl⟩:=cw.1 l;exact e _)
 have r:=CI (s:=s) hP q;rw[bn]at j;omega;omega
def rZ:∀(F:au) (G:List Bool),(qr G F).length=G
 |[],_=>rfl
 |z::t,G=>by rw[qr,uF,<-qr,rZ t];simp
def Uc(G:List Bool)(F:au)(z:Int):qr G (F++[z])=(qr G F).set z.toNat true:=by simp[qr]
end
section
variable{w:World}{a:px}{C:jH}
def K3(h:fx kd id=true):kd=1\/kd=2\/kd=3\/kd=4\/kd=5\/kd=6:=by
 unfold fx at h;split at h;omega;split at h;omega;cases h
def K4(h:fx kd id=true):∃q:Nat,id=(q:Int):=by
 unfold fx at h;split at h;exact⟨0,by simpa using h⟩;split at h;simp only[bU,b9]at h;exact⟨id.toNat,Y⟩;cases h
def zL0(h:Γ:=by go_upto_region 13 with fail;refine wp_region_still_tail 7 ap ap ?_;change wpStill _ _ (P).drew _ _ _;simp only[f6,d8,iH,fl];(repeat still_step);refine gH ?_;go_upto_region 14 with fail;have l:=U (fQ.at (w':=((P).setCell (p.1.size+1,q) (.bool true)).drew) (b.o.spr q true));obtain⟨v3,r⟩:=lg (((P).setCell (p.1.size+1,q) (.bool true)).drew);rw[<-r]at l⊢;clear r b;obtain⟨b,-⟩:_/\True:=⟨l,bq⟩;clear l;obtain⟨E,G,I,J,M,N⟩:=b.o.facts;refine wp_region_still_tail 7 ap ap ?_;change wpStill _ _ (v3).drew _ _ _;simp only[f6,d8,iH,fl];(repeat still_step);refine gH ?_;go_upto_region 15 with fail;have l:=U (fQ.at (w':=((v3).setCell (p.1.size+1+1,q) (.bool true)).drew) (b.o.ssv q true));obtain⟨v4,B⟩:=lg (((v3).setCell (p.1.size+1+1,q) (.bool true)).drew);rw[<-B]at l⊢;clear B b;obtain⟨b,-⟩:_/\True:=⟨l,bq⟩;clear l;obtain⟨E,G,I,J,M,N⟩:=b.o.facts;go_wp2_with fail;go_ret;exact⟨rfl,by rw[S.o];exact b.o.at.ck⟩):=h
def zL2(h:Γ:=by obtain⟨b,-⟩:_/\True:=⟨l,bq⟩;clear l;obtain⟨E,G,I,J,M,N⟩:=b.o.facts;go_wp2_with fail;go_ret;exact⟨rfl,by rw[S.o];exact b.o.at.ck⟩):=h
def CK(hP:lR p a m C ss)(h:ee p w a m C s)(hr:fx kd id=true)(hid:id<=m)(hb:Z (dW C s kd id.toNat=true))(oM:0<=s.done)(Ev:s.done<=1000000)(hn0: -144115188075855872<=s.now)(qW:s.now<=144115188075855872)(Q:s.now+eD C s kd id.toNat<=C.cap)(hc:C.cap<=144115188075855872):
  () 35 #[.pointer p.1.size,.agg #[kd,id]] w λe w'=>e=.returned an/\ee p w' a m C (g4 C s kd id):=by
 obtain⟨CB,CP,FB⟩:=gW;obtain⟨V,hV⟩:=lh (eD C s kd id.toNat);have hVb:=CJ (s:=s) hP kd id.toNat;have HV:=U hV;rw[hV]at hVb Q;have hlp:=h.lp;have hls:=h.ls;have R:=h.lg;have bD:=h.gr.lt;obtain⟨pr,sv,gr,em,sd,D,X,pk⟩:=s;obtain⟨AW,cW,AC,cC,AI,cI,AO,cO⟩:=a;dsimp only at oM Ev hn0 qW Q hlp hls R;obtain⟨T,hT⟩:=lh (X+V);obtain⟨q,rfl⟩:=K4 hr;have Au:decide ((m:Int)+1<=(q:Int))=false:=by simp;omega
 have w1:IntKind.i64.wrap (X+V)=T:=by rw[a7];omega
 have hct:decide (C.cap<T)=false:=by simp;omega
 have O:=U hT;have hT0: -144115188075855872<=T:=Y;have WH:T<=144115188075855872:=Y;have hq:q<=m:=Y;have RJ:(q:Int)<(m:Int)+1:=by omega
 obtain⟨pb,e1,-⟩:=ii hlp (show q<m+1 by omega);obtain⟨vb,e2,-⟩:=ii hls (show q<m+1 by omega);obtain⟨gb,e3,-⟩:=ii R (show q<m+1 by omega);have CL:=ce e1;have tm:=ce e2;have wo:=ce e3;clear hV hT e1 e2 e3 Q;go_in;go_upto_region 1 with fail;refine aa (λu _ kb0=>?_);have b:Z (fQ p w.1.size u _ m C ⟨pr,sv,gr,em,sd,D,X,pk⟩ kd (q:Int)):=U ⟨h.at (w':=u),kb0.ak,bD⟩;clear kb0 bD;obtain⟨E,G,I,J,M,N⟩:=b.o.facts;refine aq ap (λu1 _=>?_);refine eE 0 ?_;refine aJ 1 λK hK=>?_;go_simp;refine(kN).mono ?_;rintro e u1 ⟨rfl,_⟩;dsimp only;refine aE hK ?_;refine qL [2,3,4,5,6,7,8,9,10,11,12] ?_;refine a8 ?_;go_upto_region 5 with(go_at_call 87;refine mv (xM hP (b.o.at (w':=u1)).ck hr hid oM hb) λu2 _=>?_);refine aq ap (λu3 _=>?_);refine qL [0,1,2,3,4,5] ?_;refine aJ 6 λK hK=>?_;go_simp;refine(K2 hP (b.o.at (w':=u3)).ck hr hid HV).mono ?_;rintro e u3 ⟨rfl,_⟩;dsimp only;refine aE hK ?_;refine qL [7,8] ?_;refine a8 ?_;go_upto_region 9 with fail;have l:=U ((b.o.at (w':=u3)).X9 T);obtain⟨v1,qc⟩:=lg ((u3).setCell (p.1.size,12) T);rw[<-qc]at l⊢;clear qc b;obtain⟨b,-⟩:_/\True:=⟨l,bq⟩;clear l;obtain⟨E,G,I,J,M,N⟩:=b.o.facts;clear Au w1 hct;go_upto_region 11 with fail;have l:=U (b.o.spk (max pk T));obtain⟨P,ro⟩:=lg ((v1).setCell (p.1.size,13) (max pk T:Int));rw[<-ro]at l⊢;clear ro b;obtain⟨b,-⟩:_/\True:=⟨l,bq⟩;clear l;obtain⟨E,G,I,J,M,N⟩:=b.o.facts;have hl0:=hP.g2;have En:(C.g2:Int)<(m:Int)+1:=by omega
 obtain⟨lb,e4,-⟩:=ii R (show C.g2<m+1 by omega);have OM:=ce e4;have sW:Sl p AW (m+1) C.words:=hP.words;obtain⟨bw,ow,zw,rfl,obw,vw,ew⟩:=sW.get (k:=q) Y;have hzw:=g3 ew.o;have MR:=FR Y hP.wb q;rw[hzw]at MR;have HZW:=U hzw;obtain⟨T2,KP⟩:=lh (T-zw);have w2:IntKind.i64.wrap (T-zw)=T2:=by rw[a7];omega
 have mf:=U KP;clear e4 hzw KP;rcases K3 hr with rfl|rfl|rfl|rfl|rfl|rfl
 have S:Z (g4 C ⟨pr,sv,gr,em,sd,D,X,pk⟩ 1 (q:Int)=⟨pr.set q true,sv.set q true,gr,em,sd,D,T,max pk T⟩):=U (by
  unfold g4;dsimp only;rw[HV.o,O.o,Int.toNat_natCast,if_pos (.inl rfl)])
 exact zL0
 have S:Z (g4 C ⟨pr,sv,gr,em,sd,D,X,pk⟩ 2 (q:Int)=⟨pr.set q true,sv.set q true,gr,em,sd,D,T,max pk T⟩):=U (by
  unfold g4;dsimp only;rw[HV.o,O.o,Int.toNat_natCast,if_pos (.inr rfl)])
 exact zL0
 .have S:Z (g4 C ⟨pr,sv,gr,em,sd,D,X,pk⟩ 3 (q:Int)=⟨pr.set q false,sv,gr,em,sd,D,T2,max pk T⟩):=U (by
   unfold g4;dsimp only;rw[HV.o,O.o,Int.toNat_natCast,if_neg ao,if_pos rfl,HZW.o,mf.o])
  go_upto_region 16 with fail;refine wp_region_still_tail 7 ap ap ?_;change wpStill _ _ (P).drew _ _ _;simp only[f6,d8,iH,fl];(repeat still_step);refine gH ?_;go_upto_region 17 with fail;have l:=U (fQ.at (w':=((P).setCell (p.1.size+1,q) (.bool false)).drew) (b.o.spr q false));obtain⟨v3,r⟩:=lg (((P).setCell (p.1.size+1,q) (.bool false)).drew);rw[<-r]at l⊢;clear r b;obtain⟨b,-⟩:_/\True:=⟨l,bq⟩;clear l;obtain⟨E,G,I,J,M,N⟩:=b.o.facts;refine wp_region_still_tail 15 ap ap ?_;change wpStill _ _ (v3).drew _ _ _;simp only[f6,d8,iH,fl];(repeat still_step);refine gH ?_;go_upto_region 18 with fail;have l:=U (fQ.at (w':=((v3).setCell (p.1.size,12) T2).drew) (b.o.X9 T2));obtain⟨v4,B⟩:=lg (((v3).setCell (p.1.size,12) T2).drew);rw[<-B]at l⊢;clear B b;exact zL2
 .have S:Z (g4 C ⟨pr,sv,gr,em,sd,D,X,pk⟩ 4 (q:Int)=⟨pr,sv,gr,true,sd,D,T,max pk T⟩):=U (by
   unfold g4;dsimp only;rw[HV.o,O.o,if_neg ao,if_neg ao,if_pos rfl])
  go_upto_region 20 with fail;have l:=U (b.o.sem true);obtain⟨v3,r⟩:=lg ((P).setCell (p.1.size,9) (.bool true));rw[<-r]at l⊢;clear r b;exact zL2
 .have S:Z (g4 C ⟨pr,sv,gr,em,sd,D,X,pk⟩ 5 (q:Int)=⟨pr,sv,gr.set C.g2 true,em,true,D,T,max pk T⟩):=U (by
   unfold g4;dsimp only;rw[HV.o,O.o,if_neg ao,if_neg ao,if_neg ao,if_pos rfl])
  go_upto_region 22 with fail;have l:=U (b.o.ssd true);obtain⟨v3,r⟩:=lg ((P).setCell (p.1.size,10) (.bool true));rw[<-r]at l⊢;clear r b;obtain⟨b,-⟩:_/\True:=⟨l,bq⟩;clear l;obtain⟨E,G,I,J,M,N⟩:=b.o.facts;refine wp_region_still_tail 9 ap ap ?_;change wpStill _ _ (v3).drew _ _ _;simp only[f6,d8,iH,fl];(repeat still_step);refine gH ?_;go_upto_region 23 with fail;have l:=U (fQ.at (w':=((v3).setCell (p.1.size+1+1+1,C.g2) (.bool true)).drew) (b.o.sgr C.g2 true));obtain⟨v4,B⟩:=lg (((v3).setCell (p.1.size+1+1+1,C.g2) (.bool true)).drew);rw[<-B]at l⊢;clear B b;exact zL2
 obtain⟨F,hF⟩:=lh (iz C ⟨pr,sv,gr,em,sd,D,X,pk⟩ q);have HF:Z (iz C ⟨pr,sv,gr,em,sd,D,T,max pk T⟩ q=F):=hF;have S:Z (g4 C ⟨pr,sv,gr,em,sd,D,X,pk⟩ 6 (q:Int)=⟨pr,sv,(qr gr F).set q false,em,sd,D+1,T2,max pk T⟩):=U (by
  unfold g4;dsimp only;rw[HV.o,O.o,Int.toNat_natCast,if_neg ao,if_neg ao,if_neg ao,if_neg ao,HZW.o,mf.o,hF])
 have HFI:Z (∀z∈F,0<=z/\z<=m):=λz hz=>by rw[<-hF]at hz;exact Ub hP hz
 have hFl:F.length<=1000:=by rw[<-hF];exact CI hP q
 have w3:IntKind.i64.wrap (D+1)=D+1:=by rw[a7];omega
 clear hF wo OM;have ro:p.1.size+3<P:=b.o.ck.gr.lt;go_wp2_with (go_at_call 89;refine(FQ hP b.o.ck hq HF).mono ?_;rintro e u ⟨AF,cF,rfl,oF,_⟩);have b:=U (b.o.at (w':=u));have sF0:Sl u AF F F:=⟨oF.rd,rfl⟩;have fF:=oF.fre;go_loopw [121] (λi wr=>∃j:Nat,j<=F/\i=.int .i64 j/\Z (fQ p w.1.size wr ⟨some ⟨bw,ow,none⟩,cW,AC,cC,AI,cI,AO,cO⟩ m C ⟨pr,sv,qr gr (F.take j),em,sd,D,T,max pk T⟩ 6 (q:Int))/\Sl wr AF F F) (λi _=>F.length-(intOf i).toNat);exact⟨0,aR _,rfl,b,sF0⟩;clear b sF0 G I J M N E;obtain⟨j,hj,rfl,b,sF⟩:=hrel;obtain⟨E,G,I,J,M,N⟩:=b.o.facts;by_cases bD:j<F
 .obtain⟨b2,q2,z,rfl,iM,vz,ez⟩:=sF.get bD;have hzr:=HFI.o z (aK ez.o);obtain⟨y,rfl⟩:=bO hzr.1;have hy:y<m+1:=Y;(have hyi:(y:Int)<(m:Int)+1:=by omega);obtain⟨yb,e5,-⟩:=ii (L:=qr gr (F.take j)) (i:=y) (n:=m+1) (by rwa[rZ]) hy;have hg5:=ce e5;have HG:Z (qr gr (F.take (j+1))=(qr gr (F.take j)).set y true):=U (by rw[take_at ez.o,Uc,a9]);clear e5 hzr;go_wp2_with fail;go_roundw;exact⟨j+1,Y,by go_num,U (by rw[HG.o];exact b.o.sgr y true),sF.setCell (p:=⟨p.1.size+1+1+1,y,none⟩) fF ro _⟩;exact zL4
 obtain rfl:j=F:=Y;have Ya:=b.o;rw[bV (al _)]at Ya;obtain⟨b,-⟩:Z _/\True:=⟨U Ya,bq⟩;clear Ya G I J M N E;obtain⟨E,G,I,J,M,N⟩:=b.o.facts;obtain⟨qb,e5,-⟩:=ii (L:=qr gr F) (i:=q) (n:=m+1) (by rwa[rZ]) Y;have hg5:=ce e5;clear e5;go_upto_region 29 with fail;refine wp_region_still_tail 7 ap ap ?_;change wpStill _ _ (wr).drew _ _ _;simp only[f6,d8,iH,fl];repeat still_step
 refine gH ?_;go_upto_region 30 with fail;have l:=U (fQ.at (w':=((wr).setCell (p.1.size+1+1+1,q) (.bool false)).drew) (b.o.sgr q false));obtain⟨v3,r⟩:=lg (((wr).setCell (p.1.size+1+1+1,q) (.bool false)).drew);rw[<-r]at l⊢;clear r b;obtain⟨b,-⟩:_/\True:=⟨l,bq⟩;clear l;obtain⟨E,G,I,J,M,N⟩:=b.o.facts;refine wp_region_still_tail 15 ap ap ?_;change wpStill _ _ (v3).drew _ _ _;simp only[f6,d8,iH,fl];repeat still_step
 refine gH ?_;go_upto_region 31 with fail;have l:=U (fQ.at (w':=((v3).setCell (p.1.size,12) T2).drew) (b.o.X9 T2));obtain⟨v4,B⟩:=lg (((v3).setCell (p.1.size,12) T2).drew);rw[<-B]at l⊢;clear B b;obtain⟨b,-⟩:_/\True:=⟨l,bq⟩;clear l;obtain⟨E,G,I,J,M,N⟩:=b.o.facts;go_upto_region 32 with fail;have l:=U (b.o.sdn (D+1));obtain⟨v5,Sb⟩:=lg ((v4).setCell (p.1.size,11) (D+1:Int));rw[<-Sb]at l⊢;clear Sb b;exact zL2
end
section
variable{w:World}{a:px}{C:jH}
def FT(hP:lR p a m C ss)(h:ee p w a m C s)(hE:lS C s kd id=E)(P:E≠0)(z:0<=s.done)(F: -144115188075855872<=s.now)(G:s.now<=144115188075855872):
  () 35 #[.pointer p.1.size,.agg #[kd,id]] w (aL w E):=by
 have CB:=@az;have j:C.words=m+1:=hP.words.len.symm;have r:=h.gr.lt;by_cases hr:fx kd id=true
 .by_cases hid:id<=m
  .rw[lS,ah ⟨hr,by rw[j];omega⟩]at hE;obtain⟨q,rfl⟩:=K4 hr;(have I:decide ((m:Int)+1<=(q:Int))=false:=by simp;omega);rcases hb:dW C s kd (q:Int).toNat with _|_
   .rw[hb]at hE;obtain rfl:24=E:=hE;have J:=U hb;clear hb j;obtain⟨pr,sv,gr,em,sd,L,B,pk⟩:=s;go_in;go_upto_region 1 with fail;refine aa (λu _ b=>?_);have D:Z (fQ p w.1.size u _ m C ⟨pr,sv,gr,em,sd,L,B,pk⟩ kd (q:Int)):=U ⟨h.at (w':=u),b.ak,r⟩;clear b r;obtain⟨Q,N,R,S,T,X⟩:=D.o.facts;refine aq ap (λy _=>?_);refine eE 0 ?_;refine aJ 1 λK hK=>?_;go_simp;refine(kN).mono ?_;rintro e y ⟨rfl,_⟩;dsimp only;refine aE hK ?_;refine qL [2,3,4,5,6,7,8,9,10,11,12] ?_;refine a8 ?_;go_wp2_with (go_at_call 87;refine mv (xM hP (D.o.at (w':=y)).ck hr hid z J) λu2 _=>?_);go_ret;exact bF
   rw[hb,ah rfl]at hE;have M:=CJ (s:=s) hP kd (q:Int).toNat;obtain⟨V,hV⟩:=lh (eD C s kd (q:Int).toNat);rw[hV]at hE M;(have l:C.cap<s.now+V:=by by_cases hc:s.now+V<=C.cap;rw[ah hc]at hE;exact absurd hE.symm P;omega);rw[ag Y]at hE;obtain rfl:25=E:=hE;have J:=U hb;have HV:=U hV;obtain⟨pr,sv,gr,em,sd,L,B,pk⟩:=s;dsimp only at l z F G;(have w1:IntKind.i64.wrap (B+V)=B+V:=by rw[a7];omega);(have hct:decide (C.cap<B+V)=true:=by simpa using l);clear hb j hV l;go_in;go_upto_region 1 with fail;refine aa (λu _ b=>?_);have D:Z (fQ p w.1.size u _ m C ⟨pr,sv,gr,em,sd,L,B,pk⟩ kd (q:Int)):=U ⟨h.at (w':=u),b.ak,r⟩;clear b r;obtain⟨Q,N,R,S,T,X⟩:=D.o.facts;refine aq ap (λy _=>?_);refine eE 0 ?_;refine aJ 1 λK hK=>?_;go_simp;refine(kN).mono ?_;rintro e y ⟨rfl,_⟩;dsimp only;refine aE hK ?_;refine qL [2,3,4,5,6,7,8,9,10,11,12] ?_;refine a8 ?_;go_upto_region 5 with(go_at_call 87;refine mv (xM hP (D.o.at (w':=y)).ck hr hid z J) λu2 _=>?_);refine aq ap (λO _=>?_);refine qL [0,1,2,3,4,5] ?_;refine aJ 6 λK hK=>?_;go_simp;refine(K2 hP (D.o.at (w':=O)).ck hr hid HV).mono ?_;rintro e O ⟨rfl,_⟩;dsimp only;refine aE hK ?_;refine qL [7,8] ?_;exact zL5
  rw[lS,ag (by rw[j];omega)]at hE;obtain rfl:10=E:=hE;(have I:decide ((m:Int)+1<=id)=true:=by simp;omega);have N:Bx w p.1.size 108 (cZ p a m C s):=⟨h.st⟩;clear j hid;go_in;go_upto_region 1 with fail;refine aa (λu _ b=>?_);refine aq ap (λy _=>?_);refine eE 0 ?_;refine aJ 1 λK hK=>?_;go_simp;refine(kN).mono ?_;rintro e y ⟨rfl,_⟩;dsimp only;refine aE hK ?_;refine qL [2,3,4,5,6,7,8,9,10,11,12] ?_;exact zL5
 rw[lS,ag (λh=>hr h.1)]at hE;obtain rfl:10=E:=hE;have Kj:fx kd id=false:=by simpa using hr
 clear j hr;go_in;go_upto_region 1 with fail;refine aa (λu _ b=>?_);refine aq ap (λy _=>?_);refine eE 0 ?_;refine aJ 1 λK hK=>?_;go_simp;refine(kN).mono ?_;rintro e y ⟨rfl,_⟩;dsimp only;refine aE hK ?_;refine qL [2,3,504,505,506,507,508,509,510,511,12] ?_;exact zL5
end
variable{j:Nat}{xs:List Int}
section
variable{w:World}{n:Nat}{N:a6}
def Ud{m:Nat}(b:xs=j)(h:j<m):(xs++List.replicate (m-j) 0).set j z=(xs++[z])++List.replicate (m-(j+1)) 0:=by
 rw[show m-j=(m-(j+1))+1 from Y,jM,ky _ _ Y,b,eV,i4];simp
def Q6[a:aW w A n B m N](hs:Z N.small):() 12 #[.agg #[(A,n,c),(B,m,d)]] w (Bc w N.ids):=by
 have K:=@az;have l:Z (m=N.nodes):=a.len;have hm:m<=1000:=by rw[l.o];exact hs.o.1
 have C:=kL m Y;go_in;go_wp2_with fail;refine qj (λu v L _ _ hu F=>?_);have b:Own v (w.1.size+1) 3 (N.ids.take 0++List.replicate (m-0) 0):=F.ak;clear C;go_loopw [11] (λi wr=>∃j:Nat,j<=m/\i=.int .i64 j/\Own wr (w.1.size+1) 3 (N.ids.take j++List.replicate (m-j) 0)/\aj wr w) (λi _=>m-(intOf i).toNat);exact⟨0,aR _,rfl,b,aC⟩;clear b F;obtain⟨j,M,rfl,b,hp⟩:=hrel;by_cases r:j<m
 .have e:Z ((N.ids.take j).length=j):=U (by rw[cr,m3,<-l.o];omega);have D:=U (take_at (Cd (N:=N) (j:=j) (by rwa[<-l.o])));have G:=b.frozen j;have I:=b.cell (i:=j) (z:=0) (by rw[eT (by rw[e.o];exact al _),e.o,eV,kw,ah Y]);have hK:=b.av j ((j:Int)+1);rw[Ud e.o r,<-D.o]at hK;have J:=U hK;clear hK b;go_wp2_with fail;go_roundw;exact⟨j+1,Y,by go_num,J,⟨(aO w wr).setCell (p:=⟨w.1.size+1,j,none⟩) (db _) _⟩⟩;exact zL4
 obtain rfl:j=m:=Y;rw[eV,bV (by rw[m3,<-l.o];exact al _)]at b;have E:Z (N.ids=j):=U (by rw[m3,l.o]);have y:=aD.gJ (B:=w.1.size) (zs:=N.ids) (by simpa using b) (db _) (by rw[E.o];omega);rw[E.o]at y;go_wp2_with fail;go_ret;exact⟨_,j,by rw[E.o];rfl,y,hp⟩
end
variable{u:World}{c' g l:Nat}{A':Option Addr}{fi zs:List Int}{kp:List Bool}{cd:List (Int×Int)}{T:TypeId}{ds:Array Value}
structure xN where
 AI:Option Addr
 nI:Nat
 cI:Nat
 BN:Option Addr
 cN:Nat
 AO:Option Addr
 cO:Nat
 AL:Option Addr
 cL:Nat
structure xO where
 g:Nat
 F:Nat
 K:Nat
 P:Nat
structure ON where
 fi:List Int
 kp:List Bool
 pr:List Bool
 cd:List (Int×Int)
abbrev r3(a:xN)(G:xO)(m l:Nat)(A:Option Addr)(c:Nat)(V:ON):Array Value:=
 #[.slice a.AI a.nI a.cI,.slice a.BN m a.cN,.slice a.AO m a.cO,.slice a.AL (m+1) a.cL,.slice G.F (m+1) (m+1),l,.slice G.K (m+1) (m+1),.slice G.P (m+1) (m+1),.slice A V.cd.length c]
@[grind cases]structure nb(p w:World)(a:xN)(G:xO)(m l:Nat)(A:Option Addr)(c:Nat)(V:ON):Prop where
 prev:aj w p
 bx:aA w G.g 172 (r3 a G m l A c V)
 fi:Own w G.F 3 V.fi
 kp:aA w G.K 4 (eB V.kp)
 pr:aA w G.P 4 (eB V.pr)
 cd:bZ w p.1.size A c V.cd
 OO:G.K≠G.P
 hg:p.1.size<=G.g
 hF:p.1.size<=G.F
 hK:p.1.size<=G.K
 hP:p.1.size<=G.P
 lf:V.fi=m+1
 lk:V.kp=m+1
 lp:V.pr=m+1
section
variable{w:World}{a:xN}{G:xO}{V:ON}
theorem jf{h:Nat}{qaa:TypeId}{cs:dw}(x:aA w g T cs)(y:aA w h qaa ds)(b:T≠qaa):g≠h:=(by grind [aA])
def nb.at(h:nb p w a G m l A c V)[k:aM w w']:nb p w' a G m l A c V:=
 ⟨⟨dm h.prev.st k.st⟩,h.bx.at,h.fi.keep k.st,h.kp.at,h.pr.at,h.cd.at,h.OO,h.hg,h.hF,h.hK,h.hP,h.lf,h.lk,h.lp⟩
def bZ.eK{q:Addr}{B:Nat}(h:bZ w B A c cd)(hp:∀b,A=some b->b.block≠q.block)(v:Value):bZ (w.setCell q v) B A c cd:=h.same λb e=>bb w q v _ (hp b e)
def lI(h:Own w g 3 zs):aA w g 3 (ints zs):=h
theorem nb.FP(h:nb p w a G m l A c ⟨fi,kp,pr,cd⟩)(i:Nat)(b:Bool):nb p (w.setCell (G.P,i) (.bool b)) a G m l A c ⟨fi,kp,pr.set i b,cd⟩:=
 ⟨⟨h.prev.st.setCell (p:=⟨G.P,i,none⟩) h.hP _⟩,h.bx.aV (jf h.bx h.pr ao) _,h.fi.aV (jf (lI h.fi) h.pr ao) _,h.kp.aV h.OO _,by rw[<-m6];exact h.pr.av i _,h.cd.eK (λj e=>h.cd.aF h.pr ao j e) _,h.OO,h.hg,h.hF,h.hK,h.hP,h.lf,h.lk,ay⟩
theorem nb.ae1(h:nb p w a G m l A c ⟨fi,kp,pr,cd⟩)(i:Nat)(b:Bool):nb p (w.setCell (G.K,i) (.bool b)) a G m l A c ⟨fi,kp.set i b,pr,cd⟩:=
 ⟨⟨h.prev.st.setCell (p:=⟨G.K,i,none⟩) h.hK _⟩,h.bx.aV (jf h.bx h.kp ao) _,h.fi.aV (jf (lI h.fi) h.kp ao) _,by rw[<-m6];exact h.kp.av i _,h.pr.aV (dp h.OO) _,h.cd.eK (λj e=>h.cd.aF h.kp ao j e) _,h.OO,h.hg,h.hF,h.hK,h.hP,h.lf,ay,h.lp⟩
theorem nb.CH(h:nb p w a G m l A c ⟨fi,kp,pr,cd⟩)(i:Nat)(z:Int):nb p (w.setCell (G.F,i) z) a G m l A c ⟨fi.set i z,kp,pr,cd⟩:=
 ⟨⟨h.prev.st.setCell (p:=⟨G.F,i,none⟩) h.hF _⟩,h.bx.aV (jf h.bx (lI h.fi) ao) _,h.fi.av i z,h.kp.aV (jf h.kp (lI h.fi) ao) _,h.pr.aV (jf h.pr (lI h.fi) ao) _,h.cd.eK (λb e=>h.cd.aF (lI h.fi) ao b e) _,h.OO,h.hg,h.hF,h.hK,h.hP,ay,h.lk,h.lp⟩
def nb.A9(h:nb p w a G m l A c ⟨fi,kp,pr,cd⟩){b:List (Int×Int)}(y:bZ u p.1.size A' c' b)(hb:Below p.1.size w u)(j:∀k,k<w.1.size->(∀r,A=some r->r.block≠k)->u.heap[k]?=w.heap[k]?):
  nb p (u.setCell (G.g,8) (.slice A' b c')) a G m l A' c' ⟨fi,kp,pr,b⟩:=by
 have k1:aA u G.g 172 (r3 a G m l A c ⟨fi,kp,pr,cd⟩):=(j _ h.bx.lt (h.cd.aF h.bx ao)).trans h.bx;have k2:Own u G.F 3 fi:=(j _ h.fi.lt (h.cd.aF (lI h.fi) ao)).trans h.fi;have z:aA u G.K 4 (eB kp):=(j _ h.kp.lt (h.cd.aF h.kp ao)).trans h.kp;have B:aA u G.P 4 (eB pr):=(j _ h.pr.lt (h.cd.aF h.pr ao)).trans h.pr;exact⟨⟨(h.prev.st.trans hb).setCell (p:=⟨G.g,8,none⟩) h.hg _⟩,k1.av 8 _,k2.aV (jf (lI k2) k1 ao) _,z.aV (jf z k1 ao) _,B.aV (jf B k1 ao) _,y.eK (λr e=>y.aF k1 ao r e) _,h.OO,h.hg,h.hF,h.hK,h.hP,h.lf,h.lk,h.lp⟩
def nb.facts(h:nb p w a G m l A c V):aj w p/\Bx w G.g 172 (r3 a G m l A c V)/\Bx w G.F 3 (ints V.fi)/\Bx w G.K 4 (eB V.kp)/\Bx w G.P 4 (eB V.pr):=⟨h.prev,⟨h.bx⟩,⟨h.fi⟩,⟨h.kp⟩,⟨h.pr⟩⟩
@[grind cases]structure Kl(G:xO)(w w':World):Prop where
 size:w.1.size<=w'.1.size
 keep:∀b,b<w.1.size->b≠G.g->b≠G.P->(∀cs fz,w.heap[b]?≠some (.cells cs 98 fz))->w'.heap[b]?=w.heap[b]?
def Kl.of[k:aM w w']:Kl G w w':=⟨k.st.size,λb hb _ _ _=>k.st.block b hb⟩
theorem Kl.trans(h:Kl G w w')(k:Kl G w' u):Kl G w u:=⟨ay,ay⟩
theorem Kl.ak{cs:dw}(h:Kl G w w')(b:aA w g T cs)(e:g≠G.g)(j:g≠G.P)(r:T≠98):aA w' g T cs:=
 (by grind [aA])
theorem Kl.av(h:Kl G w w')(hg:g=G.g\/g=G.P)(i:Nat)(v:Value):Kl G w (w'.setCell (g,i) v):=
 ⟨by have:=h.size;simpa using this,(by grind [Below.heap_setCell])⟩
def gU(p w:ab)(a:xN)(G:xO)(m l:Nat)(V:ON):Prop:=∃A c,nb p w a G m l A c V
def gU.at(h:gU p w a G m l V)[aM w w']:gU p w' a G m l V:=by
 obtain⟨A,c,h⟩:=h;exact⟨A,c,h.at⟩
def qt(p:ab)(a:xN)(G:xO)(m l:Nat)(V:ON)(w:ab)(e:Ending)(w':ab):Prop:=e=.returned (.tuple #[])/\Z (gU p w' a G m l V)/\Z (Kl G w w')
def qu(h:Z (gU p w a G m l V))(D:V.cd.length<=1000000)(kd id:Int):() 81 #[.pointer G.g,kd,id] w (qt p a G m l ⟨V.fi,V.kp,V.pr,V.cd++[(kd,id)]⟩ w):=by
 have M:=@az;have N:=@aP;obtain⟨A,c,h⟩:=h.o;obtain⟨fi,kp,pr,cd⟩:=V;obtain⟨O,u,P,Q,R⟩:=h.facts;have y:bZ w p.1.size A c cd:=h.cd;have z:p.1.size<=w.1.size:=ai;dsimp only at D;go_in;go_wp2_with (at_builtin;refine tB rfl _ _ _ rfl underlying50 rfl y kd id rfl Y z ?_;intro E c3 w3 B r j;obtain⟨F,-⟩:Bx w3 G.g 172 (r3 a G m l A c ⟨fi,kp,pr,cd⟩)/\True:=⟨⟨(j _ u.ak.lt (y.aF u.ak ao)).trans u.ak⟩,bq⟩);have C:=h.A9 B r j;have I:Kl G w w3:=⟨r.size,λb hb _ _ J=>j b hb λK e L=>by obtain⟨cs,S,ht⟩:=y.MI K e;rw[L]at ht;exact J _ _ ht⟩;rw[bh]at C;refine⟨rfl,.tuple #[],by simp[results,results81,go_sem],rfl,U ⟨E,c3,C⟩,U (I.av (.inl rfl) _ _)⟩
def pz(h:Z (gU p w a G m l V)){b:Bool}(hb:Z (decide (65536<(V.cd.length:Int))=b)):() 84 #[.pointer G.g] w (aL w (.bool b)):=by
 have e:=@az;obtain⟨A,c,h⟩:=h.o;obtain⟨fi,kp,pr,cd⟩:=V;obtain⟨j,r,u,y,z⟩:=h.facts;go_in;go_wp2_with fail;go_ret;exact⟨by rw[<-hb.o];rfl,aC⟩
def yO(h:Z (gU p w a G m l V))(r:V.cd.length<=1000000)(kd:Int){id:Nat}(hid:id<=m):() 134 #[.pointer G.g,kd,id] w (qt p a G m l ⟨V.fi,V.kp,V.pr.set id true,V.cd++[(kd,(id:Int))]⟩ w):=by
 have C:=@az;have D:=@aP;obtain⟨fi,kp,pr,cd⟩:=V;have b:(id:Int)<(m:Int)+1:=by omega
 go_in;go_upto_region 1 with(go_at_call 81;refine(qu h r kd (id:Int)).mono ?_;rintro e u ⟨rfl,y,z⟩);obtain⟨A,c,hS⟩:=y.o;obtain⟨E,F,I,J,K⟩:=hS.facts;obtain⟨L,j,-⟩:=ii hS.lp (show id<m+1 by omega);have B:=ce j;clear j h;go_wp2_with fail;exact⟨rfl,.tuple #[],by simp[results,results134,go_sem],rfl,U ⟨A,c,hS.FP id true⟩,U (z.o.av (.inr rfl) _ _)⟩
def CM(h:Z (gU p w a G m l V))(r:V.cd.length<=1000000){id:Nat}(hid:id<=m):() 82 #[.pointer G.g,id] w (qt p a G m l ⟨V.fi,V.kp,V.pr.set id false,V.cd++[(3,(id:Int))]⟩ w):=by
 have C:=@az;have D:=@aP;obtain⟨fi,kp,pr,cd⟩:=V;have b:(id:Int)<(m:Int)+1:=by omega
 go_in;go_upto_region 1 with(go_at_call 81;refine(qu h r 3 (id:Int)).mono ?_;rintro e u ⟨rfl,y,z⟩);obtain⟨A,c,hS⟩:=y.o;obtain⟨E,F,I,J,K⟩:=hS.facts;obtain⟨L,j,-⟩:=ii hS.lp (show id<m+1 by omega);have B:=ce j;clear j h;go_wp2_with fail;exact⟨rfl,.tuple #[],by simp[results,results82,go_sem],rfl,U ⟨A,c,hS.FP id false⟩,U (z.o.av (.inr rfl) _ _)⟩
end
variable{r5:List Bool}{ur:List (Int×Int)}
abbrev kO:=List Bool×List (Int×Int)
def Ue(f:Nat->Bool)(s:kO)(id:Nat):kO:=if s.1.getD id false&&f id then(s.1.set id false,s.2++[(3,(id:Int))])else s
def swp(f:Nat->Bool)(s:kO):Nat->kO
 |0=>s
 |k+1=>Ue f (swp f s k) (k+1)
def h1(N:a6):Nat->Int->kO->kO
 |0,_,s=>s
 |f+1,id,s=>
  if s.1.getD id.toNat false||decide (65536<s.2.length)then s
  else(((bS N id).foldl (λs z=>h1 N f z s) s).1.set id.toNat true,((bS N id).foldl (λs z=>h1 N f z s) s).2++[(2,id)])
section
variable{w:World}{a:xN}{G:xO}{V:ON}{N:a6}
def wq(f:Nat->Bool)(s:kO):∀k,(swp f s k).2.length<=s.2.length+k/\s.2.length<=(swp f s k).2.length/\(swp f s k).1.length=s.1.length
 |0=>by simp[swp]
 |k+1=>by have b:=wq f s k;rw[swp,Ue];split;simp;omega;omega
def xP(f:Nat->Bool)(s:kO):∀k,(swp f s k).1.getD 0 false=s.1.getD 0 false
 |0=>rfl
 |k+1=>by have b:=xP f s k;rw[swp,Ue];split;rwa[<-b,a5,iI,ag Y,<-a5]
def r4{L:List Bool}{i:Nat}(h:L.getD j false=true):(L.set i true).getD j false=true:=by
 rw[a5]at h⊢;rw[iI];split
 .rename_i e;subst e;split;rfl;rename_i b;rw[ej Y]at h;exact h
 exact h
def nf{α β:Type}{f:β->α->β}{I:β->Prop}:∀(L:List α) (s:β),I s->(∀s x,x∈L->I s->I (f s x))->I (L.foldl f s)
 |[],_,h,_=>h
 |x::t,s,h,hs=>nf t (f s x) (hs s x dD h) λs y b=>hs s y (iD _ b)
def xQ:∀(f:Nat) (id:Int) (s:kO),s.1.getD 0 false=true->(h1 N f id s).1.getD 0 false=true
 |0,_,_,h=>h
 |f+1,id,s,h=>by rw[h1];split;exact h;exact r4 (nf (I:=λs:kO=>s.1.getD 0 false=true) _ s h λs x _ h=>xQ f x s h)
def CN:∀(f:Nat) (id:Int) (s:kO),(h1 N f id s).2.length<=max s.2.length (65537+f)/\(h1 N f id s).1.length=s.1.length
 |0,_,s=>by rw[h1];omega
 |f+1,id,s=>by rw[h1];split;omega;rename_i b;simp only[Gy,b9,not_or]at b;(have:=nf (I:=λt:kO=>t.2.length<=max 65536 (65537+f)/\t.1.length=s.1.length) (f:=λs z=>h1 N f z s) (bS N id) s Y λt x _ h=>by have:=CN f x t;omega);rw[bh,l5,ei];omega
def zL7(h:Γ:=by go_wp2_with fail;go_roundw;exact⟨k+1,j,b,Y,by go_num,U (gU.at C),r,U (E.o.trans Kl.of)⟩;exact zL4):=h
def zLj(h:Γ:=by rw[swp,D.o,Ue];simp only[z,y];rfl):=h
def FU{c1 c2:Value}{f:Nat->Bool}(h:Z (gU p w a G m l ⟨fi,kp,pr,cd⟩))(hm:m<=1000)(hl:cd.length<=900000)(EG:∀args w,(callFunc g args).run prog w=.ok (.enter g args) w)
  (K:Z (∀(u:ab) (j:List Bool) (b:List (Int×Int)) (id:Nat),1<=id->id<=m->Z (gU p u a G m l ⟨fi,kp,j,b⟩)->Z (Kl G w u)->() g #[id,c1,c2] u (aL u (.bool (f id)))))
    (hS:Z (swp f (pr,cd) m=(r5,ur))):
  () 135 #[.pointer G.g,.func (.func g) #[] #[c1,c2]] w (qt p a G m l ⟨fi,kp,r5,ur⟩ w):=by
 have CB:=@az;go_in;go_wp2_with fail;go_loopw [4] (λi wr=>∃(k:Nat) (j:List Bool) (b:List (Int×Int)),k<=m/\i=.int .i64 ((k:Int)+1)/\Z (gU p wr a G m l ⟨fi,kp,j,b⟩)/\Z (swp f (pr,cd) k=(j,b))/\Z (Kl G w wr)) (λi _=>m+1-(intOf i).toNat);exact⟨0,pr,cd,aR _,by go_num,h,U rfl,U ⟨al _,λ_ _ _ _ _=>rfl⟩⟩;clear h;obtain⟨k,j,b,hk,rfl,C,D,E⟩:=hrel;have S:b.length<=902000:=by have:=(wq f (pr,cd) k).1;rw[D.o]at this;dsimp only at this;omega
 obtain⟨A,c,hL⟩:=C.o;obtain⟨p9,kb,kF,kK,kP⟩:=hL.facts;have L:=hL.lp;by_cases T:k<m
 .obtain⟨X,J,z⟩:=ii (i:=k+1) L Y;have CL:=ce J;(have MQ:IntKind.i64.wrap ((k:Int)+1+1)=(k:Int)+1+1:=by rw[a7];omega);dsimp only at z;rcases X with _|_;have r:Z (swp f (pr,cd) (k+1)=(j,b)):=U (by rw[swp,D.o,Ue];simp only[z];rfl);clear J z;exact zL7;obtain⟨fb,y⟩:=lh (f (k+1));have B:=K.o wr j b (k+1) Y Y C E;rw[y]at B;have F:=U B;clear B;rcases fb with _|_
  .have r:Z (swp f (pr,cd) (k+1)=(j,b)):=U zLj;clear J z y K;go_wp2_with fail;refine(F.o).mono ?_;rintro e u ⟨rfl,_⟩;exact zL7
  have r:Z (swp f (pr,cd) (k+1)=(j.set (k+1) false,b++[(3,((k+1:Nat):Int))])):=U zLj;(have I:((k+1:Nat):Int)=(k:Int)+1:=by omega);clear J z y K;go_wp2_with fail;refine(F.o).mono ?_;rintro e u ⟨rfl,_⟩;have M:=CM (w:=u) (U (gU.at C)) (show b.length<=1000000 by omega) (show k+1<=m by omega);rw[I]at M;have O:=U M;clear M;go_wp2_with (go_at_call 82;refine(O.o).mono ?_;rintro e u2 ⟨rfl,P,Q⟩);go_roundw;exact⟨k+1,j.set (k+1) false,b++[(3,(k:Int)+1)],Y,by go_num,P,by rw[<-I];exact r,U ((E.o.trans Kl.of).trans Q)⟩;exact zL4
 obtain rfl:k=m:=Y;have R:j=r5/\b=ur:=by have:=hS.o;rw[D.o]at this;exact i7 this
 obtain⟨rfl,rfl⟩:=R;go_wp2_with fail;exact⟨rfl,.tuple #[],by simp[results,results135,go_sem],rfl,U (gU.at C),U (E.o.trans Kl.of)⟩
def CO(p:ab)(a:xN)(G:xO)(m l:Nat)(fi:au)(kp:List Bool)(N:a6)(O:au)(f:Nat):Prop:=
 ∀(w:ab) (pr:List Bool) (cd:List (Int×Int)) (id:Int),Z (gU p w a G m l ⟨fi,kp,pr,cd⟩)->Z (id=0\/id∈O.take f)->Z (pr.getD 0 false=true)->cd.length<=70000->
  () 137 #[.pointer G.g,id] w (qt p a G m l ⟨fi,kp,(h1 N f id (pr,cd)).1,(h1 N f id (pr,cd)).2⟩ w)
def zLb(h:Γ:=by exact⟨rfl,.tuple #[],by simp[results,results137,go_sem],rfl,U (gU.at h),U Kl.of⟩):=h
def wu{id:Nat}(h:Z (gU p w a G m l ⟨fi,kp,pr,cd⟩))(hid:id<=m)(C:cd.length<=70000)(r:Z ((pr.getD id false||decide (65536<cd.length))=true)):() 137 #[.pointer G.g,id] w (qt p a G m l ⟨fi,kp,pr,cd⟩ w):=by
 have D:=@az;obtain⟨A,c,hL⟩:=h.o;obtain⟨E,F,I,J,K⟩:=hL.facts;obtain⟨y,b,e⟩:=ii (i:=id) hL.lp Y;have z:=ce b;have j:(id:Int)<(m:Int)+1:=by omega
 have hN:=r.o;rw[e]at hN;clear b e;go_in;rcases y with _|_
 .have B:Z (decide (65536<(cd.length:Int))=true):=U (by simp at hN⊢;omega);clear hN;go_wp2_with (go_at_call 84;refine mv (pz (V:=⟨fi,kp,pr,cd⟩) (U (gU.at h)) B) λu _=>?_);exact zLb
 clear hN;go_wp2_with fail;exact zLb
end
variable{f:Nat}{O:List Int}{L:List (List Int)}
section
variable{w:World}{a:xN}{G:xO}{V:ON}{N:a6}
def zLf(h:Γ:=by rw[si.len];exact this):=h
def zLh(h:Γ:=by rw[<-HI.o];exact al _):=h
def CQ(hN:Z (dA N O L l))[ni:aW p a.AI a.nI a.BN m N](hs:Z N.small)(hf:f<=1000)(ih:Z (CO p a G m l fi kp N O f)):CO p a G m l fi kp N O (f+1):=by
 intro w pr cd id h hid h0 hl;have HM:Z (m=N.nodes):=ni.len;have hm:m<=1000:=by rw[HM.o];exact hs.o.1
 have Q:0<=id/\id<=m:=by rcases hid.o with h|h;omega;have:=bt.1 (hN.o.m8.ids id (eS h));rw[<-HM.o]at this;omega
 obtain⟨q,rfl⟩:=bO Q.1;have hq:q<=m:=Y;by_cases B:(pr.getD q false||decide (65536<cd.length))=true;have e:h1 N (f+1) (q:Int) (pr,cd)=(pr,cd):=by rwa[h1,ah]
 rw[e];exact wu h hq hl B;have R:=h0.o;obtain⟨CB,CP⟩:=hY;have e:h1 N (f+1) (q:Int) (pr,cd)=(((bS N (q:Int)).foldl (λs z=>h1 N f z s) (pr,cd)).1.set q true,((bS N (q:Int)).foldl (λs z=>h1 N f z s) (pr,cd)).2++[(2,(q:Int))]):=by rw[h1,ag];rfl;exact B
 rw[e];simp only[Gy,b9,not_or]at B;have RJ:q≠0:=λe=>by subst e;exact B.1 h0.o
 have C:(q:Int)∈O.take (f+1):=by rcases hid.o with h|h;omega;exact h
 obtain⟨t,rfl⟩:∃t,q=t+1:=⟨q-1,Y⟩;have B8:t<m:=Y;obtain⟨b0,q0,o,A1,n1,c1,I,M,ci,ins,P,np,cp,ps,hBN,ob,⟨v0,v1,v2,v3,v4,v5,v6,v7,v8,Oj⟩,s1,si,sp,l1,li,lp,ik,D⟩:=ni.node B8;have y:bS N ((t+1:Nat):Int)=ins:=by rw[bS,show(((t+1:Nat):Int)-1).toNat=t from Y,D.o];rfl
 have EN:Z (∀z∈ins,(z=0\/z∈O.take f)/\0<=z/\z<=m):=λz hz=>by obtain⟨j,hj,hjO⟩:=pu C;have S:=hN.o.ko _ (aK D.o) z hz;rw[<-HM.o]at S;refine⟨?_,S⟩;rcases hN.o.sZ hjO z (by rw[y];exact hz)with h|h;exact .inl h;obtain⟨i,hi,hiO⟩:=pu h;exact .inr (FN Y hiO)
 have ra:M<=1000:=by have:=hs.o.2 _ (aK D.o);exact zLf
 have HI:Z (M=ins):=si.len;obtain⟨A,c,hL⟩:=h.o;obtain⟨p9,kb,kF,kK,kP⟩:=hL.facts;obtain⟨pb,e1,e2⟩:=ii (i:=t+1) hL.lp Y;obtain rfl:pb=false:=by
  rw[<-e2];cases hx:pr.getD (t+1) false with
  |false=>rfl
  |true=>exact absurd hx B.1
 have CL:=ce e1;have T:((t+1:Nat):Int)<(m:Int)+1:=by omega
 have Yb:Z (decide (65536<(cd.length:Int))=false):=U (by have:=B.2;simp;omega);have hcd:cd.length<=65536:=Y;have E:((t+1:Nat):Int)=(t:Int)+1:=by omega
 have w2:(t:Int)+1-1=t:=by omega
 rw[y];have Iq:Z (∀(u:ab) (r:List Bool) (b:List (Int×Int)),Z (gU p u a G m l ⟨fi,kp,r,b⟩)->b.length<=1000000->() 134 #[.pointer G.g,(2:Int),.int .i64 ((t:Int)+1)] u (qt p a G m l ⟨fi,kp,r.set (t+1) true,b++[(2,(t:Int)+1)]⟩ u)):=λu r b h hl=>by have:=yO h hl 2 (show t+1<=m by omega);rwa[E]at this
 rw[E]at T⊢;clear B e e1 e2 Q C y hid RJ E;go_in;go_upto_region 2 with(go_at_call 84;refine mv (pz (V:=⟨fi,kp,pr,cd⟩) (U (gU.at h.o)) Yb) λu _=>?_)
 have X:Z (∀k,((ins.take k).foldl (λs z=>h1 N f z s) (pr,cd)).1.getD 0 false=true/\((ins.take k).foldl (λs z=>h1 N f z s) (pr,cd)).2.length<=65537+f):=λk=>
  nf (I:=λs:kO=>s.1.getD 0 false=true/\s.2<=65537+f) _ _ ⟨R,by show cd.length<=65537+f;omega⟩ λs x _ hs=>⟨xQ f x s hs.1,by have:=(CN (N:=N) f x s).1;omega⟩
 clear R;go_loopw [28] (λi wr=>∃(k:Nat) (r:List Bool) (b:List (Int×Int)),k<=M/\i=.int .i64 k/\Z (gU p wr a G m l ⟨fi,kp,r,b⟩)/\Z ((ins.take k).foldl (λs z=>h1 N f z s) (pr,cd)=(r,b))/\Z (Kl G w wr)) (λi _=>M-(intOf i).toNat);exact⟨0,pr,cd,aR _,rfl,U (gU.at h.o),U rfl,U Kl.of⟩;clear h kb kF kK kP p9 CL hL;obtain⟨k,r,b,hk,rfl,HL,HS,HK⟩:=hrel;obtain⟨A',c',hL⟩:=HL.o;have p9:=hL.prev;have F:=(X.o k).1;have gu:=(X.o k).2;rw[HS.o]at F gu;have uj:=U F;dsimp only at gu;clear F hL;by_cases bD:k<M
 .obtain⟨b2,q2,z,rfl,iM,vz,ez⟩:=si.get bD;have HZ:Z (z=0\/z∈O.take f):=(EN.o z (aK ez.o)).1;have HF:=U (ih.o wr r b z HL HZ uj Y);have xD:Z ((ins.take (k+1)).foldl (λs z=>h1 N f z s) (pr,cd)=((h1 N f z (r,b)).1,(h1 N f z (r,b)).2)):=U (by rw[take_at ez.o,sB,HS.o];rfl);go_wp2_with (go_at_call 137;refine(HF.o).mono ?_;rintro e u2 ⟨rfl,J,K⟩);go_roundw;exact⟨k+1,_,_,Y,by go_num,J,xD,U (HK.o.trans K)⟩;exact zL4
 obtain rfl:k=M:=Y;have zq:Z (ins.foldl (λs z=>h1 N f z s) (pr,cd)=(r,b)):=U (by have:=HS.o;rwa[bV zLh]at this);have y6:=U (Iq.o wr r b HL Y);go_wp2_with (go_at_call 134;refine(y6.o).mono ?_;rintro e u2 ⟨rfl,J,K⟩);refine⟨rfl,.tuple #[],by simp[results,results137,go_sem],rfl,?_,U (HK.o.trans K)⟩;rwa[zq.o]
def wv(hN:Z (dA N O L l))[aW p a.AI a.nI a.BN m N](hs:Z N.small):∀f,f<=1001->CO p a G m l fi kp N O f
 |0,_=>λw pr cd id h hid b e=>by (obtain rfl:id=0:=by rcases hid.o with h|h;exact h;simp at h);exact wu (id:=0) h (aR _) e (U (by show(pr.getD 0 false||decide (65536<cd.length))=true;rw[b.o];rfl))
 |f+1,hf=>CQ hN hs Y (U (wv hN hs f Y))
end
variable{R b2:Nat}{La:List Int}
def yP(kp:List Bool)(l:Nat)(b:au)(i id:Nat):Bool:=!kp.getD id false&&(decide (id≠l)&&decide (b.getD id 0<=(i:Int)+1))
def CR(kp:List Bool)(fi:au)(q id:Nat):Bool:=!kp.getD id false||decide ((q:Int)<=fi.getD id 0)
section
variable{w:World}{a:xN}{G:xO}
def Yc(h:Z (gU p u a G m l ⟨fi,kp,pr,cd⟩))[E:Sl p a.AL (m+1) La][Bx u R 168 #[.pointer G.g]][Bx u b2 3 #[i]](hi:i<=100000){id:Nat}(N:id<=m){b:Bool}(hb:Z (yP kp l La i id=b)):
  () 136 #[id,.pointer R,.pointer b2] u (aL u (.bool b)):=by
 obtain⟨O,P⟩:=hY;obtain⟨A,c,hL⟩:=h.o;obtain⟨Q,S,T,V,X⟩:=hL.facts;obtain⟨r,y,B⟩:=ii (i:=id) hL.lk Y;have F:=ce y;have C:(id:Int)<(m:Int)+1:=by omega
 obtain⟨b3,q3,z,I,J,v3,K⟩:=E.get (k:=id) Y;have w1:IntKind.i64.wrap ((i:Int)+1)=(i:Int)+1:=by rw[a7];omega
 have e:=hb.o;rw[yP,B,g3 K.o]at e;clear y B;go_in;rcases r with _|_
 .by_cases j:id=l
  .have L:((id:Int) !=(l:Int))=false:=by simp[j]
   obtain rfl:false=b:=by rw[<-e];simp[j]
   clear e j;go_upto_region 1 with fail;refine aq ap (λD _=>?_);refine qL [0,1,2,3,4,5,6,7,8,9,10,11,12,13,14,15,16,517,518,519,520,521,522,523,524,525,526,27,28] ?_;exact zL5
  have L:((id:Int) !=(l:Int))=true:=by simp;omega
  have M:Z (decide (z<=(i:Int)+1)=b):=U (by rw[<-e];simp[j]);clear e j;go_upto_region 1 with fail;refine aq ap (λD _=>?_);refine qL [0,1,2,3,4,5,6,7,8,9,10,11,12,13,14,15,16,17,18,19,20,21,22,23,24,25,26,27,28] ?_;refine a8 ?_;go_wp2_with fail;go_ret;exact⟨by rw[<-M.o];rfl,aC⟩
 obtain rfl:false=b:=by rw[<-e];rfl
 clear e;go_upto_region 1 with fail;refine aq ap (λD _=>?_);refine qL [0,1,2,3,4,5,6,7,8,509,510,511,512,513,514,15,16,517,518,519,520,521,522,523,524,525,526,27,28] ?_;exact zL5
def Yd(h:Z (gU p u a G m l ⟨fi,kp,pr,cd⟩))[Bx u R 168 #[.pointer G.g]][Bx u b2 3 #[q]]{id:Nat}(J:id<=m){b:Bool}(hb:Z (CR kp fi q id=b)):
  () 138 #[id,.pointer R,.pointer b2] u (aL u (.bool b)):=by
 have K:=@az;obtain⟨A,c,hL⟩:=h.o;obtain⟨L,M,N,O,P⟩:=hL.facts;obtain⟨j,y,B⟩:=ii (i:=id) hL.lk Y;have D:=ce y;have C:(id:Int)<(m:Int)+1:=by omega
 obtain⟨z,r⟩:∃z,fi[id]?=some z:=⟨_,List.getElem?_eq_getElem (by have:=hL.lf;dsimp only at this;omega)⟩;have E:(ints fi)[id]?=some (.int .i64 z):=by rw[e4,r];rfl
 have e:=hb.o;rw[CR,B,g3 r]at e;clear y B r;go_in;rcases j with _|_
 .obtain rfl:true=b:=by rw[<-e];rfl
  clear e;go_upto_region 1 with fail;refine aq ap (λF _=>?_);refine qL [0,1,2,3,4,5,6,7,8,509,510,511,512,513,514,515,516,517,18,19] ?_;exact zL5
 have I:Z (decide ((q:Int)<=z)=b):=U (by rw[<-e];rfl);clear e;go_upto_region 1 with fail;refine aq ap (λF _=>?_);refine qL [0,1,2,3,4,5,6,7,8,9,10,11,12,13,14,15,16,17,18,19] ?_;refine a8 ?_;go_wp2_with fail;go_ret;exact⟨by rw[<-I.o];rfl,aC⟩
def ae2[Sl p a.AL (m+1) La](k1:aA u R 168 #[.pointer G.g])(k2:aA u b2 3 #[i])(n1:R≠G.g/\R≠G.P)(n2:b2≠G.g/\b2≠G.P)(hi:i<=100000):
  Z (∀(b:ab) (e:List Bool) (j:List (Int×Int)) (id:Nat),1<=id->id<=m->Z (gU p b a G m l ⟨fi,kp,e,j⟩)->Z (Kl G u b)->() 136 #[.int .i64 (id:Int),.pointer R,.pointer b2] b (aL b (.bool (yP kp l La i id)))):=
 U λb e j id _ y h r=>by
 have:Bx b R 168 #[.pointer G.g]:=⟨r.o.ak k1 n1.1 n1.2 ao⟩;have:Bx b b2 3 #[i]:=⟨r.o.ak k2 n2.1 n2.2 ao⟩;exact Yc h hi y rfl
def ae3(k1:aA u R 168 #[.pointer G.g])(k2:aA u b2 3 #[q])(n1:R≠G.g/\R≠G.P)(n2:b2≠G.g/\b2≠G.P):
  Z (∀(b:ab) (e:List Bool) (j:List (Int×Int)) (id:Nat),1<=id->id<=m->Z (gU p b a G m l ⟨fi,kp,e,j⟩)->Z (Kl G u b)->() 138 #[.int .i64 (id:Int),.pointer R,.pointer b2] b (aL b (.bool (CR kp fi q id)))):=
 U λb e j id _ y h r=>by
 have:Bx b R 168 #[.pointer G.g]:=⟨r.o.ak k1 n1.1 n1.2 ao⟩;have:Bx b b2 3 #[q]:=⟨r.o.ak k2 n2.1 n2.2 ao⟩;exact Yd h y rfl
end
def qO(m:Nat)(kp:List Bool)(l:Nat)(b:au):List Int->Nat->kO->kO
 |[],_,s=>s
 |id::r,i,s=>qO m kp l b r (i+1) (swp (yP kp l b i) (s.1.set id.toNat true,s.2++[(1,id)]) m)
section
variable{w:World}{a:xN}{G:xO}
def gU.ne(h:gU p u a G m l ⟨fi,kp,pr,cd⟩)(hg:u<=g):g≠G.g/\g≠G.P:=by
 obtain⟨A,c,h⟩:=h;have b:=h.bx.lt;have e:=h.pr.lt;omega
def yQ(h:Z (gU p w a G m l ⟨fi,kp,pr,cd⟩))(L:1<=m)(hm:m<=512)(hl:cd.length<=10)[M:Sl p a.AO m O][Sl p a.AL (m+1) La](hO:Z (∀id∈O,1<=id/\id<=m))(hF:Z (qO m kp l La O 0 (pr,cd)=(r5,ur))):
  () 80 #[.pointer G.g] w (qt p a G m l ⟨fi,kp,r5,ur⟩ w):=by
 obtain⟨CB,CP,FB⟩:=gW;have N:Z (m=O):=M.len;obtain⟨b9,q9,z9,P,XG,-⟩:=M.get (k:=0) L;go_in;go_upto_region 1 with fail;refine aa (λu _ Q=>?_);have B:=U (h.o.at (w':=u));have y:=h.o.ne (al _);obtain⟨A0,c0,F⟩:=B.o;obtain⟨p9,kb,-⟩:=F.facts;go_upto_region 2 with fail;go_loopw [9] (λi wr=>∃(j:Nat) (r:List Bool) (b:List (Int×Int)),j<=m/\i=.int .i64 j/\Z (gU p wr a G m l ⟨fi,kp,r,b⟩)/\Z (qO m kp l La (O.drop j) j (r,b)=(r5,ur))/\Z (Kl G u wr)/\Z (b<=10+j*513)) (λi _=>m-(intOf i).toNat);exact⟨0,pr,cd,aR _,rfl,B,hF,U Kl.of,U Y⟩;clear B hF kb p9 F;obtain⟨j,r,b,hj,rfl,B,HS,S,HC⟩:=hrel;obtain⟨A',c',hL⟩:=B.o;have p9:=hL.prev;have k1:Bx wr w.1.size 168 #[.pointer G.g]:=⟨S.o.ak Q.ak y.1 y.2 ao⟩;clear hL;by_cases T:j<m
 .obtain⟨b8,q8,id,I,ob8,v9,J⟩:=M.get T;rw[P]at I;cases I;obtain⟨X,B7⟩:=hO.o id (aK J.o);obtain⟨q,rfl⟩:=bO (show 0<=id by omega);have hq:q<=m:=Y;have vj:b.length<=270000:=by have:=HC.o;have:j*513<=512*513:=cV _ Y;omega
  obtain⟨⟨K,C⟩,z⟩:=lh (swp (yP kp l La j) (r.set q true,b++[(1,(q:Int))]) m);have HSW:=U z;have xD:Z (qO m kp l La (O.drop (j+1)) (j+1) (K,C)=(r5,ur)):=U (by
   have h:=HS.o;obtain⟨h1,h2⟩:=bj.1 J.o;rw[e7 h1,h2,qO,a9,z]at h;exact h)
  have y6:Z (C<=10+(j+1)*513):=U (by
   have h:=(wq (yP kp l La j) (r.set q true,b++[(1,(q:Int))]) m).1;rw[z]at h;simp only[bh,l5]at h;have:=HC.o;rw[im];omega)
  have D:=B.o.ne (al _);clear z X B7;go_wp2_with (first|(go_at_call 134;refine er (λu0 _ k2=>?_);refine(yO (V:=⟨fi,kp,r,b⟩) (U (B.o.at (w':=u0))) (show b.length<=1000000 by omega) 1 hq).mono ?_;rintro e u1 ⟨rfl,Ye,E⟩;have k3:=E.o.ak k2.ak D.1 D.2 ao;have k4:=E.o.ak (k1.ak.at (w':=u0)) y.1 y.2 ao;obtain⟨kx3,kx4⟩:Bx u1 wr.1.size 3 #[j]/\Bx u1 w.1.size 168 #[.pointer G.g]:=⟨⟨k3⟩,⟨k4⟩⟩;have EO:=ae2 (p:=p) (a:=a) (G:=G) (m:=m) (l:=l) (fi:=fi) (kp:=kp) (La:=La) k4 k3 y D (show j<=100000 by omega))|(go_at_call 135;refine(FU (g:=136) Ye Y ch (enters_of func136 ap rfl) EO HSW).mono ?_;rintro e u2 ⟨rfl,HL2,nB⟩));go_roundw;exact⟨j+1,K,C,Y,by go_num,HL2,xD,U (((S.o.trans Kl.of).trans E).trans nB),y6⟩;exact zL4
 obtain rfl:j=m:=Y;have Io:r=r5/\b=ur:=by have h:=HS.o;rw[eU (by rw[<-N.o];exact al _)]at h;exact i7 h
 obtain⟨rfl,rfl⟩:=Io;go_wp2_with fail;refine⟨rfl,.tuple #[],by simp[results,results80,go_sem],rfl,U (gU.at B),U (Kl.of.trans S)⟩
end
variable{b:Nat}
def acq(N:a6)(id:Int)(s:kO):kO:=(((bS N id).foldl (λs z=>h1 N 1001 z s) s).1,((bS N id).foldl (λs z=>h1 N 1001 z s) s).2++[(6,id)])
def yR(N:a6)(m:Nat)(kp:List Bool)(fi O:au):Nat->kO->kO
 |0,s=>s
 |q+1,s=>if 65536<s.2.length then s else yR N m kp fi O q (swp (CR kp fi (q+1)) (acq N (O.getD q 0) s) m)
def Yf(w:ab)(t:Value):Nat:=
 match t with
 |.pointer (some ad)=>
  match w.cell? ad with
   |some v=>(intOf v).toNat
   |none=>0
 |_=>0
def FV{w:ab}(h:aA w b T #[z]):Yf w (.pointer b)=z.toNat:=by
 have:=h.cell 0;simp at this;simp[Yf,this,intOf]
section
variable{w:World}{a:xN}{G:xO}{N:a6}
def zLd(h:Γ:=by exact⟨rfl,.tuple #[],by simp[results,results83,go_sem],rfl,U g1,U g2⟩):=h
def zLe(h:Γ:=by have:=bt.1 (hN.o.m8.ids id hid);rw[<-HM.o]at this;exact this):=h
def ww(hN:Z (dA N O L l))[ni:aW p a.AI a.nI a.BN m N](hs:Z N.small)(h:Z (gU p w a G m l ⟨fi,kp,pr,cd⟩))(lz:1<=m)(hm:m<=512)[sO:Sl p a.AO m O](h0:Z (pr.getD 0 false=true))(hF:Z (yR N m kp fi O m (pr,cd)=(r5,ur))):
  () 83 #[.pointer G.g] w (qt p a G m l ⟨fi,kp,r5,ur⟩ w):=by
 obtain⟨CB,CP,FB⟩:=gW;have HM:Z (m=N.nodes.length):=ni.len;have t2:Z (m=O.length):=sO.len;have wa:Z (∀id∈O,1<=id/\id<=m):=U λid hid=>zLe;have HFO:=U (wv (p:=p) (a:=a) (G:=G) (m:=m) (fi:=fi) (kp:=kp) hN hs 1001 (al _));obtain⟨b9,q9,z9,hAO,XG,-⟩:=sO.get (k:=0) lz;obtain⟨b0,q0,-,-,-,-,-,-,-,-,-,-,-,-,hBN,ob0,-⟩:=ni.node lz;go_in;go_upto_region 1 with fail;refine aa (λu _ kb1=>?_);have F:=U (h.o.at (w':=u));have C:=h.o.ne (al _);have r:=F.o.ne (al _);obtain⟨A0,c0,hL0⟩:=F.o;obtain⟨p9,kb,-⟩:=hL0.facts;clear hL0;go_upto_region 2 with fail;refine aa (λv _ w6=>?_);go_loopw [2] (λt wr=>∃(q b2:Nat) (j:List Bool) (b:List (Int×Int)),q<=m/\t=.pointer b2/\Bx wr b2 3 #[q]/\Z (b2≠G.g/\b2≠G.P)/\Z (gU p wr a G m l ⟨fi,kp,j,b⟩)/\Z (yR N m kp fi O q (j,b)=(r5,ur))/\Z (Kl G u wr)/\Z (j.getD 0 false=true)) (λt wr=>Yf wr t);exact⟨m,_,pr,cd,al _,rfl,w6,U r,U (F.o.at (w':=v)),hF,U Kl.of,h0⟩;clear F hF kb p9 r h0;obtain⟨q,b2,j,b,hq,rfl,k2,HN2,F,HS,HK,H0⟩:=hrel;obtain⟨A',c',hL⟩:=F.o;obtain⟨p9,kb,-⟩:=hL.facts;clear hL;have k1:Bx wr w.1.size 168 #[.pointer G.g]:=⟨HK.o.ak kb1.ak.at C.1 C.2 ao⟩;have hex:∀(x:ab),aj x wr->j=r5->b=ur->gU p x a G m l ⟨fi,kp,r5,ur⟩/\Kl G w x:=λx _ e1 e2=>by subst e1 e2;exact⟨F.o.at,(Kl.of.trans HK).trans Kl.of⟩
 have HEX:=U hex;clear hex;by_cases TN:q=0
 .subst TN;obtain⟨e1,e2⟩:j=r5/\b=ur:=i7 HS;(have t1:decide ((1:Int)<=((0:Nat):Int))=false:=by decide);go_wp2_with fail;obtain⟨g1,g2⟩:=HEX.o wr ⟨aY _ _⟩ e1 e2;exact zLd
 obtain⟨q,rfl⟩:∃t,q=t+1:=⟨q-1,Y⟩;have t1:decide ((1:Int)<=((q+1:Nat):Int))=true:=by simp;omega
 obtain⟨mb,cA⟩:=lh (decide (65536<(b.length:Int)));have w5:=U cA;rcases mb with _|_
 .have hcd:b.length<=65536:=by have:=of_decide_eq_false cA;omega
  obtain⟨b8,q8,id,hA8,ob8,v9,B3⟩:=sO.get (k:=q) Y;rw[hAO]at hA8;cases hA8;obtain⟨Ik,B7⟩:=wa.o id (aK B3.o);obtain⟨t,ht⟩:=bO (show 0<=id-1 by omega);(obtain rfl:id=(t:Int)+1:=by omega);have B8:t<m:=Y;(have w3:IntKind.i64.wrap (q:Int)=(q:Int):=by rw[a7];omega);(have w4:(q:Int)<(m:Int):=by omega);(have w2:(t:Int)+1-1=t:=by omega);obtain⟨b7,q7,o,A1,n1,c1,I,nn,ci,ins,P,np,cp,ps,hB7,ob7,⟨v0,v1,v2,v3,v4,v5,v6,v7,v8,Oj⟩,s1,si,sp,l1,li,lp,ik,S⟩:=ni.node B8;rw[hBN]at hB7;cases hB7;(have ra:nn<=1000:=by have:=hs.o.2 _ (aK S.o);exact zLf);have HI:Z (nn=ins.length):=si.len;(have M:bS N ((t:Int)+1)=ins:=by rw[bS,show((t:Int)+1-1).toNat=t from by omega,S.o];rfl);have EN:Z (∀z∈ins,z=0\/z∈O.take 1001):=λz hz=>by have jR:=hN.o.ko _ (aK S.o) z hz;by_cases e:z=0;exact .inl e;right;rw[bV (by rw[<-t2.o];omega)];exact hN.o.mem.2 (bt.2 Y)
  have xD:Z (yR N m kp fi O q (swp (CR kp fi (q+1)) (((ins.foldl (λs z=>h1 N 1001 z s) (j,b)).1),((ins.foldl (λs z=>h1 N 1001 z s) (j,b)).2)++[(6,(t:Int)+1)]) m)=(r5,ur)):=U (by
   have D:=HS.o;rw[yR,ag (by show¬65536<b.length;omega),g3 B3.o,acq,M]at D;exact D)
  have HP0:Z (∀k,((ins.take k).foldl (λs z=>h1 N 1001 z s) (j,b)).1.getD 0 false=true/\((ins.take k).foldl (λs z=>h1 N 1001 z s) (j,b)).2.length<=66538):=λk=>
   nf (I:=λs:kO=>s.1.getD 0 false=true/\s.2.length<=66538) _ _ ⟨H0,by show b.length<=66538;omega⟩ λs x _ hs=>⟨xQ 1001 x s hs.1,by have:=(CN (N:=N) 1001 x s).1;omega⟩
  have r:=HN2.o;clear ht Ik B7 M cA HS;go_upto_region 4 with(go_at_call 84;refine mv (pz (V:=⟨fi,kp,j,b⟩) (U (F.o.at (w':=wr))) w5) λu5 _=>?_);refine aq ap (λu6 _=>?_);refine qL [0,1,2,3,4,5,6,7,8] ?_;refine a8 ?_;go_upto_region 6 with fail;have HL6:=U (F.o.at (w':=u6));have T:Z (Kl G wr u6):=Kl.of;clear kb p9;go_loopw [39] (λi wy=>∃(k:Nat) (B:List Bool) (y:List (Int×Int)),k<=nn/\i=.int .i64 k/\Z (gU p wy a G m l ⟨fi,kp,B,y⟩)/\Z ((ins.take k).foldl (λs z=>h1 N 1001 z s) (j,b)=(B,y))/\Z (Kl G u6 wy)) (λi _=>nn-(intOf i).toNat);exact⟨0,j,b,aR _,rfl,HL6,U rfl,U Kl.of⟩;obtain⟨k,B,y,hk,rfl,X,zq,J⟩:=hrel;obtain⟨A3,c3,hL3⟩:=X.o;have p9:=hL3.prev;have fN:=(HP0.o k).1;have gu:=(HP0.o k).2;rw[zq.o]at fN gu;have uj:=U fN;dsimp only at gu;have k1y:Bx wr w.1.size 168 #[.pointer G.g]:=⟨((T.o.trans J).ak k1.ak C.1 C.2 ao)⟩;have k2y:Bx wr b2 3 #[.int .i64 ((q+1:Nat):Int)]:=⟨((T.o.trans J).ak k2.ak r.1 r.2 ao)⟩;clear fN hL3;by_cases bD:k<nn
  .obtain⟨b4,q4,z,rfl,ob4,vz,ez⟩:=si.get bD;have HZ:Z (z=0\/z∈O.take 1001):=EN.o z (aK ez.o);have HF:=U (HFO.o wr B y z X HZ uj Y);have HS4:Z ((ins.take (k+1)).foldl (λs z=>h1 N 1001 z s) (j,b)=((h1 N 1001 z (B,y)).1,(h1 N 1001 z (B,y)).2)):=U (by rw[take_at ez.o,sB,zq.o];rfl);go_wp2_with (go_at_call 137;refine(HF.o).mono ?_;rintro e u7 ⟨rfl,HL7,E⟩);go_roundw;exact⟨k+1,_,_,Y,by go_num,HL7,HS4,U (J.o.trans E)⟩;exact zL4
  obtain rfl:k=nn:=Y;have Q:ins.foldl (λs z=>h1 N 1001 z s) (j,b)=(B,y):=by have:=zq.o;rwa[bV zLh]at this
  have D:=xD.o;rw[Q]at D;dsimp only at D;obtain⟨⟨pr4,cd4⟩,K⟩:=lh (swp (CR kp fi (q+1)) (B,y++[(6,(t:Int)+1)]) m);rw[K]at D;have xR:=U D;have HSW:=U K;have HZ4:Z (pr4.getD 0 false=true):=U (by
   have:=xP (CR kp fi (q+1)) (B,y++[(6,(t:Int)+1)]) m;rw[K]at this;exact this.trans uj)
  clear K D Q;go_wp2_with (first|(go_at_call 81;refine(qu X (show y.length<=1000000 by omega) 6 ((t:Int)+1)).mono ?_;rintro e u7 ⟨rfl,HL7,E⟩;obtain⟨k1z,k2z⟩:Bx u7 w.1.size 168 #[.pointer G.g]/\Bx u7 b2 3 #[.int .i64 ((q+1:Nat):Int)]:=⟨⟨E.o.ak k1y.ak C.1 C.2 ao⟩,⟨E.o.ak k2y.ak r.1 r.2 ao⟩⟩;have EO:=ae3 (p:=p) (a:=a) (G:=G) (m:=m) (l:=l) (fi:=fi) (kp:=kp) k1z.ak k2z.ak C r)|(go_at_call 135;refine(FU (g:=138) HL7 Y ch (enters_of func138 ap rfl) EO HSW).mono ?_;rintro e u8 ⟨rfl,HL8,HK8⟩;have k2w:Bx u8 b2 3 #[.int .i64 ((q+1:Nat):Int)]:=⟨HK8.o.ak k2z.ak r.1 r.2 ao⟩));exact⟨⟨q,u8.1.size,pr4,cd4,Y,rfl,Bx.new,U (HL8.o.ne (al _)),U (HL8.o.at),xR,U ((((((HK.o.trans T).trans J).trans E).trans HK8)).trans Kl.of),HZ4⟩,by rw[FV Bx.new.ak,FV k2.ak];omega⟩
 obtain⟨e1,e2⟩:j=r5/\b=ur:=by have D:=HS.o;rw[yR,ah (by have:=pH cA;show 65536<b.length;omega)]at D;exact i7 D
 clear cA;go_wp2_with (go_at_call 84;refine mv (pz (V:=⟨fi,kp,j,b⟩) (U (F.o.at (w':=wr))) w5) λu5 _=>?_);obtain⟨g1,g2⟩:=HEX.o u5 am e1 e2;exact zLd
end
variable{w0:World}
structure r6(w0 w:World)(t:Nat)(T:TypeId)(cs:Array Value)(gs:List (Nat×TypeId×Array Value)):Prop where
 pr:aj w w0
 box:aA w t T cs
 bs:∀x∈gs,aA w x.1 x.2.1 x.2.2
 nd:(t::gs.map (·.1)).Nodup
 ge:∀x∈gs,w0.1.size<=x.1
 ht:w0<=t
def s5(q:Nat)(ins:au)(L:au):List Int:=ins.foldl (λL z=>L.set z.toNat (q:Int)) L
def jg(N:a6)(O:au):Nat->List Int->List Int
 |0,L=>L
 |q+1,L=>jg N O q (s5 (q+1) (bS N (O.getD q 0)) L)
section
variable{w:World}{n t:Nat}{qaa:TypeId}{cs:Array Value}{gs:List (Nat×TypeId×Array Value)}{N:a6}
theorem r6.bx(h:r6 w0 w t T cs gs):Bx w t T cs:=⟨h.box⟩
def r6.at[l:aM w w'](h:r6 w0 w t T cs gs):r6 w0 w' t T cs gs:=⟨⟨dm h.pr.st l.st⟩,h.box.at,λx b=>(h.bs x b).at,h.nd,h.ge,h.ht⟩
def r6.mk'[aj w' w](h:r6 w0 w t T cs gs)(k:aA w' w.1.size qaa ds):r6 w0 w' t T cs ((w.1.size,qaa,ds)::gs):=by
 have b:=h.at (w':=w');refine⟨b.pr,b.box,λx hx=>?_,?_,λx hx=>?_,h.ht⟩;rcases dE.1 hx with rfl|hx;exact k;exact b.bs x hx;have j:=h.nd;rw[tP]at j;rw[eh,tP,tP];refine⟨λhm=>?_,λhm=>?_,j.2⟩;rcases dE.1 hm with e|hm;have:=h.box.lt;rw[e]at this;exact pJ _ this;exact j.1 hm;obtain⟨x,hx,e⟩:=cw.1 hm;have:=(h.bs x hx).lt;rw[e]at this;exact pJ _ this;rcases dE.1 hx with rfl|hx;exact h.pr.st.size;exact h.ge x hx
def r6.set(h:r6 w0 w t T cs gs)(i:Nat)(v:Value):r6 w0 (w.setCell (t,i) v) t T (cs.setIfInBounds i v) gs:=
 ⟨⟨h.pr.st.setCell (p:=⟨t,i,none⟩) h.ht _⟩,h.box.av i v,λx b=>(h.bs x b).aV (λe=>(tP.1 h.nd).1 (by have j:x.1=t:=e;rw[<-j];exact cw.2 ⟨x,b,rfl⟩)) _,h.nd,h.ge,h.ht⟩
def r6.fin{a:xN}{F K P:Nat}{z:au}{f g:List Bool}(h:r6 w0 w t 172 (r3 a ⟨t,F,K,P⟩ m l none 0 ⟨z,f,g,[]⟩) gs)(b:(F,3,ints z)∈gs)(e:(K,4,eB f)∈gs)(j:(P,4,eB g)∈gs)(r:K≠P)(y:z=m+1)(lf:f=m+1)(lg:g=m+1):nb w0 w a ⟨t,F,K,P⟩ m l none 0 ⟨z,f,g,[]⟩:=
 ⟨h.pr,h.box,h.bs _ b,h.bs _ e,h.bs _ j,bZ.nil _ _,r,h.ht,h.ge _ b,h.ge _ e,h.ge _ j,y,lf,lg⟩
def Uf[aW w A n B m N](j:Z N.fits)(hs:Z N.small)(hE:Z (bm N=E)){W:au}(hV:Z (rY N=W)){x:Nat}(r:Z (W=x)):
  () 133 #[.agg #[.slice A n c,(B,m,d)]] w λe w'=>∃A c,e=.returned (.tuple #[.slice A x c,E])/\Sl w' A x W/\aD w' w.1.size 3 A c W/\aj w' w:=by
 obtain rfl:=r.o;exact(X4 j hs hE hV).mono λe w' ⟨A,c,y,b,z⟩=>⟨A,c,y,⟨b.rd,rfl⟩,b,z⟩
def abx(w:ab)(N:a6)(O La:au)(l m:Nat)(e:Ending)(w':ab):Prop:=
 ∃(p:ab) (a:xN) (G:xO),e=.returned (.tuple #[.pointer G.g,an])/\aj p w/\aW p a.AI a.nI a.BN m N/\Sl p a.AO m O/\Sl p a.AL (m+1) La/\
  Z (gU p w' a G m l ⟨jg N O m (List.replicate (m+1) 0),List.replicate (m+1) false,(List.replicate (m+1) false).set 0 true,[]⟩)
def Iw[aW w A n B m N](C:Z N.fits)(hs:Z N.small)(b:Z (bm N=E))(z:E≠0):() 79 #[.agg #[(A,n,c),(B,m,d)]] w (aL w (.tuple #[.pointer none,E])):=by
 have D:=@az;obtain⟨⟨O,L,l⟩,j⟩:=l8 (dz N);obtain⟨y,r⟩:=l8 O.length;have F:(E !=0)=true:=by simp[z]
 clear z;go_in;go_wp2_with (go_at_call 60;refine(jC C hs b j r).mono ?_;rintro e u ⟨AO,cO,rfl,G,I,J⟩);go_ret2;exact bF
def Ug[a:aW w A n B m N](hf:Z N.fits)(hs:Z N.small)(G:Z (bm N=0))(hN:Z (dA N O L l))(X:Z (dz N=(O,L,(l:Int))))(HLV:Z (rY N=La))(hm:m<=512):
  () 79 #[.agg #[(A,n,c),(B,m,d)]] w (abx w N O La l m):=by
 obtain⟨CB,CP,FB⟩:=gW;have HM:Z (m=N.nodes):=a.len;have t2:Z (O=m):=U (by rw[hN.o.tI,HM.o]);have K5:Z (La=m+1):=U (by
  rw[<-HLV.o,rY,ah G.o,Cu,fe,HM.o])
 have Yg:∀W:World,(Instr.makeSlice 24 ((m:Int)+1:Int) ((m:Int)+1:Int)).run prog W=.ok (.slice (some ⟨W.1.size,0,none⟩) (m+1) (m+1)) (W.alloc (.cells (ints (List.replicate (m+1) 0)) 3)):=λW=>by have h:=kL (m+1) Y W;rwa[en]at h
 have B9:∀W:World,(Instr.makeSlice 106 ((m:Int)+1:Int) ((m:Int)+1:Int)).run prog W=.ok (.slice (some ⟨W.1.size,0,none⟩) (m+1) (m+1)) (W.alloc (.cells (eB (List.replicate (m+1) false)) 4)):=λW=>by have h:=n4 (m+1) Y W;rwa[en]at h
 go_in;go_upto_region 1 with fail;refine aa (λu0 _ kn=>?_);go_upto_region 11 with(first|(go_at_call 60;refine(jC hf hs G X t2).mono ?_;rintro e u ⟨AO,cO,rfl,sO,oO,pO⟩)|(go_at_call 133;refine(Uf hf hs G HLV K5).mono ?_;rintro e u ⟨AL,cL,rfl,sL,oL,pL⟩)|(go_at_call 61;refine(Ao hf hs G X).mono ?_;rintro e u ⟨rfl,_⟩));obtain⟨p,hp⟩:=lg u;rw[<-hp];obtain⟨nip,sOp,sLp,pp⟩:aW p A n B m N/\Sl p AO m O/\Sl p AL (m+1) La/\aj p w:=by rw[hp];exact⟨am,am,am,aC⟩
 have kn:Bx p w.1.size 33 #[(A,n,c),(B,m,d)]:=by rw[hp];exact am
 clear hp;go_upto_region 12 with fail;refine aa (λu2 _ r=>?_);obtain⟨tb,J⟩:=lg p.1.size;have b:Z (r6 p u2 tb 172 #[(A,n,c),(B,m,d),(AO,m,cO),.slice AL (m+1) cL,(),l,(),(),()] []):=U ⟨am,by rw[J];exact r.ak,aI,aI,aI,by rw[J];exact al _⟩;rw[<-J]at r⊢;clear J;go_cut [] (λwx=>∃F K P,Z (nb p wx ⟨A,n,c,B,d,AO,cO,AL,cL⟩ ⟨tb,F,K,P⟩ m l none 0 ⟨List.replicate (m+1) 0,List.replicate (m+1) false,List.replicate (m+1) false,[]⟩));case first=>
  refine ax p ap (λj _=>?_)
  repeat' (first
   |(refine kj 0 ?_
     refine qL [0,1,2,3,5] ?_;refine jQ 7 54 ?_)
   |(refine kj 9 ?_
     refine eE 9 ?_;refine jQ 10 57 ?_)
   |(refine kj 12 ?_
     refine eE 12 ?_;refine jQ 13 59 ?_)
   |(refine kj 15 ?_
     refine eE 15 ?_;refine jQ 16 61 ?_)
   |(intro (tg:Tg 4) K hK
     clear tg;obtain⟨gF,hgF⟩:=lg ((World.heap j).size);have b:=U (b.o.at (w':=j));go_simp;refine aE hK ?_;refine bc (λj _ _=>?_);have b:=U (b.o.mk' (w':=j) Bx.ak);rw[<-hgF]at b⊢;clear hgF;have r:=b.o.bx)
   |(intro (tg:Tg 6) K hK
     clear tg;obtain⟨gK,hgK⟩:=lg ((World.heap j).size);have b:=U (b.o.at (w':=j));go_simp;refine aE hK ?_;refine bc (λj _ _=>?_);have b:=U (b.o.mk' (w':=j) Bx.ak);rw[<-hgK]at b⊢;clear hgK;have r:=b.o.bx)
   |(intro (tg:Tg 8) K hK
     clear tg;obtain⟨gP,hgP⟩:=lg ((World.heap j).size);have b:=U (b.o.at (w':=j));go_simp;refine aE hK ?_;refine bc (λj _ _=>?_);have b:=U (b.o.mk' (w':=j) Bx.ak);rw[<-hgP]at b⊢;clear hgP;have r:=b.o.bx)
   |(intro (tg:Tg 11) K hK
     clear tg;go_simp;have D:=U (b.o.set 4 (.slice gF (m+1) (m+1)));obtain⟨v1,qc⟩:=lg (j.setCell (tb,4) (.slice gF (m+1) (m+1)));rw[<-qc]at D⊢;clear qc b;obtain⟨b,-⟩:_/\True:=⟨D,bq⟩;clear D;have pv1:=b.o.pr;have r:=b.o.bx;refine aE hK ?_ pv1;obtain⟨j,rfl⟩:∃W:World,W=v1:=⟨_,rfl⟩)
   |(intro (tg:Tg 14) K hK
     clear tg;go_simp;have D:=U (b.o.set 6 (.slice gK (m+1) (m+1)));obtain⟨v2,ro⟩:=lg (j.setCell (tb,6) (.slice gK (m+1) (m+1)));rw[<-ro]at D⊢;clear ro b;obtain⟨b,-⟩:_/\True:=⟨D,bq⟩;clear D;have Tp:=b.o.pr;have r:=b.o.bx;refine aE hK ?_ Tp;obtain⟨j,rfl⟩:∃W:World,W=v2:=⟨_,rfl⟩)
   |(intro (tg:Tg 17) K hK
     clear tg;go_simp;have D:=U (b.o.set 7 (.slice gP (m+1) (m+1)));obtain⟨v3,JE⟩:=lg (j.setCell (tb,7) (.slice gP (m+1) (m+1)));rw[<-JE]at D⊢;clear JE b;obtain⟨b,-⟩:_/\True:=⟨D,bq⟩;clear D;have pv3:=b.o.pr;have r:=b.o.bx;refine aE hK ?_ pv3;obtain⟨j,rfl⟩:∃W:World,W=v3:=⟨_,rfl⟩)
   |refine ff 4 ?_
   |refine ff 11 ?_
   |refine ff 14 ?_
   |refine ff 17 ?_
   |refine ff 6 ?_
   |refine ff 8 ?_
   |refine my 4 6 ?_ ?_
   |refine my 6 11 ?_ ?_
   |refine my 4 8 ?_ ?_
   |refine my 8 11 ?_ ?_
   |refine my 8 14 ?_ ?_
   |refine my 6 8 ?_ ?_
   |refine rz3 4 6 8 ?_ ?_ ?_
   |refine rz3 6 8 11 ?_ ?_ ?_
   |refine DW ?_)
  all_goals go_wp2_with fail;go_meet;have ND:=b.o.nd;simp only[tP,eh,lM,dE,tO,sy,not_or,acO,aaB,PD]at ND;exact⟨gF,gK,gP,U (b.o.fin aI aI aI (by rintro rfl;simp at ND) aI aI aI)⟩
 obtain⟨F,K,P,C⟩:=hcut;clear b r Yg B9;have wa:Z (∀id∈O,1<=id/\id<=m):=U λid hid=>zLe;have h1m:1<=m:=by have:=hN.o.oT;have:=hN.o.lQ;rw[<-HM.o]at this;omega
 go_upto_region 14 with fail;go_loopw [10] (λt wr=>∃(q:Nat) (fi:au),q<=m/\t=.int .i64 q/\Z (nb p wr ⟨A,n,c,B,d,AO,cO,AL,cL⟩ ⟨tb,F,K,P⟩ m l none 0 ⟨fi,List.replicate (m+1) false,List.replicate (m+1) false,[]⟩)/\Z (jg N O q fi=jg N O m (List.replicate (m+1) 0))) (λt _=>(intOf t).toNat);exact⟨m,_,al _,rfl,C,U rfl⟩;clear C;obtain⟨q,fi,hq,rfl,C,S⟩:=hrel;obtain⟨p9,r,kF,kK,kP⟩:=C.o.facts;have kn2:Bx wr w.1.size 33 #[(A,n,c),(B,m,d)]:=am;by_cases TN:q=0
 .subst TN;(have t1:decide ((1:Int)<=((0:Nat):Int))=false:=by decide);have hF:fi=jg N O m (List.replicate (m+1) 0):=S.o;have e0:(eB (List.replicate (m+1) false))[0]?=some (.bool false):=ce (by rw[kw,ah Y]);(have hm0:(0:Int)<(m:Int)+1:=by omega);have Q:=U hF;clear hF;go_wp2_with fail;go_ret2;refine⟨p,⟨A,n,c,B,d,AO,cO,AL,cL⟩,⟨tb,F,K,P⟩,rfl,pp,nip,sOp,sLp,U ⟨none,0,?_⟩⟩;rw[<-Q.o];exact C.o.FP 0 true
 obtain⟨q,rfl⟩:∃t,q=t+1:=⟨q-1,Y⟩;have t1:decide ((1:Int)<=((q+1:Nat):Int))=true:=by simp;omega
 have w3:IntKind.i64.wrap (q:Int)=(q:Int):=by rw[a7];omega
 have w4:(q:Int)<(m:Int):=by omega
 obtain⟨b8,q8,id,rfl,ob8,v9,B3⟩:=sOp.get (k:=q) Y;obtain⟨Ik,B7⟩:=wa.o id (aK B3.o);obtain⟨t,ht⟩:=bO (show 0<=id-1 by omega);obtain rfl:id=(t:Int)+1:=by omega
 have B8:t<m:=Y;have w2:(t:Int)+1-1=t:=by omega
 have w5:IntKind.i64.wrap (t:Int)=(t:Int):=by rw[a7];omega
 have w6:(t:Int)<(m:Int):=by omega
 obtain⟨b7,q7,o,A1,n1,c1,I,V,ci,ins,P1,np,cp,ps,rfl,ob7,⟨v0,v1,v2,v3,v4,v5,v6,v7,v8,Oj⟩,s1,si,sp,l1,li,lp,ik,R⟩:=nip.node B8;have ra:V<=1000:=by have:=hs.o.2 _ (aK R.o);exact zLf
 have HI:Z (V=ins):=si.len;have EN:Z (∀z∈ins,0<=z/\z<=m):=U λz hz=>by have:=hN.o.ko _ (aK R.o) z hz;rw[<-HM.o]at this;exact this
 have HN:Z (jg N O q (s5 (q+1) ins fi)=jg N O m (List.replicate (m+1) 0)):=U (by
  rw[<-S.o,jg,g3 B3.o,bS,show((t:Int)+1-1).toNat=t from Y,R.o];rfl)
 clear ht Ik B7 S;go_upto_region 16 with fail;refine aq ap (λj _=>?_);refine qL [0,1,2,3,4,5,6,7,8,9,10,11,12] ?_;refine a8 ?_;go_upto_region 17 with fail;have HSu:=U (C.o.at (w':=j));clear r kF kK kP p9 kn2;go_loopw [80] (λi wy=>∃(k:Nat) (M:au),k<=V/\i=.int .i64 k/\Z (nb p wy ⟨A,n,c,some ⟨b7,q7,none⟩,d,some ⟨b8,q8,none⟩,cO,AL,cL⟩ ⟨tb,F,K,P⟩ m l none 0 ⟨M,List.replicate (m+1) false,List.replicate (m+1) false,[]⟩)/\Z (s5 (q+1) (ins.drop k) M=s5 (q+1) ins fi)) (λi _=>V-(intOf i).toNat);exact⟨0,fi,aR _,rfl,HSu,U rfl⟩;clear C HSu;obtain⟨k,M,hk,rfl,C,S⟩:=hrel;obtain⟨p9,r,kF,kK,kP⟩:=C.o.facts;by_cases bD:k<V
 .obtain⟨b4,q4,z,rfl,ob4,vz,ez⟩:=si.get bD;have hz:=EN.o z (aK ez.o);obtain⟨y,rfl⟩:=bO hz.1;(have hyi:(y:Int)<(m:Int)+1:=by omega);obtain⟨x,hx⟩:∃x,M[y]?=some x:=⟨_,List.getElem?_eq_getElem (by have:=C.o.lf;dsimp only at this;omega)⟩;have tm:(ints M)[y]?=some (.int .i64 x):=by rw[e4,hx];rfl
  have Q:Z (s5 (q+1) (ins.drop (k+1)) (M.set y ((q:Int)+1))=s5 (q+1) ins fi):=U (by
   obtain⟨h1,h2⟩:=bj.1 ez.o;rw[<-S.o,e7 h1,h2];rfl)
  clear hx hz;go_wp2_with fail;go_roundw;exact⟨k+1,_,Y,by go_num,U (C.o.CH y ((q:Int)+1)),Q⟩;exact zL4
 obtain rfl:k=V:=Y;have Yh:Z (jg N O q M=jg N O m (List.replicate (m+1) 0)):=U (by
  rw[<-HN.o,<-S.o,eU zLh];rfl)
 go_wp2_with fail;exact⟨⟨q,M,Y,by go_num,C,Yh⟩,by simp[intOf]⟩
end
variable{X:World}
structure ut(w:World)(g:Nat)(ss:List Sp):Prop where
 ak:aA w g 24 (gR ss)
 el:∀x∈ss,Rd w x.A x.zs/\x.m=x.zs.length/\x.m<=x.c/\bL (g+1) x.A
def dt(N:a6)(cap:Int):jH:=⟨(jG N).1,(jG N).2.1,[]::N.nodes.map (·.ins),eC N,(gj N).toNat,cap⟩
def mi(m:Nat):jI:=⟨(List.replicate (m+1) false).set 0 true,List.replicate (m+1) false,List.replicate (m+1) false,false,false,0,0,0⟩
def aby(w:ab)(N:a6)(m:Nat)(cap:Int)(e:Ending)(w':ab):Prop:=
 ∃(p:ab) (a:px) (b:List Sp),e=.returned (.tuple #[.pointer p.1.size,an])/\aj p w/\Z (lR p a m (dt N cap) b)/\Z (ee p w' a m (dt N cap) (mi m))/\Z (m+1<=a.cW)
section
variable{w:World}{n t k:Nat}{x:Sp}{N:a6}{T:Int}{W C:List Int}
def K6(k:Nat)(j:k<=1000000)(W:ab):(Instr.makeSlice 105 (k:Int) (k:Int)).run prog W=.ok (W,k,k) (W.alloc (.cells (gR (List.replicate k dN)) 24)):=by
 obtain⟨i,hi,b⟩:=bJ.1 (show(prog.info? 24).map (λi=>(i.zero,i.size,i.bytes))=some (some (.slice none 0 0),1,24)from by kernel_rfl);simp only[dS]at b;obtain⟨e,hs,hb⟩:=b;have:=nN (P:=prog) W 105 24 i _ underlying105 hi e .i64 .i64 k k Y (eb _) (by rw[hs];simp;omega) (by rw[hb];simp;omega);rw[hs]at this;rw[<-FE];simpa[Value.cells]using this Y
def ut.at(h:ut w g ss)[l:aM w w']:ut w' g ss:=⟨h.ak.at,λx b=>⟨(h.el x b).1.below l.st,(h.el x b).2⟩⟩
def ut.new(hg:aA w g 24 (gR (List.replicate k dN))):ut w g (List.replicate k dN):=⟨hg,λx b=>by rw[e3 b];exact⟨Rd.nil _ _,rfl,al _,bL.none⟩⟩
def ut.av(h:ut w g ss)(j:Nat)(hr:Rd w x.A x.zs)(hm:x.m=x.zs.length)(z:x.m<=x.c)(e:bL (g+1) x.A):ut (w.setCell (g,j) (.slice x.A x.m x.c)) g (ss.set j x):=by
 have aV:∀{A:bz} {zs:au},Rd w A zs->bL (g+1) A->Rd (w.setCell (g,j) (.slice x.A x.m x.c)) A zs:=λ{A zs} hr e=>
  ((⟨hr,rfl⟩:Sl w A zs zs).setCell (p:=⟨g,j,none⟩) e (nP g) _).rd
 refine⟨by rw[<-B1];exact h.ak.av _ _,λy r=>?_⟩;rcases ij r with r|rfl;obtain⟨a,b,c,d⟩:=h.el y r;exact⟨aV a d,b,c,d⟩;exact⟨aV hr e,hm,z,e⟩
theorem ut.TA(h:ut w g ss):dX w g ss.length ss:=
 ⟨λj x b=>⟨g,0,rfl,h.ak.lt,by rw[cQ,h.ak.cell,iZ b],(h.el x (aK b)).1,(h.el x (aK b)).2.1,(h.el x (aK b)).2.2.1⟩,rfl⟩
def abz(ts:List Sp){n:Nat}(b:ts=j)(h:j<n):(dN::(ts++List.replicate (n-j) dN)).set (j+1) x=dN::((ts++[x])++List.replicate (n-(j+1)) dN):=by
 rw[GL,show n-j=(n-(j+1))+1 from Y,jM,ky _ _ Y,b,eV,i4];simp
def Uh{z:au}(h:aH z=true):0<=bG z/\bG z<=1099511627776:=by
 obtain⟨e,j,b,r⟩:=(ba z).1 h;rw[bG,ah h];have:=(EW z b).1;omega
def yS:∀{L:f0},eZ L=0->∀z∈L,aH z=true
 |[],_,_,h=>by cases h
 |z::t,h,y,hy=>
  by
   rw[eZ]at h;(have b:cB z=0:=by by_cases e:cB z=0;exact e;rw[ag e]at h;exact h);rw[ah b]at h;rcases dE.1 hy with rfl|hy
   .unfold cB at b;split at b;rename_i j;exact j;exact absurd b ao
   exact yS h y hy
def nh(h:iy N=0):bm N=0:=by
 by_cases b:bm N=0;exact b;rw[iy,ag b]at h;exact h
def wx(h:iy N=0)(b:dz N=(O,L,(l:Int)))(e:dA N O L l):
  (jG N).1=L.map bG/\(jG N).1.length=N.nodes+1/\(jG N).2.1.length=N.nodes+1/\∀z∈L,aH z=true:=by
 have y:=nh h;have hs:eZ L=0:=by rw[iy,ah y,b,KW]at h;dsimp only at h;by_cases j:eZ L=0;exact j;rw[ag j]at h;exact h
 have r:(jG N).1=L.map bG:=by rw[jG,if_pos h,b];dsimp only;rw[k5,if_pos hs]
 exact⟨r,by rw[r,bn,e.len],by rw[jG,ah h];simp[j7],yS hs⟩
def Ui{Q:World->Prop}{T:TypeId}{cs:dw}(h:∀u,u.1.size=X.1.size+1->aj u X->Bx u X.1.size T cs->Q u):Q (X.alloc (.cells cs T)):=h _ aI (aC) am
def xS{Q:World->Prop}{p:ab}{t:Nat}{T qaa:TypeId}{cs:dw}{gs:List (Nat×TypeId×Array Value)}(h:r6 p X t T cs gs)
  (k:∀u,u.1.size=X.1.size+1->r6 p u t T (cs.setIfInBounds i v) ((X.1.size,qaa,ds)::gs)->Q u):Q ((X.alloc (.cells ds qaa)).setCell (t,i) v):=
 k _ aI ((h.mk' (w':=X.alloc (.cells ds qaa)) Bx.ak).set i v)
def CS[aW w A n B m N](D:Z N.fits)(hs:Z N.small)(b:Z (iy N=E))(r:E≠0)(cap:Int):() 34 #[.agg #[(A,n,c),(B,m,d)],cap] w (aL w (.tuple #[.pointer none,E])):=by
 have F:=@az;have G:=@aP;have y:Z (jG N=([],[],0)):=U (by rw[jG,b.o,ag r]);have j:Z (([]:au).length=0):=rfl;have z:=j;have I:(E !=0)=true:=by simp[r]
 clear r;go_in;go_upto_region 1 with fail;refine aa (λJ _ K=>?_);go_upto_region 2 with(go_at_call 9;refine(qo D hs b y j z).mono ?_;rintro e u ⟨AW,cW,AC,cC,rfl,M,P,Q,R,S⟩);refine aa (λV _ kp=>?_);go_wp2_with fail;go_ret2;exact bF
def Q7[a:aW w A n B m N](hf:Z N.fits)(hs:Z N.small)(J:Z (iy N=0))(cap:Int):() 34 #[.agg #[(A,n,c),(B,m,d)],cap] w (aby w N m cap):=by
 obtain⟨CB,CP,FB⟩:=gW;have M:Z (m=N.nodes):=a.len;have hm:m<=1000:=by rw[M.o];exact hs.o.1
 obtain⟨O,L,l,Q,D,X,-⟩:=look_ok (nh J);obtain⟨o1,o2,o3,o4⟩:=wx J Q D;obtain⟨⟨W,C,T⟩,K⟩:=lh (jG N);have S0:=U K;rw[K]at o1 o2 o3;have HWL:Z (W.length=m+1):=U (by rw[M.o];exact o2);have HCL:Z (C=m+1):=U (by rwa[M.o]);have uq:=U (nh J);have iO:=U Q;have kH:=U D;have t2:Z (O=m):=U (by rw[D.tI,M.o]);have EO:Z (dt N cap=⟨W,C,[]::N.nodes.map (·.ins),O,l,cap⟩):=U (by rw[dt,K,D.ord,D.gj,a9]);have HW4:Z (W=L.map bG):=o1;have HR4:Z (∀z∈L,aH z=true):=o4;have Yg:∀W:World,(Instr.makeSlice 105 ((m:Int)+1:Int) ((m:Int)+1:Int)).run prog W=.ok (.slice (some ⟨W.1.size,0,none⟩) (m+1) (m+1)) (W.alloc (.cells (gR (List.replicate (m+1) dN)) 24)):=λW=>by have h:=K6 (m+1) Y W;rwa[en]at h
 clear K o1 o2 o3 o4 Q D X;go_in;go_upto_region 1 with fail;refine aa (λu0 _ kn=>?_);go_upto_region 2 with(go_at_call 9;refine(qo hf hs J S0 HWL HCL).mono ?_;rintro e u ⟨AW,cW,AC,cC,rfl,sW,sC,oW,oC,pP⟩);refine aa (λu1 _ kp=>?_);go_upto_region 11 with(first|(go_at_call 60;refine(jC hf hs uq iO t2).mono ?_;rintro e u ⟨AO,cO,rfl,sO,oO,pO⟩)|(go_at_call 61;refine(Ao hf hs uq iO).mono ?_;rintro e u ⟨rfl,_⟩));refine aa (λv _ kv=>?_);obtain⟨g,hg⟩:=lg u.1.size;have X1:u.1.size<=g:=dT hg.symm;have Yi:ut v g (dN::([]++List.replicate (m-0) dN)):=by rw[hg];exact ut.new (k:=m+1) kv.ak
 rw[<-hg];clear Yg hg kv;go_wp2_with fail;go_loopw [46] (λi wr=>∃(j:Nat) (ts:List Sp),j<=m/\i=.int .i64 j/\Z (ts=j/\aX ts=(N.nodes.take j).map (·.ins))/\Z (ut wr g (dN::(ts++List.replicate (m-j) dN)))/\aj wr u) (λi _=>m-(intOf i).toNat);exact⟨0,[],aR _,rfl,U ⟨rfl,rfl⟩,U Yi,aC⟩;clear Yi;obtain⟨j,ts,hj,rfl,r,S,hp⟩:=hrel;by_cases bD:j<m
 .obtain⟨b0,q0,o,A1,n1,c1,I,ni,ci,ins,P,np,cp,ps,rfl,ob,⟨v0,v1,v2,v3,v4,v5,v6,v7,v8,Oj⟩,s1,si,sp,l1,li,lp,ik,lP⟩:=a.node bD;have ra:ni<=1000:=by have:=hs.o.2 _ (aK lP.o);exact zLf
  have HT:Z ((gR (dN::(ts++List.replicate (m-j) dN)))[j+1]?=some (.slice none 0 0)):=U (by
   rw[iZ (x:=dN)]
   .rfl
   .rw[pE,eT (by rw[r.o.1];exact al _),r.o.1,eV,kw,ah Y])
  have ru:g<wr.1.size:=S.o.ak.lt;go_wp2_with (go_at_call 86;refine(MW Y).mono ?_;rintro e V ⟨AK,cK,rfl,oK,pK⟩;obtain⟨hI9,hc9,hf9⟩:ut V g _/\V.cell? (g,j+1)=some (.slice none 0 0)/\V.frozen? ⟨g,j+1,none⟩=false:=⟨S.o.at,(S.o.at (w':=V)).ak.cell (j+1)|>.trans HT,(S.o.at (w':=V)).ak.frozen (j+1)⟩)
  have R:=hI9.av (x:=⟨AK,ins.length,cK,ins⟩) (j+1) oK.rd rfl oK.hD (oK.fre.less (aQ (Nat.succ_le_of_lt ru) ai));rw[abz _ r.o.1 bD]at R;have Ix:=U R;have HZ9:Z ((ts++[(⟨AK,ins.length,cK,ins⟩:Sp)]).length=j+1/\aX (ts++[(⟨AK,ins.length,cK,ins⟩:Sp)])=(N.nodes.take (j+1)).map (·.ins)):=U (by
   refine⟨by simp[r.o.1],?_⟩;rw[i5,lP.o,c9,<-r.o.2];simp[aX])
  clear R;go_roundw;exact⟨j+1,_,Y,by go_num,HZ9,Ix,⟨(aO u V).setCell (p:=⟨g,j+1,none⟩) X1 _⟩⟩;exact zL4
 obtain rfl:j=m:=Y;have hS:ut wr g (dN::ts):=by have:=S.o;rwa[eV,List.replicate_zero,ev]at this
 have hP:lR wr ⟨AW,cW,AC,cC,some ⟨g,0,none⟩,j+1,AO,cO⟩ j ⟨W,C,[]::N.nodes.map (·.ins),O,l,cap⟩ (dN::ts):=by refine⟨am,am,⟨hS.TA.rd,by simp[r.o.1]⟩,?_,am,?_,?_,hm,?_⟩;show[]::aX ts=_;rw[r.o.2,M.o,ek];rw[M.o];exact kH.o.lQ;intro z hz;rcases dE.1 hz with rfl|hz;simp;obtain⟨v,hv,rfl⟩:=cw.1 hz;exact⟨hs.o.2 v hv,λy hy=>by rw[M.o];exact kH.o.ko v hv y hy⟩;intro z hz;have hz:z∈W:=hz;rw[HW4.o]at hz;obtain⟨y,hy,rfl⟩:=cw.1 hz;exact Uh (HR4.o y hy)
 have HP:=U hP;have B9:∀W:World,(Instr.makeSlice 106 ((j:Int)+1:Int) ((j:Int)+1:Int)).run prog W=.ok (.slice (some ⟨W.1.size,0,none⟩) (j+1) (j+1)) (W.alloc (.cells (eB (List.replicate (j+1) false)) 4)):=λW=>by have h:=n4 (j+1) Y W;rwa[en]at h
 clear hP hS S r;go_upto_region 17 with fail;refine Ui (λx0 z0 _ kb=>?_);have Z0:=U z0;clear z0;have HW0:Z (r6 wr x0 wr.1.size 108 _ []):=U ⟨am,kb.ak,aI,aI,aI,al _⟩;go_upto_region 18 with fail;refine xS HW0 (λx1 z1 F=>?_);have Z1:=U z1;clear z1;obtain⟨p1,kb1⟩:aj x1 wr/\Bx x1 wr.1.size 108 _:=⟨F.pr,F.bx⟩;have F:=U F;go_upto_region 19 with fail;refine xS F (λx2 z2 G=>?_);have Z2:=U z2;clear z2;obtain⟨p2,w6⟩:aj x2 wr/\Bx x2 wr.1.size 108 _:=⟨G.pr,G.bx⟩;have G:=U G;go_upto_region 20 with fail;refine xS G (λx3 z3 b=>?_);clear z3;obtain⟨p3,Uj,kP⟩:aj x3 wr/\Bx x3 wr.1.size 108 _/\Bx x3 x0.1.size 4 (eB (List.replicate (j+1) false)):=⟨b.pr,b.bx,⟨b.bs (x0.1.size,4,eB (List.replicate (j+1) false)) aI⟩⟩;have b:=U b;have e0:(eB (List.replicate (j+1) false))[0]?=some (.bool false):=ce (by rw[kw,ah Y]);have hm0:(0:Int)<(j:Int)+1:=by omega
 go_wp2_with fail;go_ret2;have q1:x1.1.size=wr.1.size+1+1:=by rw[Z1.o,Z0.o]
 have q2:x2.1.size=wr.1.size+1+1+1:=by rw[Z2.o,q1]
 have hb:=b.o.box;have Ee:=b.o.bs (x0.1.size,4,eB (List.replicate (j+1) false)) aI;have hP2:=b.o.bs (x1.1.size,4,eB (List.replicate (j+1) false)) aI;have hP3:=b.o.bs (x2.1.size,4,eB (List.replicate (j+1) false)) aI;rw[Z0.o,q1,q2]at hb;rw[Z0.o]at Ee;rw[q1]at hP2;rw[q2]at hP3
 have hS:ee wr x3 ⟨AW,cW,AC,cC,some ⟨g,0,none⟩,j+1,AO,cO⟩ j ⟨W,C,[]::N.nodes.map (·.ins),O,l,cap⟩ ⟨List.replicate (j+1) false,List.replicate (j+1) false,List.replicate (j+1) false,false,false,0,0,0⟩:=
  ⟨b.o.pr,hb,Ee,hP2,hP3,fe,fe,fe⟩
 refine⟨wr,_,_,rfl,aC,by rw[EO.o];exact HP,?_,U (by have:=oW.hD;rw[HWL.o]at this;exact this)⟩;rw[EO.o,Z0.o];exact U (hS.FP 0 true)
end
variable{P1 P2 P3 P4 cap:Int}
def gG(C:jH):jI->List (Int×Int)->Int×jI
 |s,[]=>(0,s)
 |s,x::t=>if lS C s x.1 x.2=0 then gG C (g4 C s x.1 x.2) t else(lS C s x.1 x.2,s)
def Iy(C:jH)(s:jI)(ps:List (Int×Int)):Int:=
 if gT ps=0 then(if(gG C s ps).1=0 then(if od C (gG C s ps).2=true then Cz C.cost ps else 28)else(gG C s ps).1)else gT ps
def lJ(N:a6)(cap:Int)(ps:List (Int×Int)):Int:=if iy N=0 then Iy (dt N cap) (mi N.nodes.length) ps else iy N
def pA(N:a6)(cap:Int)(ps:List (Int×Int)):Int×Int×Int×Int:=
 if lJ N cap ps=0 then((gG (dt N cap) (mi N.nodes.length) ps).2.kq,wn (dt N cap).cost ps,(tJ 2 ps:Int),max (gG (dt N cap) (mi N.nodes.length) ps).2.kq (rT ((dt N cap).words.drop 1)))else(0,0,0,0)
structure CT(s:jI)(j:Nat):Prop where
 d0:0<=s.done
 d1:s.done<=j
 n0: -((j:Int)*1099511627776)<=s.now
 n1:s.now<=144115188075855872
section
variable{w:World}{K:Option Addr}{n k:Nat}{ps:List (Int×Int)}{a:px}{N:a6}{C:jH}
def Yj(hP:lR p a m C ss)(q:Nat):0<=C.words.getD q 0/\C.words.getD q 0<=1099511627776:=by
 rw[a5];cases h:C.words[q]? with
 |none=>simp
 |some z=>exact hP.wb z (aK h)
def s1(h:lS C s kd id=0):fx kd id=true/\id<(C.words.length:Int)/\dW C s kd id.toNat=true/\s.now+eD C s kd id.toNat<=C.cap:=by
 unfold lS at h;split at h
 .rename_i b;split at h
  .rename_i e;split at h;rename_i l;exact⟨b.1,b.2,e,l⟩;exact absurd h ao
  exact absurd h ao
 exact absurd h ao
def Q8:CT (mi m) 0:=⟨by simp[mi],by simp[mi],by simp[mi],by simp[mi]⟩
def CU(hP:lR p a m C ss)(hb:CT s j)(h:lS C s kd id=0)(e:C.cap<=144115188075855872):CT (g4 C s kd id) (j+1):=by
 obtain⟨-,-,-,l⟩:=s1 h;have r:=(CJ (s:=s) hP kd id.toNat).1;have y:=Yj hP id.toNat;obtain⟨d0,d1,n0,n1⟩:=hb;unfold g4;dsimp only;have b:((j+1:Nat):Int)*1099511627776=(j:Int)*1099511627776+1099511627776:=by rw[en,l0];omega
 (repeat' split)<;>exact⟨by dsimp only;omega,by dsimp only;omega,by rw[b];dsimp only;omega,by dsimp only;omega⟩
theorem jp{x y z:Value}{g:Nat}[l:aM w u](hg:w<=g):aj ((((u.setCell (g,0) x).setCell (g,1) y).setCell (g,2) z).setCell (g,3) v) w:=
 ⟨(((l.st.setCell (p:=⟨g,0,none⟩) hg _).setCell (p:=⟨g,1,none⟩) hg _).setCell (p:=⟨g,2,none⟩) hg _).setCell (p:=⟨g,3,none⟩) hg _⟩
def zLa(h:Γ:=by refine aZ (v:=.tuple #[.agg #[an,an,an,an],E]) ?_ rfl ⟨rfl,jp (db _)⟩;rw[ct rfl];go_simp):=h
def zLi(h:Γ:=by obtain⟨x1,x2,x3,x4⟩:=HB.o;omega):=h
def Q9[a:aW w A n B m N](hf:Z N.fits)(hs:Z N.small)[i:Is w K k ps](hk:k<=65536)(hc:cap<=144115188075855872)(HE:Z (lJ N cap ps=E))(HV:Z (pA N cap ps=(P1,P2,P3,P4))):
  () 14 #[.agg #[(A,n,c),(B,m,d)],.slice K k g,cap] w (aL w (.tuple #[.agg #[P1,P2,P3,P4],E])):=by
 obtain⟨CB,CP,FB⟩:=gW;have HM:Z (m=N.nodes):=a.len;have hE:=HE.o;have hV:=HV.o;rw[lJ]at hE;by_cases c1:iy N=0;rotate_left
 .rw[ag c1]at hE;rw[pA,lJ,ag c1,ag c1]at hV;have R:=U hE;(have I:E≠0:=by rwa[<-hE]);(have b0:(E !=0)=true:=by simp[I]);injection hV with y hV;injection hV with z hV;injection hV with v3 v4;subst y z v3 v4;clear hE c1;go_in;go_upto_region 1 with fail;refine dd (λu0 _ kn kr=>?_);go_wp2_with (go_at_call 34;refine mv (CS hf hs R I cap) λu1 _=>?_);exact zLa
 rw[ah c1]at hE;have R:=U c1;obtain⟨O,L,l,pZ,nA,Ra,-⟩:=look_ok (nh c1);obtain⟨o1,o2,o3,o4⟩:=wx c1 pZ nA;obtain⟨C,hC⟩:=lh (dt N cap);have J:C.cap=cap:=by rw[<-hC];rfl
 have hWl:C.words=m+1:=by rw[<-hC,HM.o];exact o2
 have hCl:C.cost=m+1:=by rwa[<-hC,HM.o]
 rw[pA,lJ,ah c1]at hV;rw[hC,<-HM.o]at hE hV;obtain⟨s0,G⟩:=lh (mi m);have M:CT s0 0:=by rw[<-G];exact Q8
 rw[G]at hE hV;rw[hE]at hV;have HC:=U hC;have uu:=U G;have HCP:=U J;have S:Z (C.words=m+1):=hWl;have BB:Z (k=ps):=i.len;clear pZ nA Ra o1 o2 o3 o4 c1 G J hWl hCl hC HE HV;rw[Iy]at hE;obtain⟨ce,T⟩:=lh (gT ps);rw[T]at hE;have HCE:=U T;clear T;go_in;go_upto_region 1 with fail;refine dd (λu0 _ kn kr=>?_);go_upto_region 2 with(go_at_call 34;refine(Q7 hf hs R cap).mono ?_;rintro e u1 ⟨p,a,ss,rfl,pp,F,r,HCW⟩);rw[HC.o]at F r;rw[uu.o]at r;have pu:aj u1 p:=r.o.prev;have hwp:w.1.size+1<p:=(am:Bx p (w.1.size+1) _ _).ak.lt;by_cases I:ce=0;rotate_left
 .rw[ag I]at hE;subst hE;rw[ag I]at hV;injection hV with y hV;injection hV with z hV;injection hV with v3 v4;subst y z v3 v4;(have b0:(ce !=0)=true:=by simp[I]);clear I;go_wp2_with (go_at_call 33;refine mv (qq hk HCE) λu2 _=>?_);refine aZ (v:=.tuple #[.agg #[an,an,an,an],ce]) ?_ rfl ⟨rfl,jp (db _)⟩;rw[ct rfl];go_simp
 subst I;rw[ah rfl]at hE;have V:=U hE;have X:=U hV;have OP:=U M;clear hE hV M;go_wp2_with (go_at_call 33;refine mv (qq hk HCE) λu2 _=>?_);have xD:=U (r.o.at (w':=u2));go_loopw [34] (λt wr=>∃(j:Nat) (s:jI),j<=k/\t=.int .i64 j/\Z (ee p wr a m C s)/\Z (CT s j)/\Z (gG C s (ps.drop j)=gG C s0 ps)) (λt _=>k-(intOf t).toNat);exact⟨0,s0,aR _,rfl,xD,OP,U rfl⟩;clear r xD OP pu;obtain⟨j,s,hj,rfl,r,HB,HG⟩:=hrel;have pw:aj wr p:=r.o.prev;by_cases bD:j<k
 .obtain⟨b1,o1,kd,id,rfl,mM,y,z,e1⟩:=i.get bD;(have K9:ps.drop j=(kd,id)::ps.drop (j+1):=by obtain⟨h1,h2⟩:=bj.1 e1.o;rw[e7 h1,h2]);obtain⟨de,hde⟩:=lh (lS C s kd id);have hg:=HG.o;rw[K9,gG,hde]at hg;have HDE:=U hde;clear hde K9;by_cases d0:de=0
  .subst d0;rw[ah rfl]at hg;have nF:=U hg;have Hm:=U (CU F HB HDE (by rw[HCP.o];exact hc));obtain⟨q1,q2,q3,q4⟩:=s1 HDE;have HQ1:=U q1;have X5:Z (id<=(m:Int)):=U (by rw[S.o]at q2;omega);have X6:=U q3;have HQ4:=U q4;have Q:Z (-144115188075855872<=s.now/\s.now<=144115188075855872/\0<=s.done/\s.done<=1000000):=U zLi;clear hg q1 q2 q3 q4;go_wp2_with (go_at_call 35;refine mv (CK F r.o.at HQ1 X5 X6 Q.o.2.2.1 Q.o.2.2.2 Q.o.1 Q.o.2.1 HQ4 (by rw[HCP.o];exact hc)) λu5 xR=>?_);go_roundw;exact⟨j+1,_,Y,by go_num,U xR,Hm,nF⟩;exact zL4
  rw[ag d0]at hg;have hE:=V.o;have hV:=X.o;rw[<-hg,ag d0]at hE;subst hE;rw[ag d0]at hV;injection hV with y hV;injection hV with z hV;injection hV with v3 v4;subst y z v3 v4;(have b0:(de !=0)=true:=by simp[d0]);have HD0:=U d0;have Q:Z (-144115188075855872<=s.now/\s.now<=144115188075855872/\0<=s.done/\s.done<=1000000):=U zLi;clear hg d0;go_wp2_with (go_at_call 35;refine mv (FT F r.o.at HDE HD0 Q.o.2.2.1 Q.o.1 Q.o.2.1) λu5 _=>?_);refine aZ (v:=.tuple #[.agg #[an,an,an,an],de]) ?_ rfl ⟨rfl,jp (db _)⟩;rw[ct rfl];go_simp
 obtain rfl:j=k:=Y;have hg:=HG.o;rw[BB.o,uO,gG]at hg;have hE:=V.o;have hV:=X.o;rw[<-hg]at hE hV;dsimp only at hE hV;rw[ah rfl]at hE;have kS:Bx wr p.1.size 108 (cZ p a m C s):=⟨r.o.st⟩;obtain⟨wb,AQ⟩:=lh (od C s);rw[AQ]at hE;have HWB:=U AQ;clear hg V X AQ;cases wb;case false=>rw[ag ao]at hE;subst hE;rw[ag ao]at hV;injection hV with y hV;injection hV with z hV;injection hV with v3 v4;subst y z v3 v4;go_wp2_with (go_at_call 36;refine mv (xL F r HWB) λu5 _=>?_);refine aZ (v:=.tuple #[.agg #[an,an,an,an],(28:Int)]) ?_ rfl ⟨rfl,jp (db _)⟩;rw[ct rfl];go_simp
 case true=>
  rw[ah rfl]at hE;have HCO:=U hE;obtain⟨cv,OC⟩:=lh (wn C.cost ps);have NY:=U OC;rw[OC]at hV;clear OC hE;have sC:Sl p a.AC (m+1) C.cost:=F.o.cost;have sWd:Sl p a.AW (m+1) C.words:=F.o.words;by_cases e0:E=0;rotate_left
  .rw[ag e0]at hV;injection hV with y hV;injection hV with z hV;injection hV with v3 v4;subst y z v3 v4;(have b0:(E !=0)=true:=by simp[e0]);clear e0;go_wp2_with (first|(go_at_call 36;refine mv (xL F r HWB) λu5 _=>?_)|(go_at_call 37;refine mv (KX hk NY HCO) λu6 _=>?_));exact zLa
  subst e0;rw[ah rfl]at hV;injection hV with y hV;injection hV with z hV;injection hV with v3 v4;have JF:=U v4;obtain⟨q,hq⟩:=lh (tJ 2 ps);rw[hq]at v3;have Hp:=U hq;subst y z v3;clear v4 hq;go_upto_region 19 with(first|(go_at_call 36;refine mv (xL F r HWB) λu5 _=>?_)|(go_at_call 37;refine mv (KX hk NY HCO) λu6 _=>?_));obtain⟨A',kE,wW⟩:=nV (P:=prog) 24 ap ap a.AW (m+1) a.cW 1 1 rfl Y HCW;rw[show m+1-1=m from rfl]at kE;have sD:Sl u6 A' m (C.words.drop 1):=⟨wW u6 C.words S (sWd.rd.below (aO p u6)),by simp[S.o]⟩;obtain⟨MV,hMV⟩:=lh (rT (C.words.drop 1));have w4:=U hMV;have HP4:Z (max s.kq MV=P4):=U (by rwa[<-hMV]);have hm9:m<=1000:=F.o.hm;clear hMV wW;refine ax u6 ap (λux _=>?_);refine qL [0,1,2,3,4,5,6,7,8] ?_;refine aJ 9 λK hK=>?_;go_simp;refine(abv Y w4).mono ?_;rintro e ux ⟨rfl,_⟩;dsimp only;refine aE hK ?_;refine qL [10,11] ?_;refine a8 ?_;rw[HP4.o];obtain⟨x1,rfl⟩:=lg ux;go_upto_region 20 with fail;have kS1:Bx x1 p.1.size 108 (cZ p a m C s):=am;have kR1:Bx x1 (w.1.size+1) 45 #[an,an,an,an]:=am;have ia:p≠w.1.size+1:=Y;refine aU w (λw9=>Bx w9 p.1.size 108 (cZ p a m C s)) ap am (λuy _=>?_);refine br 0 ?_;refine br 1 ?_;refine br 2 ?_;refine br 3 ?_;refine br 4 ?_;refine br 5 ?_;refine br 7 ?_;refine aJ 6 λK hK=>?_;go_simp;refine(T8 hk Hp).mono ?_;rintro e uy ⟨rfl,_⟩;dsimp only;refine aE hK ?_ ⟨aG w _,am⟩;refine br 8 ?_;refine aJ 9 λK hK=>?_;go_simp;obtain⟨u8,D⟩:=lg ((((uy.setCell (w.1.size+1,0) (.int .i64 s.kq)).setCell (w.1.size+1,1) cv).setCell (w.1.size+1,2) (q:Int)).setCell (w.1.size+1,3) P4);rw[<-D];(have Lb:aj u8 w:=by rw[D];exact jp (db _));(have Su8:∀b,b<uy.1.size->b≠w.1.size+1->(World.heap u8)[b]?=uy.heap[b]?:=λb _ hb=>by rw[D];exact(((bb _ ⟨w.1.size+1,3,none⟩ _ b hb).trans (bb _ ⟨w.1.size+1,2,none⟩ _ b hb)).trans (bb _ ⟨w.1.size+1,1,none⟩ _ b hb)).trans (bb _ ⟨w.1.size+1,0,none⟩ _ b hb));have Ku8:Bx u8 (w.1.size+1) _ #[s.kq,cv,q,P4]:=⟨by rw[D];exact((((Bx.ak (w:=uy) (g:=w.1.size+1)).av 0 _).av 1 _).av 2 _).av 3 _⟩;have K7:Bx u8 p.1.size 108 (cZ p a m C s):=⟨(Su8 _ (Bx.ak (w:=uy) (g:=p.1.size)).lt ia).trans (Bx.ak (w:=uy))⟩;refine aE hK ?_ ⟨Lb,K7⟩;clear hK K D;refine br 10 ?_;refine a8 ?_;go_wp2_with fail;refine aZ (v:=.tuple #[.agg #[s.kq,cv,q,P4],an]) ?_ rfl ⟨rfl,Lb⟩;rw[ct rfl];go_simp
end
