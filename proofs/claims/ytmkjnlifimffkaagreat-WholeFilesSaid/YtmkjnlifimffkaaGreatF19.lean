/- Lemmas. -/
import Derived.Test.YtmkjnlifimffkaaGreatF18
namespace Go.Proofs.YtmkjnlifimffkaaGreat
open Go.RowKit Tryz
set_option linter.all false
set_option maxRecDepth 100000
set_option maxHeartbeats 0
variable{w':World}{A:Option Addr}{ps:List (Int×Int)}{id z:Int}
def eV(b id:Int):Bool:=if b=4\/b=5 then id==0 else if b=1\/b=2\/b=3\/b=6 then decide (1<=id)&&decide (id<=512)else false
section
variable{w:World}{n p:Nat}
def lb(h:z=1\/z=2\/z=3\/z=6):eV z id=(decide (1<=id)&&decide (id<=512)):=by
 unfold eV;rw[ag om,ah h]
def od(h:z=4\/z=5):eV z id=(id==0):=by
 unfold eV;rw[ah h]
def yk(h:Hx (z=1\/z=2\/z=3\/z=6)):() 85 #[.agg #[z,id]] w (aD w (.bool (eV z id))):=by
 have m:=@aa;have e:=ae (lb (id:=id) h);by_cases j:1<=id
 .by_cases l:id<=512
  .have b:Hx (eV z id=true):=ae (by rw[e.o,ef j,ef l];rfl);rcases h.o with rfl|rfl|rfl|rfl
   all_goals
    go_in
    go_wp2_with fail
    go_ret;exact⟨by rw[b.o];rfl,aK⟩
  .have b:Hx (eV z id=false):=ae (by rw[e.o,ef j,dD l];rfl);rcases h.o with rfl|rfl|rfl|rfl
   all_goals
    go_in
    go_wp2_with fail
    go_ret;exact⟨by rw[b.o];rfl,aK⟩
 .have b:Hx (eV z id=false):=ae (by rw[e.o,dD j];rfl);rcases h.o with rfl|rfl|rfl|rfl
  all_goals
   go_in
   go_wp2_with fail
   go_ret;exact⟨by rw[b.o];rfl,aK⟩
def yl(h:Hx (z=4\/z=5)):() 85 #[.agg #[z,id]] w (aD w (.bool (eV z id))):=by
 have e:=@aa;have b:=ae (od (id:=id) h);rcases h.o with rfl|rfl
 all_goals
  go_in
  go_wp2_with fail
  go_ret;exact⟨by rw[b.o];rfl,aK⟩
def DI(h:Hx (eV z id=false))(k1:(z==1)=false)(k2:(z==2)=false)(k3:(z==3)=false)(k4:(z==4)=false)(b:(z==5)=false)(k6:(z==6)=false):
  () 85 #[.agg #[z,id]] w (aD w (.bool (eV z id))):=by
 have e:=@aa
 go_in
 go_wp2_with fail
 go_ret;exact⟨by rw[h.o];rfl,aK⟩
def ji:() 85 #[.agg #[z,id]] w (aD w (.bool (eV z id))):=by
 by_cases h:z=1\/z=2\/z=3\/z=6
 .exact yk h
 .by_cases b:z=4\/z=5
  .exact yl b
  .have:∀j:Int,(j=1\/j=2\/j=3\/j=4\/j=5\/j=6)->(z==j)=false:=λj e=>by
    rw[beq_eq_false_iff_ne];omega
   exact DI (ae (by unfold eV;rw[ag b,ag h])) (this 1 aG) (this 2 aG) (this 3 aG) (this 4 aG) (this 5 aG) (this 6 aG)
def DJ(ps:List (Int×Int)):Bool:=ps.all λx=>eV x.1 x.2
def NJ{f:Int×Int->Bool}{ps:List (Int×Int)}{k:Nat}{x:Int×Int}(h:ps[k]?=some x)(b:f x=false):ps.all f=false:=by
 rw[nu];exact⟨x,aC h,by simp[b]⟩
def Ja{f:Int×Int->Bool}{ps:List (Int×Int)}{k:Nat}{x:Int×Int}(h:(ps.take k).all f=true)(b:ps[k]?=some x)(e:f x=true):(ps.take (k+1)).all f=true:=by
 rw[fb,r4,h,b];simp[e]
def NK{f:Int×Int->Bool}{ps:List (Int×Int)}{k:Nat}(h:(ps.take k).all f=true)(b:ps<=k):ps.all f=true:=by rwa[bR b]at h
def fR(ps:List (Int×Int)):Int:=if DJ ps then 0 else 10
def NL[i:Is w A n ps](C:n<=65536):() 33 #[(A,n,p)] w (aD w (fR ps:Int)):=by
 obtain⟨D,E⟩:=h5;have z:Hx (n=ps):=i.len
 go_in
 go_wp2_with fail
 go_loopw [10] (λi wr=>∃k:Nat,k<=n/\i=.int .i64 k/\Hx ((ps.take k).all (λx=>eV x.1 x.2)=true)/\aj wr w) (λi _=>n-(intOf i).toNat)
 .exact⟨0,aT _,rfl,ae rfl,aK⟩
 ·
  obtain⟨k,F,rfl,r,hp⟩:=hrel;by_cases j:k<n
  .obtain⟨G,o1,x,y,rfl,B,I,J,b⟩:=i.get j;rcases hx:eV x y with _|_
   .have l:Hx (fR ps=10):=ae (by rw[fR,ag];rw[DJ,NJ b.o hx];simp);clear b
    go_wp2_with (go_at_call 85;(with_reducible refine(ji).mono ?_);rintro e u ⟨rfl,_⟩)
    go_ret;exact⟨by rw[l.o];rfl,aK⟩
   .have m:=ae (Ja r b.o hx);clear b
    go_wp2_with (go_at_call 85;(with_reducible refine(ji).mono ?_);rintro e u ⟨rfl,_⟩)
    go_roundw
    .exact⟨k+1,om,by go_num,m,aK⟩
    .simp[intOf];omega
  .have l:Hx (fR ps=0):=ae (by rw[fR,ah];exact NK r (by rw[<-z.o];omega))
   go_wp2_with fail
   go_ret;exact⟨by rw[l.o];rfl,aK⟩
end
variable{B:Option Addr}{c d m:Nat}{E:Int}
def qH(b:Int)(ps:List (Int×Int)):Nat:=ps.countP λx=>x.1==b
def fp(cost:av):List (Int×Int)->Option (List Int)
 |[]=>some []
 |x::t=>if x.1=1\/x.1=2 then(if dN (cost.getD x.2.toNat (-1))then(fp cost t).map (cost.getD x.2.toNat (-1):: ·)else none)else fp cost t
def ym(cost:av)(ps:List (Int×Int)):Int:=if fR ps=0 then(match fp cost ps with|none=>10|some l=>if sK l=0 then 0 else 12)else fR ps
def sR(cost:av)(ps:List (Int×Int)):Int:=if fR ps=0 then(match fp cost ps with|none=>0|some l=>if sK l=0 then uH l else 0)else 0
section
variable{w:World}{n:Nat}{cost:List Int}
def NM[i:Is w A n ps](I:n<=65536){V:Nat}(hV:Hx (qH z ps=V)):() 39 #[(A,n,c),z] w (aD w (V:Int)):=by
 obtain⟨J,K⟩:=h5;have E:Hx (n=ps):=i.len
 go_in
 go_wp2_with fail
 go_loopw [5,10] (λs i wr=>∃k:Nat,k<=n/\i=.int .i64 k/\s=.int .i64 (qH z (ps.take k):Nat)/\aj wr w) (λ_ i _=>n-(intOf i).toNat)
 .exact⟨0,aT _,rfl,rfl,aK⟩
 ·
  obtain⟨k,L,rfl,rfl,hp⟩:=hrel;have u:qH z (ps.take k)<=k:=aO rM bY;obtain⟨j,b⟩:=lh (qH z (ps.take k));rw[b]at u⊢;have D:=ae b;clear b;by_cases C:k<n
  .obtain⟨M,o1,x,y,rfl,F,N,O,G⟩:=i.get C;have l:Hx (qH z (ps.take (k+1))=if x=z then j+1 else j):=ae (by
    rw[qH,take_at G.o,Ck,List.countP_singleton,show List.countP (λx=>x.1==z) (ps.take k)=j from D.o];by_cases h:x=z<;>simp[h])
   by_cases r:x=z
   .subst r;have e:Hx (qH x (ps.take (k+1))=j+1):=ae (by rw[l.o,ah rfl]);clear l
    go_wp2_with fail
    go_roundw
    .exact⟨k+1,om,by go_num,by rw[e.o];simp,aK⟩
    .simp[intOf];omega
   .have e:Hx (qH z (ps.take (k+1))=j):=ae (by rw[l.o,ag r]);have P:(x==z)=false:=by simpa using r
    clear l r
    go_wp2_with fail
    go_roundw
    .exact⟨k+1,om,by go_num,by rw[e.o],aK⟩
    .simp[intOf];omega
  .obtain rfl:j=V:=by rw[<-D.o,<-hV.o,bR (by rw[<-E.o];omega)]
   go_wp2_with fail
   go_ret;exact bq
def yn{b:Bool}(hb:Hx (dN z=b)):() 77 #[z] w (aD w (.bool b)):=
 (lU z w).mono λe w' ⟨j,l⟩=>⟨by rw[j,hb.o],l▸⟨aY _ _⟩⟩
def oe[Is w A n ps](b:n<=65536)(hE:Hx (fR ps=E)):() 33 #[(A,n,c)] w (aD w E):=by
 obtain rfl:=hE.o;exact NL b
def F4[i:Is w A n ps](hn:n<=65536)[s:Sl w B m cost]{V:Int}(hV:Hx (sR cost ps=V))(hE:Hx (ym cost ps=E)):() 37 #[(A,n,c),(B,m,d)] w (aD w (.tuple #[V,E])):=by
 obtain⟨CB,CP⟩:=h5;have HL:Hx (n=ps):=i.len;have HM:Hx (m=cost):=s.len;have b:=hE.o;have e:=hV.o;rw[ym]at b;rw[sR]at e;obtain⟨ck,D⟩:=lh (fR ps);rw[D]at b e;have T:Hx (fR ps=ck):=D
 go_in
 by_cases G:ck=0
 .subst G;rw[ah rfl]at b e;have O:DJ ps=true:=by
   unfold fR at D
   split at D
   .assumption
   .omega
  have U:=ae O;obtain⟨S,hS⟩:=lh (fp cost ps);rw[hS]at b e;have HS:=ae hS;have I:=ae b;have L:=ae e;clear b e hS O D
  go_wp2_with (go_at_call 33;refine mv (oe om T) λu _=>?_)
  go_loopw [7,19] (λs i wr=>∃(j:Nat) (A:cD) (c:Nat) (X:av),j<=n/\i=.int .i64 j/\s=.slice A X c/\X<=j/\az wr u.1.size 3 A c X/\Hx (S=(fp cost (ps.drop j)).map (X++ ·))/\aj wr u) (λ_ i _=>n-(intOf i).toNat)
  .exact⟨0,none,0,[],aT _,rfl,rfl,an _,az.nil _ _ _,ae (by rw[<-HS.o];simp),⟨aY _ _⟩⟩
  ·
   obtain⟨j,A',c',X,hj,rfl,rfl,hXl,hO,Y,hp⟩:=hrel;by_cases bK:j<n
   .obtain⟨b1,o1,x,y,rfl,q6,v1,v2,e1⟩:=i.get bK;have P:Hx (S=(if x=1\/x=2 then(if dN (cost.getD y.toNat (-1))then(fp cost (ps.drop (j+1))).map (cost.getD y.toNat (-1):: ·)else none)else fp cost (ps.drop (j+1))).map (X++ ·)):=ae (by
     obtain⟨h1,h2⟩:=a5.1 e1.o;rw[Y.o,ei h1,h2];rfl)
    by_cases Q:x=1\/x=2
    .have hy:1<=y/\y<=512:=by
      have:=cZ.1 U _ (aC e1.o);rw[lb om]at this;simpa using this
     obtain⟨q,rfl⟩:=cf (show 0<=y by omega);have F:dN (cost.getD q (-1))=false->E=10/\V=0:=λhb=>by
      have hSn:S=none:=by rw[P.o,ah Q,bI,hb];rfl
      have h1:=I.o;have h2:=L.o;rw[hSn]at h1 h2;exact⟨h1.symm,h2.symm⟩
     by_cases M:q<m
     .obtain⟨b2,q2,z,rfl,jf,vz,ez⟩:=s.get M;have N:cost.getD q (-1)=z:=by rw[aX,ez.o];rfl
      rw[N]at F;have LM:¬(m:Int)<=(q:Int):=by omega
      rcases NN:dN z with _|_
      .obtain⟨rfl,rfl⟩:=F NN;have HZ:=ae NN;clear NN N P Y F I L M;rcases Q with rfl|rfl
       all_goals
        go_wp2_with (go_at_call 77;refine mv (yn HZ) λu9 _=>?_)
        go_ret2;exact bq
      .have HZ:=ae NN;have R:Hx (S=(fp cost (ps.drop (j+1))).map ((X++[z])++ ·)):=ae (by
        rw[P.o,ah Q,bI,N,NN,ah rfl,Option.map_map];congr 1
        funext l
        simp)
       clear NN N P Y F M;rcases Q with rfl|rfl
       all_goals
        go_wp2_with (first|(go_at_call 77;refine mv (yn HZ) λu9 _=>?_)|(at_builtin;refine hC rfl _ _ _ rfl 3 underlying24 aq u.1.size A' c' X rfl hO.at z rfl om ai ?_;intro A3 c3 w3 qm qR _ _))
        go_roundw
        .exact⟨j+1,A3,c3,_,om,by go_num,aG,by simp;omega,qm,R,⟨(a7 u u9).trans qR⟩⟩
        .simp[intOf];omega
     .obtain⟨rfl,rfl⟩:=F (by rw[aX,c6 (by rw[<-HM.o];omega)];rfl);have LM:(m:Int)<=(q:Int):=by omega
      clear P Y F I L M;rcases Q with rfl|rfl
      all_goals
       go_wp2_with fail
       go_ret2;exact bq
    .have R:Hx (S=(fp cost (ps.drop (j+1))).map (X++ ·)):=ae (by rw[P.o,ag Q]);have b1:(x !=1)=true:=by simp;omega
     have b2:(x !=2)=true:=by simp;omega
     clear P Q
     go_wp2_with fail
     go_roundw
     .exact⟨j+1,A',c',X,om,by go_num,rfl,om,hO.at,R,aK⟩
     .simp[intOf];omega
   .have Z:S=some X:=by rw[Y.o,ey (by rw[<-HL.o];omega)];simp[fp]
    have C:=I.o;have r:=L.o;rw[Z]at C r;dsimp only at C r;obtain⟨K,hK⟩:=lh (uH X);obtain⟨J,hJ⟩:=lh (sK X);rw[hJ]at C r;rw[hK]at r;have Rp:=ae hK;have Rq:=ae hJ;have sX:Sl wr A' X X:=⟨hO.rd,rfl⟩;clear hK hJ Z;by_cases G:J=0
    .subst G;rw[ah rfl]at C r;subst C r
     go_wp2_with (go_at_call 31;refine mv (wC om Rp Rq) λu9 _=>?_)
     go_ret2;exact bq
    .rw[ag G]at C r;subst C r;have b0:(J !=0)=true:=by simp[G]
     clear G
     go_wp2_with (go_at_call 31;refine mv (wC om Rp Rq) λu9 _=>?_)
     go_ret2;exact bq
 .rw[ag G]at b e;subst b e;have b0:(ck !=0)=true:=by simp[G]
  clear D G
  go_wp2_with (go_at_call 33;refine mv (oe om T) λu _=>?_)
  go_ret2;exact bq
end
variable{p:World}{ss:List Sp}
structure iu where
 words:List Int
 cost:List Int
 ins:List (List Int)
 order:List Int
 f9:Nat
 cap:Int
structure iv where
 bb:List Bool
 saved:List Bool
 aE:List Bool
 eh:Bool
 fe:Bool
 done:Int
 now:Int
 iU:Int
structure m7 where
 AW:Option Addr
 cW:Nat
 AC:Option Addr
 cC:Nat
 AI:Option Addr
 cI:Nat
 AO:Option Addr
 cO:Nat
structure j2(p:World)(a:m7)(m:Nat)(C:iu)(ss:List Sp):Prop where
 words:Sl p a.AW (m+1) C.words
 cost:Sl p a.AC (m+1) C.cost
 ins:du p a.AI (m+1) ss
 Ru:aW ss=C.ins
 order:Sl p a.AO m C.order
 f9:C.f9<=m
 jS:∀l∈C.ins,l.length<=1000/\∀z∈l,0<=z/\z<=m
 hm:m<=1000
 wb:∀z∈C.words,0<=z/\z<=1099511627776
abbrev cz(p:World)(a:m7)(m:Nat)(C:iu)(s:iv):Array Value:=
 #[.slice a.AW (m+1) a.cW,.slice a.AC (m+1) a.cC,.slice a.AI (m+1) a.cI,.slice a.AO m a.cO,C.f9,C.cap,.slice (some ⟨p.1.size+1,0,none⟩) (m+1) (m+1),.slice (some ⟨p.1.size+1+1,0,none⟩) (m+1) (m+1),.slice (some ⟨p.1.size+1+1+1,0,none⟩) (m+1) (m+1),
  .bool s.eh,.bool s.fe,.int .i64 s.done,.int .i64 s.now,.int .i64 s.iU]
structure dI(p w:World)(a:m7)(m:Nat)(C:iu)(s:iv):Prop where
 prev:aj w p
 st:aB w p.1.size 108 (cz p a m C s)
 pr:aB w (p.1.size+1) 4 (d6 s.bb)
 sv:aB w (p.1.size+1+1) 4 (d6 s.saved)
 gr:aB w (p.1.size+1+1+1) 4 (d6 s.aE)
 lp:s.bb=m+1
 ls:s.saved=m+1
 lg:s.aE=m+1
def lj(C:iu)(s:iv)(id:Nat):Bool:=(C.ins.getD id []).all λz=>s.bb.getD z.toNat false
def mc(C:iu)(s:iv):Bool:=s.eh&&decide (s.done=(C.order.length:Int))
section
variable{w:World}{a:m7}{C:iu}{s:iv}
def dI.at(h:dI p w a m C s)[l:aF w w']:dI p w' a m C s:=⟨⟨dW h.prev.st l.st⟩,h.st.at,h.pr.at,h.sv.at,h.gr.at,h.lp,h.ls,h.lg⟩
def dI.Bm(h:dI p w a m C s)(i:Nat)(b:Bool):dI p (w.setCell (p.1.size+1,i) (.bool b)) a m C {s with bb:=s.bb.set i b}:=
 ⟨⟨h.prev.st.setCell (p:=⟨p.1.size+1,i,none⟩) (b9 _) _⟩,h.st.a9 aG _,by rw[<-k5];exact h.pr.ax i _,h.sv.a9 aG _,h.gr.a9 (by first|(simp;omega)|simp) _,by simp[h.lp],h.ls,h.lg⟩
def dI.abj(h:dI p w a m C s)(i:Nat)(b:Bool):dI p (w.setCell (p.1.size+1+1,i) (.bool b)) a m C {s with saved:=s.saved.set i b}:=
 ⟨⟨h.prev.st.setCell (p:=⟨p.1.size+1+1,i,none⟩) (by first|(simp;omega)|simp) _⟩,h.st.a9 (by first|(simp;omega)|simp) _,h.pr.a9 aG _,by rw[<-k5];exact h.sv.ax i _,h.gr.a9 aG _,h.lp,by simp[h.ls],h.lg⟩
def dI.abk(h:dI p w a m C s)(i:Nat)(b:Bool):dI p (w.setCell (p.1.size+1+1+1,i) (.bool b)) a m C {s with aE:=s.aE.set i b}:=
 ⟨⟨h.prev.st.setCell (p:=⟨p.1.size+1+1+1,i,none⟩) (by first|(simp;omega)|simp) _⟩,h.st.a9 (by first|(simp;omega)|simp) _,h.pr.a9 (by first|(simp;omega)|simp) _,h.sv.a9 aG _,by rw[<-k5];exact h.gr.ax i _,h.lp,h.ls,by simp[h.lg]⟩
def tQ(hP:j2 p a m C ss)(h:dI p w a m C s){b:Bool}(hb:Hx (mc C s=b)):() 36 #[.pointer p.1.size] w (aD w (.bool b)):=by
 have u:=@aa;have y:Bx w p.1.size 108 (cz p a m C s):=⟨h.st⟩;have e:C.order=m:=hP.order.len.symm;have j:=hb.o;rw[mc,e]at j;clear e
 go_in
 rcases he:s.eh with _|_
 .obtain rfl:b=false:=by rw[<-j,he];rfl
  clear j
  go_upto_region 1 with fail
  refine am aq (λl _=>?_);refine qL [0,1,2,3,4,505,506,507,508,509,510,511,512,513,514,15,16] ?_;refine aZ ?_
  go_wp2_with fail
  go_ret;exact bq
 .have r:Hx (decide (s.done=(m:Int))=b):=ae (by rw[<-j,he];rfl);clear j
  go_upto_region 1 with fail
  refine am aq (λl _=>?_);refine qL [0,1,2,3,4,5,6,7,8,9,10,11,12,13,14,15,16] ?_;refine aZ ?_
  go_wp2_with fail
  go_ret;exact⟨by rw[<-r.o];try rfl,aK⟩
def Rv(h:dI p w a m C s):() 234 #[.pointer p.1.size] w (aD w (.int .i64 s.iU)):=by
 have b:=@aa;have e:Bx w p.1.size 108 (cz p a m C s):=⟨h.st⟩
 go_in
 go_wp2_with fail
 go_ret;exact⟨rfl,⟨aY _ _⟩⟩
end
variable{s:iv}
section
variable{w:World}{a:m7}{C:iu}
def m8(hP:j2 p a m C ss)(h:dI p w a m C s){id:Nat}(hid:id<=m){b:Bool}(hb:Hx (lj C s id=b)):() 139 #[.pointer p.1.size,id] w (aD w (.bool b)):=by
 obtain⟨S,T⟩:=h5;have U:Bx w p.1.size 108 (cz p a m C s):=⟨h.st⟩;have V:=h.prev;obtain⟨AW,cW,AC,cC,AI,cI,AO,cO⟩:=a;have L:du p AI (m+1) ss:=hP.ins;obtain⟨X,o1,Y,m1,c1,zs,rfl,M,Z,u,l1,N⟩:=L.get (k:=id) om;have B:C.ins[id]?=some zs:=by rw[<-hP.Ru];exact N.o
 have e:=hP.jS zs (aC B);have O:m1<=1000:=by rw[u.len];exact e.1
 have P:Hx (m1=zs):=u.len;have D:=ae e.2;have I:Hx (zs.all (λz=>s.bb.getD z.toNat false)=b):=ae (by rw[<-hb.o,lj,aX,B];rfl);clear B e
 go_in
 go_wp2_with fail
 go_loop [15] (λi=>∃j:Nat,j<=m1/\i=.int .i64 j/\Hx ((zs.take j).all (λz=>s.bb.getD z.toNat false)=true)) (λi=>m1-(intOf i).toNat)
 .exact⟨0,aT _,rfl,ae rfl⟩
 ·
  obtain⟨j,hj,rfl,J⟩:=hrel;by_cases E:j<m1
  .obtain⟨b2,q2,z,rfl,Q,vz,F⟩:=u.get E;have r:=D.o z (aC F.o);obtain⟨y,rfl⟩:=cf r.1;have R:y<m+1:=om;obtain⟨K,l⟩:∃x,s.bb[y]?=some x:=⟨_,bc (by rw[h.lp];exact R)⟩;have hc:=(h.pr.cell y).trans (bO l);have hg:s.bb.getD ((y:Int)).toNat false=K:=by rw[bI,aX,l];rfl
   clear l r;rcases K with _|_
   .obtain rfl:b=false:=by
     rw[<-I.o,nu];exact⟨_,aC F.o,by rw[hg];simp⟩
    clear hg
    go_wp2_with fail
    go_ret;exact⟨rfl,⟨aY _ _⟩⟩
   .have G:Hx ((zs.take (j+1)).all (λz=>s.bb.getD z.toNat false)=true):=ae (by rw[take_at F.o,r4,J.o,Uk,hg];rfl);clear hg
    go_wp2_with fail
    go_round
    .exact⟨j+1,om,by go_num,G⟩
    .simp[intOf];omega
  .obtain rfl:b=true:=by rw[<-I.o];have:=J.o;rwa[bR (by rw[<-P.o];omega)]at this
   go_wp2_with fail
   go_ret;exact⟨rfl,⟨aY _ _⟩⟩
end
def h3(G:List Bool):List Int->List Int->List Int
 |[],l=>l
 |z::t,l=>h3 G t (if z≠0/\G.getD z.toNat false=false/\l.contains z=false then l++[z]else l)
def g3(C:iu)(s:iv)(id:Nat):List Int:=h3 s.aE (C.ins.getD id []) []
section
variable{w:World}{a:m7}{C:iu}
def Bn(hP:j2 p a m C ss)(h:dI p w a m C s){id:Nat}(hid:id<=m){F:av}(hF:Hx (g3 C s id=F)):() 89 #[.pointer p.1.size,id] w (xf w F):=by
 obtain⟨CB,CP⟩:=h5;have kS:Bx w p.1.size 108 (cz p a m C s):=⟨h.st⟩;have pp:=h.prev;obtain⟨AW,cW,AC,cC,AI,cI,AO,cO⟩:=a;have V:du p AI (m+1) ss:=hP.ins;obtain⟨b1,o1,A1,m1,c1,zs,rfl,Y,v1,L,l1,Z⟩:=V.get (k:=id) om;have M:C.ins[id]?=some zs:=by rw[<-hP.Ru];exact Z.o
 have B:=hP.jS zs (aC M);have pm:m1<=1000:=by rw[L.len];exact B.1
 have HL:Hx (m1=zs):=L.len;have N:=ae B.2;have G:Hx (h3 s.aE zs []=F):=ae (by rw[<-hF.o,g3,aX,M];rfl);clear M B
 go_in
 go_wp2_with fail
 go_loopw [5,16] (λt i wr=>∃(j:Nat) (e:cD) (r:Nat) (X:av),j<=m1/\i=.int .i64 j/\t=.slice e X r/\X<=j/\az wr w.1.size 3 e r X/\Hx (h3 s.aE (zs.drop j) X=F)/\aj wr w) (λ_ i _=>m1-(intOf i).toNat)
 .exact⟨0,none,0,[],aT _,rfl,rfl,an _,az.nil _ _ _,G,⟨aY _ _⟩⟩
 ·
  clear G;obtain⟨j,e,r,X,hj,rfl,rfl,hXl,hO,G,hp⟩:=hrel;have hS:=h.at (w':=wr);by_cases O:j<m1
  .obtain⟨b2,q2,z,rfl,jf,T,U⟩:=L.get O;have I:=N.o z (aC U.o);obtain⟨y,rfl⟩:=cf I.1;have hy:y<m+1:=om;obtain⟨P,D⟩:∃x,s.aE[y]?=some x:=⟨_,bc (by rw[h.lg];exact hy)⟩;have hc:=(hS.gr.cell y).trans (bO D);have hg:s.aE.getD ((y:Int)).toNat false=P:=by rw[bI,aX,D];rfl
   have l:Hx (h3 s.aE (zs.drop (j+1)) (if(y:Int)≠0/\P=false/\X.contains (y:Int)=false then X++[(y:Int)]else X)=F):=ae (by
    obtain⟨h1,h2⟩:=a5.1 U.o;have:=G.o;rw[ei h1,h2,h3,hg]at this;exact this)
   have sX:Sl wr e X X:=⟨hO.rd,rfl⟩;clear D I hg hS;by_cases K:y=0
   .subst K;have b:Hx (h3 s.aE (zs.drop (j+1)) X=F):=ae (by have:=l.o;rwa[ag (λh=>h.1 rfl)]at this);have Q:=T;rw[show((0:Nat):Int)=0 from rfl]at Q;clear l T hc
    go_wp2_with fail
    go_roundw
    .exact⟨j+1,e,r,X,om,by go_num,rfl,om,hO.at,b,aK⟩
    .simp[intOf];omega
   .have b0:((y:Int) !=0)=true:=by simp;omega
    rcases P with _|_
    .obtain⟨cb,E⟩:=lh (X.contains (y:Int));have J:=ae E;rw[E]at l;clear E;rcases cb with _|_
     .have b:Hx (h3 s.aE (zs.drop (j+1)) (X++[(y:Int)])=F):=ae (by have:=l.o;rwa[ah ⟨om,rfl,rfl⟩]at this);clear l K
      go_wp2_with (first|(go_at_call 140;refine mv (qC om J) λu _=>?_)|(at_builtin;refine hC rfl _ _ _ rfl 3 underlying24 aq w.1.size e r X rfl hO.at (y:Int) rfl om ai ?_;intro A3 c3 w3 R S _ _))
      go_roundw
      .exact⟨j+1,A3,c3,_,om,by go_num,aG,by simp;omega,R,b,⟨(a7 w u).trans S⟩⟩
      .simp[intOf];omega
     .have b:Hx (h3 s.aE (zs.drop (j+1)) X=F):=ae (by have:=l.o;rwa[ag (λh=>by cases h.2.2)]at this);clear l K
      go_wp2_with (go_at_call 140;refine mv (qC om J) λu _=>?_)
      go_roundw
      .exact⟨j+1,e,r,X,om,by go_num,rfl,om,hO.at,b,aK⟩
      .simp[intOf];omega
    .have b:Hx (h3 s.aE (zs.drop (j+1)) X=F):=ae (by have:=l.o;rwa[ag (λh=>by cases h.2.1)]at this);clear l K
     go_wp2_with fail
     go_roundw
     .exact⟨j+1,e,r,X,om,by go_num,rfl,om,hO.at,b,aK⟩
     .simp[intOf];omega
  .have hx:X=F:=by have:=G.o;rwa[ey (by rw[<-HL.o];omega)]at this
   subst hx
   go_wp2_with fail
   go_ret;exact⟨e,r,rfl,hO.at,aK⟩
end
def d8(C:iu)(s:iv)(b:Int)(id:Nat):Int:=
 if b=1\/b=2 then C.words.getD id 0 else if b=5 then C.words.getD C.f9 0 else if b=6 then((g3 C s id).map λz=>C.words.getD z.toNat 0).sum else 0
section
variable{w:World}{a:m7}{C:iu}
def yo(hP:j2 p a m C ss)(h:dI p w a m C s){id:Nat}(hid:id<=m)(b:z=1\/z=2){V:Int}(hV:Hx (d8 C s z id=V)):() 88 #[.pointer p.1.size,.agg #[z,id]] w (aD w V):=by
 obtain⟨u,y⟩:=h5;have B:Bx w p.1.size 108 (cz p a m C s):=⟨h.st⟩;have D:=h.prev;obtain⟨AW,cW,AC,cC,AI,cI,AO,cO⟩:=a;have j:Sl p AW (m+1) C.words:=hP.words;obtain⟨E,o1,I,rfl,l,F,r⟩:=j.get (k:=id) om;obtain rfl:I=V:=by rw[<-hV.o,d8,ah b,f8 r.o]
 have e:(id:Int)<(m:Int)+1:=by omega
 go_in
 rcases b with rfl|rfl
 all_goals
  go_upto_region 4 with fail
  refine am aq (λG _=>?_);refine qL [0,1,2,3,4,5,6,7,8] ?_;refine aZ ?_
  go_wp2_with fail
  go_ret;exact bq
def NO(hP:j2 p a m C ss)(h:dI p w a m C s){V:Int}(hV:Hx (d8 C s 5 0=V)):() 88 #[.pointer p.1.size,.agg #[(5:Int),id]] w (aD w V):=by
 obtain⟨r,u⟩:=h5;have y:Bx w p.1.size 108 (cz p a m C s):=⟨h.st⟩;have B:=h.prev;obtain⟨AW,cW,AC,cC,AI,cI,AO,cO⟩:=a;have D:=hP.f9;have b:(C.f9:Int)<(m:Int)+1:=by omega
 have e:Sl p AW (m+1) C.words:=hP.words;obtain⟨E,o1,z,rfl,j,F,l⟩:=e.get (k:=C.f9) om;obtain rfl:z=V:=by rw[<-hV.o,d8,ag om,ah rfl,f8 l.o]
 go_in
 go_upto_region 6 with fail
 refine am aq (λG _=>?_);refine qL [0,1,2,3,4,5,6,7,8,9,10] ?_;refine aZ ?_
 go_wp2_with fail
 go_ret;exact bq
def yp(b:z=3\/z=4){P:Value}:() 88 #[P,.agg #[z,id]] w (aD w au):=by
 have e:=@aa
 go_in
 rcases b with rfl|rfl
 all_goals
  go_wp2_with fail
  go_ret;exact bq
end
def yq(G:List Bool):∀(zs l:av),∀x∈h3 G zs l,x∈zs\/x∈l
 |[],_,_,h=>.inr h
 |z::t,l,x,h=>by
  rw[h3]at h;rcases yq G t _ x h with h|h
  .exact .inl (dl _ h)
  .split at h
   .rcases bJ.1 h with h|h
    .exact .inr h
    .exact .inl (by rw[cF.1 h];exact cm)
   .exact .inr h
def yr(G:List Bool):∀(zs l:av),(h3 G zs l).length<=l+zs.length
 |[],_=>by simp[h3]
 |z::t,l=>by
  rw[h3];refine aO (yr G t _) ?_
  split<;>first|(simp;done)|(simp;omega)
section
variable{w:World}{a:m7}{C:iu}
def K7{L:av}{b:Int}(h:∀z∈L,0<=z/\z<=b):0<=L.sum/\L.sum<=(L.length:Int)*b:=by
 induction L with
 |nil=>simp
 |cons z t e=>
  have l:=h z cm;have r:=e λx j=>h x (dl _ j);rw[iz,dm,fH,jv];omega
def NP(hP:j2 p a m C ss)(h:dI p w a m C s){id:Nat}(hid:id<=m){V:Int}(hV:Hx (d8 C s 6 id=V)):() 88 #[.pointer p.1.size,.agg #[(6:Int),id]] w (aD w V):=by
 obtain⟨CB,CP⟩:=h5;have pp:=h.prev;obtain⟨F,hF⟩:=lh (g3 C s id);have Z:=ae hF;have HV:Hx ((F.map λz=>C.words.getD z.toNat 0).sum=V):=ae (by rw[<-hV.o,d8,ag om,ag om,ah rfl,hF]);have B:id<C.ins:=by rw[<-hP.Ru,cj,<-hP.ins.len];omega
 have l:C.ins.getD id []∈C.ins:=by rw[aX,bc B];exact nb _
 have hFl:F.length<=1000:=by
  have T:=yr s.aE (C.ins.getD id []) [];have h2:=(hP.jS _ l).1;rw[<-hF];rw[nn,bX]at T;exact aO T h2
 have K:Hx (∀z∈F,0<=z/\z<=m):=λz U=>by
  rw[<-hF]at U;rcases yq _ _ _ z U with h|h
  .exact(hP.jS _ l).2 z h
  .cases h
 have M:C.words=m+1:=hP.words.len.symm;have G:Hx (∀y:Nat,0<=C.words.getD y 0/\C.words.getD y 0<=1099511627776):=λy=>by
  rw[aX];rcases N:C.words[y]? with _|z
  .simp
  .exact hP.wb z (aC N)
 clear hF B l M
 go_in
 go_wp2_with (go_at_call 89;(with_reducible refine dO (λu0 _ _=>?_));(with_reducible refine(Bn hP (h.at (w':=u0)) hid Z).mono ?_);rintro e u ⟨AF,cF,rfl,oF,_⟩)
 have sF:Sl u AF F F:=⟨oF.rd,rfl⟩;have hS:=h.at (w':=u);have kS:Bx u p.1.size 108 (cz p a m C s):=⟨hS.st⟩;obtain⟨AW,cW,AC,cC,AI,cI,AO,cO⟩:=a;have sW:Sl p AW (m+1) C.words:=hP.words
 go_loop [5,40] (λt i=>∃j:Nat,j<=F/\i=.int .i64 j/\t=.int .i64 ((F.take j).map λz=>C.words.getD z.toNat 0).sum) (λ_ i=>F.length-(intOf i).toNat)
 .exact⟨0,aT _,rfl,rfl⟩
 ·
  obtain⟨j,hj,rfl,rfl⟩:=hrel;have O:=K7 (L:=(F.take j).map λz=>C.words.getD z.toNat 0) (b:=1099511627776) (λx hx=>by
   obtain⟨y,_,rfl⟩:=bC.1 hx;exact G.o _)
  have P:((F.take j).map λz=>C.words.getD z.toNat 0).length<=1000:=by simp;omega
  obtain⟨S,r⟩:=lh (((F.take j).map λz=>C.words.getD z.toNat 0).sum);obtain⟨sl,D⟩:=lh (((F.take j).map λz=>C.words.getD z.toNat 0).length);rw[r,D]at O;rw[D]at P;rw[r];have I:=ae r;clear r D;by_cases Q:j<F
  .obtain⟨b2,q2,z,rfl,jf,vz,X⟩:=sF.get Q;have J:=K.o z (aC X.o);obtain⟨y,rfl⟩:=cf J.1;have N:y<m+1:=om;obtain⟨b3,q3,Y,rfl,Zn,vw,ew⟩:=sW.get N;have E:C.words.getD y 0=Y:=f8 ew.o;have R:=G.o y;rw[E]at R;have HT:Hx (((F.take (j+1)).map λz=>C.words.getD z.toNat 0).sum=S+Y):=ae (by rw[take_at X.o,cJ,pY,I.o,dX,jZ,iz,List.sum_nil,bI,E,Kq]);clear E J
   go_wp2_with fail
   go_round
   .exact⟨j+1,om,by go_num,by rw[HT.o]⟩
   .simp[intOf];omega
  .obtain rfl:S=V:=by rw[<-HV.o,<-I.o,bR om]
   go_wp2_with fail
   go_ret;exact bq
end
variable{i:Nat}{v:Value}
section
variable{w:World}{a:m7}{C:iu}{s':iv}
def dI.yt(h:dI p w a m C s)(l:(cz p a m C s).setIfInBounds i v=cz p a m C s')(b:s'.bb=s.bb)(e:s'.saved=s.saved)(j:s'.aE=s.aE):dI p (w.setCell (p.1.size,i) v) a m C s':=
 ⟨⟨h.prev.st.setCell (p:=⟨p.1.size,i,none⟩) (an _) _⟩,by rw[<-l];exact h.st.ax i v,by rw[b];exact h.pr.a9 aG _,by rw[e];exact h.sv.a9 bY _,by rw[j];exact h.gr.a9 bY _,by rw[b];exact h.lp,by rw[e];exact h.ls,by rw[j];exact h.lg⟩
def dI.ZY(h:dI p w a m C s)(b:Bool):dI p (w.setCell (p.1.size,9) (.bool b)) a m C {s with eh:=b}:=h.yt rfl rfl rfl rfl
def dI.ZZ(h:dI p w a m C s)(b:Bool):dI p (w.setCell (p.1.size,10) (.bool b)) a m C {s with fe:=b}:=h.yt rfl rfl rfl rfl
def dI.Z0(h:dI p w a m C s)(z:Int):dI p (w.setCell (p.1.size,11) z) a m C {s with done:=z}:=h.yt rfl rfl rfl rfl
def dI.VL(h:dI p w a m C s)(z:Int):dI p (w.setCell (p.1.size,12) z) a m C {s with now:=z}:=h.yt rfl rfl rfl rfl
def dI.Z1(h:dI p w a m C s)(z:Int):dI p (w.setCell (p.1.size,13) z) a m C {s with iU:=z}:=h.yt rfl rfl rfl rfl
def dy(C:iu)(s:iv)(b:Int)(id:Nat):Bool:=
 if b=1 then !s.saved.getD id false&&lj C s id
 else if b=2 then s.saved.getD id false&& !s.bb.getD id false&&lj C s id
 else if b=3 then s.bb.getD id false
 else if b=4 then s.bb.getD C.f9 false&& !s.eh
 else if b=5 then !s.fe
 else s.aE.getD id false&&lj C s id&&decide (s.done<(C.order.length:Int))&&(C.order.getD ((C.order.length:Int)-1-s.done).toNat 0==(id:Int))
end
section
variable{w:World}{a:m7}{C:iu}
def gT{L:List Bool}{n:Nat}(j:L=n)(h:i<n):∃b,L[i]?=some b/\L.getD i false=b:=by
 have e:L[i]?=some (L[i]'om):=bc _;exact⟨_,e,by rw[aX,e];rfl⟩
def Jb(hP:j2 p a m C ss)(h:dI p w a m C s){id:Nat}(hid:id<=m){b:Bool}(hb:Hx (dy C s 3 id=b)):() 87 #[.pointer p.1.size,.agg #[(3:Int),id]] w (aD w (.bool b)):=by
 have u:=@aa;have y:Bx w p.1.size 108 (cz p a m C s):=⟨h.st⟩;obtain⟨r,e,j⟩:=gT h.lp (show id<m+1 by omega);obtain rfl:r=b:=by rw[<-hb.o,dy];simp only[j];rfl
 have z:Bx w (p.1.size+1) 4 (d6 s.bb):=⟨h.pr⟩;have hg:=bO e;have l:(id:Int)<(m:Int)+1:=by omega
 clear e j
 go_in
 go_wp2_with fail
 go_ret;exact bq
def Jc(h:dI p w a m C s){b:Bool}(hb:Hx (dy C s 5 0=b)):() 87 #[.pointer p.1.size,.agg #[(5:Int),id]] w (aD w (.bool b)):=by
 have e:=@aa;have j:Bx w p.1.size 108 (cz p a m C s):=⟨h.st⟩;obtain rfl:(!s.fe)=b:=by rw[<-hb.o];rfl
 go_in
 go_wp2_with fail
 go_ret;exact bq
def Jd(hP:j2 p a m C ss)(h:dI p w a m C s){id:Nat}(hid:id<=m){b:Bool}(hb:Hx (dy C s 1 id=b)):() 87 #[.pointer p.1.size,.agg #[(1:Int),id]] w (aD w (.bool b)):=by
 have G:=@aa;have I:Bx w p.1.size 108 (cz p a m C s):=⟨h.st⟩;obtain⟨y,z,B⟩:=gT h.ls (show id<m+1 by omega);obtain⟨D,j⟩:=lh (lj C s id);have l:(!y&&D)=b:=by rw[<-hb.o,dy];simp only[B,j];rfl
 have r:=ae j;have J:Bx w (p.1.size+1+1) 4 (d6 s.saved):=⟨h.sv⟩;have hg:=bO z;have E:(id:Int)<(m:Int)+1:=by omega
 clear z B j
 go_in
 rcases y with _|_
 .obtain rfl:D=b:=by rw[<-l];rfl
  clear l
  go_wp2_with (go_at_call 139;(with_reducible refine dO (λF _ _=>?_));(with_reducible refine(m8 hP (h.at (w':=F)) hid r).mono ?_);rintro e u ⟨rfl,_⟩)
  go_ret;exact bq
 .obtain rfl:b=false:=by rw[<-l];rfl
  clear l
  go_wp2_with fail
  go_ret;exact bq
end
section
variable{w:World}{a:m7}{C:iu}
def Je(hP:j2 p a m C ss)(h:dI p w a m C s){id:Nat}(hid:id<=m){b:Bool}(hb:Hx (dy C s 2 id=b)):() 87 #[.pointer p.1.size,.agg #[(2:Int),id]] w (aD w (.bool b)):=by
 have L:=@aa;have M:Bx w p.1.size 108 (cz p a m C s):=⟨h.st⟩;obtain⟨y,z,B⟩:=gT h.ls (show id<m+1 by omega);obtain⟨D,E,F⟩:=gT h.lp (show id<m+1 by omega);obtain⟨G,j⟩:=lh (lj C s id);have l:(y&& !D&&G)=b:=by rw[<-hb.o,dy];simp only[B,F,j];rfl
 have r:=ae j;have N:Bx w (p.1.size+1+1) 4 (d6 s.saved):=⟨h.sv⟩;have O:Bx w (p.1.size+1) 4 (d6 s.bb):=⟨h.pr⟩;have hg:=bO z;have J:=bO E;have I:(id:Int)<(m:Int)+1:=by omega
 clear z B E F j
 go_in
 rcases y with _|_
 .obtain rfl:b=false:=by rw[<-l];rfl
  clear l
  go_wp2_with fail
  go_ret;exact bq
 .rcases D with _|_
  .obtain rfl:G=b:=by rw[<-l];rfl
   clear l
   go_wp2_with (go_at_call 139;(with_reducible refine dO (λK _ _=>?_));(with_reducible refine(m8 hP (h.at (w':=K)) hid r).mono ?_);rintro e u ⟨rfl,_⟩)
   go_ret;exact bq
  .obtain rfl:b=false:=by rw[<-l];rfl
   clear l
   go_wp2_with fail
   go_ret;exact bq
def Jf(hP:j2 p a m C ss)(h:dI p w a m C s){b:Bool}(hb:Hx (dy C s 4 0=b)):() 87 #[.pointer p.1.size,.agg #[(4:Int),id]] w (aD w (.bool b)):=by
 have B:=@aa;have D:Bx w p.1.size 108 (cz p a m C s):=⟨h.st⟩;have E:=hP.f9;obtain⟨j,l,r⟩:=gT h.lp (show C.f9<m+1 by omega);have e:(j&& !s.eh)=b:=by rw[<-hb.o,dy];simp only[r];rfl
 have F:Bx w (p.1.size+1) 4 (d6 s.bb):=⟨h.pr⟩;have u:=bO l;have y:(C.f9:Int)<(m:Int)+1:=by omega
 clear l r
 go_in
 rcases j with _|_
 .obtain rfl:b=false:=by rw[<-e];rfl
  clear e
  go_upto_region 10 with fail
  refine am aq (λz _=>?_);refine qL [0,1,2,3,4,5,6,7,8,9,10,511,512,513,514,515,16,17] ?_;refine aZ ?_
  go_wp2_with fail
  go_ret;exact bq
 .obtain rfl:(!s.eh)=b:=by rw[<-e];rfl
  clear e
  go_upto_region 10 with fail
  refine am aq (λz _=>?_);refine qL [0,1,2,3,4,5,6,7,8,9,10,11,12,13,14,15,16,17] ?_;refine aZ ?_
  go_wp2_with fail
  go_ret;exact bq
end
section
variable{w:World}{a:m7}{C:iu}
def F5(hP:j2 p a m C ss)(h:dI p w a m C s){id:Nat}(hid:id<=m)(b:s.aE.getD id false=false):() 87 #[.pointer p.1.size,.agg #[(6:Int),id]] w (aD w (.bool false)):=by
 have y:=@aa;have z:Bx w p.1.size 108 (cz p a m C s):=⟨h.st⟩;obtain⟨r,e,j⟩:=gT h.lg (show id<m+1 by omega);obtain rfl:r=false:=by rw[<-j];exact b
 have B:Bx w (p.1.size+1+1+1) 4 (d6 s.aE):=⟨h.gr⟩;have u:=bO e;have l:(id:Int)<(m:Int)+1:=by omega
 clear e j b
 go_in
 go_upto_region 14 with fail
 refine am aq (λD _=>?_);refine qL [0,1,2,3,4,5,6,7,508,509,510,11,12,513,514,515,516,517,518,519,520,521,522,23,24,525,526,527,528,529,530,531,532,533,534,535,536,537,538,539,540,541,542,543,44,45] ?_;refine aZ ?_
 go_wp2_with fail
 go_ret;exact bq
def F6(hP:j2 p a m C ss)(h:dI p w a m C s){id:Nat}(hid:id<=m)(j:s.aE.getD id false=true)(b:Hx (lj C s id=false)):() 87 #[.pointer p.1.size,.agg #[(6:Int),id]] w (aD w (.bool false)):=by
 have D:=@aa;have E:Bx w p.1.size 108 (cz p a m C s):=⟨h.st⟩;obtain⟨y,l,r⟩:=gT h.lg (show id<m+1 by omega);obtain rfl:y=true:=by rw[<-r];exact j
 have F:Bx w (p.1.size+1+1+1) 4 (d6 s.aE):=⟨h.gr⟩;have z:=bO l;have u:(id:Int)<(m:Int)+1:=by omega
 clear l r j
 go_in
 go_upto_region 14 with fail
 refine am aq (λB _=>?_);refine qL [0,1,2,3,4,5,6,7,8,9] ?_;refine aM 10 λK hK=>?_;go_simp
 (with_reducible refine(m8 hP h.at hid b).mono ?_)
 rintro e B ⟨rfl,_⟩;dsimp only;refine aL hK ?_;refine qL [11,12,513,514,515,516,517,518,519,520,521,522,23,24,525,526,527,528,529,530,531,532,533,534,535,536,537,538,539,540,541,542,543,44,45] ?_;refine aZ ?_
 go_wp2_with fail
 go_ret;exact bq
end
section
variable{w:World}{a:m7}{C:iu}
def F7(hP:j2 p a m C ss)(h:dI p w a m C s){id:Nat}(hid:id<=m)(j:s.aE.getD id false=true)(b:Hx (lj C s id=true))(hd:¬s.done<(m:Int)):() 87 #[.pointer p.1.size,.agg #[(6:Int),id]] w (aD w (.bool false)):=by
 have D:=@aa;have E:Bx w p.1.size 108 (cz p a m C s):=⟨h.st⟩;obtain⟨y,l,r⟩:=gT h.lg (show id<m+1 by omega);obtain rfl:y=true:=by rw[<-r];exact j
 have F:Bx w (p.1.size+1+1+1) 4 (d6 s.aE):=⟨h.gr⟩;have z:=bO l;have u:(id:Int)<(m:Int)+1:=by omega
 clear l r j
 go_in
 go_upto_region 14 with fail
 refine am aq (λB _=>?_);refine qL [0,1,2,3,4,5,6,7,8,9] ?_;refine aM 10 λK hK=>?_;go_simp
 (with_reducible refine(m8 hP h.at hid b).mono ?_)
 rintro e B ⟨rfl,_⟩;dsimp only;refine aL hK ?_;refine qL [11,12,13,14,15,16,17,18,19,20,21,22,23,24,525,526,527,528,529,530,531,532,533,534,535,536,537,538,539,540,541,542,543,44,45] ?_;refine aZ ?_
 go_wp2_with fail
 go_ret;exact bq
end
section
variable{w:World}{a:m7}{C:iu}
def F8(hP:j2 p a m C ss)(h:dI p w a m C s){id:Nat}(hid:id<=m)(r:s.aE.getD id false=true)(j:Hx (lj C s id=true))(D:0<=s.done)(hd:s.done<(m:Int)){b:Bool}(hb:Hx ((C.order.getD ((m:Int)-1-s.done).toNat 0==(id:Int))=b)):
  () 87 #[.pointer p.1.size,.agg #[(6:Int),id]] w (aD w (.bool b)):=by
 obtain⟨N,O⟩:=h5;have P:Bx w p.1.size 108 (cz p a m C s):=⟨h.st⟩;have hm:=hP.hm;have Q:=h.prev;obtain⟨E,u,y⟩:=gT h.lg (show id<m+1 by omega);obtain rfl:E=true:=by rw[<-y];exact r
 have R:Bx w (p.1.size+1+1+1) 4 (d6 s.aE):=⟨h.gr⟩;have F:=bO u;have B:(id:Int)<(m:Int)+1:=by omega
 obtain⟨q,hq⟩:∃q:Nat,(m:Int)-1-s.done=(q:Int):=⟨((m:Int)-1-s.done).toNat,om⟩;have l:q<m:=om;obtain⟨AW,cW,AC,cC,AI,cI,AO,cO⟩:=a;have G:Sl p AO m C.order:=hP.order;obtain⟨S,o1,z,rfl,I,T,J⟩:=G.get l;have L:Hx ((z==(id:Int))=b):=ae (by rw[<-hb.o,hq,bI,f8 J.o]);have w1:IntKind.i64.wrap ((m:Int)-1)=(m:Int)-1:=by rw[aV];omega
 have w2:IntKind.i64.wrap ((m:Int)-1-s.done)=(q:Int):=by rw[aV,hq];omega
 clear u y r hq hb
 go_in
 go_upto_region 14 with fail
 refine am aq (λM _=>?_);refine qL [0,1,2,3,4,5,6,7,8,9] ?_;refine aM 10 λK hK=>?_;go_simp
 (with_reducible refine(m8 hP h.at hid j).mono ?_)
 rintro e M ⟨rfl,_⟩;dsimp only;refine aL hK ?_;refine qL [11,12,13,14,15,16,17,18,19,20,21,22,23,24,25,26,27,28,29,30,31,32,33,34,35,36,37,38,39,40,41,42,43,44,45] ?_;refine aZ ?_
 go_wp2_with fail
 go_ret;exact⟨by rw[L.o];rfl,aK⟩
def tR(hP:j2 p a m C ss)(h:dI p w a m C s)(hr:eV z id=true)(hid:id<=m)(l:0<=s.done){b:Bool}(hb:Hx (dy C s z id.toNat=b)):
  () 87 #[.pointer p.1.size,.agg #[z,id]] w (aD w (.bool b)):=by
 by_cases j:z=4\/z=5
 .obtain rfl:id=0:=by rw[od j]at hr;simpa using hr
  rcases j with rfl|rfl
  .exact Jf hP h hb
  .exact Jc h hb
 .have k:z=1\/z=2\/z=3\/z=6:=by
   by_cases k:z=1\/z=2\/z=3\/z=6
   .exact k
   .rw[eV,ag j,ag k]at hr;cases hr
  rw[lb k]at hr;simp only[bW,cu]at hr;obtain⟨q,rfl⟩:∃q:Nat,id=(q:Int):=⟨id.toNat,om⟩;rw[bI]at hb;have hq:q<=m:=om;rcases k with rfl|rfl|rfl|rfl
  .exact Jd hP h hq hb
  .exact Je hP h hq hb
  .exact Jb hP h hq hb
  .have r:C.order=m:=hP.order.len.symm;have e:=hb.o;rw[dy,ag ak,ag ak,ag ak,ag ak,ag ak,r]at e;rcases hg:s.aE.getD q false with _|_
   .rw[hg]at e;obtain rfl:false=b:=by simpa using e
    exact F5 hP h hq hg
   .rw[hg]at e;rcases hy:lj C s q with _|_
    .rw[hy]at e;obtain rfl:false=b:=by simpa using e
     exact F6 hP h hq hg hy
    .rw[hy]at e;by_cases hd:s.done<(m:Int)
     .rw[ef hd]at e;exact F8 hP h hq hg hy l hd (ae (by simpa using e))
     .rw[dD hd]at e;obtain rfl:false=b:=by simpa using e
      exact F7 hP h hq hg hy hd
def F9(hP:j2 p a m C ss)(h:dI p w a m C s)(hr:eV z id=true)(hid:id<=m){V:Int}(hV:Hx (d8 C s z id.toNat=V)):
  () 88 #[.pointer p.1.size,.agg #[z,id]] w (aD w V):=by
 by_cases b:z=4\/z=5
 .obtain rfl:id=0:=by rw[od b]at hr;simpa using hr
  rcases b with rfl|rfl
  .obtain rfl:0=V:=by rw[<-hV.o];rfl
   exact yp (.inr rfl)
  .exact NO hP h hV
 .have k:z=1\/z=2\/z=3\/z=6:=by
   by_cases k:z=1\/z=2\/z=3\/z=6
   .exact k
   .rw[eV,ag b,ag k]at hr;cases hr
  rw[lb k]at hr;simp only[bW,cu]at hr;obtain⟨q,rfl⟩:∃q:Nat,id=(q:Int):=⟨id.toNat,om⟩;rw[bI]at hV;have hq:q<=m:=om;rcases k with rfl|rfl|rfl|rfl
  .exact yo hP h hq (.inl rfl) hV
  .exact yo hP h hq (.inr rfl) hV
  .obtain rfl:0=V:=by rw[<-hV.o];rfl
   exact yp (.inl rfl)
  .exact NP hP h hq hV
end
variable{q wb:Nat}{kd:Int}{pr:List Bool}
structure e8(p:World)(wb:Nat)(w:World)(a:m7)(m:Nat)(C:iu)(s:iv)(kd id:Int):Prop where
 ck:dI p w a m C s
 box:aB w wb 98 #[kd,id]
 a9:p.1.size+3<wb
section
variable{w:World}{a:m7}{C:iu}{nw pk dn:Int}{sv gr:List Bool}{em sd b:Bool}
def e8.at(h:e8 p wb w a m C s kd id)[aF w w']:e8 p wb w' a m C s kd id:=⟨h.ck.at,h.box.at,h.a9⟩
def e8.Rw(h:e8 p wb w a m C ⟨pr,sv,gr,em,sd,dn,nw,pk⟩ kd id)(z:Int):e8 p wb (w.setCell (p.1.size,12) z) a m C ⟨pr,sv,gr,em,sd,dn,z,pk⟩ kd id:=⟨h.ck.VL z,h.box.a9 (by have:=h.a9;simp;omega) _,h.a9⟩
def e8.spk(h:e8 p wb w a m C ⟨pr,sv,gr,em,sd,dn,nw,pk⟩ kd id)(z:Int):e8 p wb (w.setCell (p.1.size,13) z) a m C ⟨pr,sv,gr,em,sd,dn,nw,z⟩ kd id:=⟨h.ck.Z1 z,h.box.a9 (by have:=h.a9;simp;omega) _,h.a9⟩
def e8.sdn(h:e8 p wb w a m C ⟨pr,sv,gr,em,sd,dn,nw,pk⟩ kd id)(z:Int):e8 p wb (w.setCell (p.1.size,11) z) a m C ⟨pr,sv,gr,em,sd,z,nw,pk⟩ kd id:=⟨h.ck.Z0 z,h.box.a9 (by have:=h.a9;simp;omega) _,h.a9⟩
def e8.sem(h:e8 p wb w a m C ⟨pr,sv,gr,em,sd,dn,nw,pk⟩ kd id)(b:Bool):e8 p wb (w.setCell (p.1.size,9) (.bool b)) a m C ⟨pr,sv,gr,b,sd,dn,nw,pk⟩ kd id:=⟨h.ck.ZY b,h.box.a9 (by have:=h.a9;simp;omega) _,h.a9⟩
def e8.ssd(h:e8 p wb w a m C ⟨pr,sv,gr,em,sd,dn,nw,pk⟩ kd id)(b:Bool):e8 p wb (w.setCell (p.1.size,10) (.bool b)) a m C ⟨pr,sv,gr,em,b,dn,nw,pk⟩ kd id:=⟨h.ck.ZZ b,h.box.a9 (by have:=h.a9;simp;omega) _,h.a9⟩
def e8.Z3(h:e8 p wb w a m C ⟨pr,sv,gr,em,sd,dn,nw,pk⟩ kd id)(i:Nat)(b:Bool):e8 p wb (w.setCell (p.1.size+1,i) (.bool b)) a m C ⟨pr.set i b,sv,gr,em,sd,dn,nw,pk⟩ kd id:=⟨h.ck.Bm i b,h.box.a9 (by have:=h.a9;simp;omega) _,h.a9⟩
def e8.ssv(h:e8 p wb w a m C ⟨pr,sv,gr,em,sd,dn,nw,pk⟩ kd id)(i:Nat)(b:Bool):e8 p wb (w.setCell (p.1.size+1+1,i) (.bool b)) a m C ⟨pr,sv.set i b,gr,em,sd,dn,nw,pk⟩ kd id:=⟨h.ck.abj i b,h.box.a9 (by have:=h.a9;simp;omega) _,h.a9⟩
def e8.Z4(h:e8 p wb w a m C ⟨pr,sv,gr,em,sd,dn,nw,pk⟩ kd id)(i:Nat)(b:Bool):e8 p wb (w.setCell (p.1.size+1+1+1,i) (.bool b)) a m C ⟨pr,sv,gr.set i b,em,sd,dn,nw,pk⟩ kd id:=⟨h.ck.abk i b,h.box.a9 (by have:=h.a9;simp;omega) _,h.a9⟩
def e8.facts(h:e8 p wb w a m C ⟨pr,sv,gr,em,sd,dn,nw,pk⟩ kd id):aj w p/\Bx w p.1.size 108 (cz p a m C ⟨pr,sv,gr,em,sd,dn,nw,pk⟩)/\Bx w wb 98 #[kd,id]/\Bx w (p.1.size+1) 4 (d6 pr)/\Bx w (p.1.size+1+1) 4 (d6 sv)/\Bx w (p.1.size+1+1+1) 4 (d6 gr):=
 ⟨h.ck.prev,⟨h.ck.st⟩,⟨h.box⟩,⟨h.ck.pr⟩,⟨h.ck.sv⟩,⟨h.ck.gr⟩⟩
def j3(C:iu)(s:iv)(kd id:Int):Int:=
 if eV kd id=true/\id<(C.words.length:Int)then(if dy C s kd id.toNat then(if s.now+d8 C s kd id.toNat<=C.cap then 0 else 25)else 24)else 10
def og(gr:List Bool)(F:av):List Bool:=F.foldl (λG z=>G.set z.toNat true) gr
def ga(C:iu)(s:iv)(kd id:Int):iv:=
 let q:=id.toNat
 let n:=s.now+d8 C s kd q
 let k:=max s.iU n
 if kd=1\/kd=2 then⟨s.bb.set q true,s.saved.set q true,s.aE,s.eh,s.fe,s.done,n,k⟩
 else if kd=3 then⟨s.bb.set q false,s.saved,s.aE,s.eh,s.fe,s.done,n-C.words.getD q 0,k⟩
 else if kd=4 then⟨s.bb,s.saved,s.aE,true,s.fe,s.done,n,k⟩
 else if kd=5 then⟨s.bb,s.saved,s.aE.set C.f9 true,s.eh,true,s.done,n,k⟩
 else⟨s.bb,s.saved,(og s.aE (g3 C s q)).set q false,s.eh,s.fe,s.done+1,n-C.words.getD q 0,k⟩
def Bo{L:av}{b:Int}(hb:0<=b)(h:∀z∈L,0<=z/\z<=b)(y:Nat):0<=L.getD y 0/\L.getD y 0<=b:=by
 rw[aX];rcases hy:L[y]? with _|z
 .exact⟨dM _,hb⟩
 .exact h z (aC hy)
def yu(hP:j2 p a m C ss)(q:Nat):(g3 C s q).length<=1000:=by
 have e:=yr s.aE (C.ins.getD q []) [];rw[nn,bX]at e;refine aO e ?_;rw[aX];rcases hy:C.ins[q]? with _|z
 .exact aT _
 .exact(hP.jS z (aC hy)).1
def NQ(hP:j2 p a m C ss){z:Int}(e:z∈g3 C s q):0<=z/\z<=m:=by
 rcases yq _ _ _ z e with h|h
 .rw[aX]at h;rcases hy:C.ins[q]? with _|l
  .rw[hy]at h;cases h
  .rw[hy]at h;exact(hP.jS l (aC hy)).2 z h
 .cases h
def yv(hP:j2 p a m C ss)(kd:Int)(q:Nat):0<=d8 C s kd q/\d8 C s kd q<=1099511627776000:=by
 have e:=Bo om hP.wb;unfold d8
 split
 .have:=e q;omega
 .split
  .have:=e C.f9;omega
  .split
   .have j:=K7 (L:=(g3 C s q).map λz=>C.words.getD z.toNat 0) (b:=1099511627776) (λx l=>by
     obtain⟨y,_,rfl⟩:=bC.1 l;exact e _)
    have r:=yu (s:=s) hP q;rw[br]at j;omega
   .omega
def pE:∀(F:av) (G:List Bool),(og G F).length=G
 |[],_=>rfl
 |z::t,G=>by rw[og,kl,<-og,pE t];simp
def NR(G:List Bool)(F:av)(z:Int):og G (F++[z])=(og G F).set z.toNat true:=by simp[og]
end
