/- Lemmas. No condition. -/
import Derived.Test.YtmkjnlifimffkaaGreatS27
namespace Go.Proofs.YtmkjnlifimffkaaGreat
open Go.RowKit
set_option linter.all false
set_option maxRecDepth 100000
set_option maxHeartbeats 16000000
def gK(b id:Int):Bool:=if b=4\/b=5 then id==0 else if b=1\/b=2\/b=3\/b=6 then decide (1<=id)&&decide (id<=512)else false
section
variable{w w':World}{A:Option Addr}{n p:Nat}{ps:List (Int×Int)}
theorem AQ{b id:Int}(h:b=1\/b=2\/b=3\/b=6):gK b id=(decide (1<=id)&&decide (id<=512)):=by
 unfold gK;rw[if_neg om,if_pos h]
theorem Oi{b id:Int}(h:b=4\/b=5):gK b id=(id==0):=by
 unfold gK;rw[if_pos h]
theorem amV{b id:Int}(h:Hid (b=1\/b=2\/b=3\/b=6)):Calls Tryz.prog 85 #[.agg #[b,id]] w (aM w (.bool (gK b id))):=by
 have r:=@bf;have j:=ae (AQ (id:=id) h.out);by_cases l:1<=id
 ·by_cases m:id<=512
  focus
   have e:Hid (gK b id=true):=ae (by rw[j.out,l8 l,l8 m];rfl)
  rotate_left
  focus
   have e:Hid (gK b id=false):=ae (by rw[j.out,l8 l,nC m];rfl)
  all_goals
   rcases h.out with rfl|rfl|rfl|rfl
   all_goals
    go_enter Tryz.func85,Tryz.ntmps85
    go_wp2_with fail
    go_ret;exact⟨by rw[e.out];rfl,ai _ _⟩
 ·have e:Hid (gK b id=false):=ae (by rw[j.out,nC l];rfl);rcases h.out with rfl|rfl|rfl|rfl
  all_goals
   go_enter Tryz.func85,Tryz.ntmps85
   go_wp2_with fail
   go_ret;exact⟨by rw[e.out];rfl,ai _ _⟩
theorem amW{b id:Int}(h:Hid (b=4\/b=5)):Calls Tryz.prog 85 #[.agg #[b,id]] w (aM w (.bool (gK b id))):=by
 have j:=@bf;have e:=ae (Oi (id:=id) h.out);rcases h.out with rfl|rfl
 all_goals
  go_enter Tryz.func85,Tryz.ntmps85
  go_wp2_with fail
  go_ret;exact⟨by rw[e.out];rfl,ai _ _⟩
theorem amX{b id:Int}(h:Hid (gK b id=false))(k1:(b==1)=false)(k2:(b==2)=false)(e:(b==3)=false)(j:(b==4)=false)(l:(b==5)=false)(k6:(b==6)=false):
  Calls Tryz.prog 85 #[.agg #[b,id]] w (aM w (.bool (gK b id))):=by
 have m:=@bf;go_enter Tryz.func85,Tryz.ntmps85
 go_wp2_with fail
 go_ret;exact⟨by rw[h.out];rfl,ai _ _⟩
theorem Er{b id:Int}:Calls Tryz.prog 85 #[.agg #[b,id]] w (aM w (.bool (gK b id))):=by
 by_cases h:b=1\/b=2\/b=3\/b=6
 ·exact amV (ae h)
 ·by_cases e:b=4\/b=5
  ·exact amW (ae e)
  ·have:∀j:Int,(j=1\/j=2\/j=3\/j=4\/j=5\/j=6)->(b==j)=false:=fun j l=>by
    rw[beq_eq_false_iff_ne];omega
   exact amX (ae (by unfold gK;rw[if_neg e,if_neg h])) (this 1 au) (this 2 au) (this 3 au) (this 4 au) (this 5 au) (this 6 au)
def TZ(ps:List (Int×Int)):Bool:=ps.all fun x=>gK x.1 x.2
theorem amY{f:Int×Int->Bool}{ps:List (Int×Int)}{k:Nat}{x:Int×Int}(h:ps[k]?=some x)(b:f x=false):ps.all f=false:=by
 rw[Fe];exact⟨x,aK h,by simp[b]⟩
theorem amZ{f:Int×Int->Bool}{ps:List (Int×Int)}{k:Nat}{x:Int×Int}(h:(ps.take k).all f=true)(b:ps[k]?=some x)(e:f x=true):(ps.take (k+1)).all f=true:=by
 rw[vO,LF,h,b];simp[e]
theorem am0{f:Int×Int->Bool}{ps:List (Int×Int)}{k:Nat}(h:(ps.take k).all f=true)(b:ps.length<=k):ps.all f=true:=by rwa[dB b]at h
def mY(ps:List (Int×Int)):Int:=if TZ ps then 0 else 10
theorem am1[i:Is w A n ps](C:n<=65536):Calls Tryz.prog 33 #[.slice A n p] w (aM w (.int .i64 (mY ps))):=by
 obtain⟨D,E⟩:=lM;have z:Hid (n=ps.length):=ae i.len;go_enter Tryz.func33,Tryz.ntmps33
 go_wp2_with fail
 go_loopw [10] (fun i wr=>∃k:Nat,k<=n/\i=.int .i64 k/\Hid ((ps.take k).all (fun x=>gK x.1 x.2)=true)/\ak wr w) (fun i _=>n-(intOf i).toNat)
 case atStart=>exact⟨0,aS _,rfl,ae rfl,ai _ _⟩
 case round=>
  obtain⟨k,F,rfl,r,hp⟩:=hrel;by_cases j:k<n
  ·obtain⟨G,o1,x,y,rfl,B,v1,v2,b⟩:=i.get j;rcases hx:gK x y with _|_
   ·have l:Hid (mY ps=10):=ae (by rw[mY,if_neg];rw[TZ,amY b.out hx];simp);clear b
    go_wp2_with (first|(go_at_call 85;(with_reducible refine(Er).mono ?_);rintro e u ⟨rfl,_⟩))
    go_ret;exact⟨by rw[l.out];rfl,ai _ _⟩
   ·have m:=ae (amZ r.out b.out hx);clear b
    go_wp2_with (first|(go_at_call 85;(with_reducible refine(Er).mono ?_);rintro e u ⟨rfl,_⟩))
    go_roundw
    case rel=>exact⟨k+1,om,by go_num,m,ai _ _⟩
    case measure=>simp[intOf];omega
  ·have l:Hid (mY ps=0):=ae (by rw[mY,if_pos];exact am0 r.out (by rw[<-z.out];omega))
   go_wp2_with fail
   go_ret;exact⟨by rw[l.out];rfl,ai _ _⟩
end
def zF(b:Int)(ps:List (Int×Int)):Nat:=ps.countP fun x=>x.1==b
def qO(cost:List Int):List (Int×Int)->Option (List Int)
 |[]=>some []
 |x::t=>if x.1=1\/x.1=2 then(if iZ (cost.getD x.2.toNat (-1))then(qO cost t).map (cost.getD x.2.toNat (-1):: ·)else none)else qO cost t
def Es(cost:List Int)(ps:List (Int×Int)):Int:=if mY ps=0 then(match qO cost ps with|none=>10|some l=>if oG l=0 then 0 else 12)else mY ps
def Cw(cost:List Int)(ps:List (Int×Int)):Int:=if mY ps=0 then(match qO cost ps with|none=>0|some l=>if oG l=0 then oD l else 0)else 0
section
variable{w w':World}{A B:Option Addr}{n m c d:Nat}{ps:List (Int×Int)}{cost:List Int}
theorem am2[i:Is w A n ps](I:n<=65536){b:Int}{V:Nat}(hV:Hid (zF b ps=V)):Calls Tryz.prog 39 #[.slice A n c,b] w (aM w (.int .i64 (V:Int))):=by
 obtain⟨J,K⟩:=lM;have E:Hid (n=ps.length):=ae i.len;go_enter Tryz.func39,Tryz.ntmps39
 go_wp2_with fail
 go_loopw [5,10] (fun s i wr=>∃k:Nat,k<=n/\i=.int .i64 k/\s=.int .i64 (zF b (ps.take k):Nat)/\ak wr w) (fun _ i _=>n-(intOf i).toNat)
 case atStart=>exact⟨0,aS _,rfl,rfl,ai _ _⟩
 case round=>
  obtain⟨k,L,rfl,rfl,hp⟩:=hrel;have z:zF b (ps.take k)<=k:=aZ Ho bD;obtain⟨l,e⟩:=lh (zF b (ps.take k));rw[e]at z⊢;have D:=ae e;clear e;by_cases C:k<n
  ·obtain⟨M,o1,x,y,rfl,F,v1,v2,G⟩:=i.get C;have r:Hid (zF b (ps.take (k+1))=if x=b then l+1 else l):=ae (by
    rw[zF,take_at G.out,PM,List.countP_singleton,show List.countP (fun x=>x.1==b) (ps.take k)=l from D.out];by_cases h:x=b<;>simp[h])
   by_cases u:x=b
   ·subst u;have j:Hid (zF x (ps.take (k+1))=l+1):=ae (by rw[r.out,if_pos rfl]);clear r
    go_wp2_with fail
    go_roundw
    case rel=>exact⟨k+1,om,by go_num,by rw[j.out];simp,ai _ _⟩
    case measure=>simp[intOf];omega
   ·have j:Hid (zF b (ps.take (k+1))=l):=ae (by rw[r.out,if_neg u]);have N:(x==b)=false:=by simpa using u
    clear r u
    go_wp2_with fail
    go_roundw
    case rel=>exact⟨k+1,om,by go_num,by rw[j.out],ai _ _⟩
    case measure=>simp[intOf];omega
  ·obtain rfl:l=V:=by rw[<-D.out,<-hV.out,dB (by rw[<-E.out];omega)]
   go_wp2_with fail
   go_ret;exact⟨rfl,ai _ _⟩
theorem abx{z:Int}{b:Bool}(hb:Hid (iZ z=b)):Calls Tryz.prog 77 #[z] w (aM w (.bool b)):=
 (Qi z w).mono fun e w' ⟨j,l⟩=>⟨by rw[j,hb.out],l▸⟨bq _ _⟩⟩
theorem Cx[Is w A n ps](b:n<=65536){E:Int}(hE:Hid (mY ps=E)):Calls Tryz.prog 33 #[.slice A n c] w (aM w (.int .i64 E)):=by
 obtain rfl:=hE.out;exact am1 b
theorem aby[i:Is w A n ps](hn:n<=65536)[s:Sl w B m cost]{V E:Int}(hV:Hid (Cw cost ps=V))(hE:Hid (Es cost ps=E)):Calls Tryz.prog 37 #[.slice A n c,.slice B m d] w (aM w (.tuple #[V,E])):=by
 obtain⟨CB,CP⟩:=lM;have HL:Hid (n=ps.length):=ae i.len;have HM:Hid (m=cost.length):=ae s.len;have b:=hE.out;have r:=hV.out;rw[Es]at b;rw[Cw]at r;obtain⟨ck,F⟩:=lh (mY ps);rw[F]at b r;have U:Hid (mY ps=ck):=ae F;go_enter Tryz.func37,Tryz.ntmps37;by_cases I:ck=0
 ·subst I;rw[if_pos rfl]at b r;have P:TZ ps=true:=by
   unfold mY at F
   split at F
   ·assumption
   ·omega
  have Y:=ae P;obtain⟨S,hS⟩:=lh (qO cost ps);rw[hS]at b r;have HS:=ae hS;have L:=ae b;have M:=ae r;clear b r hS P F
  go_wp2_with (go_at_call 33;refine(Cx om U).mono ?_;rintro e u ⟨rfl,_⟩)
  go_loopw [7,19] (fun s i wr=>∃(j:Nat) (A:Option Addr) (c:Nat) (X:List Int),j<=n/\i=.int .i64 j/\s=.slice A X.length c/\X.length<=j/\aG wr u.heap.size 3 A c X/\Hid (S=(qO cost (ps.drop j)).map (X++ ·))/\ak wr u) (fun _ i _=>n-(intOf i).toNat)
  case atStart=>exact⟨0,none,0,[],aS _,rfl,rfl,az _,aG.nil _ _ _,ae (by rw[<-HS.out];simp),⟨bq _ _⟩⟩
  case round=>
   obtain⟨j,A',c',X,hj,rfl,rfl,hXl,hO,Z,hp⟩:=hrel;by_cases hlt:j<n
   ·obtain⟨b1,o1,x,y,rfl,vX,v1,v2,e1⟩:=i.get hlt;have Q:Hid (S=(if x=1\/x=2 then(if iZ (cost.getD y.toNat (-1))then(qO cost (ps.drop (j+1))).map (cost.getD y.toNat (-1):: ·)else none)else qO cost (ps.drop (j+1))).map (X++ ·)):=ae (by
     obtain⟨h1,h2⟩:=aY.1 e1.out;rw[Z.out,jE h1,h2];rfl)
    by_cases R:x=1\/x=2
    ·have hy:1<=y/\y<=512:=by
      have:=fK.1 Y.out _ (aK e1.out);rw[AQ om]at this;simpa using this
     obtain⟨q,rfl⟩:=eF (show 0<=y by omega);have G:iZ (cost.getD q (-1))=false->E=10/\V=0:=fun hb=>by
      have hSn:S=none:=by rw[Q.out,if_pos R,dD,hb];rfl
      have h1:=L.out;have h2:=M.out;rw[hSn]at h1 h2;exact⟨h1.symm,h2.symm⟩
     by_cases N:q<m
     ·obtain⟨b2,q2,z,rfl,jT,vz,ez⟩:=s.get N;have O:cost.getD q (-1)=z:=by rw[aQ,ez.out];rfl
      rw[O]at G;have hq1:¬(m:Int)<=(q:Int):=by omega
      rcases hcb:iZ z with _|_
      ·obtain⟨rfl,rfl⟩:=G hcb;have HZ:=ae hcb;clear hcb O Q Z G L M N;rcases R with rfl|rfl
       all_goals
        go_wp2_with (go_at_call 77;refine(abx HZ).mono ?_;rintro e u9 ⟨rfl,_⟩)
        go_ret2;exact⟨rfl,ai _ _⟩
      ·have HZ:=ae hcb;have T:Hid (S=(qO cost (ps.drop (j+1))).map ((X++[z])++ ·)):=ae (by
        rw[Q.out,if_pos R,dD,O,hcb,if_pos rfl,Option.map_map];congr 1
        funext l
        simp)
       clear hcb O Q Z G N;rcases R with rfl|rfl
       all_goals
        go_wp2_with (first|(go_at_call 77;refine(abx HZ).mono ?_;rintro e u9 ⟨rfl,_⟩)|(at_builtin;refine Ie rfl _ _ _ rfl 3 Tryz.underlying24 aj u.heap.size A' c' X rfl hO.at z rfl om aH ?_;intro A3 c3 w3 ho3 hb3 _ _))
        go_roundw
        case rel=>exact⟨j+1,A3,c3,_,om,by go_num,au,by simp;omega,ho3,T,⟨(aL u u9).trans hb3⟩⟩
        case measure=>simp[intOf];omega
     ·obtain⟨rfl,rfl⟩:=G (by rw[aQ,mE (by rw[<-HM.out];omega)];rfl);have hq1:(m:Int)<=(q:Int):=by omega
      clear Q Z G L M N;rcases R with rfl|rfl
      all_goals
       go_wp2_with fail
       go_ret2;exact⟨rfl,ai _ _⟩
    ·have T:Hid (S=(qO cost (ps.drop (j+1))).map (X++ ·)):=ae (by rw[Q.out,if_neg R]);have b1:(x !=1)=true:=by simp;omega
     have b2:(x !=2)=true:=by simp;omega
     clear Q R
     go_wp2_with fail
     go_roundw
     case rel=>exact⟨j+1,A',c',X,om,by go_num,rfl,om,hO.at,T,ai _ _⟩
     case measure=>simp[intOf];omega
   ·have hSX:S=some X:=by rw[Z.out,kL (by rw[<-HL.out];omega)];simp[qO]
    have D:=L.out;have C:=M.out;rw[hSX]at D C;dsimp only at D C;obtain⟨K,hK⟩:=lh (oD X);obtain⟨J,hJ⟩:=lh (oG X);rw[hJ]at D C;rw[hK]at C;have Oc:=ae hK;have Od:=ae hJ;have sX:Sl wr A' X.length X:=⟨hO.rd,rfl⟩;clear hK hJ hSX;by_cases I:J=0
    focus
     subst I;rw[if_pos rfl]at D C;subst D C
    rotate_left
    focus
     rw[if_neg I]at D C;subst D C;have b0:(J !=0)=true:=by simp[I]
     clear I
    all_goals
     go_wp2_with (go_at_call 31;refine(Gs om Oc Od).mono ?_;rintro e u9 ⟨rfl,_⟩)
     go_ret2;exact⟨rfl,ai _ _⟩
 ·rw[if_neg I]at b r;subst b r;have b0:(ck !=0)=true:=by simp[I]
  clear F I
  go_wp2_with (go_at_call 33;refine(Cx om U).mono ?_;rintro e u ⟨rfl,_⟩)
  go_ret2;exact⟨rfl,ai _ _⟩
end
structure iQ where
 words:List Int
 cost:List Int
 ins:List (List Int)
 order:List Int
 jl:Nat
 cap:Int
structure di where
 present:List Bool
 saved:List Bool
 aT:List Bool
 gG:Bool
 gu:Bool
 done:Int
 now:Int
 fE:Int
structure mZ where
 AW:Option Addr
 cW:Nat
 AC:Option Addr
 cC:Nat
 AI:Option Addr
 cI:Nat
 AO:Option Addr
 cO:Nat
structure jV(p:World)(a:mZ)(m:Nat)(C:iQ)(ss:List Sp):Prop where
 words:Sl p a.AW (m+1) C.words
 cost:Sl p a.AC (m+1) C.cost
 ins:dA p a.AI (m+1) ss
 T9:aJ ss=C.ins
 order:Sl p a.AO m C.order
 jl:C.jl<=m
 iR:∀l∈C.ins,l.length<=1000/\∀z∈l,0<=z/\z<=m
 hm:m<=1000
 wb:∀z∈C.words,0<=z/\z<=1099511627776
abbrev jW(p:World)(a:mZ)(m:Nat)(C:iQ)(s:di):Array Value:=
 #[.slice a.AW (m+1) a.cW,.slice a.AC (m+1) a.cC,.slice a.AI (m+1) a.cI,.slice a.AO m a.cO,C.jl,C.cap,.slice (some ⟨p.heap.size+1,0,none⟩) (m+1) (m+1),.slice (some ⟨p.heap.size+1+1,0,none⟩) (m+1) (m+1),.slice (some ⟨p.heap.size+1+1+1,0,none⟩) (m+1) (m+1),
  .bool s.gG,.bool s.gu,.int .i64 s.done,.int .i64 s.now,.int .i64 s.fE]
structure dH(p w:World)(a:mZ)(m:Nat)(C:iQ)(s:di):Prop where
 prev:ak w p
 st:aD w p.heap.size 108 (jW p a m C s)
 pr:aD w (p.heap.size+1) 4 (dL s.present)
 sv:aD w (p.heap.size+1+1) 4 (dL s.saved)
 gr:aD w (p.heap.size+1+1+1) 4 (dL s.aT)
 lp:s.present.length=m+1
 ls:s.saved.length=m+1
 lg:s.aT.length=m+1
def nL(C:iQ)(s:di)(id:Nat):Bool:=(C.ins.getD id []).all fun z=>s.present.getD z.toNat false
def wL(C:iQ)(s:di):Bool:=s.gG&&decide (s.done=(C.order.length:Int))
section
variable{p w w':World}{a:mZ}{m:Nat}{C:iQ}{s:di}{ss:List Sp}
theorem dH.at(h:dH p w a m C s)[l:Later w w']:dH p w' a m C s:=⟨⟨dS h.prev.st l.st⟩,h.st.at,h.pr.at,h.sv.at,h.gr.at,h.lp,h.ls,h.lg⟩
theorem dH.Gw(h:dH p w a m C s)(i:Nat)(b:Bool):dH p (w.setCell ⟨p.heap.size+1,i,none⟩ (.bool b)) a m C {s with present:=s.present.set i b}:=
 ⟨⟨h.prev.st.setCell (p:=⟨p.heap.size+1,i,none⟩) (fu _) _⟩,h.st.far au _,by rw[<-Ec];exact h.pr.aF i _,h.sv.far au _,h.gr.far (by first|(simp;omega)|simp) _,by simp[h.lp],h.ls,h.lg⟩
theorem dH.am5(h:dH p w a m C s)(i:Nat)(b:Bool):dH p (w.setCell ⟨p.heap.size+1+1,i,none⟩ (.bool b)) a m C {s with saved:=s.saved.set i b}:=
 ⟨⟨h.prev.st.setCell (p:=⟨p.heap.size+1+1,i,none⟩) (by first|(simp;omega)|simp) _⟩,h.st.far (by first|(simp;omega)|simp) _,h.pr.far au _,by rw[<-Ec];exact h.sv.aF i _,h.gr.far au _,h.lp,by simp[h.ls],h.lg⟩
theorem dH.am6(h:dH p w a m C s)(i:Nat)(b:Bool):dH p (w.setCell ⟨p.heap.size+1+1+1,i,none⟩ (.bool b)) a m C {s with aT:=s.aT.set i b}:=
 ⟨⟨h.prev.st.setCell (p:=⟨p.heap.size+1+1+1,i,none⟩) (by first|(simp;omega)|simp) _⟩,h.st.far (by first|(simp;omega)|simp) _,h.pr.far (by first|(simp;omega)|simp) _,h.sv.far au _,by rw[<-Ec];exact h.gr.aF i _,h.lp,h.ls,by simp[h.lg]⟩
theorem Ua(hP:jV p a m C ss)(h:dH p w a m C s){b:Bool}(hb:Hid (wL C s=b)):Calls Tryz.prog 36 #[.pointer p.heap.size] w (aM w (.bool b)):=by
 have u:=@bf;have y:Bx w p.heap.size 108 (jW p a m C s):=⟨h.st⟩;have e:C.order.length=m:=hP.order.len.symm;have j:=hb.out;rw[wL,e]at j;clear e;go_enter Tryz.func36,Tryz.ntmps36;rcases he:s.gG with _|_
 ·obtain rfl:b=false:=by rw[<-j,he];rfl
  clear j
  go_upto_region 1 with fail
  refine bZ aj (fun l _=>?_);refine ag 0 3 ?_;refine ag 1 4 ?_;refine ag 2 5 ?_;refine ag 3 6 ?_;refine ag 4 7 ?_;refine ax 5 8 ?_;refine ax 6 9 ?_;refine ax 7 10 ?_;refine ax 8 11 ?_;refine ax 9 12 ?_;refine ax 10 13 ?_;refine ax 11 14 ?_;refine ax 12 15 ?_;refine ax 13 16 ?_;refine ax 14 17 ?_;refine ag 15 18 ?_;refine ag 16 2 ?_;refine aO ?_
  go_wp2_with fail
  go_ret;exact⟨rfl,ai _ _⟩
 ·have r:Hid (decide (s.done=(m:Int))=b):=ae (by rw[<-j,he];rfl);clear j
  go_upto_region 1 with fail
  refine bZ aj (fun l _=>?_);refine ag 0 3 ?_;refine ag 1 4 ?_;refine ag 2 5 ?_;refine ag 3 6 ?_;refine ag 4 7 ?_;refine ag 5 8 ?_;refine ag 6 9 ?_;refine ag 7 10 ?_;refine ag 8 11 ?_;refine ag 9 12 ?_;refine ag 10 13 ?_;refine ag 11 14 ?_;refine ag 12 15 ?_;refine ag 13 16 ?_;refine ag 14 17 ?_;refine ag 15 18 ?_;refine ag 16 2 ?_;refine aO ?_
  go_wp2_with fail
  go_ret;exact⟨by rw[<-r.out];try rfl,ai _ _⟩
theorem am7(h:dH p w a m C s):Calls Tryz.prog 234 #[.pointer p.heap.size] w (aM w (.int .i64 s.fE)):=by
 have b:=@bf;have e:Bx w p.heap.size 108 (jW p a m C s):=⟨h.st⟩;go_enter Tryz.func234,Tryz.ntmps234
 go_wp2_with fail
 go_ret;exact⟨rfl,⟨bq _ _⟩⟩
end
section
variable{p w w':World}{a:mZ}{m:Nat}{C:iQ}{s:di}{ss:List Sp}
theorem JI(hP:jV p a m C ss)(h:dH p w a m C s){id:Nat}(hid:id<=m){b:Bool}(hb:Hid (nL C s id=b)):Calls Tryz.prog 139 #[.pointer p.heap.size,id] w (aM w (.bool b)):=by
 obtain⟨S,T⟩:=lM;have U:Bx w p.heap.size 108 (jW p a m C s):=⟨h.st⟩;have V:=h.prev;obtain⟨AW,cW,AC,cC,AI,cI,AO,cO⟩:=a;have L:dA p AI (m+1) ss:=hP.ins;obtain⟨X,o1,Y,m1,c1,zs,rfl,M,v1,u,l1,N⟩:=L.get (k:=id) om;have B:C.ins[id]?=some zs:=by rw[<-hP.T9];exact N.out
 have e:=hP.iR zs (aK B);have O:m1<=1000:=by rw[u.len];exact e.1
 have P:Hid (m1=zs.length):=ae u.len;have D:=ae e.2;have I:Hid (zs.all (fun z=>s.present.getD z.toNat false)=b):=ae (by rw[<-hb.out,nL,aQ,B];rfl);clear B e;go_enter Tryz.func139,Tryz.ntmps139
 go_wp2_with fail
 go_loop [15] (fun i=>∃j:Nat,j<=m1/\i=.int .i64 j/\Hid ((zs.take j).all (fun z=>s.present.getD z.toNat false)=true)) (fun i=>m1-(intOf i).toNat)
 case atStart=>exact⟨0,aS _,rfl,ae rfl⟩
 case round=>
  obtain⟨j,Z,rfl,J⟩:=hrel;by_cases E:j<m1
  ·obtain⟨b2,q2,z,rfl,Q,vz,F⟩:=u.get E;have r:=D.out z (aK F.out);obtain⟨y,rfl⟩:=eF r.1;have R:y<m+1:=om;obtain⟨K,l⟩:∃x,s.present[y]?=some x:=⟨_,aW (by rw[h.lp];exact R)⟩;have hc:=(h.pr.cell y).trans (iN l);have hg:s.present.getD ((y:Int)).toNat false=K:=by rw[dD,aQ,l];rfl
   clear l r;rcases K with _|_
   ·obtain rfl:b=false:=by
     rw[<-I.out,Fe];exact⟨_,aK F.out,by rw[hg];simp⟩
    clear hg
    go_wp2_with fail
    go_ret;exact⟨rfl,⟨bq _ _⟩⟩
   ·have G:Hid ((zs.take (j+1)).all (fun z=>s.present.getD z.toNat false)=true):=ae (by rw[take_at F.out,LF,J.out,WI,hg];rfl);clear hg
    go_wp2_with fail
    go_round
    case rel=>exact⟨j+1,om,by go_num,G⟩
    case measure=>simp[intOf];omega
  ·obtain rfl:b=true:=by rw[<-I.out];have:=J.out;rwa[dB (by rw[<-P.out];omega)]at this
   go_wp2_with fail
   go_ret;exact⟨rfl,⟨bq _ _⟩⟩
end
def iD(G:List Bool):List Int->List Int->List Int
 |[],l=>l
 |z::t,l=>iD G t (if z≠0/\G.getD z.toNat false=false/\l.contains z=false then l++[z]else l)
def jA(C:iQ)(s:di)(id:Nat):List Int:=iD s.aT (C.ins.getD id []) []
section
variable{p w w':World}{a:mZ}{m:Nat}{C:iQ}{s:di}{ss:List Sp}
theorem abA(hP:jV p a m C ss)(h:dH p w a m C s){id:Nat}(hid:id<=m){F:List Int}(hF:Hid (jA C s id=F)):Calls Tryz.prog 89 #[.pointer p.heap.size,id] w (Iu w F):=by
 obtain⟨CB,CP⟩:=lM;have kS:Bx w p.heap.size 108 (jW p a m C s):=⟨h.st⟩;have pp:=h.prev;obtain⟨AW,cW,AC,cC,AI,cI,AO,cO⟩:=a;have U:dA p AI (m+1) ss:=hP.ins;obtain⟨b1,o1,A1,m1,c1,zs,rfl,V,v1,K,l1,Y⟩:=U.get (k:=id) om;have L:C.ins[id]?=some zs:=by rw[<-hP.T9];exact Y.out
 have r:=hP.iR zs (aK L);have Z:m1<=1000:=by rw[K.len];exact r.1
 have HL:Hid (m1=zs.length):=ae K.len;have M:=ae r.2;have E:Hid (iD s.aT zs []=F):=ae (by rw[<-hF.out,jA,aQ,L];rfl);clear L r;go_enter Tryz.func89,Tryz.ntmps89
 go_wp2_with fail
 go_loopw [5,16] (fun t i wr=>∃(j:Nat) (A':Option Addr) (c':Nat) (X:List Int),j<=m1/\i=.int .i64 j/\t=.slice A' X.length c'/\X.length<=j/\aG wr w.heap.size 3 A' c' X/\Hid (iD s.aT (zs.drop j) X=F)/\ak wr w) (fun _ i _=>m1-(intOf i).toNat)
 case atStart=>exact⟨0,none,0,[],aS _,rfl,rfl,az _,aG.nil _ _ _,E,⟨bq _ _⟩⟩
 case round=>
  clear E;obtain⟨j,A',c',X,hj,rfl,rfl,hXl,hO,E,hp⟩:=hrel;have hS:=h.at (w':=wr);by_cases N:j<m1
  ·obtain⟨b2,q2,z,rfl,jT,S,T⟩:=K.get N;have G:=M.out z (aK T.out);obtain⟨y,rfl⟩:=eF G.1;have hy:y<m+1:=om;obtain⟨O,B⟩:∃x,s.aT[y]?=some x:=⟨_,aW (by rw[h.lg];exact hy)⟩;have hc:=(hS.gr.cell y).trans (iN B);have hg:s.aT.getD ((y:Int)).toNat false=O:=by rw[dD,aQ,B];rfl
   have l:Hid (iD s.aT (zs.drop (j+1)) (if(y:Int)≠0/\O=false/\X.contains (y:Int)=false then X++[(y:Int)]else X)=F):=ae (by
    obtain⟨h1,h2⟩:=aY.1 T.out;have:=E.out;rw[jE h1,h2,iD,hg]at this;exact this)
   have sX:Sl wr A' X.length X:=⟨hO.rd,rfl⟩;clear B G hg hS;by_cases J:y=0
   ·subst J;have b:Hid (iD s.aT (zs.drop (j+1)) X=F):=ae (by have:=l.out;rwa[if_neg (fun h=>h.1 rfl)]at this);have P:=S;rw[show((0:Nat):Int)=0 from rfl]at P;clear l S hc
    go_wp2_with fail
    go_roundw
    case rel=>exact⟨j+1,A',c',X,om,by go_num,rfl,om,hO.at,b,ai _ _⟩
    case measure=>simp[intOf];omega
   ·have b0:((y:Int) !=0)=true:=by simp;omega
    rcases O with _|_
    ·obtain⟨cb,D⟩:=lh (X.contains (y:Int));have I:=ae D;rw[D]at l;clear D;rcases cb with _|_
     ·have b:Hid (iD s.aT (zs.drop (j+1)) (X++[(y:Int)])=F):=ae (by have:=l.out;rwa[if_pos ⟨om,rfl,rfl⟩]at this);clear l J
      go_wp2_with (first|(go_at_call 140;refine(Yg om I).mono ?_;rintro e u ⟨rfl,_⟩)|(at_builtin;refine Ie rfl _ _ _ rfl 3 Tryz.underlying24 aj w.heap.size A' c' X rfl hO.at (y:Int) rfl om aH ?_;intro A3 c3 w3 Q R _ _))
      go_roundw
      case rel=>exact⟨j+1,A3,c3,_,om,by go_num,au,by simp;omega,Q,b,⟨(aL w u).trans R⟩⟩
      case measure=>simp[intOf];omega
     ·have b:Hid (iD s.aT (zs.drop (j+1)) X=F):=ae (by have:=l.out;rwa[if_neg (fun h=>by cases h.2.2)]at this);clear l J
      go_wp2_with (go_at_call 140;refine(Yg om I).mono ?_;rintro e u ⟨rfl,_⟩)
      go_roundw
      case rel=>exact⟨j+1,A',c',X,om,by go_num,rfl,om,hO.at,b,ai _ _⟩
      case measure=>simp[intOf];omega
    ·have b:Hid (iD s.aT (zs.drop (j+1)) X=F):=ae (by have:=l.out;rwa[if_neg (fun h=>by cases h.2.1)]at this);clear l J
     go_wp2_with fail
     go_roundw
     case rel=>exact⟨j+1,A',c',X,om,by go_num,rfl,om,hO.at,b,ai _ _⟩
     case measure=>simp[intOf];omega
  ·have hx:X=F:=by have:=E.out;rwa[kL (by rw[<-HL.out];omega)]at this
   subst hx
   go_wp2_with fail
   go_ret;exact⟨A',c',rfl,hO.at,ai _ _⟩
end
def bK(C:iQ)(s:di)(b:Int)(id:Nat):Int:=
 if b=1\/b=2 then C.words.getD id 0 else if b=5 then C.words.getD C.jl 0 else if b=6 then((jA C s id).map fun z=>C.words.getD z.toNat 0).sum else 0
section
variable{p w w':World}{a:mZ}{m:Nat}{C:iQ}{s:di}{ss:List Sp}
theorem abB(hP:jV p a m C ss)(h:dH p w a m C s){id:Nat}(hid:id<=m){b:Int}(e:b=1\/b=2){V:Int}(hV:Hid (bK C s b id=V)):Calls Tryz.prog 88 #[.pointer p.heap.size,.agg #[b,id]] w (aM w (.int .i64 V)):=by
 obtain⟨y,B⟩:=lM;have D:Bx w p.heap.size 108 (jW p a m C s):=⟨h.st⟩;have E:=h.prev;obtain⟨AW,cW,AC,cC,AI,cI,AO,cO⟩:=a;have l:Sl p AW (m+1) C.words:=hP.words;obtain⟨F,o1,z,rfl,r,v1,u⟩:=l.get (k:=id) om;obtain rfl:z=V:=by rw[<-hV.out,bK,if_pos e,xZ u.out]
 have j:(id:Int)<(m:Int)+1:=by omega
 go_enter Tryz.func88,Tryz.ntmps88;rcases e with rfl|rfl
 all_goals
  go_upto_region 4 with fail
  refine bZ aj (fun G _=>?_);refine ag 0 13 ?_;refine ag 1 14 ?_;refine ag 2 15 ?_;refine ag 3 16 ?_;refine ag 4 17 ?_;refine ag 5 18 ?_;refine ag 6 19 ?_;refine ag 7 20 ?_;refine ag 8 4 ?_;refine aO ?_
  go_wp2_with fail
  go_ret;exact⟨rfl,ai _ _⟩
theorem am8(hP:jV p a m C ss)(h:dH p w a m C s){id:Int}{V:Int}(hV:Hid (bK C s 5 0=V)):Calls Tryz.prog 88 #[.pointer p.heap.size,.agg #[(5:Int),id]] w (aM w (.int .i64 V)):=by
 obtain⟨r,u⟩:=lM;have y:Bx w p.heap.size 108 (jW p a m C s):=⟨h.st⟩;have B:=h.prev;obtain⟨AW,cW,AC,cC,AI,cI,AO,cO⟩:=a;have D:=hP.jl;have b:(C.jl:Int)<(m:Int)+1:=by omega
 have e:Sl p AW (m+1) C.words:=hP.words;obtain⟨E,o1,z,rfl,j,v1,l⟩:=e.get (k:=C.jl) om;obtain rfl:z=V:=by rw[<-hV.out,bK,if_neg om,if_pos rfl,xZ l.out]
 go_enter Tryz.func88,Tryz.ntmps88
 go_upto_region 6 with fail
 refine bZ aj (fun F _=>?_);refine ag 0 23 ?_;refine ag 1 24 ?_;refine ag 2 25 ?_;refine ag 3 26 ?_;refine ag 4 27 ?_;refine ag 5 28 ?_;refine ag 6 29 ?_;refine ag 7 30 ?_;refine ag 8 31 ?_;refine ag 9 32 ?_;refine ag 10 4 ?_;refine aO ?_
 go_wp2_with fail
 go_ret;exact⟨rfl,ai _ _⟩
theorem abC{id:Int}{b:Int}(e:b=3\/b=4){P:Value}:Calls Tryz.prog 88 #[P,.agg #[b,id]] w (aM w (.int .i64 0)):=by
 have j:=@bf;go_enter Tryz.func88,Tryz.ntmps88;rcases e with rfl|rfl
 all_goals
  go_wp2_with fail
  go_ret;exact⟨rfl,ai _ _⟩
end
theorem Ub(G:List Bool):∀(zs l:List Int),∀x∈iD G zs l,x∈zs\/x∈l
 |[],_,_,h=>.inr h
 |z::t,l,x,h=>by
  rw[iD]at h;rcases Ub G t _ x h with h|h
  ·exact .inl (fI _ h)
  ·split at h
   ·rcases dP.1 h with h|h
    ·exact .inr h
    ·exact .inl (by rw[gm.1 h];exact dN)
   ·exact .inr h
theorem Uc(G:List Bool):∀(zs l:List Int),(iD G zs l).length<=l.length+zs.length
 |[],_=>by simp[iD]
 |z::t,l=>by
  rw[iD];refine aZ (Uc G t _) ?_
  split<;>first|(simp;done)|(simp;omega)
section
variable{p w w':World}{a:mZ}{m:Nat}{C:iQ}{s:di}{ss:List Sp}
theorem abD{L:List Int}{b:Int}(h:∀z∈L,0<=z/\z<=b):0<=L.sum/\L.sum<=(L.length:Int)*b:=by
 induction L with
 |nil=>simp
 |cons z t e=>
  have l:=h z dN;have r:=e fun x j=>h x (fI _ j);rw[jR,iJ,mF,xh];omega
theorem am9(hP:jV p a m C ss)(h:dH p w a m C s){id:Nat}(hid:id<=m){V:Int}(hV:Hid (bK C s 6 id=V)):Calls Tryz.prog 88 #[.pointer p.heap.size,.agg #[(6:Int),id]] w (aM w (.int .i64 V)):=by
 obtain⟨CB,CP⟩:=lM;have pp:=h.prev;obtain⟨F,hF⟩:=lh (jA C s id);have Z:=ae hF;have HV:Hid ((F.map fun z=>C.words.getD z.toNat 0).sum=V):=ae (by rw[<-hV.out,bK,if_neg om,if_neg om,if_pos rfl,hF]);have B:id<C.ins.length:=by rw[<-hP.T9,jM,<-hP.ins.len];omega
 have l:C.ins.getD id []∈C.ins:=by rw[aQ,aW B];exact uA _
 have hFl:F.length<=1000:=by
  have T:=Uc s.aT (C.ins.getD id []) [];have h2:=(hP.iR _ l).1;rw[<-hF];rw[E8,fo]at T;exact aZ T h2
 have K:Hid (∀z∈F,0<=z/\z<=m):=ae fun z U=>by
  rw[<-hF]at U;rcases Ub _ _ _ z U with h|h
  ·exact(hP.iR _ l).2 z h
  ·cases h
 have M:C.words.length=m+1:=hP.words.len.symm;have G:Hid (∀y:Nat,0<=C.words.getD y 0/\C.words.getD y 0<=1099511627776):=ae fun y=>by
  rw[aQ];rcases N:C.words[y]? with _|z
  ·simp
  ·exact hP.wb z (aK N)
 clear hF B l M;go_enter Tryz.func88,Tryz.ntmps88
 go_wp2_with (go_at_call 89;(with_reducible refine qZ (fun u0 _ _=>?_));(with_reducible refine(abA hP (h.at (w':=u0)) hid Z).mono ?_);rintro e u ⟨AF,cF,rfl,oF,_⟩)
 have sF:Sl u AF F.length F:=⟨oF.rd,rfl⟩;have hS:=h.at (w':=u);have kS:Bx u p.heap.size 108 (jW p a m C s):=⟨hS.st⟩;obtain⟨AW,cW,AC,cC,AI,cI,AO,cO⟩:=a;have sW:Sl p AW (m+1) C.words:=hP.words
 go_loop [5,40] (fun t i=>∃j:Nat,j<=F.length/\i=.int .i64 j/\t=.int .i64 ((F.take j).map fun z=>C.words.getD z.toNat 0).sum) (fun _ i=>F.length-(intOf i).toNat)
 case atStart=>exact⟨0,aS _,rfl,rfl⟩
 case round=>
  obtain⟨j,hj,rfl,rfl⟩:=hrel;have O:=abD (L:=(F.take j).map fun z=>C.words.getD z.toNat 0) (b:=1099511627776) (fun x hx=>by
   obtain⟨y,_,rfl⟩:=dG.1 hx;exact G.out _)
  have P:((F.take j).map fun z=>C.words.getD z.toNat 0).length<=1000:=by simp;omega
  obtain⟨S,r⟩:=lh (((F.take j).map fun z=>C.words.getD z.toNat 0).sum);obtain⟨sl,D⟩:=lh (((F.take j).map fun z=>C.words.getD z.toNat 0).length);rw[r,D]at O;rw[D]at P;rw[r];have I:=ae r;clear r D;by_cases Q:j<F.length
  ·obtain⟨b2,q2,z,rfl,jT,vz,X⟩:=sF.get Q;have J:=K.out z (aK X.out);obtain⟨y,rfl⟩:=eF J.1;have N:y<m+1:=om;obtain⟨b3,q3,Y,rfl,Sz,vw,ew⟩:=sW.get N;have E:C.words.getD y 0=Y:=xZ ew.out;have R:=G.out y;rw[E]at R;have HT:Hid (((F.take (j+1)).map fun z=>C.words.getD z.toNat 0).sum=S+Y):=ae (by rw[take_at X.out,gV,E5,I.out,fe,lG,jR,List.sum_nil,dD,E,LX]);clear E J
   go_wp2_with fail
   go_round
   case rel=>exact⟨j+1,om,by go_num,by rw[HT.out]⟩
   case measure=>simp[intOf];omega
  ·obtain rfl:S=V:=by rw[<-HV.out,<-I.out,dB om]
   go_wp2_with fail
   go_ret;exact⟨rfl,ai _ _⟩
end
section
variable{p w w':World}{a:mZ}{m:Nat}{C:iQ}{s s':di}
theorem dH.Et(h:dH p w a m C s){i:Nat}{v:Value}(l:(jW p a m C s).setIfInBounds i v=jW p a m C s')(b:s'.present=s.present)(e:s'.saved=s.saved)(j:s'.aT=s.aT):dH p (w.setCell ⟨p.heap.size,i,none⟩ v) a m C s':=
 ⟨⟨h.prev.st.setCell (p:=⟨p.heap.size,i,none⟩) (az _) _⟩,by rw[<-l];exact h.st.aF i v,by rw[b];exact h.pr.far au _,by rw[e];exact h.sv.far bD _,by rw[j];exact h.gr.far bD _,by rw[b];exact h.lp,by rw[e];exact h.ls,by rw[j];exact h.lg⟩
theorem dH.anb(h:dH p w a m C s)(b:Bool):dH p (w.setCell ⟨p.heap.size,9,none⟩ (.bool b)) a m C {s with gG:=b}:=h.Et rfl rfl rfl rfl
theorem dH.anc(h:dH p w a m C s)(b:Bool):dH p (w.setCell ⟨p.heap.size,10,none⟩ (.bool b)) a m C {s with gu:=b}:=h.Et rfl rfl rfl rfl
theorem dH.ane(h:dH p w a m C s)(z:Int):dH p (w.setCell ⟨p.heap.size,11,none⟩ (.int .i64 z)) a m C {s with done:=z}:=h.Et rfl rfl rfl rfl
theorem dH.anf(h:dH p w a m C s)(z:Int):dH p (w.setCell ⟨p.heap.size,12,none⟩ (.int .i64 z)) a m C {s with now:=z}:=h.Et rfl rfl rfl rfl
theorem dH.ang(h:dH p w a m C s)(z:Int):dH p (w.setCell ⟨p.heap.size,13,none⟩ (.int .i64 z)) a m C {s with fE:=z}:=h.Et rfl rfl rfl rfl
def fV(C:iQ)(s:di)(b:Int)(id:Nat):Bool:=
 if b=1 then !s.saved.getD id false&&nL C s id
 else if b=2 then s.saved.getD id false&& !s.present.getD id false&&nL C s id
 else if b=3 then s.present.getD id false
 else if b=4 then s.present.getD C.jl false&& !s.gG
 else if b=5 then !s.gu
 else s.aT.getD id false&&nL C s id&&decide (s.done<(C.order.length:Int))&&(C.order.getD ((C.order.length:Int)-1-s.done).toNat 0==(id:Int))
end
section
variable{p w w':World}{a:mZ}{m:Nat}{C:iQ}{s:di}{ss:List Sp}
theorem lq{L:List Bool}{i n:Nat}(j:L.length=n)(h:i<n):∃b,L[i]?=some b/\L.getD i false=b:=by
 have e:L[i]?=some (L[i]'om):=aW _;exact⟨_,e,by rw[aQ,e];rfl⟩
theorem anh(hP:jV p a m C ss)(h:dH p w a m C s){id:Nat}(hid:id<=m){b:Bool}(hb:Hid (fV C s 3 id=b)):Calls Tryz.prog 87 #[.pointer p.heap.size,.agg #[(3:Int),id]] w (aM w (.bool b)):=by
 have u:=@bf;have y:Bx w p.heap.size 108 (jW p a m C s):=⟨h.st⟩;obtain⟨r,e,j⟩:=lq h.lp (show id<m+1 by omega);obtain rfl:r=b:=by rw[<-hb.out,fV];simp only[j];rfl
 have z:Bx w (p.heap.size+1) 4 (dL s.present):=⟨h.pr⟩;have hg:=iN e;have l:(id:Int)<(m:Int)+1:=by omega
 clear e j;go_enter Tryz.func87,Tryz.ntmps87
 go_wp2_with fail
 go_ret;exact⟨rfl,ai _ _⟩
theorem ani(h:dH p w a m C s){id:Int}{b:Bool}(hb:Hid (fV C s 5 0=b)):Calls Tryz.prog 87 #[.pointer p.heap.size,.agg #[(5:Int),id]] w (aM w (.bool b)):=by
 have e:=@bf;have j:Bx w p.heap.size 108 (jW p a m C s):=⟨h.st⟩;obtain rfl:(!s.gu)=b:=by rw[<-hb.out];rfl
 go_enter Tryz.func87,Tryz.ntmps87
 go_wp2_with fail
 go_ret;exact⟨rfl,ai _ _⟩
theorem anj(hP:jV p a m C ss)(h:dH p w a m C s){id:Nat}(hid:id<=m){b:Bool}(hb:Hid (fV C s 1 id=b)):Calls Tryz.prog 87 #[.pointer p.heap.size,.agg #[(1:Int),id]] w (aM w (.bool b)):=by
 have G:=@bf;have I:Bx w p.heap.size 108 (jW p a m C s):=⟨h.st⟩;obtain⟨y,z,B⟩:=lq h.ls (show id<m+1 by omega);obtain⟨D,j⟩:=lh (nL C s id);have l:(!y&&D)=b:=by rw[<-hb.out,fV];simp only[B,j];rfl
 have r:=ae j;have J:Bx w (p.heap.size+1+1) 4 (dL s.saved):=⟨h.sv⟩;have hg:=iN z;have E:(id:Int)<(m:Int)+1:=by omega
 clear z B j;go_enter Tryz.func87,Tryz.ntmps87;rcases y with _|_
 ·obtain rfl:D=b:=by rw[<-l];rfl
  clear l
  go_wp2_with (go_at_call 139;(with_reducible refine qZ (fun F _ _=>?_));(with_reducible refine(JI hP (h.at (w':=F)) hid r).mono ?_);rintro e u ⟨rfl,_⟩)
  go_ret;exact⟨rfl,ai _ _⟩
 ·obtain rfl:b=false:=by rw[<-l];rfl
  clear l
  go_wp2_with fail
  go_ret;exact⟨rfl,ai _ _⟩
end
section
variable{p w w':World}{a:mZ}{m:Nat}{C:iQ}{s:di}{ss:List Sp}
theorem ank(hP:jV p a m C ss)(h:dH p w a m C s){id:Nat}(hid:id<=m){b:Bool}(hb:Hid (fV C s 2 id=b)):Calls Tryz.prog 87 #[.pointer p.heap.size,.agg #[(2:Int),id]] w (aM w (.bool b)):=by
 have L:=@bf;have M:Bx w p.heap.size 108 (jW p a m C s):=⟨h.st⟩;obtain⟨y,z,B⟩:=lq h.ls (show id<m+1 by omega);obtain⟨D,E,F⟩:=lq h.lp (show id<m+1 by omega);obtain⟨G,j⟩:=lh (nL C s id);have l:(y&& !D&&G)=b:=by rw[<-hb.out,fV];simp only[B,F,j];rfl
 have r:=ae j;have N:Bx w (p.heap.size+1+1) 4 (dL s.saved):=⟨h.sv⟩;have O:Bx w (p.heap.size+1) 4 (dL s.present):=⟨h.pr⟩;have hg:=iN z;have J:=iN E;have I:(id:Int)<(m:Int)+1:=by omega
 clear z B E F j;go_enter Tryz.func87,Tryz.ntmps87;rcases y with _|_
 ·obtain rfl:b=false:=by rw[<-l];rfl
  clear l
  go_wp2_with fail
  go_ret;exact⟨rfl,ai _ _⟩
 ·rcases D with _|_
  ·obtain rfl:G=b:=by rw[<-l];rfl
   clear l
   go_wp2_with (go_at_call 139;(with_reducible refine qZ (fun K _ _=>?_));(with_reducible refine(JI hP (h.at (w':=K)) hid r).mono ?_);rintro e u ⟨rfl,_⟩)
   go_ret;exact⟨rfl,ai _ _⟩
  ·obtain rfl:b=false:=by rw[<-l];rfl
   clear l
   go_wp2_with fail
   go_ret;exact⟨rfl,ai _ _⟩
theorem anl(hP:jV p a m C ss)(h:dH p w a m C s){id:Int}{b:Bool}(hb:Hid (fV C s 4 0=b)):Calls Tryz.prog 87 #[.pointer p.heap.size,.agg #[(4:Int),id]] w (aM w (.bool b)):=by
 have B:=@bf;have D:Bx w p.heap.size 108 (jW p a m C s):=⟨h.st⟩;have E:=hP.jl;obtain⟨j,l,r⟩:=lq h.lp (show C.jl<m+1 by omega);have e:(j&& !s.gG)=b:=by rw[<-hb.out,fV];simp only[r];rfl
 have F:Bx w (p.heap.size+1) 4 (dL s.present):=⟨h.pr⟩;have u:=iN l;have y:(C.jl:Int)<(m:Int)+1:=by omega
 clear l r;go_enter Tryz.func87,Tryz.ntmps87;rcases j with _|_
 ·obtain rfl:b=false:=by rw[<-e];rfl
  clear e
  go_upto_region 10 with fail
  refine bZ aj (fun z _=>?_);refine ag 0 60 ?_;refine ag 1 61 ?_;refine ag 2 62 ?_;refine ag 3 63 ?_;refine ag 4 64 ?_;refine ag 5 65 ?_;refine ag 6 66 ?_;refine ag 7 67 ?_;refine ag 8 68 ?_;refine ag 9 69 ?_;refine ag 10 70 ?_;refine ax 11 71 ?_;refine ax 12 72 ?_;refine ax 13 73 ?_;refine ax 14 74 ?_;refine ax 15 75 ?_;refine ag 16 76 ?_;refine ag 17 4 ?_;refine aO ?_
  go_wp2_with fail
  go_ret;exact⟨rfl,ai _ _⟩
 ·obtain rfl:(!s.gG)=b:=by rw[<-e];rfl
  clear e
  go_upto_region 10 with fail
  refine bZ aj (fun z _=>?_);refine ag 0 60 ?_;refine ag 1 61 ?_;refine ag 2 62 ?_;refine ag 3 63 ?_;refine ag 4 64 ?_;refine ag 5 65 ?_;refine ag 6 66 ?_;refine ag 7 67 ?_;refine ag 8 68 ?_;refine ag 9 69 ?_;refine ag 10 70 ?_;refine ag 11 71 ?_;refine ag 12 72 ?_;refine ag 13 73 ?_;refine ag 14 74 ?_;refine ag 15 75 ?_;refine ag 16 76 ?_;refine ag 17 4 ?_;refine aO ?_
  go_wp2_with fail
  go_ret;exact⟨rfl,ai _ _⟩
end
section
variable{p w w':World}{a:mZ}{m:Nat}{C:iQ}{s:di}{ss:List Sp}
theorem anm(hP:jV p a m C ss)(h:dH p w a m C s){id:Nat}(hid:id<=m)(b:s.aT.getD id false=false):Calls Tryz.prog 87 #[.pointer p.heap.size,.agg #[(6:Int),id]] w (aM w (.bool false)):=by
 have y:=@bf;have z:Bx w p.heap.size 108 (jW p a m C s):=⟨h.st⟩;obtain⟨r,e,j⟩:=lq h.lg (show id<m+1 by omega);obtain rfl:r=false:=by rw[<-j];exact b
 have B:Bx w (p.heap.size+1+1+1) 4 (dL s.aT):=⟨h.gr⟩;have u:=iN e;have l:(id:Int)<(m:Int)+1:=by omega
 clear e j b;go_enter Tryz.func87,Tryz.ntmps87
 go_upto_region 14 with fail
 refine bZ aj (fun D _=>?_);refine ag 0 86 ?_;refine ag 1 87 ?_;refine ag 2 88 ?_;refine ag 3 89 ?_;refine ag 4 90 ?_;refine ag 5 91 ?_;refine ag 6 92 ?_;refine ag 7 93 ?_;refine ax 8 94 ?_;refine ax 9 95 ?_;refine ax 10 96 ?_;refine ag 11 97 ?_;refine ag 12 98 ?_;refine ax 13 99 ?_;refine ax 14 100 ?_;refine ax 15 101 ?_;refine ax 16 102 ?_;refine ax 17 103 ?_;refine ax 18 104 ?_;refine ax 19 105 ?_;refine ax 20 106 ?_;refine ax 21 107 ?_;refine ax 22 108 ?_;refine ag 23 109 ?_;refine ag 24 110 ?_;refine ax 25 111 ?_;refine ax 26 112 ?_;refine ax 27 113 ?_;refine ax 28 114 ?_;refine ax 29 115 ?_;refine ax 30 116 ?_;refine ax 31 117 ?_;refine ax 32 118 ?_;refine ax 33 119 ?_;refine ax 34 120 ?_;refine ax 35 121 ?_;refine ax 36 122 ?_;refine ax 37 123 ?_;refine ax 38 124 ?_;refine ax 39 125 ?_;refine ax 40 126 ?_;refine ax 41 127 ?_;refine ax 42 128 ?_;refine ax 43 129 ?_;refine ag 44 130 ?_;refine ag 45 4 ?_;refine aO ?_
 go_wp2_with fail
 go_ret;exact⟨rfl,ai _ _⟩
theorem ann(hP:jV p a m C ss)(h:dH p w a m C s){id:Nat}(hid:id<=m)(j:s.aT.getD id false=true)(b:Hid (nL C s id=false)):Calls Tryz.prog 87 #[.pointer p.heap.size,.agg #[(6:Int),id]] w (aM w (.bool false)):=by
 have D:=@bf;have E:Bx w p.heap.size 108 (jW p a m C s):=⟨h.st⟩;obtain⟨y,l,r⟩:=lq h.lg (show id<m+1 by omega);obtain rfl:y=true:=by rw[<-r];exact j
 have F:Bx w (p.heap.size+1+1+1) 4 (dL s.aT):=⟨h.gr⟩;have z:=iN l;have u:(id:Int)<(m:Int)+1:=by omega
 clear l r j;go_enter Tryz.func87,Tryz.ntmps87
 go_upto_region 14 with fail
 refine bZ aj (fun B _=>?_);refine ag 0 86 ?_;refine ag 1 87 ?_;refine ag 2 88 ?_;refine ag 3 89 ?_;refine ag 4 90 ?_;refine ag 5 91 ?_;refine ag 6 92 ?_;refine ag 7 93 ?_;refine ag 8 94 ?_;refine ag 9 95 ?_;refine ay 10 fun K hK=>?_;go_simp
 (with_reducible refine(JI hP h.at hid b).mono ?_)
 rintro e B ⟨rfl,_⟩;dsimp only;refine av hK ?_;clear hK K;refine ag 11 97 ?_;refine ag 12 98 ?_;refine ax 13 99 ?_;refine ax 14 100 ?_;refine ax 15 101 ?_;refine ax 16 102 ?_;refine ax 17 103 ?_;refine ax 18 104 ?_;refine ax 19 105 ?_;refine ax 20 106 ?_;refine ax 21 107 ?_;refine ax 22 108 ?_;refine ag 23 109 ?_;refine ag 24 110 ?_;refine ax 25 111 ?_;refine ax 26 112 ?_;refine ax 27 113 ?_;refine ax 28 114 ?_;refine ax 29 115 ?_;refine ax 30 116 ?_;refine ax 31 117 ?_;refine ax 32 118 ?_;refine ax 33 119 ?_;refine ax 34 120 ?_;refine ax 35 121 ?_;refine ax 36 122 ?_;refine ax 37 123 ?_;refine ax 38 124 ?_;refine ax 39 125 ?_;refine ax 40 126 ?_;refine ax 41 127 ?_;refine ax 42 128 ?_;refine ax 43 129 ?_;refine ag 44 130 ?_;refine ag 45 4 ?_;refine aO ?_
 go_wp2_with fail
 go_ret;exact⟨rfl,ai _ _⟩
end
section
variable{p w w':World}{a:mZ}{m:Nat}{C:iQ}{s:di}{ss:List Sp}
theorem ano(hP:jV p a m C ss)(h:dH p w a m C s){id:Nat}(hid:id<=m)(j:s.aT.getD id false=true)(b:Hid (nL C s id=true))(hd:¬s.done<(m:Int)):Calls Tryz.prog 87 #[.pointer p.heap.size,.agg #[(6:Int),id]] w (aM w (.bool false)):=by
 have D:=@bf;have E:Bx w p.heap.size 108 (jW p a m C s):=⟨h.st⟩;obtain⟨y,l,r⟩:=lq h.lg (show id<m+1 by omega);obtain rfl:y=true:=by rw[<-r];exact j
 have F:Bx w (p.heap.size+1+1+1) 4 (dL s.aT):=⟨h.gr⟩;have z:=iN l;have u:(id:Int)<(m:Int)+1:=by omega
 clear l r j;go_enter Tryz.func87,Tryz.ntmps87
 go_upto_region 14 with fail
 refine bZ aj (fun B _=>?_);refine ag 0 86 ?_;refine ag 1 87 ?_;refine ag 2 88 ?_;refine ag 3 89 ?_;refine ag 4 90 ?_;refine ag 5 91 ?_;refine ag 6 92 ?_;refine ag 7 93 ?_;refine ag 8 94 ?_;refine ag 9 95 ?_;refine ay 10 fun K hK=>?_;go_simp
 (with_reducible refine(JI hP h.at hid b).mono ?_)
 rintro e B ⟨rfl,_⟩;dsimp only;refine av hK ?_;clear hK K;refine ag 11 97 ?_;refine ag 12 98 ?_;refine ag 13 99 ?_;refine ag 14 100 ?_;refine ag 15 101 ?_;refine ag 16 102 ?_;refine ag 17 103 ?_;refine ag 18 104 ?_;refine ag 19 105 ?_;refine ag 20 106 ?_;refine ag 21 107 ?_;refine ag 22 108 ?_;refine ag 23 109 ?_;refine ag 24 110 ?_;refine ax 25 111 ?_;refine ax 26 112 ?_;refine ax 27 113 ?_;refine ax 28 114 ?_;refine ax 29 115 ?_;refine ax 30 116 ?_;refine ax 31 117 ?_;refine ax 32 118 ?_;refine ax 33 119 ?_;refine ax 34 120 ?_;refine ax 35 121 ?_;refine ax 36 122 ?_;refine ax 37 123 ?_;refine ax 38 124 ?_;refine ax 39 125 ?_;refine ax 40 126 ?_;refine ax 41 127 ?_;refine ax 42 128 ?_;refine ax 43 129 ?_;refine ag 44 130 ?_;refine ag 45 4 ?_;refine aO ?_
 go_wp2_with fail
 go_ret;exact⟨rfl,ai _ _⟩
end
end Go.Proofs.YtmkjnlifimffkaaGreat
