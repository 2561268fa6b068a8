/- Lemmas. No condition. -/
import Derived.RangeFuncNested
import Derived.RangeFuncBound
import Derived.RangeFuncCalls
import Derived.RangeFuncLeaves
import Derived.OwnWalkIn
import Derived.TacticsInMore
import Derived.LoopNIn
import Derived.LoopIn
import Derived.Test.YtmkjnlifimffkaaGreatS14
namespace Go.Proofs.YtmkjnlifimffkaaGreat
open Go.RowKit
set_option linter.all false
set_option maxRecDepth 100000
set_option maxHeartbeats 16000000
theorem aiK{P:Program}(t:TypeId)(ht:P.underlying t=some (.slice (P.elem t)))(hs:(P.info? (P.elem t)).map (·.size)=some 1)(b off m d lo:Nat)(l:lo<=m)(r:lo<d):
  ∀w,(Instr.slice t (.slice (some ⟨b,off,none⟩) m d) (some (.int .i64 (lo:Int))) none none).run P w=.ok (.slice (some ⟨b,off+lo,none⟩) (m-lo) (d-lo)) w:=by
 intro w;rw[j4 w t _ m d ht .i64 lo om om,DL hs];have e:d≠lo:=om;by_cases j:lo=0
 ·subst j;simp[Result.andThen,sliced,Addr.add,e]
 ·simp[Result.andThen,sliced,Addr.add,e,j]
def DT(b xs:List Int):Bool:=aU b&&aU xs&&decide (2<=xs.length)&&decide (xs.length<=3)&&decide (b.length=xs.length+1)&&decide (b.getD 1 0=xs.getD 0 0)
def DU(b xs:List Int)(S:Int)(i:Nat):Bool:=sN (xs.getD (i+1) 0) (b.getD (i+2) 0) S
def Aq(b xs:List Int)(S:Int)(k:Nat):List Int:=(List.range k).map fun i=>sQ (xs.getD (i+1) 0) (b.getD (i+2) 0) S
def I1(b xs:List Int)(S:Int):List Int:=b.getD 0 0::Aq b xs S (xs.length-1)
def DV(b xs:List Int)(S:Int):Bool:=(List.range (xs.length-1)).all fun i=>DU b xs S i
def rE(b xs:List Int)(S:Int):Int:=if DT b xs then(if DV b xs S then(if aU (I1 b xs S)then 0 else 20)else 11)else 20
def xG(b xs:List Int)(S:Int):List Int:=if rE b xs S=0 then I1 b xs S else[]
section
variable{ws xs:List Int}{S:Int}
theorem aiL(k:Nat):Aq ws xs S (k+1)=Aq ws xs S k++[sQ (xs.getD (k+1) 0) (ws.getD (k+2) 0) S]:=by simp[Aq,vM]
theorem aiM(k:Nat):(Aq ws xs S k).length=k:=by simp[Aq]
theorem aiN{i:Nat}(hi:i<xs.length-1)(h:DU ws xs S i=false):DV ws xs S=false:=by
 rcases e:DV ws xs S with _|_
 ·rfl
 ·rw[DV,fK]at e;rw[e i (yF.2 hi)]at h;cases h
theorem aiO(h:∀i,i<xs.length-1->DU ws xs S i=true):DV ws xs S=true:=by
 rw[DV,fK];exact fun i hi=>h i (yF.1 hi)
theorem aiP(h:DT ws xs=false):rE ws xs S=20/\xG ws xs S=[]:=by
 have:rE ws xs S=20:=by rw[rE,h];rfl
 exact⟨this,by rw[xG,this];rfl⟩
end
section
variable{w:World}{A B:Option Addr}{n m c d:Nat}{ws xs:List Int}
theorem Y6{a b c:Int}{v e:Int}(hv:Hid (sQ a b c=v))(j:Hid (mI a b c=e)):Calls Tryz.prog 190 #[a,b,c] w (aM w (.tuple #[v,e])):=by
 rw[<-hv.out,<-j.out];exact BH (Xd a b c w)
theorem pY[a:Sl w A n xs](e:n<=1000000){b:Bool}(hb:Hid (aU xs=b)):Calls Tryz.prog 119 #[.slice A n c] w (aM w (.bool b)):=by
 obtain⟨a,rfl⟩:=a;rw[<-hb.out];exact(nT A c xs w e a).mono fun _ _ ⟨j,hb⟩=>⟨j,⟨hb⟩⟩
theorem aiQ[a:Sl w A n ws][b:Sl w B m xs](V:n<=1000000)(hm:m<=1000000){S:Int}(j:DT ws xs=false):
  Calls Tryz.prog 126 #[.slice A n c,.slice B m d,S] w (uO w [] 20):=by
 have X:=@kQ;obtain⟨a,rfl⟩:=a;have a:Sl w A ws.length ws:=⟨a,rfl⟩;obtain⟨b,rfl⟩:=b;have b:Sl w B xs.length xs:=⟨b,rfl⟩;rcases h1:aU ws with _|_
 ·have l:=ae h1;clear h1 j;go_enter Tryz.func126,Tryz.ntmps126
  go_wp2_with (first|(go_at_call 119;(with_reducible refine(pY om l).mono ?_);rintro e u ⟨rfl,_⟩))
  go_ret2;exact⟨none,0,rfl,Sl.empty,⟨az _⟩,bn.none,ai _ _⟩
 have l:=ae h1;rcases h2:aU xs with _|_
 ·have y:=ae h2;clear h1 h2 j;go_enter Tryz.func126,Tryz.ntmps126
  go_wp2_with (first|(go_at_call 119;(with_reducible refine(pY om l).mono ?_);rintro e u ⟨rfl,_⟩)|(go_at_call 119;(with_reducible refine(pY om y).mono ?_);rintro e u ⟨rfl,_⟩))
  go_ret2;exact⟨none,0,rfl,Sl.empty,⟨az _⟩,bn.none,ai _ _⟩
 have y:=ae h2;by_cases Y:xs.length<2
 ·have d1:decide ((xs.length:Int)<2)=true:=by simp;omega
  clear h1 h2 j;go_enter Tryz.func126,Tryz.ntmps126
  go_wp2_with (first|(go_at_call 119;(with_reducible refine(pY om l).mono ?_);rintro e u ⟨rfl,_⟩)|(go_at_call 119;(with_reducible refine(pY om y).mono ?_);rintro e u ⟨rfl,_⟩))
  refine bZ aj (fun C _=>?_);refine ag 0 21 ?_;refine ag 1 22 ?_;refine ag 2 23 ?_;refine ag 3 24 ?_;refine ax 4 25 ?_;refine ax 5 26 ?_;refine ax 6 27 ?_;refine ag 7 28 ?_;refine ag 8 29 ?_;refine ax 9 30 ?_;refine ax 10 31 ?_;refine ax 11 32 ?_;refine ax 12 33 ?_;refine ax 13 34 ?_;refine ax 14 35 ?_;refine ag 15 36 ?_;refine ag 16 37 ?_;refine ax 17 38 ?_;refine ax 18 39 ?_;refine ax 19 40 ?_;refine ax 20 41 ?_;refine ax 21 42 ?_;refine ax 22 43 ?_;refine ax 23 44 ?_;refine ag 24 45 ?_;refine aO ?_
  go_wp2_with fail
  go_ret2;exact⟨none,0,rfl,Sl.empty,⟨az _⟩,bn.none,ai _ _⟩
 have d1:decide ((xs.length:Int)<2)=false:=by simp;omega
 by_cases Z:3<xs.length
 ·have N:decide (3<(xs.length:Int))=true:=by simp;omega
  clear h1 h2 j;go_enter Tryz.func126,Tryz.ntmps126
  go_wp2_with (first|(go_at_call 119;(with_reducible refine(pY om l).mono ?_);rintro e u ⟨rfl,_⟩)|(go_at_call 119;(with_reducible refine(pY om y).mono ?_);rintro e u ⟨rfl,_⟩))
  refine bZ aj (fun C _=>?_);refine ag 0 21 ?_;refine ag 1 22 ?_;refine ag 2 23 ?_;refine ag 3 24 ?_;refine ag 4 25 ?_;refine ag 5 26 ?_;refine ag 6 27 ?_;refine ag 7 28 ?_;refine ag 8 29 ?_;refine ax 9 30 ?_;refine ax 10 31 ?_;refine ax 11 32 ?_;refine ax 12 33 ?_;refine ax 13 34 ?_;refine ax 14 35 ?_;refine ag 15 36 ?_;refine ag 16 37 ?_;refine ax 17 38 ?_;refine ax 18 39 ?_;refine ax 19 40 ?_;refine ax 20 41 ?_;refine ax 21 42 ?_;refine ax 22 43 ?_;refine ax 23 44 ?_;refine ag 24 45 ?_;refine aO ?_
  go_wp2_with fail
  go_ret2;exact⟨none,0,rfl,Sl.empty,⟨az _⟩,bn.none,ai _ _⟩
 have N:decide (3<(xs.length:Int))=false:=by simp;omega
 have y1:IntKind.i64.wrap ((xs.length:Int)+1)=(xs.length:Int)+1:=BB _ om;by_cases D:ws.length=xs.length+1;rotate_left
 ·have O:((ws.length:Int) !=(xs.length:Int)+1)=true:=by simp;omega
  clear h1 h2 j;go_enter Tryz.func126,Tryz.ntmps126
  go_wp2_with (first|(go_at_call 119;(with_reducible refine(pY om l).mono ?_);rintro e u ⟨rfl,_⟩)|(go_at_call 119;(with_reducible refine(pY om y).mono ?_);rintro e u ⟨rfl,_⟩))
  refine bZ aj (fun C _=>?_);refine ag 0 21 ?_;refine ag 1 22 ?_;refine ag 2 23 ?_;refine ag 3 24 ?_;refine ag 4 25 ?_;refine ag 5 26 ?_;refine ag 6 27 ?_;refine ag 7 28 ?_;refine ag 8 29 ?_;refine ag 9 30 ?_;refine ag 10 31 ?_;refine ag 11 32 ?_;refine ag 12 33 ?_;refine ag 13 34 ?_;refine ag 14 35 ?_;refine ag 15 36 ?_;refine ag 16 37 ?_;refine ax 17 38 ?_;refine ax 18 39 ?_;refine ax 19 40 ?_;refine ax 20 41 ?_;refine ax 21 42 ?_;refine ax 22 43 ?_;refine ax 23 44 ?_;refine ag 24 45 ?_;refine aO ?_
  go_wp2_with fail
  go_ret2;exact⟨none,0,rfl,Sl.empty,⟨az _⟩,bn.none,ai _ _⟩
 have O:((ws.length:Int) !=(xs.length:Int)+1)=false:=by simp;omega
 have K:3<=ws.length/\ws.length<=4:=om;have P:=ae D;clear D;have x1:(1:Int)<(ws.length:Int):=by omega
 have x2:0<xs.length:=om;obtain⟨ba,oa,z0,rfl,Q,E,F⟩:=a.get (k:=0) om;obtain⟨z1,r⟩:∃z,ws[1]?=some z:=⟨_,aW om⟩;have R:=a.rd.all r;obtain⟨bb,ob,x0,rfl,T,G,I⟩:=b.get (k:=0) om;simp only[nA]at E G;have U:ws.getD 0 0=z0:=by rw[aQ,F.out];rfl
 have L:ws.getD 1 0=z1:=by rw[aQ,r];rfl
 have M:xs.getD 0 0=x0:=by rw[aQ,I.out];rfl
 by_cases J:z1=x0;rotate_left
 ·have d4:(z1 !=x0)=true:=by simpa using J
  clear h1 h2 U L M r J j;go_enter Tryz.func126,Tryz.ntmps126
  go_wp2_with (first|(go_at_call 119;(with_reducible refine(pY om l).mono ?_);rintro e u ⟨rfl,_⟩)|(go_at_call 119;(with_reducible refine(pY om y).mono ?_);rintro e u ⟨rfl,_⟩))
  refine bZ aj (fun C _=>?_);refine ag 0 21 ?_;refine ag 1 22 ?_;refine ag 2 23 ?_;refine ag 3 24 ?_;refine ag 4 25 ?_;refine ag 5 26 ?_;refine ag 6 27 ?_;refine ag 7 28 ?_;refine ag 8 29 ?_;refine ag 9 30 ?_;refine ag 10 31 ?_;refine ag 11 32 ?_;refine ag 12 33 ?_;refine ag 13 34 ?_;refine ag 14 35 ?_;refine ag 15 36 ?_;refine ag 16 37 ?_;refine ag 17 38 ?_;refine ag 18 39 ?_;refine ag 19 40 ?_;refine ag 20 41 ?_;refine ag 21 42 ?_;refine ag 22 43 ?_;refine ag 23 44 ?_;refine ag 24 45 ?_;refine aO ?_
  go_wp2_with fail
  go_ret2;exact⟨none,0,rfl,Sl.empty,⟨az _⟩,bn.none,ai _ _⟩
 exfalso;have D:=P.out;rw[DT,h1,h2,L,M,J]at j;simp at j;omega
end
section
variable{w:World}{A B:Option Addr}{n m c d:Nat}{ws xs:List Int}
theorem aiR[a:Sl w A n ws][b:Sl w B m xs][ld:Le m d]{S E:Int}{V:List Int}(C:DT ws xs=true)(hE:Hid (rE ws xs S=E))(hV:Hid (xG ws xs S=V)):
  Calls Tryz.prog 126 #[.slice A n c,.slice B m d,S] w (uO w V E):=by
 have CP:=@kQ;obtain⟨a,rfl⟩:=a;have a:Sl w A ws.length ws:=⟨a,rfl⟩;obtain⟨b,rfl⟩:=b;have b:Sl w B xs.length xs:=⟨b,rfl⟩;have hp:=C;simp only[DT,dm,dU]at hp;obtain⟨⟨⟨⟨⟨h1,h2⟩,h3⟩,h4⟩,h5⟩,h6⟩:=hp;have H1:=ae h1;have H2:=ae h2;have d1:decide ((xs.length:Int)<2)=false:=by simp;omega
 have d2:decide (3<(xs.length:Int))=false:=by simp;omega
 have y1:IntKind.i64.wrap ((xs.length:Int)+1)=(xs.length:Int)+1:=BB _ om;have d3:((ws.length:Int) !=(xs.length:Int)+1)=false:=by simp;omega
 have hlen:3<=ws.length/\ws.length<=4:=om;have x1:(1:Int)<(ws.length:Int):=by omega
 have x2:0<xs.length:=om;obtain⟨J,G⟩:=lh (xs.length-1);have M:J+2=ws.length/\J<=2/\J+1=xs.length:=om;have I:=ae M;obtain⟨ba,oa,z0,rfl,oba,Z,N⟩:=a.get (k:=0) om;obtain⟨z1,K⟩:∃z,ws[1]?=some z:=⟨_,aW om⟩;have ca1:=a.rd.all K;obtain⟨bb,ob,x0,rfl,obb,Y7,O⟩:=b.get (k:=0) om;simp only[nA]at Z Y7;have g0:ws.getD 0 0=z0:=by rw[aQ,N.out];rfl
 obtain rfl:z1=x0:=by
  have g1:ws.getD 1 0=z1:=by rw[aQ,K];rfl
  have g2:xs.getD 0 0=x0:=by rw[aQ,O.out];rfl
  rw[<-g1,h6,g2]
 have hld:=ld.le;have l1:=aiK (P:=Tryz.prog) 25 aj aj bb ob xs.length d 1 om om;rw[G]at l1;simp only[aeC]at l1;have lS:Hid (I1 ws xs S=z0::Aq ws xs S J):=ae (by rw[I1,g0,G]);have HP:=ae C;have Q:=ae G;clear g0 N O C h1 h2 K h5 h6 G M;go_enter Tryz.func126,Tryz.ntmps126
 go_wp2_with (first|(go_at_call 119;(with_reducible refine(pY om H1).mono ?_);rintro e u ⟨rfl,_⟩)|(go_at_call 119;(with_reducible refine(pY om H2).mono ?_);rintro e u ⟨rfl,_⟩))
 refine bZ aj (fun r _=>?_);refine ag 0 21 ?_;refine ag 1 22 ?_;refine ag 2 23 ?_;refine ag 3 24 ?_;refine ag 4 25 ?_;refine ag 5 26 ?_;refine ag 6 27 ?_;refine ag 7 28 ?_;refine ag 8 29 ?_;refine ag 9 30 ?_;refine ag 10 31 ?_;refine ag 11 32 ?_;refine ag 12 33 ?_;refine ag 13 34 ?_;refine ag 14 35 ?_;refine ag 15 36 ?_;refine ag 16 37 ?_;refine ag 17 38 ?_;refine ag 18 39 ?_;refine ag 19 40 ?_;refine ag 20 41 ?_;refine ag 21 42 ?_;refine ag 22 43 ?_;refine ag 23 44 ?_;refine ag 24 45 ?_;refine aO ?_
 go_upto_region 6 with fail
 obtain⟨v,hv⟩:=lg (r.alloc (.cells #[z0] 3));have pv:ak v r:=hv▸ak.alloc _ _;have ho:aG v r.heap.size 3 (some ⟨r.heap.size,0,none⟩) 1 [z0]:=by rw[hv];exact aG.sZ (zs:=[z0]) (Own.new r 3 [z0]) (az _) au
 rw[<-hv];clear hv;obtain⟨A0,R⟩:=lh ((some ⟨r.heap.size,0,none⟩:Option Addr));rw[R]at ho⊢;clear R
 go_wp2_with fail
 go_loopw [8,53] (fun p q wr=>∃(k:Nat) (A':Option Addr) (c':Nat) (L:List Int),k<=J/\q=.int .i64 k/\p=.slice A' L.length c'/\Hid (L=z0::Aq ws xs S k)/\L.length<=10/\Hid (∀i,i<k->DU ws xs S i=true)/\aG wr r.heap.size 3 A' c' L/\ak wr r) (fun _ q _=>J-(intOf q).toNat)
 case atStart=>exact⟨0,A0,1,[z0],aS _,rfl,rfl,ae rfl,au,ae fun i hi=>om,ho,ai _ _⟩
 case round=>
  clear ho;obtain⟨k,A',c',L,hk,rfl,rfl,HL,hL,HW,j,hp⟩:=hrel;by_cases hlt:k<J
  ·obtain⟨x,X⟩:∃x,xs[1+k]?=some x:=⟨_,aW (by have:=I.out;omega)⟩;obtain⟨y,Y⟩:∃y,ws[k+2]?=some y:=⟨_,aW (by have:=I.out;omega)⟩;have cx:=b.rd.all X;have cy:=a.rd.all Y;rw[<-C8]at cx;have hk2:k+2<ws.length:=by have:=I.out;omega
   have T:xs.getD (k+1) 0=x:=by rw[aQ,LW k 1,X];rfl
   have U:ws.getD (k+2) 0=y:=by rw[aQ,Y];rfl
   obtain⟨q,hq⟩:=lh (sQ x y S);have HQ:=ae hq;rcases hw:sN x y S with _|_
   ·have HE:Hid (mI x y S=11):=ae (by simp[mI,hw]);have D:rE ws xs S=11:=by rw[rE,HP.out,aiN (i:=k) (by rw[Q.out];exact hlt) (by rw[DU,T,U];exact hw)];rfl
    obtain rfl:E=11:=by rw[<-hE.out,D]
    obtain rfl:V=[]:=by rw[<-hV.out,xG,D];rfl
    clear X Y T U hq D hw
    go_wp2_with (first|(go_at_call 190;(with_reducible refine(Y6 HQ HE).mono ?_);rintro e u ⟨rfl,_⟩))
    go_ret2;exact⟨none,0,rfl,Sl.empty,⟨az _⟩,bn.none,ai _ _⟩
   ·have HE:Hid (mI x y S=0):=ae (by simp[mI,hw]);have HW2:Hid (∀i,i<k+1->DU ws xs S i=true):=ae fun i hi=>by
     by_cases h:i=k
     ·subst h;rw[DU,T,U];exact hw
     ·exact HW.out i om
    have HN:Hid (L++[q]=z0::Aq ws xs S (k+1)):=ae (by rw[aiL,T,U,hq,HL.out];rfl);clear X Y T U hq hw
    go_wp2_with (first|(first|(go_at_call 190;(with_reducible refine(Y6 HQ HE).mono ?_);rintro e u ⟨rfl,_⟩))|(at_builtin;refine Ie rfl _ _ _ rfl 3 Tryz.underlying25 aj r.heap.size A' c' L rfl j.at q rfl om aH ?_;intro A3 c3 w3 ho3 hb3 _ _))
    have:ak w3 r:=⟨(aL r _).trans hb3⟩;go_roundw
    case rel=>exact⟨k+1,A3,c3,L++[q],om,by go_num,au,HN,by have:=eD List.length HN.out;rw[iJ,aiM]at this;have:=I.out;omega,HW2,ho3,ai _ _⟩
    case measure=>simp[intOf];omega
  ·obtain rfl:J=k:=om;have l:DV ws xs S=true:=aiO (by rw[Q.out];exact HW.out);have sL:Sl wr A' L.length L:=⟨j.rd,rfl⟩;have F:I1 ws xs S=L:=by rw[lS.out,HL.out]
   rcases hr:aU L with _|_
   ·have HR:=ae hr;have D:rE ws xs S=20:=by rw[rE,HP.out,l,F,hr];rfl
    obtain rfl:E=20:=by rw[<-hE.out,D]
    obtain rfl:V=[]:=by rw[<-hV.out,xG,D];rfl
    clear hr D F l
    go_wp2_with (first|(go_at_call 119;(with_reducible refine(pY om HR).mono ?_);rintro e u ⟨rfl,_⟩))
    go_ret2;exact⟨none,0,rfl,Sl.empty,⟨az _⟩,bn.none,ai _ _⟩
   ·have HR:=ae hr;have D:rE ws xs S=0:=by rw[rE,HP.out,l,F,hr];rfl
    obtain rfl:E=0:=by rw[<-hE.out,D]
    obtain rfl:L=V:=by rw[<-hV.out,xG,D,F];rfl
    clear hr D F l
    go_wp2_with (first|(go_at_call 119;(with_reducible refine(pY om HR).mono ?_);rintro e u ⟨rfl,_⟩))
    go_ret2;exact⟨A',c',rfl,iin,⟨j.uB⟩,⟨fun ad e=>aZ (aH (w:=w) (w':=r)) (j.fresh ad e)⟩,ai _ _⟩
theorem aiS[Sl w A n ws][Sl w B m xs][Le m d](b:n<=1000000)(hm:m<=1000000){S E:Int}{V:List Int}(hE:Hid (rE ws xs S=E))(hV:Hid (xG ws xs S=V)):
  Calls Tryz.prog 126 #[.slice A n c,.slice B m d,S] w (uO w V E):=by
 rcases hp:DT ws xs with _|_
 ·obtain⟨e,j⟩:=aiP (S:=S) hp;obtain rfl:E=20:=by rw[<-hE.out,e]
  obtain rfl:V=[]:=by rw[<-hV.out,j]
  exact aiQ b hm hp
 ·exact aiR hp hE hV
end
def Ca(side:Int):List Int->List (List Int)->Int
 |_,[]=>0
 |s,t::l=>if lL s t side=0 then Ca side (ma s t side) l else lL s t side
def Cb(side:Int):List Int->List (List Int)->List Int
 |s,[]=>s
 |s,t::l=>Cb side (ma s t side) l
def Cc(side:Int):List (List Int)->Int
 |[]=>0
 |t::l=>if l.isEmpty&& !(decide (0<=side)&&decide (side<t.length))then 11 else Ca side t l
def FT(side:Int)(L:List (List Int)):List Int:=if Cc side L=0 then Cb side (L.headD []) L.tail else[]
section
variable{w w':World}{A B C:Option Addr}{n m k c d e N:Nat}{ps bs xs:List Int}{ss:List Sp}{E side:Int}{V:List Int}
theorem aiT{zs ts:List Int}:(ma zs ts side).length<=zs.length:=by
 unfold ma joinL;split<;>simp
theorem aiU[a:dA w B n ss][le:Le n c](h1:1<=n)(hn:n<=1000000)(hR:Hid (∀z∈aJ ss,aU z=true))(hV:Hid (FT side (aJ ss)=V))(hE:Hid (Cc side (aJ ss)=E)):
  Calls Tryz.prog 128 #[side,.slice B n c] w (uO w V E):=by
 have CP:=@kQ;have Q:=le.le;obtain⟨L,hL⟩:=lh (aJ ss);have LN:Hid (n=L.length):=ae (by rw[<-hL];exact a.len.trans jM.symm);have HG:Hid (∀k:Nat,k<n->∃b off A m c zs,B=some ⟨b,off,none⟩/\Old b w/\w.cell? ⟨b,off+k,none⟩=some (.slice A m c)/\Sl w A m zs/\Le m c/\m<=4/\Hid (L[k]?=some zs)):=ae fun k hk=>by
  obtain⟨b,o,A,m,c,z,e1,e2,e3,e4,e5,e6⟩:=a.get hk;exact⟨b,o,A,m,c,z,e1,e2,e3,e4,e5,by rw[e4.len];exact ry (hR.out _ (xC e6.out)),ae (by rw[<-hL];exact e6.out)⟩
 rw[hL]at hV hE;clear hL hR a;obtain⟨b,o,A0,X,c0,z0,rfl,ob,v0,Z,_,m4,e0⟩:=HG.out 0 om;have v0':w.cell? ⟨b,o,none⟩=some (.slice A0 X c0):=v0;clear v0;obtain⟨r,hr⟩:∃r,L=z0::r:=by
  have:=e0.out;cases L with
  |nil=>cases this
  |cons x r=>injection this with e;exact⟨r,by rw[e]⟩
 obtain⟨l,rfl⟩:∃l,n=l+1:=⟨n-1,om⟩;subst hr;have Y:Hid (r.length=l):=ae (by have:=LN.out;simp at this;omega);have hz0:z0.length<=4:=by rw[<-Z.len];exact m4
 have y:=hE.out;have D:=hV.out;clear hV hE LN;rw[FT]at D;by_cases j:l=0/\¬(0<=side/\side<z0.length)
 ·obtain⟨rfl,K⟩:=j;obtain rfl:r=[]:=rZ Y.out;have M:Cc side [z0]=11:=by simp[Cc];omega
  obtain rfl:E=11:=by rw[<-y,M]
  obtain rfl:V=[]:=by rw[<-D,M];rfl
  have hm0:X=z0.length:=Z.len;clear y D M;by_cases hs0:side<0;rotate_left
  focus
   have hs1:(X:Int)<=side:=by omega
   clear K hm0
  all_goals
   go_enter Tryz.func128,Tryz.ntmps128
   go_wp2_with fail
   go_ret2;exact⟨none,0,rfl,Sl.empty,Le.same _,bn.none,ai _ _⟩
 have HJ:Hid (Ca side z0 r=E):=ae (by
  rw[<-y,Cc,if_neg];intro Q;simp at Q;obtain⟨rfl,Q⟩:=Q;exact j ⟨by simpa using Y.out.symm,om⟩)
 have HS:Hid (V=if E=0 then Cb side z0 r else[]):=ae (by rw[<-D,y];rfl);have HQ:Hid (l=0->0<=side/\side<X):=ae fun h=>by
  have:=Z.len;rcases Classical.em (0<=side/\side<z0.length)with h'|h'
  ·omega
  ·exact absurd ⟨h,h'⟩ j
 clear j y D e0;obtain⟨A',hsl,ha⟩:=YP b o l c Q;have HA:=ae ha;clear ha;by_cases O:l=0
 ·obtain⟨p0,p1⟩:=HQ.out O;subst O;obtain rfl:r=[]:=rZ Y.out;obtain rfl:E=0:=HJ.out.symm;obtain rfl:V=z0:=by rw[HS.out];rfl
  go_enter Tryz.func128,Tryz.ntmps128
  go_wp2_with (first|(go_at_call 103;(with_reducible refine(IJ om).mono ?_);rintro e u ⟨gS,rfl,sS,fS,_⟩))
  refine Dc 1 ?_;rw[vR]
  go_wp2_with fail
  go_ret2;exact⟨_,_,rfl,sS,Le.same _,fS.less aH,ai _ _⟩
 have hl1:0<l:=om;obtain rfl:=HA.out hl1;clear O HQ;go_enter Tryz.func128,Tryz.ntmps128
 go_wp2_with (first|(go_at_call 103;(with_reducible refine(IJ om).mono ?_);rintro e u ⟨gS,rfl,sS,fS,_⟩))
 go_loopw [6,33] (fun s i wr=>∃(k:Nat) (R:Option Addr) (c2:Nat) (T:List Int),k<=l/\i=.int .i64 k/\s=.slice R T.length c2/\Sl wr R T.length T/\Le T.length c2/\bn w.heap.size R/\T.length<=4/\Hid (Ca side T (r.drop k)=E)/\Hid (Cb side T (r.drop k)=Cb side z0 r)/\ak wr u) (fun _ i _=>l-(intOf i).toNat)
 case atStart=>exact⟨0,_,_,z0,aS _,rfl,rfl,sS,Le.same _,fS.less aH,hz0,HJ,ae rfl,ai _ _⟩
 case round=>
  obtain⟨k,R,c2,T,hk,rfl,rfl,sT,lT,fT,hT,P,S,hp⟩:=hrel;by_cases hlt:k<l
  ·obtain⟨b',o',A1,m1,c1,z1,eb,Rv,v1,s1,_,m14,ht⟩:=HG.out (k+1) om;injection eb with eb;injection eb with Rw Rx;subst Rw Rx
   have FR:w.cell? ⟨b,o+1+k,none⟩=some (.slice A1 m1 c1):=by rw[show o+1+k=o+(k+1)from om];exact v1
   have HD:Hid (r.drop k=z1::r.drop (k+1)):=ae (by
    obtain⟨hkl,e⟩:=aY.1 (show r[k]?=some z1 from ht.out);rw[<-e];exact jE hkl)
   obtain⟨J,I⟩:=jS (lL T z1 side);obtain⟨V1,F⟩:=jS (ma T z1 side);clear v1 Rv ht;by_cases G:J=0
   ·subst G
    go_wp2_with (first|(go_at_call 191;(with_reducible refine(YN om om I F).mono ?_);rintro e u ⟨A',c',rfl,sJ,lJ,fJ,_⟩))
    go_roundw
    case rel=>exact⟨k+1,A',c',V1,om,by go_num,rfl,sJ,lJ,fJ.less aH,by rw[<-F.out];have:=aiT (zs:=T) (ts:=z1) (side:=side);omega,ae (by have:=P.out;rw[HD.out]at this;simpa[Ca,I.out,F.out]using this),ae (by have:=S.out;rw[HD.out]at this;simpa[Cb,F.out]using this),ai _ _⟩
    case measure=>simp[intOf];omega
   ·have e1:(J !=0)=true:=by simp[G]
    obtain rfl:E=J:=by have:=P.out;rw[HD.out]at this;simp[Ca,I.out,G]at this;exact this.symm
    obtain rfl:V=[]:=by rw[HS.out,if_neg G]
    clear G
    go_wp2_with (first|(go_at_call 191;(with_reducible refine(YN om om I F).mono ?_);rintro e u ⟨A',c',rfl,sJ,lJ,fJ,_⟩))
    go_ret2;exact⟨none,0,rfl,Sl.empty,Le.same _,bn.none,ai _ _⟩
  ·have U:Hid (r.drop k=[]):=ae (kL (by rw[Y.out];omega));obtain rfl:E=0:=by have:=P.out;rw[U.out]at this;exact this.symm
   obtain rfl:V=T:=by rw[HS.out,if_pos rfl,<-S.out,U.out];rfl
   go_wp2_with fail
   go_ret2;exact⟨R,c2,rfl,sT,lT,fT,ai _ _⟩
end
structure gP where
 kd:Int
 k:Int
 wd:Int
 st:Int
 sd:Int
 fr:Int
 tt:Int
 S:List Int
def jc(o:gP)(ps xs:List (List Int)):Int:=
 if o.kd=8 then xE (ps.getD 0 []) (ps.getD 1 []) (xs.getD 0 [])else if o.kd=9 then uR [ps.getD 0 [],xs.getD 0 []]else if o.kd=10 then rE (ps.getD 0 []) (xs.getD 0 []) o.st
 else if o.kd=11\/o.kd=12 then rC (xs.getD 0 []) o.wd o.st else if o.kd=13 then Cc o.sd xs else if o.kd=14 then sV (xs.getD 0 []) o.sd o.fr o.tt else if o.kd=15 then yY (xs.getD 0 []) o.S else uR xs
def jN(o:gP)(ps xs:List (List Int)):List Int:=
 if o.kd=8 then xD (ps.getD 0 []) (ps.getD 1 []) (xs.getD 0 [])else if o.kd=9 then uQ [ps.getD 0 [],xs.getD 0 []]else if o.kd=10 then xG (ps.getD 0 []) (xs.getD 0 []) o.st
 else if o.kd=11\/o.kd=12 then rD (xs.getD 0 []) o.wd o.st else if o.kd=13 then FT o.sd xs else if o.kd=14 then cutV (xs.getD 0 []) o.sd o.fr o.tt else if o.kd=15 then DR (xs.getD 0 []) o.S else uQ xs
def gP.right(o:gP):Bool:=qF o.kd o.k o.wd o.st o.sd o.fr o.tt o.S
def gP.cnt(o:gP)(np nx:Nat):Int:=rA o.kd o.k o.wd o.st o.sd o.fr o.tt o.S np nx
def iw(o:gP)(ps xs:List (List Int)):Int:=
 if o.cnt ps.length xs.length=0 then(if ps.all aU&&xs.all aU then jc o ps xs else 20)else o.cnt ps.length xs.length
def dZ(o:gP)(ps xs:List (List Int)):List Int:=if iw o ps xs=0 then jN o ps xs else[]
section
variable{w w':World}{A B C:Option Addr}{n m n' k c d e c' N:Nat}{zs ps bs xs:List Int}{ss ts:List Sp}{E side:Int}{V:List Int}
theorem M8{v:Bool}[Sl w A n zs](b:n<=1000000)(hv:Hid (aU zs=v)):Calls Tryz.prog 119 #[.slice A n c] w (aM w (.bool v)):=Rl (M6 b) (by rw[hv.out])
theorem Ar{o:gP}{np nx:Nat}(h:o.cnt np nx=0):o.right=true/\nG o.kd<=nx/\(nx:Int)<=rz o.kd/\(np:Int)=ky o.kd:=by
 unfold gP.cnt rA at h
 split at h
 ·rename_i hr
  split at h
  ·omega
  ·rename_i b;exact⟨hr,om,om,om⟩
 ·omega
theorem aiW{g:Nat}{T:TypeId}{r u:Option Addr}{l m1 c0 c1:Nat}{z0 z1:List Int}[h:Bx w g T #[.slice r l c0,.slice u m1 c1]][y:Sl w r l z0][D:Le l c0][z:Sl w u m1 z1][l1:Le m1 c1]:
  dA w (some ⟨g,0,none⟩) 2 [⟨r,l,c0,z0⟩,⟨u,m1,c1,z1⟩]:=
 ⟨fun j x b=>by
  match j with
  |0=>simp at b;subst b;exact⟨g,0,rfl,h.blk.lt,h.blk.cell 0,y.rd,y.len,D.le⟩
  |1=>simp at b;subst b;exact⟨g,0,rfl,h.blk.lt,h.blk.cell 1,z.rd,z.len,l1.le⟩
  |j+2=>simp at b,rfl⟩
end
section
theorem Y8{L:List (List Int)}(h:uR L≠0):uQ L=[]:=by
 unfold uR at h;unfold uQ
 split at h
 ·omega
 ·rename_i b;rw[if_neg b]
theorem aiX{o:gP}{ps xs:List (List Int)}(h:jc o ps xs≠0):jN o ps xs=[]:=by
 unfold jc at h;unfold jN
 split
 ·rename_i b;rw[if_pos b]at h;unfold xE at h;unfold xD
  split at h
  ·omega
  ·rename_i y;rw[if_neg y]
 rename_i z;rw[if_neg z]at h
 split
 ·rename_i b;rw[if_pos b]at h;exact Y8 h
 rename_i B;rw[if_neg B]at h
 split
 ·rename_i b;rw[if_pos b]at h;unfold xG;rw[if_neg h]
 rename_i j;rw[if_neg j]at h
 split
 ·rename_i b;rw[if_pos b]at h;unfold rC at h;unfold rD
  split at h
  ·rename_i hr;rw[hr];unfold mI at h
   split at h
   ·omega
   ·rename_i C;rw[if_neg];intro e;rw[dm]at e;exact C e.2
  ·rename_i hr;rw[if_neg];intro e;rw[dm]at e;exact hr e.1
 rename_i l;rw[if_neg l]at h
 split
 ·rename_i b;rw[if_pos b]at h;unfold FT;rw[if_neg h]
 rename_i m;rw[if_neg m]at h
 split
 ·rename_i b;rw[if_pos b]at h;unfold cutV;rw[if_neg h]
 rename_i r;rw[if_neg r]at h
 split
 ·rename_i b;rw[if_pos b]at h;unfold DR;rw[if_neg h]
 rename_i u;rw[if_neg u]at h;exact Y8 h
end
section
variable{w w':World}{A B C:Option Addr}{n m n' k c d e c' N nx mx cx:Nat}{ss ts:List Sp}{E:Int}{V:List Int}{o:gP}
theorem dA.all(h:dA w B n ss){L:List (List Int)}(hL:aJ ss=L):Hid (n=L.length/\∀k:Nat,k<n->∃b off A m c zs,B=some ⟨b,off,none⟩/\Old b w/\w.cell? ⟨b,off+k,none⟩=some (.slice A m c)/\Sl w A m zs/\Le m c/\Hid (L[k]?=some zs)):=
 ae ⟨by rw[<-hL];exact h.len.trans jM.symm,fun k j=>by
  obtain⟨b,o,A,m,c,z,l,r,u,y,D,F⟩:=h.get j;exact⟨b,o,A,m,c,z,l,r,u,y,D,ae (by rw[<-hL];exact F.out)⟩⟩
theorem FU[Sl w A n o.S](hn:n<=1000000)[a:dA w B m ss][x:dA w C nx ts][Le nx cx](hm:m<=1000000)(hx:nx<=1000000)(hz:Hid (∀z∈aJ ss++aJ ts,z.length<=1000000))(hV:Hid (dZ o (aJ ss) (aJ ts)=V))(hE:Hid (iw o (aJ ss) (aJ ts)=E)):
  Calls Tryz.prog 74 #[.agg (opC o.kd o.k o.wd o.st o.sd o.fr o.tt (.slice A n d)),.slice B m e,.slice C nx cx] w (uO w V E):=by
 obtain⟨CB,CP⟩:=lM;obtain⟨P,hP⟩:=lh (aJ ss);obtain⟨X,hX⟩:=lh (aJ ts);have GA:=a.all hP;have GX:=x.all hX;have HX:=ae hX;rw[hP,hX]at hV hE hz;clear hP hX a;obtain⟨ce,R⟩:=lh (o.cnt P.length X.length);have HC:Hid (rA o.kd o.k o.wd o.st o.sd o.fr o.tt o.S m nx=ce):=ae (by rw[<-R,gP.cnt,GA.out.1,GX.out.1]);by_cases h0:ce=0;rotate_left
 ·have b0:(ce !=0)=true:=by simp[h0]
  obtain⟨rfl,rfl⟩:V=[]/\ce=E:=by
   have J:iw o P X=ce:=by rw[iw,R,if_neg h0]
   rw[<-hV.out,<-hE.out,dZ,J,if_neg h0];exact⟨rfl,rfl⟩
  clear R h0;go_enter Tryz.func74,Tryz.ntmps74
  go_wp2_with (first|(go_at_call 104;(with_reducible refine(BX hn HC).mono ?_);rintro e u ⟨rfl,_⟩))
  go_ret2;exact⟨none,0,rfl,Sl.empty,Le.same _,bn.none,ai _ _⟩
 subst h0;obtain⟨hr,i1,i2,i3⟩:=Ar R;rw[<-GA.out.1]at i3;rw[<-GX.out.1]at i1 i2;have I:=ae (And.intro i1 (And.intro i2 i3));have lS:Hid (P.all aU=true->X.all aU=true->V=(if jc o P X=0 then jN o P X else[])/\E=jc o P X):=ae fun y G=>by
  have J:iw o P X=jc o P X:=by rw[iw,if_pos R,y,G];rfl
  rw[<-hV.out,<-hE.out,dZ,J];exact⟨rfl,rfl⟩
 have Ry:Hid (P.all aU=false\/X.all aU=false->V=[]/\E=20):=ae fun y=>by
  have J:iw o P X=20:=by
   rw[iw,if_pos R,if_neg];rcases y with y|y<;>simp[y]
  rw[<-hV.out,<-hE.out,dZ,J];exact⟨rfl,rfl⟩
 clear R hV hE i1 i2 i3;go_enter Tryz.func74,Tryz.ntmps74
 go_wp2_with (first|(go_at_call 104;(with_reducible refine(BX hn HC).mono ?_);rintro e u ⟨rfl,_⟩))
 go_loopw [24] (fun i wr=>∃j:Nat,j<=m/\i=.int .i64 j/\Hid ((P.take j).all aU=true)/\ak wr u) (fun i _=>m-(intOf i).toNat)
 case atStart=>exact⟨0,aS _,rfl,ae rfl,ai _ _⟩
 case round=>
  obtain⟨j,hj,rfl,HT,hp⟩:=hrel;by_cases hlt:j<m
  ·obtain⟨b,q,A1,m1,c1,z1,rfl,ob,v1,s1,_,J⟩:=GA.out.2 j hlt;have m14:m1<=1000000:=by rw[s1.len];exact hz.out _ (zQ _ (xC J.out))
   rcases hv:aU z1 with _|_
   ·obtain⟨rfl,rfl⟩:=Ry.out (.inl (Rt J.out hv));have Hv:=ae hv;clear hv J
    go_wp2_with (first|(go_at_call 119;(with_reducible refine(M8 m14 Hv).mono ?_);rintro e u ⟨rfl,_⟩))
    go_ret2;exact⟨none,0,rfl,Sl.empty,Le.same _,bn.none,ai _ _⟩
   ·have Hv:=ae hv;have HT2:=ae (M7 HT.out J.out hv);clear hv J
    go_wp2_with (first|(go_at_call 119;(with_reducible refine(M8 m14 Hv).mono ?_);rintro e u ⟨rfl,_⟩))
    go_roundw
    case rel=>exact⟨j+1,om,by go_num,HT2,ai _ _⟩
    case measure=>simp[intOf];omega
  have HA:Hid (P.all aU=true):=ae (Ru HT.out (by rw[<-GA.out.1];omega));clear HT
  go_wp2_with fail
  go_loopw [34] (fun i wr=>∃j:Nat,j<=nx/\i=.int .i64 j/\Hid ((X.take j).all aU=true)/\ak wr u) (fun i _=>nx-(intOf i).toNat)
  case atStart=>exact⟨0,aS _,rfl,ae rfl,ai _ _⟩
  case round=>
   rename_i wr1 _;obtain⟨j,hj,rfl,HT,hp⟩:=hrel;by_cases hlt:j<nx
   ·obtain⟨b,q,A1,m1,c1,z1,rfl,ob,v1,s1,_,J⟩:=GX.out.2 j hlt;have m14:m1<=1000000:=by rw[s1.len];exact hz.out _ (Br _ (xC J.out))
    rcases hv:aU z1 with _|_
    ·obtain⟨rfl,rfl⟩:=Ry.out (.inr (Rt J.out hv));have Hv:=ae hv;clear hv J
     go_wp2_with (first|(go_at_call 119;(with_reducible refine(M8 m14 Hv).mono ?_);rintro e u ⟨rfl,_⟩))
     go_ret2;exact⟨none,0,rfl,Sl.empty,Le.same _,bn.none,ai _ _⟩
    ·have Hv:=ae hv;have HT2:=ae (M7 HT.out J.out hv);clear hv J
     go_wp2_with (first|(go_at_call 119;(with_reducible refine(M8 m14 Hv).mono ?_);rintro e u ⟨rfl,_⟩))
     go_roundw
     case rel=>exact⟨j+1,om,by go_num,HT2,ai _ _⟩
     case measure=>simp[intOf];omega
   have HB:Hid (X.all aU=true):=ae (Ru HT.out (by rw[<-GX.out.1];omega));have HW:Hid (jN o P X=V/\jc o P X=E):=ae (by
    obtain⟨y,G⟩:=lS.out HA.out HB.out;refine⟨?_,G.symm⟩;rw[y]
    split
    ·rfl
    ·rename_i h;exact aiX h)
   have Y9:Hid (∀z∈P,aU z=true):=ae fun z hz=>fK.1 HA.out z hz;have M9:Hid (∀z∈X,aU z=true):=ae fun z hz=>fK.1 HB.out z hz;clear HT lS Ry HA HB hz;obtain⟨b0,q0,A0,m0,c0,x0,rfl,Rz,v0,s0,lx0,e0⟩:=GX.out.2 0 (by have:=I.out.1;unfold nG at this;split at this<;>omega);have m0l:m0<=4:=by rw[s0.len];exact ry (M9.out _ (xC e0.out))
   have x1:0<nx:=by have:=I.out.1;unfold nG at this;split at this<;>omega
   have v0':w.cell? ⟨b0,q0,none⟩=some (.slice A0 m0 c0):=v0;clear v0;have D0:Hid (X.getD 0 []=x0):=ae (by rw[aQ,e0.out];rfl);obtain⟨b9,B9⟩:=lh ((o.kd==9));by_cases D:o.kd=8
   ·have hm2:m=2:=by have:=I.out.2.2;rw[ky,if_pos D]at this;omega
    obtain⟨b1,q1,A1,m1,c1,Z,rfl,vX,v1,s1,_,J⟩:=GA.out.2 0 om;obtain⟨b2,q2,A2,m2,c2,p1,eb,jT,v2,s2,_,e2⟩:=GA.out.2 1 om;injection eb with eb;injection eb with Rw Rx;subst Rw Rx
    have FR:w.cell? ⟨b1,q1,none⟩=some (.slice A1 m1 c1):=v1;have M:Hid (xD Z p1 x0=V/\xE Z p1 x0=E):=ae (by
     obtain⟨y,G⟩:=HW.out;have d1:P.getD 0 []=Z:=by rw[aQ,J.out];rfl
     have d2:P.getD 1 []=p1:=by rw[aQ,e2.out];rfl
     rw[jN,if_pos D,d1,d2,D0.out]at y;rw[jc,if_pos D,d1,d2,D0.out]at G;exact⟨y,G⟩)
    have g1:0<m:=om;have g2:(1:Int)<(m:Int):=by omega
    have b8:(o.kd==8)=true:=by simpa using D
    clear D hm2 v1
    go_upto_region 18 with fail
    refine bZ aj (fun ux _=>?_);refine ag 0 46 ?_;refine ag 1 47 ?_;refine ag 2 48 ?_;refine ag 3 49 ?_;refine ag 4 50 ?_;refine ag 5 51 ?_;refine ag 6 52 ?_;refine ag 7 53 ?_;refine ag 8 54 ?_;refine ay 9 fun K hK=>?_;go_simp
    (with_reducible refine(aiG om (ae M.out.1) (ae M.out.2)).mono ?_)
    rintro e ux ⟨A',c',rfl,T,U,Y,_⟩;dsimp only;refine av hK ?_;clear hK K;refine ag 10 56 ?_;refine ag 11 57 ?_;refine ag 12 6 ?_;refine ag 13 7 ?_;refine aO ?_
    go_wp2_with fail
    go_ret2;exact⟨A',c',rfl,T,U,Y.less aH,ai _ _⟩
   have b8:(o.kd==8)=false:=by simpa using D
   by_cases L:o.kd=9
   ·have hm1:m=1:=by have:=I.out.2.2;rw[ky,if_neg D,if_pos (.inl L)]at this;omega
    obtain⟨b1,q1,A1,m1,c1,Z,rfl,vX,v1,s1,lp1,J⟩:=GA.out.2 0 om;have FR:w.cell? ⟨b1,q1,none⟩=some (.slice A1 m1 c1):=v1;have M:Hid (uQ (aJ [⟨A1,m1,c1,Z⟩,⟨A0,m0,c0,x0⟩])=V/\uR (aJ [⟨A1,m1,c1,Z⟩,⟨A0,m0,c0,x0⟩])=E):=ae (by
     obtain⟨y,G⟩:=HW.out;have d1:P.getD 0 []=Z:=by rw[aQ,J.out];rfl
     rw[jN,if_neg D,if_pos L,d1,D0.out]at y;rw[jc,if_neg D,if_pos L,d1,D0.out]at G;exact⟨y,G⟩)
    have HR2:Hid (∀z∈aJ [⟨A1,m1,c1,Z⟩,⟨A0,m0,c0,x0⟩],aU z=true):=ae (by
     intro z hz;simp[aJ]at hz;rcases hz with rfl|rfl
     ·exact Y9.out _ (xC J.out)
     ·exact M9.out _ (xC e0.out))
    have g1:0<m:=om;have b9:(o.kd==9)=true:=by simpa using L
    clear D L hm1 v1 B9
    go_upto_region 20 with fail
    refine bZ aj (fun ux _=>?_);refine ag 0 60 ?_;refine ag 1 61 ?_;refine ag 2 62 ?_;refine ag 3 63 ?_;refine ag 4 64 ?_;refine ag 5 65 ?_;refine ay 6 fun K hK=>?_;go_simp;refine av hK ?_;clear hK K;refine bY (fun ux _ _=>?_);refine ay 7 fun K hK=>?_;go_simp
    (with_reducible refine(Y5 (ss:=[⟨A1,m1,c1,Z⟩,⟨A0,m0,c0,x0⟩]) (a:=aiW) om om HR2 (ae M.out.1) (ae M.out.2)).mono ?_)
    rintro e ux ⟨A',c',rfl,T,U,Y,_⟩;dsimp only;refine av hK ?_;clear hK K;refine ag 8 68 ?_;refine ag 9 69 ?_;refine ag 10 6 ?_;refine ag 11 7 ?_;refine aO ?_
    go_wp2_with fail
    go_ret2;exact⟨A',c',rfl,T,U,Y.less aH,ai _ _⟩
   have b9:(o.kd==9)=false:=by simpa using L
   by_cases l:o.kd=10
   ·have hm1:m=1:=by have:=I.out.2.2;rw[ky,if_neg D,if_pos (.inr l)]at this;omega
    obtain⟨b1,q1,A1,m1,c1,Z,rfl,vX,v1,s1,lp1,J⟩:=GA.out.2 0 om;have FR:w.cell? ⟨b1,q1,none⟩=some (.slice A1 m1 c1):=v1;have Za:m1<=4:=by rw[s1.len];exact ry (Y9.out _ (xC J.out))
    have M:Hid (xG Z x0 o.st=V/\rE Z x0 o.st=E):=ae (by
     obtain⟨y,G⟩:=HW.out;have d1:P.getD 0 []=Z:=by rw[aQ,J.out];rfl
     rw[jN,if_neg D,if_neg L,if_pos l,d1,D0.out]at y;rw[jc,if_neg D,if_neg L,if_pos l,d1,D0.out]at G;exact⟨y,G⟩)
    have g1:0<m:=om;have b10:(o.kd==10)=true:=by simpa using l
    clear D L l hm1 v1 B9
    go_upto_region 22 with fail
    refine bZ aj (fun ux _=>?_);refine ag 0 72 ?_;refine ag 1 73 ?_;refine ag 2 74 ?_;refine ag 3 75 ?_;refine ag 4 76 ?_;refine ag 5 77 ?_;refine ag 6 78 ?_;refine ag 7 79 ?_;refine ay 8 fun K hK=>?_;go_simp
    (with_reducible refine(aiS om om (ae M.out.2) (ae M.out.1)).mono ?_)
    rintro e ux ⟨A',c',rfl,T,U,Y,_⟩;dsimp only;refine av hK ?_;clear hK K;refine ag 9 81 ?_;refine ag 10 82 ?_;refine ag 11 6 ?_;refine ag 12 7 ?_;refine aO ?_
    go_wp2_with fail
    go_ret2;exact⟨A',c',rfl,T,U,Y.less aH,ai _ _⟩
   have b10:(o.kd==10)=false:=by simpa using l
   by_cases r:o.kd=11\/o.kd=12
   ·have M:Hid (rD x0 o.wd o.st=V/\rC x0 o.wd o.st=E):=ae (by
     obtain⟨y,G⟩:=HW.out;rw[jN,if_neg D,if_neg L,if_neg l,if_pos r,D0.out]at y;rw[jc,if_neg D,if_neg L,if_neg l,if_pos r,D0.out]at G;exact⟨y,G⟩)
    have RA:=ae r;clear D L l r B9;rcases h11:(o.kd==11)with _|_
    focus
     have h12:(o.kd==12)=true:=by
      rcases RA.out with e|e
      ·rw[e]at h11;cases h11
      ·simpa using e
    rotate_left
    all_goals
     go_upto_region 25 with fail
     refine bZ aj (fun ux _=>?_);refine ag 0 86 ?_;refine ag 1 87 ?_;refine ag 2 88 ?_;refine ag 3 89 ?_;refine ag 4 90 ?_;refine ag 5 91 ?_;refine ag 6 92 ?_;refine ay 7 fun K hK=>?_;go_simp
     (with_reducible refine(Y3 om (ae M.out.2) (ae M.out.1)).mono ?_)
     rintro e ux ⟨A',c',rfl,T,U,Y,_⟩;dsimp only;refine av hK ?_;clear hK K;refine ag 8 94 ?_;refine ag 9 95 ?_;refine ag 10 6 ?_;refine ag 11 7 ?_;refine aO ?_
     go_wp2_with fail
     go_ret2;exact⟨A',c',rfl,T,U,Y.less aH,ai _ _⟩
   have b11:(o.kd==11)=false:=by simp;omega
   have b12:(o.kd==12)=false:=by simp;omega
   by_cases F:o.kd=13
   ·have M:Hid (FT o.sd X=V/\Cc o.sd X=E):=ae (by
     obtain⟨y,G⟩:=HW.out;rw[jN,if_neg D,if_neg L,if_neg l,if_neg r,if_pos F]at y;rw[jc,if_neg D,if_neg L,if_neg l,if_neg r,if_pos F]at G;exact⟨y,G⟩)
    have b13:(o.kd==13)=true:=by simpa using F
    clear D L l r F B9;have J1:Hid (∀z∈aJ ts,aU z=true):=ae (by rw[HX.out];exact M9.out);have J2:=M.out.1;have J3:=M.out.2;rw[<-HX.out]at J2 J3;have J4:=ae J2;have J5:=ae J3;clear J2 J3
    go_wp2_with (first|(go_at_call 128;(with_reducible refine(aiU om om J1 J4 J5).mono ?_);rintro e u ⟨A',c',rfl,T,U,Y,_⟩))
    go_ret2;exact⟨A',c',rfl,T,U,Y.less aH,ai _ _⟩
   have b13:(o.kd==13)=false:=by simpa using F
   by_cases O:o.kd=14
   ·have M:Hid (cutV x0 o.sd o.fr o.tt=V/\sV x0 o.sd o.fr o.tt=E):=ae (by
     obtain⟨y,G⟩:=HW.out;rw[jN,if_neg D,if_neg L,if_neg l,if_neg r,if_neg F,if_pos O,D0.out]at y;rw[jc,if_neg D,if_neg L,if_neg l,if_neg r,if_neg F,if_pos O,D0.out]at G;exact⟨y,G⟩)
    have b14:(o.kd==14)=true:=by simpa using O
    clear D L l r F O B9
    go_upto_region 29 with fail
    refine bZ aj (fun ux _=>?_);refine ag 0 106 ?_;refine ag 1 107 ?_;refine ag 2 108 ?_;refine ag 3 109 ?_;refine ag 4 110 ?_;refine ag 5 111 ?_;refine ag 6 112 ?_;refine ag 7 113 ?_;refine ag 8 114 ?_;refine ay 9 fun K hK=>?_;go_simp
    (with_reducible refine(aib om (ae M.out.2) (ae M.out.1)).mono ?_)
    rintro e ux ⟨A',c',rfl,T,U,Y,_⟩;dsimp only;refine av hK ?_;clear hK K;refine ag 10 116 ?_;refine ag 11 117 ?_;refine ag 12 6 ?_;refine ag 13 7 ?_;refine aO ?_
    go_wp2_with fail
    go_ret2;exact⟨A',c',rfl,T,U,Y.less aH,ai _ _⟩
   have b14:(o.kd==14)=false:=by simpa using O
   by_cases Q:o.kd=15
   ·have M:Hid (DR x0 o.S=V/\yY x0 o.S=E):=ae (by
     obtain⟨y,G⟩:=HW.out;rw[jN,if_neg D,if_neg L,if_neg l,if_neg r,if_neg F,if_neg O,if_pos Q,D0.out]at y;rw[jc,if_neg D,if_neg L,if_neg l,if_neg r,if_neg F,if_neg O,if_pos Q,D0.out]at G;exact⟨y,G⟩)
    have b15:(o.kd==15)=true:=by simpa using Q
    clear D L l r F O Q B9
    go_upto_region 31 with fail
    refine bZ aj (fun ux _=>?_);refine ag 0 120 ?_;refine ag 1 121 ?_;refine ag 2 122 ?_;refine ag 3 123 ?_;refine ag 4 124 ?_;refine ay 5 fun K hK=>?_;go_simp
    (with_reducible refine(aiJ om om (ae M.out.1) (ae M.out.2)).mono ?_)
    rintro e ux ⟨A',c',rfl,T,U,Y,_⟩;dsimp only;refine av hK ?_;clear hK K;refine ag 6 126 ?_;refine ag 7 127 ?_;refine ag 8 6 ?_;refine ag 9 7 ?_;refine aO ?_
    go_wp2_with fail
    go_ret2;exact⟨A',c',rfl,T,U,Y.less aH,ai _ _⟩
   have b15:(o.kd==15)=false:=by simpa using Q
   have M:Hid (uQ X=V/\uR X=E):=ae (by
    obtain⟨y,G⟩:=HW.out;rw[jN,if_neg D,if_neg L,if_neg l,if_neg r,if_neg F,if_neg O,if_neg Q]at y;rw[jc,if_neg D,if_neg L,if_neg l,if_neg r,if_neg F,if_neg O,if_neg Q]at G;exact⟨y,G⟩)
   clear D L l r F O Q B9;have J1:Hid (∀z∈aJ ts,aU z=true):=ae (by rw[HX.out];exact M9.out);have J2:=M.out.1;have J3:=M.out.2;rw[<-HX.out]at J2 J3;have J4:=ae J2;have J5:=ae J3;clear J2 J3
   go_wp2_with (first|(go_at_call 125;(with_reducible refine(Y5 om om J1 J4 J5).mono ?_);rintro e u ⟨A',c',rfl,T,U,Y,_⟩))
   go_ret2;exact⟨A',c',rfl,T,U,Y.less aH,ai _ _⟩
end
end Go.Proofs.YtmkjnlifimffkaaGreat
