/- Lemmas. -/
import Derived.RangeFuncNested
import Derived.RangeFuncBound
import Derived.RangeFuncCalls
import Derived.RangeFuncLeaves
import Derived.OwnWalkIn
import Derived.TacticsInMore
import Derived.LoopNIn
import Derived.LoopIn
import Derived.Test.YtmkjnlifimffkaaGreatF09
import Derived.Test.YtmkjnlifimffkaaGreatF08
namespace Go.Proofs.YtmkjnlifimffkaaGreat
open Go.RowKit Tryz
set_option linter.all false
set_option maxRecDepth 100000
set_option maxHeartbeats 0


variable{i j q:Nat}



section
variable{P:Program}{A B:Option Addr}{c d e:Nat}
def Mt(t)(ht:P.underlying t=some (.slice (P.elem t)))(hs:(P.info? (P.elem t)).map (·.size)=some 1)(b off m d lo)(l:lo<=m)(r:lo<d):
  ∀w,(Instr.slice t (.slice (some ⟨b,off,none⟩) m d) (some (.int .i64 (lo:Int))) none none).run P w=.ok (.slice (some ⟨b,off+lo,none⟩) (m-lo) (d-lo)) w:=by
 intro w;rw[dk w t _ m d ht .i64 lo om om,gO hs];have e:d≠lo:=om;by_cases j:lo=0
 .subst j;simp[Result.andThen,sliced,Addr.add,e]
 .simp[Result.andThen,sliced,Addr.add,e,j]
end
variable{xs:List Int}{c d m:Nat}{A B:Option Addr}{y z:Int}
def rb(ws xs:av):Bool:=aA ws&&aA xs&&decide (2<=xs.length)&&decide (xs.length<=3)&&decide (ws.length=xs.length+1)&&decide (ws.getD 1 0=xs.getD 0 0)
def rc(ws xs:av)(S:Int)(i:Nat):Bool:=iD (xs.getD (i+1) 0) (ws.getD (i+2) 0) S
def kx(ws xs:av)(S:Int)(k:Nat):List Int:=(List.range k).map λi=>lV (xs.getD (i+1) 0) (ws.getD (i+2) 0) S
def E6(ws xs:av)(S:Int):List Int:=ws.getD 0 0::kx ws xs S (xs.length-1)
def re(ws xs:av)(S:Int):Bool:=(List.range (xs.length-1)).all λi=>rc ws xs S i
def rf(ws xs:av)(S:Int):Int:=if rb ws xs then(if re ws xs S then(if aA (E6 ws xs S)then 0 else 20)else 11)else 20
def xA(ws xs:av)(S:Int):List Int:=if rf ws xs S=0 then E6 ws xs S else[]
section
variable{ws:List Int}{S:Int}
def Db(k):kx ws xs S (k+1)=kx ws xs S k++[lV (xs.getD (k+1) 0) (ws.getD (k+2) 0) S]:=by simp[kx,j0]
def E7(k):(kx ws xs S k).length=k:=by simp[kx]
def Mu(hi:i<xs.length-1)(h:rc ws xs S i=false):re ws xs S=false:=by
 rcases e:re ws xs S with _|_
 .rfl
 .rw[re,cZ]at e;rw[e i (hM.2 hi)]at h;cases h
def Ip(h:∀i,i<xs.length-1->rc ws xs S i=true):re ws xs S=true:=by
 rw[re,cZ];exact λi hi=>h i (hM.1 hi)
def Qd(h:rb ws xs=false):rf ws xs S=20/\xA ws xs S=[]:=by
 have:rf ws xs S=20:=by rw[rf,h];rfl
 exact⟨this,by rw[xA,this];rfl⟩
end
section
variable{w:World}{n:Nat}{ws:List Int}
def uz{a c:Int}{v:Int}(hv:Hx (lV a z c=v))(j:Hx (h8 a z c=y)):() 190 #[a,z,c] w (aD w (.tuple #[v,y])):=by
 rw[<-hv.o,<-j.o];exact jJ (wN a z c w)
def cR[a:Sl w A n xs](e:n<=1000000){b:Bool}(hb:Hx (aA xs=b)):() 119 #[(A,n,c)] w (aD w (.bool b)):=by
 obtain⟨a,rfl⟩:=a;rw[<-hb.o];exact(c5 A c xs w e a).mono λ_ _ ⟨j,hb⟩=>⟨j,⟨hb⟩⟩
def z9[a:Sl w A n ws][b:Sl w B m xs](V:n<=1000000)(hm:m<=1000000){S:Int}(j:rb ws xs=false):
  () 126 #[(A,n,c),(B,m,d),S] w (jc w [] 20):=by
 have X:=@bL;obtain⟨a,rfl⟩:=a;have a:Sl w A ws ws:=⟨a,rfl⟩;obtain⟨b,rfl⟩:=b;have b:Sl w B xs xs:=⟨b,rfl⟩;rcases h1:aA ws with _|_
 .have l:=ae h1
  go_in
  go_wp2_with (go_at_call 119;refine mv (cR om l) λu _=>?_)
  go_ret2;exact⟨none,0,rfl,Sl.empty,⟨an _⟩,bV.none,aK⟩
 have l:=ae h1;rcases h2:aA xs with _|_
 .have y:=ae h2
  go_in
  go_wp2_with (first|(go_at_call 119;refine mv (cR om l) λu _=>?_)|(go_at_call 119;refine mv (cR om y) λu _=>?_))
  go_ret2;exact⟨none,0,rfl,Sl.empty,⟨an _⟩,bV.none,aK⟩
 have y:=ae h2;by_cases Y:xs.length<2
 .have d1:decide ((xs.length:Int)<2)=true:=by simp;omega
  go_in
  go_wp2_with (first|(go_at_call 119;refine mv (cR om l) λu _=>?_)|(go_at_call 119;refine mv (cR om y) λu _=>?_))
  refine am aq (λC _=>?_);refine qL [0,1,2,3,504,505,506,7,8,509,510,511,512,513,514,15,16,517,518,519,520,521,522,523,24] ?_;refine aZ ?_
  go_wp2
  go_ret2;exact⟨none,0,rfl,Sl.empty,⟨an _⟩,bV.none,aK⟩
 have d1:decide ((xs.length:Int)<2)=false:=by simp;omega
 by_cases Z:3<xs.length
 .have N:decide (3<(xs.length:Int))=true:=by simp;omega
  go_in
  go_wp2_with (first|(go_at_call 119;refine mv (cR om l) λu _=>?_)|(go_at_call 119;refine mv (cR om y) λu _=>?_))
  refine am aq (λC _=>?_);refine qL [0,1,2,3,4,5,6,7,8,509,510,511,512,513,514,15,16,517,518,519,520,521,522,523,24] ?_;refine aZ ?_
  go_wp2
  go_ret2;exact⟨none,0,rfl,Sl.empty,⟨an _⟩,bV.none,aK⟩
 have N:decide (3<(xs.length:Int))=false:=by simp;omega
 have y1:IntKind.i64.wrap ((xs.length:Int)+1)=(xs.length:Int)+1:=lQ _ om;by_cases D:ws.length=xs.length+1;rotate_left
 .have O:((ws.length:Int) !=(xs.length:Int)+1)=true:=by simp;omega
  go_in
  go_wp2_with (first|(go_at_call 119;(with_reducible refine(cR om l).mono ?_);rintro e u ⟨rfl,_⟩)|(go_at_call 119;(with_reducible refine(cR om y).mono ?_);rintro e u ⟨rfl,_⟩))
  refine am aq (λC _=>?_);refine qL [0,1,2,3,4,5,6,7,8,9,10,11,12,13,14,15,16,517,518,519,520,521,522,523,24] ?_;refine aZ ?_
  go_wp2_with fail
  go_ret2;exact⟨none,0,rfl,Sl.empty,⟨an _⟩,bV.none,aK⟩
 have O:((ws.length:Int) !=(xs.length:Int)+1)=false:=by simp;omega
 have K:3<=ws.length/\ws.length<=4:=om;have P:=ae D;clear D;have x1:(1:Int)<(ws.length:Int):=by omega
 have x2:0<xs.length:=om;obtain⟨ba,oa,z0,rfl,Q,E,F⟩:=a.get (k:=0) om;obtain⟨z1,r⟩:∃z,ws[1]?=some z:=⟨_,bc om⟩;have R:=a.rd.all r;obtain⟨bb,ob,x0,rfl,T,G,I⟩:=b.get (k:=0) om;simp only[gE]at E G;have U:ws.getD 0 0=z0:=by rw[aX,F.o];rfl
 have L:ws.getD 1 0=z1:=by rw[aX,r];rfl
 have M:xs.getD 0 0=x0:=by rw[aX,I.o];rfl
 by_cases J:z1=x0;rotate_left
 .have d4:(z1 !=x0)=true:=by simpa using J
  clear h1 h2 U L M r J j
  go_in
  go_wp2_with (first|(go_at_call 119;(with_reducible refine(cR om l).mono ?_);rintro e u ⟨rfl,_⟩)|(go_at_call 119;(with_reducible refine(cR om y).mono ?_);rintro e u ⟨rfl,_⟩))
  refine am aq (λC _=>?_);refine qL [0,1,2,3,4,5,6,7,8,9,10,11,12,13,14,15,16,17,18,19,20,21,22,23,24] ?_;refine aZ ?_
  go_wp2
  go_ret2;exact⟨none,0,rfl,Sl.empty,⟨an _⟩,bV.none,aK⟩
 exfalso;have D:=P.o;rw[rb,h1,h2,L,M,J]at j;simp at j;omega
end
variable{E:Int}
section
variable{w:World}{n:Nat}{ws:List Int}
def Dc[a:Sl w A n ws][b:Sl w B m xs][ld:Le m d]{S:Int}{V:av}(r:rb ws xs=true)(hE:Hx (rf ws xs S=E))(hV:Hx (xA ws xs S=V)):
  () 126 #[(A,n,c),(B,m,d),S] w (jc w V E):=by
 have CP:=@bL;obtain⟨a,rfl⟩:=a;have a:Sl w A ws ws:=⟨a,rfl⟩;obtain⟨b,rfl⟩:=b;have b:Sl w B xs xs:=⟨b,rfl⟩;have hp:=r;simp only[rb,bW,cu]at hp;obtain⟨⟨⟨⟨⟨h1,h2⟩,h3⟩,h4⟩,h5⟩,h6⟩:=hp;have H1:=ae h1;have H2:=ae h2;have d1:decide ((xs.length:Int)<2)=false:=by simp;omega
 have d2:decide (3<(xs.length:Int))=false:=by simp;omega
 have y1:IntKind.i64.wrap ((xs.length:Int)+1)=(xs.length:Int)+1:=lQ _ om;have d3:((ws.length:Int) !=(xs.length:Int)+1)=false:=by simp;omega
 have hlen:3<=ws.length/\ws.length<=4:=om;have x1:(1:Int)<(ws.length:Int):=by omega
 have x2:0<xs.length:=om;obtain⟨F,C⟩:=lh (xs.length-1);have N:F+2=ws.length/\F<=2/\F+1=xs.length:=om;have D:=ae N;obtain⟨ba,oa,z0,rfl,oba,X,O⟩:=a.get (k:=0) om;obtain⟨z1,J⟩:∃z,ws[1]?=some z:=⟨_,bc om⟩;have ca1:=a.rd.all J;obtain⟨bb,ob,x0,rfl,obb,Y,Q⟩:=b.get (k:=0) om;simp only[gE]at X Y;have g0:ws.getD 0 0=z0:=by rw[aX,O.o];rfl
 obtain rfl:z1=x0:=by
  have g1:ws.getD 1 0=z1:=by rw[aX,J];rfl
  have g2:xs.getD 0 0=x0:=by rw[aX,Q.o];rfl
  rw[<-g1,h6,g2]
 have hld:=ld.le;have l1:=Mt (P:=prog) 25 aq aq bb ob xs.length d 1 om om;rw[C]at l1;simp only[Ui]at l1;have Z:Hx (E6 ws xs S=z0::kx ws xs S F):=ae (by rw[E6,g0,C]);have HP:=ae r;have R:=ae C;clear g0 O Q r h1 h2 J h5 h6 C N
 go_in
 go_wp2_with (first|(go_at_call 119;(with_reducible refine(cR om H1).mono ?_);rintro e u ⟨rfl,_⟩)|(go_at_call 119;(with_reducible refine(cR om H2).mono ?_);rintro e u ⟨rfl,_⟩))
 refine am aq (λl _=>?_);refine qL [0,1,2,3,4,5,6,7,8,9,10,11,12,13,14,15,16,17,18,19,20,21,22,23,24] ?_;refine aZ ?_
 go_upto_region 6 with fail
 obtain⟨v,hv⟩:=lg (l.alloc (.cells #[z0] 3));have pv:aj v l:=hv▸aj.alloc _ _;have ho:az v l.1.size 3 (some ⟨l.1.size,0,none⟩) 1 [z0]:=by rw[hv];exact az.gz (zs:=[z0]) (Own.new l 3 [z0]) (an _) aG
 rw[<-hv];clear hv;obtain⟨A0,T⟩:=lh ((some ⟨l.1.size,0,none⟩:cD));rw[T]at ho⊢;clear T
 go_wp2_with fail
 go_loopw [8,53] (λp q wr=>∃(k:Nat) (M:cD) (U:Nat) (L:av),k<=F/\q=.int .i64 k/\p=.slice M L U/\Hx (L=z0::kx ws xs S k)/\L.length<=10/\Hx (∀i,i<k->rc ws xs S i=true)/\az wr l.1.size 3 M U L/\aj wr l) (λ_ q _=>F-(intOf q).toNat)
 case atStart=>exact⟨0,A0,1,[z0],aT _,rfl,rfl,ae rfl,aG,ae λi hi=>om,ho,aK⟩
 case round=>
  clear ho;obtain⟨k,M,U,L,hk,rfl,rfl,HL,hL,HW,j,hp⟩:=hrel;by_cases bK:k<F
  .obtain⟨x,hx⟩:∃x,xs[1+k]?=some x:=⟨_,bc (by have:=D.o;omega)⟩;obtain⟨y,hy⟩:∃y,ws[k+2]?=some y:=⟨_,bc (by have:=D.o;omega)⟩;have cx:=b.rd.all hx;have cy:=a.rd.all hy;rw[<-nl]at cx;have Mv:k+2<ws.length:=by have:=D.o;omega
   have gx:xs.getD (k+1) 0=x:=by rw[aX,r6 k 1,hx];rfl
   have gy:ws.getD (k+2) 0=y:=by rw[aX,hy];rfl
   obtain⟨q,hq⟩:=lh (lV x y S);have HQ:=ae hq;rcases hw:iD x y S with _|_
   .have HE:Hx (h8 x y S=11):=ae (by simp[h8,hw]);have G:rf ws xs S=11:=by rw[rf,HP.o,Mu (i:=k) (by rw[R.o];exact bK) (by rw[rc,gx,gy];exact hw)];rfl
    obtain rfl:E=11:=by rw[<-hE.o,G]
    obtain rfl:V=[]:=by rw[<-hV.o,xA,G];rfl
    go_wp2_with (go_at_call 190;refine mv (uz HQ HE) λu _=>?_)
    go_ret2;exact⟨none,0,rfl,Sl.empty,⟨an _⟩,bV.none,aK⟩
   .have HE:Hx (h8 x y S=0):=ae (by simp[h8,hw]);have Qe:Hx (∀i,i<k+1->rc ws xs S i=true):=λi hi=>by
     by_cases h:i=k
     .subst h;rw[rc,gx,gy];exact hw
     .exact HW.o i om
    have HN:Hx (L++[q]=z0::kx ws xs S (k+1)):=ae (by rw[Db,gx,gy,hq,HL.o];rfl)
    go_wp2_with (first|(go_at_call 190;refine mv (uz HQ HE) λu _=>?_)|(at_builtin;refine hC rfl _ _ _ rfl 3 underlying25 aq l.1.size M U L rfl j.at q rfl om ai ?_;intro A3 c3 w3 qm qR _ _))
    have:aj w3 l:=⟨(a7 l _).trans qR⟩;go_roundw
    .exact⟨k+1,A3,c3,L++[q],om,by go_num,aG,HN,by have:=cv List.length HN;rw[dm,E7]at this;have:=D.o;omega,Qe,qm,aK⟩
    .simp[intOf];omega
  .obtain rfl:F=k:=om;have I:re ws xs S=true:=Ip (by rw[R.o];exact HW);have sL:Sl wr M L L:=⟨j.rd,rfl⟩;have K:E6 ws xs S=L:=by rw[Z.o,HL.o]
   rcases hr:aA L with _|_
   .have HR:=ae hr;have G:rf ws xs S=20:=by rw[rf,HP.o,I,K,hr];rfl
    obtain rfl:E=20:=by rw[<-hE.o,G]
    obtain rfl:V=[]:=by rw[<-hV.o,xA,G];rfl
    go_wp2_with (go_at_call 119;refine mv (cR om HR) λu _=>?_)
    go_ret2;exact⟨none,0,rfl,Sl.empty,⟨an _⟩,bV.none,aK⟩
   .have HR:=ae hr;have G:rf ws xs S=0:=by rw[rf,HP.o,I,K,hr];rfl
    obtain rfl:E=0:=by rw[<-hE.o,G]
    obtain rfl:L=V:=by rw[<-hV.o,xA,G,K];rfl
    go_wp2_with (go_at_call 119;refine mv (cR om HR) λu _=>?_)
    go_ret2;exact⟨M,U,rfl,ao,⟨j.gW⟩,⟨λad e=>aO (ai (w:=w) (w':=l)) (j.fresh ad e)⟩,aK⟩
def Mw[Sl w A n ws][Sl w B m xs][Le m d](b:n<=1000000)(hm:m<=1000000){S:Int}{V:av}(hE:Hx (rf ws xs S=E))(hV:Hx (xA ws xs S=V)):
  () 126 #[(A,n,c),(B,m,d),S] w (jc w V E):=by
 rcases hp:rb ws xs with _|_
 .have⟨e1,e2⟩:=Qd (S:=S) hp;obtain rfl:E=20:=by rw[<-hE.o,e1]
  obtain rfl:V=[]:=by rw[<-hV.o,e2]
  exact z9 b hm hp
 .exact Dc hp hE hV
end
variable{w':World}{C:Option Addr}{e:Nat}{zs:List Int}{ss:List Sp}{side:Int}
def E8(b:Int):List Int->List (List Int)->Int
 |_,[]=>0
 |s,t::l=>if eM s t b=0 then E8 b (e7 s t b) l else eM s t b
def E9(b:Int):List Int->List (List Int)->List Int
 |s,[]=>s
 |s,t::l=>E9 b (e7 s t b) l
def Fa(b:Int):List (List Int)->Int
 |[]=>0
 |t::l=>if l.isEmpty&& !(decide (0<=b)&&decide (b<t.length))then 11 else E8 b t l
def Mx(b:Int)(L:fV):List Int:=if Fa b L=0 then E9 b (L.headD []) L.tail else[]
section
variable{w:World}{n k N:Nat}{ps bs:List Int}{V:List Int}
def Fb{ts:av}:(e7 zs ts side).length<=zs.length:=by
 unfold e7 i0;split<;>simp
def Iq[a:du w B n ss][le:Le n c](h1:1<=n)(hn:n<=1000000)(hR:Hx (∀z∈aW ss,aA z=true))(hV:Hx (Mx side (aW ss)=V))(hE:Hx (Fa side (aW ss)=E)):
  () 128 #[side,.slice B n c] w (jc w V E):=by
 have CP:=@bL;have K:=le.le;obtain⟨L,hL⟩:=lh (aW ss);have LN:Hx (n=L.length):=ae (by rw[<-hL];exact a.len.trans cj.symm);have HG:Hx (∀k:Nat,k<n->∃b off A m c zs,B=some ⟨b,off,none⟩/\Old b w/\w.cell? (b,off+k)=some (.slice A m c)/\Sl w A m zs/\Le m c/\m<=4/\Hx (L[k]?=some zs)):=λk hk=>by
  have⟨b,o,A,m,c,z,e1,e2,e3,e4,e5,e6⟩:=a.get hk;exact⟨b,o,A,m,c,z,e1,e2,e3,e4,e5,by rw[e4.len];exact cw (hR.o _ (gP e6.o)),ae (by rw[<-hL];exact e6.o)⟩
 rw[hL]at hV hE;obtain⟨b,o,A0,U,c0,z0,rfl,ob,v0,Y,_,m4,e0⟩:=HG.o 0 om;have v0':w.cell? (b,o)=some (.slice A0 U c0):=v0;obtain⟨r,hr⟩:∃r,L=z0::r:=by
  have:=e0.o;cases L with
  |nil=>cases this
  |cons x r=>injection this with e;exact⟨r,by rw[e]⟩
 obtain⟨l,rfl⟩:∃l,n=l+1:=⟨n-1,om⟩;subst hr;have X:Hx (r.length=l):=ae (by have:=LN.o;simp at this;omega);have Z:z0.length<=4:=by rw[<-Y.len];exact m4
 have F:=hE.o;have G:=hV.o;rw[Mx]at G;by_cases y:l=0/\¬(0<=side/\side<z0.length)
 .obtain⟨rfl,ab7⟩:=y;obtain rfl:r=[]:=jY X.o;have M:Fa side [z0]=11:=by simp[Fa];omega
  obtain rfl:E=11:=by rw[<-F,M]
  obtain rfl:V=[]:=by rw[<-G,M];rfl
  have hm0:U=z0.length:=Y.len;by_cases pf:side<0
  .go_in
   go_wp2
   go_ret2;exact⟨none,0,rfl,Sl.empty,Le.same _,bV.none,aK⟩
  .have xb:(U:Int)<=side:=by omega
   go_in
   go_wp2
   go_ret2;exact⟨none,0,rfl,Sl.empty,Le.same _,bV.none,aK⟩
 have HJ:Hx (E8 side z0 r=E):=ae (by
  rw[<-F,Fa,ag];intro K;simp at K;obtain⟨rfl,K⟩:=K;exact y ⟨by simpa using X.o.symm,om⟩)
 have HS:Hx (V=if E=0 then E9 side z0 r else[]):=ae (by rw[<-G,F];rfl);have HQ:Hx (l=0->0<=side/\side<U):=λh=>by
  have:=Y.len;rcases Classical.em (0<=side/\side<z0.length)with h'|h'
  .omega
  .exact absurd ⟨h,h'⟩ y
 have⟨A',qZ,ha⟩:=sA b o l c K;have HA:=ae ha;by_cases O:l=0
 .have⟨p0,p1⟩:=HQ.o O;subst O;obtain rfl:r=[]:=jY X;obtain rfl:E=0:=HJ.o.symm;obtain rfl:V=z0:=by rw[HS.o];rfl
  go_in
  go_wp2_with (go_at_call 103;refine(pi om).mono ?_;rintro e u ⟨gS,rfl,sS,fS,_⟩)
  refine ado 1 ?_;rw[hU]
  go_wp2
  go_ret2;exact⟨_,_,rfl,sS,Le.same _,fS.less ai,aK⟩
 have My:0<l:=om;obtain rfl:=HA.o My
 go_in
 go_wp2_with (go_at_call 103;refine(pi om).mono ?_;rintro e u ⟨gS,rfl,sS,fS,_⟩)
 go_loopw [6,33] (λs i wr=>∃(k:Nat) (P:cD) (c2:Nat) (T:av),k<=l/\i=.int .i64 k/\s=.slice P T c2/\Sl wr P T T/\Le T.length c2/\bV w.1.size P/\T.length<=4/\Hx (E8 side T (r.drop k)=E)/\Hx (E9 side T (r.drop k)=E9 side z0 r)/\aj wr u) (λ_ i _=>l-(intOf i).toNat)
 .exact⟨0,_,_,z0,aT _,rfl,rfl,sS,Le.same _,fS.less ai,Z,HJ,ae rfl,aK⟩
 ·
  obtain⟨k,P,c2,T,hk,rfl,rfl,sT,lT,fT,hT,I,Q,hp⟩:=hrel;by_cases bK:k<l
  .have⟨b',o',A1,m1,c1,z1,eb,ob',v1,s1,_,Im,ht⟩:=HG.o (k+1) om;cases eb;have Ms:w.cell? (b,o+1+k)=some (.slice A1 m1 c1):=by rw[show o+1+k=o+(k+1)from om];exact v1
   have HD:Hx (r.drop k=z1::r.drop (k+1)):=ae (by
    have⟨Fc,e⟩:=a5.1 (show r[k]?=some z1 from ht.o);rw[<-e];exact ei Fc)
   obtain⟨J,R⟩:=lh (eM T z1 side);obtain⟨V1,j⟩:=lh (e7 T z1 side);change Hx _ at R j;by_cases D:J=0
   .subst D
    go_wp2_with (go_at_call 191;refine(EX om om R j).mono ?_;rintro e u ⟨A',c',rfl,sJ,lJ,fJ,_⟩)
    go_roundw
    .exact⟨k+1,A',c',V1,om,by go_num,rfl,sJ,lJ,fJ.less ai,by rw[<-j.o];have:=Fb (zs:=T) (ts:=z1) (side:=side);omega,ae (by have:=I.o;rw[HD.o]at this;simpa[E8,R.o,j.o]using this),ae (by have:=Q.o;rw[HD.o]at this;simpa[E9,j.o]using this),aK⟩
    .simp[intOf];omega
   .have e1:(J !=0)=true:=by simp[D]
    obtain rfl:E=J:=by have:=I.o;rw[HD.o]at this;simp[E8,R.o,D]at this;exact this.symm
    obtain rfl:V=[]:=by rw[HS.o,ag D]
    go_wp2_with (go_at_call 191;refine(EX om om R j).mono ?_;rintro e u ⟨A',c',rfl,sJ,lJ,fJ,_⟩)
    go_ret2;exact⟨none,0,rfl,Sl.empty,Le.same _,bV.none,aK⟩
  .have S:Hx (r.drop k=[]):=ey (by rw[X.o];omega);obtain rfl:E=0:=by have:=I.o;rw[S.o]at this;exact this.symm
   obtain rfl:V=T:=by rw[HS.o,ah rfl,<-Q.o,S.o];rfl
   go_wp2
   go_ret2;exact⟨P,c2,rfl,sT,lT,fT,aK⟩
end
variable{A1 K:Option Addr}{R c' c1 cx g l m1 mx np:Nat}{T:TypeId}{L:List (List Int)}
structure gj where
 kd:Int
 k:Int
 wd:Int
 st:Int
 sd:Int
 fr:Int
 tt:Int
 S:List Int
def e4(o:gj)(ps xs:fV):Int:=
 if o.kd=8 then kW (ps.getD 0 []) (ps.getD 1 []) (xs.getD 0 [])else if o.kd=9 then mU [ps.getD 0 [],xs.getD 0 []]else if o.kd=10 then rf (ps.getD 0 []) (xs.getD 0 []) o.st
 else if o.kd=11\/o.kd=12 then q9 (xs.getD 0 []) o.wd o.st else if o.kd=13 then Fa o.sd xs else if o.kd=14 then lW (xs.getD 0 []) o.sd o.fr o.tt else if o.kd=15 then z8 (xs.getD 0 []) o.S else mU xs
def fD(o:gj)(ps xs:fV):List Int:=
 if o.kd=8 then kV (ps.getD 0 []) (ps.getD 1 []) (xs.getD 0 [])else if o.kd=9 then mT [ps.getD 0 [],xs.getD 0 []]else if o.kd=10 then xA (ps.getD 0 []) (xs.getD 0 []) o.st
 else if o.kd=11\/o.kd=12 then ra (xs.getD 0 []) o.wd o.st else if o.kd=13 then Mx o.sd xs else if o.kd=14 then lX (xs.getD 0 []) o.sd o.fr o.tt else if o.kd=15 then In (xs.getD 0 []) o.S else mT xs
def gj.right(o:gj):Bool:=qr o.kd o.k o.wd o.st o.sd o.fr o.tt o.S
def gj.cnt(o:gj)(np nx:Nat):Int:=kT o.kd o.k o.wd o.st o.sd o.fr o.tt o.S np nx
def da(o:gj)(ps xs:fV):Int:=
 if o.cnt ps.length xs.length=0 then(if ps.all aA&&xs.all aA then e4 o ps xs else 20)else o.cnt ps.length xs.length
def cy(o:gj)(ps xs:fV):List Int:=if da o ps xs=0 then fD o ps xs else[]
section
variable{w:World}{n k N:Nat}{ps bs:List Int}{ts:List Sp}{V:List Int}
def nS{v:Bool}[Sl w A n zs](b:n<=1000000)(hv:Hx (aA zs=v)):() 119 #[(A,n,c)] w (aD w (.bool v)):=tA (p9 b) (by rw[hv.o])
def uA{o:gj}{nx:Nat}(h:o.cnt np nx=0):o.right=true/\fM o.kd<=nx/\(nx:Int)<=ia o.kd/\(np:Int)=g7 o.kd:=by
 unfold gj.cnt kT at h
 split at h
 .rename_i hr
  split at h
  .omega
  .rename_i b;exact⟨hr,om,om,om⟩
 .omega
theorem Mz{c0:Nat}{z0 z1:av}[h:Bx w g T #[(K,l,c0),(A1,m1,c1)]][r:Sl w K l z0][y:Le l c0][u:Sl w A1 m1 z1][l1:Le m1 c1]:
  du w g 2 [⟨K,l,c0,z0⟩,⟨A1,m1,c1,z1⟩]:=
 ⟨λj x b=>by
  match j with
  |0=>simp at b;subst b;exact⟨g,0,rfl,h.al.lt,h.al.cell 0,r.rd,r.len,y.le⟩
  |1=>simp at b;subst b;exact⟨g,0,rfl,h.al.lt,h.al.cell 1,u.rd,u.len,l1.le⟩
  |j+2=>simp at b,rfl⟩
end
def Fe(h:mU L≠0):mT L=[]:=by
 unfold mU at h;unfold mT
 split at h
 .omega
 .rename_i b;rw[ag b]
def Qf{o:gj}{ps xs:fV}(h:e4 o ps xs≠0):fD o ps xs=[]:=by
 unfold e4 at h;unfold fD
 split
 .rename_i b;rw[ah b]at h;unfold kW at h;unfold kV
  split at h
  .omega
  .rename_i y;rw[ag y]
 rename_i z;rw[ag z]at h
 split
 .rename_i b;rw[ah b]at h;exact Fe h
 rename_i B;rw[ag B]at h
 split
 .rename_i b;rw[ah b]at h;unfold xA;rw[ag h]
 rename_i j;rw[ag j]at h
 split
 .rename_i b;rw[ah b]at h;unfold q9 at h;unfold ra
  split at h
  .rename_i hr;rw[hr];unfold h8 at h
   split at h
   .omega
   .rename_i C;rw[ag];intro e;rw[bW]at e;exact C e.2
  .rename_i hr;rw[ag];intro e;rw[bW]at e;exact hr e.1
 rename_i l;rw[ag l]at h
 split
 .rename_i b;rw[ah b]at h;unfold Mx;rw[ag h]
 rename_i m;rw[ag m]at h
 split
 .rename_i b;rw[ah b]at h;unfold lX;rw[ag h]
 rename_i r;rw[ag r]at h
 split
 .rename_i b;rw[ah b]at h;unfold In;rw[ag h]
 rename_i u;rw[ag u]at h;exact Fe h
section
variable{w:World}{n k N nx:Nat}{ts:List Sp}{V:List Int}{o:gj}
def du.all(h:du w B n ss)(hL:aW ss=L):Hx (n=L.length/\∀k:Nat,k<n->∃b off A m c zs,B=some ⟨b,off,none⟩/\Old b w/\w.cell? (b,off+k)=some (.slice A m c)/\Sl w A m zs/\Le m c/\Hx (L[k]?=some zs)):=
 ae ⟨by rw[<-hL];exact h.len.trans cj.symm,λk j=>by
  obtain⟨b,o,A,m,c,z,l,r,u,y,D,F⟩:=h.get j;exact⟨b,o,A,m,c,z,l,r,u,y,D,ae (by rw[<-hL];exact F.o)⟩⟩
def kD[Sl w A n o.S](hn:n<=1000000)[a:du w B m ss][x:du w C nx ts][Le nx cx](hm:m<=1000000)(hx:nx<=1000000)(hz:Hx (∀z∈aW ss++aW ts,z.length<=1000000))(hV:Hx (cy o (aW ss) (aW ts)=V))(hE:Hx (da o (aW ss) (aW ts)=E)):
  () 74 #[.agg (fL o.kd o.k o.wd o.st o.sd o.fr o.tt (A,n,d)),(B,m,e),(C,nx,cx)] w (jc w V E):=by
 obtain⟨CB,CP⟩:=h5;obtain⟨P,hP⟩:=lh (aW ss);obtain⟨X,hX⟩:=lh (aW ts);have GA:=a.all hP;have GX:=x.all hX;have HX:=ae hX;rw[hP,hX]at hV hE hz;clear hP hX a;obtain⟨ce,Q⟩:=lh (o.cnt P.length X.length);have HC:Hx (kT o.kd o.k o.wd o.st o.sd o.fr o.tt o.S m nx=ce):=ae (by rw[<-Q,gj.cnt,GA.o.1,GX.o.1]);by_cases h0:ce=0;rotate_left
 .have b0:(ce !=0)=true:=by simp[h0]
  obtain⟨rfl,rfl⟩:V=[]/\ce=E:=by
   have G:da o P X=ce:=by rw[da,Q,ag h0]
   rw[<-hV.o,<-hE.o,cy,G,ag h0];exact⟨rfl,rfl⟩
  clear Q h0
  go_in
  go_wp2_with (go_at_call 104;(with_reducible refine(fC hn HC).mono ?_);rintro e u ⟨rfl,_⟩)
  go_ret2;exact⟨none,0,rfl,Sl.empty,Le.same _,bV.none,aK⟩
 subst h0;obtain⟨hr,i1,i2,i3⟩:=uA Q;rw[<-GA.o.1]at i3;rw[<-GX.o.1]at i1 i2;have I:=ae (And.intro i1 (And.intro i2 i3));have nT:Hx (P.all aA=true->X.all aA=true->V=(if e4 o P X=0 then fD o P X else[])/\E=e4 o P X):=λh1 F=>by
  have G:da o P X=e4 o P X:=by rw[da,ah Q,h1,F];rfl
  rw[<-hV.o,<-hE.o,cy,G];exact⟨rfl,rfl⟩
 have YE:Hx (P.all aA=false\/X.all aA=false->V=[]/\E=20):=λh1=>by
  have G:da o P X=20:=by
   rw[da,ah Q,ag];rcases h1 with h1|h1<;>simp[h1]
  rw[<-hV.o,<-hE.o,cy,G];exact⟨rfl,rfl⟩
 clear Q hV hE i1 i2 i3
 go_in
 go_wp2_with (go_at_call 104;(with_reducible refine(fC hn HC).mono ?_);rintro e u ⟨rfl,_⟩)
 go_loopw [24] (λi wr=>∃j:Nat,j<=m/\i=.int .i64 j/\Hx ((P.take j).all aA=true)/\aj wr u) (λi _=>m-(intOf i).toNat)
 .exact⟨0,aT _,rfl,ae rfl,aK⟩
 ·
  obtain⟨j,hj,rfl,HT,hp⟩:=hrel;by_cases bK:j<m
  .obtain⟨b,q,A1,m1,c1,z1,rfl,ob,v1,s1,_,G⟩:=GA.o.2 j bK;have Im:m1<=1000000:=by rw[s1.len];exact hz.o _ (lK _ (gP G.o))
   rcases hv:aA z1 with _|_
   .obtain⟨rfl,rfl⟩:=YE.o (.inl (tC G.o hv));have Hv:=ae hv;clear hv G
    go_wp2_with (go_at_call 119;(with_reducible refine(nS Im Hv).mono ?_);rintro e u ⟨rfl,_⟩)
    go_ret2;exact⟨none,0,rfl,Sl.empty,Le.same _,bV.none,aK⟩
   .have Hv:=ae hv;have ky:=ae (nR HT G.o hv);clear hv G
    go_wp2_with (go_at_call 119;(with_reducible refine(nS Im Hv).mono ?_);rintro e u ⟨rfl,_⟩)
    go_roundw
    .exact⟨j+1,om,by go_num,ky,aK⟩
    .simp[intOf];omega
  have HA:Hx (P.all aA=true):=tD HT (by rw[<-GA.o.1];omega);clear HT
  go_wp2_with fail
  go_loopw [34] (λi wr=>∃j:Nat,j<=nx/\i=.int .i64 j/\Hx ((X.take j).all aA=true)/\aj wr u) (λi _=>nx-(intOf i).toNat)
  .exact⟨0,aT _,rfl,ae rfl,aK⟩
  ·
   rename_i wr1 _;obtain⟨j,hj,rfl,HT,hp⟩:=hrel;by_cases bK:j<nx
   .obtain⟨b,q,A1,m1,c1,z1,rfl,ob,v1,s1,_,G⟩:=GX.o.2 j bK;have Im:m1<=1000000:=by rw[s1.len];exact hz.o _ (lL _ (gP G.o))
    rcases hv:aA z1 with _|_
    .obtain⟨rfl,rfl⟩:=YE.o (.inr (tC G.o hv));have Hv:=ae hv;clear hv G
     go_wp2_with (go_at_call 119;(with_reducible refine(nS Im Hv).mono ?_);rintro e u ⟨rfl,_⟩)
     go_ret2;exact⟨none,0,rfl,Sl.empty,Le.same _,bV.none,aK⟩
    .have Hv:=ae hv;have ky:=ae (nR HT G.o hv);clear hv G
     go_wp2_with (go_at_call 119;(with_reducible refine(nS Im Hv).mono ?_);rintro e u ⟨rfl,_⟩)
     go_roundw
     .exact⟨j+1,om,by go_num,ky,aK⟩
     .simp[intOf];omega
   have HB:Hx (X.all aA=true):=tD HT (by rw[<-GX.o.1];omega);have HW:Hx (fD o P X=V/\e4 o P X=E):=ae (by
    obtain⟨h1,F⟩:=nT.o HA HB;refine⟨?_,F.symm⟩;rw[h1]
    split
    .rfl
    .rename_i h;exact Qf h)
   have HRA:Hx (∀z∈P,aA z=true):=λz hz=>cZ.1 HA z hz;have U2:Hx (∀z∈X,aA z=true):=λz hz=>cZ.1 HB z hz;clear HT nT YE HA HB hz;obtain⟨b0,q0,A0,m0,c0,x0,rfl,YF,v0,s0,lx0,e0⟩:=GX.o.2 0 (by have:=I.o.1;unfold fM at this;split at this<;>omega);have m0l:m0<=4:=by rw[s0.len];exact cw (U2.o _ (gP e0.o))
   have x1:0<nx:=by have:=I.o.1;unfold fM at this;split at this<;>omega
   have v0':w.cell? (b0,q0)=some (.slice A0 m0 c0):=v0;clear v0;have D0:Hx (X.getD 0 []=x0):=ae (by rw[aX,e0.o];rfl);obtain⟨b9,B9⟩:=lh ((o.kd==9));by_cases y:o.kd=8
   .have tE:m=2:=by have:=I.o.2.2;rw[g7,ah y]at this;omega
    obtain⟨b1,q1,A1,m1,c1,p0,rfl,q6,v1,s1,_,G⟩:=GA.o.2 0 om;obtain⟨b2,q2,A2,m2,c2,p1,eb,jf,v2,s2,_,e2⟩:=GA.o.2 1 om;injection eb with eb;injection eb with eb1 eb2;subst eb1 eb2
    have Ms:w.cell? (b1,q1)=some (.slice A1 m1 c1):=v1;have L:Hx (kV p0 p1 x0=V/\kW p0 p1 x0=E):=ae (by
     obtain⟨h1,F⟩:=HW.o;have d1:P.getD 0 []=p0:=by rw[aX,G.o];rfl
     have d2:P.getD 1 []=p1:=by rw[aX,e2.o];rfl
     rw[fD,ah y,d1,d2,D0.o]at h1;rw[e4,ah y,d1,d2,D0.o]at F;exact⟨h1,F⟩)
    have g1:0<m:=om;have g2:(1:Int)<(m:Int):=by omega
    have b8:(o.kd==8)=true:=by simpa using y
    clear y tE v1
    go_upto_region 18 with fail
    refine am aq (λux _=>?_);refine qL [0,1,2,3,4,5,6,7,8] ?_;refine aM 9 λK hK=>?_;go_simp
    (with_reducible refine(Mr om (ae L.o.1) (ae L.o.2)).mono ?_)
    rintro e ux ⟨T,c',rfl,U,Y,Z,_⟩;dsimp only;refine aL hK ?_;refine qL [10,11,12,13] ?_;refine aZ ?_
    go_wp2_with fail
    go_ret2;exact⟨T,c',rfl,U,Y,Z.less ai,aK⟩
   have b8:(o.kd==8)=false:=by simpa using y
   by_cases J:o.kd=9
   .have pm:m=1:=by have:=I.o.2.2;rw[g7,ag y,ah (.inl J)]at this;omega
    obtain⟨b1,q1,A1,m1,c1,p0,rfl,q6,v1,s1,lp1,G⟩:=GA.o.2 0 om;have Ms:w.cell? (b1,q1)=some (.slice A1 m1 c1):=v1;have L:Hx (mT (aW [⟨A1,m1,c1,p0⟩,⟨A0,m0,c0,x0⟩])=V/\mU (aW [⟨A1,m1,c1,p0⟩,⟨A0,m0,c0,x0⟩])=E):=ae (by
     obtain⟨h1,F⟩:=HW.o;have d1:P.getD 0 []=p0:=by rw[aX,G.o];rfl
     rw[fD,ag y,ah J,d1,D0.o]at h1;rw[e4,ag y,ah J,d1,D0.o]at F;exact⟨h1,F⟩)
    have Ff:Hx (∀z∈aW [⟨A1,m1,c1,p0⟩,⟨A0,m0,c0,x0⟩],aA z=true):=ae (by
     intro z hz;simp[aW]at hz;rcases hz with rfl|rfl
     .exact HRA.o _ (gP G.o)
     .exact U2.o _ (gP e0.o))
    have g1:0<m:=om;have b9:(o.kd==9)=true:=by simpa using J
    clear y J pm v1 B9
    go_upto_region 20 with fail
    refine am aq (λux _=>?_);refine qL [0,1,2,3,4,5] ?_;refine aM 6 λK hK=>?_;go_simp;refine aL hK ?_;refine bh (λux _ _=>?_);refine aM 7 λK hK=>?_;go_simp
    (with_reducible refine(E5 (ss:=[⟨A1,m1,c1,p0⟩,⟨A0,m0,c0,x0⟩]) (a:=Mz) om om Ff (ae L.o.1) (ae L.o.2)).mono ?_)
    rintro e ux ⟨T,c',rfl,U,Y,Z,_⟩;dsimp only;refine aL hK ?_;refine qL [8,9,10,11] ?_;refine aZ ?_
    go_wp2_with fail
    go_ret2;exact⟨T,c',rfl,U,Y,Z.less ai,aK⟩
   have b9:(o.kd==9)=false:=by simpa using J
   by_cases l:o.kd=10
   .have pm:m=1:=by have:=I.o.2.2;rw[g7,ag y,ah (.inr l)]at this;omega
    obtain⟨b1,q1,A1,m1,c1,p0,rfl,q6,v1,s1,lp1,G⟩:=GA.o.2 0 om;have Ms:w.cell? (b1,q1)=some (.slice A1 m1 c1):=v1;have Qg:m1<=4:=by rw[s1.len];exact cw (HRA.o _ (gP G.o))
    have L:Hx (xA p0 x0 o.st=V/\rf p0 x0 o.st=E):=ae (by
     obtain⟨h1,F⟩:=HW.o;have d1:P.getD 0 []=p0:=by rw[aX,G.o];rfl
     rw[fD,ag y,ag J,ah l,d1,D0.o]at h1;rw[e4,ag y,ag J,ah l,d1,D0.o]at F;exact⟨h1,F⟩)
    have g1:0<m:=om;have YG:(o.kd==10)=true:=by simpa using l
    clear y J l pm v1 B9
    go_upto_region 22 with fail
    refine am aq (λux _=>?_);refine qL [0,1,2,3,4,5,6,7] ?_;refine aM 8 λK hK=>?_;go_simp
    (with_reducible refine(Mw om om (ae L.o.2) (ae L.o.1)).mono ?_)
    rintro e ux ⟨T,c',rfl,U,Y,Z,_⟩;dsimp only;refine aL hK ?_;refine qL [9,10,11,12] ?_;refine aZ ?_
    go_wp2_with fail
    go_ret2;exact⟨T,c',rfl,U,Y,Z.less ai,aK⟩
   have YG:(o.kd==10)=false:=by simpa using l
   by_cases r:o.kd=11\/o.kd=12
   .have L:Hx (ra x0 o.wd o.st=V/\q9 x0 o.wd o.st=E):=ae (by
     obtain⟨h1,F⟩:=HW.o;rw[fD,ag y,ag J,ag l,ah r,D0.o]at h1;rw[e4,ag y,ag J,ag l,ah r,D0.o]at F;exact⟨h1,F⟩)
    have YH:=ae r;clear y J l r B9;rcases xB:(o.kd==11)with _|_
    focus
     have Dd:(o.kd==12)=true:=by
      rcases YH.o with e|e
      .rw[e]at xB;cases xB
      .simpa using e
    rotate_left
    all_goals
     go_upto_region 25 with fail
     refine am aq (λux _=>?_);refine qL [0,1,2,3,4,5,6] ?_;refine aM 7 λK hK=>?_;go_simp
     (with_reducible refine(uy om (ae L.o.2) (ae L.o.1)).mono ?_)
     rintro e ux ⟨T,c',rfl,U,Y,Z,_⟩;dsimp only;refine aL hK ?_;refine qL [8,9,10,11] ?_;refine aZ ?_
     go_wp2_with fail
     go_ret2;exact⟨T,c',rfl,U,Y,Z.less ai,aK⟩
   have b11:(o.kd==11)=false:=by simp;omega
   have b12:(o.kd==12)=false:=by simp;omega
   by_cases D:o.kd=13
   .have L:Hx (Mx o.sd X=V/\Fa o.sd X=E):=ae (by
     obtain⟨h1,F⟩:=HW.o;rw[fD,ag y,ag J,ag l,ag r,ah D]at h1;rw[e4,ag y,ag J,ag l,ag r,ah D]at F;exact⟨h1,F⟩)
    have b13:(o.kd==13)=true:=by simpa using D
    clear y J l r D B9;have J1:Hx (∀z∈aW ts,aA z=true):=ae (by rw[HX.o];exact U2);have J2:=L.o.1;have J3:=L.o.2;rw[<-HX.o]at J2 J3;have J4:=ae J2;have J5:=ae J3;clear J2 J3
    go_wp2_with (go_at_call 128;(with_reducible refine(Iq om om J1 J4 J5).mono ?_);rintro e u ⟨T,c',rfl,U,Y,Z,_⟩)
    go_ret2;exact⟨T,c',rfl,U,Y,Z.less ai,aK⟩
   have b13:(o.kd==13)=false:=by simpa using D
   by_cases M:o.kd=14
   .have L:Hx (lX x0 o.sd o.fr o.tt=V/\lW x0 o.sd o.fr o.tt=E):=ae (by
     obtain⟨h1,F⟩:=HW.o;rw[fD,ag y,ag J,ag l,ag r,ag D,ah M,D0.o]at h1;rw[e4,ag y,ag J,ag l,ag r,ag D,ah M,D0.o]at F;exact⟨h1,F⟩)
    have b14:(o.kd==14)=true:=by simpa using M
    clear y J l r D M B9
    go_upto_region 29 with fail
    refine am aq (λux _=>?_);refine qL [0,1,2,3,4,5,6,7,8] ?_;refine aM 9 λK hK=>?_;go_simp
    (with_reducible refine(UX om (ae L.o.2) (ae L.o.1)).mono ?_)
    rintro e ux ⟨T,c',rfl,U,Y,Z,_⟩;dsimp only;refine aL hK ?_;refine qL [10,11,12,13] ?_;refine aZ ?_
    go_wp2_with fail
    go_ret2;exact⟨T,c',rfl,U,Y,Z.less ai,aK⟩
   have b14:(o.kd==14)=false:=by simpa using M
   by_cases O:o.kd=15
   .have L:Hx (In x0 o.S=V/\z8 x0 o.S=E):=ae (by
     obtain⟨h1,F⟩:=HW.o;rw[fD,ag y,ag J,ag l,ag r,ag D,ag M,ah O,D0.o]at h1;rw[e4,ag y,ag J,ag l,ag r,ag D,ag M,ah O,D0.o]at F;exact⟨h1,F⟩)
    have b15:(o.kd==15)=true:=by simpa using O
    clear y J l r D M O B9
    go_upto_region 31 with fail
    refine am aq (λux _=>?_);refine qL [0,1,2,3,4] ?_;refine aM 5 λK hK=>?_;go_simp
    (with_reducible refine(Io om om (ae L.o.1) (ae L.o.2)).mono ?_)
    rintro e ux ⟨T,c',rfl,U,Y,Z,_⟩;dsimp only;refine aL hK ?_;refine qL [6,7,8,9] ?_;refine aZ ?_
    go_wp2_with fail
    go_ret2;exact⟨T,c',rfl,U,Y,Z.less ai,aK⟩
   have b15:(o.kd==15)=false:=by simpa using O
   have L:Hx (mT X=V/\mU X=E):=ae (by
    obtain⟨h1,F⟩:=HW.o;rw[fD,ag y,ag J,ag l,ag r,ag D,ag M,ag O]at h1;rw[e4,ag y,ag J,ag l,ag r,ag D,ag M,ag O]at F;exact⟨h1,F⟩)
   clear y J l r D M O B9;have J1:Hx (∀z∈aW ts,aA z=true):=ae (by rw[HX.o];exact U2);have J2:=L.o.1;have J3:=L.o.2;rw[<-HX.o]at J2 J3;have J4:=ae J2;have J5:=ae J3;clear J2 J3
   go_wp2_with (go_at_call 125;(with_reducible refine(E5 om om J1 J4 J5).mono ?_);rintro e u ⟨T,c',rfl,U,Y,Z,_⟩)
   go_ret2;exact⟨T,c',rfl,U,Y,Z.less ai,aK⟩
end
variable{O:List Int}
section
variable{ps bs:List Int}{o:gj}{P X:List (List Int)}
def Fg{n:Nat}{v:Int}(hr:aA zs=true)(e:zs[n]?=some z)(m:1<=v)(hv:v<=z):aA (zs.set n v)=true:=by
 obtain⟨r1,r,b,j⟩:=(bE zs).1 hr;have u:=(a5.1 e).1;refine(bE _).2 ⟨by simpa using r1,by simpa using r,sy b n m (by have:=(fK b e).2;omega),?_⟩;rw[xq v u];rw[iF e]at j;refine Ct (pU (vG hv ?_) ?_) j
 .have:=h1 (l:=zs.drop (n+1)) λz e=>(eo (zJ b _) e).1;omega
 .have:=h1 (l:=zs.take n) λz e=>(eo (zH b _) e).1;omega
def uB(b:L≠[])(h:∀z∈L,aA z=true)(hE:mU L=0):aA (mT L)=true:=by
 unfold mU at hE;unfold mT
 split at hE
 .rename_i hs;rw[ah hs];cases L with
  |nil=>exact absurd rfl b
  |cons a l=>exact h a cm
 .omega
def De(h:eM zs O z=0):aA (e7 zs O z)=true:=by
 unfold e7;rw[ah h];unfold eM at h
 split at h
 .split at h
  .split at h
   .rename_i b;simp only[bW]at b;exact b.2
   .omega
  .omega
 .omega
def xC{b:Int}:∀{l:fV} {s:av},aA s=true->E8 b s l=0->aA (E9 b s l)=true
 |[],_,h,_=>h
 |t::l,s,_,hE=>by
  unfold E8 at hE;unfold E9
  split at hE
  .rename_i e;exact xC (De e) hE
  .rename_i e;exact absurd hE e
def Fh(j:o.cnt P.length X.length=0)(hP:P.all aA=true)(J:X.all aA=true)(h:e4 o P X=0):aA (fD o P X)=true:=by
 obtain⟨hr,i1,i2,i3⟩:=uA j;have x1:0<X.length:=by unfold fM at i1;split at i1<;>omega
 have r:∀z∈X,aA z=true:=cZ.1 J;have K:∀z∈P,aA z=true:=cZ.1 hP;have m:aA (X.getD 0 [])=true:=r _ (by rw[aX,bc x1];exact nb x1);have u:0<P.length->aA (P.getD 0 [])=true:=λp1=>K _ (by rw[aX,bc p1];exact nb p1);unfold e4 at h;unfold fD;generalize P.getD 0 []=p0 at h u⊢;generalize X.getD 0 []=x0 at h m⊢
 split
 .rename_i b;rw[ah b]at h;have p1:=u (by rw[g7,ah b]at i3;omega);unfold kW at h;unfold kV
  split at h
  .rename_i j;rw[ah j];simp only[ho,bW,cu]at j;obtain⟨O,Q,L,T⟩:=(bE _).1 p1;have:=fK L (bc (show 0<p0.length by omega));have e:p0.getD 0 0=p0[0]'om:=by rw[aX,bc om];rfl
   rw[e];refine(bE _).2 ⟨aG,aG,by simp[cq];omega,?_⟩;simp[aN];omega
  .omega
 rename_i F;rw[ag F]at h
 split
 .rename_i b;rw[ah b]at h;have p1:=u (by rw[g7,ag F,ah (.inl b)]at i3;omega);refine uB aG (λz G=>?_) h;simp only[bT,kG,lN]at G;rcases G with rfl|rfl
  .exact p1
  .exact m
 rename_i M;rw[ag M]at h
 split
 .rename_i b;rw[ah b]at h;unfold xA;rw[ah h];unfold rf at h
  split at h
  .split at h
   .split at h
    .assumption
    .omega
   .omega
  .omega
 rename_i y;rw[ag y]at h
 split
 .rename_i b;rw[ah b]at h;obtain⟨R,Z,n,W,S,_,_,pw⟩:=PW.of h;exact pw.KP
 rename_i B;rw[ag B]at h
 split
 .rename_i b;rw[ah b]at h;unfold Mx;rw[ah h];cases X with
  |nil=>simp at x1
  |cons t l=>
   unfold Fa at h;dsimp only at h
   split at h
   .exact absurd h ak
   .exact xC (r t cm) h
 rename_i C;rw[ag C]at h
 split
 .rename_i b;rw[ah b]at h;unfold lX;rw[ah h];unfold lW at h;rw[ah m]at h
  split at h
  .rename_i j;simp only[bW,cu]at j;obtain⟨⟨⟨⟨U,V⟩,a0⟩,I⟩,Y⟩:=j;have N:o.sd.toNat<x0.length:=om;have hg:=bc N;rw[aX,hg]at I;exact Fg m hg om (by simp at I;omega)
  .exact absurd h ak
 rename_i D;rw[ag D]at h
 split
 .rename_i b;rw[ah b]at h;unfold In;rw[ah h];unfold z8 at h;rw[ah m]at h
  split at h
  .assumption
  .exact absurd h ak
 rename_i E;rw[ag E]at h;exact uB (by intro e;rw[e]at x1;simp at x1) r h
def ib(h:da o P X=0):o.cnt P.length X.length=0/\P.all aA=true/\X.all aA=true/\e4 o P X=0:=by
 unfold da at h
 split at h
 .rename_i b
  split at h
  .rename_i e;rw[bW]at e;exact⟨b,e.1,e.2,h⟩
  .omega
 .rename_i b;exact absurd h b
def l4(h:da o P X=0):aA (cy o P X)=true:=by
 obtain⟨b,hP,e,j⟩:=ib h;rw[cy,ah h];exact Fh b hP e j
end
def MA(o:gj)(P:fV)(V:av):List Int:=if o.kd=10 then[aN V,Int.tdiv (aN (P.getD 0 [])) ((P.getD 0 []).getD 0 0)]else[aN V,o.wd]
def Ir(o:gj)(P:fV)(V:av):Int:=
 if o.kd=8 then aN (P.getD 0 [])else if o.kd=10\/o.kd=11\/o.kd=12 then kJ (MA o P V)else aN V
def It(o:gj)(P:fV)(V:av):Int:=if o.kd=10\/o.kd=11\/o.kd=12 then kK (MA o P V)else 0
section
variable{w:World}{n k N nx:Nat}{ts:List Sp}{F:Int}{V:List Int}{o:gj}
def Fi[a:Sl w A n zs](b:n<=1000000){v e:Int}(hv:Hx (kJ zs=v/\kK zs=e)):() 75 #[(A,n,c)] w (aD w (.tuple #[v,e])):=by
 obtain⟨a,rfl⟩:=a;rw[<-hv.o.1,<-hv.o.2];exact(tp A c zs w b a).mono λe w' ⟨j,l⟩=>⟨j,⟨l⟩⟩
def Fj[Sl w A n o.S](hn:n<=1000000)[a:du w B m ss][du w C nx ts][Le nx cx](hm:m<=1000000)(hx:nx<=1000000)(hz:Hx (∀z∈aW ss++aW ts,z.length<=1000000))(hE:da o (aW ss) (aW ts)=0){v e:Int}
  (hv:Hx (Ir o (aW ss) (cy o (aW ss) (aW ts))=v/\It o (aW ss) (cy o (aW ss) (aW ts))=e)):
  () 30 #[.agg (fL o.kd o.k o.wd o.st o.sd o.fr o.tt (A,n,d)),(B,m,c),(C,nx,cx)] w (aD w (.tuple #[v,e])):=by
 obtain⟨CB,CP⟩:=h5;obtain⟨K,hP,T,U⟩:=ib hE;have G:=l4 hE;obtain⟨X,i1,i2,i3⟩:=uA K;have Y:=ae hE;obtain⟨V,hV⟩:=lh (cy o (aW ss) (aW ts));rw[hV]at G hv;have Z:=ae hV;have vl:V.length<=4:=cw G;obtain⟨z,j⟩:=lh (aN V);have HS:Hx (bt V=z/\cg V=0):=ae ⟨by rw[bt,G];exact j,by rw[cg,G];rfl⟩;have GA:=a.all rfl;have L:Hx (∀z∈aW ss,aA z=true):=λz hz=>cZ.1 hP z hz;have I3:Hx ((m:Int)=g7 o.kd):=ae (by rw[GA.o.1];exact i3);by_cases l:o.kd=8
 .obtain⟨b1,M,A1,m1,c1,I,rfl,q6,O,P,_,J⟩:=GA.o.2 0 (by have:=I3.o;rw[g7,ah l]at this;omega);have Ms:w.cell? (b1,M)=some (.slice A1 m1 c1):=O;have r1:=L.o _ (gP J.o);have Qg:m1<=4:=by rw[P.len];exact cw r1
  have g1:0<m:=by have:=I3.o;rw[g7,ah l]at this;omega
  have HZ:Hx (bt I=v/\cg I=0):=ae ⟨by
   rw[<-hv.o.1,Ir,ah l,bt,r1,aX,J.o];rfl,by rw[cg,r1];rfl⟩
  obtain rfl:e=0:=by rw[<-hv.o.2,It,ag om]
  have b8:(o.kd==8)=true:=by simpa using l
  clear l O r1 K hP T U X i1 i2 i3 G hV j J hE
  go_in
  go_wp2_with (first|(go_at_call 74;(with_reducible refine(kD om om om (by assumption) Z Y).mono ?_);rintro e u ⟨A',c',rfl,sJ,lJ,fJ,_⟩)|(go_at_call 73;(with_reducible refine(ea om HS).mono ?_);rintro e u ⟨rfl,_⟩)|(go_at_call 73;(with_reducible refine(ea om HZ).mono ?_);rintro e u ⟨rfl,_⟩))
  go_ret2;exact bq
 have b8:(o.kd==8)=false:=by simpa using l
 by_cases b:o.kd=10
 .have g1:0<m:=by have:=I3.o;rw[g7,ag l,ah (.inr b)]at this;omega
  obtain⟨b1,M,A1,m1,c1,I,rfl,q6,O,P,_,J⟩:=GA.o.2 0 om;have Ms:w.cell? (b1,M)=some (.slice A1 m1 c1):=O;have r1:=L.o _ (gP J.o);have Qg:m1<=4:=by rw[P.len];exact cw r1
  obtain⟨h1,h2,h3,h4⟩:=(bE _).1 r1;have m1p:0<m1:=by rw[P.len];omega
  obtain⟨b2,q2,y,rfl,jf,u0,e2⟩:=P.get (k:=0) m1p;have u0':w.cell? (b2,q2)=some (.int .i64 y):=u0;have y1:=fK h3 e2.o;obtain⟨kk,D⟩:=lh (aN I);have kb:=qQ _ h3 h2;rw[D]at kb;have HZ:Hx (bt I=kk/\cg I=0):=ae ⟨by rw[bt,r1];exact D,by rw[cg,r1];rfl⟩;have HM:Hx (kJ [z,kk.tdiv y]=v/\kK [z,kk.tdiv y]=e):=ae (by
   have d1:(aW ss).getD 0 []=I:=by rw[aX,J.o];rfl
   have d2:I.getD 0 0=y:=by rw[aX,e2.o];rfl
   have Q:MA o (aW ss) V=[z,kk.tdiv y]:=by rw[MA,ah b,d1,d2,D,j]
   refine⟨?_,?_⟩
   .rw[<-hv.o.1,Ir,ag l,ah (.inl b),Q]
   .rw[<-hv.o.2,It,ah (.inl b),Q])
  have YG:(o.kd==10)=true:=by simpa using b
  have q0:0<=kk.tdiv y:=Int.tdiv_nonneg om om;have M:kk.tdiv y<=kk:=by
   have:=Int.tdiv_le_self y (show 0<=kk by omega);exact this
  obtain⟨qq,hqq⟩:=lh (kk.tdiv y);rw[hqq]at HM q0 M;clear l b O r1 K hP T U X i1 i2 i3 G hV j J hE h1 h2 h3 h4 D u0 e2
  go_in
  go_wp2_with (first|(go_at_call 74;(with_reducible refine(kD om om om (by assumption) Z Y).mono ?_);rintro e u ⟨A',c',rfl,sJ,lJ,fJ,_⟩)|(go_at_call 73;(with_reducible refine(ea om HS).mono ?_);rintro e u ⟨rfl,_⟩)|(go_at_call 73;(with_reducible refine(ea om HZ).mono ?_);rintro e u ⟨rfl,_⟩)|(go_at_call 75;(with_reducible refine(Fi om HM).mono ?_);rintro e u ⟨rfl,_⟩))
  go_ret2;exact bq
 have YG:(o.kd==10)=false:=by simpa using b
 by_cases r:o.kd=11\/o.kd=12
 .have YH:=ae r;have HM:Hx (kJ [z,o.wd]=v/\kK [z,o.wd]=e):=ae (by
   have Q:MA o (aW ss) V=[z,o.wd]:=by rw[MA,ag b,j]
   refine⟨?_,?_⟩
   .rw[<-hv.o.1,Ir,ag l,ah (.inr r),Q]
   .rw[<-hv.o.2,It,ah (.inr r),Q])
  clear l b r K hP T U X i1 i2 i3 G hV j hE;rcases xB:(o.kd==11)with _|_
  focus
   have Dd:(o.kd==12)=true:=by
    rcases YH.o with e|e
    .rw[e]at xB;cases xB
    .simpa using e
  rotate_left
  all_goals
   go_in
   go_wp2_with (first|(go_at_call 74;(with_reducible refine(kD om om om (by assumption) Z Y).mono ?_);rintro e u ⟨A',c',rfl,sJ,lJ,fJ,_⟩)|(go_at_call 73;(with_reducible refine(ea om HS).mono ?_);rintro e u ⟨rfl,_⟩)|(go_at_call 75;(with_reducible refine(Fi om HM).mono ?_);rintro e u ⟨rfl,_⟩))
   go_ret2;exact bq
 have b11:(o.kd==11)=false:=by simp;omega
 have b12:(o.kd==12)=false:=by simp;omega
 obtain⟨rfl,rfl⟩:z=v/\e=0:=⟨by rw[<-hv.o.1,Ir,ag l,ag om,j],by rw[<-hv.o.2,It,ag om]⟩;clear l b r K hP T U X i1 i2 i3 G hV j hE
 go_in
 go_wp2_with (first|(go_at_call 74;(with_reducible refine(kD om om om (by assumption) Z Y).mono ?_);rintro e u ⟨A',c',rfl,sJ,lJ,fJ,_⟩)|(go_at_call 73;(with_reducible refine(ea om HS).mono ?_);rintro e u ⟨rfl,_⟩))
 go_ret2;exact bq
end
def AR(w:ay)(T:TypeId)(zs:av)(cs:eL)(h:cs=ints zs):Own (w.alloc (.cells cs T)) w.1.size T zs:=by subst h;exact Own.new _ _ _

