/- Lemmas. No condition. -/
import Derived.Test.YtmkjnlifimffkaaGreatS42
import Derived.Test.YtmkjnlifimffkaaGreatS44
namespace Go.Proofs.YtmkjnlifimffkaaGreat
open Go.RowKit
set_option linter.all false
set_option maxRecDepth 100000
set_option maxHeartbeats 16000000
section
set_option linter.unusedVariables false
def fH:aI:=⟨[2],[⟨⟨8,0,0,0,0,0,0,[]⟩,[0],[[2,2],[2]]⟩,⟨⟨7,0,0,0,0,0,0,[]⟩,[1,1],[]⟩,⟨⟨12,0,2,1,0,0,0,[]⟩,[2],[]⟩]⟩
def uj:List (Int×Int):=[(1,1),(1,2),(1,3),(4,0),(3,3),(5,0),(6,3),(3,2),(6,2),(3,1),(6,1)]
def yt:List TV:=[([2,2],[4294967296,8589934592,12884901888,17179869184]),([2],[0,4294967296])]
def wZ:TV:=([2],[4294967296,-4294967296])
theorem VH:bU fH=0:=by decide+kernel
theorem aqU:fQ fH=0:=by decide+kernel
theorem adD:gZ fH=([1,2,3],[[2],[2],[2],[1]],((3:Nat):Int)):=by decide+kernel
theorem aqV:fH.fits:=by unfold aI.fits;decide
theorem aqW:fH.small:=by unfold aI.small;decide
theorem adE:ny fH fH.ids=0/\nP fH fH.ids=uj:=by decide+kernel
theorem adF:ny fH (yo fH)=0/\nP fH (yo fH)=uj:=by decide+kernel
theorem adG:KL fH 100=0/\KM fH 100=uj:=by decide+kernel
theorem aqX:Ep fH=27:=by decide+kernel
theorem CK:nk fH 100 uj=0/\rR fH 100 uj=(7,8,0,7):=by decide+kernel
theorem aqY:dX fH [1,2,3] [[2],[2],[2],[1]] 3:=by
 obtain⟨O,L,l,b,e,-,-⟩:=look_ok VH;rw[adD]at b;injection b with m j
 injection j with j u
 have r:3=l:=om;subst m j r;exact e
theorem adH{t:TV}(b:bH t.1 t.2=true)(e:∀z∈t.2,-9223372036854775808<=z/\z<=9223372036854775807):TV.ok t:=⟨b,e⟩
theorem aqZ:rJ fH yt wZ:=by
 refine⟨by decide+kernel,fun t ht=>?_,rfl,adH (by decide+kernel) (by decide+kernel),fun v hv=>?_,fun v hv=>?_⟩
 ·have:∀t∈yt,bH t.1 t.2=true/\∀z∈t.2,-9223372036854775808<=z/\z<=9223372036854775807:=by decide+kernel
  exact adH (this t ht).1 (this t ht).2
 ·have:∀v∈fH.nodes,-9223372036854775808<=v.o.k/\v.o.k<=9223372036854775807:=by decide+kernel
  exact this v hv
 ·have:∀v∈fH.nodes,v.o.kd=7\/v.o.kd=8\/v.o.kd=12:=by decide+kernel
  exact this v hv
theorem aq0:gM fH [1,2,3] [[2],[2],[2],[1]] 3 yt wZ:=⟨aqY,VH,aqU,aqZ,adD⟩
theorem aq1:Ct fH yt wZ=2147483648:=by decide+kernel
theorem aq2:∃g z,(AP fH yt wZ).2=[g,([2],[-4294967296,z])]:=by
 refine⟨(AP fH yt wZ).2.getD 0 T0,((AP fH yt wZ).2.getD 1 T0).2.getD 1 0,?_⟩;decide+kernel
end
section
variable{p w w' u:World}{A B:Option Addr}{n m c d:Nat}{N:aI}{E cap P1 P2 P3 P4 Q1 Q2 Q3 Q4 R1 R2 R3 R4:Int}{V V2 V3:List (Int×Int)}
theorem aq3[aX w A n B m N](j:Hid N.fits)(hs:Hid N.small)(hE:Hid (Ep N=E))(b:E≠0):Calls Tryz.prog 95 #[.agg #[.slice A n c,.slice B m d],cap] w (aM w (.tuple #[.slice none 0 0,E])):=by
 have y:=@bf;have z:(E !=0)=true:=by simp[b]
 have l:Hid (Og N=[]):=ae (by unfold Og;rw[hE.out,if_neg b]);have r:Hid (Oh N=[]):=ae (by unfold Oh;rw[hE.out,if_neg b]);clear b;go_enter Tryz.func95,Tryz.ntmps95
 go_upto_region 1 with fail
 refine bI (fun C _ D=>?_)
 go_wp2_with (go_at_call 146;refine(amO j hs hE l r).mono ?_;rintro e F ⟨G,c1,I,d1,rfl,_,_,_⟩)
 go_ret2;exact⟨rfl,ai _ _⟩
theorem aq4[aX w A n B m N](b:Hid N.fits)(hs:Hid N.small)(hE:Hid (Ep N=E))(j:E≠0):Calls Tryz.prog 50 #[.agg #[.slice A n c,.slice B m d],(4:Int),cap] w (EN w E []):=by
 have l:=@bf;go_enter Tryz.func50,Tryz.ntmps50
 go_upto_region 1 with fail
 refine bI (fun r _ y=>?_)
 go_wp2_with (go_at_call 95;refine(aq3 b hs hE j).mono ?_;rintro e z ⟨rfl,_⟩)
 go_ret2;exact⟨none,0,rfl,bX.nil _ _,ai _ _⟩
theorem aq5[aX w A n B m N](hf:Hid N.fits)(hs:Hid N.small)(L:Hid (bU N=0)){z2 z3:Nat}
  (M:Hid (∀(u:World) [aX u A n B m N],Calls Tryz.prog 17 #[.agg #[.slice A n c,.slice B m d],(1:Int),cap] u (Be u 1 V P1 P2 P3 P4 0)))
  (O:Hid (∀(u:World) [aX u A n B m N],Calls Tryz.prog 17 #[.agg #[.slice A n c,.slice B m d],(2:Int),cap] u (Be u 2 V2 Q1 Q2 Q3 Q4 0))) (h2:decide (Q2<P2)=false)
  (P:Hid (∀(u:World) [aX u A n B m N],Calls Tryz.prog 17 #[.agg #[.slice A n c,.slice B m d],(3:Int),cap] u (Be u 3 V3 R1 R2 R3 R4 0))) (h3:decide (R2<P2)=false)
  (Q:Hid (∀(u:World) [aX u A n B m N],Calls Tryz.prog 17 #[.agg #[.slice A n c,.slice B m d],(4:Int),cap] u (aM u (KO E)))) (h4:E≠0) (R:Hid (V2.length=z2)) (S:Hid (V3.length=z3)):
  Calls Tryz.prog 27 #[.agg #[.slice A n c,.slice B m d],cap] w (Be w 1 V P1 P2 P3 P4 0):=by
 have CB:=@bf;have FB:=@dV;have b4:(E !=0)=true:=by simp[h4]
 obtain⟨y,HY⟩:=jS V.length;clear h4;go_enter Tryz.func27,Tryz.ntmps27
 go_upto_region 1 with fail
 refine qd (fun u0 p0 k1 k2=>?_)
 go_upto_region 4 with(go_at_call 40;refine(zy hf hs L).mono ?_;rintro e r ⟨rfl,_⟩)
 go_upto_region 5 with fail
 refine bI (fun u2 p2 T=>?_);obtain⟨C,F⟩:=lg r.heap.size;rw[<-F]at T⊢;have U:Hid (C=r.heap.size):=ae F;have X:=ae T.blk;have Y:ak u2 r:=iin;clear F T
 go_wp2_with fail
 go_loopw [8] (fun Z wr=>∃k:Nat,1<=k/\k<=5/\Z=.int .i64 (k:Int)/\Hid (k=1->aD wr C 60 #[(0:Int),.slice none 0 0,(0:Int),(0:Int),(0:Int),(0:Int)])/\Hid (k≠1->∃j c1,aD wr C 60 #[(1:Int),.slice j y c1,P1,P2,P3,P4]/\bX wr r.heap.size j c1 V)/\ak wr r) (fun Z _=>5-(intOf Z).toNat)
 case atStart=>exact⟨1,ah,ah,rfl,ae fun _=>X.out,ae fun h=>absurd rfl h,Y⟩
 case round=>
  obtain⟨k,hk1,hk5,rfl,HZ,J,hp⟩:=hrel;have:k=1\/k=2\/k=3\/k=4\/k=5:=om;rcases this with rfl|rfl|rfl|rfl|rfl
  ·have D:Bx wr C 60 #[(0:Int),.slice none 0 0,(0:Int),(0:Int),(0:Int),(0:Int)]:=⟨HZ.out rfl⟩
   go_upto_region 9 with(go_at_call 17;refine(M.out _).mono ?_;rintro e u5 ⟨AC,cC,rfl,K,G⟩;rw[HY.out])
   refine bI (fun z p6 k6=>?_)
   go_wp2_with fail
   go_roundw
   case rel=>
    have hbw:C<wr.heap.size:=D.blk.lt;refine⟨2,ah,ah,rfl,ae fun h=>absurd h ah,ae fun _=>⟨AC,cC,?_,?_⟩,KN (by rw[U.out];exact az _)⟩
    ·exact((((((D.blk.at (w':=z)).aF 0 _).aF 1 _).aF 2 _).aF 3 _).aF 4 _).aF 5 _
    ·exact VF ((show aP _ _ 98 2 _ _ _ _ from K).at.less (aH (w:=r) (w':=wr))) fun ad e=>by have h1:=K.fresh ad e;omega
   case measure=>simp[intOf]
  ·obtain⟨j,c1,l,I⟩:=J.out ah;have D:Bx wr C 60 #[(1:Int),.slice j y c1,P1,P2,P3,P4]:=⟨l⟩;have b:=ae I
   go_upto_region 9 with(go_at_call 17;refine(O.out _).mono ?_;rintro e u5 ⟨AC,cC,rfl,K,G⟩;rw[R.out])
   refine bI (fun z p6 k6=>?_)
   go_wp2_with fail
   go_roundw
   case rel=>exact⟨3,ah,ah,rfl,ae fun h=>absurd h ah,ae fun _=>⟨j,c1,D.blk.at (w':=z),b.out.at⟩,ai r z⟩
   case measure=>simp[intOf]
  ·obtain⟨j,c1,l,I⟩:=J.out ah;have D:Bx wr C 60 #[(1:Int),.slice j y c1,P1,P2,P3,P4]:=⟨l⟩;have b:=ae I
   go_upto_region 9 with(go_at_call 17;refine(P.out _).mono ?_;rintro e u5 ⟨AC,cC,rfl,K,G⟩;rw[S.out])
   refine bI (fun z p6 k6=>?_)
   go_wp2_with fail
   go_roundw
   case rel=>exact⟨4,ah,ah,rfl,ae fun h=>absurd h ah,ae fun _=>⟨j,c1,D.blk.at (w':=z),b.out.at⟩,ai r z⟩
   case measure=>simp[intOf]
  ·obtain⟨j,c1,l,I⟩:=J.out ah;have D:Bx wr C 60 #[(1:Int),.slice j y c1,P1,P2,P3,P4]:=⟨l⟩;have b:=ae I
   go_upto_region 9 with(go_at_call 17;refine(Q.out _).mono ?_;rintro e u5 ⟨rfl,G⟩;unfold KO)
   refine bI (fun z p6 k6=>?_)
   go_wp2_with fail
   go_roundw
   case rel=>exact⟨5,ah,ah,rfl,ae fun h=>absurd h ah,ae fun _=>⟨j,c1,D.blk.at (w':=z),b.out.at⟩,ai r z⟩
   case measure=>simp[intOf]
  ·obtain⟨j,c1,l,I⟩:=J.out ah;have D:Bx wr C 60 #[(1:Int),.slice j y c1,P1,P2,P3,P4]:=⟨l⟩;have b:=ae I;have k2w:Bx wr (w.heap.size+1) 60 _:=iin
   go_wp2_with fail
   refine bM (v:=.tuple #[.agg #[(1:Int),.slice j y c1,P1,P2,P3,P4],(0:Int)]) ?_ rfl ⟨j,c1,by rw[HY.out],(show aP _ _ 98 2 _ _ _ _ from VF b.out fun ad e=>?_).less (aH (w:=w) (w':=r)),KN (fu _)⟩
   ·rw[eG rfl];go_simp
   ·have h1:=b.out.fresh ad e;have h2:w.heap.size+1<r.heap.size:=(iin:Bx r (w.heap.size+1) _ _).blk.lt;omega
end
section
variable{w w':World}{A A2:Option Addr}{B g c n k f:Nat}{gs us:List Tn}
theorem Ts.cells(hu:Ts w A2 k us)(y:0<k):∃ad,A2=some ad/\∀j v,(tc us)[j]?=some v->w.cell? (ad.add j)=some v:=by
 have z:us[0]?=some (us[0]'(by rw[<-hu.len];exact y)):=aW _;obtain⟨b,o,rfl,_⟩:=hu.rd 0 _ z;refine⟨_,rfl,fun j v l=>?_⟩;have C:=(aY.1 l).1;rw[Nv]at C;have hq:j/2<us.length:=om;have r:us[j/2]?=some (us[j/2]'hq):=aW _;obtain⟨b',o',e,q⟩:=hu.rd _ _ r;injection e with e;injection e with D E
 subst D E;obtain⟨t0,u⟩:=SB r;rw[eu];rcases Ww j with hm|hm
 ·have m:j/2*2=j:=om;rw[m]at t0;rw[t0]at l;injection l with l;subst l
  have:=q.c0;rw[m]at this;exact this
 ·have m:j/2*2+1=j:=om;rw[m]at u;rw[u]at l;injection l with l;subst l
  have:=q.c1;rw[C8,m]at this;exact this
theorem aq6(h:aP w B 28 2 (some ⟨g,0,none⟩) c n (tc gs))(F:gs.length=n)(hu:Ts w A2 k us)(G:0<k)(N:f+k<=n):
  ∃ad X,A2=some ad/\(∀l j dc sc,k<=j->(Builtin.copy_ #[23,23] l #[.slice (some ⟨g,f*2,none⟩) j dc,.slice (some ad) k sc]).run Tryz.prog w=.ok (goInt (k:Int)) (w.setRow g X))/\aP (w.setRow g X) B 28 2 (some ⟨g,0,none⟩) c n (tc (gs.take f++us++gs.drop (f+k))):=by
 obtain⟨ad,rfl,m⟩:=hu.cells G;obtain⟨cur,hg,I,J,hm,y,ht,z⟩:=h.whole;have r:us.length=k:=hu.len.symm;have e:(tc us).length=k*2:=by rw[Nv,r]
 refine⟨ad,(cur.toList.take (f*2)++tc us++cur.toList.drop (f*2+(tc us).length)).toArray,rfl,fun l j dc sc K=>?_,?_⟩
 ·have:=yR (P:=Tryz.prog) (w:=w) (E:=28) (k:=2) (g:=g) (o:=f*2) (cs:=tc us) (cur:=cur) 23 23 l j dc ad k sc aj aj hg (by rw[yQ om,e]) m (by rw[e,y];omega) (ald us);rw[yQ om]at this;exact this
 ·have L:cur.toList.length=c*2:=by simpa using y
  refine .mk' I (nX hg _) J hm (by simp[e];omega) ?_;have u:tc (gs.take f++us++gs.drop (f+k))=(tc gs).take (f*2)++tc us++(tc gs).drop ((f+k)*2):=by
   have b:∀q,q<=gs.length->tc (gs.take q)=(tc gs).take (q*2)/\tc (gs.drop q)=(tc gs).drop (q*2):=fun q hq=>by
    have C:tc gs=tc (gs.take q)++tc (gs.drop q):=by rw[<-Nu,iX]
    have D:(tc (gs.take q)).length=q*2:=by rw[Nv,dO,iY hq]
    exact⟨by rw[C,qz D],by rw[C,Db D]⟩
   rw[Nu,Nu,(b f om).1,(b (f+k) om).2]
  rw[u,<-ht,e]
  show List.take (n*2) _=_
  rw[kM,iY om,Hz,dB (by simp[e];omega)];congr 1;rw[Hw];have M:(f+k)*2=f*2+k*2:=om;rw[M];congr 1;simp[e];omega
end
end Go.Proofs.YtmkjnlifimffkaaGreat
