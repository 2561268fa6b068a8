/- Lemmas. No condition. -/
import Derived.Test.YtmkjnlifimffkaaGreatS33
namespace Go.Proofs.YtmkjnlifimffkaaGreat
open Go.RowKit
set_option linter.all false
set_option maxRecDepth 100000
set_option maxHeartbeats 16000000
def zO(keep:List Int)(L:List Bool):List Bool:=keep.foldl (fun L z=>L.set z.toNat true) L
def EM(l:Nat)(s:iI):iI:=(s.1.set l false,s.2++[(4,0)]++[(3,(l:Int))]++[(5,0)])
def OT(N:aI)(O La:List Int)(l m:Nat)(kp:List Bool):iI:=
 wM N m kp (oJ N O m (List.replicate (m+1) 0)) O m (EM l (oI m kp l La O 0 ((List.replicate (m+1) false).set 0 true,[])))
def rY(N:aI)(keep:List Int):iI:=OT N (iB N) (zB N) (iH N).toNat N.nodes.length (zO keep (List.replicate (N.nodes.length+1) false))
def ny(N:aI)(keep:List Int):Int:=
 if bU N=0 then(if keep.all (fun z=>decide (1<=z)&&decide (z<=N.nodes.length))then(if 65536<(rY N keep).2.length then 12 else 0)else 11)else bU N
def nP(N:aI)(keep:List Int):List (Int×Int):=if ny N keep=0 then(rY N keep).2 else[]
def EN(w:World)(E:Int)(V:List (Int×Int))(e:Ending)(w':World):Prop:=
 ∃A c,e=.returned (.tuple #[.slice A V.length c,E])/\bX w' w.heap.size A c V/\ak w' w
section
variable{p w w' u:World}{A B C:Option Addr}{n m c d k e:Nat}{N:aI}{O La:List Int}{L:List (List Int)}{l:Nat}{E:Int}{keep:List Int}
theorem adv{kp:List Bool}{l:Nat}{La:List Int}:∀(O:List Int) (i:Nat) (s:iI),s.1.getD 0 false=true->(oI m kp l La O i s).1.getD 0 false=true
 |[],_,_,h=>h
 |id::r,i,s,h=>by
  rw[oI];refine adv r (i+1) _ ?_;rw[Uj];exact abS h
theorem adw{kp:List Bool}{l:Nat}{La:List Int}:∀(O:List Int) (i:Nat) (s:iI),(oI m kp l La O i s).2.length<=s.2.length+O.length*(m+1)
 |[],_,_=>by simp[oI]
 |id::r,i,s=>by
  rw[oI];have j:=adw (kp:=kp) (l:=l) (La:=La) r (i+1) (swp (AV kp l La i) (s.1.set id.toNat true,s.2++[(1,id)]) m);have b:=(JK (AV kp l La i) (s.1.set id.toNat true,s.2++[(1,id)]) m).1;simp only[cu,Hl]at b;rw[iJ,Hr];omega
theorem aql(keep:List Int)(z:Int)(L:List Bool):zO (keep++[z]) L=(zO keep L).set z.toNat true:=by simp[zO]
theorem aqm{l:Nat}{s:iI}(h:s.1.getD 0 false=true)(b:1<=l):(EM l s).1.getD 0 false=true:=by
 unfold EM;rw[aQ]at h⊢;rw[Bp om];exact h
theorem aqn[a:aX w A n B m N](hf:Hid N.fits)(hs:Hid N.small)[sk:Sl w C k keep](hk:k<=1000000)(hE:Hid (ny N keep=E)){V:List (Int×Int)}(hV:Hid (nP N keep=V)):
  Calls Tryz.prog 32 #[.agg #[.slice A n c,.slice B m d],.slice C k e] w (EN w E V):=by
 obtain⟨CB,CP,FB⟩:=iK;have HM:Hid (m=N.nodes.length):=ae a.len;by_cases Q:bU N=0;rotate_left
 ·have r:=hE.out;have D:=hV.out;rw[ny,if_neg Q]at r;rw[nP,ny,if_neg Q,if_neg Q]at D;subst D;have zD:=ae r;have hne:E≠0:=by rw[<-r];exact Q
  have b0:(E !=0)=true:=by simp[hne]
  clear r Q;go_enter Tryz.func32,Tryz.ntmps32
  go_wp2_with (go_at_call 79;(with_reducible refine qZ (fun u0 _ _=>?_));(with_reducible refine(anW hf hs zD hne).mono ?_);rintro e u ⟨rfl,_⟩)
  go_ret2;exact⟨none,0,rfl,bX.nil _ _,ai _ _⟩
 obtain⟨O,L,l,hlv,b,Oo,-⟩:=look_ok Q;have hm:m<=512:=by rw[HM.out];exact Oo
 have R:1<=m:=by have:=b.xV;have:=b.vk;rw[<-HM.out]at this;omega
 have hl1:=b.xV;have hl2:l<=m:=by rw[HM.out];exact b.vk
 have HN:=ae b;have lS:=ae hlv;have zD:=ae Q;obtain⟨La,Vw⟩:=lh (zB N);have Om:=ae Vw;have hLT:rY N keep=OT N O La l m (zO keep (List.replicate (m+1) false)):=by
  rw[rY,b.ord,Vw,b.iH,dD,<-HM.out]
 have HLT:=ae hLT;have r:=hE.out;have D:=hV.out;rw[ny,if_pos Q]at r;rw[nP,hE.out]at D;have FJ:=ae r;have FK:=ae D;have wH:Hid (∀id∈O,1<=id/\id<=m):=ae fun id hid=>by have:=dR.1 (b.lV.ids id hid);rw[<-HM.out]at this;exact this
 clear r D hLT Vw b hlv Q Oo;go_enter Tryz.func32,Tryz.ntmps32
 go_upto_region 5 with(go_at_call 79;(with_reducible refine qZ (fun u0 _ kn=>?_));(with_reducible refine(anX hf hs zD HN lS Om hm).mono ?_);rintro e u ⟨p,aa,G,rfl,pp,nip,sO,sL,HL⟩)
 have IC:Hid (keep.length=k):=ae sk.len.symm;obtain⟨FV,Vx⟩:=lh (oJ N O m (List.replicate (m+1) 0));rw[Vx]at HL;have HFV:=ae Vx;have hBx:Bx p w.heap.size 33 #[.slice A n c,.slice B m d]:=iin;clear Vx;go_loopw [20] (fun i wr=>∃(j:Nat),j<=k/\i=.int .i64 j/\Hid (gy p wr aa G m l ⟨FV,zO (keep.take j) (List.replicate (m+1) false),(List.replicate (m+1) false).set 0 true,[]⟩)/\Hid (∀z∈keep.take j,1<=z/\z<=m)) (fun i _=>k-(intOf i).toNat)
 case atStart=>exact⟨0,aS _,rfl,HL,ae au⟩
 case round=>
  clear HL;obtain⟨j,hj,rfl,HL,HZ⟩:=hrel;obtain⟨A9,c9,Vy⟩:=HL.out;obtain⟨p9,kb,kF,kK,kP⟩:=Vy.facts;have Vz:=ae Vy;clear Vy;by_cases hlt:j<k
  ·obtain⟨b4,q4,z,rfl,Uu,vz,ez⟩:=sk.get hlt;have F:¬(1<=z/\z<=m)->11=E/\[]=V:=fun hz=>by
    have e:(keep.all fun z=>decide (1<=z)&&decide (z<=N.nodes.length))=false:=by
     rw[Fe];refine⟨z,aK ez.out,?_⟩;rw[<-HM.out];simp;omega
    have h1:=FJ.out;rw[if_neg (by rw[e];decide)]at h1;have h2:=FK.out;rw[<-h1,if_neg ah]at h2;exact⟨h1,h2⟩
   by_cases z1:z<1
   ·obtain⟨rfl,rfl⟩:=F om;have t1:decide (z<1)=true:=by simpa using z1
    go_wp2_with fail
    go_ret2;exact⟨none,0,rfl,bX.nil _ _,ai _ _⟩
   ·have t1:decide (z<1)=false:=by simp;omega
    by_cases z2:(m:Int)<z
    ·obtain⟨rfl,rfl⟩:=F om;have t2:decide ((m:Int)<z)=true:=by simpa using z2
     go_wp2_with fail
     go_ret2;exact⟨none,0,rfl,bX.nil _ _,ai _ _⟩
    ·have t2:decide ((m:Int)<z)=false:=by simp;omega
     obtain⟨y,rfl⟩:=eF (show 0<=z by omega);have hyi:(y:Int)<(m:Int)+1:=by omega
     obtain⟨yb,e5,-⟩:=lq (i:=y) Vz.out.lk om;have hg5:=iN e5;have lN:Hid (zO (keep.take (j+1)) (List.replicate (m+1) false)=(zO (keep.take j) (List.replicate (m+1) false)).set y true):=ae (by rw[take_at ez.out,aql,dD]);have HZ2:Hid (∀z∈keep.take (j+1),1<=z/\z<=m):=ae fun x hx=>by
      rw[take_at ez.out]at hx;rcases dP.1 hx with hx|hx
      ·exact HZ.out x hx
      ·rw[gm.1 hx];omega
     clear e5 F
     go_wp2_with fail
     go_roundw
     case rel=>exact⟨j+1,om,by go_num,ae ⟨A9,c9,by rw[lN.out];exact Vz.out.anB y true⟩,HZ2⟩
     case measure=>simp[intOf];omega
  ·obtain rfl:j=k:=om;have hall:(keep.all fun z=>decide (1<=z)&&decide (z<=N.nodes.length))=true:=by
    rw[fK];intro z hz;have:=HZ.out z (by rw[dB (by rw[IC.out];exact az _)];exact hz);rw[<-HM.out];simp;omega
   obtain⟨kp,hkp⟩:=lh (zO keep (List.replicate (m+1) false));have hL:=HL.out;rw[dB (by rw[IC.out];exact az _),hkp]at hL;obtain⟨Gi,-⟩:Hid _/\True:=⟨ae hL,bO⟩;obtain⟨⟨S,I⟩,J⟩:=lh (oI m kp l La O 0 ((List.replicate (m+1) false).set 0 true,[]));obtain⟨⟨pr2,T⟩,hf2⟩:=lh (wM N m kp FV O m (S.set l false,I++[(4,0)]++[(3,(l:Int))]++[(5,0)]));have K:rY N keep=(pr2,T):=by rw[HLT.out,OT,hkp,HFV.out,J,EM,hf2]
   have U:=FJ.out;have X:=FK.out;rw[if_pos hall,K]at U;rw[K]at X;dsimp only at U X;have hz1:S.getD 0 false=true:=by
    have:=adv (m:=m) (kp:=kp) (l:=l) (La:=La) O 0 ((List.replicate (m+1) false).set 0 true,[]) (by simp[aQ]);rwa[J]at this
   have hc1:I.length<=300000:=by
    have:=adw (m:=m) (kp:=kp) (l:=l) (La:=La) O 0 ((List.replicate (m+1) false).set 0 true,[]);rw[J,HN.out.zz,<-HM.out]at this;have h5:m*(m+1)<=512*513:=aeG hm om;simp at this;omega
   have HZ1:Hid ((S.set l false).getD 0 false=true):=ae (by
    have:=aqm (l:=l) (s:=(S,I)) hz1 hl1;exact this)
   have EO:=ae J;have zJ:=ae hf2;have HE2:=ae U;have FM:=ae X;obtain⟨mb,Y⟩:=jS (decide (65536<(T.length:Int)));clear J hf2 U X K hall hkp hL hz1 kb kF kK kP Vz;cases mb
   case false=>
    have h9:¬(65536<T.length):=by have:=Y.out;simp at this;omega
    have e9:=HE2.out;have v9:=FM.out;rw[if_neg h9]at e9;rw[<-e9,if_pos rfl]at v9;subst e9 v9
    go_wp2_with (first|(go_at_call 81;(with_reducible refine(Ew Aj bD 5 0).mono ?_);rintro e u4 ⟨rfl,FN,FO⟩)|(go_at_call 81;(with_reducible refine(Ew JM (show I.length<=1000000 by omega) 4 0).mono ?_);rintro e u2 ⟨rfl,M,lN⟩;obtain⟨A2,c2,hS2⟩:=M.out;obtain⟨p2,uJ,-⟩:=hS2.facts)|(go_at_call 82;refine(Ui M bD hl2).mono ?_;rintro e u3 ⟨rfl,Aj,rf⟩)|(go_at_call 80;refine(abW Gi R hm au wH EO).mono ?_;rintro e u1 ⟨rfl,JM,uM⟩)|(go_at_call 83;refine(abZ HN hs FN R hm HZ1 zJ).mono ?_;rintro e u5 ⟨rfl,P,tK⟩;obtain⟨A5,c5,Z⟩:=P.out;obtain⟨p5,kb5,-⟩:=Z.facts)|(go_at_call 84;refine(Gx P Y).mono ?_;rintro e u6 ⟨rfl,_⟩))
    go_ret2;exact⟨A5,c5,rfl,(show aP _ _ 98 2 _ _ _ _ from Z.cd).at.less (aH (w:=w) (w':=p)),ai _ _⟩
   case true=>
    have h9:65536<T.length:=by have:=Y.out;rw[dU]at this;omega
    have e9:=HE2.out;have v9:=FM.out;rw[if_pos h9]at e9;rw[<-e9,if_neg ah]at v9;subst e9 v9
    go_wp2_with (first|(go_at_call 81;(with_reducible refine(Ew Aj bD 5 0).mono ?_);rintro e u4 ⟨rfl,FN,FO⟩)|(go_at_call 81;(with_reducible refine(Ew JM (show I.length<=1000000 by omega) 4 0).mono ?_);rintro e u2 ⟨rfl,M,lN⟩;obtain⟨A2,c2,hS2⟩:=M.out;obtain⟨p2,uJ,-⟩:=hS2.facts)|(go_at_call 82;refine(Ui M bD hl2).mono ?_;rintro e u3 ⟨rfl,Aj,rf⟩)|(go_at_call 80;refine(abW Gi R hm au wH EO).mono ?_;rintro e u1 ⟨rfl,JM,uM⟩)|(go_at_call 83;refine(abZ HN hs FN R hm HZ1 zJ).mono ?_;rintro e u5 ⟨rfl,P,tK⟩;obtain⟨A5,c5,Z⟩:=P.out;obtain⟨p5,kb5,-⟩:=Z.facts)|(go_at_call 84;refine(Gx P Y).mono ?_;rintro e u6 ⟨rfl,_⟩))
    go_ret2;exact⟨none,0,rfl,bX.nil _ _,ai _ _⟩
end
def yn(O:List Int)(st:Nat):Nat->Nat->List Int
 |0,_=>[]
 |f+1,p=>if p<=O.length then O.getD (p-1) 0::yn O st f (p+st)else[]
def EP(O:List Int)(st:Nat):List Int:=yn O st O.length st
section
variable{w w':World}{A B C:Option Addr}{n m c d k e st l:Nat}{N:aI}{O:List Int}{L:List (List Int)}
theorem ady(O:List Int)(st:Nat):∀f p,(yn O st f p).length<=f
 |0,_=>by simp[yn]
 |f+1,p=>by
  unfold yn
  split
  ·have:=ady O st f (p+st);simp;omega
  ·simp
theorem aqt{O:List Int}{st p:Nat}(h:O.length<p):∀f,yn O st f p=[]
 |0=>rfl
 |f+1=>by rw[yn,if_neg om]
theorem aqu[aX w A n B m N](S:Hid N.fits)(hs:Hid N.small)(y:Hid (bU N=0))(z:Hid (gZ N=(O,L,(l:Int))))(b:Hid (O.length=m))(hm:m<=12)(D:1<=m)(T:1<=st)(h2:st<=12):
  Calls Tryz.prog 141 #[.agg #[.slice A n c,.slice B m d],st] w (Jz w 0 (yP (EP O st))):=by
 obtain⟨CB,CP⟩:=lM;have t1:decide ((st:Int)<1)=false:=by simp;omega
 have t2:decide ((512:Int)<st)=false:=by simp;omega
 go_enter Tryz.func141,Tryz.ntmps141
 go_wp2_with (first|(first|(go_at_call 60;(with_reducible refine(Eo S hs y z b).mono ?_);rintro e u ⟨AO,cO,rfl,U,oO,pO⟩))|(refine bI (fun u0 _ kn=>?_)))
 obtain⟨V,q0,z0,E,-⟩:=U.get D;subst E;have Y:Hid (∀p f,O.length<p->yn O st f p=[]):=ae fun p f h=>aqt h f;go_loopw [8,9] (fun x i wr=>∃(p f:Nat) (X:List Int) (A':Option Addr) (c':Nat),1<=p/\p<=24/\m+1<=p+f/\f<=12/\x=.slice A' X.length c'/\i=.int .i64 p/\X.length+f<=m/\aG wr u.heap.size 3 A' c' X/\Hid (X++yn O st f p=EP O st)/\ak wr u) (fun _ i _=>100-(intOf i).toNat)
 case atStart=>exact⟨st,m,[],none,0,T,om,om,hm,rfl,rfl,au,aG.nil _ _ _,ae (by rw[<-b.out];rfl),ai _ _⟩
 case round=>
  obtain⟨p,f,X,A',c',Z,hp2,hpf,P,rfl,rfl,hX,hO,F,hpv⟩:=hrel;by_cases hlt:p<=m
  ·have t3:decide ((p:Int)<=(m:Int))=true:=by simp;omega
   obtain⟨q,rfl⟩:∃q,p=q+1:=⟨p-1,om⟩;have b3:(q:Int)<(m:Int):=by omega
   obtain⟨f,rfl⟩:∃g,f=g+1:=⟨f-1,om⟩;obtain⟨b1,q1,x,j,vX,vx,ex⟩:=(show Sl u (some ⟨V,q0,none⟩) m O from iin).get (show q<m by omega);injection j with j;injection j with e5 e6;subst e5 e6
   have r:=ex.out;have G:Hid ((X++[x])++yn O st f (q+1+st)=EP O st):=ae (by
    rw[<-F.out,yn,if_pos (by rw[b.out];omega),aQ,show q+1-1=q by omega,r];simp)
   clear r F
   go_wp2_with (at_builtin;refine Ie rfl _ _ _ rfl 3 Tryz.underlying24 aj u.heap.size A' c' X rfl hO.at x rfl om aH ?_;intro A3 c3 w3 I J _ _)
   go_roundw
   case rel=>exact⟨q+1+st,f,X++[x],A3,c3,om,om,om,om,au,by go_num,by simp;omega,I,G,⟨(aL u _).trans J⟩⟩
   case measure=>simp[intOf];omega
  ·have t3:decide ((p:Int)<=(m:Int))=false:=by simp;omega
   have r:X=EP O st:=by have:=F.out;rwa[Y.out p f (by rw[b.out];omega),oV]at this
   have Q:=ae r;have HO:=ae hO;clear hO r
   go_wp2_with (go_at_call 193;refine(af1 HO aH om (ae rfl)).mono ?_;rintro e R ⟨rfl,K,M⟩;obtain⟨p3,-⟩:ak R u/\True:=⟨⟨(aL u _).trans M⟩,bO⟩)
   go_ret2;exact⟨A',c',by rw[XP,<-Q.out];rfl,by rw[<-Q.out];exact K.more (aH (w:=w) (w':=u)),ai w R⟩
def yo(N:aI):List Int:=yP (EP (iB N) (tH N.nodes.length))
theorem aqv{r:Nat}(b:1<=n)(j:n<=12)(hq:Hid (tH n=r)):Calls Tryz.prog 142 #[n] w (aM w (.int .i64 r)):=by
 rw[<-hq.out];exact af0 b j
theorem aqw:∀n,n<=12->1<=n->1<=tH n/\tH n<=12:=ah
theorem aqx(h:O.length<=12):(yP (EP O st)).length<=12:=by
 rw[XP];exact aZ (ady _ _ _ _) h
theorem aqy[a:aX w A n B m N](M:Hid N.fits)(hs:Hid N.small)(u:Hid (bU N=0))(hm:m<=12):
  Calls Tryz.prog 93 #[.agg #[.slice A n c,.slice B m d]] w (Jz w 0 (yo N)):=by
 have S:=@bf;have z:Hid (m=N.nodes.length):=ae a.len;obtain⟨O,L,l,y,b,F,-⟩:=look_ok u.out;have j:1<=m:=by have:=b.xV;have:=b.vk;rw[<-z.out]at this;omega
 obtain⟨i1,i2⟩:=aqw m hm j;have D:Hid (O.length=m):=ae (by rw[b.zz,z.out]);have G:Hid (yP (EP O (tH m))=yo N):=ae (by rw[yo,b.ord,z.out]);have E:=ae y;obtain⟨r,hr⟩:=lh (tH m);have P:=ae hr;rw[hr]at i1 i2 G;clear y b hr;go_enter Tryz.func93,Tryz.ntmps93
 go_upto_region 1 with fail
 refine bI (fun Q _ T=>?_);refine eU Q aj (fun I _=>?_);refine ag 0 4 ?_;refine ag 1 5 ?_;refine ag 2 6 ?_;refine ag 3 7 ?_;refine ay 4 fun K hK=>?_;go_simp
 (with_reducible refine(aqv j hm P).mono ?_)
 rintro e I ⟨rfl,_⟩;dsimp only;refine av hK ?_;clear hK K;refine ay 5 fun K hK=>?_;go_simp
 (with_reducible refine(aqu (st:=r) M hs u E D hm j i1 i2).mono ?_)
 rintro e I ⟨R,c1,rfl,J,_⟩;dsimp only;refine av hK ?_;clear hK K;refine ag 6 10 ?_;refine ag 7 11 ?_;refine ag 8 2 ?_;refine ag 9 3 ?_;refine aO ?_;rw[G.out]at J⊢
 go_wp2_with fail
 go_ret2;exact⟨R,c1,rfl,J.more (aH (w:=w)),ai _ _⟩
end
def OU(N:aI)(keep:List Int)(cap:Int):Int:=if ny N keep=0 then nk N cap (nP N keep)else ny N keep
def ER(N:aI)(keep:List Int)(cap:Int):Int×Int×Int×Int:=if ny N keep=0 then rR N cap (nP N keep)else(0,0,0,0)
section
variable{p w w' u:World}{A B K:Option Addr}{n m c d k g j:Nat}{N:aI}{E cap P1 P2 P3 P4:Int}{keep:List Int}
theorem adz:(nP N keep).length<=65536:=by
 unfold nP
 split
 ·rename_i h;unfold ny at h;by_cases b:bU N=0
  ·rw[if_pos b]at h
   split at h
   ·split at h
    ·exact absurd h ah
    ·omega
   ·exact absurd h ah
  ·rw[if_neg b]at h;exact absurd h b
 ·simp
theorem KH[aX w A n B m N](l:Hid N.fits)(hs:Hid N.small)[Sl w K k keep](r:k<=1000000)(hE:Hid (ny N keep=E)){V:List (Int×Int)}(hV:Hid (nP N keep=V)){x:Nat}(y:Hid (V.length=x)):
  Calls Tryz.prog 32 #[.agg #[.slice A n c,.slice B m d],.slice K k g] w fun e w'=>∃A c,e=.returned (.tuple #[.slice A x c,E])/\Is w' A x V/\bX w' w.heap.size A c V/\ak w' w:=by
 obtain rfl:=y.out;exact(aqn l hs r hE hV).mono fun e w' ⟨A,c,z,b,C⟩=>⟨A,c,z,⟨b.rd,rfl⟩,b,C⟩
theorem adA[aX w A n B m N](b:Hid N.fits)(hs:Hid N.small){ps:List (Int×Int)}[Is w K k ps](e:k<=65536)(l:cap<=144115188075855872)(r:Hid (nk N cap ps=E))(y:Hid (rR N cap ps=(P1,P2,P3,P4))):
  Calls Tryz.prog 14 #[.agg #[.slice A n c,.slice B m d],.slice K k g,cap] w (aM w (.tuple #[.agg #[P1,P2,P3,P4],E])):=Uy b hs e l r y
theorem VA[aX w A n B m N](G:Hid N.fits)(hs:Hid N.small)[Sl w K k keep](L:k<=1000000)(M:cap<=144115188075855872)(C:Hid (OU N keep cap=E))(D:Hid (ER N keep cap=(P1,P2,P3,P4))):
  Calls Tryz.prog 11 #[.agg #[.slice A n c,.slice B m d],.slice K k g,cap] w (aM w (.tuple #[.agg #[P1,P2,P3,P4],E])):=by
 have X:=@bf;have Y:=@dV;have hE:=C.out;have hV:=D.out;rw[OU]at hE;rw[ER]at hV;obtain⟨le,b⟩:=lh (ny N keep);obtain⟨V,hv⟩:=lh (nP N keep);obtain⟨y,I⟩:=lh V.length;have J:y<=65536:=by rw[<-I,<-hv];exact adz
 have l:=ae b;have r:=ae hv;have z:=ae I;rw[b,hv]at hE hV;clear b hv I C D;go_enter Tryz.func11,Tryz.ntmps11;by_cases F:le=0
 ·subst F;rw[if_pos rfl]at hE hV;have C:=ae hE;have D:=ae hV;clear hE hV
  go_upto_region 1 with fail
  refine qd (fun O _ P Q=>?_)
  go_wp2_with (first|(go_at_call 32;refine(KH G hs L l r z).mono ?_;rintro e R ⟨AC,cC,rfl,S,T,U⟩)|(go_at_call 14;refine(adA G hs J M C D).mono ?_;rintro e Z ⟨rfl,_⟩))
  refine bM (v:=.tuple #[.agg #[P1,P2,P3,P4],E]) ?_ rfl ⟨rfl,wP (fu _)⟩;rw[eG rfl];go_simp
 ·rw[if_neg F]at hE hV;injection hV with v1 hV;injection hV with v2 hV;injection hV with v3 v4
  subst v1 v2 v3 v4 hE;have b0:(le !=0)=true:=by simp[F]
  clear F
  go_upto_region 1 with fail
  refine qd (fun O _ P Q=>?_)
  go_wp2_with (go_at_call 32;refine(KH G hs L l r z).mono ?_;rintro e R ⟨AC,cC,rfl,S,T,U⟩)
  refine bM (v:=.tuple #[.agg #[(0:Int),(0:Int),(0:Int),(0:Int)],le]) ?_ rfl ⟨rfl,wP (fu _)⟩;rw[eG rfl];go_simp
end
end Go.Proofs.YtmkjnlifimffkaaGreat
