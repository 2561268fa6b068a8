/- Lemmas. -/
import Derived.Test.YtmkjnlifimffkaaGreatF22
namespace Go.Proofs.YtmkjnlifimffkaaGreat
open Go.RowKit Tryz
set_option linter.all false
set_option maxRecDepth 100000
set_option maxHeartbeats 0
variable{p u w':World}{A B C:Option Addr}{c d e l m:Nat}{La O:List Int}{L:List (List Int)}{E:Int}
def ov(keep:av)(L:List Bool):List Bool:=keep.foldl (λL z=>L.set z.toNat true) L
def Lq(l:Nat)(s:jj):jj:=(s.1.set l false,s.2++[(4,0)]++[(3,(l:Int))]++[(5,0)])
def SH(N:aU)(O b:av)(l m:Nat)(kp:List Bool):jj:=
 uO N m kp (hX N O m (List.replicate (m+1) 0)) O m (Lq l (oN m kp l b O 0 ((List.replicate (m+1) false).set 0 true,[])))
def GO(N:aU)(keep:av):jj:=SH N (d7 N) (pD N) (e1 N).toNat N.nodes.length (ov keep (List.replicate (N.nodes.length+1) false))
def kc(N:aU)(keep:av):Int:=
 if a6 N=0 then(if keep.all (λz=>decide (1<=z)&&decide (z<=N.nodes.length))then(if 65536<(GO N keep).2.length then 12 else 0)else 11)else a6 N
def kg(N:aU)(keep:av):List (Int×Int):=if kc N keep=0 then(GO N keep).2 else[]
def iN(w:ay)(E:Int)(V:List (Int×Int))(e:Ending)(w':ay):Prop:=
 ∃A c,e=.returned (.tuple #[.slice A V c,E])/\bM w' w.1.size A c V/\aj w' w
section
variable{w:World}{n k:Nat}{N:aU}{keep:List Int}
def y7{kp:List Bool}{l:Nat}{La:av}:∀(O:av) (i:Nat) (s:jj),s.1.getD 0 false=true->(oN m kp l La O i s).1.getD 0 false=true
 |[],_,_,h=>h
 |id::r,i,s,h=>by
  rw[oN];refine y7 r (i+1) _ ?_;rw[tT];exact pG h
def BI{kp:List Bool}{l:Nat}{La:av}:∀(O:av) (i:Nat) (s:jj),(oN m kp l La O i s).2.length<=s.2+O.length*(m+1)
 |[],_,_=>by simp[oN]
 |id::r,i,s=>by
  rw[oN];have j:=BI (kp:=kp) (l:=l) (La:=La) r (i+1) (swp (uM kp l La i) (s.1.set id.toNat true,s.2++[(1,id)]) m);have b:=(sS (uM kp l La i) (s.1.set id.toNat true,s.2++[(1,id)]) m).1;simp only[a1,lO]at b;rw[dm,rP];omega
def GQ(keep:av)(z:Int)(L:List Bool):ov (keep++[z]) L=(ov keep L).set z.toNat true:=by simp[ov]
def Jx{l:Nat}{s:jj}(h:s.1.getD 0 false=true)(b:1<=l):(Lq l s).1.getD 0 false=true:=by
 unfold Lq;rw[aX]at h⊢;rw[lJ om];exact h
def Oz[a:aQ w A n B m N](hf:Hx N.fits)(hs:Hx N.small)[sk:Sl w C k keep](hk:k<=1000000)(hE:Hx (kc N keep=E)){V:List (Int×Int)}(hV:Hx (kg N keep=V)):
  () 32 #[.agg #[(A,n,c),(B,m,d)],(C,k,e)] w (iN w E V):=by
 obtain⟨CB,CP,FB⟩:=ha;have HM:Hx (m=N.nodes):=a.len;by_cases Q:a6 N=0;rotate_left
 .have r:=hE.o;have D:=hV.o;rw[kc,ag Q]at r;rw[kg,kc,ag Q,ag Q]at D;subst D;have I9:=ae r;have lA:E≠0:=by rw[<-r];exact Q
  have b0:(E !=0)=true:=by simp[lA]
  clear r Q
  go_in
  go_wp2_with (go_at_call 79;(with_reducible refine dO (λu0 _ _=>?_));(with_reducible refine(DK hf hs I9 lA).mono ?_);rintro e u ⟨rfl,_⟩)
  go_ret2;exact⟨none,0,rfl,bM.nil _ _,aK⟩
 obtain⟨O,L,l,nN,b,Ld,-⟩:=look_ok Q;have hm:m<=512:=by rw[HM.o];exact Ld
 have R:1<=m:=by have:=b.n9;have:=b.mB;rw[<-HM.o]at this;omega
 have My:=b.n9;have xm:l<=m:=by rw[HM.o];exact b.mB
 have HN:=ae b;have nT:=ae nN;have I9:=ae Q;obtain⟨La,hLa⟩:=lh (pD N);have HLV:=ae hLa;have hLT:GO N keep=SH N O La l m (ov keep (List.replicate (m+1) false)):=by
  rw[GO,b.ord,hLa,b.e1,bI,<-HM.o]
 have HLT:=ae hLT;have r:=hE.o;have D:=hV.o;rw[kc,ah Q]at r;rw[kg,hE.o]at D;have L6:=ae r;have UO:=ae D;have vu:Hx (∀id∈O,1<=id/\id<=m):=ae λid hid=>by have:=bn.1 (b.j7.ids id hid);rw[<-HM.o]at this;exact this
 clear r D hLT hLa b nN Q Ld
 go_in
 go_upto_region 5 with(go_at_call 79;(with_reducible refine dO (λu0 _ kn=>?_));(with_reducible refine(NW hf hs I9 HN nT HLV hm).mono ?_);rintro e u ⟨p,aa,G,rfl,pp,nip,sO,sL,HL⟩)
 have PO:Hx (keep=k):=sk.len.symm;obtain⟨FV,hFV⟩:=lh (hX N O m (List.replicate (m+1) 0));rw[hFV]at HL;have HFV:=ae hFV;have hBx:Bx p w.1.size 33 #[(A,n,c),(B,m,d)]:=ao;clear hFV;go_loopw [20] (λi wr=>∃(j:Nat),j<=k/\i=.int .i64 j/\Hx (fS p wr aa G m l ⟨FV,ov (keep.take j) (List.replicate (m+1) false),(List.replicate (m+1) false).set 0 true,[]⟩)/\Hx (∀z∈keep.take j,1<=z/\z<=m)) (λi _=>k-(intOf i).toNat)
 .exact⟨0,aT _,rfl,HL,ae aG⟩
 ·
  clear HL;obtain⟨j,hj,rfl,HL,HZ⟩:=hrel;obtain⟨A9,c9,hS9⟩:=HL.o;obtain⟨p9,kb,kF,kK,kP⟩:=hS9.facts;have vB:=ae hS9;clear hS9;by_cases bK:j<k
  .obtain⟨b4,q4,z,rfl,Z8,vz,ez⟩:=sk.get bK;have F:¬(1<=z/\z<=m)->11=E/\[]=V:=λhz=>by
    have e:(keep.all λz=>decide (1<=z)&&decide (z<=N.nodes.length))=false:=by
     rw[nu];refine⟨z,aC ez.o,?_⟩;rw[<-HM.o];simp;omega
    have h1:=L6.o;rw[ag (by rw[e];decide)]at h1;have h2:=UO.o;rw[<-h1,ag ak]at h2;exact⟨h1,h2⟩
   by_cases z1:z<1
   .obtain⟨rfl,rfl⟩:=F om;have t1:decide (z<1)=true:=by simpa using z1
    go_wp2_with fail
    go_ret2;exact⟨none,0,rfl,bM.nil _ _,aK⟩
   .have t1:decide (z<1)=false:=by simp;omega
    by_cases z2:(m:Int)<z
    .obtain⟨rfl,rfl⟩:=F om;have t2:decide ((m:Int)<z)=true:=by simpa using z2
     go_wp2_with fail
     go_ret2;exact⟨none,0,rfl,bM.nil _ _,aK⟩
    .have t2:decide ((m:Int)<z)=false:=by simp;omega
     obtain⟨y,rfl⟩:=cf (show 0<=z by omega);have hyi:(y:Int)<(m:Int)+1:=by omega
     obtain⟨yb,e5,-⟩:=gT (i:=y) vB.o.lk om;have Z6:=bO e5;have kR:Hx (ov (keep.take (j+1)) (List.replicate (m+1) false)=(ov (keep.take j) (List.replicate (m+1) false)).set y true):=ae (by rw[take_at ez.o,GQ,bI]);have HZ2:Hx (∀z∈keep.take (j+1),1<=z/\z<=m):=λx hx=>by
      rw[take_at ez.o]at hx;rcases bJ.1 hx with hx|hx
      .exact HZ.o x hx
      .rw[cF.1 hx];omega
     clear e5 F
     go_wp2_with fail
     go_roundw
     .exact⟨j+1,om,by go_num,ae ⟨A9,c9,by rw[kR.o];exact vB.o.abl y true⟩,HZ2⟩
     .simp[intOf];omega
  .obtain rfl:j=k:=om;have Xg:(keep.all λz=>decide (1<=z)&&decide (z<=N.nodes.length))=true:=by
    rw[cZ];intro z hz;have:=HZ.o z (by rw[bR (by rw[PO.o];exact an _)];exact hz);rw[<-HM.o];simp;omega
   obtain⟨kp,hkp⟩:=lh (ov keep (List.replicate (m+1) false));have hL:=HL.o;rw[bR (by rw[PO.o];exact an _),hkp]at hL;obtain⟨Dv,-⟩:Hx _/\True:=⟨ae hL,bA⟩;obtain⟨⟨S,I⟩,J⟩:=lh (oN m kp l La O 0 ((List.replicate (m+1) false).set 0 true,[]));obtain⟨⟨pH,T⟩,Gr⟩:=lh (uO N m kp FV O m (S.set l false,I++[(4,0)]++[(3,(l:Int))]++[(5,0)]));have K:GO N keep=(pH,T):=by rw[HLT.o,SH,hkp,HFV.o,J,Lq,Gr]
   have U:=L6.o;have X:=UO.o;rw[ah Xg,K]at U;rw[K]at X;dsimp only at U X;have lD:S.getD 0 false=true:=by
    have:=y7 (m:=m) (kp:=kp) (l:=l) (La:=La) O 0 ((List.replicate (m+1) false).set 0 true,[]) (by simp[aX]);rwa[J]at this
   have hc1:I.length<=300000:=by
    have:=BI (m:=m) (kp:=kp) (l:=l) (La:=La) O 0 ((List.replicate (m+1) false).set 0 true,[]);rw[J,HN.o.sM,<-HM.o]at this;have h5:m*(m+1)<=512*513:=Un hm om;simp at this;omega
   have GR:Hx ((S.set l false).getD 0 false=true):=ae (by
    have:=Jx (l:=l) (s:=(S,I)) lD My;exact this)
   have Jy:=ae J;have N7:=ae Gr;have vj:=ae U;have L8:=ae X;obtain⟨mb,Y⟩:=lC (decide (65536<(T.length:Int)));clear J Gr U X K Xg hkp hL lD kb kF kK kP vB;cases mb
   case false=>
    have h9:¬(65536<T.length):=by have:=Y.o;simp at this;omega
    have e9:=vj.o;have v9:=L8.o;rw[ag h9]at e9;rw[<-e9,ah rfl]at v9;subst e9 v9
    go_wp2_with (first|(go_at_call 81;(with_reducible refine(oj PL bY 5 0).mono ?_);rintro e u4 ⟨rfl,Mc,EV⟩)|(go_at_call 81;(with_reducible refine(oj RB (show I.length<=1000000 by omega) 4 0).mono ?_);rintro e u2 ⟨rfl,M,kR⟩;obtain⟨A2,c2,DE⟩:=M.o;obtain⟨p2,ty,-⟩:=DE.facts)|(go_at_call 82;refine(yy M bY xm).mono ?_;rintro e u3 ⟨rfl,PL,q7⟩)|(go_at_call 80;refine(uN Dv R hm aG vu Jy).mono ?_;rintro e u1 ⟨rfl,RB,oT⟩)|(go_at_call 83;refine(sV HN hs Mc R hm GR N7).mono ?_;rintro e u5 ⟨rfl,P,oV⟩;obtain⟨A5,c5,Z⟩:=P.o;obtain⟨p5,kb5,-⟩:=Z.facts)|(go_at_call 84;refine mv (m9 P Y) λu6 _=>?_))
    go_ret2;exact⟨A5,c5,rfl,(show aI _ _ 98 2 _ _ _ _ from Z.cd).at.less (ai (w:=w) (w':=p)),aK⟩
   case true=>
    have h9:65536<T.length:=by have:=Y.o;rw[cu]at this;omega
    have e9:=vj.o;have v9:=L8.o;rw[ah h9]at e9;rw[<-e9,ag ak]at v9;subst e9 v9
    go_wp2_with (first|(go_at_call 81;(with_reducible refine(oj PL bY 5 0).mono ?_);rintro e u4 ⟨rfl,Mc,EV⟩)|(go_at_call 81;(with_reducible refine(oj RB (show I.length<=1000000 by omega) 4 0).mono ?_);rintro e u2 ⟨rfl,M,kR⟩;obtain⟨A2,c2,DE⟩:=M.o;obtain⟨p2,ty,-⟩:=DE.facts)|(go_at_call 82;refine(yy M bY xm).mono ?_;rintro e u3 ⟨rfl,PL,q7⟩)|(go_at_call 80;refine(uN Dv R hm aG vu Jy).mono ?_;rintro e u1 ⟨rfl,RB,oT⟩)|(go_at_call 83;refine(sV HN hs Mc R hm GR N7).mono ?_;rintro e u5 ⟨rfl,P,oV⟩;obtain⟨A5,c5,Z⟩:=P.o;obtain⟨p5,kb5,-⟩:=Z.facts)|(go_at_call 84;refine mv (m9 P Y) λu6 _=>?_))
    go_ret2;exact⟨none,0,rfl,bM.nil _ _,aK⟩
end
variable{r:Nat}
def y8(O:av)(st:Nat):Nat->Nat->List Int
 |0,_=>[]
 |f+1,p=>if p<=O then O.getD (p-1) 0::y8 O st f (p+st)else[]
def oz(O:av)(st:Nat):List Int:=y8 O st O.length st
section
variable{w:World}{n k st:Nat}{N:aU}
def GS(O:av)(st:Nat):∀f p,(y8 O st f p).length<=f
 |0,_=>by simp[y8]
 |f+1,p=>by
  unfold y8
  split
  .have:=GS O st f (p+st);simp;omega
  .simp
def OA{O:av}{st p:Nat}(h:O<p):∀f,y8 O st f p=[]
 |0=>rfl
 |f+1=>by rw[y8,ag om]
def OB[aQ w A n B m N](U:Hx N.fits)(hs:Hx N.small)(z:Hx (a6 N=0))(D:Hx (dh N=(O,L,(l:Int))))(b:Hx (O=m))(hm:m<=12)(E:1<=m)(V:1<=st)(h2:st<=12):
  () 141 #[.agg #[(A,n,c),(B,m,d)],st] w (sJ w 0 (mw (oz O st))):=by
 obtain⟨CB,CP⟩:=h5;have t1:decide ((st:Int)<1)=false:=by simp;omega
 have t2:decide ((512:Int)<st)=false:=by simp;omega
 go_in
 go_wp2_with (first|(go_at_call 60;(with_reducible refine(io U hs z D b).mono ?_);rintro e u ⟨AO,cO,rfl,Y,oO,pO⟩)|(refine aw (λu0 _ kn=>?_)))
 obtain⟨Z,q0,z0,F,-⟩:=Y.get E;subst F;have HI:Hx (∀p f,O.length<p->y8 O st f p=[]):=λp f h=>OA h f;go_loopw [8,9] (λx i wr=>∃(p f:Nat) (X:av) (j:cD) (r:Nat),1<=p/\p<=24/\m+1<=p+f/\f<=12/\x=.slice j X r/\i=.int .i64 p/\X.length+f<=m/\az wr u.1.size 3 j r X/\Hx (X++y8 O st f p=oz O st)/\aj wr u) (λ_ i _=>100-(intOf i).toNat)
 .exact⟨st,m,[],none,0,V,om,om,hm,rfl,rfl,aG,az.nil _ _ _,ae (by rw[<-b.o];rfl),aK⟩
 ·
  obtain⟨p,f,X,j,r,vC,vq,hpf,R,rfl,rfl,hX,hO,G,Ar⟩:=hrel;by_cases bK:p<=m
  .have t3:decide ((p:Int)<=(m:Int))=true:=by simp;omega
   obtain⟨q,rfl⟩:∃q,p=q+1:=⟨p-1,om⟩;have b3:(q:Int)<(m:Int):=by omega
   obtain⟨f,rfl⟩:∃g,f=g+1:=⟨f-1,om⟩;obtain⟨b1,q1,x,I,q6,vx,ex⟩:=(show Sl u (some ⟨Z,q0,none⟩) m O from ao).get (show q<m by omega);cases I;have y:=ex.o;have J:Hx ((X++[x])++y8 O st f (q+1+st)=oz O st):=ae (by
    rw[<-G.o,y8,ah (by rw[b.o];omega),aX,show q+1-1=q by omega,y];simp)
   clear y G
   go_wp2_with (at_builtin;refine hC rfl _ _ _ rfl 3 underlying24 aq u.1.size j r X rfl hO.at x rfl om ai ?_;intro A3 c3 w3 K M _ _)
   go_roundw
   .exact⟨q+1+st,f,X++[x],A3,c3,om,om,om,om,aG,by go_num,by simp;omega,K,J,⟨(a7 u _).trans M⟩⟩
   .simp[intOf];omega
  .have t3:decide ((p:Int)<=(m:Int))=false:=by simp;omega
   have y:X=oz O st:=by have:=G.o;rwa[HI.o p f (by rw[b.o];omega),fG]at this
   have S:=ae y;have HO:=ae hO;clear hO y
   go_wp2_with (go_at_call 193;refine(Pj HO ai om rfl).mono ?_;rintro e T ⟨rfl,P,Q⟩;obtain⟨p3,-⟩:aj T u/\True:=⟨⟨(a7 u _).trans Q⟩,bA⟩)
   go_ret2;exact⟨j,r,by rw[w8,<-S.o];rfl,by rw[<-S.o];exact P.more (ai (w:=w) (w':=u)),ab w T⟩
def jo(N:aU):List Int:=mw (oz (d7 N) (sf N.nodes.length))
def Jz(b:1<=n)(j:n<=12)(hq:Hx (sf n=r)):() 142 #[n] w (aD w r):=by
 rw[<-hq.o];exact LW b j
def We:∀n,n<=12->1<=n->1<=sf n/\sf n<=12:=ak
def JA(h:O.length<=12):(mw (oz O st)).length<=12:=by
 rw[w8];exact aO (GS _ _ _ _) h
def SX[a:aQ w A n B m N](M:Hx N.fits)(hs:Hx N.small)(u:Hx (a6 N=0))(hm:m<=12):
  () 93 #[.agg #[(A,n,c),(B,m,d)]] w (sJ w 0 (jo N)):=by
 have S:=@aa;have z:Hx (m=N.nodes):=a.len;obtain⟨O,L,l,y,b,F,-⟩:=look_ok u;have j:1<=m:=by have:=b.n9;have:=b.mB;rw[<-z.o]at this;omega
 obtain⟨i1,i2⟩:=We m hm j;have D:Hx (O=m):=ae (by rw[b.sM,z.o]);have G:Hx (mw (oz O (sf m))=jo N):=ae (by rw[jo,b.ord,z.o]);have E:=ae y;obtain⟨r,hr⟩:=lh (sf m);have P:=ae hr;rw[hr]at i1 i2 G;clear y b hr
 go_in
 go_upto_region 1 with fail
 refine aw (λQ _ T=>?_);refine aH Q aq (λI _=>?_);refine qL [0,1,2,3] ?_;refine aM 4 λK hK=>?_;go_simp
 (with_reducible refine(Jz j hm P).mono ?_)
 rintro e I ⟨rfl,_⟩;dsimp only;refine aL hK ?_;refine aM 5 λK hK=>?_;go_simp
 (with_reducible refine(OB (st:=r) M hs u E D hm j i1 i2).mono ?_)
 rintro e I ⟨R,c1,rfl,J,_⟩;dsimp only;refine aL hK ?_;refine qL [6,7,8,9] ?_;refine aZ ?_;rw[G.o]at J⊢
 go_wp2_with fail
 go_ret2;exact⟨R,c1,rfl,J.more (ai (w:=w)),aK⟩
end
variable{K:Option Addr}{g j:Nat}{P1 P2 P3 P4 cap:Int}{ps:List (Int×Int)}
section
variable{w:World}{n k:Nat}{N:aU}{keep:List Int}
def ub:(kg N keep).length<=65536:=by
 unfold kg
 split
 .rename_i h;unfold kc at h;by_cases b:a6 N=0
  .rw[ah b]at h
   split at h
   .split at h
    .exact absurd h ak
    .omega
   .exact absurd h ak
  .rw[ag b]at h;exact absurd h b
 .simp
def rD[aQ w A n B m N](l:Hx N.fits)(hs:Hx N.small)[Sl w K k keep](r:k<=1000000)(hE:Hx (kc N keep=E)){V:List (Int×Int)}(hV:Hx (kg N keep=V)){x:Nat}(y:Hx (V=x)):
  () 32 #[.agg #[.slice A n c,(B,m,d)],(K,k,g)] w λe w'=>∃A c,e=.returned (.tuple #[.slice A x c,E])/\Is w' A x V/\bM w' w.1.size A c V/\aj w' w:=by
 obtain rfl:=y.o;exact(Oz l hs r hE hV).mono λe w' ⟨A,c,z,b,C⟩=>⟨A,c,z,⟨b.rd,rfl⟩,b,C⟩
def GV[aQ w A n B m N](b:Hx N.fits)(hs:Hx N.small)[Is w K k ps](e:k<=65536)(l:cap<=144115188075855872)(r:Hx (j9 N cap ps=E))(y:Hx (oO N cap ps=(P1,P2,P3,P4))):
  () 14 #[.agg #[(A,n,c),(B,m,d)],(K,k,g),cap] w (aD w (.tuple #[.agg #[P1,P2,P3,P4],E])):=Lc b hs e l r y
end
