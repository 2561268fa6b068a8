/- Lemmas. -/
import Derived.Laws.BitsLemmas
import Derived.Test.YtmkjnlifimffkaaGreatG16
namespace Go.Proofs.YtmkjnlifimffkaaGreat
open Go.RowKit Tryz
set_option linter.all false
set_option maxRecDepth 100000
set_option maxHeartbeats 0
variable{Γ:Prop}
attribute[local irreducible]Calls
variable{p u w':World}{A B C:Option Addr}{c d e l m:Nat}{La O:List Int}{L:List (List Int)}{E:Int}
def qB(keep:au)(L:List Bool):List Bool:=keep.foldl (λL z=>L.set z.toNat true) L
def Rm(l:Nat)(s:kO):kO:=(s.1.set l false,s.2++[(4,0)]++[(3,(l:Int))]++[(5,0)])
def Zs(N:a6)(O b:au)(l m:Nat)(kp:List Bool):kO:=
 yR N m kp (jg N O m (List.replicate (m+1) 0)) O m (Rm l (qO m kp l b O 0 ((List.replicate (m+1) false).set 0 true,[])))
def LN(N:a6)(keep:au):kO:=Zs N (eC N) (rY N) (gj N).toNat N.nodes.length (qB keep (List.replicate (N.nodes.length+1) false))
def lX(N:a6)(keep:au):Int:=
 if bm N=0 then(if keep.all (λz=>decide (1<=z)&&decide (z<=N.nodes.length))then(if 65536<(LN N keep).2.length then 12 else 0)else 11)else bm N
def lY(N:a6)(keep:au):List (Int×Int):=if lX N keep=0 then(LN N keep).2 else[]
def kg(w:ab)(E:Int)(V:List (Int×Int))(e:Ending)(w':ab):Prop:=
 ∃A c,e=.returned (.tuple #[.slice A V c,E])/\bZ w' w.1.size A c V/\aj w' w
section
variable{w:World}{n k:Nat}{N:a6}{keep:List Int}
def Dm{kp:List Bool}{l:Nat}{La:au}:∀(O:au) (i:Nat) (s:kO),s.1.getD 0 false=true->(qO m kp l La O i s).1.getD 0 false=true
 |[],_,_,h=>h
 |id::r,i,s,h=>by rw[qO];refine Dm r (i+1) _ ?_;rw[xP];exact r4 h
def Ge{kp:List Bool}{l:Nat}{La:au}:∀(O:au) (i:Nat) (s:kO),(qO m kp l La O i s).2.length<=s.2+O.length*(m+1)
 |[],_,_=>by simp[qO]
 |id::r,i,s=>by rw[qO];have j:=Ge (kp:=kp) (l:=l) (La:=La) r (i+1) (swp (yP kp l La i) (s.1.set id.toNat true,s.2++[(1,id)]) m);have b:=(wq (yP kp l La i) (s.1.set id.toNat true,s.2++[(1,id)]) m).1;simp only[bh,l5]at b;rw[fD,im];omega
def LO(keep:au)(z:Int)(L:List Bool):qB (keep++[z]) L=(qB keep L).set z.toNat true:=by simp[qB]
def O5{l:Nat}{s:kO}(h:s.1.getD 0 false=true)(b:1<=l):(Rm l s).1.getD 0 false=true:=by
 unfold Rm;rw[a5]at h⊢;rwa[zB Y]
def zQ0(h:Γ:=by exact⟨none,0,rfl,bZ.nil _ _,aC⟩):=h
def zQ1(h:Γ:=by simp[intOf];omega):=h
def zQ3(h:Γ:=by go_wp2_with fail;go_ret2;exact zQ0):=h
def UT[a:aW w A n B m N](hf:Z N.fits)(hs:Z N.small)[sk:Sl w C k keep](hk:k<=1000000)(hE:Z (lX N keep=E)){V:List (Int×Int)}(hV:Z (lY N keep=V)):
  () 32 #[.agg #[(A,n,c),(B,m,d)],(C,k,e)] w (kg w E V):=by
 obtain⟨CB,CP,FB⟩:=gW;have HM:Z (m=N.nodes):=a.len;by_cases Q:bm N=0;rotate_left
 .have r:=hE.o;have D:=hV.o;rw[lX,ag Q]at r;rw[lY,lX,ag Q,ag Q]at D;subst D;have uq:=U r;(have ia:E≠0:=by rwa[<-r]);(have b0:(E !=0)=true:=by simp[ia]);clear r Q;go_in;go_wp2_with (go_at_call 79;refine er (λu0 _ _=>?_);refine(Iw hf hs uq ia).mono ?_;rintro e u ⟨rfl,_⟩);go_ret2;exact zQ0
 obtain⟨O,L,l,pZ,b,Ra,-⟩:=look_ok Q;have hm:m<=512:=by rwa[HM.o]
 have R:1<=m:=by have:=b.oT;have:=b.lQ;rw[<-HM.o]at this;omega
 have En:=b.oT;have rm:l<=m:=by rw[HM.o];exact b.lQ
 have HN:=U b;have iO:=U pZ;have uq:=U Q;obtain⟨La,hLa⟩:=lh (rY N);have HLV:=U hLa;have hLT:LN N keep=Zs N O La l m (qB keep (List.replicate (m+1) false)):=by rw[LN,b.ord,hLa,b.gj,a9,<-HM.o]
 have HLT:=U hLT;have r:=hE.o;have D:=hV.o;rw[lX,ah Q]at r;rw[lY,hE.o]at D;have R0:=U r;have M1:=U D;have wa:Z (∀id∈O,1<=id/\id<=m):=U λid hid=>by have:=bt.1 (b.m8.ids id hid);rw[<-HM.o]at this;exact this
 clear r D hLT hLa b pZ Q Ra;go_in;go_upto_region 5 with(go_at_call 79;refine er (λu0 _ kn=>?_);refine(Ug hf hs uq HN iO HLV hm).mono ?_;rintro e u ⟨p,aa,G,rfl,pp,nip,sO,sL,HL⟩);have We:Z (keep=k):=sk.len.symm;obtain⟨FV,hFV⟩:=lh (jg N O m (List.replicate (m+1) 0));rw[hFV]at HL;have HFV:=U hFV;have hBx:Bx p w.1.size 33 #[(A,n,c),(B,m,d)]:=am;clear hFV;go_loopw [20] (λi wr=>∃(j:Nat),j<=k/\i=.int .i64 j/\Z (gU p wr aa G m l ⟨FV,qB (keep.take j) (List.replicate (m+1) false),(List.replicate (m+1) false).set 0 true,[]⟩)/\Z (∀z∈keep.take j,1<=z/\z<=m)) (λi _=>k-(intOf i).toNat);exact⟨0,aR _,rfl,HL,U aI⟩;clear HL;obtain⟨j,hj,rfl,HL,HZ⟩:=hrel;obtain⟨A9,c9,hS9⟩:=HL.o;obtain⟨p9,kb,kF,kK,kP⟩:=hS9.facts;have ER:=U hS9;clear hS9;by_cases bD:j<k
 .obtain⟨b4,q4,z,rfl,ob4,vz,ez⟩:=sk.get bD;(have F:¬(1<=z/\z<=m)->11=E/\[]=V:=λhz=>by (have e:(keep.all λz=>decide (1<=z)&&decide (z<=N.nodes.length))=false:=by rw[pI];refine⟨z,aK ez.o,?_⟩;rw[<-HM.o];simp;omega);have h1:=R0.o;rw[ag (by rw[e];decide)]at h1;have h2:=M1.o;rw[<-h1,ag ao]at h2;exact⟨h1,h2⟩);by_cases z1:z<1;obtain⟨rfl,rfl⟩:=F Y;(have t1:decide (z<1)=true:=by simpa using z1);exact zQ3;(have t1:decide (z<1)=false:=by simp;omega);by_cases z2:(m:Int)<z;obtain⟨rfl,rfl⟩:=F Y;(have t2:decide ((m:Int)<z)=true:=by simpa using z2);exact zQ3;(have t2:decide ((m:Int)<z)=false:=by simp;omega);obtain⟨y,rfl⟩:=bO (show 0<=z by omega);(have hyi:(y:Int)<(m:Int)+1:=by omega);obtain⟨yb,e5,-⟩:=ii (i:=y) ER.o.lk Y;have hg5:=ce e5;have nB:Z (qB (keep.take (j+1)) (List.replicate (m+1) false)=(qB (keep.take j) (List.replicate (m+1) false)).set y true):=U (by rw[take_at ez.o,LO,a9]);(have LA:Z (∀z∈keep.take (j+1),1<=z/\z<=m):=λx hx=>by rw[take_at ez.o]at hx;rcases cu.1 hx with hx|hx;exact HZ.o x hx;rw[de.1 hx];omega);clear e5 F;go_wp2_with fail;go_roundw;exact⟨j+1,Y,by go_num,U ⟨A9,c9,by rw[nB.o];exact ER.o.ae1 y true⟩,LA⟩;exact zQ1
 obtain rfl:j=k:=Y;have pi:(keep.all λz=>decide (1<=z)&&decide (z<=N.nodes.length))=true:=by rw[dL];intro z hz;have:=HZ.o z (by rw[bV (by rw[We.o];exact al _)];exact hz);rw[<-HM.o];simp;omega
 obtain⟨kp,hkp⟩:=lh (qB keep (List.replicate (m+1) false));have hL:=HL.o;rw[bV (by rw[We.o];exact al _),hkp]at hL;obtain⟨Ij,-⟩:Z _/\True:=⟨U hL,bq⟩;obtain⟨⟨S,I⟩,J⟩:=lh (qO m kp l La O 0 ((List.replicate (m+1) false).set 0 true,[]));obtain⟨⟨r5,T⟩,Lm⟩:=lh (yR N m kp FV O m (S.set l false,I++[(4,0)]++[(3,(l:Int))]++[(5,0)]));have K:LN N keep=(r5,T):=by rw[HLT.o,Zs,hkp,HFV.o,J,Rm,Lm]
 have X:=R0.o;have UU:=M1.o;rw[ah pi,K]at X;rw[K]at UU;dsimp only at X UU;have gu:S.getD 0 false=true:=by have:=Dm (m:=m) (kp:=kp) (l:=l) (La:=La) O 0 ((List.replicate (m+1) false).set 0 true,[]) (by simp[a5]);rwa[J]at this
 have EH:I.length<=300000:=by have:=Ge (m:=m) (kp:=kp) (l:=l) (La:=La) O 0 ((List.replicate (m+1) false).set 0 true,[]);rw[J,HN.o.tI,<-HM.o]at this;have h5:m*(m+1)<=512*513:=ve hm Y;simp at this;omega
 have LP:Z ((S.set l false).getD 0 false=true):=U (by
  have:=O5 (l:=l) (s:=(S,I)) gu En;exact this)
 have O6:=U J;have Us:=U Lm;have y5:=U X;have R7:=U UU;obtain⟨mb,w5⟩:=l8 (decide (65536<(T.length:Int)));clear J Lm X UU K pi hkp hL gu kb kF kK kP ER;cases mb;case false=>(have h9:¬(65536<T.length):=by have:=w5.o;simp at this;omega);have e9:=y5.o;have v9:=R7.o;rw[ag h9]at e9;rw[<-e9,ah rfl]at v9;subst e9 v9;go_wp2_with (first|(go_at_call 81;refine(qu Wb ch 5 0).mono ?_;rintro e u4 ⟨rfl,R9,Sa⟩)|(go_at_call 81;refine(qu Ye (show I.length<=1000000 by omega) 4 0).mono ?_;rintro e u2 ⟨rfl,M,nB⟩;obtain⟨A2,c2,Io⟩:=M.o;obtain⟨p2,w6,-⟩:=Io.facts)|(go_at_call 82;refine(CM M ch rm).mono ?_;rintro e u3 ⟨rfl,Wb,t5⟩)|(go_at_call 80;refine(yQ Ij R hm aI wa O6).mono ?_;rintro e u1 ⟨rfl,Ye,rk⟩)|(go_at_call 83;refine(ww HN hs R9 R hm LP Us).mono ?_;rintro e u5 ⟨rfl,P,qV⟩;obtain⟨A5,c5,hS5⟩:=P.o;obtain⟨p5,M0,-⟩:=hS5.facts)|(go_at_call 84;refine mv (pz P w5) λu6 _=>?_));go_ret2;exact⟨A5,c5,rfl,(show aT _ _ 98 2 _ _ _ _ from hS5.cd).at.less (ai (w:=w) (w':=p)),aC⟩
 case true=>(have h9:65536<T.length:=by have:=w5.o;rw[b9]at this;omega);have e9:=y5.o;have v9:=R7.o;rw[ah h9]at e9;rw[<-e9,ag ao]at v9;subst e9 v9;go_wp2_with (first|(go_at_call 81;refine(qu Wb ch 5 0).mono ?_;rintro e u4 ⟨rfl,R9,Sa⟩)|(go_at_call 81;refine(qu Ye (show I.length<=1000000 by omega) 4 0).mono ?_;rintro e u2 ⟨rfl,M,nB⟩;obtain⟨A2,c2,Io⟩:=M.o;obtain⟨p2,w6,-⟩:=Io.facts)|(go_at_call 82;refine(CM M ch rm).mono ?_;rintro e u3 ⟨rfl,Wb,t5⟩)|(go_at_call 80;refine(yQ Ij R hm aI wa O6).mono ?_;rintro e u1 ⟨rfl,Ye,rk⟩)|(go_at_call 83;refine(ww HN hs R9 R hm LP Us).mono ?_;rintro e u5 ⟨rfl,P,qV⟩;obtain⟨A5,c5,hS5⟩:=P.o;obtain⟨p5,M0,-⟩:=hS5.facts)|(go_at_call 84;refine mv (pz P w5) λu6 _=>?_));go_ret2;exact zQ0
end
variable{r:Nat}
def Dn(O:au)(st:Nat):Nat->Nat->List Int
 |0,_=>[]
 |f+1,p=>if p<=O then O.getD (p-1) 0::Dn O st f (p+st)else[]
def qC(O:au)(st:Nat):List Int:=Dn O st O.length st
section
variable{w:World}{n k st:Nat}{N:a6}
def LQ(O:au)(st:Nat):∀f p,(Dn O st f p).length<=f
 |0,_=>by simp[Dn]
 |f+1,p=>by unfold Dn;split;have:=LQ O st f (p+st);simp;omega;simp
def UV{O:au}{st p:Nat}(h:O<p):∀f,Dn O st f p=[]
 |0=>rfl
 |f+1=>by rw[Dn,ag Y]
def UW[aW w A n B m N](V:Z N.fits)(hs:Z N.small)(z:Z (bm N=0))(D:Z (dz N=(O,L,(l:Int))))(b:Z (O=m))(hm:m<=12)(E:1<=m)(h1:1<=st)(h2:st<=12):
  () 141 #[.agg #[(A,n,c),(B,m,d)],st] w (we w 0 (oE (qC O st))):=by
 obtain⟨CB,CP⟩:=hY;have t1:decide ((st:Int)<1)=false:=by simp;omega
 have t2:decide ((512:Int)<st)=false:=by simp;omega
 go_in;go_wp2_with (first|(go_at_call 60;refine(jC V hs z D b).mono ?_;rintro e u ⟨AO,cO,rfl,sO,oO,pO⟩)|(refine aa (λu0 _ kn=>?_)));obtain⟨b0,q0,z0,F,-⟩:=sO.get E;subst F;have HI:Z (∀p f,O.length<p->Dn O st f p=[]):=λp f h=>UV h f;go_loopw [8,9] (λx i wr=>∃(p f:Nat) (X:au) (j:bz) (r:Nat),1<=p/\p<=24/\m+1<=p+f/\f<=12/\x=.slice j X r/\i=.int .i64 p/\X.length+f<=m/\aD wr u.1.size 3 j r X/\Z (X++Dn O st f p=qC O st)/\aj wr u) (λ_ i _=>100-(intOf i).toNat);exact⟨st,m,[],none,0,h1,Y,Y,hm,rfl,rfl,aI,aD.nil _ _ _,U (by rw[<-b.o];rfl),aC⟩;obtain⟨p,f,X,j,r,qX,rE,hpf,R,rfl,rfl,hX,hO,G,EP⟩:=hrel;by_cases bD:p<=m
 .have t3:decide ((p:Int)<=(m:Int))=true:=by simp;omega
  obtain⟨q,rfl⟩:∃q,p=q+1:=⟨p-1,Y⟩;have b3:(q:Int)<(m:Int):=by omega
  obtain⟨f,rfl⟩:∃g,f=g+1:=⟨f-1,Y⟩;obtain⟨b1,q1,x,I,mM,vx,ex⟩:=(show Sl u (some ⟨b0,q0,none⟩) m O from am).get (show q<m by omega);cases I;have y:=ex.o;have J:Z ((X++[x])++Dn O st f (q+1+st)=qC O st):=U (by
   rw[<-G.o,Dn,ah (by rw[b.o];omega),a5,show q+1-1=q by omega,y];simp)
  clear y G;go_wp2_with (at_builtin;refine iS rfl _ _ _ rfl 3 underlying24 ap u.1.size j r X rfl hO.at x rfl Y ai ?_;intro A3 c3 w3 K M _ _);go_roundw;exact⟨q+1+st,f,X++[x],A3,c3,Y,Y,Y,Y,aI,by go_num,by simp;omega,K,J,⟨(aO u _).trans M⟩⟩;exact zQ1
 have t3:decide ((p:Int)<=(m:Int))=false:=by simp;omega
 have y:X=qC O st:=by have:=G.o;rwa[HI.o p f (by rw[b.o];omega),ev]at this
 have S:=U y;have HO:=U hO;clear hO y;go_wp2_with (go_at_call 193;refine(VI HO ai Y rfl).mono ?_;rintro e T ⟨rfl,P,Q⟩;obtain⟨p3,-⟩:aj T u/\True:=⟨⟨(aO u _).trans Q⟩,bq⟩);go_ret2;exact⟨j,r,by rw[A5,<-S.o];rfl,by rw[<-S.o];exact P.more (ai (w:=w) (w':=u)),aG w T⟩
def kS(N:a6):List Int:=oE (qC (eC N) (vo N.nodes.length))
def O7(b:1<=n)(j:n<=12)(hq:Z (vo n=r)):() 142 #[n] w (aL w r):=by
 rw[<-hq.o];exact RQ b j
def abI:∀n,n<=12->1<=n->1<=vo n/\vo n<=12:=ao
def O8(h:O.length<=12):(oE (qC O st)).length<=12:=by
 rw[A5];exact aQ (LQ _ _ _ _) h
def Zt[a:aW w A n B m N](M:Z N.fits)(hs:Z N.small)(u:Z (bm N=0))(hm:m<=12):
  () 93 #[.agg #[(A,n,c),(B,m,d)]] w (we w 0 (kS N)):=by
 have S:=@az;have z:Z (m=N.nodes):=a.len;obtain⟨O,L,l,y,b,F,-⟩:=look_ok u;have j:1<=m:=by have:=b.oT;have:=b.lQ;rw[<-z.o]at this;omega
 obtain⟨i1,i2⟩:=abI m hm j;have D:Z (O=m):=U (by rw[b.tI,z.o]);have G:Z (oE (qC O (vo m))=kS N):=U (by rw[kS,b.ord,z.o]);have E:=U y;obtain⟨r,hr⟩:=lh (vo m);have P:=U hr;rw[hr]at i1 i2 G;clear y b hr;go_in;go_upto_region 1 with fail;refine aa (λQ _ T=>?_);refine ax Q ap (λI _=>?_);refine qL [0,1,2,3] ?_;refine aJ 4 λK hK=>?_;go_simp;refine(O7 j hm P).mono ?_;rintro e I ⟨rfl,_⟩;dsimp only;refine aE hK<|aJ 5 λK hK=>?_;go_simp;refine(UW (st:=r) M hs u E D hm j i1 i2).mono ?_;rintro e I ⟨R,c1,rfl,J,_⟩;dsimp only;refine aE hK ?_;refine qL [6,7,8,9] ?_;refine a8 ?_;rw[G.o]at J⊢;go_wp2_with fail;go_ret2;exact⟨R,c1,rfl,J.more (ai (w:=w)),aC⟩
end
variable{g j:Nat}{P1 P2 P3 P4 cap:Int}
section
variable{w:World}{K:Option Addr}{n k:Nat}{N:a6}{keep:List Int}
def yc:(lY N keep).length<=65536:=by
 unfold lY;split
 .rename_i h;unfold lX at h;by_cases b:bm N=0
  .rw[ah b]at h;split at h
   .split at h;exact absurd h ao;omega
   exact absurd h ao
  rw[ag b]at h;exact absurd h b
 simp
def uz[aW w A n B m N](l:Z N.fits)(hs:Z N.small)[Sl w K k keep](r:k<=1000000)(hE:Z (lX N keep=E)){V:List (Int×Int)}(hV:Z (lY N keep=V)){x:Nat}(y:Z (V=x)):
  () 32 #[.agg #[.slice A n c,(B,m,d)],(K,k,g)] w λe w'=>∃A c,e=.returned (.tuple #[.slice A x c,E])/\Is w' A x V/\bZ w' w.1.size A c V/\aj w' w:=by
 obtain rfl:=y.o;exact(UT l hs r hE hV).mono λe w' ⟨A,c,z,b,C⟩=>⟨A,c,z,⟨b.rd,rfl⟩,b,C⟩
def LR[aW w A n B m N](b:Z N.fits)(hs:Z N.small){ps:List (Int×Int)}[Is w K k ps](e:k<=65536)(l:cap<=144115188075855872)(r:Z (lJ N cap ps=E))(y:Z (pA N cap ps=(P1,P2,P3,P4))):
  () 14 #[.agg #[(A,n,c),(B,m,d)],(K,k,g),cap] w (aL w (.tuple #[.agg #[P1,P2,P3,P4],E])):=Q9 b hs e l r y
end
variable{qs:List (Int×Int)}
def Rn(N:a6)(ps:List (Int×Int)):Int:=if iy N=0 then(gG (dt N 1073741824) (mi N.nodes.length) ps).1 else iy N
def Ro(N:a6)(ps:List (Int×Int)):Int:=if Rn N ps=0 then(gG (dt N 1073741824) (mi N.nodes.length) ps).2.kq else 0
section
variable{w:World}{K:Option Addr}{n k:Nat}{ps:List (Int×Int)}{N:a6}{V:Int}
def LS[a:aW w A n B m N](hf:Z N.fits)(hs:Z N.small)[i:Is w K k ps](hk:k<=65536)(HE:Z (Rn N ps=E))(HV:Z (Ro N ps=V)):
  () 195 #[.agg #[(A,n,c),(B,m,d)],(K,k,g)] w (aL w (.tuple #[V,E])):=by
 obtain⟨CB,CP,FB⟩:=gW;have HM:Z (m=N.nodes):=a.len;have hE:=HE.o;have hV:=HV.o;rw[Ro,hE]at hV;rw[Rn]at hE;by_cases c1:iy N=0;rotate_left
 .rw[ag c1]at hE;have D:=U hE;(have h0:E≠0:=by rwa[<-hE]);(have b0:(E !=0)=true:=by simp[h0]);rw[ag h0]at hV;subst hV;clear hE c1;go_in;go_upto_region 1 with fail;refine aa (λu0 _ kn=>?_);go_wp2_with (go_at_call 34;refine mv (CS hf hs D h0 1073741824) λu1 _=>?_);go_ret2;exact bF
 rw[ah c1]at hE;have D:=U c1;obtain⟨O,L,l,P,Q,R,-⟩:=look_ok (nh c1);obtain⟨o1,o2,o3,o4⟩:=wx c1 P Q;obtain⟨C,S⟩:=lh (dt N 1073741824);have y:C.cap=1073741824:=by rw[<-S];rfl
 have T:C.words=m+1:=by rw[<-S,HM.o];exact o2
 rw[S,<-HM.o]at hE hV;obtain⟨s0,r⟩:=lh (mi m);have z:CT s0 0:=by rw[<-r];exact Q8
 rw[r]at hE hV;have HC:=U S;have uu:=U r;have X:=U y;have HWL:Z (C.words=m+1):=T;have BB:Z (k=ps):=i.len;have F:=U hE;have G:=U hV;have OP:=U z;clear P Q R o1 o2 o3 o4 c1 r y T S HE HV hE hV z;go_in;go_upto_region 1 with fail;refine aa (λu0 _ kn=>?_);go_upto_region 2 with(go_at_call 34;refine(Q7 hf hs D 1073741824).mono ?_;rintro e u1 ⟨p,a,ss,rfl,pp,HP,b,HCW⟩);rw[HC.o]at HP b;rw[uu.o]at b;have pu:aj u1 p:=b.o.prev;go_wp2_with fail;go_loopw [21] (λt wr=>∃(j:Nat) (s:jI),j<=k/\t=.int .i64 j/\Z (ee p wr a m C s)/\Z (CT s j)/\Z (gG C s (ps.drop j)=gG C s0 ps)) (λt _=>k-(intOf t).toNat);exact⟨0,s0,aR _,rfl,b,OP,U rfl⟩;clear b OP pu;obtain⟨j,s,hj,rfl,b,HB,HG⟩:=hrel;have pw:aj wr p:=b.o.prev;by_cases bD:j<k
 .obtain⟨b1,o1,kd,id,rfl,mM,v1,v2,e1⟩:=i.get bD;(have K9:ps.drop j=(kd,id)::ps.drop (j+1):=by obtain⟨h1,h2⟩:=bj.1 e1.o;rw[e7 h1,h2]);obtain⟨de,I⟩:=lh (lS C s kd id);have hg:=HG.o;rw[K9,gG,I]at hg;have J:=U I;have M:Z (-144115188075855872<=s.now/\s.now<=144115188075855872/\0<=s.done/\s.done<=1000000):=U (by obtain⟨x1,x2,x3,x4⟩:=HB.o;omega);clear I K9;by_cases d0:de=0
  .subst d0;rw[ah rfl]at hg;have nF:=U hg;have Hm:=U (CU HP HB J (by rw[X.o];decide));obtain⟨q1,q2,q3,q4⟩:=s1 J;have HQ1:=U q1;have X5:Z (id<=(m:Int)):=U (by rw[HWL.o]at q2;omega);have X6:=U q3;have HQ4:=U q4;clear hg q1 q2 q3 q4;go_wp2_with (go_at_call 35;refine mv (CK HP b.o.at HQ1 X5 X6 M.o.2.2.1 M.o.2.2.2 M.o.1 M.o.2.1 HQ4 (by rw[X.o];decide)) λu5 xR=>?_);go_roundw;exact⟨j+1,_,Y,by go_num,U xR,Hm,nF⟩;exact zQ1
  rw[ag d0]at hg;have hE:=F.o;have hV:=G.o;rw[<-hg]at hE;subst hE;rw[ag d0]at hV;subst hV;(have b0:(de !=0)=true:=by simp[d0]);have HD0:=U d0;clear hg d0;go_wp2_with (go_at_call 35;refine mv (FT HP b.o.at J HD0 M.o.2.2.1 M.o.1 M.o.2.1) λu5 _=>?_);go_ret2;exact bF
 obtain rfl:j=k:=Y;have hg:=HG.o;rw[BB.o,uO,gG]at hg;have hE:=F.o;have hV:=G.o;rw[<-hg]at hE hV;dsimp only at hE hV;subst hE;rw[ah rfl]at hV;subst hV;clear hg F G;go_wp2_with (go_at_call 234;refine mv (X8 b) λu5 _=>?_);go_ret2;exact bF
end
variable{AK:Option Addr}{R:Nat}{ks:List Int}
structure UX where
 A:Option Addr
 n:Nat
 c:Nat
 B:Option Addr
 d:Nat
 AW:Option Addr
 cW:Nat
structure tx(p w:World)(g:Nat)(a:UX)(m:Nat)(W:List Int)(AK:Option Addr)(cK:Nat)(ks:List Int):Prop where
 prev:aj w p
 bx:aA w g 240 #[.slice a.A a.n a.c,.slice a.B m a.d,.slice a.AW (m+1) a.cW,.slice AK ks cK]
 wd:aD w p.1.size 3 a.AW a.cW W
 kp:aD w p.1.size 3 AK cK ks
 wl:W=m+1
 hg:p<=g
 ne:∀x y,a.AW=some x->AK=some y->x.block≠y.block
section
variable{w:World}{n k:Nat}{N:a6}{W C:List Int}{T:Int}{a:UX}
def tx.at(h:tx p w g a m W AK R ks)[l:aM w w']:tx p w' g a m W AK R ks:=⟨⟨dm h.prev.st l.st⟩,h.bx.at,h.wd.at,h.kp.at,h.wl,h.hg,h.ne⟩
def tx.facts(h:tx p w g a m W AK R ks):aj w p/\Bx w g 240 #[.slice a.A a.n a.c,.slice a.B m a.d,.slice a.AW (m+1) a.cW,.slice AK ks R]/\Sl w a.AW (m+1) W/\Sl w AK ks ks:=
 ⟨h.prev,⟨h.bx⟩,⟨h.wd.rd,h.wl.symm⟩,⟨h.kp.rd,rfl⟩⟩
def adI(w:ab)(A B:bz)(n m c d:Nat)(W ks:au)(e:Ending)(w':ab):Prop:=
 ∃g AW cW AK R,e=.returned (.tuple #[.pointer (some ⟨g,0,none⟩),an])/\Z (tx w w' g ⟨A,n,c,B,d,AW,cW⟩ m W AK R ks)
def IM[aW w A n B m N](F:Z N.fits)(hs:Z N.small)(l:Z (bm N=0))(b:Z (iy N=E))(r:E≠0):() 143 #[.agg #[(A,n,c),(B,m,d)]] w (aL w (.tuple #[.pointer none,E])):=by
 have G:=@az;have I:=@aP;have y:=l;have z:Z (jG N=([],[],0)):=U (by rw[jG,b.o,ag r]);have j:Z (([]:au).length=0):=rfl;have D:=j;have J:(E !=0)=true:=by simp[r]
 clear r;go_in;go_upto_region 1 with fail;refine aa (λK _ L=>?_);go_upto_region 5 with(first|(go_at_call 9;refine(qo F hs b z j D).mono ?_;rintro e u ⟨AW,cW,AC,cC,rfl,M,O,P,Q,S⟩)|(go_at_call 40;refine(ih F hs y).mono ?_;rintro e u ⟨rfl,_⟩));refine aa (λV _ kp=>?_);go_wp2_with fail;go_ret2;exact bF
def UY[a:aW w A n B m N](hf:Z N.fits)(hs:Z N.small)(b:Z (iy N=0))(z:Z (jG N=(W,C,T))):() 143 #[.agg #[(A,n,c),(B,m,d)]] w (adI w A B n m c d W N.ids):=by
 have CB:=@az;have FB:=@aP;have HM:Z (m=N.nodes):=a.len;have P:=U (nh b);obtain⟨O,L,l,D,F,G,-⟩:=look_ok (nh b);obtain⟨o1,Q,S,o4⟩:=wx b D F;rw[z.o]at o1 Q S;have I:Z (W=m+1):=U (by rwa[HM.o]);have V:Z (C=m+1):=U (by rwa[HM.o]);clear o1 Q S o4 D F G;go_in;go_upto_region 1 with fail;refine aa (λu0 _ kn=>?_);go_upto_region 5 with(first|(go_at_call 9;refine(qo hf hs b z I V).mono ?_;rintro e u ⟨AW,cW,AC,cC,rfl,sW,sC,oW,oC,pP⟩)|(go_at_call 40;refine(ih hf hs P).mono ?_;rintro e u ⟨rfl,_⟩));refine aa (λJ _ kp=>?_);go_upto_region 7 with fail;refine ax J ap (λr _=>?_);refine qL [0,1,2,3] ?_;refine aJ 4 λK hK=>?_;obtain⟨uk,rfl⟩:=lg r;go_simp;refine(Q6 hs).mono ?_;rintro e r ⟨AK,R,rfl,oK,pK⟩;dsimp only;refine aE hK ?_;refine eE 5 ?_;refine aJ 6 λK hK=>?_;go_simp;obtain⟨gS,j⟩:=lh ((World.heap r).size);have X:(World.heap J).size<=gS:=by rw[<-j];exact ai
 refine aE hK<|bc (λr _ M=>?_);rw[j]at M⊢;clear j;refine qL [7,8] ?_;refine a8 ?_;go_wp2_with fail;go_ret2;exact⟨gS,AW,cW,AK,R,rfl,U ⟨aC,M.ak,(oW.at (w':=r)).more ai,(oK.at (w':=r)).more (ai (w:=w)),I,aQ (ai (w:=w) (w':=J)) X,λx y hx hy=>by have h1:=oW.row.lt x hx;have h2:=oK.fresh y hy;have h3:=aQ (ai (w:=u) (w':=J)) (ai (w:=J) (w':=uk));omega⟩⟩
def IN(N:a6)(ks:au):Int:=if lX N ks=0 then Rn N (lY N ks)else lX N ks
def O9(N:a6)(ks:au):List (Int×Int):=if IN N ks=0 then lY N ks else[]
def Zu(N:a6)(ks:au):Int:=if IN N ks=0 then Ro N (lY N ks)else 0
def adJ(w:ab)(V:List (Int×Int))(T E:Int)(e:Ending)(w':ab):Prop:=
 ∃A c,e=.returned (.tuple #[.slice A V c,T,E])/\bZ w' w.1.size A c V/\aj w' w
def wH[aW p a.A a.n a.B m N](P:Z N.fits)(hs:Z N.small)(h:tx p w g a m W AK R ks)(hk:ks.length<=1000000){V:List (Int×Int)}(HE:Z (IN N ks=E))(HC:Z (O9 N ks=V))(HT:Z (Zu N ks=T)):
  () 144 #[.pointer g] w (adJ w V T E):=by
 have CB:=@az;obtain⟨p9,kb,sw,sk⟩:=h.facts;have hE:=HE.o;have j:=HC.o;have b:=HT.o;rw[O9,hE]at j;rw[Zu,hE]at b;rw[IN]at hE;obtain⟨le,l⟩:=lh (lX N ks);obtain⟨L,z⟩:=lh (lY N ks);obtain⟨y,Q⟩:=lh L.length;have D:y<=65536:=by rw[<-Q,<-z];exact yc
 obtain⟨kn,F⟩:=lh ks.length;rw[F]at kb sk hk;have S:=U l;have X:=U z;have G:=U Q;rw[l,z]at hE;rw[z]at j b;clear l z Q F HE HC HT h;go_in;go_upto_region 1 with fail;refine ax w ap (λux _=>?_);refine qL [0,1,2,3,4,5,6,7] ?_;refine aJ 8 λK hK=>?_;go_simp;refine(uz P hs hk S X G).mono ?_;rintro e ux ⟨AC,cC,rfl,iC,oC,pC⟩;dsimp only;refine aE hK ?_;refine qL [9,10,11,12,13] ?_;refine a8 ?_;by_cases I:le=0
 .subst I;rw[ah rfl]at hE;have J:=U hE;obtain⟨pv,r⟩:=lh (Ro N L);rw[r]at b;have M:=U r;clear hE r;by_cases O:E=0
  .subst O;rw[ah rfl]at j b;subst j b;go_wp2_with (go_at_call 195;refine mv (LS P hs D J M) λu5 _=>?_);go_ret3;exact⟨AC,cC,by rw[G.o];rfl,(show aT _ _ 98 2 _ _ _ _ from oC).at.less (ai (w:=w)),aC⟩
  rw[ag O]at j b;subst j b;(have b0:(E !=0)=true:=by simp[O]);clear O;go_wp2_with (go_at_call 195;refine mv (LS P hs D J M) λu5 _=>?_);go_ret3;exact zQ0
 rw[ag I]at hE;subst hE;rw[ag I]at j b;subst j b;have b0:(le !=0)=true:=by simp[I]
 clear I;go_wp2_with fail;go_ret3;exact zQ0
end
section
variable{i off:Nat}{ops:Array Oper}{a:Act}{K:Act->World->Prop}{Q:Exit->Act->World->Prop}
section
variable{w:World}{B k:Nat}
def IP(b:k<=l)(e:l<=c):∃off,(∀w,(Instr.slice 24 (g,l,c) (some (.int .i64 (k:Int))) none none).run prog w=.ok (.slice (some ⟨g,off,none⟩) (l-k) (c-k)) w)/\(k<l->off=k):=by
 by_cases h:c=k;refine⟨0,λw=>?_,λj=>Y⟩;rw[dB w 24 (some ⟨g,0,none⟩) l c ap .i64 k Y Y,e1 ap];simp[Result.andThen,sliced,h];refine⟨k,λw=>?_,λ_=>rfl⟩;rw[dB w 24 (some ⟨g,0,none⟩) l c ap .i64 k Y Y,e1 ap];simp[Result.andThen,sliced,h,Addr.add];exact λh=>h.symm
def Pa(b:k<=l)(e:l<=c)(w:ab):(Instr.slice 24 (g,l,c) none (some (.int .i64 (k:Int))) none).run prog w=.ok (g,k,c) w:=by
 rw[kV w 24 (some ⟨g,0,none⟩) l c ap .i64 k Y Y,e1 ap];simp[Result.andThen,sliced,Addr.add]
def IQ(h:aD w B 3 (some ⟨g,0,none⟩) c ks)(hi:i<ks.length)(I:TypeId)(L:i+1<ks.length->off=i+1):
  ∃w',(Builtin.append_ #[24,24] I #[.slice g i c,.slice (some ⟨g,off,none⟩) (ks.length-(i+1)) (c-(i+1))]).run prog w=.ok (.slice g (ks.length-1) c) w'/\
   aD w' B 3 (some ⟨g,0,none⟩) c (ks.take i++ks.drop (i+1))/\Below B w w'/\w'.1.size=w.1.size/\∀b,b≠g->w'.heap[b]?=w.heap[b]?:=by
 rcases h.form with⟨E,_,_⟩|⟨Q,m,e,M,hg,S,hm,N,ht⟩;cases E;cases e;obtain⟨J,F,r⟩:=bJ.1 (show(prog.info? 3).map (λi=>(i.zero,i.size,i.bytes))=some (some (.int .i64 0),1,8)from by kernel_rfl);simp only[dS]at r;obtain⟨D,hs,hb⟩:=r;have y:((ks.drop (i+1)).map (Value.int .i64)).length=(ks.length-(i+1))*J.size:=by rw[hs];simp
 have R:=run_append_room (P:=prog) w 24 I 3 J underlying24 F g i c m hg ⟨g,off,none⟩ (ks.length-(i+1)) (c-(i+1)) ((ks.drop (i+1)).map (Value.int .i64)) y (λj u K=>by
  rw[bo]at K;obtain⟨z,D,rfl⟩:=bJ.1 K;rw[iF]at D;have O:=(bj.1 D).1;rw[L Y];rw[show(Addr.add ⟨g,i+1,none⟩ j)=⟨g,i+1+j,none⟩from by by_cases E:j=0<;>simp[Addr.add,E]];exact h.cell D) (λu hu=>by obtain⟨z,_,rfl⟩:=cw.1 hu;rfl) Y (by rw[y,hs,N];omega)
 have C:(ks.take i++ks.drop (i+1)).length=ks.length-1:=by simp;omega
 rw[show i+(ks.length-(i+1))=ks.length-1 by omega]at R;rw[hs,fm]at R;refine⟨_,R,⟨aI,.inr ⟨g,c,(m.toList.take i++(ks.drop (i+1)).map (Value.int .i64)++m.toList.drop (i+((ks.drop (i+1)).map (Value.int .i64)).length)).toArray,rfl,M,?_,?_,hm,?_,?_⟩⟩,⟨rfl,rfl,rfl,?_,λb hb=>?_⟩,?_,λb hb=>?_⟩;rw[World.setRow,pC,ah rfl,hg];rfl;rw[C];omega;simp;omega;have G:m.toList.take i=(ks.take i).map (Value.int .i64):=by rw[fT,<-ht,e5,d5 Y]
 rw[G,<-c9];rw[hk aI];simp[World.setRow];rw[World.setRow,pC,ag Y];simp[World.setRow];rw[World.setRow,pC,ag (dp hb)]
def ES{o:Oper}(m:Region.wanted o (yielded ops a.tmps)=true)(s x:Operand)
  (r:o.op=.call {callee:=.builtin .append,args:= #[s,x],argTypes:= #[24,24]}) 
  (hs:a.eval s=.slice g i c) (u:a.eval x=.slice (some ⟨g,off,none⟩) (ks.length-(i+1)) (c-(i+1)))
  (e:aD w B 3 (some ⟨g,0,none⟩) c ks) (hi:i<ks) (j:i+1<ks->off=i+1)
  (h:∀w',aD w' B 3 (some ⟨g,0,none⟩) c (ks.take i++ks.drop (i+1))->Below B w w'->(∀b,b≠g->w'.heap[b]?=w.heap[b]?)->K (a.put o.dst (.slice g (ks.length-1) c)) w'):
  if Region.wanted o (yielded ops a.tmps)=true then Oper.wp prog o a w K Q else K (a.put o.dst undef) w:=by
 rw[ah m];obtain⟨w',hr,y,z,D,C⟩:=IQ e hi o.type j;unfold Oper.wp execOp;simp only[r,resolve,invoke,builtin,uP,zO,uI,zG,eh,lM,hs,u,hr];exact h w' y z C
def tx.cut{a:UX}{gk:Nat}{W:au}(h:tx p w g a m W gk j ks)(C:aD w' p.1.size 3 (some ⟨gk,0,none⟩) j O)(hb:Below p.1.size w w')(u:∀b,b≠gk->w'.heap[b]?=w.heap[b]?):
  tx p (w'.setCell (g,3) (.slice gk O j)) g a m W gk j O:=by
 have r:gk≠g:=h.kp.aF h.bx ao ⟨gk,0,none⟩ rfl;have y:aA w' g 240 #[.slice a.A a.n a.c,.slice a.B m a.d,.slice a.AW (m+1) a.cW,.slice gk ks j]:=(u g (dp r)).trans h.bx;have D:aD w' p.1.size 3 a.AW a.cW W:=by refine h.wd.row.same (λE e=>u _ ?_);exact h.ne E ⟨gk,0,none⟩ e rfl
 have f:∀{A:bz} {c:Nat} {zs:au},aD w' p.1.size 3 A c zs->aD (w'.setCell (g,3) (.slice gk O j)) p.1.size 3 A c zs:=λz=>z.eK (p:=⟨g,3,none⟩) (z.aF y ao) _;exact⟨⟨(h.prev.st.trans hb).setCell (p:=⟨g,3,none⟩) h.hg _⟩,y.av 3 _,f D,f C,h.wl,h.hg,h.ne⟩
def Do(W ks:au):Nat->Nat
 |0=>0
 |i+1=>if W.getD (ks.getD (Do W ks i) 0).toNat 0<W.getD (ks.getD i 0).toNat 0 then i else Do W ks i
def lT(W ks:au):List Int:=ks.take (Do W ks ks.length)++ks.drop (Do W ks ks.length+1)
def IR(W ks:au):∀i,Do W ks i<=i-1
 |0=>al _
 |i+1=>by have:=IR W ks i;unfold Do;split<;>omega
def Pb(W ks:au)(h:0<ks.length):(lT W ks).length=ks-1:=by
 have:=IR W ks ks.length;simp[lT];omega
def Pc{P:Int->Prop}{W ks:au}(h:∀z∈ks,P z):∀z∈lT W ks,P z:=λz hz=>by
 rcases cu.1 hz with hz|hz;exact h z (eS hz);exact h z (hJ hz)
def LU{a:UX}{W:au}(h:tx p w g a m W C j []):() 145 #[.pointer g] w (aL w (.bool false)):=by
 have e:=@az;obtain⟨r,b,u,y⟩:=h.facts;dsimp only[List.length_nil]at b;go_in;go_wp2_with fail;go_ret;exact bF
def Zv{a:UX}{n:Nat}{W:au}(h:tx p w g a m W C j ks)(hR:Z (∀z∈ks,1<=z/\z<=m))(S:ks=n)(h0:0<n)(hm:n<=1000):
  () 145 #[.pointer g] w λe w'=>e=.returned (.bool true)/\Z (tx p w' g a m W C j (lT W ks)):=by
 obtain⟨CB,CP,FB⟩:=gW;obtain⟨gk,rfl,hgB,-⟩:=h.kp.addr Y;obtain⟨bW,qW,zW,F,-⟩:=(h.facts.2.2.1).get (show 0<m+1 by omega);obtain⟨aA,an,ac,aB,ad,aAW,aCW⟩:=a;dsimp only at F;subst F;obtain⟨p9,kb,sw,sk⟩:=h.facts;dsimp only at kb sw;rw[S]at kb sk;have r:=U S;have G:=U h;have b0:((n:Int)==0)=false:=by simp;omega
 clear h S;go_in;go_wp2_with fail;go_loopw [3,17] (λt x wr=>∃(i q:Nat),i<=n/\t=.int .i64 q/\x=.int .i64 i/\Z (Do W ks i=q)/\aj wr w) (λ_ x _=>n-(intOf x).toNat);exact⟨0,0,aR _,rfl,rfl,U rfl,aC⟩;obtain⟨i,q,hi,rfl,rfl,T,hp⟩:=hrel;have hq:=IR W ks i;rw[T.o]at hq;by_cases V:i<n
 .obtain⟨x,N⟩:∃x,ks[i]?=some x:=⟨_,bk (by rwa[r.o])⟩;obtain⟨z,O⟩:∃x,ks[q]?=some x:=⟨_,bk (by rw[r.o];omega)⟩;obtain⟨x1,x2⟩:=hR.o x (aK N);obtain⟨z1,z2⟩:=hR.o z (aK O);obtain⟨y,rfl⟩:=bO (show 0<=x by omega);obtain⟨v,rfl⟩:=bO (show 0<=z by omega);have cx:=(G.o.kp.at (w':=wr)).cell N;have cz:=(G.o.kp.at (w':=wr)).cell O;obtain⟨b5,o5,P,X,ob5,cy,ey⟩:=(show Sl wr (some ⟨bW,qW,none⟩) (m+1) W from am).get (show y<m+1 by omega);cases X;obtain⟨b5,o5,Q,X,-,cv,ev⟩:=(show Sl wr (some ⟨bW,qW,none⟩) (m+1) W from am).get (show v<m+1 by omega);cases X;have og:Old gk wr:=⟨(G.o.kp.at (w':=wr)).row.lt _ rfl⟩;(have i1:(q:Int)<(n:Int):=by omega);(have i2:(y:Int)<(m:Int)+1:=by omega);have i3:(v:Int)<(m:Int)+1:=by omega
  have b:Z (Do W ks (i+1)=if Q<P then i else q):=U (by
   rw[Do,T.o,a5,a5,a5,a5,N,O];simp only[sC,a9,ey.o,ev.o])
  clear N O hq;by_cases R:Q<P
  .have d1:decide (Q<P)=true:=by simpa using R
   have u:Z (Do W ks (i+1)=i):=U (by rw[b.o,ah R]);clear b;go_upto_region 7 with fail;refine aq ap (λux _=>?_);refine qL [0,1,2,3,4,5,6,7,8,9,10,11,12,13,14,15,16,17,18,19,20] ?_;refine a8 ?_;go_wp2_with fail;go_roundw;exact⟨i+1,i,Y,rfl,by go_num,u,aC⟩;exact zQ1
  have d1:decide (Q<P)=false:=by simpa using R
  have u:Z (Do W ks (i+1)=q):=U (by rw[b.o,ag R]);clear b;go_upto_region 7 with fail;refine aq ap (λux _=>?_);refine qL [0,1,2,3,4,5,6,7,8,9,10,11,12,13,14,15,16,17,18,19,20] ?_;refine a8 ?_;go_wp2_with fail;go_roundw;exact⟨i+1,q,Y,rfl,by go_num,u,aC⟩;exact zQ1
 obtain rfl:i=n:=Y;have LM:q<i:=Y;have I:i<=j:=by have:=G.o.kp.hD;rw[r.o]at this;exact this
 have vp:=λW=>Pa (g:=gk) (c:=j) (show q<=i by omega) I W;obtain⟨off,J,hof⟩:=IP (g:=gk) (c:=j) (show q+1<=i by omega) I;have J:∀W:World,(Instr.slice 24 (gk,i,j) (some (.int .i64 ((q:Int)+1))) none none).run prog W=.ok (.slice (some ⟨gk,off,none⟩) (i-(q+1)) (j-(q+1))) W:=λW=>by have:=J W;rwa[en]at this
 have kw:IntKind.i64.wrap ((q:Int)+1)=(q:Int)+1:=by rw[a7];omega
 have Zw:Z ((ks.take q++ks.drop (q+1)).length=ks-1):=U (by have:=r.o;simp;omega);have YX:Z (lT W ks=ks.take q++ks.drop (q+1)):=U (by rw[lT,r.o,T.o]);go_upto_region 10 with fail;refine ax p ap (λux _=>?_);refine qL [0,1,2,3,5,7,8,9,11,12] ?_;refine pP 4 10 (λK hK=>?_) (λK hK=>?_);focus go_simp;refine aE hK ?_;refine eE 6 ?_;refine aJ 10 λK hK=>?_;go_simp;refine aE hK ?_;refine eE 13 ?_
 rotate_left;focus go_simp;refine aE hK ?_;refine eE 13 ?_;refine aJ 4 λK hK=>?_;go_simp;refine aE hK ?_;refine eE 6 ?_
 all_goals refine aJ 14 λK hK=>?_;have D:=G.o.at (w':=ux);(have hkq:q<ks:=by rw[r.o];omega);refine ES ap _ _ rfl rfl (by rw[r.o];rfl) D.kp hkq (by rwa[r.o]) ?_;intro w3 lN L M;have E:=D.cut lN L M;rw[Zw.o]at E;have p3:aj w3 p:=⟨D.prev.st.trans L⟩;have Uj:Bx w3 g 240 _:=⟨(M g (dp (D.kp.aF D.bx ao ⟨gk,0,none⟩ rfl))).trans D.bx⟩;refine aE hK ?_ p3;clear hK K D;refine qL [15,16] ?_;refine aJ 17 λK hK=>?_;go_simp;refine aE hK ?_ E.prev;refine a8 ?_;go_wp2_with fail;go_ret;exact⟨rfl,by rw[YX.o];exact U E⟩
end
end
def tM(N:a6)(W:au)(cap:Int):Nat->List Int->Int×List (Int×Int)
 |0,ks=>if IN N ks=0 then(if Zu N ks<=cap then(0,O9 N ks)else(26,[]))else(IN N ks,[])
 |f+1,ks=>if IN N ks=0 then(if Zu N ks<=cap then(0,O9 N ks)else tM N W cap f (lT W ks))else(IN N ks,[])
def Gf(N:a6)(cap:Int):Int:=if iy N=0 then(tM N (jG N).1 cap N.ids.length N.ids).1 else iy N
def yW(N:a6)(cap:Int):List (Int×Int):=if iy N=0 then(tM N (jG N).1 cap N.ids.length N.ids).2 else[]
def abJ(w:ab)(V:List (Int×Int))(E:Int)(e:Ending)(w':ab):Prop:=
 ∃K A c,e=.returned (.tuple #[K,.slice A V c,E])/\bZ w' w.1.size A c V/\aj w' w
def Zx(g:Nat)(w:ab):Nat:=match w.cell? (g,3)with|some (.slice _ n _)=>n|_=>0
section
variable{w:World}{n k:Nat}{N:a6}{W:List Int}{V:List (Int×Int)}{a:UX}
def tx.acz(h:tx p w g a m W AK R ks):Zx g w=ks:=by
 rw[Zx,h.bx.cell 3];rfl
def zQ2(h:Γ:=by go_ret3;exact⟨_,none,0,rfl,bZ.nil _ _,aC⟩):=h
def abK[a:aW w A n B m N](Q:Z N.fits)(hs:Z N.small)(Ij:Z (bm N=0))(HE:Z (Gf N cap=E))(HV:Z (yW N cap=V)):
  () 94 #[.agg #[(A,n,c),(B,m,d)],cap] w (abJ w V E):=by
 have CB:=@az;have HM:Z (m=N.nodes):=a.len;have hm9:m<=1000:=by rw[HM.o];exact hs.o.1
 have hE:=HE.o;have hV:=HV.o;rw[Gf]at hE;rw[yW]at hV;by_cases c1:iy N=0;rotate_left
 .rw[ag c1]at hE hV;have I:=U hE;(have h0:E≠0:=by rwa[<-hE]);(have b0:(E !=0)=true:=by simp[h0]);subst hV;clear hE c1;go_in;go_upto_region 1 with fail;refine aa (λu0 _ kn=>?_);go_wp2_with (go_at_call 143;refine mv (IM Q hs Ij I h0) λu1 _=>?_);exact zQ2
 rw[ah c1]at hE hV;have I:=U c1;obtain⟨⟨W,C,T⟩,J⟩:=lh (jG N);rw[J]at hE hV;have S0:=U J;have S:Z (tM N W cap N.ids.length N.ids=(E,V)):=U (by rw[<-hE,<-hV]);have X:Z (∀z∈N.ids,1<=z/\z<=m):=U λz hz=>by have:=bt.1 hz;rw[<-HM.o]at this;exact this
 have b:Z (N.ids<=m):=U (by rw[HM.o];simp[a6.ids]);clear J hE hV c1 HE HV;go_in;go_upto_region 1 with fail;refine aa (λu0 _ kn=>?_);go_wp2_with (go_at_call 143;refine(UY Q hs I S0).mono ?_;rintro e u1 ⟨g,AW,cW,AK,R,rfl,j⟩;obtain⟨p1,kb1,-,-⟩:=j.o.facts);go_loopw [] (λwr=>∃(ks:au) (AK:bz) (R:Nat),Z (tx u0 wr g ⟨A,n,c,B,d,AW,cW⟩ m W AK R ks)/\Z (∀z∈ks,1<=z/\z<=m)/\Z (tM N W cap ks.length ks=(E,V))/\Z (ks<=m)) (λwr=>Zx g wr);exact⟨N.ids,AK,R,j,X,S,b⟩;clear j X S b kb1 p1;obtain⟨ks,AK,R,j,X,S,b⟩:=hrel;obtain⟨p2,w6,-,sk2⟩:=j.o.facts;have l:ks.length<=1000000:=by have:=b.o;omega
 obtain⟨y,hy⟩:=lh ks.length;rw[hy]at w6;obtain⟨ge,K⟩:=lh (IN N ks);obtain⟨gc,L⟩:=lh (O9 N ks);obtain⟨gv,M⟩:=lh (Zu N ks);obtain⟨cl,vj⟩:=lh gc.length;have r:=U K;have D:=U L;have F:=U M;have HY:=U hy;have hF:=S.o;have LW:(if ge=0 then(if gv<=cap then((0:Int),gc)else(match ks.length with|0=>(26,[])|f+1=>tM N W cap f (lT W ks)))else(ge,[]))=(E,V):=by rw[<-hF,<-K,<-M,<-L];cases ks.length<;>rfl
 have O:=U LW;clear K L M vj hF LW hy;by_cases e0:ge=0
 .subst e0;have hF:=O.o;rw[ah rfl]at hF;by_cases hc:gv<=cap
  .have t1:decide (gv<=cap)=true:=by simpa using hc
   rw[ah hc]at hF;injection hF with f1 f2;subst f1 f2;go_wp2_with (go_at_call 144;refine(wH (N:=N) Q hs j l r D F).mono ?_;rintro e u5 ⟨A5,c5,rfl,o5,p5⟩);go_ret3;exact⟨_,A5,c5,rfl,(show aT _ _ 98 2 _ _ _ _ from o5).at.less (ai (w:=w)),aC⟩
  have t1:decide (gv<=cap)=false:=by simpa using hc
  rw[ag hc]at hF;have G:=U hF;clear hF O S hc;by_cases y0:y=0
  .have p4:ks=[]:=pB (by rwa[HY.o]);subst p4;have hF:=G.o;injection hF with f1 f2;subst f1 f2;clear G;go_wp2_with (first|(go_at_call 144;refine(wH (N:=N) Q hs j l r D F).mono ?_;rintro e u5 ⟨A5,c5,rfl,o5,p5⟩)|(go_at_call 145;refine mv (LU j.o.at) λu6 _=>?_));exact zQ2
  have P:(lT W ks).length+1=ks:=by have:=Pb W ks (by rw[HY.o];omega);have:=HY.o;omega
  have Yh:Z (tM N W cap (lT W ks).length (lT W ks)=(E,V)):=U (by have:=G.o;rw[<-P]at this;exact this);have Zw:=U P;have HI3:Z (∀z∈lT W ks,1<=z/\z<=m):=Pc X;(have hy9:y<=1000:=by have:=b.o;have:=HY.o;omega);clear P G;go_wp2_with (first|(go_at_call 144;refine(wH (N:=N) Q hs j l r D F).mono ?_;rintro e u5 ⟨A5,c5,rfl,o5,p5⟩)|(go_at_call 145;refine mv (Zv j.o.at X HY Y hy9) λu6 YW=>?_));go_roundw;exact⟨_,AK,R,YW,HI3,Yh,U (by have:=Zw.o;have:=b.o;omega)⟩;rw[YW.o.acz,j.o.acz];have:=Zw.o;omega
 have hF:=O.o;rw[ag e0]at hF;injection hF with f1 f2;subst f1 f2;have b0:(ge !=0)=true:=by simp[e0]
 clear e0;go_wp2_with (go_at_call 144;refine(wH (N:=N) Q hs j l r D F).mono ?_;rintro e u5 ⟨A5,c5,rfl,o5,p5⟩);exact zQ2
end
variable{cK:Nat}{pl:Int}
def gpE(N:a6)(pl cap:Int):Int:=if pl=1 then lX N N.ids else if pl=2 then lX N (kS N)else if pl=3 then Gf N cap else 11
def gpV(N:a6)(pl cap:Int):List (Int×Int):=if pl=1 then lY N N.ids else if pl=2 then lY N (kS N)else if pl=3 then yW N cap else[]
section
variable{w:World}{n k y:Nat}{N:a6}{W R:List Int}{V:List (Int×Int)}
def UZ[aW w A n B m N](j:Z N.fits)(hs:Z N.small)(b:Z (bm N=0))(hm:m<=12)(hr:Z (kS N=R))(l:Z (R=y)):
  () 93 #[.agg #[.slice A n c,(B,m,d)]] w λe w'=>∃A c,e=.returned (.tuple #[.slice A y c,an])/\Sl w' A y R/\aj w' w:=by
 obtain rfl:=hr.o;obtain rfl:=l.o;exact(Zt j hs b hm).mono λe w' ⟨A,c,r,z,C⟩=>⟨A,c,r,⟨z.rd,rfl⟩,C⟩
def Zy[aW w A n B m N](hs:Z N.small)(b:Z (N.ids=m)):() 12 #[.agg #[.slice A n c,(B,m,d)]] w λe w'=>∃A c,e=.returned (.slice A m c)/\Sl w' A m N.ids/\aj w' w:=
 (Q6 hs).mono λe w' ⟨A,c,j,l,r⟩=>⟨A,c,by rw[j,b.o],⟨l.rd,b.o.symm⟩,r⟩
def Dp[a:aW w A n B m N](r:Z N.fits)(hs:Z N.small)(hm:m<=12)(hE:Z (lX N N.ids=E))(hV:Z (lY N N.ids=V)):
  () 50 #[.agg #[(A,n,c),(B,m,d)],(1:Int),cap] w (kg w E V):=by
 have F:=@az;have z:Z (m=N.nodes):=a.len;have b:Z (N.ids=m):=U (by rw[z.o];simp[a6.ids]);obtain⟨y,j⟩:=l8 V.length;go_in;go_upto_region 1 with fail;refine aa (λC _ G=>?_);go_upto_region 3 with fail;refine ax C ap (λl _=>?_);refine qL [0,1] ?_;refine aJ 2 λK hK=>?_;go_simp;refine(Zy hs b).mono ?_;rintro e l ⟨AK,cK,rfl,I,_⟩;dsimp only;refine aE hK<|aJ 3 λK hK=>?_;go_simp;refine(uz r hs Y hE hV j).mono ?_;rintro e l ⟨AC,cC,rfl,J,D,_⟩;dsimp only;refine aE hK ?_;refine qL [4,5,6,7] ?_;refine a8 ?_;go_wp2_with fail;go_ret2;exact⟨AC,cC,by rw[j.o];rfl,(show aT _ _ 98 2 _ _ _ _ from D).at.less (ai (w:=w)),aC⟩
def Dq[a:aW w A n B m N](F:Z N.fits)(hs:Z N.small)(b:Z (bm N=0))(hm:m<=12)(hE:Z (lX N (kS N)=E))(hV:Z (lY N (kS N)=V)):
  () 50 #[.agg #[(A,n,c),(B,m,d)],(2:Int),cap] w (kg w E V):=by
 have T:=@az;have K:Z (m=N.nodes):=a.len;obtain⟨y,G⟩:=lh V.length;have I:=U G;obtain⟨R,r⟩:=lh (kS N);obtain⟨z,C⟩:=lh R.length;have D:z<=1000000:=by obtain⟨O,L,l,M,j,J,-⟩:=look_ok b;(have:(kS N).length<=12:=by rw[kS,j.ord];exact O8 (by rwa[j.tI,<-K.o]));rw[r,C]at this;omega
 have P:=U r;have Q:=U C;rw[r]at hE hV;clear G r C;go_in;go_upto_region 1 with fail;refine aa (λX _ kn=>?_);go_wp2_with (first|(go_at_call 93;refine(UZ F hs b hm P Q).mono ?_;rintro e u1 ⟨AK,cK,rfl,sK,_⟩)|(go_at_call 32;refine(uz F hs D hE hV I).mono ?_;rintro e u2 ⟨AC,cC,rfl,iC,S,_⟩));go_ret2;exact⟨AC,cC,by rw[I.o];rfl,(show aT _ _ 98 2 _ _ _ _ from S).at.less (ai (w:=w)),aC⟩
def Zz[aW w A n B m N](j:Z N.fits)(hs:Z N.small)(b:Z (bm N=0))(l:Z (Gf N cap=E))(r:Z (yW N cap=V))(z:Z (V=y)):
  () 94 #[.agg #[.slice A n c,(B,m,d)],cap] w λe w'=>∃K A c,e=.returned (.tuple #[K,.slice A y c,E])/\bZ w' w.1.size A c V/\aj w' w:=by
 obtain rfl:=z.o;exact abK j hs b l r
def Dr[aW w A n B m N](l:Z N.fits)(hs:Z N.small)(b:Z (bm N=0))(r:Z (Gf N cap=E))(z:Z (yW N cap=V)):
  () 50 #[.agg #[(A,n,c),(B,m,d)],(3:Int),cap] w (kg w E V):=by
 have D:=@az;obtain⟨y,j⟩:=l8 V.length;go_in;go_upto_region 1 with fail;refine aa (λF _ G=>?_);go_wp2_with (go_at_call 94;refine(Zz l hs b r z j).mono ?_;rintro e I ⟨K,AC,cC,rfl,C,_⟩);go_ret2;exact⟨AC,cC,by rw[j.o];rfl,(show aT _ _ 98 2 _ _ _ _ from C).at.less (ai (w:=w)),aC⟩
def IS(k1:(pl==1)=false)(k2:(pl==2)=false)(b:(pl==3)=false)(e:(pl==4)=false):
  () 50 #[.agg #[(A,n,c),(B,m,d)],pl,cap] w (kg w 11 []):=by
 go_in;go_upto_region 1 with fail;refine aa (λj _ l=>?_);exact zQ3
def U0[aW w A n B m N](e:Z N.fits)(hs:Z N.small)(b:Z (bm N=0))(hm:m<=12)(z:pl≠4)(C:Z (gpE N pl cap=E))(D:Z (gpV N pl cap=V)):
  () 50 #[.agg #[(A,n,c),(B,m,d)],pl,cap] w (kg w E V):=by
 have hE:=C.o;have hV:=D.o;unfold gpE at hE;unfold gpV at hV;by_cases j:pl=1;subst j;rw[ah rfl]at hE hV;exact Dp e hs hm hE hV;rw[ag j]at hE hV;by_cases l:pl=2;subst l;rw[ah rfl]at hE hV;exact Dq e hs b hm hE hV;rw[ag l]at hE hV;by_cases r:pl=3;subst r;rw[ah rfl]at hE hV;exact Dr e hs b hE hV;rw[ag r]at hE hV;subst hE hV;exact IS (by simpa using j) (by simpa using l) (by simpa using r) (by simpa using z)
end
variable{b:Nat}{LE:Int}{LV:List (Int×Int)}{v:Value}
def nm(w:ab)(pl:Int)(V:List (Int×Int))(b j l m E:Int)(e:Ending)(w':ab):Prop:=
 ∃A c,e=.returned (.tuple #[.agg #[pl,.slice A V c,b,j,l,m],E])/\bZ w' w.1.size A c V/\aj w' w
section
variable{w:World}{n k y:Nat}{N:a6}{V:List (Int×Int)}
theorem kT{x y z s t:Value}{g:Nat}[l:aM w u](hg:w<=g):aj ((((((u.setCell (g,0) x).setCell (g,1) y).setCell (g,2) z).setCell (g,3) v).setCell (g,4) s).setCell (g,5) t) w:=
 ⟨(((((l.st.setCell (p:=⟨g,0,none⟩) hg _).setCell (p:=⟨g,1,none⟩) hg _).setCell (p:=⟨g,2,none⟩) hg _).setCell (p:=⟨g,3,none⟩) hg _).setCell (p:=⟨g,4,none⟩) hg _).setCell (p:=⟨g,5,none⟩) hg _⟩
def yd{x y z s t:Value}{g:Nat}(h:bZ u b A c V)(hp:∀e,A=some e->e.block≠g):bZ ((((((u.setCell (g,0) x).setCell (g,1) y).setCell (g,2) z).setCell (g,3) v).setCell (g,4) s).setCell (g,5) t) b A c V:=
 (((((h.eK (q:=⟨g,0,none⟩) hp _).eK (q:=⟨g,1,none⟩) hp _).eK (q:=⟨g,2,none⟩) hp _).eK (q:=⟨g,3,none⟩) hp _).eK (q:=⟨g,4,none⟩) hp _).eK (q:=⟨g,5,none⟩) hp _
def zQ4(h:Γ:=by rw[ct rfl];go_simp):=h
def wI[aW w A n B m N](L:Z N.fits)(hs:Z N.small)(P:cap<=144115188075855872)
  (b:Z (∀(u:ab) [aW u A n B m N],() 50 #[.agg #[(A,n,c),(B,m,d)],pl,cap] u (kg u LE LV))) (M:LV.length<=65536)
  (z:Z (bm N=0)) (j:Z (LE=0)) (C:Z (lJ N cap LV=0)) (D:Z (pA N cap LV=(P1,P2,P3,P4))):
  () 17 #[.agg #[(A,n,c),(B,m,d)],pl,cap] w (nm w pl LV P1 P2 P3 P4 0):=by
 have S:=@az;have T:=@aP;obtain rfl:=j.o;obtain⟨y,F⟩:=lh LV.length;have G:=U F;rw[F]at M;have I:=z;clear F j;go_in;go_upto_region 1 with fail;refine dd (λJ _ X Q=>?_);go_upto_region 8 with(first|(go_at_call 40;refine(ih L hs I).mono ?_;rintro e u ⟨rfl,_⟩)|(go_at_call 50;refine(b.o _).mono ?_;rintro e O ⟨AC,cC,rfl,l,_⟩;rw[G.o];obtain⟨l,-⟩:bZ O J.1.size AC cC LV/\True:=⟨(show aT _ _ 98 2 _ _ _ _ from l).less (ai (w:=J)),bq⟩;obtain⟨iC,-⟩:Is O AC y LV/\True:=⟨⟨l.rd,G.o.symm⟩,bq⟩)|(go_at_call 14;refine mv (LR L hs M P C D) λu2 _=>?_));refine aa (λu3 _ ks=>?_);go_wp2_with fail;have K:∀r,AC=some r->r.block≠w.1.size+1:=λr e=>by have h1:=l.fresh r e;have h2:=Q.ak.lt;omega
 refine aZ (v:=.tuple #[.agg #[pl,(AC,y,cC),P1,P2,P3,P4],an]) ?_ rfl ⟨AC,cC,by rw[G.o],yd ((show aT _ _ 98 2 _ _ _ _ from l).at.less (ai (w:=w) (w':=J))) K,kT (db _)⟩;exact zQ4
def Ds(E:Int):Value:=.tuple #[.agg #[an,(),an,an,an,an],E]
def aaz[aW w A n B m N](l:Z N.fits)(hs:Z N.small)(b:Z (bm N=E))(j:E≠0):
  () 17 #[.agg #[(A,n,c),(B,m,d)],pl,cap] w (aL w (Ds E)):=by
 have r:=@az;have z:=@aP;have C:(E !=0)=true:=by simp[j]
 clear j;go_in;go_upto_region 1 with fail;refine dd (λD _ F G=>?_);go_wp2_with (go_at_call 40;refine(ih l hs b).mono ?_;rintro e u ⟨rfl,_⟩);refine aZ (v:=.tuple #[.agg #[an,(),an,an,an,an],E]) ?_ rfl ⟨rfl,kT (db _)⟩;exact zQ4
def wJ[aW w A n B m N](r:Z N.fits)(hs:Z N.small)
  (b:Z (∀(u:ab) [aW u A n B m N],() 50 #[.agg #[(A,n,c),(B,m,d)],pl,cap] u (kg u LE LV)))
  (j:Z (bm N=0)) (l:LE≠0):
  () 17 #[.agg #[(A,n,c),(B,m,d)],pl,cap] w (aL w (Ds LE)):=by
 have z:=@az;have C:=@aP;have D:(LE !=0)=true:=by simp[l]
 clear l;go_in;go_upto_region 1 with fail;refine dd (λF _ G I=>?_);go_wp2_with (first|(go_at_call 40;refine(ih r hs j).mono ?_;rintro e u ⟨rfl,_⟩)|(go_at_call 50;refine(b.o _).mono ?_;rintro e J ⟨AC,cC,rfl,K,_⟩));refine aZ (v:=.tuple #[.agg #[an,(),an,an,an,an],LE]) ?_ rfl ⟨rfl,kT (db _)⟩;exact zQ4
def IT[aW w A n B m N](D:Z N.fits)(hs:Z N.small)(I:cap<=144115188075855872)
  (b:Z (∀(u:ab) [aW u A n B m N],() 50 #[.agg #[(A,n,c),(B,m,d)],pl,cap] u (kg u 0 LV))) (F:LV.length<=65536)
  (l:Z (bm N=0)) (j:Z (lJ N cap LV=E)) (r:E≠0):
  () 17 #[.agg #[(A,n,c),(B,m,d)],pl,cap] w (aL w (Ds 26)):=by
 have L:=@az;have M:=@aP;obtain⟨y,z⟩:=lh LV.length;have G:=U z;rw[z]at F;have C:Z (pA N cap LV=(0,0,0,0)):=U (by rw[pA,j.o,ag r]);have O:(E !=0)=true:=by simp[r]
 clear z r;go_in;go_upto_region 1 with fail;refine dd (λP _ Q S=>?_);go_upto_region 8 with(first|(go_at_call 40;refine(ih D hs l).mono ?_;rintro e u ⟨rfl,_⟩)|(go_at_call 50;refine(b.o _).mono ?_;rintro e J ⟨AC,cC,rfl,K,_⟩;rw[G.o];obtain⟨T,-⟩:Is J AC y LV/\True:=⟨⟨K.rd,G.o.symm⟩,bq⟩)|(go_at_call 14;refine mv (LR D hs F I j C) λX _=>?_));refine aa (λu3 _ ks=>?_);go_wp2_with fail;refine aZ (v:=.tuple #[.agg #[an,(),an,an,an,an],(26:Int)]) ?_ rfl ⟨rfl,kT (db _)⟩;exact zQ4
end
def gy:a6:=⟨[2],[⟨⟨8,0,0,0,0,0,0,[]⟩,[0],[[2,2],[2]]⟩,⟨⟨7,0,0,0,0,0,0,[]⟩,[1,1],[]⟩,⟨⟨12,0,2,1,0,0,0,[]⟩,[2],[]⟩]⟩
def wK:List (Int×Int):=[(1,1),(1,2),(1,3),(4,0),(3,3),(5,0),(6,3),(3,2),(6,2),(3,1),(6,1)]
def Dt:List TV:=[([2,2],[4294967296,8589934592,12884901888,17179869184]),([2],[0,4294967296])]
def zA:TV:=([2],[4294967296,-4294967296])
def Du:bm gy=0:=by decide+kernel
def adK:iy gy=0:=by decide+kernel
def Gg:dz gy=([1,2,3],[[2],[2],[2],[1]],((3:Nat):Int)):=by decide+kernel
def ZA:gy.fits:=by unfold a6.fits;decide
def U2:gy.small:=by unfold a6.small;decide
def ZB:lX gy gy.ids=0/\lY gy gy.ids=wK:=by decide+kernel
def ZC:lX gy (kS gy)=0/\lY gy (kS gy)=wK:=by decide+kernel
def ZD:Gf gy 100=0/\yW gy 100=wK:=by decide+kernel
def adL:Cw gy=27:=by decide+kernel
def oo:lJ gy 100 wK=0/\pA gy 100 wK=(7,8,0,7):=by decide+kernel
theorem abL:dA gy [1,2,3] [[2],[2],[2],[1]] 3:=by
 obtain⟨O,L,l,b,j,-,-⟩:=look_ok Du;rw[Gg]at b;injection b with m e;injection e with e r;grind
def ZE{t:TV}(b:aw t.1 t.2=true)(e:∀z∈t.2,-9223372036854775808<=z/\z<=9223372036854775807):TV.ok t:=⟨b,e⟩
def abM:lW gy Dt zA:=by
 refine⟨by decide+kernel,λt ht=>?_,rfl,ZE (by decide+kernel) (by decide+kernel),λv hv=>?_⟩;have:∀t∈Dt,aw t.1 t.2=true/\∀z∈t.2,-9223372036854775808<=z/\z<=9223372036854775807:=by decide+kernel
 exact ZE (this t ht).1 (this t ht).2;have:∀v∈gy.nodes,-9223372036854775808<=v.o.k/\v.o.k<=9223372036854775807:=by decide+kernel
 exact this v hv
def abN:fI gy [1,2,3] [[2],[2],[2],[1]] 3 Dt zA:=⟨abL,Du,adK,abM,Gg⟩
def afm:rW gy Dt zA=2147483648:=by decide+kernel
def afn:∃g z,(lH gy Dt zA).2=[g,([2],[-4294967296,z])]:=by
 refine⟨(lH gy Dt zA).2.getD 0 T0,((lH gy Dt zA).2.getD 1 T0).2.getD 1 0,?_⟩;decide+kernel
section
variable{w:World}{n:Nat}{N:a6}{Q1 Q2 Q3 Q4 R1 R2 R3 R4:Int}{V V2 V3:List (Int×Int)}
def Dv[aW w A n B m N](j:Z N.fits)(hs:Z N.small)(hE:Z (Cw N=E))(b:E≠0):() 95 #[.agg #[(A,n,c),(B,m,d)],cap] w (aL w (.tuple #[(),E])):=by
 have y:=@az;have z:(E !=0)=true:=by simp[b]
 have l:Z (T4 N=[]):=U (by unfold T4;rw[hE.o,ag b]);have r:Z (OF N=[]):=U (by unfold OF;rw[hE.o,ag b]);clear b;go_in;go_upto_region 1 with fail;refine aa (λC _ D=>?_);go_wp2_with (go_at_call 146;refine(s4 j hs hE l r).mono ?_;rintro e F ⟨G,c1,I,d1,rfl,_,_,_⟩);go_ret2;exact bF
def ET[aW w A n B m N](b:Z N.fits)(hs:Z N.small)(hE:Z (Cw N=E))(e:E≠0):() 50 #[.agg #[(A,n,c),(B,m,d)],(4:Int),cap] w (kg w E []):=by
 have j:=@az;go_in;go_upto_region 1 with fail;refine aa (λl _ r=>?_);go_wp2_with (go_at_call 95;refine mv (Dv b hs hE e) λy _=>?_);go_ret2;exact zQ0
def U3[aW w A n B m N](hf:Z N.fits)(hs:Z N.small)(M:Z (bm N=0)){z3:Nat}
  (O:Z (∀(u:ab) [aW u A n B m N],() 17 #[.agg #[(A,n,c),(B,m,d)],(1:Int),cap] u (nm u 1 V P1 P2 P3 P4 0)))
  (P:Z (∀(u:ab) [aW u A n B m N],() 17 #[.agg #[(A,n,c),(B,m,d)],(2:Int),cap] u (nm u 2 V2 Q1 Q2 Q3 Q4 0))) (h2:decide (Q2<P2)=false)
  (Q:Z (∀(u:ab) [aW u A n B m N],() 17 #[.agg #[(A,n,c),(B,m,d)],(3:Int),cap] u (nm u 3 V3 R1 R2 R3 R4 0))) (h3:decide (R2<P2)=false)
  (R:Z (∀(u:ab) [aW u A n B m N],() 17 #[.agg #[(A,n,c),(B,m,d)],(4:Int),cap] u (aL u (Ds E)))) (h4:E≠0) (S:Z (V2=j)) (T:Z (V3=z3)):
  () 27 #[.agg #[(A,n,c),(B,m,d)],cap] w (nm w 1 V P1 P2 P3 P4 0):=by
 have CB:=@az;have FB:=@aP;have b4:(E !=0)=true:=by simp[h4]
 obtain⟨y,HY⟩:=l8 V.length;clear h4;go_in;go_upto_region 1 with fail;refine dd (λu0 p0 k1 k2=>?_);go_upto_region 4 with(go_at_call 40;refine mv (ih hf hs M) λz _=>?_);go_upto_region 5 with fail;refine aa (λu2 p2 X=>?_);obtain⟨D,G⟩:=lg z.1.size;rw[<-G]at X⊢;have HBB:Z (D=z):=G;have OP:=U X.ak;have p21:aj u2 z:=am;clear G X;go_wp2_with fail;go_loopw [8] (λs8 wr=>∃k:Nat,1<=k/\k<=5/\s8=.int .i64 (k:Int)/\Z (k=1->aA wr D 60 #[an,(),an,an,an,an])/\Z (k≠1->∃l c1,aA wr D 60 #[(1:Int),.slice l y c1,P1,P2,P3,P4]/\bZ wr z.1.size l c1 V)/\aj wr z) (λs8 _=>5-(intOf s8).toNat);exact⟨1,ao,ao,rfl,U λ_=>OP.o,U λh=>absurd rfl h,p21⟩;obtain⟨k,Xu,Wk,rfl,HZ,K,hp⟩:=hrel;have:k=1\/k=2\/k=3\/k=4\/k=5:=Y;rcases this with rfl|rfl|rfl|rfl|rfl
 .have F:Bx wr D 60 #[an,(),an,an,an,an]:=⟨HZ.o rfl⟩;go_upto_region 9 with(go_at_call 17;refine(O.o _).mono ?_;rintro e u5 ⟨AC,cC,rfl,L,I⟩;rw[HY.o]);refine aa (λC p6 k6=>?_);go_wp2_with fail;go_roundw;have hbw:D<wr.1.size:=F.ak.lt;refine⟨2,ao,ao,rfl,U λh=>absurd h ao,U λ_=>⟨AC,cC,?_,?_⟩,kT (by rw[HBB.o];exact al _)⟩;exact((((((F.ak.at (w':=C)).av 0 _).av 1 _).av 2 _).av 3 _).av 4 _).av 5 _;(exact yd ((show aT _ _ 98 2 _ _ _ _ from L).at.less (ai (w:=z) (w':=wr))) λad e=>by have h1:=L.fresh ad e;omega);simp[intOf]
 .obtain⟨l,c1,r,J⟩:=K.o ao;have F:Bx wr D 60 #[(1:Int),.slice l y c1,P1,P2,P3,P4]:=⟨r⟩;have b:=U J;go_upto_region 9 with(go_at_call 17;refine(P.o _).mono ?_;rintro e u5 ⟨AC,cC,rfl,L,I⟩;rw[S.o]);refine aa (λC p6 k6=>?_);go_wp2_with fail;go_roundw;exact⟨3,ao,ao,rfl,U λh=>absurd h ao,U λ_=>⟨l,c1,F.ak.at (w':=C),b.o.at⟩,aG z C⟩;simp[intOf]
 .obtain⟨l,c1,r,J⟩:=K.o ao;have F:Bx wr D 60 #[(1:Int),.slice l y c1,P1,P2,P3,P4]:=⟨r⟩;have b:=U J;go_upto_region 9 with(go_at_call 17;refine(Q.o _).mono ?_;rintro e u5 ⟨AC,cC,rfl,L,I⟩;rw[T.o]);refine aa (λC p6 k6=>?_);go_wp2_with fail;go_roundw;exact⟨4,ao,ao,rfl,U λh=>absurd h ao,U λ_=>⟨l,c1,F.ak.at (w':=C),b.o.at⟩,aG z C⟩;simp[intOf]
 .obtain⟨l,c1,r,J⟩:=K.o ao;have F:Bx wr D 60 #[(1:Int),.slice l y c1,P1,P2,P3,P4]:=⟨r⟩;have b:=U J;go_upto_region 9 with(go_at_call 17;refine mv (R.o _) λu5 I=>?_;unfold Ds);refine aa (λC p6 k6=>?_);go_wp2_with fail;go_roundw;exact⟨5,ao,ao,rfl,U λh=>absurd h ao,U λ_=>⟨l,c1,F.ak.at (w':=C),b.o.at⟩,aG z C⟩;simp[intOf]
 obtain⟨l,c1,r,J⟩:=K.o ao;have F:Bx wr D 60 #[(1:Int),.slice l y c1,P1,P2,P3,P4]:=⟨r⟩;have b:=U J;have k2w:Bx wr (w.1.size+1) 60 _:=am;go_wp2_with fail;refine aZ (v:=.tuple #[.agg #[(1:Int),.slice l y c1,P1,P2,P3,P4],an]) ?_ rfl ⟨l,c1,by rw[HY.o],(show aT _ _ 98 2 _ _ _ _ from yd b λad e=>?_).less (ai (w:=w) (w':=z)),kT (db _)⟩;exact zQ4;have h1:=b.o.fresh ad e;have h2:w.1.size+1<z:=(am:Bx z (w.1.size+1) _ _).ak.lt;omega
end
variable{A2:Option Addr}{f:Nat}{us:List Tn}
section
variable{w:World}{B n k:Nat}{gs:List Tn}
def Ts.cells(hu:Ts w A2 k us)(z:0<k):∃r,A2=some r/\∀j v,(tc us)[j]?=some v->w.cell? (r.add j)=some v:=by
 have C:us[0]?=some (us[0]'(by rwa[<-hu.len])):=bk _;obtain⟨b,o,rfl,_⟩:=hu.rd 0 _ C;refine⟨_,rfl,λj v l=>?_⟩;have D:=(bj.1 l).1;rw[dU]at D;have hq:j/2<us.length:=Y;have u:us[j/2]?=some (us[j/2]'hq):=bk _;obtain⟨G,I,e,q⟩:=hu.rd _ _ u;injection e with e;injection e with E F;subst E F;obtain⟨t0,y⟩:=H7 u;rw[cf];rcases PN j with hm|hm;have m:j/2*2=j:=Y;rw[m]at t0;rw[t0]at l;cases l;have:=q.c0;rw[m]at this;exact this;have m:j/2*2+1=j:=Y;rw[m]at y;rw[y]at l;cases l;have:=q.c1;rw[pG,m]at this;exact this
def LX(h:aT w B 28 2 (some ⟨g,0,none⟩) c n (tc gs))(G:gs=n)(hu:Ts w A2 k us)(I:0<k)(O:f+k<=n):
  ∃j X,A2=some j/\(∀m l dc sc,k<=l->(Builtin.copy_ #[23,23] m #[.slice (some ⟨g,f*2,none⟩) l dc,.slice (some j) k sc]).run prog w=.ok (goInt (k:Int)) (w.setRow g X))/\aT (w.setRow g X) B 28 2 (some ⟨g,0,none⟩) c n (tc (gs.take f++us++gs.drop (f+k))):=by
 obtain⟨j,rfl,r⟩:=hu.cells I;obtain⟨cur,hg,J,K,hm,z,ht,C⟩:=h.whole;have u:us=k:=hu.len.symm;have e:(tc us).length=k*2:=by rw[dU,u]
 refine⟨j,(cur.toList.take (f*2)++tc us++cur.toList.drop (f*2+(tc us).length)).toArray,rfl,λm l dc sc L=>?_,?_⟩;have:=fG (P:=prog) (w:=w) (E:=28) (k:=2) (g:=g) (o:=f*2) (cs:=tc us) (cur:=cur) 23 23 m l dc j k sc ap ap hg (by rw[k7 Y,e]) r (by rw[e,z];omega) (abm us);rw[k7 Y]at this;exact this;have M:cur.toList=c*2:=by simpa using z
 refine .mk' J (bT hg _) K hm (by simp[e];omega) ?_;have y:tc (gs.take f++us++gs.drop (f+k))=(tc gs).take (f*2)++tc us++(tc gs).drop ((f+k)*2):=by (have b:∀q,q<=gs.length->tc (gs.take q)=(tc gs).take (q*2)/\tc (gs.drop q)=(tc gs).drop (q*2):=λq hq=>by (have D:tc gs=tc (gs.take q)++tc (gs.drop q):=by rw[<-m0,d3]);(have F:(tc (gs.take q)).length=q*2:=by rw[dU,cr,d5 hq]);exact⟨by rw[D,hk F],by rw[D,sF F]⟩);rw[m0,m0,(b f Y).1,(b (f+k) Y).2]
 rw[y,<-ht,e];show List.take (n*2) _=_;rw[e5,d5 Y,sH,bV (by simp[e];omega)];congr 1;rw[uQ];have N:(f+k)*2=f*2+k*2:=Y;rw[N];congr 1;simp[e];omega
end
section
variable{GB cx gd q:Nat}{A' D:Option Addr}{t:Tn}{J:OR}{F':Nat->Prop}{GP GX U1:List TV}
@[grind cases]structure lL(w:World)(q g r GB:Nat)(m:kP)(A:Option Addr)(n:Nat)(ts:List Tn):Prop where
 rd:Ts w A n ts
 row:ts≠[]->∀b,AF A b->b<w.1.size/\¬m.qaa g r b/\b≠GB
 el:∀t∈ts,si w q g r GB m t
section
variable{w:World}{n k B:Nat}{m m':kP}{e:tu}{ts gs ZF:List Tn}{X:Tn}{L G':List TV}{F:Nat->Prop}
def eQ.kR{u w:ab}[l:aM u w]{A:bz}{n c b:Nat}{L:List TV}(h:eQ u b A n c L){p:Nat}(hp:u<=p)(v0 j:Value):eQ ((w.setCell (p,0) v0).setCell (p,1) j) b A n c L:=
 h.at (l:=⟨bA l.st hp v0 j⟩)
def Gh{A C E F:bz}{n m nx ng c:Nat}{o:ir}{ts us:List Tn}{g V:au}{y:List TV}[Sl w A n o.S][I6 o.k](K:n<=1000000)[Ts w D m ts][Ts w C nx us][Le nx cx](M:nx<=1000000)(N:Z (eP ts))(O:Z (eP us))(hP:Z (ts.map Tn.tv=y))(I:Z (us.map Tn.tv=U1))(hE:Z (dr o (y.map (·.1)) (U1.map (·.1))=0))
  (hV:Z (cy o (y.map (·.1)) (U1.map (·.1))=V)) [Sl w E ng V] [Sl w F j g] [cm g] [Le j gd] (hg:Z (aw V g=true))  (z:Z (qZ o y U1 V g=GP)) (G:Z (j5 o y U1 V g=GX)):
  () 64 #[.agg (gM o.kd o.k o.wd o.st o.sd o.fr o.tt (A,n,d)),(D,m,c),(C,nx,cx),.agg #[(E,ng,l),(F,j,gd)]] w (xC w GP GX):=by
 rw[<-hP.o,<-I.o]at hE hV z G;exact Xz K M N O (by rwa[ol,ol]) (U (by rw[ol,ol];exact hV)) hg z G
theorem Kf.Dw(y:Kf F F' w w')(h:Ts w A n ts)(hr:ts≠[]->∀b,AF A b->¬F b)(ht:∀t∈ts,(∀b,AF t.A b->¬F b)/\∀b,AF t.B b->¬F b):Ts w' A n ts:=
 ⟨λj t z=>by
  obtain⟨b,o,rfl,l⟩:=h.rd j t z;have hm:=aK z;have hb:=y.keep b l.old (hr (List.ne_nil_of_mem hm) b ⟨_,rfl,rfl⟩);have D:∀i,w'.cell? ⟨b,i,none⟩=w.cell? ⟨b,i,none⟩:=λi=>d4 hb;exact⟨b,o,rfl,⟨ay,(D _).trans l.c0,(D _).trans l.c1,y.rd l.s (ht t hm).1,y.rd l.x (ht t hm).2,l.le,l.bd⟩⟩,h.len⟩
theorem lL.step(h:lL w q g r GB m A n ts)(j:Kf (m.qaa g r) (m'.qaa g r) w w'):lL w' q g r GB m' A n ts:=
 ⟨j.Dw h.rd ay ay,ay,λt ht=>(h.el t ht).step j⟩
def lL.at(h:lL w q g r GB m A n ts)[l:aM w w']:lL w' q g r GB m A n ts:=h.step (Kf.later _)
theorem si.ZG(h:si w q g r GB m t)(j:Kf (λb=>b=GB) (λb=>b=GB) w w'):si w' q g r GB m t:=
 ⟨⟨j.rd h.te.1 λb hb=>(h.oa b hb).2.2.1,j.rd h.te.2.1 λb hb=>(h.ob b hb).2.2.1,h.te.2.2⟩,ay,ay⟩
theorem lL.ZG(h:lL w q g r GB m A n ts)(j:Kf (λb=>b=GB) (λb=>b=GB) w w'):lL w' q g r GB m A n ts:=
 ⟨j.Dw h.rd ay ay,ay,λt ht=>(h.el t ht).ZG j⟩
theorem lL.ZH(h:eQ w b A n c L)(hL:∀t∈L,TV.ok t)(M:∀z,m.qaa g r z->z<b)(N:GB<b)(hb:q<=b):∃ts,lL w q g r GB m A n ts/\ts.map Tn.tv=L/\eP ts:=by
 obtain⟨ts,D,O,G,E,I⟩:=h;have l:∀t∈ts,TV.ok t.tv:=ay;have key:∀{C:bz},bL b C->∀z,AF C z->¬m.qaa g r z/\z≠GB/\q<=z:=λ{C} P z ⟨K,e,hq⟩=>by grind
 have y:=D.rd.elems;refine⟨ts,⟨D,λQ z j=>⟨?_,(key G z j).1,(key G z j).2.1⟩,λt ht=>⟨y t ht,λz j=>⟨?_,key (E t ht).1 z j⟩,λz j=>⟨?_,key (E t ht).2.1 z j⟩⟩⟩,I,λt ht=>⟨(l t ht).1,(E t ht).2.2⟩⟩
 .cases ts with
  |nil=>grind
  |cons t tt=>obtain⟨R,o,e,S⟩:=D.rd 0 t rfl;obtain⟨K,T,rfl⟩:=j;grind
 exact gn (w:=w) (n:=t.zs.length) (zs:=t.zs) ⟨(y t ht).1,rfl⟩ (fL (l t ht).right) z j;exact gn (w:=w) (n:=t.xs.length) (zs:=t.xs) ⟨(y t ht).2.1,rfl⟩ (l t ht).ne z j
def MS.C1{v:da}{y:Nat}{j:Bool->Tb}(h:MS w y g r m v j)(l:∀b,m.qaa g r b->w'.heap[b]?=w.heap[b]?):MS w' y g r m v j:=
 ⟨h.ar.keep λb hb=>l b (.inr (.inl hb)),λs=>(h.t s).C1 λb hb=>by
  rcases hb with hb|rfl
  .cases s
   .exact l b (.inr (.inr (.inl hb)))
   .exact l b (.inr (.inr (.inr hb)))
  .exact l b (.inl rfl),h.ca,h.gB,h.gA,h.FA,h.FF⟩
theorem g5.adM(h:g5 p w J g r GB m e gs X)(l:Kf (λb=>b=GB) (λb=>b=GB) w w')(j:aT w' p.1.size 28 2 (some ⟨GB,0,none⟩) J.np J.np (tc ZF))(y:ZF.length=J.np)(hv:ZF.map Tn.tv=G')(z:∀t∈ZF,si w p.1.size g r GB m t):g5 p w' J g r GB m {e with G:=G'} ZF X:=
 ⟨h.ms.C1 λb hb=>l.keep b (h.ms.lt b hb).2 ay,h.cs,h.lo,h.gr,j,y,hv,h.x0,h.x1,h.xv,h.oZ.ZG l,λt ht=>(z t ht).ZG l,h.GU⟩
theorem LY(w:ab)(A A2:bz)(n c k d:Nat)(j:TypeId)(l:Nat.min k n=0):(Builtin.copy_ #[23,23] j #[(A,n,c),(A2,k,d)]).run prog w=.ok (goInt 0) w:=by
 obtain⟨i,hi,-⟩:=bJ.1 (show(prog.info? 28).map (·.size)=some 2 from by kernel_rfl);have y:∀(x:Addr),(loadCells x 0).run prog w=.ok #[] w:=λx=>by simpa using run_loadCells_list (P:=prog) w x [] aI
 cases A<;>cases A2<;>simp[Builtin.copy_,eu underlying23,Builtin.lenOf,Builtin.firstCells,sizeOf,typeInfo,hi,l,storeCells,y]
def IU(g:Nat){n f:Nat}(z:f<=n):∃A',(∀W,(Instr.slice 23 (g,n,n) (some (.int .i64 (f:Int))) none none).run prog W=.ok (.slice A' (n-f) (n-f)) W)/\(f<n->A'=some ⟨g,f*2,none⟩):=by
 have j:∀W,(sizeOf (prog.elem 23)).run prog W=.ok 2 W:=λW=>by obtain⟨D,l,y⟩:=bJ.1 (show(prog.info? (prog.elem 23)).map (·.size)=some 2 from by kernel_rfl);simp[sizeOf,typeInfo,l,y]
 refine⟨if n=f then some ⟨g,0,none⟩else(⟨g,0,none⟩:Addr).add (f*2),λW=>?_,λh=>?_⟩;rw[dB W 23 (some ⟨g,0,none⟩) n n ap .i64 (f:Int) Y Y,j];simp[Result.andThen,sliced];rw[ag Y,cf,cQ]
theorem LZ(h:aT w B 28 2 (some ⟨GB,0,none⟩) n n (tc gs))(j:gs=n)(hu:Ts w A2 k us)(y:f+k<=n)(z:f<n->A'=some ⟨GB,f*2,none⟩):
  ∃w',(∀l d,(Builtin.copy_ #[23,23] l #[.slice A' (n-f) (n-f),.slice A2 k d]).run prog w=.ok (goInt (k:Int)) w')/\aT w' B 28 2 (some ⟨GB,0,none⟩) n n (tc (gs.take f++us++gs.drop (f+k)))/\Kf (λb=>b=GB) (λb=>b=GB) w w':=by
 by_cases D:k=0;subst D;obtain rfl:us=[]:=ay;refine⟨w,(by grind [LY,Nat.zero_min]),?_,Kf.refl _ _⟩;rw[ev,d9,d3];exact h;obtain⟨I,K,rfl,E,G⟩:=LX h j hu Y y;rw[z Y];exact⟨_,λl d=>E l (n-f) (n-f) d Y,G,mK (F:=λb=>b=GB) rfl K⟩
theorem g5.copied[aM p w](h:g5 p w J g r GB m e gs X)(hP:lL w p.1.size g r GB m A2 k us)(l:f+k<=J.np)(y:f<J.np->A'=some ⟨GB,f*2,none⟩):
  ∃w',(∀z d,(Builtin.copy_ #[23,23] z #[.slice A' (J.np-f) (J.np-f),.slice A2 k d]).run prog w=.ok (goInt (k:Int)) w')/\g5 p w' J g r GB m {e with G:=rU e.G (us.map Tn.tv) f} (gs.take f++us++gs.drop (f+k)) X/\Kf (λb=>b=GB) (λb=>b=GB) w w'/\aj w' p:=by
 obtain⟨w',D,E,j⟩:=LZ h.row h.gl hP.rd l y;have I:=hP.rd.len;have M:=h.gl;refine⟨w',D,h.adM j E ch ?_ λt ht=>?_,j,j.prev λb K=>by rw[K];exact h.lK.1⟩;unfold rU;rw[c9,c9,fT,kX,h.gv,bn,<-I];grind
end
end
section
variable{w1:World}{GB i:Nat}{m2:kP}{v':da}{kn tb:Bool->Tb}{J:OR}{D:Option Addr}{xs zs:List Int}{id kd z:Int}{s:jI}{F':Nat->Prop}{ss:List Sp}
section
variable{w:World}{B k n:Nat}{m m':kP}{e e':tu}{v:da}{nd:dV}{t:Tb}{T:Bool->Int->Option (List Int)}{gs:List Tn}{X:Tn}{N:a6}{P:List TV}{x:TV}{lo:Int}{b:Bool}
def sj(N:a6)(s:jI)(id:Int)(n i:Nat):List Bool:=(List.range n).map λq=>if q<i then oV N s id q else false
def U4(N:a6)(s:jI)(id:Int)(n:Nat):sj N s id n 0=List.replicate n false:=by
 unfold sj;apply uY;simp;intro q y D;simp
def Gi(h:oV N s id i=false):sj N s id n (i+1)=sj N s id n i:=by
 unfold sj;refine iG λq _=>?_;by_cases hq:q<i;rw[ah hq,ah Y];by_cases y:q=i;subst y;rw[ah Y,ag hq,h];rw[ag Y,ag hq]
def ZI(h:oV N s id i=true):(sj N s id n i).set i true=sj N s id n (i+1):=by
 unfold sj;apply uY;simp;intro q D E;rw[uR];simp only[List.getElem_map,List.getElem_range];by_cases hq:i=q;subst hq;rw[ah rfl,ah Y,h];rw[ag hq];by_cases y:q<i;rw[ah y,ah Y];rw[ag y,ag Y]
def abO(hi:i<n):(sj N s id n n)[i]?=some (oV N s id i):=by
 unfold sj;rw[bo,il hi];simp[hi]
def Kf.ZJ{F:Nat->Prop}(h:Kf F F' w w'){q:Addr}(hq:w.1.size<=q.block)(y:Value):Kf F F' w (w'.setCell q y):=
 ⟨h.base.setCell (p:=q) (aR _) y,by have:=h.size;simpa using this,λb hb D=>by
  rw[bb w' q y b Y];exact h.keep b hb D,h.new⟩
def MS.aV(h:MS w B g r m v tb){q:Addr}(hq:¬m.qaa g r q.block)(y:Value):MS (w.setCell q y) B g r m v tb:=h.C1 λb hb=>bb w q y b λe=>hq (e▸hb)
def IV{j n:Nat}[aM p w]{id:Int}(hid:id=(j:Int))(sh:Z (dX p D n ss))(h:Z (MS w p.1.size g r m v tb))(cA:Z (cM v tb T))(y:Z (T true (j:Int)=some xs))(hs:Z (m.cs[16]?=some (.slice D n c)))(E:Z ((aX ss)[j]?=some zs))(hr:Z (aw zs xs=true)):
  () 154 #[.pointer (some ⟨g,13,none⟩),id] w (dM w zs xs 0):=by
 subst hid;exact yT sh h cA y hs E hr
def ZK[pw:aM p w](hB:Z (zu p J N L P x))(c:fI N O L l P x)(hI:gw N O L l P x cap s e)(hS:g5 p w J g r GB m e gs X)(hc:lS (dt N cap) s 6 id=0)(hn:N.nodes.length<=200)(oJ:e.A.nx<=100000000000)(td:e.A.mv<=100000000000):
  () 101 #[.pointer g,id] w (yb p J g r GB N O L l P x cap (g4 (dt N cap) s 6 id) e.A 1000):=by
 have CC:=@cJ;have CP:=@bX;obtain⟨nd,b⟩:=hI.Ym c hc;have HC:=U c;have HI:=U hI;have HS:=U hS;have M:=U b;obtain⟨k,tR⟩:=lh ((id-1).toNat);have hk:Z (N.nodes[k]?=some nd):=U (by rw[<-tR];exact b.hv);obtain rfl:id=(k:Int)+1:=by have:=b.i1;omega
 have pwp:aj w p:=⟨pw.st⟩;have a:aW p J.A J.n J.B J.m N:=hB.o.Yr;have HM:Z (J.m=N.nodes.length):=a.len;have IB:k<J.m:=by rw[HM.o];exact(bj.1 hk.o).1
 have hm:J.m<=1000:=by rw[HM.o];exact hB.o.small.1
 have hwj:IntKind.i64.wrap (k:Int)=(k:Int):=by rw[a7];omega
 have c1:Cl w g 1 (.slice J.B J.m J.d):=hS.ms.cl hS.cs.c1;have og:Old g w:=hS.ms.old;generalize J.B=Bz at a c1;obtain⟨b0,q0,o,A1,n1,BY,I,ni,ci,ins,P',np,cp,Q,rfl,ob,⟨v0,v1,v2,v3,v4,v5,v6,v7,v8,v9⟩,s1,si,sp,l1,li,lp,ik,lP⟩:=a.node IB;obtain rfl:nd=⟨o,ins,aX Q⟩:=cU (hk.o.symm.trans lP.o);have ra:ni<=1000:=by have:=hB.o.small.2 _ (aK hk.o);rwa[si.len]
 have EN:Z (bS N ((k:Int)+1)=ins):=b.hi;have HNI:Z (ni=ins):=si.len;have jF:∀W,_:=λW=>n4 ni Y W;have w7:=U oJ;have w4:=U td;clear tR lP b c hI hS hc hm oJ td;go_in;go_upto_region 2 with fail;refine aa (λu0 Bd k0=>?_);obtain⟨D,hD⟩:=lg w.1.size;rw[<-hD]at k0⊢;have HD:=U hD;have cd8:Cl u0 D 8 (I,ni,ci):=⟨k0.ak.cell 8⟩;have od:Old D u0:=⟨k0.ak.lt⟩;clear hD;obtain⟨ZL,ZM⟩:∃ZL:Array Value,ZL= #[.int .i64 o.kd,.int .i64 o.k,.int .i64 o.wd,.int .i64 o.st,.int .i64 o.sd,.int .i64 o.fr,.int .i64 o.tt,.slice A1 n1 BY,.slice I ni ci,.slice P' np cp]:=⟨_,rfl⟩;have afo:Z (aA u0 D 84 ZL):=U (by rw[ZM];exact k0.ak);have acA:=U ZM;clear ZM k0;go_wp2_with fail;obtain⟨F,hF⟩:=lg u0.1.size;obtain⟨W1,lu⟩:=lg (u0.alloc (.cells (eB (List.replicate ni false)) 4));have pW1:aj W1 u0:=by rw[lu];exact aC
 have afp:Z (aA W1 F 4 (eB (sj N s ((k:Int)+1) ni 0))):=U (by rw[lu,hF,U4];exact aA.new _ _ _);rw[<-lu,<-hF];have HDW:Z (w.1.size<=D):=dT HD.o.symm;have Bj:Z (w.1.size<=F):=U (by rw[hF];exact ai);have IK:Z (∀q,w.1.size<=q->¬m.qaa g r q):=U λq hq hx=>by have:=(HS.o.ms.lt q hx).2;omega
 have HDF:Z (D≠F):=U (by have:=od.lt;omega);obtain⟨ss,sh,C6⟩:=hB.o.sh;have SH:=U sh;have Um:=U C6;clear lu hF jF sh C6;go_loopw [34] (λs34 wr=>∃(i:Nat) (m1:kP) (v1:da) (ye:Bool->Tb) (T1:Bool->Int->Option (List Int)),i<=ni/\s34=.int .i64 (i:Int)/\Z (MS wr p.1.size g r m1 v1 ye)/\Z (tw N L s e ((k:Int)+1) i v1 ye T1)/\Z (d6 w wr g r m m1)/\Z (¬m1.qaa g r F/\¬m1.qaa g r D)/\Z (aA wr D 84 ZL)/\Z (aA wr F 4 (eB (sj N s ((k:Int)+1) ni i)))/\Z (v1.nx<=e.A.nx+i/\v1.mv<=e.A.mv+i)/\aj wr p) (λs34 _=>ni-(intOf s34).toNat);exact⟨0,m,e.A,e.tb,e.T,aR _,rfl,U HS.o.ms.at,U (tw.zero HI.o.mb HI.o.lp_),U (d6.later g r m),U ⟨IK.o F Bj.o,IK.o D HDW.o⟩,U afo.o.at,afp,U ⟨al _,al _⟩,aC⟩;obtain⟨i,m1,v1,ye,T1,hi,rfl,R,rN,wE,L0,OE,HKF,wL,hp⟩:=hrel;by_cases bD:i<ni
 .obtain⟨bi,oi,z,rfl,obi,cz,hz⟩:=si.get bD;have HZ:Z ((bS N ((k:Int)+1))[i]?=some z):=U (by rw[EN.o];exact hz.o);have Rp:=rN.o.has HI.o M.o HZ.o;(have i1:(i:Int)<(ni:Int):=by omega);have HTB:Z (kF wr p.1.size g 13 m1.cs (m1.F true) (ye true)):=R.o.t true;rcases Dx:oV N s ((k:Int)+1) i with _|_
  .have HF0:=U Dx;have fN:=Rp.2.1 Dx;clear Rp Dx;by_cases e6:z=0
   .subst e6;go_wp2_with fail;go_roundw;exact⟨i+1,m1,v1,ye,T1,Y,by go_num,R,U (rN.o.skip HZ.o HF0.o),wE,L0,OE,U (by rw[Gi HF0.o];exact HKF.o),U ⟨by have:=wL.o.1;omega,by have:=wL.o.2;omega⟩,hp⟩;exact zQ1
   obtain⟨xs,ZN⟩:=fN.resolve_left e6;have HTH:Z (iL (ye true) z=true):=rN.o.mb.has.2 ⟨xs,ZN⟩;(have gu:(z==0)=false:=by simp[e6]);clear ZN e6 fN;go_wp2_with (go_at_call 155;refine mv (Qo HTB.o HTH) λu1 _=>?_);go_roundw;exact⟨i+1,m1,v1,ye,T1,Y,by go_num,U (R.o.at (w':=u1)),U (rN.o.skip HZ.o HF0.o),U (wE.o.trans (d6.later g r m1 (w:=wr) (w':=u1))),L0,U (OE.o.at (w':=u1)),U (by rw[Gi HF0.o];exact HKF.o.at (w':=u1)),U ⟨by have:=wL.o.1;omega,by have:=wL.o.2;omega⟩,aG p u1⟩;exact zQ1
  have O6:=U Dx;obtain⟨e6,hTn⟩:=Rp.1.1 Dx;have HTN:=U hTn;have LF:=M.o.CZ z (aK hz.o);have HTH:Z (iL (ye true) z=false):=U (by
   rw[GQ];intro hx;obtain⟨xs,ZN⟩:=rN.o.mb.has.1 hx;rw[hTn]at ZN;cases ZN)
  have gu:(z==0)=false:=by simp[e6]
  obtain⟨jz,ZO⟩:∃jz:Nat,z=(jz:Int):=⟨z.toNat,Y⟩;have Zr:=U ZO;have SO:(sj N s ((k:Int)+1) ni i)[i]?=some false:=by unfold sj;rw[bo,il bD];simp
  have HGI:=U SO;have Tl:=HC.o.hN.right HC.o.hF LF.1 LF.2;have HRT:Z (aH (L.getD z.toNat [])=true):=Tl;obtain⟨w0,w1,w2⟩:=HC.o.word (cap:=cap) LF.1 LF.2;have vM:Z (bG (L.getD z.toNat [])=((fy L z:Nat):Int)):=U (by
   obtain⟨n9,g1,g2,g3⟩:=cG Tl;have e2:bG (L.getD z.toNat [])=(n9:Int):=by rw[bG,ah Tl,g1]
   rw[fy,e2];rfl)
  have HJJ:Z ((aX ss)[jz]?=some (L.getD z.toNat [])):=U (by
   have h9:jz<L:=by rw[HC.o.len];omega
   rw[Um.o,ZO,a9,a5,bk h9];rfl)
  have adN:=rN.o.room HI.o M.o HZ.o Dx;have Ze:v1.lv+fy L z<=v1.cap:=Y;have qS:Z ((ye true).length<=200):=U (aQ (rN.o.mb.Zk (b:=true) (n:=N.nodes.length) λy xs hy=>by
   rw[rN.o.tg]at hy
   split at hy
   .rename_i hm;rw[nj,EN.o]at hm;have h8:=M.o.CZ y (eS hm.1);have h7:=hm.2.1;omega
   .exact HI.o.ids true y xs hy) hn)
  clear Rp Dx hTn ZO SO Tl w0 adN e6;go_upto_region 8 with(go_at_call 155;refine mv (Qo HTB.o HTH) λu1 _=>?_;have kF1:=HKF.o.at (w':=u1);have SM:=kF1.frozen i;have hcF:=(kF1.cell i).trans (ce HGI.o);have afq:=U kF1;clear kF1)
  obtain⟨W2,nz⟩:=lg (u1.setCell (F,i) (.bool true));have LG:Z (MS W2 p.1.size g r m1 v1 ye):=U (by rw[nz];exact(R.o.at (w':=u1)).aV L0.o.1 _);have wM:Z (aA W2 F 4 (eB (sj N s ((k:Int)+1) ni (i+1)))):=U (by rw[nz,<-ZI O6.o,<-m6];exact afq.o.av i _);have acB:Z (aA W2 D 84 ZL):=U (by rw[nz];exact(OE.o.at (w':=u1)).aV HDF.o _);have mf:Z (d6 w W2 g r m m1):=U (by
   have h9:=wE.o.trans (d6.later g r m1 (w:=wr) (w':=u1));rw[nz];exact⟨h9.kf.ZJ Bj.o _,h9.sm⟩)
  have pW2:aj W2 p:=mf.o.prev HS.o.ms;have ZP:Z (m1.cs[16]?=some (.slice J.SA J.ns J.sc)):=(HS.o.cs.same wE.o.sm).cS true;(have afr:v1.nx<=1000000000000:=by have:=wL.o.1;have:=w7.o;omega);(have afs:v1.mv<=1000000000000:=by have:=wL.o.2;have:=w4.o;omega);have adO:=qS.o;have aft:Z (T1 true (jz:Int)=none):=U (by rw[<-Zr.o];exact HTN.o);rw[<-nz];clear nz SM hcF;go_wp2_with (go_at_call 150;refine(F9 (p:=p) (j:=jz) Zr.o SH LG (U rN.o.mb) aft ZP HJJ HRT vM w1 w2 Ze afr afs adO).mono ?_;rintro e u3 ⟨rfl,m3,v3,tb3,Zg,LH,HG3,afu,Gj⟩);go_roundw;have cA:=LH.o;rw[<-Zr.o]at cA;have q1:=HG3.o;have LW:=wM.o.lt;have hD2:=acB.o.lt;have ZQ:¬m3.qaa g r F:=λhx=>(Gj.o.kf.new F hx).elim L0.o.1 λh9=>absurd LW (l4.2 h9);have hnD:¬m3.qaa g r D:=λhx=>(Gj.o.kf.new D hx).elim L0.o.2 λh9=>absurd hD2 (l4.2 h9);exact⟨i+1,m3,v3,tb3,_,Y,by go_num,Zg,U (rN.o.VG HZ.o O6.o cA q1.lv q1.pe q1.cap),U (mf.o.trans Gj.o),U ⟨ZQ,hnD⟩,U (Gj.o.kf.ak acB.o L0.o.2),U (Gj.o.kf.ak wM.o L0.o.1),U ⟨by have:=wL.o.1;have:=q1.nx;omega,by have:=wL.o.2;have:=afu.o;omega⟩,Gj.o.prev LG.o⟩;exact zQ1
 obtain rfl:i=ni:=Y;obtain⟨UV,IW⟩:=lh (cE (dR N P x) ins);have x9:Z (cE (dR N P x) (⟨o,ins,aX Q⟩:dV).ins=UV):=IW;have hfw:=k8 HC.o.hN HC.o.hF;have uj:Z ((dR N P x).getD 0 T0=x):=hfw.zero;have qS:Z (L=N.nodes.length+1):=HC.o.hN.len;have afv:Z (∀z∈(⟨o,ins,aX Q⟩:dV).ins,Yt L T1 (dR N P x) N.nodes.length z):=λz hz=>(M.o.ins z hz).imp (λh=>h) λ⟨a1,a2,a3⟩=>by obtain⟨b1,b2,_⟩:=HC.o.val a1 a2;exact⟨a1,a2,(rN.o.tf z).trans a3,b1,b2⟩
 have acC:=U rN.o.mb;have L1:Z (oe J r m1.cs):=HS.o.cs.same wE.o.sm;obtain⟨gv,D6⟩:=lh ((cD N O L l P x s.done.toNat).1.getD ((k:Int)+1).toNat T0);have HGV:=U D6;have Gk:=M.o.TX;rw[D6]at Gk;have afw:((k:Int)+1).toNat=k+1:=by omega
 rw[afw]at Gk;have HTG:Z (T1 true ((k+1:Nat):Int)=some gv.2):=U (by
  have e9:((k+1:Nat):Int)=(k:Int)+1:=by omega
  rw[e9,rN.o.tg,ag,M.o.tg,D6];rw[nj];intro hx;have:=hx.2.2;rw[M.o.gd]at this;cases this)
 have HGS:Z ((aX ss)[k+1]?=some gv.1):=U (by
  have h9:k+1<L.length:=by rw[HC.o.len];have:=M.o.i2;omega
  rw[Um.o,Gk.1,bk h9,a5,bk h9];rfl)
 have HGR:Z (aw gv.1 gv.2=true):=Gk.2.1;have L2:=U Gk;have ZP:Z (m1.cs[16]?=some (.slice J.SA J.ns J.sc)):=L1.o.cS true;have cw0:Cl wr g 0 (.slice J.A J.n J.c):=R.o.cl L1.o.c0;have cw2:Cl wr g 2 (.slice J.PA J.np J.cp):=R.o.cl L1.o.c2;have cw1:Cl wr g 1 (.slice J.B J.m J.d):=R.o.cl L1.o.c1;have agB:Cl wr g 18 (.slice GB J.np J.np):=R.o.cl ((wE.o.sm 18 ao ao ao ao).trans HS.o.gr);clear IW hfw D6 Gk;go_upto_region 15 with(go_at_call 148;refine(C5 (p:=p) (vals:=dR N P x) hB R L1 acC hk uj qS afv x9).mono ?_;rintro e2 u2 ⟨A2,c2',us,rfl,TU,LU,wz,O1,t8⟩);go_upto_region 16 with(go_at_call 154;refine(IV (p:=p) (j:=k+1) Y SH (U (R.o.at (w':=u2))) acC HTG ZP HGS HGR).mono ?_;rintro e3 u3 ⟨A3,Oa,B3,d3,rfl,sA3,sX3,lA3,lX3,fA3,fX3,YU⟩);refine aa (λu4 Lj k4=>?_);go_upto_region 18 with fail
 have aN:aW p J.A J.n J.B J.m N:=hB.o.Yr;have CB:=@az;have FB:=@aP;have kD:Bx wr D 84 #[o.kd,o.k,o.wd,o.st,o.sd,o.fr,o.tt,(A1,n1,BY),(I,i,ci),(P',np,cp)]:=⟨by rw[<-acA.o];exact OE.o⟩;obtain⟨ps,tps,EP,Zb⟩:=hB.o.ps;have TP:Ts p J.PA J.np ps:=tps;have Wf:=U Zb;have W8:=U EP;have XD:=U hB.o.fits;have Cf:=U hB.o.small;have hlB:=hB.o.lB;have hlP:=hB.o.lp;have xk:Z (P=(bQ N).length):=U (by have:=di List.length HC.o.hF.ps;simpa using this);have sg:Z (dK N k+(aX Q).length<=J.np):=U (by
  have h9:J.np=(bQ N).length:=by rw[<-xk.o,<-EP,bn];exact tps.len
  rw[h9,show(aX Q).length=(⟨o,ins,aX Q⟩:dV).P.length from rfl,<-jq hk.o];unfold dK bQ;exact la _ _)
 have hvp:(aX Q).length<=1000000:=by have h8:=(XD.o.2.2 _ (aK hk.o)).2.2.1;have h9:(aX Q).length<=100000:=h8;omega
 obtain⟨PV,uA⟩:=lh (iB N P k ⟨o,ins,aX Q⟩);have ZR:=U uA;have HPX:Z (((ps.map Tn.tv).drop (dK N k)).take (aX Q).length=PV):=U (by rwa[W8.o]);obtain⟨vv,e1,e2,e3,e4,e5⟩:=HC.o.hN.at (id:=(k:Int)+1) (bt.2 ⟨M.o.i1,M.o.i2⟩);have evv:vv=⟨o,ins,aX Q⟩:=cU (e1.symm.trans M.o.hv);subst evv;have JC:=tq.pick HC.o.hN HC.o.hF (k8 HC.o.hN HC.o.hF) (v:=⟨o,ins,aX Q⟩) λz hz=>(M.o.ins z hz).imp (λh=>h) λh=>HC.o.hN.mem.2 (bt.2 ⟨h.1,h.2.1⟩);have qX:=(HC.o.hF.par hk.o).1;rw[uA]at qX;have ZS:=U JC.1;rw[x9.o]at ZS;have HE:Z (dr o (PV.map (·.1)) (UV.map (·.1))=0):=U (by rw[qX,ZS.o];exact e2);have HV:Z (cy o (PV.map (·.1)) (UV.map (·.1))=gv.1):=U (by rw[qX,ZS.o,L2.o.1,<-show((k:Int)+1).toNat=k+1 from Y];exact e3.symm);obtain⟨GP,EC⟩:=lh (qZ o PV UV gv.1 gv.2);obtain⟨GX,ED⟩:=lh (j5 o PV UV gv.1 gv.2);have ZT:=U EC;have Og:=U ED;have ig:cm gv.2:=⟨L2.o.2.2⟩;have qW:n1<=1000000:=by have h8:=(XD.o.2.2 _ (aK hk.o)).2.1;have h9:o.S.length<=100000:=h8;rw[s1.len];omega
 have ud:UV.length<=1000000:=by rw[<-x9.o,cE,bn];show ins.length<=_;rw[<-HNI.o];omega
 clear tps EP Zb uA e1 e2 e3 e4 e5 JC qX EC ED;go_cut [13,11] (λq9 e9 wx=>∃G A' n' c' B' m' d',q9=.pointer (some ⟨G,0,none⟩)/\e9=.int .i64 0/\u4.1.size<=G/\Bx wx G 151 #[.slice A' n' c',.slice B' m' d']/\eQ wx u4.1.size A' n' c' GP/\eQ wx u4.1.size B' m' d' GX/\aj wx u4);case first=>
  refine ax u4 ap (λux _=>?_)
  repeat' (first
   |(refine kj 0 ?_
     refine qL [0,1,2,3,4,5,6,7,8,9,10,11,12,14] ?_;refine jQ 15 97 ?_)
   |(refine kj 17 ?_
     refine qL [17,18] ?_;refine jQ 19 100 ?_)
   |(refine kj 22 ?_
     refine jQ 22 11 ?_)
   |(intro (tg:Tg 13) K hK
     clear tg;go_simp
     refine(Yx hlB hlP hvp Wf XD Cf rfl hk sg HPX).mono ?_
     rintro e ux ⟨A5,c5,qs,rfl,TQ,LQ,ID,HQT,pq⟩;dsimp only;refine aE hK ?_;clear hK K)
   |(intro (tg:Tg 16) K hK
     clear tg;go_simp
     refine(Gh qW ud ID wz HQT O1 HE HV HGR ZT Og).mono ?_
     rintro e ux ⟨A',n',c',B',m',d',rfl,r1,r2,_⟩;dsimp only;refine aE hK ?_;clear hK K)
   |(intro (tg:Tg 20) K hK
     clear tg;go_simp;refine aE hK ?_;refine bc (λux _ _=>?_))
   |(intro (tg:Tg 21) K hK
     clear tg;rename World=>wN;go_simp;refine q8 hK (λ_=>?_) ⟨bA (aO u4 wN) ai _ _⟩;clear hK K)
   |refine ff 13 ?_
   |refine ff 16 ?_
   |refine ff 21 ?_
   |refine ff 20 ?_
   |refine my 13 20 ?_ ?_
   |refine my 16 20 ?_ ?_
   |refine DW ?_)
  all_goals
   go_wp2_with fail;go_meet;refine⟨_,A',n',c',B',m',d',rfl,rfl,ai,⟨(Bx.ak (w:=wN)).bP _ _⟩,?_,?_,⟨bA (aO u4 wN) ai _ _⟩⟩
   .first|exact(r1.bH Bx.ak.lt _ _).less ai|exact(r1.kR (al _) _ _).less ai
   first|exact(r2.bH Bx.ak.lt _ _).less ai|exact(r2.kR (al _) _ _).less ai
 obtain⟨G,A',n',c',B',m',d',rfl,rfl,hgG,kG,q1,q2,pwx⟩:=hcut;rename World=>wx;have Rq:=HC.o.hF.par hk.o;rw[ZR.o]at Rq;have Rr:=(tq.pick HC.o.hN HC.o.hF (k8 HC.o.hN HC.o.hF) (v:=⟨o,ins,aX Q⟩) λz hz=>(M.o.ins z hz).imp (λh=>h) λh=>HC.o.hN.mem.2 (bt.2 ⟨h.1,h.2.1⟩)).2;rw[x9.o]at Rr;have Hk:=QT HE.o Rq.2 Rr HV.o (show TV.ok (gv.1,gv.2)from L2.o.2);rw[ZT.o]at Hk;have vX:=KE HE.o Rr (HC.o.hF.k6 _ M.o.hm) HV.o (show TV.ok (gv.1,gv.2)from L2.o.2);rw[Og.o]at vX;have Rs:∀q,m1.qaa g r q->q<u4.1.size:=λq hq=>bN (R.o.lt q hq).2 ai;have Rt:GB<u4.1.size:=bN HS.o.lK.2.1 (aQ wE.o.kf.size ai);have ZU:p.1.size<=u4.1.size:=aQ HS.o.lK.1 (eW Rt);obtain⟨us1,TR,hmP,-⟩:=lL.ZH (g:=g) (r:=r) (GB:=GB) (m:=m1) (q:=p.1.size) q1 Hk.2 Rs Rt ZU;obtain⟨L3,hoX,hmX,acD⟩:=lL.ZH (g:=g) (r:=r) (GB:=GB) (m:=m1) (q:=p.1.size) q2 vX.2 Rs Rt ZU;have HU:n'=(aX Q).length:=by have e1:=di List.length Hk.1;have e2:=di List.length hmP;have e3:=di List.length Rq.1;simp only[bn]at e1 e2 e3;rw[TR.rd.len,e2,e1,e3]
 have U5:i=m':=by have e1:=di List.length vX.1;have e2:=di List.length hmX;(have e3:UV.length=ins.length:=by rw[<-x9.o];simp[cE]);simp only[bn]at e1 e2;rw[hoX.rd.len,e2,e1,e3,HNI.o]
 subst U5;have HES:Z (g5 p wx J g r GB m1 {e with A:=v1,tb:=ye,T:=T1} gs X):=U ((HS.o.step (T:=T1) R.o wE.o).at (w':=wx));obtain⟨f,hF⟩:=lh (dK N k);have HF:=U hF;have hfk:f+n'<=J.np:=by rw[HU,<-hF];exact sg.o
 obtain⟨A9,kE,ZV⟩:=IU GB (n:=J.np) (f:=f) Y;have HA9:=U ZV;have HFK:=U hfk;have HOP:=U TR;have HOX:=U hoX;have HMP:=U hmP;have M4:=U hmX;have ZW:=U acD;have HGU:Z (¬m1.qaa g r G):=U λhx=>by have:=Rs G hx;omega
 have qi:Z (G≠GB):=U Y;have HFG:Z (F≠GB):=U (by have:=HS.o.lK.2.1;have:=Bj.o;omega);have HDG:Z (D≠GB):=U (by have:=HS.o.lK.2.1;have:=HDW.o;omega);have afx:Z (pt N P (dR N P x) (cD N O L l P x s.done.toNat).1 ((k:Int)+1) ⟨o,ins,aX Q⟩=GX):=U (by
  unfold pt;rw[show((k:Int)+1-1).toNat=k from Y,ZR.o,x9.o,HGV.o];exact Og.o)
 have afy:Z (Cp N P (dR N P x) (cD N O L l P x s.done.toNat).1 ((k:Int)+1) ⟨o,ins,aX Q⟩=GP):=U (by
  unfold Cp;rw[show((k:Int)+1-1).toNat=k from Y,ZR.o,x9.o,HGV.o];exact ZT.o)
 clear Rq Rr Hk vX Rs Rt ZU TR hoX hmP hmX acD hF hfk ZV q1 q2 HU hgG;go_upto_region 21 with fail;refine aU p (λw9=>Cl w9 g 18 (.slice GB J.np J.np)/\Bx w9 G 151 #[.slice A' n' c',.slice B' i d']) ap ⟨am,am⟩ (λuz _=>?_);refine bp 0 ?_;refine bp 1 ?_;refine bp 2 ?_;refine bp 3 ?_;refine bp 4 ?_;refine bp 5 ?_;refine bp 6 ?_;refine bp 9 ?_;refine bp 10 ?_;refine aJ 7 λK hK=>?_;go_simp;refine(Ul hB (U (HES.o.at (w':=uz)).ms) (U HES.o.cs) hk HF).mono ?_;rintro e uz ⟨rfl,_⟩;dsimp only;refine aE hK ?_ ⟨aG p _,⟨am,am⟩⟩;refine bp 8 ?_;refine aJ 11 λK hK=>?_;obtain⟨W6,rj,L4,L5,pw6⟩:=g5.copied (f:=f) (HES.o.at (w':=uz)) (HOP.o.at (w':=uz)) HFK.o HA9.o;obtain⟨IX,acE⟩:=lh (gs.take f++us1++gs.drop (f+n'));rw[acE]at L4;have afz:Z (g5 p W6 J g r GB m1 ⟨v1,ye,T1,rU e.G GP f,e.X,e.lo⟩ IX X):=U (by rwa[<-HMP.o]);have cw6:Cl W6 g 18 (.slice GB J.np J.np):=L4.ms.cl L4.gr;have Xt:Bx W6 G 151 #[.slice A' n' c',.slice B' i d']:=⟨L5.ak (Bx.ak (w:=uz)) qi.o⟩;have afA:Z (lL W6 p.1.size g r GB m1 B' i L3):=U ((HOX.o.at (w':=uz)).ZG L5);have afB:Z (aA W6 F 4 (eB (sj N s ((k:Int)+1) i i))):=U (L5.ak (HKF.o.at (w':=uz)) HFG.o);have afC:Z (aA W6 G 151 #[.slice A' n' c',.slice B' i d']):=Xt.ak;have cD6:Cl W6 D 8 (I,i,ci):=⟨by rw[(L5.ak (OE.o.at (w':=uz)) HDG.o).cell 8,acA.o];rfl⟩;refine dZ rfl _ _ 23 23 rfl _ _ rfl rfl (rj _ _)<|aE hK ?_ ⟨pw6,cw6,Xt⟩;clear hK K rj L5 L4 acE;refine a8 ?_;skip;clear kE;go_wp2_with fail;go_loopw [119] (λZX wr=>∃(q:Nat) (m2:kP) (v2:da) (zy:Bool->Tb) (T2:Bool->Int->Option (List Int)) (X2:Tn),q<=i/\ZX=.int .i64 (q:Int)/\Z (g5 p wr J g r GB m2 ⟨v2,zy,T2,rU e.G GP f,X2.tv,e.lo⟩ IX X2)/\Z (xT N O L l P x s e ((k:Int)+1) ⟨o,ins,aX Q⟩ q v2 zy T2 X2.tv)/\Z (lL wr p.1.size g r GB m2 B' i L3)/\Z (aA wr F 4 (eB (sj N s ((k:Int)+1) i i)))/\Z (aA wr G 151 #[.slice A' n' c',.slice B' i d'])/\Z (¬m2.qaa g r F/\¬m2.qaa g r G)/\Z (v2.nx<=e.A.nx+i/\v2.mv<=e.A.mv+i)/\aj wr p) (λZX _=>i-(intOf ZX).toNat);have p0:=rN.o;have hx9:=HS.o.xv;refine⟨0,m1,v1,ye,T1,X,aR _,rfl,U (by rw[hx9];exact afz.o),U ?_,afA,afB,afC,U ⟨L0.o.1,HGU.o⟩,wL,am⟩;rw[hx9];exact xT.start HC.o HI.o M.o (by rwa[<-show i=ins from HNI.o]);obtain⟨q,m2,v2,zy,T2,⟨XA2,xc2,wO,XB2,xd2,q3⟩,hq,rfl,E,Pd,Ru,wM,Gl,lD,Dy,rE⟩:=hrel;by_cases bD:q<i
 .obtain⟨bi,oi,z,rfl,obi,cz,hz⟩:=si.get bD;obtain⟨t,ht,te,tok,tl⟩:=M.o.get hz.o;(have htX:GX[q]?=some t:=by rwa[<-afx.o]);have ZY:Ts wr B' i L3:=Ru.o.rd;obtain⟨b2,o2,A3,n3,c3,z3,B3,k3,d3,x3,rfl,iM,e0,e1,s3,y3,l3,l3',i3,h4,h6,Vy,wo⟩:=ZY.yK ZW bD;(have htt:t=(z3,x3):=by have h9:=wo.o;rw[M4.o,a5,htX]at h9;exact h9);subst htt;obtain⟨fb,Dx⟩:=lh (oV N s ((k:Int)+1) q);have hcF:wr.cell? (F,q)=some (.bool fb):=(wM.o.cell q).trans (ce (by rw[<-Dx];exact abO bD));have WR:Bx wr G 151 #[.slice A' n' c',.slice (some ⟨b2,o2,none⟩) i d']:=⟨Gl.o⟩;have HFB:=U Dx;have HZ:=hz;have HTT:=U ht;have V8:=U te;have ql:=U tok;have zj:=U tl;(have i1:(q:Int)<(i:Int):=by omega);clear Dx ht te tok tl htX ZY wo hz;by_cases fN:z=0
  .subst fN;have g0:=((M.o.at (i:=q)).2.1 0 (eb _) (Int.natCast_nonneg _));have g1:=Pd.o.X;have g2:(wO,q3)=T0\/((wO,q3):TV).1=L.getD (0:Int).toNat []/\TV.ok (wO,q3):=by have g3:(wO,q3)=(j8 N O L l P x s.done.toNat ((k:Int)+1) ⟨o,ins,aX Q⟩ q).getD 0 T0:=g1;rwa[g3]
   have hV:=Cr g2 V8.o ql.o;obtain⟨V,zz⟩:=lh (iC (wO,q3) (z3,x3));rw[zz]at hV;have qg:=U zz;have HVO:=U hV;have Dz:Z (q3=[]\/cP wO q3 z3 x3=true):=U (by
    rcases g2 with g2|g2
    .exact .inl (di Prod.snd g2)
    .refine .inr ?_;have e1:wO=z3:=g2.1.trans V8.o.symm;unfold cP;rw[g2.2.1,ql.o.1,e1];simp)
   have tr:q3.length<=1000000:=by rcases g2 with g2|g2;have:q3=[]:=di Prod.snd g2;rw[this];simp;have h9:q3.length<=65536:=(fp g2.2.1).1;omega
   have w1:Sl wr XA2 wO wO:=⟨E.o.oZ.te.1,rfl⟩;have w2:Sl wr XB2 q3 q3:=⟨E.o.oZ.te.2.1,rfl⟩;have w3:cm q3:=⟨E.o.oZ.te.2.2.2⟩;clear g0 g1 g2 hV zz;go_upto_region 25 with fail;refine wp_region_still_tail 11 ap ap ?_;change wpStill _ _ (wr).drew _ _ _;simp only[f6,d8,iH,fl];(repeat still_step);refine gH ?_;go_wp2_with (go_at_call 157;refine(UK (p:=p) (x:=(wO,q3)) (U E.o.ms.at) (U E.o.x0) (U E.o.x1) tr Y Y Dz qg).mono ?_;rintro e9 u9 ⟨rfl,A5,c5,B5,d5,rp,s5,y5,f5,f5',l5,qV⟩);go_roundw;have hn9:=HVO.o.2;refine⟨q+1,_,v2,zy,T2,⟨A5,c5,V.1,B5,d5,V.2⟩,Y,by go_num,U ((E.o.at (w':=wr.drew)).ed (X':=⟨A5,c5,V.1,B5,d5,V.2⟩) rp.o qV.o (TE.of s5 y5 l5 hn9.2) (gn s5 (fL hn9.right)) (gn y5 hn9.ne) f5 f5'),U ?_,U ((Ru.o.at (w':=wr.drew)).step qV.o),U (qV.o.ak (wM.o.at (w':=wr.drew)) lD.o.1),U (qV.o.ak (Gl.o.at (w':=wr.drew)) lD.o.2),lD,Dy,qV.o.prev λb hb=>(E.o.ms.lt b hb).1⟩;have h9:=Pd.o.zero M.o HZ.o HTT.o;have h8:(⟨A5,c5,V.1,B5,d5,V.2⟩:Tn).tv=iC (wO,q3) (z3,x3):=qg.o.symm;rw[h8];exact h9;exact zQ1
  obtain⟨⟨j1,j2,hy,hn⟩,Pe⟩:=Pd.o.node HC.o HI.o M.o HZ.o fN HTT.o;rw[HFB.o]at hy hn Pe;have acF:=U Pe;clear Pe;cases fb;(case true=>have HY:=U (hy rfl);have qS:Z (x3.length=(List.replicate (fy L z) (0:Int)).length):=U (by rw[fe];exact zj.o);clear hy hn;go_upto_region 25 with fail;refine wp_region_still_tail 11 ap ap ?_;change wpStill _ _ (wr).drew _ _ _;simp only[f6,d8,iH,fl];(repeat still_step);refine gH ?_;go_wp2_with (go_at_call 157;refine(UL (p:=p) (U E.o.ms.at) (U Pd.o.mb) fN HY qS).mono ?_;rintro e9 u9 ⟨rfl,m5,v5,rp,ZZ,tj,q4⟩);go_roundw;have e9:=E.o.at (w':=wr.drew);have LW:=(wM.o.at (w':=wr.drew)).lt;have hG2:=(Gl.o.at (w':=wr.drew)).lt;have ZQ:¬m5.qaa g r F:=λhx=>(q4.o.kf.new F hx).elim lD.o.1 λh9=>absurd LW (l4.2 h9);have hnG:¬m5.qaa g r G:=λhx=>(q4.o.kf.new G hx).elim lD.o.2 λh9=>absurd hG2 (l4.2 h9);exact⟨q+1,m5,v5,zy,_,⟨XA2,xc2,wO,XB2,xd2,q3⟩,Y,by go_num,U (e9.step rp.o q4.o),U (acF.o v5 zy x3 rfl ZZ.o tj.o.1 tj.o.2.1 tj.o.2.2.1),U ((Ru.o.at (w':=wr.drew)).step q4.o.kf),U (q4.o.kf.ak (wM.o.at (w':=wr.drew)) lD.o.1),U (q4.o.kf.ak (Gl.o.at (w':=wr.drew)) lD.o.2),U ⟨ZQ,hnG⟩,U ⟨by rw[tj.o.2.2.2.1];exact Dy.o.1,by rw[tj.o.2.2.2.2];exact Dy.o.2⟩,q4.o.prev e9.ms⟩;exact zQ1);case false=>
   obtain⟨gg,qP,CL,tm,wo,OM⟩:=hn rfl;obtain⟨jz,ZO⟩:∃jz:Nat,z=(jz:Int):=⟨z.toNat,Y⟩;subst ZO;rw[a9]at CL;have HY:=U wo;have K5:Z (L[jz]?=some gg.1):=U (by
    have h9:jz<L:=by rw[HC.o.len];omega
    rw[CL,a5,bk h9];rfl)
   have afD:Z (aw gg.1 gg.2=true):=tm.1;have i6g:cm gg.2:=⟨tm.2⟩;have hze:z3=gg.1:=by rw[CL];exact V8.o
   have hjp:0<jz:=Y;have Dz:Z (gg.2=[]\/cP gg.1 gg.2 gg.1 x3=true):=(.inr (by
    unfold cP;have:=ql.o.1;rw[hze]at this;rw[tm.1,this];simp))
   have L6:iC (gg.1,gg.2) (gg.1,x3)=(gg.1,gg.2.zipWith bB x3):=by unfold iC;rw[ag tm.ne]
   have qg:=U L6;have qS:Z ((gg.1,gg.2.zipWith bB x3).2.length=gg.2):=U (by
    have:=zj.o
    show(gg.2.zipWith bB x3).length=_
    rw[aaJ,OM];have h9:x3=fy L (jz:Int):=zj.o;omega)
   have afE:Z (((j8 N O L l P x s.done.toNat ((k:Int)+1) ⟨o,ins,aX Q⟩ q).getD jz T0).2=gg.2):=U (by rw[a9]at qP;rw[qP]);subst hze;clear hy hn qP CL tm wo OM L6;go_upto_region 25 with fail;refine wp_region_still_tail 11 ap ap ?_;change wpStill _ _ (wr).drew _ _ _;simp only[f6,d8,iH,fl];(repeat still_step);refine gH ?_;go_wp2_with (go_at_call 157;refine(UM (p:=p) hB (U E.o.cs) (U E.o.ms.at) (U Pd.o.mb) hjp HY K5 afD Y Y Dz qg qS).mono ?_;rintro e9 u9 ⟨rfl,m5,v5,rp,ZZ,tj,q4⟩);go_roundw;have e9:=E.o.at (w':=wr.drew);have LW:=(wM.o.at (w':=wr.drew)).lt;have hG2:=(Gl.o.at (w':=wr.drew)).lt;have ZQ:¬m5.qaa g r F:=λhx=>(q4.o.kf.new F hx).elim lD.o.1 λh9=>absurd LW (l4.2 h9);have hnG:¬m5.qaa g r G:=λhx=>(q4.o.kf.new G hx).elim lD.o.2 λh9=>absurd hG2 (l4.2 h9);exact⟨q+1,m5,v5,zy,_,⟨XA2,xc2,wO,XB2,xd2,q3⟩,Y,by go_num,U (e9.step rp.o q4.o),U (acF.o v5 zy _ (by rw[a9,afE.o];rfl) ZZ.o tj.o.1 tj.o.2.1 tj.o.2.2.1),U ((Ru.o.at (w':=wr.drew)).step q4.o.kf),U (q4.o.kf.ak (wM.o.at (w':=wr.drew)) lD.o.1),U (q4.o.kf.ak (Gl.o.at (w':=wr.drew)) lD.o.2),U ⟨ZQ,hnG⟩,U ⟨by rw[tj.o.2.2.2.1];exact Dy.o.1,by rw[tj.o.2.2.2.2];exact Dy.o.2⟩,q4.o.prev e9.ms⟩;exact zQ1
 obtain rfl:q=i:=Y;have hP9:=Pd.o;rw[show q=(⟨o,ins,aX Q⟩:dV).ins.length from HNI.o]at hP9;obtain⟨⟨gg,CL,tm⟩,Z0⟩:=xT.done HC.o HI.o M.o hP9;have XT:=U Z0;have nF:=U tm;have D7:() 98 #[.pointer (some ⟨g,13,none⟩),.int .i64 ((k:Int)+1)] wr _:=Lc (p:=p) (s:=true) (U E.o.ms) (U Pd.o.mb) (U CL);clear Z0 CL tm hP9;go_wp2_with (go_at_call 98;refine D7.mono ?_;rintro e9 u9 ⟨rfl,m5,v5,tb5,rp,ZZ,tj,q4⟩);go_ret;obtain⟨f1,f2,f3,f4,f5⟩:=tj.o;have hd:=XT.o v5 tb5 ZZ.o (by rwa[<-nF.o]) f2 f3;rw[afy.o,show((k:Int)+1-1).toNat=k from Y,HF.o]at hd;exact⟨rfl,m5,_,IX,⟨XA2,xc2,wO,XB2,xd2,q3⟩,U (E.o.step rp.o q4.o),U hd,U ⟨by show v5.nx<=_;have:=Dy.o.1;omega,by show v5.mv<=_;have:=Dy.o.2;omega⟩,q4.o.prev E.o.ms⟩
end
end
