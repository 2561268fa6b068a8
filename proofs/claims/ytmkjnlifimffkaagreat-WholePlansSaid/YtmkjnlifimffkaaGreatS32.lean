/- Lemmas. -/
import Derived.Test.YtmkjnlifimffkaaGreatS25
namespace Go.Proofs.YtmkjnlifimffkaaGreat
open Go.RowKit Tryz
set_option linter.all false
set_option maxRecDepth 100000
set_option maxHeartbeats 0
variable{Γ:Prop}
attribute[local irreducible]Calls
variable{p u w w':World}{A B C:Option Addr}{c d e k l m n:Nat}{N:bm}{La O:List Int}{L:List (List Int)}{E:Int}
def p3(keep:au)(L:List Bool):List Bool:=keep.foldl (λL z=>L.set z.toNat true) L
def N1(l:Nat)(s:kC):kC:=(s.1.set l false,s.2++[(4,0)]++[(3,(l:Int))]++[(5,0)])
def VU(N:bm)(O b:au)(l m:Nat)(kp:List Bool):kC:=
 w5 N m kp (i4 N O m (List.replicate (m+1) 0)) O m (N1 l (qc m kp l b O 0 ((List.replicate (m+1) false).set 0 true,[])))
def Ju(N:bm)(keep:au):kC:=VU N (eL N) (q3 N) (fj N).toNat N.nodes.length (p3 keep (List.replicate (N.nodes.length+1) false))
def nO(N:bm)(keep:au):Int:=
 if bo N=0 then(if keep.all (λz=>decide (1<=z)&&decide (z<=N.nodes.length))then(if 65536<(Ju N keep).2.length then 12 else 0)else 11)else bo N
def nP(N:bm)(keep:au):List (Int×Int):=if nO N keep=0 then(Ju N keep).2 else[]
def tq(w:aa)(E:Int)(V:List (Int×Int))(e:Ending)(w':aa):Prop:=
 ∃A c,e=.returned (.tuple #[.slice A V c,E])/\ce w' w.1.size A c V/\aj w' w
section
variable{keep:List Int}
def BE{kp:List Bool}{l:Nat}{La:au}:∀(O:au) (i:Nat) (s:kC),s.1.getD 0 false=true->(qc m kp l La O i s).1.getD 0 false=true
 |[],_,_,h=>h
 |id::r,i,s,h=>by rw[qc];refine BE r (i+1) _ ?_;rw[wa];exact q9 h
def D5{kp:List Bool}{l:Nat}{La:au}:∀(O:au) (i:Nat) (s:kC),(qc m kp l La O i s).2.length<=s.2+O.length*(m+1)
 |[],_,_=>by simp[qc]
 |id::r,i,s=>by rw[qc];have j:=D5 (kp:=kp) (l:=l) (La:=La) r (i+1) (swp (w2 kp l La i) (s.1.set id.toNat true,s.2++[(1,id)]) m);have b:=(uP (w2 kp l La i) (s.1.set id.toNat true,s.2++[(1,id)]) m).1;simp only[bh,Ei]at b;rw[dj,hx];omega
def Jv(keep:au)(z:Int)(L:List Bool):p3 (keep++[z]) L=(p3 keep L).set z.toNat true:=by simp[p3]
def Mj{l:Nat}{s:kC}(h:s.1.getD 0 false=true)(b:1<=l):(N1 l s).1.getD 0 false=true:=by
 unfold N1;rw[aQ]at h⊢;rw[kH om];exact h
def xg0(h:Γ:=by go_ret2;exact⟨none,0,rfl,ce.nil _ _,aF⟩):=h
def Rc[a:aW w A n B m N](hf:Hx N.fits)(hs:Hx N.small)[sk:Sl w C k keep](hk:k<=1000000)(hE:Hx (nO N keep=E)){V:List (Int×Int)}(hV:Hx (nP N keep=V)):
  () 32 #[.agg #[(A,n,c),(B,m,d)],(C,k,e)] w (tq w E V):=by
 obtain⟨CB,CP,FB⟩:=ia;have HM:Hx (m=N.nodes):=a.len;by_cases Q:bo N=0;rotate_left
 .have r:=hE.o;have D:=hV.o;rw[nO,ag Q]at r;rw[nP,nO,ag Q,ag Q]at D;subst D;have UA:=ae r;(have js:E≠0:=by rw[<-r];exact Q);(have b0:(E !=0)=true:=by simp[js]);clear r Q;go_in;go_wp2_with (go_at_call 79;refine ey (λu0 _ _=>?_);refine(Gx hf hs UA js).mono ?_;rintro e u ⟨rfl,_⟩);exact xg0
 obtain⟨O,L,l,qA,b,NQ,-⟩:=look_ok Q;have hm:m<=512:=by rw[HM.o];exact NQ
 have R:1<=m:=by have:=b.oo;have:=b.lE;rw[<-HM.o]at this;omega
 have HU:=b.oo;have ui:l<=m:=by rw[HM.o];exact b.lE
 have HN:=ae b;have lb:=ae qA;have UA:=ae Q;obtain⟨La,hLa⟩:=lh (q3 N);have HLV:=ae hLa;have hLT:Ju N keep=VU N O La l m (p3 keep (List.replicate (m+1) false)):=by rw[Ju,b.ord,hLa,b.fj,aZ,<-HM.o]
 have HLT:=ae hLT;have r:=hE.o;have D:=hV.o;rw[nO,ah Q]at r;rw[nP,hE.o]at D;have OB:=ae r;have Ko:=ae D;have xE:Hx (∀id∈O,1<=id/\id<=m):=ae λid hid=>by have:=bn.1 (b.kh.ids id hid);rw[<-HM.o]at this;exact this
 clear r D hLT hLa b qA Q NQ;go_in;go_upto_region 5 with(go_at_call 79;refine ey (λu0 _ kn=>?_);refine(QB hf hs UA HN lb HLV hm).mono ?_;rintro e u ⟨p,aa,G,rfl,pp,nip,sO,sL,HL⟩);have Sr:Hx (keep=k):=sk.len.symm;obtain⟨FV,hFV⟩:=lh (i4 N O m (List.replicate (m+1) 0));rw[hFV]at HL;have HFV:=ae hFV;have hBx:Bx p w.1.size 33 #[(A,n,c),(B,m,d)]:=aq;clear hFV;go_loopw [20] (λi wr=>∃(j:Nat),j<=k/\i=.int .i64 j/\Hx (gT p wr aa G m l ⟨FV,p3 (keep.take j) (List.replicate (m+1) false),(List.replicate (m+1) false).set 0 true,[]⟩)/\Hx (∀z∈keep.take j,1<=z/\z<=m)) (λi _=>k-(intOf i).toNat);exact⟨0,aM _,rfl,HL,ae aD⟩;clear HL;obtain⟨j,hj,rfl,HL,HZ⟩:=hrel;obtain⟨A9,c9,hS9⟩:=HL.o;obtain⟨p9,kb,kF,kK,kP⟩:=hS9.facts;have CN:=ae hS9;clear hS9;by_cases bE:j<k
 .obtain⟨b4,q4,z,rfl,ob4,vz,ez⟩:=sk.get bE;(have F:¬(1<=z/\z<=m)->11=E/\[]=V:=λhz=>by (have e:(keep.all λz=>decide (1<=z)&&decide (z<=N.nodes.length))=false:=by rw[rz];refine⟨z,aC ez.o,?_⟩;rw[<-HM.o];simp;omega);have h1:=OB.o;rw[ag (by rw[e];decide)]at h1;have h2:=Ko.o;rw[<-h1,ag am]at h2;exact⟨h1,h2⟩);by_cases z1:z<1
  .obtain⟨rfl,rfl⟩:=F om;(have t1:decide (z<1)=true:=by simpa using z1);go_wp2_with fail;exact xg0
  have t1:decide (z<1)=false:=by simp;omega
  by_cases z2:(m:Int)<z
  .obtain⟨rfl,rfl⟩:=F om;(have t2:decide ((m:Int)<z)=true:=by simpa using z2);go_wp2_with fail;exact xg0
  have t2:decide ((m:Int)<z)=false:=by simp;omega
  obtain⟨y,rfl⟩:=bJ (show 0<=z by omega);(have hyi:(y:Int)<(m:Int)+1:=by omega);obtain⟨yb,e5,-⟩:=h3 (i:=y) CN.o.lk om;have hg5:=cj e5;have m5:Hx (p3 (keep.take (j+1)) (List.replicate (m+1) false)=(p3 (keep.take j) (List.replicate (m+1) false)).set y true):=ae (by rw[take_at ez.o,Jv,aZ]);(have HZ2:Hx (∀z∈keep.take (j+1),1<=z/\z<=m):=λx hx=>by rw[take_at ez.o]at hx;rcases bM.1 hx with hx|hx;exact HZ.o x hx;rw[cZ.1 hx];omega);clear e5 F;go_wp2_with fail;go_roundw;exact⟨j+1,om,by go_num,ae ⟨A9,c9,by rw[m5.o];exact CN.o.aco y true⟩,HZ2⟩;simp[intOf];omega
 obtain rfl:j=k:=om;have oN:(keep.all λz=>decide (1<=z)&&decide (z<=N.nodes.length))=true:=by rw[dz];intro z hz;have:=HZ.o z (by rw[bY (by rw[Sr.o];exact al _)];exact hz);rw[<-HM.o];simp;omega
 obtain⟨kp,hkp⟩:=lh (p3 keep (List.replicate (m+1) false));have hL:=HL.o;rw[bY (by rw[Sr.o];exact al _),hkp]at hL;obtain⟨Yr,-⟩:Hx _/\True:=⟨ae hL,bX⟩;obtain⟨⟨S,I⟩,J⟩:=lh (qc m kp l La O 0 ((List.replicate (m+1) false).set 0 true,[]));obtain⟨⟨rc,T⟩,I9⟩:=lh (w5 N m kp FV O m (S.set l false,I++[(4,0)]++[(3,(l:Int))]++[(5,0)]));have K:Ju N keep=(rc,T):=by rw[HLT.o,VU,hkp,HFV.o,J,N1,I9]
 have U:=OB.o;have X:=Ko.o;rw[ah oN,K]at U;rw[K]at X;dsimp only at U X;have hH:S.getD 0 false=true:=by have:=BE (m:=m) (kp:=kp) (l:=l) (La:=La) O 0 ((List.replicate (m+1) false).set 0 true,[]) (by simp[aQ]);rwa[J]at this
 have xD:I.length<=300000:=by have:=D5 (m:=m) (kp:=kp) (l:=l) (La:=La) O 0 ((List.replicate (m+1) false).set 0 true,[]);rw[J,HN.o.sB,<-HM.o]at this;have h5:m*(m+1)<=512*513:=yr hm om;simp at this;omega
 have HZ1:Hx ((S.set l false).getD 0 false=true):=ae (by
  have:=Mj (l:=l) (s:=(S,I)) hH HU;exact this)
 have Mk:=ae J;have QJ:=ae I9;have xh:=ae U;have OE:=ae X;obtain⟨mb,Y⟩:=kS (decide (65536<(T.length:Int)));clear J I9 U X K oN hkp hL hH kb kF kK kP CN;cases mb;case false=>(have h9:¬(65536<T.length):=by have:=Y.o;simp at this;omega);have e9:=xh.o;have v9:=OE.o;rw[ag h9]at e9;rw[<-e9,ah rfl]at v9;subst e9 v9;go_wp2_with (first|(go_at_call 81;refine(pV Sk cr 5 0).mono ?_;rintro e u4 ⟨rfl,OG,OH⟩)|(go_at_call 81;refine(pV UH (show I.length<=1000000 by omega) 4 0).mono ?_;rintro e u2 ⟨rfl,M,m5⟩;obtain⟨A2,c2,Gr⟩:=M.o;obtain⟨p2,zh,-⟩:=Gr.facts)|(go_at_call 82;refine(AZ M cr ui).mono ?_;rintro e u3 ⟨rfl,Sk,sN⟩)|(go_at_call 80;refine(w4 Yr R hm aD xE Mk).mono ?_;rintro e u1 ⟨rfl,UH,vm⟩)|(go_at_call 83;refine(uU HN hs OG R hm HZ1 QJ).mono ?_;rintro e u5 ⟨rfl,P,uh⟩;obtain⟨A5,c5,Z⟩:=P.o;obtain⟨p5,kb5,-⟩:=Z.facts)|(go_at_call 84;refine mv (oZ P Y) λu6 _=>?_));go_ret2;exact⟨A5,c5,rfl,(show aU _ _ 98 2 _ _ _ _ from Z.cd).at.less (ai (w:=w) (w':=p)),aF⟩
 case true=>(have h9:65536<T.length:=by have:=Y.o;rw[bZ]at this;omega);have e9:=xh.o;have v9:=OE.o;rw[ah h9]at e9;rw[<-e9,ag am]at v9;subst e9 v9;go_wp2_with (first|(go_at_call 81;refine(pV Sk cr 5 0).mono ?_;rintro e u4 ⟨rfl,OG,OH⟩)|(go_at_call 81;refine(pV UH (show I.length<=1000000 by omega) 4 0).mono ?_;rintro e u2 ⟨rfl,M,m5⟩;obtain⟨A2,c2,Gr⟩:=M.o;obtain⟨p2,zh,-⟩:=Gr.facts)|(go_at_call 82;refine(AZ M cr ui).mono ?_;rintro e u3 ⟨rfl,Sk,sN⟩)|(go_at_call 80;refine(w4 Yr R hm aD xE Mk).mono ?_;rintro e u1 ⟨rfl,UH,vm⟩)|(go_at_call 83;refine(uU HN hs OG R hm HZ1 QJ).mono ?_;rintro e u5 ⟨rfl,P,uh⟩;obtain⟨A5,c5,Z⟩:=P.o;obtain⟨p5,kb5,-⟩:=Z.facts)|(go_at_call 84;refine mv (oZ P Y) λu6 _=>?_));exact xg0
end
variable{r:Nat}
def BF(O:au)(st:Nat):Nat->Nat->List Int
 |0,_=>[]
 |f+1,p=>if p<=O then O.getD (p-1) 0::BF O st f (p+st)else[]
def p4(O:au)(st:Nat):List Int:=BF O st O.length st
variable{st:Nat}
def Jw(O:au)(st:Nat):∀f p,(BF O st f p).length<=f
 |0,_=>by simp[BF]
 |f+1,p=>by unfold BF;split;have:=Jw O st f (p+st);simp;omega;simp
def Re{O:au}{st p:Nat}(h:O<p):∀f,BF O st f p=[]
 |0=>rfl
 |f+1=>by rw[BF,ag om]
def Rf[aW w A n B m N](U:Hx N.fits)(hs:Hx N.small)(z:Hx (bo N=0))(D:Hx (dB N=(O,L,(l:Int))))(b:Hx (O=m))(hm:m<=12)(E:1<=m)(V:1<=st)(h2:st<=12):
  () 141 #[.agg #[(A,n,c),(B,m,d)],st] w (uF w 0 (n4 (p4 O st))):=by
 obtain⟨CB,CP⟩:=kU;have t1:decide ((st:Int)<1)=false:=by simp;omega
 have t2:decide ((512:Int)<st)=false:=by simp;omega
 go_in;go_wp2_with (first|(go_at_call 60;refine(kA U hs z D b).mono ?_;rintro e u ⟨AO,cO,rfl,Y,oO,pO⟩)|(refine aE (λu0 _ kn=>?_)));obtain⟨Z,q0,z0,F,-⟩:=Y.get E;subst F;have HI:Hx (∀p f,O.length<p->BF O st f p=[]):=λp f h=>Re h f;go_loopw [8,9] (λx i wr=>∃(p f:Nat) (X:au) (j:bF) (r:Nat),1<=p/\p<=24/\m+1<=p+f/\f<=12/\x=.slice j X r/\i=.int .i64 p/\X.length+f<=m/\aB wr u.1.size 3 j r X/\Hx (X++BF O st f p=p4 O st)/\aj wr u) (λ_ i _=>100-(intOf i).toNat);exact⟨st,m,[],none,0,V,om,om,hm,rfl,rfl,aD,aB.nil _ _ _,ae (by rw[<-b.o];rfl),aF⟩;obtain⟨p,f,X,j,r,zR,sZ,hpf,R,rfl,rfl,hX,hO,G,CL⟩:=hrel;by_cases bE:p<=m
 .have t3:decide ((p:Int)<=(m:Int))=true:=by simp;omega
  obtain⟨q,rfl⟩:∃q,p=q+1:=⟨p-1,om⟩;have b3:(q:Int)<(m:Int):=by omega
  obtain⟨f,rfl⟩:∃g,f=g+1:=⟨f-1,om⟩;obtain⟨b1,q1,x,I,pq,vx,ex⟩:=(show Sl u (some ⟨Z,q0,none⟩) m O from aq).get (show q<m by omega);cases I;have y:=ex.o;have J:Hx ((X++[x])++BF O st f (q+1+st)=p4 O st):=ae (by
   rw[<-G.o,BF,ah (by rw[b.o];omega),aQ,show q+1-1=q by omega,y];simp)
  clear y G;go_wp2_with (at_builtin;refine iJ rfl _ _ _ rfl 3 underlying24 ao u.1.size j r X rfl hO.at x rfl om ai ?_;intro A3 c3 w3 K M _ _);go_roundw;exact⟨q+1+st,f,X++[x],A3,c3,om,om,om,om,aD,by go_num,by simp;omega,K,J,⟨(aP u _).trans M⟩⟩;simp[intOf];omega
 have t3:decide ((p:Int)<=(m:Int))=false:=by simp;omega
 have y:X=p4 O st:=by have:=G.o;rwa[HI.o p f (by rw[b.o];omega),en]at this
 have S:=ae y;have HO:=ae hO;clear hO y;go_wp2_with (go_at_call 193;refine(RM HO ai om rfl).mono ?_;rintro e T ⟨rfl,P,Q⟩;obtain⟨p3,-⟩:aj T u/\True:=⟨⟨(aP u _).trans Q⟩,bX⟩);go_ret2;exact⟨j,r,by rw[y8,<-S.o];rfl,by rw[<-S.o];exact P.more (ai (w:=w) (w':=u)),aR w T⟩
def mY(N:bm):List Int:=n4 (p4 (eL N) (t7 N.nodes.length))
def Ml(b:1<=n)(j:n<=12)(hq:Hx (t7 n=r)):() 142 #[n] w (aJ w r):=by
 rw[<-hq.o];exact Oq b j
def Zd:∀n,n<=12->1<=n->1<=t7 n/\t7 n<=12:=am
def Mm(h:O.length<=12):(n4 (p4 O st)).length<=12:=by
 rw[y8];exact aL (Jw _ _ _ _) h
def VV[a:aW w A n B m N](M:Hx N.fits)(hs:Hx N.small)(u:Hx (bo N=0))(hm:m<=12):
  () 93 #[.agg #[(A,n,c),(B,m,d)]] w (uF w 0 (mY N)):=by
 have S:=@ay;have z:Hx (m=N.nodes):=a.len;obtain⟨O,L,l,y,b,F,-⟩:=look_ok u;have j:1<=m:=by have:=b.oo;have:=b.lE;rw[<-z.o]at this;omega
 obtain⟨i1,i2⟩:=Zd m hm j;have D:Hx (O=m):=ae (by rw[b.sB,z.o]);have G:Hx (n4 (p4 O (t7 m))=mY N):=ae (by rw[mY,b.ord,z.o]);have E:=ae y;obtain⟨r,hr⟩:=lh (t7 m);have P:=ae hr;rw[hr]at i1 i2 G;clear y b hr;go_in;go_upto_region 1 with fail;refine aE (λQ _ T=>?_);refine ab Q ao (λI _=>?_);refine qL [0,1,2,3] ?_;refine aK 4 λK hK=>?_;go_simp;refine(Ml j hm P).mono ?_;rintro e I ⟨rfl,_⟩;dsimp only;refine aG hK<|aK 5 λK hK=>?_;go_simp;refine(Rf (st:=r) M hs u E D hm j i1 i2).mono ?_;rintro e I ⟨R,c1,rfl,J,_⟩;dsimp only;refine aG hK ?_;refine qL [6,7,8,9] ?_;refine a9 ?_;rw[G.o]at J⊢;go_wp2_with fail;go_ret2;exact⟨R,c1,rfl,J.more (ai (w:=w)),aF⟩
variable{g j:Nat}{P1 P2 P3 P4 cap:Int}
section
variable{K:Option Addr}{keep:List Int}
def Rg:(nP N keep).length<=65536:=by
 unfold nP;split
 .rename_i h;unfold nO at h;by_cases b:bo N=0
  .rw[ah b]at h;split at h
   .split at h;exact absurd h am;omega
   exact absurd h am
  rw[ag b]at h;exact absurd h b
 simp
def tu[aW w A n B m N](l:Hx N.fits)(hs:Hx N.small)[Sl w K k keep](r:k<=1000000)(hE:Hx (nO N keep=E)){V:List (Int×Int)}(hV:Hx (nP N keep=V)){x:Nat}(y:Hx (V=x)):
  () 32 #[.agg #[.slice A n c,(B,m,d)],(K,k,g)] w λe w'=>∃A c,e=.returned (.tuple #[.slice A x c,E])/\Is w' A x V/\ce w' w.1.size A c V/\aj w' w:=by
 obtain rfl:=y.o;exact(Rc l hs r hE hV).mono λe w' ⟨A,c,z,b,C⟩=>⟨A,c,z,⟨b.rd,rfl⟩,b,C⟩
def VW[aW w A n B m N](b:Hx N.fits)(hs:Hx N.small){ps:List (Int×Int)}[Is w K k ps](e:k<=65536)(l:cap<=144115188075855872)(r:Hx (mV N cap ps=E))(y:Hx (rf N cap ps=(P1,P2,P3,P4))):
  () 14 #[.agg #[(A,n,c),(B,m,d)],(K,k,g),cap] w (aJ w (.tuple #[.agg #[P1,P2,P3,P4],E])):=GA b hs e l r y
end
end Go.Proofs.YtmkjnlifimffkaaGreat
