/- Lemmas. -/
import Derived.Test.YtmkjnlifimffkaaGreatS22
namespace Go.Proofs.YtmkjnlifimffkaaGreat
open Go.RowKit Tryz
set_option linter.all false
set_option maxRecDepth 100000
set_option maxHeartbeats 0
variable{Γ:Prop}
attribute[local irreducible]Calls
variable{p w w':World}{i m wb:Nat}{s:jv}{ss:List Sp}{id kd:Int}
variable{a:oX}{C:ju}
def IT(h:fC kd id=true):kd=1\/kd=2\/kd=3\/kd=4\/kd=5\/kd=6:=by
 unfold fC at h;split at h;omega;split at h;omega;cases h
def IU(h:fC kd id=true):∃q:Nat,id=(q:Int):=by
 unfold fC at h;split at h;exact⟨0,by simpa using h⟩;split at h;simp only[bK,bZ]at h;exact⟨id.toNat,om⟩;cases h
def xX0(h:Γ:=by go_upto_region 13 with fail;refine wp_region_still_tail 7 ao ao ?_;change wpStill _ _ (P).drew _ _ _;simp only[fX,dW,iB,fo];(repeat still_step);refine gG ?_;go_upto_region 14 with fail;have l:=ae (fP.at (w':=((P).setCell (p.1.size+1,q) (.bool true)).drew) (b.o.spr q true));obtain⟨v3,r⟩:=lg (((P).setCell (p.1.size+1,q) (.bool true)).drew);rw[<-r]at l⊢;clear r b;obtain⟨b,-⟩:_/\True:=⟨l,bX⟩;clear l;obtain⟨E,G,I,J,M,N⟩:=b.o.facts;refine wp_region_still_tail 7 ao ao ?_;change wpStill _ _ (v3).drew _ _ _;simp only[fX,dW,iB,fo];(repeat still_step);refine gG ?_;go_upto_region 15 with fail;have l:=ae (fP.at (w':=((v3).setCell (p.1.size+1+1,q) (.bool true)).drew) (b.o.ssv q true));obtain⟨v4,B⟩:=lg (((v3).setCell (p.1.size+1+1,q) (.bool true)).drew);rw[<-B]at l⊢;clear B b;obtain⟨b,-⟩:_/\True:=⟨l,bX⟩;clear l;obtain⟨E,G,I,J,M,N⟩:=b.o.facts;go_wp2_with fail;go_ret;exact⟨rfl,by rw[S.o];exact b.o.at.ck⟩):=h
def xX1(h:Γ:=by obtain⟨b,-⟩:_/\True:=⟨l,bX⟩;clear l;obtain⟨E,G,I,J,M,N⟩:=b.o.facts;go_wp2_with fail;go_ret;exact⟨rfl,by rw[S.o];exact b.o.at.ck⟩):=h
def AY(hP:lF p a m C ss)(h:ec p w a m C s)(hr:fC kd id=true)(hid:id<=m)(hb:Hx (dY C s kd id.toNat=true))(oK:0<=s.done)(Co:s.done<=1000000)(hn0: -144115188075855872<=s.now)(qk:s.now<=144115188075855872)(Q:s.now+ev C s kd id.toNat<=C.cap)(hc:C.cap<=144115188075855872):
  () 35 #[.pointer p.1.size,.agg #[kd,id]] w λe w'=>e=.returned an/\ec p w' a m C (g4 C s kd id):=by
 obtain⟨CB,CP,FB⟩:=ia;obtain⟨V,hV⟩:=lh (ev C s kd id.toNat);have hVb:=AX (s:=s) hP kd id.toNat;have HV:=ae hV;rw[hV]at hVb Q;have hlp:=h.lp;have hls:=h.ls;have R:=h.lg;have X:=h.gr.lt;obtain⟨pr,sv,gr,em,sd,D,U,pk⟩:=s;obtain⟨AW,cW,AC,cC,AI,cI,AO,cO⟩:=a;dsimp only at oK Co hn0 qk Q hlp hls R;obtain⟨T,hT⟩:=lh (U+V);obtain⟨q,rfl⟩:=IU hr;have tx:decide ((m:Int)+1<=(q:Int))=false:=by simp;omega
 have w1:IntKind.i64.wrap (U+V)=T:=by rw[a7];omega
 have hct:decide (C.cap<T)=false:=by simp;omega
 have O:=ae hT;have hT0: -144115188075855872<=T:=om;have S0:T<=144115188075855872:=om;have hq:q<=m:=om;have Oi:(q:Int)<(m:Int)+1:=by omega
 obtain⟨pb,e1,-⟩:=h3 hlp (show q<m+1 by omega);obtain⟨vb,e2,-⟩:=h3 hls (show q<m+1 by omega);obtain⟨gb,e3,-⟩:=h3 R (show q<m+1 by omega);have CJ:=cj e1;have vE:=cj e2;have uO:=cj e3;clear hV hT e1 e2 e3 Q;go_in;go_upto_region 1 with fail;refine aE (λu _ kb0=>?_);have b:Hx (fP p w.1.size u _ m C ⟨pr,sv,gr,em,sd,D,U,pk⟩ kd (q:Int)):=ae ⟨h.at (w':=u),kb0.ak,X⟩;clear kb0 X;obtain⟨E,G,I,J,M,N⟩:=b.o.facts;refine aw ao (λu1 _=>?_);refine ff 0 ?_;refine aK 1 λK hK=>?_;go_simp;refine(kB).mono ?_;rintro e u1 ⟨rfl,_⟩;dsimp only;refine aG hK ?_;refine qL [2,3,4,5,6,7,8,9,10,11,12] ?_;refine a9 ?_;go_upto_region 5 with(go_at_call 87;refine mv (vX hP (b.o.at (w':=u1)).ck hr hid oK hb) λu2 _=>?_);refine aw ao (λu3 _=>?_);refine qL [0,1,2,3,4,5] ?_;refine aK 6 λK hK=>?_;go_simp;refine(IS hP (b.o.at (w':=u3)).ck hr hid HV).mono ?_;rintro e u3 ⟨rfl,_⟩;dsimp only;refine aG hK ?_;refine qL [7,8] ?_;refine a9 ?_;go_upto_region 9 with fail;have l:=ae ((b.o.at (w':=u3)).UD T);obtain⟨v1,K4⟩:=lg ((u3).setCell (p.1.size,12) T);rw[<-K4]at l⊢;clear K4 b;obtain⟨b,-⟩:_/\True:=⟨l,bX⟩;clear l;obtain⟨E,G,I,J,M,N⟩:=b.o.facts;clear tx w1 hct;go_upto_region 11 with fail;have l:=ae (b.o.spk (max pk T));obtain⟨P,Y⟩:=lg ((v1).setCell (p.1.size,13) (max pk T:Int));rw[<-Y]at l⊢;clear Y b;obtain⟨b,-⟩:_/\True:=⟨l,bX⟩;clear l;obtain⟨E,G,I,J,M,N⟩:=b.o.facts;have hl0:=hP.g2;have HU:(C.g2:Int)<(m:Int)+1:=by omega
 obtain⟨lb,e4,-⟩:=h3 R (show C.g2<m+1 by omega);have YH:=cj e4;have sW:Sl p AW (m+1) C.words:=hP.words;obtain⟨bw,ow,zw,rfl,obw,vw,ew⟩:=sW.get (k:=q) om;have hzw:=h4 ew.o;have E7:=DJ om hP.wb q;rw[hzw]at E7;have HZW:=ae hzw;obtain⟨Z,IF⟩:=lh (T-zw);have w2:IntKind.i64.wrap (T-zw)=Z:=by rw[a7];omega
 have l2:=ae IF;clear e4 hzw IF;rcases IT hr with rfl|rfl|rfl|rfl|rfl|rfl
 have S:Hx (g4 C ⟨pr,sv,gr,em,sd,D,U,pk⟩ 1 (q:Int)=⟨pr.set q true,sv.set q true,gr,em,sd,D,T,max pk T⟩):=ae (by
  unfold g4;dsimp only;rw[HV.o,O.o,Int.toNat_natCast,if_pos (.inl rfl)])
 exact xX0
 have S:Hx (g4 C ⟨pr,sv,gr,em,sd,D,U,pk⟩ 2 (q:Int)=⟨pr.set q true,sv.set q true,gr,em,sd,D,T,max pk T⟩):=ae (by
  unfold g4;dsimp only;rw[HV.o,O.o,Int.toNat_natCast,if_pos (.inr rfl)])
 exact xX0
 .have S:Hx (g4 C ⟨pr,sv,gr,em,sd,D,U,pk⟩ 3 (q:Int)=⟨pr.set q false,sv,gr,em,sd,D,Z,max pk T⟩):=ae (by
   unfold g4;dsimp only;rw[HV.o,O.o,Int.toNat_natCast,if_neg am,if_pos rfl,HZW.o,l2.o])
  go_upto_region 16 with fail;refine wp_region_still_tail 7 ao ao ?_;change wpStill _ _ (P).drew _ _ _;simp only[fX,dW,iB,fo];(repeat still_step);refine gG ?_;go_upto_region 17 with fail;have l:=ae (fP.at (w':=((P).setCell (p.1.size+1,q) (.bool false)).drew) (b.o.spr q false));obtain⟨v3,r⟩:=lg (((P).setCell (p.1.size+1,q) (.bool false)).drew);rw[<-r]at l⊢;clear r b;obtain⟨b,-⟩:_/\True:=⟨l,bX⟩;clear l;obtain⟨E,G,I,J,M,N⟩:=b.o.facts;refine wp_region_still_tail 15 ao ao ?_;change wpStill _ _ (v3).drew _ _ _;simp only[fX,dW,iB,fo];(repeat still_step);refine gG ?_;go_upto_region 18 with fail;have l:=ae (fP.at (w':=((v3).setCell (p.1.size,12) Z).drew) (b.o.UD Z));obtain⟨v4,B⟩:=lg (((v3).setCell (p.1.size,12) Z).drew);rw[<-B]at l⊢;clear B b;exact xX1
 .have S:Hx (g4 C ⟨pr,sv,gr,em,sd,D,U,pk⟩ 4 (q:Int)=⟨pr,sv,gr,true,sd,D,T,max pk T⟩):=ae (by
   unfold g4;dsimp only;rw[HV.o,O.o,if_neg am,if_neg am,if_pos rfl])
  go_upto_region 20 with fail;have l:=ae (b.o.sem true);obtain⟨v3,r⟩:=lg ((P).setCell (p.1.size,9) (.bool true));rw[<-r]at l⊢;clear r b;exact xX1
 .have S:Hx (g4 C ⟨pr,sv,gr,em,sd,D,U,pk⟩ 5 (q:Int)=⟨pr,sv,gr.set C.g2 true,em,true,D,T,max pk T⟩):=ae (by
   unfold g4;dsimp only;rw[HV.o,O.o,if_neg am,if_neg am,if_neg am,if_pos rfl])
  go_upto_region 22 with fail;have l:=ae (b.o.ssd true);obtain⟨v3,r⟩:=lg ((P).setCell (p.1.size,10) (.bool true));rw[<-r]at l⊢;clear r b;obtain⟨b,-⟩:_/\True:=⟨l,bX⟩;clear l;obtain⟨E,G,I,J,M,N⟩:=b.o.facts;refine wp_region_still_tail 9 ao ao ?_;change wpStill _ _ (v3).drew _ _ _;simp only[fX,dW,iB,fo];(repeat still_step);refine gG ?_;go_upto_region 23 with fail;have l:=ae (fP.at (w':=((v3).setCell (p.1.size+1+1+1,C.g2) (.bool true)).drew) (b.o.sgr C.g2 true));obtain⟨v4,B⟩:=lg (((v3).setCell (p.1.size+1+1+1,C.g2) (.bool true)).drew);rw[<-B]at l⊢;clear B b;exact xX1
 obtain⟨F,hF⟩:=lh (ix C ⟨pr,sv,gr,em,sd,D,U,pk⟩ q);have HF:Hx (ix C ⟨pr,sv,gr,em,sd,D,T,max pk T⟩ q=F):=hF;have S:Hx (g4 C ⟨pr,sv,gr,em,sd,D,U,pk⟩ 6 (q:Int)=⟨pr,sv,(pS gr F).set q false,em,sd,D+1,Z,max pk T⟩):=ae (by
  unfold g4;dsimp only;rw[HV.o,O.o,Int.toNat_natCast,if_neg am,if_neg am,if_neg am,if_neg am,HZW.o,l2.o,hF])
 have HFI:Hx (∀z∈F,0<=z/\z<=m):=λz hz=>by rw[<-hF]at hz;exact Qu hP hz
 have hFl:F.length<=1000:=by rw[<-hF];exact AV hP q
 have w3:IntKind.i64.wrap (D+1)=D+1:=by rw[a7];omega
 clear hF uO YH;have Y:p.1.size+3<P:=b.o.ck.gr.lt;go_wp2_with (go_at_call 89;refine(DI hP b.o.ck hq HF).mono ?_;rintro e u ⟨AF,cF,rfl,oF,_⟩);have b:=ae (b.o.at (w':=u));have sF0:Sl u AF F F:=⟨oF.rd,rfl⟩;have fF:=oF.fre;go_loopw [121] (λi wr=>∃j:Nat,j<=F/\i=.int .i64 j/\Hx (fP p w.1.size wr ⟨some ⟨bw,ow,none⟩,cW,AC,cC,AI,cI,AO,cO⟩ m C ⟨pr,sv,pS gr (F.take j),em,sd,D,T,max pk T⟩ 6 (q:Int))/\Sl wr AF F F) (λi _=>F.length-(intOf i).toNat);exact⟨0,aM _,rfl,b,sF0⟩;clear b sF0 G I J M N E;obtain⟨j,hj,rfl,b,sF⟩:=hrel;obtain⟨E,G,I,J,M,N⟩:=b.o.facts;by_cases X:j<F
 .obtain⟨b2,q2,z,rfl,jU,vz,ez⟩:=sF.get X;have XR:=HFI.o z (aC ez.o);obtain⟨y,rfl⟩:=bJ XR.1;have hy:y<m+1:=om;(have hyi:(y:Int)<(m:Int)+1:=by omega);obtain⟨yb,e5,-⟩:=h3 (L:=pS gr (F.take j)) (i:=y) (n:=m+1) (by rw[q4];exact R) hy;have hg5:=cj e5;have HG:Hx (pS gr (F.take (j+1))=(pS gr (F.take j)).set y true):=ae (by rw[take_at ez.o,Qv,aZ]);clear e5 XR;go_wp2_with fail;go_roundw;exact⟨j+1,om,by go_num,ae (by rw[HG.o];exact b.o.sgr y true),sF.setCell (p:=⟨p.1.size+1+1+1,y,none⟩) fF Y _⟩;simp[intOf];omega
 obtain rfl:j=F:=om;have UE:=b.o;rw[bY (al _)]at UE;obtain⟨b,-⟩:Hx _/\True:=⟨ae UE,bX⟩;clear UE G I J M N E;obtain⟨E,G,I,J,M,N⟩:=b.o.facts;obtain⟨qb,e5,-⟩:=h3 (L:=pS gr F) (i:=q) (n:=m+1) (by rw[q4];exact R) om;have hg5:=cj e5;clear e5;go_upto_region 29 with fail;refine wp_region_still_tail 7 ao ao ?_;change wpStill _ _ (wr).drew _ _ _;simp only[fX,dW,iB,fo];repeat still_step
 refine gG ?_;go_upto_region 30 with fail;have l:=ae (fP.at (w':=((wr).setCell (p.1.size+1+1+1,q) (.bool false)).drew) (b.o.sgr q false));obtain⟨v3,r⟩:=lg (((wr).setCell (p.1.size+1+1+1,q) (.bool false)).drew);rw[<-r]at l⊢;clear r b;obtain⟨b,-⟩:_/\True:=⟨l,bX⟩;clear l;obtain⟨E,G,I,J,M,N⟩:=b.o.facts;refine wp_region_still_tail 15 ao ao ?_;change wpStill _ _ (v3).drew _ _ _;simp only[fX,dW,iB,fo];repeat still_step
 refine gG ?_;go_upto_region 31 with fail;have l:=ae (fP.at (w':=((v3).setCell (p.1.size,12) Z).drew) (b.o.UD Z));obtain⟨v4,B⟩:=lg (((v3).setCell (p.1.size,12) Z).drew);rw[<-B]at l⊢;clear B b;obtain⟨b,-⟩:_/\True:=⟨l,bX⟩;clear l;obtain⟨E,G,I,J,M,N⟩:=b.o.facts;go_upto_region 32 with fail;have l:=ae (b.o.sdn (D+1));obtain⟨v5,OI⟩:=lg ((v4).setCell (p.1.size,11) (D+1:Int));rw[<-OI]at l⊢;clear OI b;exact xX1
variable{E:Int}
def xX2(h:Γ:=by refine a9 ?_;go_wp2_with fail;go_ret;exact bB):=h
def DK(hP:lF p a m C ss)(h:ec p w a m C s)(hE:lG C s kd id=E)(P:E≠0)(z:0<=s.done)(F: -144115188075855872<=s.now)(G:s.now<=144115188075855872):
  () 35 #[.pointer p.1.size,.agg #[kd,id]] w (aJ w E):=by
 have CB:=@ay;have j:C.words=m+1:=hP.words.len.symm;have r:=h.gr.lt;by_cases hr:fC kd id=true
 .by_cases hid:id<=m
  .rw[lG,ah ⟨hr,by rw[j];omega⟩]at hE;obtain⟨q,rfl⟩:=IU hr;(have I:decide ((m:Int)+1<=(q:Int))=false:=by simp;omega);rcases hb:dY C s kd (q:Int).toNat with _|_
   .rw[hb]at hE;obtain rfl:24=E:=hE;have J:=ae hb;clear hb j;obtain⟨pr,sv,gr,em,sd,L,B,pk⟩:=s;go_in;go_upto_region 1 with fail;refine aE (λu _ b=>?_);have D:Hx (fP p w.1.size u _ m C ⟨pr,sv,gr,em,sd,L,B,pk⟩ kd (q:Int)):=ae ⟨h.at (w':=u),b.ak,r⟩;clear b r;obtain⟨Q,N,R,S,T,U⟩:=D.o.facts;refine aw ao (λy _=>?_);refine ff 0 ?_;refine aK 1 λK hK=>?_;go_simp;refine(kB).mono ?_;rintro e y ⟨rfl,_⟩;dsimp only;refine aG hK ?_;refine qL [2,3,4,5,6,7,8,9,10,11,12] ?_;refine a9 ?_;go_wp2_with (go_at_call 87;refine mv (vX hP (D.o.at (w':=y)).ck hr hid z J) λX _=>?_);go_ret;exact bB
   rw[hb,ah rfl]at hE;have M:=AX (s:=s) hP kd (q:Int).toNat;obtain⟨V,hV⟩:=lh (ev C s kd (q:Int).toNat);rw[hV]at hE M;(have l:C.cap<s.now+V:=by by_cases Y:s.now+V<=C.cap;rw[ah Y]at hE;exact absurd hE.symm P;omega);rw[ag om]at hE;obtain rfl:25=E:=hE;have J:=ae hb;have Z:=ae hV;obtain⟨pr,sv,gr,em,sd,L,B,pk⟩:=s;dsimp only at l z F G;(have w1:IntKind.i64.wrap (B+V)=B+V:=by rw[a7];omega);(have hct:decide (C.cap<B+V)=true:=by simpa using l);clear hb j hV l;go_in;go_upto_region 1 with fail;refine aE (λu _ b=>?_);have D:Hx (fP p w.1.size u _ m C ⟨pr,sv,gr,em,sd,L,B,pk⟩ kd (q:Int)):=ae ⟨h.at (w':=u),b.ak,r⟩;clear b r;obtain⟨Q,N,R,S,T,U⟩:=D.o.facts;refine aw ao (λy _=>?_);refine ff 0 ?_;refine aK 1 λK hK=>?_;go_simp;refine(kB).mono ?_;rintro e y ⟨rfl,_⟩;dsimp only;refine aG hK ?_;refine qL [2,3,4,5,6,7,8,9,10,11,12] ?_;refine a9 ?_;go_upto_region 5 with(go_at_call 87;refine mv (vX hP (D.o.at (w':=y)).ck hr hid z J) λX _=>?_);refine aw ao (λO _=>?_);refine qL [0,1,2,3,4,5] ?_;refine aK 6 λK hK=>?_;go_simp;refine(IS hP (D.o.at (w':=O)).ck hr hid Z).mono ?_;rintro e O ⟨rfl,_⟩;dsimp only;refine aG hK ?_;refine qL [7,8] ?_;exact xX2
  rw[lG,ag (by rw[j];omega)]at hE;obtain rfl:10=E:=hE;(have I:decide ((m:Int)+1<=id)=true:=by simp;omega);have N:Bx w p.1.size 108 (c6 p a m C s):=⟨h.st⟩;clear j hid;go_in;go_upto_region 1 with fail;refine aE (λu _ b=>?_);refine aw ao (λy _=>?_);refine ff 0 ?_;refine aK 1 λK hK=>?_;go_simp;refine(kB).mono ?_;rintro e y ⟨rfl,_⟩;dsimp only;refine aG hK ?_;refine qL [2,3,4,5,6,7,8,9,10,11,12] ?_;exact xX2
 rw[lG,ag (λh=>hr h.1)]at hE;obtain rfl:10=E:=hE;have H8:fC kd id=false:=by simpa using hr
 clear j hr;go_in;go_upto_region 1 with fail;refine aE (λu _ b=>?_);refine aw ao (λy _=>?_);refine ff 0 ?_;refine aK 1 λK hK=>?_;go_simp;refine(kB).mono ?_;rintro e y ⟨rfl,_⟩;dsimp only;refine aG hK ?_;refine qL [2,3,504,505,506,507,508,509,510,511,12] ?_;exact xX2
variable{A B:Option Addr}{c d j n:Nat}{N:bm}{xs:List Int}{z:Int}
def Qw{m:Nat}(b:xs=j)(h:j<m):(xs++List.replicate (m-j) 0).set j z=(xs++[z])++List.replicate (m-(j+1)) 0:=by
 rw[show m-j=(m-(j+1))+1 from om,jA,lA _ _ om,b,fe,iS];simp
def NN[a:aW w A n B m N](hs:Hx N.small):() 12 #[.agg #[(A,n,c),(B,m,d)]] w (zi w N.ids):=by
 have K:=@ay;have l:Hx (m=N.nodes):=a.len;have hm:m<=1000:=by rw[l.o];exact hs.o.1
 have C:=kz m om;go_in;go_wp2_with fail;refine pN (λu v L _ _ hu F=>?_);have b:Own v (w.1.size+1) 3 (N.ids.take 0++List.replicate (m-0) 0):=F.ak;clear C;go_loopw [11] (λi wr=>∃j:Nat,j<=m/\i=.int .i64 j/\Own wr (w.1.size+1) 3 (N.ids.take j++List.replicate (m-j) 0)/\aj wr w) (λi _=>m-(intOf i).toNat);exact⟨0,aM _,rfl,b,aF⟩;clear b F;obtain⟨j,M,rfl,b,hp⟩:=hrel;by_cases r:j<m
 .have e:Hx ((N.ids.take j).length=j):=ae (by rw[bO,mN,<-l.o];omega);have D:=ae (take_at (Ap (N:=N) (j:=j) (by rw[<-l.o];exact r)));have G:=b.frozen j;have I:=b.cell (i:=j) (z:=0) (by rw[eE (by rw[e.o];exact al _),e.o,fe,jy,ah om]);have hK:=b.av j ((j:Int)+1);rw[Qw e.o r,<-D.o]at hK;have J:=ae hK;clear hK b;go_wp2_with fail;go_roundw;exact⟨j+1,om,by go_num,J,⟨(aP w wr).setCell (p:=⟨w.1.size+1,j,none⟩) (cz _) _⟩⟩;simp[intOf];omega
 obtain rfl:j=m:=om;rw[fe,bY (by rw[mN,<-l.o];exact al _)]at b;have E:Hx (N.ids=j):=ae (by rw[mN,l.o]);have y:=aB.gK (B:=w.1.size) (zs:=N.ids) (by simpa using b) (cz _) (by rw[E.o];omega);rw[E.o]at y;go_wp2_with fail;go_ret;exact⟨_,j,by rw[E.o];rfl,y,hp⟩
end Go.Proofs.YtmkjnlifimffkaaGreat
