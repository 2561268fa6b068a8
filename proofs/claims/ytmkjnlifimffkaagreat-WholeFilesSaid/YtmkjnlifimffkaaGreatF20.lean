/- Lemmas. -/
import Derived.Test.YtmkjnlifimffkaaGreatF19
namespace Go.Proofs.YtmkjnlifimffkaaGreat
open Go.RowKit Tryz
set_option linter.all false
set_option maxRecDepth 100000
set_option maxHeartbeats 0
variable{p w':World}{i m wb:Nat}{s:iv}{ss:List Sp}{id kd:Int}
section
variable{w:World}{a:m7}{C:iu}
def Ga(h:eV kd id=true):kd=1\/kd=2\/kd=3\/kd=4\/kd=5\/kd=6:=by
 unfold eV at h
 split at h
 .omega
 .split at h
  .omega
  .cases h
def Gb(h:eV kd id=true):∃q:Nat,id=(q:Int):=by
 unfold eV at h
 split at h
 .exact⟨0,by simpa using h⟩
 .split at h
  .simp only[bW,cu]at h;exact⟨id.toNat,om⟩
  .cases h
def yw(hP:j2 p a m C ss)(h:dI p w a m C s)(hr:eV kd id=true)(hid:id<=m)(hb:Hx (dy C s kd id.toNat=true))(rh:0<=s.done)(MK:s.done<=1000000)(hn0: -144115188075855872<=s.now)(oY:s.now<=144115188075855872)(P:s.now+d8 C s kd id.toNat<=C.cap)(hc:C.cap<=144115188075855872):
  () 35 #[.pointer p.1.size,.agg #[kd,id]] w λe w'=>e=.returned au/\dI p w' a m C (ga C s kd id):=by
 obtain⟨CB,CP,FB⟩:=ha;obtain⟨V,hV⟩:=lh (d8 C s kd id.toNat);have hVb:=yv (s:=s) hP kd id.toNat;have Z:=ae hV;rw[hV]at hVb P;have hlp:=h.lp;have hls:=h.ls;have Q:=h.lg;have U:=h.gr.lt;obtain⟨pr,sv,gr,em,sd,dn,S,pk⟩:=s;obtain⟨AW,cW,AC,cC,AI,cI,AO,cO⟩:=a;dsimp only at rh MK hn0 oY P hlp hls Q;obtain⟨T,hT⟩:=lh (S+V);obtain⟨q,rfl⟩:=Gb hr;have rG:decide ((m:Int)+1<=(q:Int))=false:=by simp;omega
 have w1:IntKind.i64.wrap (S+V)=T:=by rw[aV];omega
 have hct:decide (C.cap<T)=false:=by simp;omega
 have N:=ae hT;have hT0: -144115188075855872<=T:=om;have hT1:T<=144115188075855872:=om;have hq:q<=m:=om;have LM:(q:Int)<(m:Int)+1:=by omega
 obtain⟨pb,e1,-⟩:=gT hlp (show q<m+1 by omega);obtain⟨vb,e2,-⟩:=gT hls (show q<m+1 by omega);obtain⟨gb,e3,-⟩:=gT Q (show q<m+1 by omega);have Ap:=bO e1;have qt:=bO e2;have yx:=bO e3;clear hV hT e1 e2 e3 P
 go_in
 go_upto_region 1 with fail
 refine aw (λu _ kb0=>?_);have b:Hx (e8 p w.1.size u _ m C ⟨pr,sv,gr,em,sd,dn,S,pk⟩ kd (q:Int)):=ae ⟨h.at (w':=u),kb0.al,U⟩;clear kb0 U;obtain⟨D,E,G,I,J,M⟩:=b.o.facts;refine am aq (λu1 _=>?_);refine ap 0 ?_;refine aM 1 λK hK=>?_;go_simp
 (with_reducible refine(ji).mono ?_)
 rintro e u1 ⟨rfl,_⟩;dsimp only;refine aL hK ?_;refine qL [2,3,4,5,6,7,8,9,10,11,12] ?_;refine aZ ?_
 go_upto_region 5 with(go_at_call 87;refine mv (tR hP (b.o.at (w':=u1)).ck hr hid rh hb) λu2 _=>?_)
 refine am aq (λu3 _=>?_);refine qL [0,1,2,3,4,5] ?_;refine aM 6 λK hK=>?_;go_simp
 (with_reducible refine(F9 hP (b.o.at (w':=u3)).ck hr hid Z).mono ?_)
 rintro e u3 ⟨rfl,_⟩;dsimp only;refine aL hK ?_;refine qL [7,8] ?_;refine aZ ?_
 go_upto_region 9 with fail
 have l:=ae ((b.o.at (w':=u3)).Rw T);obtain⟨v1,Iy⟩:=lg ((u3).setCell (p.1.size,12) T);rw[<-Iy]at l⊢;clear Iy b;obtain⟨b,-⟩:_/\True:=⟨l,bA⟩;clear l;obtain⟨D,E,G,I,J,M⟩:=b.o.facts;clear rG w1 hct
 go_upto_region 11 with fail
 have l:=ae (b.o.spk (max pk T));obtain⟨O,X⟩:=lg ((v1).setCell (p.1.size,13) (max pk T:Int));rw[<-X]at l⊢;clear X b;obtain⟨b,-⟩:_/\True:=⟨l,bA⟩;clear l;obtain⟨D,E,G,I,J,M⟩:=b.o.facts;have hl0:=hP.f9;have My:(C.f9:Int)<(m:Int)+1:=by omega
 obtain⟨lb,e4,-⟩:=gT Q (show C.f9<m+1 by omega);have Jg:=bO e4;have sW:Sl p AW (m+1) C.words:=hP.words;obtain⟨bw,ow,zw,rfl,obw,vw,ew⟩:=sW.get (k:=q) om;have Z5:=f8 ew.o;have CQ:=Bo om hP.wb q;rw[Z5]at CQ;have HZW:=ae Z5;obtain⟨Y,FT⟩:=lh (T-zw);have w2:IntKind.i64.wrap (T-zw)=Y:=by rw[aV];omega
 have ky:=ae FT;clear e4 Z5 FT;rcases Ga hr with rfl|rfl|rfl|rfl|rfl|rfl
 .have R:Hx (ga C ⟨pr,sv,gr,em,sd,dn,S,pk⟩ 1 (q:Int)=⟨pr.set q true,sv.set q true,gr,em,sd,dn,T,max pk T⟩):=ae (by
   unfold ga;dsimp only;rw[Z.o,N.o,Int.toNat_natCast,if_pos (.inl rfl)])
  go_upto_region 13 with fail
  refine wp_region_still_tail 7 aq aq ?_;change wpStill _ _ (O).drew _ _ _;simp only[fh,dK,g4,eT]
  repeat still_step
  refine fJ ?_
  go_upto_region 14 with fail
  have l:=ae (e8.at (w':=((O).setCell (p.1.size+1,q) (.bool true)).drew) (b.o.Z3 q true));obtain⟨v3,r⟩:=lg (((O).setCell (p.1.size+1,q) (.bool true)).drew);rw[<-r]at l⊢;clear r b;obtain⟨b,-⟩:_/\True:=⟨l,bA⟩;clear l;obtain⟨D,E,G,I,J,M⟩:=b.o.facts;refine wp_region_still_tail 7 aq aq ?_;change wpStill _ _ (v3).drew _ _ _;simp only[fh,dK,g4,eT]
  repeat still_step
  refine fJ ?_
  go_upto_region 15 with fail
  have l:=ae (e8.at (w':=((v3).setCell (p.1.size+1+1,q) (.bool true)).drew) (b.o.ssv q true));obtain⟨v4,B⟩:=lg (((v3).setCell (p.1.size+1+1,q) (.bool true)).drew);rw[<-B]at l⊢;clear B b;obtain⟨b,-⟩:_/\True:=⟨l,bA⟩;clear l;obtain⟨D,E,G,I,J,M⟩:=b.o.facts
  go_wp2_with fail
  go_ret;exact⟨rfl,by rw[R.o];exact b.o.at.ck⟩
 .have R:Hx (ga C ⟨pr,sv,gr,em,sd,dn,S,pk⟩ 2 (q:Int)=⟨pr.set q true,sv.set q true,gr,em,sd,dn,T,max pk T⟩):=ae (by
   unfold ga;dsimp only;rw[Z.o,N.o,Int.toNat_natCast,if_pos (.inr rfl)])
  go_upto_region 13 with fail
  refine wp_region_still_tail 7 aq aq ?_;change wpStill _ _ (O).drew _ _ _;simp only[fh,dK,g4,eT]
  repeat still_step
  refine fJ ?_
  go_upto_region 14 with fail
  have l:=ae (e8.at (w':=((O).setCell (p.1.size+1,q) (.bool true)).drew) (b.o.Z3 q true));obtain⟨v3,r⟩:=lg (((O).setCell (p.1.size+1,q) (.bool true)).drew);rw[<-r]at l⊢;clear r b;obtain⟨b,-⟩:_/\True:=⟨l,bA⟩;clear l;obtain⟨D,E,G,I,J,M⟩:=b.o.facts;refine wp_region_still_tail 7 aq aq ?_;change wpStill _ _ (v3).drew _ _ _;simp only[fh,dK,g4,eT]
  repeat still_step
  refine fJ ?_
  go_upto_region 15 with fail
  have l:=ae (e8.at (w':=((v3).setCell (p.1.size+1+1,q) (.bool true)).drew) (b.o.ssv q true));obtain⟨v4,B⟩:=lg (((v3).setCell (p.1.size+1+1,q) (.bool true)).drew);rw[<-B]at l⊢;clear B b;obtain⟨b,-⟩:_/\True:=⟨l,bA⟩;clear l;obtain⟨D,E,G,I,J,M⟩:=b.o.facts
  go_wp2_with fail
  go_ret;exact⟨rfl,by rw[R.o];exact b.o.at.ck⟩
 .have R:Hx (ga C ⟨pr,sv,gr,em,sd,dn,S,pk⟩ 3 (q:Int)=⟨pr.set q false,sv,gr,em,sd,dn,Y,max pk T⟩):=ae (by
   unfold ga;dsimp only;rw[Z.o,N.o,Int.toNat_natCast,if_neg ak,if_pos rfl,HZW.o,ky.o])
  go_upto_region 16 with fail
  refine wp_region_still_tail 7 aq aq ?_;change wpStill _ _ (O).drew _ _ _;simp only[fh,dK,g4,eT]
  repeat still_step
  refine fJ ?_
  go_upto_region 17 with fail
  have l:=ae (e8.at (w':=((O).setCell (p.1.size+1,q) (.bool false)).drew) (b.o.Z3 q false));obtain⟨v3,r⟩:=lg (((O).setCell (p.1.size+1,q) (.bool false)).drew);rw[<-r]at l⊢;clear r b;obtain⟨b,-⟩:_/\True:=⟨l,bA⟩;clear l;obtain⟨D,E,G,I,J,M⟩:=b.o.facts;refine wp_region_still_tail 15 aq aq ?_;change wpStill _ _ (v3).drew _ _ _;simp only[fh,dK,g4,eT]
  repeat still_step
  refine fJ ?_
  go_upto_region 18 with fail
  have l:=ae (e8.at (w':=((v3).setCell (p.1.size,12) Y).drew) (b.o.Rw Y));obtain⟨v4,B⟩:=lg (((v3).setCell (p.1.size,12) Y).drew);rw[<-B]at l⊢;clear B b;obtain⟨b,-⟩:_/\True:=⟨l,bA⟩;clear l;obtain⟨D,E,G,I,J,M⟩:=b.o.facts
  go_wp2_with fail
  go_ret;exact⟨rfl,by rw[R.o];exact b.o.at.ck⟩
 .have R:Hx (ga C ⟨pr,sv,gr,em,sd,dn,S,pk⟩ 4 (q:Int)=⟨pr,sv,gr,true,sd,dn,T,max pk T⟩):=ae (by
   unfold ga;dsimp only;rw[Z.o,N.o,if_neg ak,if_neg ak,if_pos rfl])
  go_upto_region 20 with fail
  have l:=ae (b.o.sem true);obtain⟨v3,r⟩:=lg ((O).setCell (p.1.size,9) (.bool true));rw[<-r]at l⊢;clear r b;obtain⟨b,-⟩:_/\True:=⟨l,bA⟩;clear l;obtain⟨D,E,G,I,J,M⟩:=b.o.facts
  go_wp2_with fail
  go_ret;exact⟨rfl,by rw[R.o];exact b.o.at.ck⟩
 .have R:Hx (ga C ⟨pr,sv,gr,em,sd,dn,S,pk⟩ 5 (q:Int)=⟨pr,sv,gr.set C.f9 true,em,true,dn,T,max pk T⟩):=ae (by
   unfold ga;dsimp only;rw[Z.o,N.o,if_neg ak,if_neg ak,if_neg ak,if_pos rfl])
  go_upto_region 22 with fail
  have l:=ae (b.o.ssd true);obtain⟨v3,r⟩:=lg ((O).setCell (p.1.size,10) (.bool true));rw[<-r]at l⊢;clear r b;obtain⟨b,-⟩:_/\True:=⟨l,bA⟩;clear l;obtain⟨D,E,G,I,J,M⟩:=b.o.facts;refine wp_region_still_tail 9 aq aq ?_;change wpStill _ _ (v3).drew _ _ _;simp only[fh,dK,g4,eT]
  repeat still_step
  refine fJ ?_
  go_upto_region 23 with fail
  have l:=ae (e8.at (w':=((v3).setCell (p.1.size+1+1+1,C.f9) (.bool true)).drew) (b.o.Z4 C.f9 true));obtain⟨v4,B⟩:=lg (((v3).setCell (p.1.size+1+1+1,C.f9) (.bool true)).drew);rw[<-B]at l⊢;clear B b;obtain⟨b,-⟩:_/\True:=⟨l,bA⟩;clear l;obtain⟨D,E,G,I,J,M⟩:=b.o.facts
  go_wp2_with fail
  go_ret;exact⟨rfl,by rw[R.o];exact b.o.at.ck⟩
 .obtain⟨F,hF⟩:=lh (g3 C ⟨pr,sv,gr,em,sd,dn,S,pk⟩ q);have HF:Hx (g3 C ⟨pr,sv,gr,em,sd,dn,T,max pk T⟩ q=F):=hF;have R:Hx (ga C ⟨pr,sv,gr,em,sd,dn,S,pk⟩ 6 (q:Int)=⟨pr,sv,(og gr F).set q false,em,sd,dn+1,Y,max pk T⟩):=ae (by
   unfold ga;dsimp only;rw[Z.o,N.o,Int.toNat_natCast,if_neg ak,if_neg ak,if_neg ak,if_neg ak,HZW.o,ky.o,hF])
  have HFI:Hx (∀z∈F,0<=z/\z<=m):=λz hz=>by rw[<-hF]at hz;exact NQ hP hz
  have hFl:F.length<=1000:=by rw[<-hF];exact yu hP q
  have w3:IntKind.i64.wrap (dn+1)=dn+1:=by rw[aV];omega
  clear hF yx Jg;have X:p.1.size+3<O:=b.o.ck.gr.lt
  go_wp2_with (go_at_call 89;refine(Bn hP b.o.ck hq HF).mono ?_;rintro e u ⟨AF,cF,rfl,oF,_⟩)
  have b:=ae (b.o.at (w':=u));have sF0:Sl u AF F F:=⟨oF.rd,rfl⟩;have fF:=oF.fre;go_loopw [121] (λi wr=>∃j:Nat,j<=F/\i=.int .i64 j/\Hx (e8 p w.1.size wr ⟨some ⟨bw,ow,none⟩,cW,AC,cC,AI,cI,AO,cO⟩ m C ⟨pr,sv,og gr (F.take j),em,sd,dn,T,max pk T⟩ 6 (q:Int))/\Sl wr AF F F) (λi _=>F.length-(intOf i).toNat)
  .exact⟨0,aT _,rfl,b,sF0⟩
  ·
   clear b sF0 E G I J M D;obtain⟨j,hj,rfl,b,sF⟩:=hrel;obtain⟨D,E,G,I,J,M⟩:=b.o.facts;by_cases U:j<F
   .obtain⟨b2,q2,z,rfl,jf,vz,ez⟩:=sF.get U;have hzr:=HFI.o z (aC ez.o);obtain⟨y,rfl⟩:=cf hzr.1;have hy:y<m+1:=om;have hyi:(y:Int)<(m:Int)+1:=by omega
    obtain⟨yb,e5,-⟩:=gT (L:=og gr (F.take j)) (i:=y) (n:=m+1) (by rw[pE];exact Q) hy;have Z6:=bO e5;have HG:Hx (og gr (F.take (j+1))=(og gr (F.take j)).set y true):=ae (by rw[take_at ez.o,NR,bI]);clear e5 hzr
    go_wp2_with fail
    go_roundw
    .exact⟨j+1,om,by go_num,ae (by rw[HG.o];exact b.o.Z4 y true),sF.setCell (p:=⟨p.1.size+1+1+1,y,none⟩) fF X _⟩
    .simp[intOf];omega
   .obtain rfl:j=F:=om;have Rx:=b.o;rw[bR (an _)]at Rx;obtain⟨b,-⟩:Hx _/\True:=⟨ae Rx,bA⟩;clear Rx E G I J M D;obtain⟨D,E,G,I,J,M⟩:=b.o.facts;obtain⟨qb,e5,-⟩:=gT (L:=og gr F) (i:=q) (n:=m+1) (by rw[pE];exact Q) om;have Z6:=bO e5;clear e5
    go_upto_region 29 with fail
    refine wp_region_still_tail 7 aq aq ?_;change wpStill _ _ (wr).drew _ _ _;simp only[fh,dK,g4,eT]
    repeat still_step
    refine fJ ?_
    go_upto_region 30 with fail
    have l:=ae (e8.at (w':=((wr).setCell (p.1.size+1+1+1,q) (.bool false)).drew) (b.o.Z4 q false));obtain⟨v3,r⟩:=lg (((wr).setCell (p.1.size+1+1+1,q) (.bool false)).drew);rw[<-r]at l⊢;clear r b;obtain⟨b,-⟩:_/\True:=⟨l,bA⟩;clear l;obtain⟨D,E,G,I,J,M⟩:=b.o.facts;refine wp_region_still_tail 15 aq aq ?_;change wpStill _ _ (v3).drew _ _ _;simp only[fh,dK,g4,eT]
    repeat still_step
    refine fJ ?_
    go_upto_region 31 with fail
    have l:=ae (e8.at (w':=((v3).setCell (p.1.size,12) Y).drew) (b.o.Rw Y));obtain⟨v4,B⟩:=lg (((v3).setCell (p.1.size,12) Y).drew);rw[<-B]at l⊢;clear B b;obtain⟨b,-⟩:_/\True:=⟨l,bA⟩;clear l;obtain⟨D,E,G,I,J,M⟩:=b.o.facts
    go_upto_region 32 with fail
    have l:=ae (b.o.sdn (dn+1));obtain⟨v5,Md⟩:=lg ((v4).setCell (p.1.size,11) (dn+1:Int));rw[<-Md]at l⊢;clear Md b;obtain⟨b,-⟩:_/\True:=⟨l,bA⟩;clear l;obtain⟨D,E,G,I,J,M⟩:=b.o.facts
    go_wp2_with fail
    go_ret;exact⟨rfl,by rw[R.o];exact b.o.at.ck⟩
end
variable{E:Int}
section
variable{w:World}{a:m7}{C:iu}
def Bp(hP:j2 p a m C ss)(h:dI p w a m C s)(hE:j3 C s kd id=E)(O:E≠0)(z:0<=s.done)(F: -144115188075855872<=s.now)(G:s.now<=144115188075855872):
  () 35 #[.pointer p.1.size,.agg #[kd,id]] w (aD w E):=by
 have CB:=@aa;have j:C.words=m+1:=hP.words.len.symm;have r:=h.gr.lt;by_cases hr:eV kd id=true
 .by_cases hid:id<=m
  .rw[j3,ah ⟨hr,by rw[j];omega⟩]at hE;obtain⟨q,rfl⟩:=Gb hr;have I:decide ((m:Int)+1<=(q:Int))=false:=by simp;omega
   rcases hb:dy C s kd (q:Int).toNat with _|_
   .rw[hb]at hE;obtain rfl:24=E:=hE;have J:=ae hb;clear hb j;obtain⟨pr,sv,gr,em,sd,dn,B,pk⟩:=s
    go_in
    go_upto_region 1 with fail
    refine aw (λu _ b=>?_);have D:Hx (e8 p w.1.size u _ m C ⟨pr,sv,gr,em,sd,dn,B,pk⟩ kd (q:Int)):=ae ⟨h.at (w':=u),b.al,r⟩;clear b r;obtain⟨P,M,Q,R,S,T⟩:=D.o.facts;refine am aq (λy _=>?_);refine ap 0 ?_;refine aM 1 λK hK=>?_;go_simp
    (with_reducible refine(ji).mono ?_)
    rintro e y ⟨rfl,_⟩;dsimp only;refine aL hK ?_;refine qL [2,3,4,5,6,7,8,9,10,11,12] ?_;refine aZ ?_
    go_wp2_with (go_at_call 87;refine mv (tR hP (D.o.at (w':=y)).ck hr hid z J) λU _=>?_)
    go_ret;exact bq
   .rw[hb,ah rfl]at hE;have L:=yv (s:=s) hP kd (q:Int).toNat;obtain⟨V,hV⟩:=lh (d8 C s kd (q:Int).toNat);rw[hV]at hE L;have l:C.cap<s.now+V:=by
     by_cases X:s.now+V<=C.cap
     .rw[ah X]at hE;exact absurd hE.symm O
     .omega
    rw[ag om]at hE;obtain rfl:25=E:=hE;have J:=ae hb;have Y:=ae hV;obtain⟨pr,sv,gr,em,sd,dn,B,pk⟩:=s;dsimp only at l z F G;have w1:IntKind.i64.wrap (B+V)=B+V:=by rw[aV];omega
    have Z:decide (C.cap<B+V)=true:=by simpa using l
    clear hb j hV l
    go_in
    go_upto_region 1 with fail
    refine aw (λu _ b=>?_);have D:Hx (e8 p w.1.size u _ m C ⟨pr,sv,gr,em,sd,dn,B,pk⟩ kd (q:Int)):=ae ⟨h.at (w':=u),b.al,r⟩;clear b r;obtain⟨P,M,Q,R,S,T⟩:=D.o.facts;refine am aq (λy _=>?_);refine ap 0 ?_;refine aM 1 λK hK=>?_;go_simp
    (with_reducible refine(ji).mono ?_)
    rintro e y ⟨rfl,_⟩;dsimp only;refine aL hK ?_;refine qL [2,3,4,5,6,7,8,9,10,11,12] ?_;refine aZ ?_
    go_upto_region 5 with(go_at_call 87;refine mv (tR hP (D.o.at (w':=y)).ck hr hid z J) λU _=>?_)
    refine am aq (λN _=>?_);refine qL [0,1,2,3,4,5] ?_;refine aM 6 λK hK=>?_;go_simp
    (with_reducible refine(F9 hP (D.o.at (w':=N)).ck hr hid Y).mono ?_)
    rintro e N ⟨rfl,_⟩;dsimp only;refine aL hK ?_;refine qL [7,8] ?_;refine aZ ?_
    go_wp2_with fail
    go_ret;exact bq
  .rw[j3,ag (by rw[j];omega)]at hE;obtain rfl:10=E:=hE;have I:decide ((m:Int)+1<=id)=true:=by simp;omega
   have M:Bx w p.1.size 108 (cz p a m C s):=⟨h.st⟩;clear j hid
   go_in
   go_upto_region 1 with fail
   refine aw (λu _ b=>?_);refine am aq (λy _=>?_);refine ap 0 ?_;refine aM 1 λK hK=>?_;go_simp
   (with_reducible refine(ji).mono ?_)
   rintro e y ⟨rfl,_⟩;dsimp only;refine aL hK ?_;refine qL [2,3,4,5,6,7,8,9,10,11,12] ?_;refine aZ ?_
   go_wp2_with fail
   go_ret;exact bq
 .rw[j3,ag (λh=>hr h.1)]at hE;obtain rfl:10=E:=hE;have Y1:eV kd id=false:=by simpa using hr
  clear j hr
  go_in
  go_upto_region 1 with fail
  refine aw (λu _ b=>?_);refine am aq (λy _=>?_);refine ap 0 ?_;refine aM 1 λK hK=>?_;go_simp
  (with_reducible refine(ji).mono ?_)
  rintro e y ⟨rfl,_⟩;dsimp only;refine aL hK ?_;refine qL [2,3,504,505,506,507,508,509,510,511,12] ?_;refine aZ ?_
  go_wp2_with fail
  go_ret;exact bq
end
variable{A B:Option Addr}{c d j:Nat}{xs:List Int}{z:Int}
section
variable{w:World}{n:Nat}{N:aU}
def NS{m:Nat}(b:xs=j)(h:j<m):(xs++List.replicate (m-j) 0).set j z=(xs++[z])++List.replicate (m-(j+1)) 0:=by
 rw[show m-j=(m-(j+1))+1 from om,kI,kH _ _ om,b,eB,jq];simp
def K8[a:aQ w A n B m N](hs:Hx N.small):() 12 #[.agg #[(A,n,c),(B,m,d)]] w (xf w N.ids):=by
 have K:=@aa;have l:Hx (m=N.nodes):=a.len;have hm:m<=1000:=by rw[l.o];exact hs.o.1
 have C:=jh m om
 go_in
 go_wp2_with fail
 refine n6 (λu v L _ _ hu F=>?_);have b:Own v (w.1.size+1) 3 (N.ids.take 0++List.replicate (m-0) 0):=F.al;clear C;go_loopw [11] (λi wr=>∃j:Nat,j<=m/\i=.int .i64 j/\Own wr (w.1.size+1) 3 (N.ids.take j++List.replicate (m-j) 0)/\aj wr w) (λi _=>m-(intOf i).toNat)
 .exact⟨0,aT _,rfl,b,aK⟩
 ·
  clear b F;obtain⟨j,M,rfl,b,hp⟩:=hrel;by_cases r:j<m
  .have e:Hx ((N.ids.take j).length=j):=ae (by rw[bB,k7,<-l.o];omega);have D:=ae (take_at (xW (N:=N) (j:=j) (by rw[<-l.o];exact r)));have G:=b.frozen j;have I:=b.cell (i:=j) (z:=0) (by rw[ew (by rw[e.o];exact an _),e.o,eB,ix,ah om]);have hK:=b.ax j ((j:Int)+1);rw[NS e.o r,<-D.o]at hK;have J:=ae hK;clear hK b
   go_wp2_with fail
   go_roundw
   .exact⟨j+1,om,by go_num,J,⟨(a7 w wr).setCell (p:=⟨w.1.size+1,j,none⟩) (b9 _) _⟩⟩
   .simp[intOf];omega
  .obtain rfl:j=m:=om;rw[eB,bR (by rw[k7,<-l.o];exact an _)]at b;have E:Hx (N.ids=j):=ae (by rw[k7,l.o]);have y:=az.gz (B:=w.1.size) (zs:=N.ids) (by simpa using b) (b9 _) (by rw[E.o];omega);rw[E.o]at y
   go_wp2_with fail
   go_ret;exact⟨_,j,by rw[E.o];rfl,y,hp⟩
end
