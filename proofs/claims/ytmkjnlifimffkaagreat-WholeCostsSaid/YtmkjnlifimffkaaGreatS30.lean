/- Lemmas. No condition. -/
import Derived.Test.YtmkjnlifimffkaaGreatS29
namespace Go.Proofs.YtmkjnlifimffkaaGreat
open Go.RowKit
set_option linter.all false
set_option maxRecDepth 100000
set_option maxHeartbeats 16000000
section
variable{p w w':World}{a:mZ}{wb m i:Nat}{C:iQ}{s:di}{ss:List Sp}
theorem abI{kd id:Int}(h:gK kd id=true):kd=1\/kd=2\/kd=3\/kd=4\/kd=5\/kd=6:=by
 unfold gK at h
 split at h
 ·omega
 ·split at h
  ·omega
  ·cases h
theorem abJ{kd id:Int}(h:gK kd id=true):∃q:Nat,id=(q:Int):=by
 unfold gK at h
 split at h
 ·exact⟨0,by simpa using h⟩
 ·split at h
  ·simp only[dm,dU]at h;exact⟨id.toNat,om⟩
  ·cases h
theorem abK(hP:jV p a m C ss)(h:dH p w a m C s){kd id:Int}(hr:gK kd id=true)(hid:id<=m)(hb:Hid (fV C s kd id.toNat=true))(hd0:0<=s.done)(hd1:s.done<=1000000)(hn0: -144115188075855872<=s.now)(hn1:s.now<=144115188075855872)(O:s.now+bK C s kd id.toNat<=C.cap)(hc:C.cap<=144115188075855872):
  Calls Tryz.prog 35 #[.pointer p.heap.size,.agg #[kd,id]] w fun e w'=>e=.returned (.int .i64 0)/\dH p w' a m C (bB C s kd id):=by
 obtain⟨CB,CP,FB⟩:=iK;obtain⟨V,hV⟩:=lh (bK C s kd id.toNat);have hVb:=Uh (s:=s) hP kd id.toNat;have X:=ae hV;rw[hV]at hVb O;have hlp:=h.lp;have hls:=h.ls;have P:=h.lg;have R:=h.gr.lt;obtain⟨pr,sv,gr,em,sd,dn,nw,pk⟩:=s;obtain⟨AW,cW,AC,cC,AI,cI,AO,cO⟩:=a;dsimp only at hd0 hd1 hn0 hn1 O hlp hls P;obtain⟨T,hT⟩:=lh (nw+V);obtain⟨q,rfl⟩:=abJ hr;have hge:decide ((m:Int)+1<=(q:Int))=false:=by simp;omega
 have w1:IntKind.i64.wrap (nw+V)=T:=by rw[bF];omega
 have hct:decide (C.cap<T)=false:=by simp;omega
 have N:=ae hT;have hT0: -144115188075855872<=T:=om;have hT1:T<=144115188075855872:=om;have hq:q<=m:=om;have hq1:(q:Int)<(m:Int)+1:=by omega
 obtain⟨pb,e1,-⟩:=lq hlp (show q<m+1 by omega);obtain⟨vb,e2,-⟩:=lq hls (show q<m+1 by omega);obtain⟨gb,e3,-⟩:=lq P (show q<m+1 by omega);have hg1:=iN e1;have hg2:=iN e2;have hg3:=iN e3;clear hV hT e1 e2 e3 O;go_enter Tryz.func35,Tryz.ntmps35
 go_upto_region 1 with fail
 refine bI (fun u _ kb0=>?_);have b:Hid (eX p w.heap.size u _ m C ⟨pr,sv,gr,em,sd,dn,nw,pk⟩ kd (q:Int)):=ae ⟨h.at (w':=u),kb0.blk,R⟩;clear kb0 R;obtain⟨D,E,G,I,J,M⟩:=b.out.facts;refine bZ aj (fun u1 _=>?_);refine ag 0 8 ?_;refine ay 1 fun K hK=>?_;go_simp
 (with_reducible refine(Er).mono ?_)
 rintro e u1 ⟨rfl,_⟩;dsimp only;refine av hK ?_;clear hK K;refine ag 2 10 ?_;refine ag 3 11 ?_;refine ag 4 12 ?_;refine ag 5 13 ?_;refine ag 6 14 ?_;refine ag 7 15 ?_;refine ag 8 16 ?_;refine ag 9 17 ?_;refine ag 10 18 ?_;refine ag 11 19 ?_;refine ag 12 20 ?_;refine aO ?_
 go_upto_region 5 with(go_at_call 87;refine(Ud hP (b.out.at (w':=u1)).ck hr hid hd0 hb).mono ?_;rintro e u2 ⟨rfl,_⟩)
 refine bZ aj (fun u3 _=>?_);refine ag 0 25 ?_;refine ag 1 26 ?_;refine ag 2 27 ?_;refine ag 3 28 ?_;refine ag 4 29 ?_;refine ag 5 30 ?_;refine ay 6 fun K hK=>?_;go_simp
 (with_reducible refine(abE hP (b.out.at (w':=u3)).ck hr hid X).mono ?_)
 rintro e u3 ⟨rfl,_⟩;dsimp only;refine av hK ?_;clear hK K;refine ag 7 32 ?_;refine ag 8 5 ?_;refine aO ?_
 go_upto_region 9 with fail
 have l:=ae ((b.out.at (w':=u3)).Ue T);obtain⟨v1,hv1⟩:=lg ((u3).setCell ⟨p.heap.size,12,none⟩ (.int .i64 T));rw[<-hv1]at l⊢;clear hv1 b;obtain⟨b,-⟩:_/\True:=⟨l,bO⟩;clear l;obtain⟨D,E,G,I,J,M⟩:=b.out.facts;clear hge w1 hct
 go_upto_region 11 with fail
 have l:=ae (b.out.spk (max pk T));obtain⟨v2,S⟩:=lg ((v1).setCell ⟨p.heap.size,13,none⟩ (.int .i64 (max pk T)));rw[<-S]at l⊢;clear S b;obtain⟨b,-⟩:_/\True:=⟨l,bO⟩;clear l;obtain⟨D,E,G,I,J,M⟩:=b.out.facts;have hl0:=hP.jl;have hl1:(C.jl:Int)<(m:Int)+1:=by omega
 obtain⟨lb,e4,-⟩:=lq P (show C.jl<m+1 by omega);have hg4:=iN e4;have sW:Sl p AW (m+1) C.words:=hP.words;obtain⟨bw,ow,zw,rfl,obw,vw,ew⟩:=sW.get (k:=q) om;have Y:=xZ ew.out;have hzb:=abG om hP.wb q;rw[Y]at hzb;have HZW:=ae Y;obtain⟨U,Co⟩:=lh (T-zw);have w2:IntKind.i64.wrap (T-zw)=U:=by rw[bF];omega
 have HT2:=ae Co;clear e4 Y Co;rcases abI hr with rfl|rfl|rfl|rfl|rfl|rfl
 ·have Q:Hid (bB C ⟨pr,sv,gr,em,sd,dn,nw,pk⟩ 1 (q:Int)=⟨pr.set q true,sv.set q true,gr,em,sd,dn,T,max pk T⟩):=ae (by
   unfold bB;dsimp only;rw[X.out,N.out,Int.toNat_natCast,if_pos (.inl rfl)])
  go_upto_region 13 with fail
  refine wp_region_still_tail 7 aj aj ?_;change wpStill _ _ (v2).drew _ _ _;simp only[mH,jr,qw,pF]
  repeat still_step
  refine qY ?_
  go_upto_region 14 with fail
  have l:=ae (eX.at (w':=((v2).setCell ⟨p.heap.size+1,q,none⟩ (.bool true)).drew) (b.out.Uf q true));obtain⟨v3,r⟩:=lg (((v2).setCell ⟨p.heap.size+1,q,none⟩ (.bool true)).drew);rw[<-r]at l⊢;clear r b;obtain⟨b,-⟩:_/\True:=⟨l,bO⟩;clear l;obtain⟨D,E,G,I,J,M⟩:=b.out.facts;refine wp_region_still_tail 7 aj aj ?_;change wpStill _ _ (v3).drew _ _ _;simp only[mH,jr,qw,pF]
  repeat still_step
  refine qY ?_
  go_upto_region 15 with fail
  have l:=ae (eX.at (w':=((v3).setCell ⟨p.heap.size+1+1,q,none⟩ (.bool true)).drew) (b.out.ssv q true));obtain⟨v4,B⟩:=lg (((v3).setCell ⟨p.heap.size+1+1,q,none⟩ (.bool true)).drew);rw[<-B]at l⊢;clear B b;obtain⟨b,-⟩:_/\True:=⟨l,bO⟩;clear l;obtain⟨D,E,G,I,J,M⟩:=b.out.facts
  go_wp2_with fail
  go_ret;exact⟨rfl,by rw[Q.out];exact b.out.at.ck⟩
 ·have Q:Hid (bB C ⟨pr,sv,gr,em,sd,dn,nw,pk⟩ 2 (q:Int)=⟨pr.set q true,sv.set q true,gr,em,sd,dn,T,max pk T⟩):=ae (by
   unfold bB;dsimp only;rw[X.out,N.out,Int.toNat_natCast,if_pos (.inr rfl)])
  go_upto_region 13 with fail
  refine wp_region_still_tail 7 aj aj ?_;change wpStill _ _ (v2).drew _ _ _;simp only[mH,jr,qw,pF]
  repeat still_step
  refine qY ?_
  go_upto_region 14 with fail
  have l:=ae (eX.at (w':=((v2).setCell ⟨p.heap.size+1,q,none⟩ (.bool true)).drew) (b.out.Uf q true));obtain⟨v3,r⟩:=lg (((v2).setCell ⟨p.heap.size+1,q,none⟩ (.bool true)).drew);rw[<-r]at l⊢;clear r b;obtain⟨b,-⟩:_/\True:=⟨l,bO⟩;clear l;obtain⟨D,E,G,I,J,M⟩:=b.out.facts;refine wp_region_still_tail 7 aj aj ?_;change wpStill _ _ (v3).drew _ _ _;simp only[mH,jr,qw,pF]
  repeat still_step
  refine qY ?_
  go_upto_region 15 with fail
  have l:=ae (eX.at (w':=((v3).setCell ⟨p.heap.size+1+1,q,none⟩ (.bool true)).drew) (b.out.ssv q true));obtain⟨v4,B⟩:=lg (((v3).setCell ⟨p.heap.size+1+1,q,none⟩ (.bool true)).drew);rw[<-B]at l⊢;clear B b;obtain⟨b,-⟩:_/\True:=⟨l,bO⟩;clear l;obtain⟨D,E,G,I,J,M⟩:=b.out.facts
  go_wp2_with fail
  go_ret;exact⟨rfl,by rw[Q.out];exact b.out.at.ck⟩
 ·have Q:Hid (bB C ⟨pr,sv,gr,em,sd,dn,nw,pk⟩ 3 (q:Int)=⟨pr.set q false,sv,gr,em,sd,dn,U,max pk T⟩):=ae (by
   unfold bB;dsimp only;rw[X.out,N.out,Int.toNat_natCast,if_neg ah,if_pos rfl,HZW.out,HT2.out])
  go_upto_region 16 with fail
  refine wp_region_still_tail 7 aj aj ?_;change wpStill _ _ (v2).drew _ _ _;simp only[mH,jr,qw,pF]
  repeat still_step
  refine qY ?_
  go_upto_region 17 with fail
  have l:=ae (eX.at (w':=((v2).setCell ⟨p.heap.size+1,q,none⟩ (.bool false)).drew) (b.out.Uf q false));obtain⟨v3,r⟩:=lg (((v2).setCell ⟨p.heap.size+1,q,none⟩ (.bool false)).drew);rw[<-r]at l⊢;clear r b;obtain⟨b,-⟩:_/\True:=⟨l,bO⟩;clear l;obtain⟨D,E,G,I,J,M⟩:=b.out.facts;refine wp_region_still_tail 15 aj aj ?_;change wpStill _ _ (v3).drew _ _ _;simp only[mH,jr,qw,pF]
  repeat still_step
  refine qY ?_
  go_upto_region 18 with fail
  have l:=ae (eX.at (w':=((v3).setCell ⟨p.heap.size,12,none⟩ (.int .i64 U)).drew) (b.out.Ue U));obtain⟨v4,B⟩:=lg (((v3).setCell ⟨p.heap.size,12,none⟩ (.int .i64 U)).drew);rw[<-B]at l⊢;clear B b;obtain⟨b,-⟩:_/\True:=⟨l,bO⟩;clear l;obtain⟨D,E,G,I,J,M⟩:=b.out.facts
  go_wp2_with fail
  go_ret;exact⟨rfl,by rw[Q.out];exact b.out.at.ck⟩
 ·have Q:Hid (bB C ⟨pr,sv,gr,em,sd,dn,nw,pk⟩ 4 (q:Int)=⟨pr,sv,gr,true,sd,dn,T,max pk T⟩):=ae (by
   unfold bB;dsimp only;rw[X.out,N.out,if_neg ah,if_neg ah,if_pos rfl])
  go_upto_region 20 with fail
  have l:=ae (b.out.sem true);obtain⟨v3,r⟩:=lg ((v2).setCell ⟨p.heap.size,9,none⟩ (.bool true));rw[<-r]at l⊢;clear r b;obtain⟨b,-⟩:_/\True:=⟨l,bO⟩;clear l;obtain⟨D,E,G,I,J,M⟩:=b.out.facts
  go_wp2_with fail
  go_ret;exact⟨rfl,by rw[Q.out];exact b.out.at.ck⟩
 ·have Q:Hid (bB C ⟨pr,sv,gr,em,sd,dn,nw,pk⟩ 5 (q:Int)=⟨pr,sv,gr.set C.jl true,em,true,dn,T,max pk T⟩):=ae (by
   unfold bB;dsimp only;rw[X.out,N.out,if_neg ah,if_neg ah,if_neg ah,if_pos rfl])
  go_upto_region 22 with fail
  have l:=ae (b.out.ssd true);obtain⟨v3,r⟩:=lg ((v2).setCell ⟨p.heap.size,10,none⟩ (.bool true));rw[<-r]at l⊢;clear r b;obtain⟨b,-⟩:_/\True:=⟨l,bO⟩;clear l;obtain⟨D,E,G,I,J,M⟩:=b.out.facts;refine wp_region_still_tail 9 aj aj ?_;change wpStill _ _ (v3).drew _ _ _;simp only[mH,jr,qw,pF]
  repeat still_step
  refine qY ?_
  go_upto_region 23 with fail
  have l:=ae (eX.at (w':=((v3).setCell ⟨p.heap.size+1+1+1,C.jl,none⟩ (.bool true)).drew) (b.out.Ug C.jl true));obtain⟨v4,B⟩:=lg (((v3).setCell ⟨p.heap.size+1+1+1,C.jl,none⟩ (.bool true)).drew);rw[<-B]at l⊢;clear B b;obtain⟨b,-⟩:_/\True:=⟨l,bO⟩;clear l;obtain⟨D,E,G,I,J,M⟩:=b.out.facts
  go_wp2_with fail
  go_ret;exact⟨rfl,by rw[Q.out];exact b.out.at.ck⟩
 ·obtain⟨F,hF⟩:=lh (jA C ⟨pr,sv,gr,em,sd,dn,nw,pk⟩ q);have HF:Hid (jA C ⟨pr,sv,gr,em,sd,dn,T,max pk T⟩ q=F):=ae hF;have Q:Hid (bB C ⟨pr,sv,gr,em,sd,dn,nw,pk⟩ 6 (q:Int)=⟨pr,sv,(iW gr F).set q false,em,sd,dn+1,U,max pk T⟩):=ae (by
   unfold bB;dsimp only;rw[X.out,N.out,Int.toNat_natCast,if_neg ah,if_neg ah,if_neg ah,if_neg ah,HZW.out,HT2.out,hF])
  have HFI:Hid (∀z∈F,0<=z/\z<=m):=ae fun z hz=>by rw[<-hF]at hz;exact anv hP hz
  have hFl:F.length<=1000:=by rw[<-hF];exact abH hP q
  have w3:IntKind.i64.wrap (dn+1)=dn+1:=by rw[bF];omega
  clear hF hg3 hg4;have S:p.heap.size+3<v2.heap.size:=b.out.ck.gr.lt
  go_wp2_with (go_at_call 89;refine(abA hP b.out.ck hq HF).mono ?_;rintro e u ⟨AF,cF,rfl,oF,_⟩)
  have b:=ae (b.out.at (w':=u));have sF0:Sl u AF F.length F:=⟨oF.rd,rfl⟩;have fF:=oF.YF;go_loopw [121] (fun i wr=>∃j:Nat,j<=F.length/\i=.int .i64 j/\Hid (eX p w.heap.size wr ⟨some ⟨bw,ow,none⟩,cW,AC,cC,AI,cI,AO,cO⟩ m C ⟨pr,sv,iW gr (F.take j),em,sd,dn,T,max pk T⟩ 6 (q:Int))/\Sl wr AF F.length F) (fun i _=>F.length-(intOf i).toNat)
  case atStart=>exact⟨0,aS _,rfl,b,sF0⟩
  case round=>
   clear b sF0 E G I J M D;obtain⟨j,hj,rfl,b,sF⟩:=hrel;obtain⟨D,E,G,I,J,M⟩:=b.out.facts;by_cases R:j<F.length
   ·obtain⟨b2,q2,z,rfl,jT,vz,ez⟩:=sF.get R;have hzr:=HFI.out z (aK ez.out);obtain⟨y,rfl⟩:=eF hzr.1;have hy:y<m+1:=om;have hyi:(y:Int)<(m:Int)+1:=by omega
    obtain⟨yb,e5,-⟩:=lq (L:=iW gr (F.take j)) (i:=y) (n:=m+1) (by rw[AR];exact P) hy;have hg5:=iN e5;have HG:Hid (iW gr (F.take (j+1))=(iW gr (F.take j)).set y true):=ae (by rw[take_at ez.out,anw,dD]);clear e5 hzr
    go_wp2_with fail
    go_roundw
    case rel=>exact⟨j+1,om,by go_num,ae (by rw[HG.out];exact b.out.Ug y true),sF.setCell (p:=⟨p.heap.size+1+1+1,y,none⟩) fF S _⟩
    case measure=>simp[intOf];omega
   ·obtain rfl:j=F.length:=om;have Z:=b.out;rw[dB (az _)]at Z;obtain⟨b,-⟩:Hid _/\True:=⟨ae Z,bO⟩;clear Z E G I J M D;obtain⟨D,E,G,I,J,M⟩:=b.out.facts;obtain⟨qb,e5,-⟩:=lq (L:=iW gr F) (i:=q) (n:=m+1) (by rw[AR];exact P) om;have hg5:=iN e5;clear e5
    go_upto_region 29 with fail
    refine wp_region_still_tail 7 aj aj ?_;change wpStill _ _ (wr).drew _ _ _;simp only[mH,jr,qw,pF]
    repeat still_step
    refine qY ?_
    go_upto_region 30 with fail
    have l:=ae (eX.at (w':=((wr).setCell ⟨p.heap.size+1+1+1,q,none⟩ (.bool false)).drew) (b.out.Ug q false));obtain⟨v3,r⟩:=lg (((wr).setCell ⟨p.heap.size+1+1+1,q,none⟩ (.bool false)).drew);rw[<-r]at l⊢;clear r b;obtain⟨b,-⟩:_/\True:=⟨l,bO⟩;clear l;obtain⟨D,E,G,I,J,M⟩:=b.out.facts;refine wp_region_still_tail 15 aj aj ?_;change wpStill _ _ (v3).drew _ _ _;simp only[mH,jr,qw,pF]
    repeat still_step
    refine qY ?_
    go_upto_region 31 with fail
    have l:=ae (eX.at (w':=((v3).setCell ⟨p.heap.size,12,none⟩ (.int .i64 U)).drew) (b.out.Ue U));obtain⟨v4,B⟩:=lg (((v3).setCell ⟨p.heap.size,12,none⟩ (.int .i64 U)).drew);rw[<-B]at l⊢;clear B b;obtain⟨b,-⟩:_/\True:=⟨l,bO⟩;clear l;obtain⟨D,E,G,I,J,M⟩:=b.out.facts
    go_upto_region 32 with fail
    have l:=ae (b.out.sdn (dn+1));obtain⟨v5,hv5⟩:=lg ((v4).setCell ⟨p.heap.size,11,none⟩ (.int .i64 (dn+1)));rw[<-hv5]at l⊢;clear hv5 b;obtain⟨b,-⟩:_/\True:=⟨l,bO⟩;clear l;obtain⟨D,E,G,I,J,M⟩:=b.out.facts
    go_wp2_with fail
    go_ret;exact⟨rfl,by rw[Q.out];exact b.out.at.ck⟩
end
section
variable{p w w':World}{a:mZ}{wb m i:Nat}{C:iQ}{s:di}{ss:List Sp}
theorem abP(hP:jV p a m C ss)(h:dH p w a m C s){kd id E:Int}(hE:iV C s kd id=E)(N:E≠0)(z:0<=s.done)(D: -144115188075855872<=s.now)(F:s.now<=144115188075855872):
  Calls Tryz.prog 35 #[.pointer p.heap.size,.agg #[kd,id]] w (aM w (.int .i64 E)):=by
 have CB:=@bf;have j:C.words.length=m+1:=hP.words.len.symm;have r:=h.gr.lt;by_cases hr:gK kd id=true
 ·by_cases hid:id<=m
  ·rw[iV,if_pos ⟨hr,by rw[j];omega⟩]at hE;obtain⟨q,rfl⟩:=abJ hr;have G:decide ((m:Int)+1<=(q:Int))=false:=by simp;omega
   rcases hb:fV C s kd (q:Int).toNat with _|_
   ·rw[hb]at hE;obtain rfl:24=E:=hE;have I:=ae hb;clear hb j;obtain⟨pr,sv,gr,em,sd,dn,nw,pk⟩:=s;go_enter Tryz.func35,Tryz.ntmps35
    go_upto_region 1 with fail
    refine bI (fun u _ b=>?_);have B:Hid (eX p w.heap.size u _ m C ⟨pr,sv,gr,em,sd,dn,nw,pk⟩ kd (q:Int)):=ae ⟨h.at (w':=u),b.blk,r⟩;clear b r;obtain⟨O,L,P,Q,R,S⟩:=B.out.facts;refine bZ aj (fun y _=>?_);refine ag 0 8 ?_;refine ay 1 fun K hK=>?_;go_simp
    (with_reducible refine(Er).mono ?_)
    rintro e y ⟨rfl,_⟩;dsimp only;refine av hK ?_;clear hK K;refine ag 2 10 ?_;refine ag 3 11 ?_;refine ag 4 12 ?_;refine ag 5 13 ?_;refine ag 6 14 ?_;refine ag 7 15 ?_;refine ag 8 16 ?_;refine ag 9 17 ?_;refine ag 10 18 ?_;refine ag 11 19 ?_;refine ag 12 20 ?_;refine aO ?_
    go_wp2_with (go_at_call 87;refine(Ud hP (B.out.at (w':=y)).ck hr hid z I).mono ?_;rintro e T ⟨rfl,_⟩)
    go_ret;exact⟨rfl,ai _ _⟩
   ·rw[hb,if_pos rfl]at hE;have J:=Uh (s:=s) hP kd (q:Int).toNat;obtain⟨V,hV⟩:=lh (bK C s kd (q:Int).toNat);rw[hV]at hE J;have l:C.cap<s.now+V:=by
     by_cases U:s.now+V<=C.cap
     ·rw[if_pos U]at hE;exact absurd hE.symm N
     ·omega
    rw[if_neg om]at hE;obtain rfl:25=E:=hE;have I:=ae hb;have X:=ae hV;obtain⟨pr,sv,gr,em,sd,dn,nw,pk⟩:=s;dsimp only at l z D F;have w1:IntKind.i64.wrap (nw+V)=nw+V:=by rw[bF];omega
    have Y:decide (C.cap<nw+V)=true:=by simpa using l
    clear hb j hV l;go_enter Tryz.func35,Tryz.ntmps35
    go_upto_region 1 with fail
    refine bI (fun u _ b=>?_);have B:Hid (eX p w.heap.size u _ m C ⟨pr,sv,gr,em,sd,dn,nw,pk⟩ kd (q:Int)):=ae ⟨h.at (w':=u),b.blk,r⟩;clear b r;obtain⟨O,L,P,Q,R,S⟩:=B.out.facts;refine bZ aj (fun y _=>?_);refine ag 0 8 ?_;refine ay 1 fun K hK=>?_;go_simp
    (with_reducible refine(Er).mono ?_)
    rintro e y ⟨rfl,_⟩;dsimp only;refine av hK ?_;clear hK K;refine ag 2 10 ?_;refine ag 3 11 ?_;refine ag 4 12 ?_;refine ag 5 13 ?_;refine ag 6 14 ?_;refine ag 7 15 ?_;refine ag 8 16 ?_;refine ag 9 17 ?_;refine ag 10 18 ?_;refine ag 11 19 ?_;refine ag 12 20 ?_;refine aO ?_
    go_upto_region 5 with(go_at_call 87;refine(Ud hP (B.out.at (w':=y)).ck hr hid z I).mono ?_;rintro e T ⟨rfl,_⟩)
    refine bZ aj (fun M _=>?_);refine ag 0 25 ?_;refine ag 1 26 ?_;refine ag 2 27 ?_;refine ag 3 28 ?_;refine ag 4 29 ?_;refine ag 5 30 ?_;refine ay 6 fun K hK=>?_;go_simp
    (with_reducible refine(abE hP (B.out.at (w':=M)).ck hr hid X).mono ?_)
    rintro e M ⟨rfl,_⟩;dsimp only;refine av hK ?_;clear hK K;refine ag 7 32 ?_;refine ag 8 5 ?_;refine aO ?_
    go_wp2_with fail
    go_ret;exact⟨rfl,ai _ _⟩
  ·rw[iV,if_neg (by rw[j];omega)]at hE;obtain rfl:10=E:=hE;have G:decide ((m:Int)+1<=id)=true:=by simp;omega
   have L:Bx w p.heap.size 108 (jW p a m C s):=⟨h.st⟩;clear j hid;go_enter Tryz.func35,Tryz.ntmps35
   go_upto_region 1 with fail
   refine bI (fun u _ b=>?_);refine bZ aj (fun y _=>?_);refine ag 0 8 ?_;refine ay 1 fun K hK=>?_;go_simp
   (with_reducible refine(Er).mono ?_)
   rintro e y ⟨rfl,_⟩;dsimp only;refine av hK ?_;clear hK K;refine ag 2 10 ?_;refine ag 3 11 ?_;refine ag 4 12 ?_;refine ag 5 13 ?_;refine ag 6 14 ?_;refine ag 7 15 ?_;refine ag 8 16 ?_;refine ag 9 17 ?_;refine ag 10 18 ?_;refine ag 11 19 ?_;refine ag 12 20 ?_;refine aO ?_
   go_wp2_with fail
   go_ret;exact⟨rfl,ai _ _⟩
 ·rw[iV,if_neg (fun h=>hr h.1)]at hE;obtain rfl:10=E:=hE;have Z:gK kd id=false:=by simpa using hr
  clear j hr;go_enter Tryz.func35,Tryz.ntmps35
  go_upto_region 1 with fail
  refine bI (fun u _ b=>?_);refine bZ aj (fun y _=>?_);refine ag 0 8 ?_;refine ay 1 fun K hK=>?_;go_simp
  (with_reducible refine(Er).mono ?_)
  rintro e y ⟨rfl,_⟩;dsimp only;refine av hK ?_;clear hK K;refine ag 2 10 ?_;refine ag 3 11 ?_;refine ax 4 12 ?_;refine ax 5 13 ?_;refine ax 6 14 ?_;refine ax 7 15 ?_;refine ax 8 16 ?_;refine ax 9 17 ?_;refine ax 10 18 ?_;refine ax 11 19 ?_;refine ag 12 20 ?_;refine aO ?_
  go_wp2_with fail
  go_ret;exact⟨rfl,ai _ _⟩
end
section
variable{w w':World}{A B:Option Addr}{n m c d:Nat}{N:aI}
theorem anA{xs:List Int}{j m:Nat}{z:Int}(b:xs.length=j)(h:j<m):(xs++List.replicate (m-j) 0).set j z=(xs++[z])++List.replicate (m-(j+1)) 0:=by
 rw[show m-j=(m-(j+1))+1 from om,uo,yA _ _ om,b,l9,yC];simp
theorem abQ[a:aX w A n B m N](hs:Hid N.small):Calls Tryz.prog 12 #[.agg #[.slice A n c,.slice B m d]] w (Iu w N.ids):=by
 have K:=@bf;have l:Hid (m=N.nodes.length):=ae a.len;have hm:m<=1000:=by rw[l.out];exact hs.out.1
 have C:=Gl m om;go_enter Tryz.func12,Tryz.ntmps12
 go_wp2_with fail
 refine NK (fun u v L _ _ hu F=>?_);have b:Own v (w.heap.size+1) 3 (N.ids.take 0++List.replicate (m-0) 0):=F.blk;clear C;go_loopw [11] (fun i wr=>∃j:Nat,j<=m/\i=.int .i64 j/\Own wr (w.heap.size+1) 3 (N.ids.take j++List.replicate (m-j) 0)/\ak wr w) (fun i _=>m-(intOf i).toNat)
 case atStart=>exact⟨0,aS _,rfl,b,ai _ _⟩
 case round=>
  clear b F;obtain⟨j,M,rfl,b,hp⟩:=hrel;by_cases r:j<m
  ·have e:Hid ((N.ids.take j).length=j):=ae (by rw[dO,Eg,<-l.out];omega);have D:=ae (take_at (Tg (N:=N) (j:=j) (by rw[<-l.out];exact r)));have G:=b.frozen j;have I:=b.cell (i:=j) (z:=0) (by rw[lC (by rw[e.out];exact az _),e.out,l9,sj,if_pos om]);have hK:=b.aF j ((j:Int)+1);rw[anA e.out r,<-D.out]at hK;have J:=ae hK;clear hK b
   go_wp2_with fail
   go_roundw
   case rel=>exact⟨j+1,om,by go_num,J.out,⟨(aL w wr).setCell (p:=⟨w.heap.size+1,j,none⟩) (fu _) _⟩⟩
   case measure=>simp[intOf];omega
  ·obtain rfl:j=m:=om;rw[l9,dB (by rw[Eg,<-l.out];exact az _)]at b;have E:Hid (N.ids.length=j):=ae (by rw[Eg,l.out]);have y:=aG.sZ (B:=w.heap.size) (zs:=N.ids) (by simpa using b) (fu _) (by rw[E.out];omega);rw[E.out]at y
   go_wp2_with fail
   go_ret;exact⟨_,j,by rw[E.out];rfl,y,hp⟩
end
end Go.Proofs.YtmkjnlifimffkaaGreat
