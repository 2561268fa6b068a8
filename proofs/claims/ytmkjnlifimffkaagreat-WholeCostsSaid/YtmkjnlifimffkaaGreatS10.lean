/- Lemmas. No condition. -/
import Derived.Test.YtmkjnlifimffkaaGreatS09
import Derived.Deep.LoopGhost
namespace Go.Proofs.YtmkjnlifimffkaaGreat
open Go.RowKit
set_option linter.all false
set_option maxRecDepth 100000
set_option maxHeartbeats 16000000
section
variable{p w w' u w1:World}{B r g k n i j c m d c' wd:Nat}{a a':oo}{v v':bL}{b:dW}{bs bs':List dW}{A A':Option Addr}{x:Value}{y z h:Int}{zs xs:List Int}
theorem dw.lens(hv:dw v):v.bs.length<=16777216:=by
 have E:v.bs.length<=(v.bs.map (·.wd)).sum:=by
  have:∀L:List dW,(∀b∈L,1<=b.wd)->L.length<=(L.map (·.wd)).sum:=by
   intro L
   induction L with
   |nil=>intro _;simp
   |cons x t e=>
    intro hL;have l:=hL x dN;have C:=e fun y D=>hL y (fI _ D);simp only[fe,jR,iJ];omega
  exact this _ fun b hb=>(hv.lay.bd b hb).1
 have F:=hv.Il;have G:=hv.cl;have l:=hv.cap;have C:=hv.lv;omega
theorem dw.Yo(hv:dw v)(hi:i<=v.bs.length):gD v.bs i<=16777216:=by
 have e:=hv.lay.afJ hi;have l:=hv.cl;have C:=hv.cap;omega
theorem QT(hv:dw v){k m:Nat}(e:k<=v.bs.length):dw (v.gI k m):=(mf.gI hv e).ok
theorem ag6[pw:Later p w](hM:bQ w p.heap.size r a v)(hv:dw v):Calls Tryz.prog 244 #[.pointer r,wd] w (fun e w'=>∃(pk i:Nat) (ok:Bool),e=.returned (.tuple #[i,.bool ok])/\bQ w' p.heap.size r a (v.gI pk v.mv)/\pk<=v.bs.length/\Kf (a.F r) (a.F r) w w'/\
   Hid (ok=true->i<=v.bs.length/\(∀b,v.bs[i]?=some b->gD v.bs i+wd<=b.fr)/\gD v.bs i+wd<=v.cap)):=by
 have CB:=@bf;have CC:=@jK;have FB:=@dV;have O:=ae hv;have HM0:=ae hM;have R:=hv.lens;have hcap:=hv.cap;obtain⟨n,hn⟩:=lh v.bs.length;have C:=ae hn;rw[hn]at R;have MH:Hid (bQ w p.heap.size r a (v.gI v.pk v.mv)):=ae hM;have HP:Hid (v.pk<=n):=ae (by rw[<-hn];exact hv.pk);clear hM hv hn;go_enter Tryz.func244,Tryz.ntmps244
 go_wp2_with fail
 go_loopg [] n (fun kx wr=>∃k:Nat,k<=n/\n-k<=kx/\Hid (bQ wr p.heap.size r a (v.gI k v.mv))/\Hid (Kf (a.F r) (a.F r) w wr)/\ak wr p)
 case atStart=>exact⟨v.pk,HP.out,om,MH,ae (Kf.refl _ _),⟨pw.st⟩⟩
 case round=>
  obtain⟨k,Y,hkx,G,S,hpr⟩:=hrel;have M:Bx wr r 197 #[v.cap,.slice a.Ac v.cs.length a.cc,.slice a.Ab n a.cb,.map (some a.q),k,v.nx,v.lv,v.hi,v.pe,v.mv]:=⟨by have P:=G.out.hd;dsimp only[jh,bL.gI]at P;rw[C.out]at P;exact P⟩;have kb:=M;by_cases hlt:k<n
  ·obtain⟨b,hb⟩:∃b,v.bs[k]?=some b:=⟨_,aW (by rw[C.out];exact hlt)⟩;obtain⟨g,T,-,c1,-⟩:=G.out.blk (v:=v.gI k v.mv) hb;have Z:=O.out.small hb;obtain⟨e,J⟩:=lh (gD v.bs k);have I:Hid (gD (v.gI k v.mv).bs k=e):=ae J;have Q:Hid (k<=(v.gI k v.mv).bs.length):=ae (by show k<=v.bs.length;rw[C.out];exact Y);have E:Hid (dw (v.gI k v.mv)):=ae (QT O.out (by rw[C.out];exact Y));have og:Old g wr:=⟨ku c1.eq⟩;have or:Old r wr:=⟨M.blk.lt⟩;have QU:=ae T;have hwk:IntKind.i64.wrap ((k:Int)-1)=(k:Int)-1:=by rw[bF];omega
   have uJ:=M;rw[T]at uJ;have d0:decide ((k:Int)<(n:Int))=true:=by simpa using hlt
   have i1:(k:Int)<(n:Int):=by omega
   clear T hb J kb M;have kb:=uJ;by_cases U:b.fr=e
   ·have d1:((b.fr:Int)==(e:Int))=true:=by simp[U]
    clear U
    go_upto_region 1 with fail
    refine eU wr aj (fun D _=>?_);refine ag 0 7 ?_;refine ag 1 8 ?_;refine ag 2 9 ?_;refine ag 3 10 ?_;refine ag 4 11 ?_;refine ag 5 12 ?_;refine ag 6 13 ?_;refine ag 7 14 ?_;refine ag 8 15 ?_;refine ag 9 16 ?_;refine ag 10 17 ?_;refine ag 11 18 ?_;refine ag 12 19 ?_;refine ag 13 20 ?_;refine ag 14 21 ?_;refine ag 15 22 ?_;refine ag 16 23 ?_;refine ag 17 24 ?_;refine ag 18 25 ?_;refine ag 19 26 ?_;refine ag 20 27 ?_;refine ag 21 28 ?_;refine ag 22 29 ?_;refine ag 23 30 ?_;refine ag 24 31 ?_;refine ag 25 32 ?_;refine ag 26 33 ?_;refine ag 27 34 ?_;refine ay 28 fun K hK=>?_;go_simp
    (with_reducible refine(Af (w:=D) (ae G.out.at) E Q rfl I).mono ?_)
    rintro e D ⟨rfl,_⟩;dsimp only;refine av hK ?_;clear hK K;refine ag 29 36 ?_;refine ag 30 37 ?_;refine aO ?_
    go_wp2_with fail
    go_roundg (n-(k+1))
    case measure=>omega
    case rel=>exact⟨k+1,om,om,ae ((G.out.at (w':=D)).setH (v':=v.gI (k+1) v.mv) (i:=4) (by rfl) rfl rfl rfl),ae ((S.out.trans (Kf.later _ (w:=wr))).aF (.inl rfl) _),⟨(aL p D).setCell (p:=⟨r,4,none⟩) HM0.out.hr _⟩⟩
   ·have d1:((b.fr:Int)==(e:Int))=false:=by simp;omega
    have M:=kb;clear U
    go_upto_region 1 with fail
    refine eU wr aj (fun D _=>?_);refine ag 0 7 ?_;refine ag 1 8 ?_;refine ag 2 9 ?_;refine ag 3 10 ?_;refine ag 4 11 ?_;refine ag 5 12 ?_;refine ag 6 13 ?_;refine ag 7 14 ?_;refine ag 8 15 ?_;refine ag 9 16 ?_;refine ag 10 17 ?_;refine ag 11 18 ?_;refine ag 12 19 ?_;refine ag 13 20 ?_;refine ag 14 21 ?_;refine ag 15 22 ?_;refine ag 16 23 ?_;refine ag 17 24 ?_;refine ag 18 25 ?_;refine ag 19 26 ?_;refine ag 20 27 ?_;refine ag 21 28 ?_;refine ag 22 29 ?_;refine ag 23 30 ?_;refine ag 24 31 ?_;refine ag 25 32 ?_;refine ag 26 33 ?_;refine ag 27 34 ?_;refine ay 28 fun K hK=>?_;go_simp
    (with_reducible refine(Af (w:=D) (ae G.out.at) E Q rfl I).mono ?_)
    rintro e D ⟨rfl,_⟩;dsimp only;refine av hK ?_;clear hK K;refine ag 29 36 ?_;refine ag 30 37 ?_;refine aO ?_
    skip
    clear d0 d1 c1 Z I Q E uJ i1 og or QU hwk;have l:=ae (G.out.at (w':=D));have V:Hid (Kf (a.F r) (a.F r) w D):=ae (S.out.trans (Kf.later _ (w:=wr)));have X:Bx D r 197 #[v.cap,.slice a.Ac v.cs.length a.cc,.slice a.Ab n a.cb,.map (some a.q),k,v.nx,v.lv,v.hi,v.pe,v.mv]:=⟨by have P:=l.out.hd;dsimp only[jh,bL.gI]at P;rw[C.out]at P;exact P⟩;have E:Hid (dw (v.gI k v.mv)):=ae (QT O.out (by rw[C.out];exact Y));have QV:Old r D:=⟨X.blk.lt⟩;clear G S kb M
    go_wp2_with fail
    go_loopw [6] (fun s wy=>∃i:Nat,i<=n/\s=.int .i64 (i:Int)/\ak wy D) (fun s _=>n-(intOf s).toNat)
    case atStart=>exact⟨k,Y,rfl,ai _ _⟩
    case round=>
     obtain⟨i,hi,rfl,hp6⟩:=hrel;by_cases hin:i<n
     ·obtain⟨b,hb⟩:∃b,v.bs[i]?=some b:=⟨_,aW (by rw[C.out];exact hin)⟩;obtain⟨g,T,-,c1,-⟩:=l.out.blk (v:=v.gI k v.mv) hb;have Z:=O.out.small hb;have hel:=O.out.lay.Qu hb;obtain⟨e,J⟩:=lh (gD v.bs i);rw[J]at hel;have I:Hid (gD (v.gI k v.mv).bs i=e):=ae J;have Q:Hid (i<=(v.gI k v.mv).bs.length):=ae (by show i<=v.bs.length;rw[C.out];exact hi);have og5:Old g D:=⟨ku c1.eq⟩;have HB:=ae hb;have QU:=ae T;rw[T]at X;have hwr:IntKind.i64.wrap ((b.fr:Int)-(e:Int))=(b.fr:Int)-(e:Int):=by rw[bF];omega
      have Yp:IntKind.i64.wrap ((i:Int)-1)=(i:Int)-1:=by rw[bF];omega
      have i1:(i:Int)<(n:Int):=by omega
      clear T hb J;by_cases U:e+wd<=b.fr
      ·have d1:decide ((wd:Int)<=(b.fr:Int)-(e:Int))=true:=by simp;omega
       have HC:=ae U;clear U
       go_upto_region 6 with fail
       refine eU wr aj (fun L _=>?_);refine ag 0 58 ?_;refine ag 1 59 ?_;refine ag 2 60 ?_;refine ag 3 61 ?_;refine ag 4 62 ?_;refine ag 5 63 ?_;refine ag 6 64 ?_;refine ag 7 65 ?_;refine ag 8 66 ?_;refine ag 9 67 ?_;refine ag 10 68 ?_;refine ag 13 71 ?_;refine ay 11 fun K hK=>?_;go_simp
       (with_reducible refine(Af (w:=L) (ae l.out.at) E Q rfl I).mono ?_)
       rintro e L ⟨rfl,_⟩;dsimp only;refine av hK ?_;clear hK K;refine ag 12 70 ?_;refine ag 14 72 ?_;refine aO ?_
       go_wp2_with fail
       go_ret2;refine⟨k,i,true,rfl,l.out.at,by rw[C.out];exact Y,V.out.trans (Kf.later _ (w:=D)),ae fun _=>⟨by rw[C.out];exact hi,fun b' N=>?_,?_⟩⟩
       ·obtain rfl:b=b':=eP (HB.out.symm.trans N);exact aZ (lH (eD (· +wd) I.out)) HC.out
       ·have h7:gD v.bs i=e:=I.out;have h8:=(O.out.lay.bd b (aK HB.out)).2;have P:=O.out.cl;have h6:=HC.out;omega
      ·have d1:decide ((wd:Int)<=(b.fr:Int)-(e:Int))=false:=by simp;omega
       clear U
       go_upto_region 6 with fail
       refine eU wr aj (fun L _=>?_);refine ag 0 58 ?_;refine ag 1 59 ?_;refine ag 2 60 ?_;refine ag 3 61 ?_;refine ag 4 62 ?_;refine ag 5 63 ?_;refine ag 6 64 ?_;refine ag 7 65 ?_;refine ag 8 66 ?_;refine ag 9 67 ?_;refine ag 10 68 ?_;refine ag 13 71 ?_;refine ay 11 fun K hK=>?_;go_simp
       (with_reducible refine(Af (w:=L) (ae l.out.at) E Q rfl I).mono ?_)
       rintro e L ⟨rfl,_⟩;dsimp only;refine av hK ?_;clear hK K;refine ag 12 70 ?_;refine ag 14 72 ?_;refine aO ?_
       go_wp2_with fail
       go_roundw
       case rel=>exact⟨i+1,om,by go_num,ai _ _⟩
       case measure=>simp[intOf];omega
     ·obtain rfl:i=n:=om;obtain⟨e,J⟩:=lh (gD v.bs i);have hes:=O.out.Yo (i:=i) (by rw[C.out];exact az _);rw[J]at hes;have I:Hid (gD (v.gI k v.mv).bs i=e):=ae J;have Q:Hid (i<=(v.gI k v.mv).bs.length):=ae (by show i<=v.bs.length;rw[C.out];exact hi);have hwr:IntKind.i64.wrap ((v.cap:Int)-(e:Int))=(v.cap:Int)-(e:Int):=by rw[bF];omega
      have hwn:IntKind.i64.wrap ((i:Int)-1)=(i:Int)-1:=by rw[bF];omega
      obtain⟨ok,hok⟩:=lh (decide ((wd:Int)<=(v.cap:Int)-(e:Int)));have pV:=ae hok;have qD:=ae R;clear J
      go_upto_region 8 with fail
      refine eU wr aj (fun L _=>?_);refine ag 0 74 ?_;refine ag 1 75 ?_;refine ag 2 76 ?_;refine ag 3 77 ?_;refine ag 4 78 ?_;refine ag 5 79 ?_;refine ag 6 80 ?_;refine ag 7 81 ?_;refine ag 8 82 ?_;refine ag 9 83 ?_;refine ag 10 84 ?_;refine ag 11 85 ?_;refine ag 12 86 ?_;refine ag 13 87 ?_;refine ag 14 88 ?_;refine ag 15 89 ?_;refine ag 18 92 ?_;refine ay 16 fun K hK=>?_;go_simp
      (with_reducible refine(Af (w:=L) (ae l.out.at) E Q rfl I).mono ?_)
      rintro e L ⟨rfl,_⟩;dsimp only;refine av hK ?_;clear hK K;refine ag 17 91 ?_;refine ag 19 93 ?_;refine ag 20 4 ?_;refine ag 21 5 ?_;refine aO ?_
      go_wp2_with fail
      go_ret2;refine⟨k,i,ok,rfl,l.out.at,by rw[C.out];exact Y,V.out.trans (Kf.later _ (w:=D)),ae fun h=>⟨by rw[C.out];exact az _,fun b' N=>?_,?_⟩⟩
      ·have:=(aY.1 N).1;rw[C.out]at this;omega
      ·have h7:gD v.bs i=e:=I.out;have h8:=pV.out;rw[h]at h8;have:=Bu h8;omega
  ·have d0:decide ((k:Int)<(n:Int))=false:=by simp;omega
   go_upto_region 1 with fail
   refine eU wr aj (fun D _=>?_);refine ag 0 7 ?_;refine ag 1 8 ?_;refine ag 2 9 ?_;refine ag 3 10 ?_;refine ag 4 11 ?_;refine ag 5 12 ?_;refine ag 6 13 ?_;refine ag 7 14 ?_;refine ag 8 15 ?_;refine ag 9 16 ?_;refine ag 10 17 ?_;refine ax 11 18 ?_;refine ax 12 19 ?_;refine ax 13 20 ?_;refine ax 14 21 ?_;refine ax 15 22 ?_;refine ax 16 23 ?_;refine ax 17 24 ?_;refine ax 18 25 ?_;refine ax 19 26 ?_;refine ax 20 27 ?_;refine ax 21 28 ?_;refine ax 22 29 ?_;refine ax 23 30 ?_;refine ax 24 31 ?_;refine ax 25 32 ?_;refine ax 26 33 ?_;refine ax 27 34 ?_;refine ax 28 35 ?_;refine ax 29 36 ?_;refine ag 30 37 ?_;refine aO ?_
   skip
   clear d0;have l:=ae (G.out.at (w':=D));have V:Hid (Kf (a.F r) (a.F r) w D):=ae (S.out.trans (Kf.later _ (w:=wr)));have X:Bx D r 197 #[v.cap,.slice a.Ac v.cs.length a.cc,.slice a.Ab n a.cb,.map (some a.q),k,v.nx,v.lv,v.hi,v.pe,v.mv]:=⟨by have P:=l.out.hd;dsimp only[jh,bL.gI]at P;rw[C.out]at P;exact P⟩;have E:Hid (dw (v.gI k v.mv)):=ae (QT O.out (by rw[C.out];exact Y));have QV:Old r D:=⟨X.blk.lt⟩;clear G S kb M
   go_wp2_with fail
   go_loopw [6] (fun s wy=>∃i:Nat,i<=n/\s=.int .i64 (i:Int)/\ak wy D) (fun s _=>n-(intOf s).toNat)
   case atStart=>exact⟨k,Y,rfl,ai _ _⟩
   case round=>
    obtain⟨i,hi,rfl,hp6⟩:=hrel;by_cases hin:i<n
    ·obtain⟨b,hb⟩:∃b,v.bs[i]?=some b:=⟨_,aW (by rw[C.out];exact hin)⟩;obtain⟨g,T,-,c1,-⟩:=l.out.blk (v:=v.gI k v.mv) hb;have Z:=O.out.small hb;have hel:=O.out.lay.Qu hb;obtain⟨e,J⟩:=lh (gD v.bs i);rw[J]at hel;have I:Hid (gD (v.gI k v.mv).bs i=e):=ae J;have Q:Hid (i<=(v.gI k v.mv).bs.length):=ae (by show i<=v.bs.length;rw[C.out];exact hi);have og5:Old g D:=⟨ku c1.eq⟩;have HB:=ae hb;have QU:=ae T;rw[T]at X;have hwr:IntKind.i64.wrap ((b.fr:Int)-(e:Int))=(b.fr:Int)-(e:Int):=by rw[bF];omega
     have Yp:IntKind.i64.wrap ((i:Int)-1)=(i:Int)-1:=by rw[bF];omega
     have i1:(i:Int)<(n:Int):=by omega
     clear T hb J;by_cases U:e+wd<=b.fr
     ·have d1:decide ((wd:Int)<=(b.fr:Int)-(e:Int))=true:=by simp;omega
      have HC:=ae U;clear U
      go_upto_region 6 with fail
      refine eU wr aj (fun L _=>?_);refine ag 0 58 ?_;refine ag 1 59 ?_;refine ag 2 60 ?_;refine ag 3 61 ?_;refine ag 4 62 ?_;refine ag 5 63 ?_;refine ag 6 64 ?_;refine ag 7 65 ?_;refine ag 8 66 ?_;refine ag 9 67 ?_;refine ag 10 68 ?_;refine ag 13 71 ?_;refine ay 11 fun K hK=>?_;go_simp
      (with_reducible refine(Af (w:=L) (ae l.out.at) E Q rfl I).mono ?_)
      rintro e L ⟨rfl,_⟩;dsimp only;refine av hK ?_;clear hK K;refine ag 12 70 ?_;refine ag 14 72 ?_;refine aO ?_
      go_wp2_with fail
      go_ret2;refine⟨k,i,true,rfl,l.out.at,by rw[C.out];exact Y,V.out.trans (Kf.later _ (w:=D)),ae fun _=>⟨by rw[C.out];exact hi,fun b' N=>?_,?_⟩⟩
      ·obtain rfl:b=b':=eP (HB.out.symm.trans N);exact aZ (lH (eD (· +wd) I.out)) HC.out
      ·have h7:gD v.bs i=e:=I.out;have h8:=(O.out.lay.bd b (aK HB.out)).2;have P:=O.out.cl;have h6:=HC.out;omega
     ·have d1:decide ((wd:Int)<=(b.fr:Int)-(e:Int))=false:=by simp;omega
      clear U
      go_upto_region 6 with fail
      refine eU wr aj (fun L _=>?_);refine ag 0 58 ?_;refine ag 1 59 ?_;refine ag 2 60 ?_;refine ag 3 61 ?_;refine ag 4 62 ?_;refine ag 5 63 ?_;refine ag 6 64 ?_;refine ag 7 65 ?_;refine ag 8 66 ?_;refine ag 9 67 ?_;refine ag 10 68 ?_;refine ag 13 71 ?_;refine ay 11 fun K hK=>?_;go_simp
      (with_reducible refine(Af (w:=L) (ae l.out.at) E Q rfl I).mono ?_)
      rintro e L ⟨rfl,_⟩;dsimp only;refine av hK ?_;clear hK K;refine ag 12 70 ?_;refine ag 14 72 ?_;refine aO ?_
      go_wp2_with fail
      go_roundw
      case rel=>exact⟨i+1,om,by go_num,ai _ _⟩
      case measure=>simp[intOf];omega
    ·obtain rfl:i=n:=om;obtain⟨e,J⟩:=lh (gD v.bs i);have hes:=O.out.Yo (i:=i) (by rw[C.out];exact az _);rw[J]at hes;have I:Hid (gD (v.gI k v.mv).bs i=e):=ae J;have Q:Hid (i<=(v.gI k v.mv).bs.length):=ae (by show i<=v.bs.length;rw[C.out];exact hi);have hwr:IntKind.i64.wrap ((v.cap:Int)-(e:Int))=(v.cap:Int)-(e:Int):=by rw[bF];omega
     have hwn:IntKind.i64.wrap ((i:Int)-1)=(i:Int)-1:=by rw[bF];omega
     obtain⟨ok,hok⟩:=lh (decide ((wd:Int)<=(v.cap:Int)-(e:Int)));have pV:=ae hok;have qD:=ae R;clear J
     go_upto_region 8 with fail
     refine eU wr aj (fun L _=>?_);refine ag 0 74 ?_;refine ag 1 75 ?_;refine ag 2 76 ?_;refine ag 3 77 ?_;refine ag 4 78 ?_;refine ag 5 79 ?_;refine ag 6 80 ?_;refine ag 7 81 ?_;refine ag 8 82 ?_;refine ag 9 83 ?_;refine ag 10 84 ?_;refine ag 11 85 ?_;refine ag 12 86 ?_;refine ag 13 87 ?_;refine ag 14 88 ?_;refine ag 15 89 ?_;refine ag 18 92 ?_;refine ay 16 fun K hK=>?_;go_simp
     (with_reducible refine(Af (w:=L) (ae l.out.at) E Q rfl I).mono ?_)
     rintro e L ⟨rfl,_⟩;dsimp only;refine av hK ?_;clear hK K;refine ag 17 91 ?_;refine ag 19 93 ?_;refine ag 20 4 ?_;refine ag 21 5 ?_;refine aO ?_
     go_wp2_with fail
     go_ret2;refine⟨k,i,ok,rfl,l.out.at,by rw[C.out];exact Y,V.out.trans (Kf.later _ (w:=D)),ae fun h=>⟨by rw[C.out];exact az _,fun b' N=>?_,?_⟩⟩
     ·have:=(aY.1 N).1;rw[C.out]at this;omega
     ·have h7:gD v.bs i=e:=I.out;have h8:=pV.out;rw[h]at h8;have:=Bu h8;omega
end
section
variable{p w w' u w1:World}{B r g k n i j c m d c' t:Nat}{a a':oo}{v v':bL}{b:dW}{bs bs':List dW}{A A':Option Addr}{x:Value}{y z h:Int}{zs xs:List Int}
theorem bQ.aha(l:bQ w B r a v)(D:a.Ab=some ⟨g,0,none⟩)(hi:v.bs[i]?=some b):bQ (w.setCell ⟨g,i*3+1,none⟩ (.int .i64 (t:Int))) B r a {v with bs:=v.bs.set i ⟨b.h,t,b.wd⟩}:=by
 obtain⟨p1,G,E⟩:=l.apart;have C:AF a.Ab g:=by rw[D];exact⟨_,rfl,rfl⟩
 have hb:=l.bs;rw[D]at hb;have F:(v.bs.set i ⟨b.h,t,b.wd⟩).length=v.bs.length:=jQ ..;refine⟨?_,?_,?_,?_,l.hr,l.hq⟩
 ·have:jh a {v with bs:=v.bs.set i ⟨b.h,t,b.wd⟩}=jh a v:=by dsimp only[jh];rw[F]
  rw[this];exact l.hd.far (lI (E g C).1) _
 ·exact l.cs.same fun ad e=>dM w ⟨g,_,none⟩ _ _ fun I=>(G ad.block ⟨ad,e,rfl⟩).2.2 (by rw[show ad.block=g from I];exact C)
 ·show aP _ _ _ _ _ _ (v.bs.set i ⟨b.h,t,b.wd⟩).length (gY (v.bs.set i ⟨b.h,t,b.wd⟩))
  rw[F,D,agI hi];exact hb.Ir _
 ·exact l.mp.same (dM w ⟨g,_,none⟩ _ _ (lI (E g C).2))
theorem ahb{bs:List dW}(hi:bs[i]?=some b)(t:Nat):(((bs.set i ⟨b.h,t,b.wd⟩).take (i+1)).map (·.wd)).sum=((bs.take i).map (·.wd)).sum+b.wd:=by
 have l:=(aY.1 hi).1;have e:(bs.set i ⟨b.h,t,b.wd⟩).take (i+1)=bs.take i++[⟨b.h,t,b.wd⟩]:=by
  rw[vO,qX l,Lj (az i)];rfl
 rw[e];simp
theorem ahc[pw:Later p w](hM:bQ w p.heap.size r a v)(hv:dw v)(hmv:v.mv<=1000000000000):Calls Tryz.prog 245 #[.pointer r] w (fun e w'=>e=.returned (.tuple #[])/\∃v',Hid (bQ w' p.heap.size r a v')/\Hid (mf v v')/\Hid (v'.bs.length=v.bs.length)/\Hid (gD v'.bs v'.bs.length=v.lv)/\Hid (v'.mv=v.mv+1)/\Hid (Kf (a.F r) (a.F r) w w')):=by
 have CC:=@jK;have hlen:=hv.lens;obtain⟨n,hn⟩:=lh v.bs.length;have HN:=ae hn;rw[hn]at hlen;have HV:=ae hv;have Z:=ae hM;have c2:Cl w r 2 (.slice a.Ab n a.cb):=⟨by rw[hM.hd.cell 2,<-hn];rfl⟩;have QW:Old r w:=⟨hM.hd.lt⟩;clear hM hv hn;go_enter Tryz.func245,Tryz.ntmps245
 go_wp2_with fail
 go_loopw [2,10] (fun s x wr=>∃(i t:Nat) (v1:bL),i<=n/\s=.int .i64 (t:Int)/\x=.int .i64 (i:Int)/\Hid (bQ wr p.heap.size r a v1)/\Hid (mf v v1)/\Hid (v1.bs.length=n)/\Hid (gD v1.bs i=t)/\Hid (t=((v1.bs.take i).map (·.wd)).sum)/\Hid (v1.mv=v.mv)/\Hid (Kf (a.F r) (a.F r) w wr)/\ak wr p) (fun _ x _=>n-(intOf x).toNat)
 case atStart=>exact⟨0,0,v,aS _,rfl,rfl,Z,ae (mf.refl HV.out),HN,ae rfl,ae au,ae rfl,ae (Kf.refl _ _),⟨pw.st⟩⟩
 case round=>
  obtain⟨i,t,v1,hi,rfl,rfl,l,I,D,FJ,Iz,uL,Yq,hpr⟩:=hrel;clear c2 QW;have QX:∀k,wr.frozen? ⟨r,k,none⟩=false:=fun k=>l.out.hd.frozen k;have c2:Cl wr r 2 (.slice a.Ab n a.cb):=⟨by rw[l.out.hd.cell 2,<-D.out];rfl⟩;have QY:Old r wr:=⟨l.out.hd.lt⟩;by_cases hlt:i<n
  ·obtain⟨b,hb⟩:∃b,v1.bs[i]?=some b:=⟨_,aW (by rw[D.out];exact hlt)⟩;have J:=I.out.ok;obtain⟨g,hA,c10,c11,c12⟩:=l.out.blk hb;obtain⟨E,QZ,sc,l1,l2,l3,l4,l5,hsl2⟩:=l.out.row J hb;have hte:t<=b.fr:=by rw[<-FJ.out];exact J.lay.Qu hb
   have c1:Cl wr r 1 (.slice E v1.cs.length a.cc):=⟨by rw[l.out.hd.cell 1,<-QZ];rfl⟩;have og1:Old g wr:=⟨ku c11.eq⟩;have HB:=ae hb;have FK:=ae J;have Yr:=ae hA;have Q0:=ae QZ;have SC:=ae sc;have rq:Hid ((cont v1.cs b).length=b.wd):=ae (BK l3);have HT:Hid (t+b.wd<=v1.cs.length):=ae om;have IA:=ae hte;have Q5:Hid ((v1.mp.map (·.1)).Nodup):=ae J.BL;have FL:Hid (b.h∈v1.mp.map (·.1)):=ae (dG.2 ⟨_,J.yN b (aK hb),rfl⟩);have hsl1:∀W:World,(Instr.slice 26 (.slice E v1.cs.length a.cc) (some (.int .i64 (t:Int))) (some (.int .i64 ((t:Int)+(b.wd:Int)))) none).run Tryz.prog W=.ok (.slice (some ⟨E,t,none⟩) b.wd (a.cc-t)) W:=fun W=>by
    have hso:∀W,(sizeOf (Tryz.prog.elem 26)).run Tryz.prog W=.ok 1 W:=fun W=>by
     obtain⟨ii,e1,e2⟩:=bN.1 (show(Tryz.prog.info? (Tryz.prog.elem 26)).map (·.size)=some 1 from by kernel_rfl);simp[sizeOf,typeInfo,e1,e2]
    rw[BD W 26 (some ⟨E,0,none⟩) v1.cs.length a.cc aj .i64 .i64 (t:Int) ((t:Int)+(b.wd:Int)) om om om,hso];have e1:((t:Int)+(b.wd:Int)).toNat=t+b.wd:=by omega
    have e2:¬a.cc=t:=om;have e3:t+b.wd-t=b.wd:=om;simp[Result.andThen,sliced,e1,e2,e3,eu]
   have hw1:IntKind.i64.wrap ((t:Int)+(b.wd:Int))=(t:Int)+(b.wd:Int):=by rw[bF];omega
   have hw2:IntKind.i64.wrap ((b.fr:Int)+(b.wd:Int))=(b.fr:Int)+(b.wd:Int):=by rw[bF];omega
   rw[hA]at c2;have i1:(i:Int)<(n:Int):=by omega
   clear hb J hA QZ sc l1 l2 l3 l4 l5 hte
   go_upto_region 5 with fail
   refine j6 p (fun w9=>Cl w9 r 1 (.slice E v1.cs.length a.cc)/\Cl w9 g (i*3+1) (.int .i64 (b.fr:Int))/\Cl w9 g (i*3+2) (.int .i64 (b.wd:Int))) aj ⟨iin,iin,iin⟩ (fun M _=>?_);refine bT 0 19 ?_;refine bT 1 20 ?_;refine bT 2 21 ?_;refine bT 3 22 ?_;refine bT 4 23 ?_;refine bT 5 24 ?_;refine bT 6 25 ?_;refine bT 7 26 ?_;refine bT 8 27 ?_;refine bT 9 28 ?_;refine bT 10 29 ?_;refine bT 11 30 ?_;refine bT 12 31 ?_;refine bT 13 32 ?_;refine bT 14 33 ?_;refine bT 15 34 ?_;refine bT 16 35 ?_;refine bT 17 36 ?_;refine bT 18 37 ?_;refine bT 19 38 ?_;refine bT 20 39 ?_;refine bT 21 40 ?_;refine bT 22 41 ?_;refine bT 23 42 ?_;refine bT 24 43 ?_;refine bT 25 44 ?_;refine bT 26 45 ?_;refine bT 27 46 ?_;refine bT 28 47 ?_;refine bT 29 48 ?_;refine ay 30 fun K hK=>?_;have N:=l.out.at (w':=M);have O:=N.cs;rw[Q0.out]at O;obtain⟨X,hcp,Q6⟩:=Yk (ad:=⟨E,b.fr,none⟩) (t:=t) (xs:=cont v1.cs b) O (fun j z hj=>(SC.out.rd.below (aL wr M)).all hj|>fun h=>by rw[eu];exact h) (by rw[rq.out];exact HT.out);rw[rq.out]at hcp;have S:AF a.Ac E:=by rw[Q0.out];exact⟨_,rfl,rfl⟩
   have hgr:E≠r:=(N.apart.2.1 E S).1;have Ai:p.heap.size<=E:=(N.lt E (.inr (.inr (.inl S)))).1;have hgg:E≠g:=fun e=>(N.apart.2.1 E S).2.2 (by rw[Yr.out,e];exact⟨_,rfl,rfl⟩);have L:=ae (N.cells Q0.out Q6 (BJ (by rw[rq.out];exact HT.out)));have yU:Hid (Kf (a.F r) (a.F r) w (M.setRow E X)):=ae ((Yq.out.trans (Kf.later _ (w:=wr))).trans (MF (.inr (.inr (.inl S))) X));refine Dx rfl _ _ 26 26 rfl _ _ rfl rfl (hcp _ _ _) ?_;refine av hK ?_ ⟨⟨⟨(aL p M).os,(aL p M).tape,(aL p M).output,by rw[size_setRow];exact(aL p M).size,fun b hb=>by rw[mK om];exact(aL p M).block b hb⟩⟩,⟨(jG (mK (lI hgr) X)).trans (Cl.eq (w:=M))⟩,⟨(jG (mK (lI hgg) X)).trans (Cl.eq (w:=M))⟩,⟨(jG (mK (lI hgg) X)).trans (Cl.eq (w:=M))⟩⟩;clear hK K;refine aO ?_
   skip
   obtain⟨v2,T⟩:=lg ({v1 with cs:=iM v1.cs t (cont v1.cs b)});rw[<-T]at L;obtain⟨W1,hW1⟩:=lg (M.setRow E X);rw[<-hW1]at L yU;have hb2:v2.bs[i]?=some b:=by rw[T];exact HB.out
   obtain⟨g2,U,-,d11,-⟩:=L.out.blk hb2;obtain rfl:g2=g:=by have G:=Yr.out;rw[U]at G;injection G with G;injection G
   have fg1:∀k,W1.frozen? ⟨g2,k,none⟩=false:=fun k=>by
    have G:=L.out.bs;rw[U]at G;obtain⟨cur,Q7,_⟩:=G.whole;simp[World.frozen?,Q7]
   have HA2:=ae U;clear U;rw[<-hW1];have FM:=ae T;have HB2:=ae hb2;clear T hb2 hW1 c10 c11 c12 c1 c2 og1 QX QY hsl1 hsl2
   go_upto_region 7 with fail
   obtain⟨W2,V⟩:=lg (W1.setCell ⟨g2,i*3+1,none⟩ (.int .i64 (t:Int)));have hM2:bQ W2 p.heap.size r a {v2 with bs:=v2.bs.set i ⟨b.h,t,b.wd⟩}:=by rw[V];exact L.out.aha HA2.out HB2.out
   have hag:AF a.Ab g2:=by rw[HA2.out];exact⟨_,rfl,rfl⟩
   have P:=ae hM2;have lN:Hid (Kf (a.F r) (a.F r) w W2):=ae (by rw[V];exact yU.out.aF (.inr (.inr (.inr hag))) _);have Q8:Hid (g2≠a.q):=ae (L.out.apart.2.2 g2 hag).2;have pW2:ak W2 p:=lN.out.prev fun b hb=>(Z.out.lt b hb).1;have hl3:i<v2.bs.length:=(aY.1 HB2.out).1;obtain⟨g3,C,d20,-,d22⟩:=P.out.blk (i:=i) (b:=⟨b.h,t,b.wd⟩) (by show(v2.bs.set i _)[i]?=_;rw[qX hl3]);obtain rfl:g3=g2:=by rw[HA2.out]at C;injection C with C;injection C with C;exact C.symm
   have d23:Cl W2 r 3 (.map (some a.q)):=⟨P.out.hd.cell 3⟩;have og2:Old g3 W2:=⟨ku d20.eq⟩;dsimp only at d20 d22;have Q5:Hid (((({v2 with bs:=v2.bs.set i ⟨b.h,t,b.wd⟩}:bL).mp).map (·.1)).Nodup):=ae (by rw[FM.out];exact Q5.out);have FL:Hid (b.h∈(({v2 with bs:=v2.bs.set i ⟨b.h,t,b.wd⟩}:bL).mp).map (·.1)):=ae (by rw[FM.out];exact FL.out);have ahh:=ae C;have Aj:=ae hl3;rw[<-V];clear V hM2 hag d11 fg1 C hl3;refine j6 p (fun w9=>Cl w9 r 3 (.map (some a.q))/\Cl w9 g3 (i*3) (.int .i64 (b.h:Int))) aj ⟨iin,iin⟩ (fun Y _=>?_);refine bu 0 54 ?_;refine bu 1 55 ?_;refine bu 2 56 ?_;refine bu 3 57 ?_;refine bu 4 58 ?_;refine bu 5 59 ?_;refine bu 6 60 ?_;refine bu 7 61 ?_;refine bu 8 62 ?_;refine ay 9 fun K hK=>?_;obtain⟨W3,hput,Iy,Q,hs3,R⟩:=(P.out.at (w':=Y)).mp.agH (k:=b.h) (z:=(t:Int)) Q5.out FL.out;have Q9:=(P.out.at (w':=Y)).QO Iy Q;have MG:=ae Q9;have rf:Hid (Kf (a.F r) (a.F r) w W3):=ae ((lN.out.trans (Kf.later _ (w:=W2))).trans (QP (.inr (.inl rfl)) Q hs3 R));have hpq:p.heap.size<=a.q:=P.out.hq;go_simp;refine av hK ?_ ⟨⟨⟨R.os.trans (aL p Y).os,R.tape.trans (aL p Y).tape,R.output.trans (aL p Y).output,by rw[hs3];exact(aL p Y).size,fun b hb=>by rw[Q b om];exact(aL p Y).block b hb⟩⟩,⟨Q9.hd.cell 3⟩,⟨(jG (Q g3 Q8.out)).trans (Cl.eq (w:=Y))⟩⟩;clear hK K hput Iy Q hs3 R Q9;refine aO ?_
   skip
   have d32:Cl W3 g3 (i*3+2) (.int .i64 (b.wd:Int)):=by
    obtain⟨g4,hA4,-,-,e2⟩:=MG.out.blk (i:=i) (b:=⟨b.h,t,b.wd⟩) (by show(v2.bs.set i _)[i]?=_;rw[qX Aj.out]);obtain rfl:g4=g3:=by have G:=ahh.out;rw[hA4]at G;injection G with G;injection G
    exact e2
   go_wp2_with fail
   go_roundw
   case rel=>
    refine⟨i+1,t+b.wd,v1.move i b t,om,by go_num,by go_num,?_,ae (I.out.trans (mf.move FK.out HB.out (lH FJ.out) IA.out)),ae ?_,ae ?_,ae ?_,uL,rf,rf.out.prev fun b hb=>(Z.out.lt b hb).1⟩
    ·have G:=MG.out;rw[FM.out]at G;exact ae G
    ·show(v1.bs.set i _).length=n
     rw[jQ];exact D.out
    ·show gD (v1.bs.set i _) (i+1)=t+b.wd
     exact Ik (qX (aY.1 HB.out).1)
    ·show t+b.wd=(((v1.bs.set i _).take (i+1)).map (·.wd)).sum
     rw[ahb HB.out,<-Iz.out]
   case measure=>simp[intOf];omega
  ·obtain rfl:i=n:=om;have c9:Cl wr r 9 (.int .i64 (v1.mv:Int)):=⟨l.out.hd.cell 9⟩;have c4:Cl wr r 4 (.int .i64 (v1.pk:Int)):=⟨l.out.hd.cell 4⟩;have hw9:IntKind.i64.wrap ((v1.mv:Int)+1)=((v1.mv+1:Nat):Int):=by rw[uL.out,bF];omega
   go_wp2_with fail
   refine⟨rfl,.tuple #[],by simp[results,Tryz.results245,go_sem],rfl,v1.gI i (v1.mv+1),?_,ae (I.out.trans (mf.gI I.out.ok (by rw[D.out];exact az _))),ae (by show v1.bs.length=_;rw[D.out,HN.out]),ae ?_,ae (by show v1.mv+1=_;rw[uL.out]),?_⟩
   ·exact ae ((l.out.setH (v':=v1.gI i v1.mv) (i:=4) (x:=.int .i64 (i:Int)) (by rfl) rfl rfl rfl).setH (v':=v1.gI i (v1.mv+1)) (i:=9) (by rfl) rfl rfl rfl)
   ·show gD v1.bs v1.bs.length=v.lv
    rw[D.out,FJ.out,Iz.out,<-D.out,jq,<-I.out.lv];exact I.out.ok.lv.symm
   ·exact ae ((Yq.out.aF (.inl rfl) _).aF (.inl rfl) _)
end
section
variable{w w':World}{B g k n c t:Nat}{A:Option Addr}{zs:List Int}{cur:Array Value}
theorem MI(k:Nat):Builtin.zeroCells (Value.cells (.int .i64 0)) k=(List.replicate k (Value.int .i64 0)).toArray:=by
 apply Di;simp[Builtin.zeroCells,Value.cells];apply LD
 ·simp
 ·intro i b e;simp[Nat.mod_one]
theorem ahk(hg:w.heap[g]?=some (.cells cur 65 (0,0)))(C:cur.size=c)(hr:n+k<=c)(D:0<k)(E:k<=100000000)(m:TypeId):
  (Builtin.append_ #[26,3] m #[.slice g n c,k]).run Tryz.prog w=.ok (.slice g (n+k) c) (w.setRow g (cur.toList.take n++List.replicate k (Value.int .i64 0)++cur.toList.drop (n+k)).toArray):=by
 obtain⟨i,hi,b⟩:=bN.1 (show(Tryz.prog.info? 65).map (fun i=>(i.zero,i.size,i.bytes))=some (some (.int .i64 0),1,8)from by kernel_rfl);simp only[jZ]at b;obtain⟨r,hs,hb⟩:=b;have hu:Tryz.prog.underlying 26=some (.slice 65):=aj;have e:=Qa Tryz.prog g n 65 (List.replicate k (Value.int .i64 0)) 0 cur w hg bD (fun v hv=>by rw[su hv];rfl);simp only[nA,lF]at e;have u:IntKind.i64.wrap (k:Int)=k:=by rw[bF];omega
 have y:¬((k:Int)<0):=by omega
 have z:¬(281474976710656<(k:Int)*8):=by omega
 have j:¬(k=0):=om;have l:=MI k;simp[Builtin.append_,vQ hu,vQ Tryz.underlying3,sizeOf,typeInfo,zeroValue,hi,r,hs,hb,asInt,asIntOf,u,y,z,j,hr,l,eu,e]
theorem ahl(h:aG w B 65 A c zs)(D:0<k)(L:zs.length+k<=100000000)(m:B<=w.heap.size):
  ∃A' c' w',(∀b,(Builtin.append_ #[26,3] b #[.slice A zs.length c,k]).run Tryz.prog w=.ok (.slice A' (zs.length+k) c') w')/\aG w' B 65 A' c' (zs++List.replicate k 0)/\bS A A' w w':=by
 obtain⟨i,hi,e⟩:=bN.1 (show(Tryz.prog.info? 65).map (fun i=>(i.zero,i.size,i.bytes))=some (some (.int .i64 0),1,8)from by kernel_rfl);simp only[jZ]at e;obtain⟨r,hs,hb⟩:=e;have M:=h.uB;have E:(zs++List.replicate k 0).length=zs.length+k:=au;by_cases hr:zs.length+k<=c
 ·rcases h.form with⟨_,F,K⟩|⟨g,cur,rfl,m,hg,_,hm,I,ht⟩
  ·subst K;omega
  ·refine⟨_,_,_,fun b=>ahk hg I hr D om b,?_,xw (nz.1 hg).1 _⟩;unfold aG;rw[E];refine aP.mk' (k:=1) m (nX hg _) hr hm bD ?_
   show List.take ((zs.length+k)*1) (cur.toList.take zs.length++List.replicate k (Value.int .i64 0)++cur.toList.drop (zs.length+k))=_
   rw[nR,qz bD,ht];simp
 ·have l:(Builtin.firstCells i.size zs.length (.slice A zs.length c)).run Tryz.prog w.drew=.ok (zs.map (Value.int .i64)).toArray w.drew:=by
   rw[hs];rcases h.form with⟨rfl,F,_⟩|⟨g,cur,rfl,m,hg,_,hm,I,ht⟩
   ·subst F;exact run_firstCells_none w.drew 1 0 0 c
   ·exact PK w.drew 1 zs.length ⟨g,0,none⟩ zs.length c (zs.map (Value.int .i64)) au (fun j v J=>by
     rw[dE]at J;obtain⟨z,r,rfl⟩:=bN.1 J;rw[eu];exact h.rd.all r)
  obtain⟨G,u⟩:=lg (grownCap w (zs.length+k) c 65);have y:zs.length+k<=G:=by rw[u];exact Dj w _ _ _
  have C:G<=maxLen:=by rw[u];exact Fa w (zs.length+k) c 65 (by unfold maxLen;omega)
  refine⟨some ⟨w.heap.size,0,none⟩,G,w.drew.alloc (.cells ((zs.map (Value.int .i64)).toArray++Builtin.zeroCells (Value.cells (.int .i64 0)) k++Builtin.zeroCells (Value.cells (.int .i64 0)) (G-(zs.length+k))) 65),fun b=>?_,?_,bS.fresh ((bq _ _).drew.alloc (az _) _) (az _)⟩
  ·have:=Lib.run_append_grow_zeros (P:=Tryz.prog) w 26 3 b 65 i _ .i64 .i64 aj aj hi r A zs.length c (zs.map (Value.int .i64)) l k D (by rw[hs];decide) om om (by rw[hb];omega) (by rw[hb];exact PZ om om);rw[u];exact this
  ·unfold aG;rw[E,MI,MI];refine aP.mk' (k:=1) m (xe w.drew _) y C bD ?_;rw[nR];simp only[PI];rw[qz au];simp
theorem ahm(h:aG w B 65 (some ⟨g,0,none⟩) c zs)(l:0<k)(ht:t+k<=zs.length){cap:Nat}:
  ∃X,(∀j,(Builtin.clear_ #[26] j #[.slice (some ⟨g,t,none⟩) k cap]).run Tryz.prog w=.ok (.tuple #[]) (w.setRow g X))/\aG (w.setRow g X) B 65 (some ⟨g,0,none⟩) c (iM zs t (List.replicate k 0)):=by
 rcases h.form with⟨m,_⟩|⟨I,cur,e,r,hg,u,hm,y,hv⟩
 ·cases m
 injection e with e;injection e with C J;subst C
 obtain⟨i,hi,b⟩:=bN.1 (show(Tryz.prog.info? 65).map (fun i=>(i.zero,i.size,i.bytes))=some (some (.int .i64 0),1,8)from by kernel_rfl);simp only[jZ]at b;obtain⟨D,hs,hb⟩:=b;refine⟨(cur.toList.take t++List.replicate k (Value.int .i64 0)++cur.toList.drop (t+(List.replicate k (Value.int .i64 0)).length)).toArray,fun j=>?_,?_⟩
 ·exact Mq (P:=Tryz.prog) (w:=w) (E:=65) (z:=.int .i64 0) (n:=k) (us:=List.replicate k (Value.int .i64 0)) (o:=t) 26 j aj (fun W=>by simp[zeroValue,typeInfo,hi,D]) (by rw[MI]) (fun v hv=>by rw[su hv];rfl) l hg bD
 ·have F:=BJ (cs:=zs) (p:=t) (xs:=List.replicate k 0) (by simpa using ht);have G:cur.toList.length=c:=by simpa using y
  have:=aP.mk' (w:=w.setRow g (cur.toList.take t++List.replicate k (Value.int .i64 0)++cur.toList.drop (t+(List.replicate k (Value.int .i64 0)).length)).toArray) (E:=65) (k:=1) (n:=zs.length) (c:=c) (vs:=(iM zs t (List.replicate k 0)).map (Value.int .i64)) r (nX hg _) u hm bD (by
   show List.take (zs.length*1) (cur.toList.take t++List.replicate k (Value.int .i64 0)++cur.toList.drop (t+(List.replicate k (Value.int .i64 0)).length))=_
   rw[nR,lF,iM,gV,gV,yJ,Dh,<-hv,List.map_replicate,lF];rw[kM,iY om];rw[Hz,dB bD];congr 1;rw[Hw];congr 1;simp;omega)
  unfold aG;rw[F];exact this
end
end Go.Proofs.YtmkjnlifimffkaaGreat
