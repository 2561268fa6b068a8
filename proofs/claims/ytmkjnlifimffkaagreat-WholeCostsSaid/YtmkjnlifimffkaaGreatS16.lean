/- Lemmas. No condition. -/
import Derived.Test.YtmkjnlifimffkaaGreatS15
namespace Go.Proofs.YtmkjnlifimffkaaGreat
open Go.RowKit
set_option linter.all false
set_option maxRecDepth 100000
set_option maxHeartbeats 16000000
section
variable{zs ps xs bs:List Int}{o:gP}{P X:List (List Int)}
theorem aiZ{n:Nat}{z v:Int}(hr:aU zs=true)(e:zs[n]?=some z)(m:1<=v)(hv:v<=z):aU (zs.set n v)=true:=by
 obtain⟨r1,r,b,j⟩:=(j5 zs).1 hr;have u:=(aY.1 e).1;refine(j5 _).2 ⟨by simpa using r1,by simpa using r,YL b n m (by have:=(Dk b e).2;omega),?_⟩;rw[YM v u];rw[IL e]at j;refine P6 (EY (K5 hv ?_) ?_) j
 ·have:=Dl (l:=zs.drop (n+1)) fun z e=>(zV (aeW b _) e).1;omega
 ·have:=Dl (l:=zs.take n) fun z e=>(zV (aeO b _) e).1;omega
theorem Zb{L:List (List Int)}(b:L≠[])(h:∀z∈L,aU z=true)(hE:uR L=0):aU (uQ L)=true:=by
 unfold uR at hE;unfold uQ
 split at hE
 ·rename_i hs;rw[if_pos hs];cases L with
  |nil=>exact absurd rfl b
  |cons a l=>exact h a dN
 ·omega
theorem ai0{ts:List Int}{side:Int}(h:lL zs ts side=0):aU (ma zs ts side)=true:=by
 unfold ma;rw[if_pos h];unfold lL at h
 split at h
 ·split at h
  ·split at h
   ·rename_i b;simp only[dm]at b;exact b.2
   ·omega
  ·omega
 ·omega
theorem Zc{side:Int}:∀{l:List (List Int)} {s:List Int},aU s=true->Ca side s l=0->aU (Cb side s l)=true
 |[],_,h,_=>h
 |t::l,s,_,hE=>by
  unfold Ca at hE;unfold Cb
  split at hE
  ·rename_i b;exact Zc (ai0 b) hE
  ·rename_i b;exact absurd hE b
theorem ai1(j:o.cnt P.length X.length=0)(hP:P.all aU=true)(J:X.all aU=true)(h:jc o P X=0):aU (jN o P X)=true:=by
 obtain⟨hr,i1,i2,i3⟩:=Ar j;have x1:0<X.length:=by unfold nG at i1;split at i1<;>omega
 have r:∀z∈X,aU z=true:=fK.1 J;have K:∀z∈P,aU z=true:=fK.1 hP;have m:aU (X.getD 0 [])=true:=r _ (by rw[aQ,aW x1];exact uA x1);have u:0<P.length->aU (P.getD 0 [])=true:=fun p1=>K _ (by rw[aQ,aW p1];exact uA p1);unfold jc at h;unfold jN;generalize P.getD 0 []=p0 at h u⊢;generalize X.getD 0 []=x0 at h m⊢
 split
 ·rename_i b;rw[if_pos b]at h;have p1:=u (by rw[ky,if_pos b]at i3;omega);unfold xE at h;unfold xD
  split at h
  ·rename_i j;rw[if_pos j];simp only[qH,dm,dU]at j;obtain⟨O,Q,L,T⟩:=(j5 _).1 p1;have:=Dk L (aW (show 0<p0.length by omega));have e:p0.getD 0 0=p0[0]'om:=by rw[aQ,aW om];rfl
   rw[e];refine(j5 _).2 ⟨au,au,by simp[jH];omega,?_⟩;simp[aV];omega
  ·omega
 rename_i F;rw[if_neg F]at h
 split
 ·rename_i b;rw[if_pos b]at h;have p1:=u (by rw[ky,if_neg F,if_pos (.inl b)]at i3;omega);refine Zb au (fun z G=>?_) h;simp only[dz,mG,pI]at G;rcases G with rfl|rfl
  ·exact p1
  ·exact m
 rename_i M;rw[if_neg M]at h
 split
 ·rename_i b;rw[if_pos b]at h;unfold xG;rw[if_pos h];unfold rE at h
  split at h
  ·split at h
   ·split at h
    ·assumption
    ·omega
   ·omega
  ·omega
 rename_i y;rw[if_neg y]at h
 split
 ·rename_i b;rw[if_pos b]at h;obtain⟨R,Z,n,W,S,_,_,pw⟩:=PW.of h;exact pw.YZ
 rename_i B;rw[if_neg B]at h
 split
 ·rename_i b;rw[if_pos b]at h;unfold FT;rw[if_pos h];cases X with
  |nil=>simp at x1
  |cons t l=>
   unfold Cc at h;dsimp only at h
   split at h
   ·exact absurd h ah
   ·exact Zc (r t dN) h
 rename_i C;rw[if_neg C]at h
 split
 ·rename_i b;rw[if_pos b]at h;unfold cutV;rw[if_pos h];unfold sV at h;rw[if_pos m]at h
  split at h
  ·rename_i j;simp only[dm,dU]at j;obtain⟨⟨⟨⟨U,V⟩,a0⟩,I⟩,Y⟩:=j;have N:o.sd.toNat<x0.length:=om;have hg:=aW N;rw[aQ,hg]at I;exact aiZ m hg om (by simp at I;omega)
  ·exact absurd h ah
 rename_i D;rw[if_neg D]at h
 split
 ·rename_i b;rw[if_pos b]at h;unfold DR;rw[if_pos h];unfold yY at h;rw[if_pos m]at h
  split at h
  ·assumption
  ·exact absurd h ah
 rename_i E;rw[if_neg E]at h;exact Zb (by intro e;rw[e]at x1;simp at x1) r h
theorem Ce(h:iw o P X=0):o.cnt P.length X.length=0/\P.all aU=true/\X.all aU=true/\jc o P X=0:=by
 unfold iw at h
 split at h
 ·rename_i b
  split at h
  ·rename_i e;rw[dm]at e;exact⟨b,e.1,e.2,h⟩
  ·omega
 ·rename_i b;exact absurd h b
theorem FW(h:iw o P X=0):aU (dZ o P X)=true:=by
 obtain⟨b,hP,e,j⟩:=Ce h;rw[dZ,if_pos h];exact ai1 b hP e j
end
def yZ(o:gP)(P:List (List Int))(V:List Int):List Int:=if o.kd=10 then[aV V,Int.tdiv (aV (P.getD 0 [])) ((P.getD 0 []).getD 0 0)]else[aV V,o.wd]
def uU(o:gP)(P:List (List Int))(V:List Int):Int:=
 if o.kd=8 then aV (P.getD 0 [])else if o.kd=10\/o.kd=11\/o.kd=12 then nS (yZ o P V)else aV V
def vZ(o:gP)(P:List (List Int))(V:List Int):Int:=if o.kd=10\/o.kd=11\/o.kd=12 then pJ (yZ o P V)else 0
section
variable{w w':World}{A B C:Option Addr}{n m n' k c d e c' N nx mx cx:Nat}{zs:List Int}{ss ts:List Sp}{E F:Int}{V:List Int}{o:gP}
theorem Zd[a:Sl w A n zs](b:n<=1000000){v e:Int}(hv:Hid (nS zs=v/\pJ zs=e)):Calls Tryz.prog 75 #[.slice A n c] w (aM w (.tuple #[v,e])):=by
 obtain⟨a,rfl⟩:=a;rw[<-hv.out.1,<-hv.out.2];exact(Qk A c zs w b a).mono fun e w' ⟨j,l⟩=>⟨j,⟨l⟩⟩
theorem Ze[Sl w A n o.S](hn:n<=1000000)[a:dA w B m ss][dA w C nx ts][Le nx cx](hm:m<=1000000)(hx:nx<=1000000)(hz:Hid (∀z∈aJ ss++aJ ts,z.length<=1000000))(hE:iw o (aJ ss) (aJ ts)=0){v e:Int}
  (hv:Hid (uU o (aJ ss) (dZ o (aJ ss) (aJ ts))=v/\vZ o (aJ ss) (dZ o (aJ ss) (aJ ts))=e)):
  Calls Tryz.prog 30 #[.agg (opC o.kd o.k o.wd o.st o.sd o.fr o.tt (.slice A n d)),.slice B m c,.slice C nx cx] w (aM w (.tuple #[v,e])):=by
 obtain⟨CB,CP⟩:=lM;obtain⟨J,hP,P,Q⟩:=Ce hE;have D:=FW hE;obtain⟨R,i1,i2,i3⟩:=Ar J;have T:=ae hE;obtain⟨V,hV⟩:=lh (dZ o (aJ ss) (aJ ts));rw[hV]at D hv;have U:=ae hV;have vl:V.length<=4:=ry D;obtain⟨z,j⟩:=lh (aV V);have X:Hid (bJ V=z/\eT V=0):=ae ⟨by rw[bJ,D];exact j,by rw[eT,D];rfl⟩;have Z:=a.all rfl;have K:Hid (∀z∈aJ ss,aU z=true):=ae fun z hz=>fK.1 hP z hz;have I3:Hid ((m:Int)=ky o.kd):=ae (by rw[Z.out.1];exact i3);by_cases l:o.kd=8
 ·obtain⟨b1,L,A1,m1,c1,G,rfl,vX,v1,M,_,I⟩:=Z.out.2 0 (by have:=I3.out;rw[ky,if_pos l]at this;omega);have FR:w.cell? ⟨b1,L,none⟩=some (.slice A1 m1 c1):=v1;have r1:=K.out _ (xC I.out);have Za:m1<=4:=by rw[M.len];exact ry r1
  have g1:0<m:=by have:=I3.out;rw[ky,if_pos l]at this;omega
  have HZ:Hid (bJ G=v/\eT G=0):=ae ⟨by
   rw[<-hv.out.1,uU,if_pos l,bJ,r1,aQ,I.out];rfl,by rw[eT,r1];rfl⟩
  obtain rfl:e=0:=by rw[<-hv.out.2,vZ,if_neg om]
  have b8:(o.kd==8)=true:=by simpa using l
  clear l v1 r1 J hP P Q R i1 i2 i3 D hV j I hE;go_enter Tryz.func30,Tryz.ntmps30
  go_wp2_with (first|(first|(go_at_call 74;(with_reducible refine(FU om om om (by assumption) U T).mono ?_);rintro e u ⟨A',c',rfl,sJ,lJ,fJ,_⟩))|(first|(go_at_call 73;(with_reducible refine(tN om X).mono ?_);rintro e u ⟨rfl,_⟩))|(first|(go_at_call 73;(with_reducible refine(tN om HZ).mono ?_);rintro e u ⟨rfl,_⟩)))
  go_ret2;exact⟨rfl,ai _ _⟩
 have b8:(o.kd==8)=false:=by simpa using l
 by_cases b:o.kd=10
 ·have g1:0<m:=by have:=I3.out;rw[ky,if_neg l,if_pos (.inr b)]at this;omega
  obtain⟨b1,L,A1,m1,c1,G,rfl,vX,v1,M,_,I⟩:=Z.out.2 0 om;have FR:w.cell? ⟨b1,L,none⟩=some (.slice A1 m1 c1):=v1;have r1:=K.out _ (xC I.out);have Za:m1<=4:=by rw[M.len];exact ry r1
  obtain⟨h1,h2,h3,h4⟩:=(j5 _).1 r1;have m1p:0<m1:=by rw[M.len];omega
  obtain⟨b2,q2,y0,rfl,jT,u0,e2⟩:=M.get (k:=0) m1p;have u0':w.cell? ⟨b2,q2,none⟩=some (.int .i64 y0):=u0;have y1:=Dk h3 e2.out;obtain⟨kk,y⟩:=lh (aV G);have kb:=Qf _ h3 h2;rw[y]at kb;have HZ:Hid (bJ G=kk/\eT G=0):=ae ⟨by rw[bJ,r1];exact y,by rw[eT,r1];rfl⟩;have Y:Hid (nS [z,kk.tdiv y0]=v/\pJ [z,kk.tdiv y0]=e):=ae (by
   have d1:(aJ ss).getD 0 []=G:=by rw[aQ,I.out];rfl
   have d2:G.getD 0 0=y0:=by rw[aQ,e2.out];rfl
   have O:yZ o (aJ ss) V=[z,kk.tdiv y0]:=by rw[yZ,if_pos b,d1,d2,y,j]
   refine⟨?_,?_⟩
   ·rw[<-hv.out.1,uU,if_neg l,if_pos (.inl b),O]
   ·rw[<-hv.out.2,vZ,if_pos (.inl b),O])
  have b10:(o.kd==10)=true:=by simpa using b
  have q0:0<=kk.tdiv y0:=Int.tdiv_nonneg om om;have L:kk.tdiv y0<=kk:=by
   have:=Int.tdiv_le_self y0 (show 0<=kk by omega);exact this
  obtain⟨qq,hqq⟩:=lh (kk.tdiv y0);rw[hqq]at Y q0 L;clear l b v1 r1 J hP P Q R i1 i2 i3 D hV j I hE h1 h2 h3 h4 y u0 e2;go_enter Tryz.func30,Tryz.ntmps30
  go_wp2_with (first|(first|(go_at_call 74;(with_reducible refine(FU om om om (by assumption) U T).mono ?_);rintro e u ⟨A',c',rfl,sJ,lJ,fJ,_⟩))|(first|(go_at_call 73;(with_reducible refine(tN om X).mono ?_);rintro e u ⟨rfl,_⟩))|(first|(go_at_call 73;(with_reducible refine(tN om HZ).mono ?_);rintro e u ⟨rfl,_⟩))|(first|(go_at_call 75;(with_reducible refine(Zd om Y).mono ?_);rintro e u ⟨rfl,_⟩)))
  go_ret2;exact⟨rfl,ai _ _⟩
 have b10:(o.kd==10)=false:=by simpa using b
 by_cases r:o.kd=11\/o.kd=12
 ·have RA:=ae r;have Y:Hid (nS [z,o.wd]=v/\pJ [z,o.wd]=e):=ae (by
   have O:yZ o (aJ ss) V=[z,o.wd]:=by rw[yZ,if_neg b,j]
   refine⟨?_,?_⟩
   ·rw[<-hv.out.1,uU,if_neg l,if_pos (.inr r),O]
   ·rw[<-hv.out.2,vZ,if_pos (.inr r),O])
  clear l b r J hP P Q R i1 i2 i3 D hV j hE;rcases h11:(o.kd==11)with _|_
  focus
   have h12:(o.kd==12)=true:=by
    rcases RA.out with e|e
    ·rw[e]at h11;cases h11
    ·simpa using e
  rotate_left
  all_goals
   go_enter Tryz.func30,Tryz.ntmps30
   go_wp2_with (first|(first|(go_at_call 74;(with_reducible refine(FU om om om (by assumption) U T).mono ?_);rintro e u ⟨A',c',rfl,sJ,lJ,fJ,_⟩))|(first|(go_at_call 73;(with_reducible refine(tN om X).mono ?_);rintro e u ⟨rfl,_⟩))|(first|(go_at_call 75;(with_reducible refine(Zd om Y).mono ?_);rintro e u ⟨rfl,_⟩)))
   go_ret2;exact⟨rfl,ai _ _⟩
 have b11:(o.kd==11)=false:=by simp;omega
 have b12:(o.kd==12)=false:=by simp;omega
 obtain⟨rfl,rfl⟩:z=v/\e=0:=⟨by rw[<-hv.out.1,uU,if_neg l,if_neg om,j],by rw[<-hv.out.2,vZ,if_neg om]⟩;clear l b r J hP P Q R i1 i2 i3 D hV j hE;go_enter Tryz.func30,Tryz.ntmps30
 go_wp2_with (first|(first|(go_at_call 74;(with_reducible refine(FU om om om (by assumption) U T).mono ?_);rintro e u ⟨A',c',rfl,sJ,lJ,fJ,_⟩))|(first|(go_at_call 73;(with_reducible refine(tN om X).mono ?_);rintro e u ⟨rfl,_⟩)))
 go_ret2;exact⟨rfl,ai _ _⟩
end
theorem Zf(w:World)(T:TypeId)(zs:List Int)(cs:Array Value)(h:cs=ints zs):Own (w.alloc (.cells cs T)) w.heap.size T zs:=by subst h;exact Own.new _ _ _
end Go.Proofs.YtmkjnlifimffkaaGreat
