/- Lemmas. -/
import Derived.Test.YtmkjnlifimffkaaGreatS17
namespace Go.Proofs.YtmkjnlifimffkaaGreat
open Go.RowKit Tryz
set_option linter.all false
set_option maxRecDepth 100000
set_option maxHeartbeats 0
variable{Γ:Prop}
variable{V zs:List Int}
section
variable{o:ir}{ps xs:List TV}{g:List Int}
def Gk{L:List TV}(h:L.length=1):L=[L.getD 0 ([],[])]:=by
 match L,h with
 |[x],_=>rfl
def ND{L:List TV}(h:L.length=2):L=[L.getD 0 ([],[]),L.getD 1 ([],[])]:=by
 match L,h with
 |[x,y],_=>rfl
def qW{xs:au}(hr:aA zs=true)(b:(xs.length:Int)=ax zs)(hb:∀z∈xs,bb z):TV.ok (zs,xs):=⟨(aN _ _).2 ⟨hr,b⟩,hb⟩
def xS1(h:Γ:=by obtain⟨f,h⟩:=qN hK;rw[hV]at h;exact⟨f,h⟩):=h
def xS2(h:Γ:=by split at hK;assumption;exact absurd hK am):=h
def NE(hE:dr o (ps.map (·.1)) (xs.map (·.1))=0)(hp:∀t∈ps,TV.ok t)(E:∀t∈xs,TV.ok t)(hV:cJ o (ps.map (·.1)) (xs.map (·.1))=V)(hg:TV.ok (V,g)):
  (ql o ps xs V g).map (·.1)=ps.map (·.1)/\∀t∈ql o ps xs V g,TV.ok t:=by
 obtain⟨F,-,-,hK⟩:=ja hE;obtain⟨N,i1,i2,i3⟩:=wP F;rw[bj]at i1 i2 i3;rw[cJ,ah hE]at hV;have G:0<xs.length:=by unfold gN at i1;split at i1<;>omega
 have m:=E _ (fJ G);unfold ql;by_cases j:o.kd=8;rw[fv,ah j]at i3;rw[ah j];rw[cY,ah j,a1,a1,a1]at hK;rw[dd,ah j,a1,a1,a1]at hV;have r:=hp _ (fJ (L:=ps) (k:=0) om);have u:iG (ps.getD 0 ([],[])).1 (ps.getD 1 ([],[])).1 (xs.getD 0 ([],[])).1=true:=by unfold mD at hK;exact xS2
 rw[mC,ah u]at hV;simp only[iG,bK,bZ]at u;obtain⟨⟨⟨⟨I,J⟩,B⟩,O⟩,K⟩:=u;have e:(ps.getD 1 ([],[])).1=V:=by
  rw[<-hV];match(ps.getD 1 ([],[])).1,J,B with
  |[y],_,B=>rw[<-B];rfl
 have C:ax (ps.getD 0 ([],[])).1=ax V*ax (xs.getD 0 ([],[])).1:=by
  rw[K,<-hV];match(ps.getD 0 ([],[])).1,I with
  |[y,z],_=>simp[ax]
 refine⟨?_,λt ht=>?_⟩;conv=>rhs;rw[ND (L:=ps) om]
 rfl;simp only[cw,nR,o2]at ht;rcases ht with rfl|rfl;exact qW r.right (by rw[sw,b8,hg.len,m.len,C]) (Dn hg.2 m.2);rw[e];exact hg;rw[ag j];by_cases l:o.kd=9;rw[fv,ag j,ah (.inl l)]at i3;rw[ah l];rw[cY,ag j,ah l,a1,a1]at hK;rw[dd,ag j,ah l,a1,a1]at hV;have D:=eg hK _ (cm);rw[hV]at D;refine⟨?_,λt ht=>by rw[cZ.1 ht];exact hg⟩;conv=>rhs;rw[Gk (L:=ps) om]
 simp only[di,jz,D];rw[ag l];by_cases b:o.kd=10;rw[fv,ag j,ah (.inr b)]at i3;rw[ah b];rw[cY,ag j,ag l,ah b,a1,a1]at hK;rw[dd,ag j,ag l,ah b,a1,a1]at hV;have r:=hp _ (fJ (L:=ps) (k:=0) om);have M:∃f,nz f (ps.getD 0 ([],[])).1 (xs.getD 0 ([],[])).1 V o.st:=xS1;unfold TT;rw[dif_pos M];refine⟨?_,λt ht=>?_⟩;conv=>rhs;rw[Gk (L:=ps) om]
 rfl;rw[cZ.1 ht];exact qW r.right (by rw[nB,r.len]) s4;rw[ag b];rw[fv,ag j,ag (λh=>h.elim l b)]at i3;obtain rfl:ps=[]:=hB om;exact⟨rfl,λt ht=>by cases ht⟩
def xS0(h:Γ:=by exact one om om _ (by rw[PM,gq,e.len]) (oQ λi=>rP _ _)):=h
def It(hE:dr o (ps.map (·.1)) (xs.map (·.1))=0)(M:∀t∈xs,TV.ok t)(hk:bb o.k)(hV:cJ o (ps.map (·.1)) (xs.map (·.1))=V)(hg:TV.ok (V,g)):
  (jZ o ps xs V g).map (·.1)=xs.map (·.1)/\∀t∈jZ o ps xs V g,TV.ok t:=by
 obtain⟨hc,-,-,hK⟩:=ja hE;obtain⟨i0,i1,i2,i3⟩:=wP hc;rw[bj]at i1 i2 i3;rw[cJ,ah hE]at hV;have S:0<xs.length:=by unfold gN at i1;split at i1<;>omega
 have e:=M _ (fJ S);have one:¬(o.kd=6\/o.kd=7)->o.kd≠13->∀c:List Int,(c.length:Int)=ax (xs.getD 0 ([],[])).1->(∀z∈c,bb z)->[((xs.getD 0 ([],[])).1,c)].map (·.1)=xs.map (·.1)/\∀t∈[((xs.getD 0 ([],[])).1,c)],TV.ok t:=λh1 N c hl hb=>by rw[i9,ag h1,ag N]at i2;refine⟨?_,λt ht=>?_⟩;(conv=>rhs;rw[Gk (L:=xs) om]);rfl;rw[cZ.1 ht];exact qW e.right hl hb
 unfold jZ;by_cases u:o.kd=8;rw[ah u];exact one om om _ (by rw[<-e.len];simp[lD]) Do;rw[ag u];by_cases y:o.kd=9;rw[ah y];rw[cY,ag u,ah y,a1,a1]at hK;rw[dd,ag u,ah y,a1,a1]at hV;have G:=eg hK (xs.getD 0 ([],[])).1 aD;rw[hV]at G;rw[<-G];exact one om om _ (by rw[G];exact hg.len) hg.2;rw[ag y];by_cases m:o.kd=10;rw[ah m];rw[cY,ag u,ag y,ah m,a1,a1]at hK;rw[dd,ag u,ag y,ah m,a1,a1]at hV;have hf:∃f,nz f (ps.getD 0 ([],[])).1 (xs.getD 0 ([],[])).1 V o.st:=xS1;unfold TU;rw[dif_pos hf];exact one om om _ (by rw[nC,e.len]) s5;rw[ag m];by_cases J:o.kd=11;rw[ah J];exact xS0;rw[ag J];by_cases K:o.kd=12;rw[ah K];exact xS0;rw[ag K];have b:¬(o.kd=11\/o.kd=12):=λh=>h.elim J K;by_cases l:o.kd=13;rw[ah l];rw[cY,ag u,ag y,ag m,ag b,ah l]at hK;rw[dd,ag u,ag y,ag m,ag b,ah l]at hV;obtain⟨D,P,I,Z,hs,C,-,-,-,-,hZ,O⟩:=Ds (by intro h;rw[h]at S;simp at S) M hK hV;have Q:V.getD D 0=(Z:Int):=by rw[aQ,C.at_];rfl
 unfold Yk;simp only[hs,aZ,C.ahead,C.behind,Q];refine⟨?_,λt ht=>?_⟩;rw[lT];apply fZ;intro j;rw[bf,bf];by_cases E:j<xs;rw[ih E,a5 E];simp[aQ,a5 E];rw[fc cr,fc om];rfl;obtain⟨j,E,rfl⟩:=bw.1 ht;rw[iU]at E;have U:=M _ (fJ E);have hm:(xs.map g1)[j]?=some (g1 (xs.getD j ([],[]))):=by rw[bf,a5 E,aQ,a5 E];rfl
 obtain⟨-,X⟩:=O _ (aC hm);have hf:=wK (n:=D) hm;have hle:er D (xs.map g1) (j+1)<=Z:=by have:=C4 (n:=D) (xs.map g1) (j+1);rw[bj,hZ]at this;exact this
 have N:er D (xs.map g1) j*I+zN D (g1 (xs.getD j ([],[])))*I<=Z*I:=by rw[<-hx];exact cU _ om
 refine qW U.right ?_ λz Q=>hg.2 z (n8 Q);rw[kr (by rw[C.cells hg.1];exact al _) N];exact X.prod.symm;rw[ag l];by_cases r:o.kd=14;rw[ah r];rw[cY,ag u,ag y,ag m,ag b,ag l,ah r,a1]at hK;rw[dd,ag u,ag y,ag m,ag b,ag l,ah r,a1]at hV;obtain⟨D,P,I,Z,F,T,Y,G,e3,hFT,Fr,C,hv,ex,hpl⟩:=Ir e hK;rw[hv]at hV;have Q:(xs.getD 0 ([],[])).1.getD D 0=(Z:Int):=by rw[aQ,C.at_];rfl
 have n6:g=P*((T-F)*I):=by have:=hg.len;rw[<-hV,hpl]at this;exact Int.ofNat_inj.1 this
 refine one om l _ ?_ ?_;unfold Yl;simp only[Y,G,e3,aZ,C.ahead,C.behind,Q];rw[qK om Fr (al _) (by rw[n6];exact al _),C.prod];unfold Yl;exact NC hg.2;rw[ag r];by_cases B:o.kd=15
 .rw[ah B];rw[cY,ag u,ag y,ag m,ag b,ag l,ag r,ah B,a1]at hK;rw[dd,ag u,ag y,ag m,ag b,ag l,ag r,ah B,a1]at hV;rw[zB,ah hK]at hV;refine one om l _ ?_ hg.2;have:=hg.len;rw[<-hV]at this;rw[this];unfold up at hK;rw[ah e.right]at hK;split at hK;exact xS2;exact absurd hK am
 rw[ag B];rw[cY,ag u,ag y,ag m,ag b,ag l,ag r,ag B]at hK;have hX:∀z∈jY o.kd o.k (xs.map g1) g (xs.getD 0 ([],[])).2.length,bb z:=Gh hk (ZT (qV M)) hg.2;have hY:∀z∈oO o.kd (xs.map g1) g (xs.getD 0 ([],[])).2.length,bb z:=NB (ZU (qV M)) hg.2;obtain⟨kl,kh⟩:=yx i0;by_cases k5:o.kd<=5;rw[ah k5];exact one om l _ (by rw[gu,e.len]) hX;rw[ag k5];have R:o.kd=6\/o.kd=7:=om;rw[gN,ah R]at i1;rw[i9,ah R]at i2;have N:xs.length=2:=om;have Y:=eg hK (xs.getD 0 ([],[])).1 (bw.2 ⟨_,fJ S,rfl⟩);have G:=eg hK (xs.getD 1 ([],[])).1 (bw.2 ⟨_,fJ om,rfl⟩);refine⟨?_,λt ht=>?_⟩;conv=>rhs;rw[ND N]
 simp only[di,jz,Y,G];simp only[cw,nR,o2]at ht;rcases ht with rfl|rfl;exact qW e.right (by rw[gu,e.len]) hX;exact qW e.right (by rw[nD,e.len]) hY
end
end Go.Proofs.YtmkjnlifimffkaaGreat
