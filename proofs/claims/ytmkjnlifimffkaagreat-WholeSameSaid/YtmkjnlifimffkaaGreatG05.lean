/- Lemmas. -/
import Derived.Test.YtmkjnlifimffkaaGreatG04
namespace Go.Proofs.YtmkjnlifimffkaaGreat
open Go.RowKit Tryz
set_option linter.all false
set_option maxRecDepth 100000
set_option maxHeartbeats 0
variable{Γ:Prop}
attribute[local irreducible]Calls
section
variable{P:Program}{M b c d e m off:Nat}{xs:List Int}{A B D:Option Addr}
def kJ(t)(ht:P.underlying t=some (.slice (P.elem t)))(hs:(P.info? (P.elem t)).map (·.size)=some 1)(b off m d lo)(l:lo<=m)(r:lo<d):
  ∀w,(Instr.slice t (.slice (some ⟨b,off,none⟩) m d) (some (.int .i64 (lo:Int))) none none).run P w=.ok (.slice (some ⟨b,off+lo,none⟩) (m-lo) (d-lo)) w:=by
 intro w;rw[dB w t _ m d ht .i64 lo Y Y,e1 hs];have e:d≠lo:=Y;by_cases j:lo=0;subst j;simp[Result.andThen,sliced,Addr.add,e];simp[Result.andThen,sliced,Addr.add,e,j]
theorem Sl.cut{w:ab}(h:Sl w (some ⟨b,off,none⟩) m xs){F W:Nat}(hF:F+W<=m):Sl w (some ⟨b,off+F,none⟩) W ((xs.drop F).take W):=by
 refine⟨λj z l=>?_,ay⟩;rw[ji]at l;split at l;rw[iF]at l;obtain⟨u,r,e,hb,y⟩:=h.rd _ z l;grind;cases l
section
variable{w:World}
def zE6(h:Γ:=by exact(((((O1.av 2 1).av 3 1).av 4 1).av 5 1).av 6 1).av 7 1):=h
def zE7(h:Γ:=by exact Own.new j 327 [(O:Int),C,0,0,0,0,0,0,S,0,0,0]):=h
def zEb(h:Γ:=by simp[results,results220,go_sem,r0,r1,r2,r3,r4,r5,r6,r7,r8,r9,r10,r11]):=h
def JX{O C L W N S:Nat}[a:Sl w A 3 [(O:Int),C,L]][b:Sl w B 2 [(C:Int),W]][g:Sl w D 2 [(O:Int),N]](h3:3<=c)(h2:2<=d)(he:2<=e)(hL:L<=1024)(hW:W<=1024):
  () 220 #[(A,3,c),(B,2,d),(D,2,e),S] w (aL w (vI ⟨O,C,1,L,1,W,1,N,S⟩)):=by
 obtain⟨CB,CP⟩:=hY;obtain⟨ba,oa,z,rfl,oba,WJ,hz⟩:=a.get (k:=0) Y;obtain rfl:z=(O:Int):=by have:=hz.o;simpa using this.symm
 have ca1:=a.rd.all (k:=1) (z:=(C:Int)) rfl;obtain⟨bb,ob,z,rfl,obb,-,-⟩:=b.get (k:=0) Y;obtain⟨bg,og,z,rfl,obg,-,-⟩:=g.get (k:=0) Y;simp only[d9]at WJ;clear hz;go_in;go_wp2_with fail;have FB:=@aP;refine ax w ap (λj _=>?_);refine qL [0,1,2,3,4,5,6,7] ?_;refine aJ 8 λK hK=>?_;go_simp;refine aE hK<|aJ 9 λK hK=>?_;go_simp;refine aE hK<|a8 ?_;obtain⟨X,r⟩:=lg (j.alloc (.cells #[O,C,an,an,an,an,an,an,S,an,an,an] 327));rw[<-r];have O1:Own X j.1.size 327 [(O:Int),C,0,0,0,0,0,0,S,0,0,0]:=by rw[r];exact zE7
 have p1:aj X j:=r▸aj.alloc _ _;have hB:Bx X j.1.size 327 #[O,C,an,an,an,an,an,an,S,an,an,an]:=⟨O1⟩;clear r;go_upto_region 3 with fail;obtain⟨v2,u⟩:=lg ((((((X.setCell (j.1.size,2) (1:Int)).setCell (j.1.size,3) (1:Int)).setCell (j.1.size,4) (1:Int)).setCell (j.1.size,5) (1:Int)).setCell (j.1.size,6) (1:Int)).setCell (j.1.size,7) (1:Int));rw[<-u];have O2:Own v2 j.1.size 327 [(O:Int),C,1,1,1,1,1,1,S,0,0,0]:=by rw[u];exact zE6
 have p2:aj v2 j:=⟨by rw[u];exact((((((aO j X).setCell (al _) _).setCell (al _) _).setCell (al _) _).setCell (al _) _).setCell (al _) _).setCell (al _) _⟩;clear u hB p1 O1;have l1:=kJ (P:=prog) 25 ap ap bg og 2 e 1 Y Y;have l2:=kJ (P:=prog) 25 ap ap ba oa 3 c 2 Y Y;have l3:=kJ (P:=prog) 25 ap ap bb ob 2 d 1 Y Y;simp only[GN,Nat.reduceSub]at l1 l2 l3;have sa:Sl w (some ⟨ba,oa+2,none⟩) 1 [(L:Int)]:=a.cut (F:=2) (W:=1) Y;have sb:Sl w (some ⟨bb,ob+1,none⟩) 1 [(W:Int)]:=b.cut (F:=1) (W:=1) Y;have sg:Sl w (some ⟨bg,og+1,none⟩) 1 [(N:Int)]:=g.cut (F:=1) (W:=1) Y;go_wp2_with fail;refine ax j ap (λQ _=>?_);refine qL [0,1,2,3,4] ?_;refine aJ 5 λK hK=>?_;have m:=λty=>fH (P:=prog) 24 25 ty 3 underlying24 ap ((O2).at (w':=Q)) (o:=3) (dLen:=1) (dCap:=1) (sLen:=1) (sCap:=c-2) (zs:=[(L:Int)]) ((sa).rd.at (w':=Q)) rfl aI;go_simp;refine q8 hK (λ_=>?_) ⟨below_setRow (aO j Q) (al _) _⟩;clear hK K m;refine a8 ?_;obtain⟨v3,y⟩:=lg ((Q).setRow j.1.size (ints (over [(O:Int),C,1,1,1,1,1,1,S,0,0,0] [(L:Int)] 3)));rw[<-y];have O3:Own v3 j.1.size 327 [(O:Int),C,1,L,1,1,1,1,S,0,0,0]:=by rw[y];exact((O2).at (w':=Q)).setRow [(O:Int),C,1,L,1,1,1,1,S,0,0,0]
 have p3:aj v3 j:=⟨by rw[y];exact below_setRow (aO j Q) (al _) _⟩;clear y;go_wp2_with fail;refine ax j ap (λR _=>?_);refine qL [0,1,2,3,4] ?_;refine aJ 5 λK hK=>?_;have m:=λty=>fH (P:=prog) 24 25 ty 3 underlying24 ap ((O3).at (w':=R)) (o:=5) (dLen:=1) (dCap:=1) (sLen:=1) (sCap:=d-1) (zs:=[(W:Int)]) ((sb).rd.at (w':=R)) rfl aI;go_simp;refine q8 hK (λ_=>?_) ⟨below_setRow (aO j R) (al _) _⟩;clear hK K m;refine a8 ?_;obtain⟨v4,E⟩:=lg ((R).setRow j.1.size (ints (over [(O:Int),C,1,L,1,1,1,1,S,0,0,0] [(W:Int)] 5)));rw[<-E];have O4:Own v4 j.1.size 327 [(O:Int),C,1,L,1,W,1,1,S,0,0,0]:=by rw[E];exact((O3).at (w':=R)).setRow [(O:Int),C,1,L,1,W,1,1,S,0,0,0]
 have p4:aj v4 j:=⟨by rw[E];exact below_setRow (aO j R) (al _) _⟩;clear E;go_wp2_with fail;refine ax j ap (λT _=>?_);refine qL [0,1,2,3,4] ?_;refine aJ 5 λK hK=>?_;have m:=λty=>fH (P:=prog) 24 25 ty 3 underlying24 ap ((O4).at (w':=T)) (o:=7) (dLen:=1) (dCap:=1) (sLen:=1) (sCap:=e-1) (zs:=[(N:Int)]) ((sg).rd.at (w':=T)) rfl aI;go_simp;refine q8 hK (λ_=>?_) ⟨below_setRow (aO j T) (al _) _⟩;clear hK K m;refine a8 ?_;obtain⟨v5,G⟩:=lg ((T).setRow j.1.size (ints (over [(O:Int),C,1,L,1,W,1,1,S,0,0,0] [(N:Int)] 7)));rw[<-G];have O5:Own v5 j.1.size 327 [(O:Int),C,1,L,1,W,1,N,S,0,0,0]:=by rw[G];exact((O4).at (w':=T)).setRow [(O:Int),C,1,L,1,W,1,N,S,0,0,0]
 have p5:aj v5 j:=⟨by rw[G];exact below_setRow (aO j T) (al _) _⟩;clear G;have B5:Bx v5 j.1.size 327 #[O,C,(1:Int),L,(1:Int),W,(1:Int),N,S,an,an,an]:=⟨O5⟩;go_upto_region 8 with fail;obtain⟨v6,I⟩:=lg ((v5).setCell (j.1.size,9) (L:Int));rw[<-I];have O6:Own v6 j.1.size 327 [(O:Int),C,1,L,1,W,1,N,S,L,0,0]:=by rw[I];exact(O5).av 9 (L:Int)
 have p6:aj v6 j:=⟨by rw[I];exact(aO j v5).setCell (al _) _⟩;clear I;have B6:Bx v6 j.1.size 327 #[O,C,(1:Int),L,(1:Int),W,(1:Int),N,S,L,an,an]:=⟨O6⟩;go_upto_region 9 with fail;obtain⟨v7,J⟩:=lg ((v6).setCell (j.1.size,10) (L:Int));rw[<-J];have O7:Own v7 j.1.size 327 [(O:Int),C,1,L,1,W,1,N,S,L,L,0]:=by rw[J];exact(O6).av 10 (L:Int)
 have p7:aj v7 j:=⟨by rw[J];exact(aO j v6).setCell (al _) _⟩;clear J;have B7:Bx v7 j.1.size 327 #[O,C,(1:Int),L,(1:Int),W,(1:Int),N,S,L,L,an]:=⟨O7⟩;go_upto_region 10 with fail;obtain⟨V,M⟩:=lg ((v7).setCell (j.1.size,11) (W:Int));rw[<-M];have O8:Own V j.1.size 327 [(O:Int),C,1,L,1,W,1,N,S,L,L,W]:=by rw[M];exact(O7).av 11 (W:Int)
 have p8:aj V j:=⟨by rw[M];exact(aO j v7).setCell (al _) _⟩;clear M;have B8:Bx V j.1.size 327 #[O,C,(1:Int),L,(1:Int),W,(1:Int),N,S,L,L,W]:=⟨O8⟩;have BR:Bx V w.1.size 327 #[an,an,an,an,an,an,an,an,an,an,an,an]:=am;go_wp2_with fail;have OR0:Own V w.1.size 327 [0,0,0,0,0,0,0,0,0,0,0,0]:=(BR).ak;have l:=(((((((((((OR0.av 0 (O:Int)).av 1 (C:Int)).av 2 1).av 3 (L:Int)).av 4 1).av 5 (W:Int)).av 6 1).av 7 (N:Int)).av 8 (S:Int)).av 9 (L:Int)).av 10 (L:Int)).av 11 (W:Int);have BF:=((((((((((((aO w V).setCell (p:=⟨w.1.size,0,none⟩) (al _) (O:Int)).setCell (p:=⟨w.1.size,1,none⟩) (al _) (C:Int)).setCell (p:=⟨w.1.size,2,none⟩) (al _) (1:Int)).setCell (p:=⟨w.1.size,3,none⟩) (al _) (L:Int)).setCell (p:=⟨w.1.size,4,none⟩) (al _) (1:Int)).setCell (p:=⟨w.1.size,5,none⟩) (al _) (W:Int)).setCell (p:=⟨w.1.size,6,none⟩) (al _) (1:Int)).setCell (p:=⟨w.1.size,7,none⟩) (al _) (N:Int)).setCell (p:=⟨w.1.size,8,none⟩) (al _) (S:Int)).setCell (p:=⟨w.1.size,9,none⟩) (al _) (L:Int)).setCell (p:=⟨w.1.size,10,none⟩) (al _) (L:Int)).setCell (p:=⟨w.1.size,11,none⟩) (al _) (W:Int);have r0:=l.cell (i:=0) (z:=(O:Int)) rfl;have r1:=l.cell (i:=1) (z:=(C:Int)) rfl;have r2:=l.cell (i:=2) (z:=1) rfl;have r3:=l.cell (i:=3) (z:=(L:Int)) rfl;have r4:=l.cell (i:=4) (z:=1) rfl;have r5:=l.cell (i:=5) (z:=(W:Int)) rfl;have r6:=l.cell (i:=6) (z:=1) rfl;have r7:=l.cell (i:=7) (z:=(N:Int)) rfl;have r8:=l.cell (i:=8) (z:=(S:Int)) rfl;have r9:=l.cell (i:=9) (z:=(L:Int)) rfl;have r10:=l.cell (i:=10) (z:=(L:Int)) rfl;have r11:=l.cell (i:=11) (z:=(W:Int)) rfl;exact aZ (v:=.agg #[O,C,(1:Int),L,(1:Int),W,(1:Int),N,S,L,L,W]) zEb rfl<|⟨by rw[vI,l7,l7]<;>rfl,⟨BF⟩⟩
def HA{O C L H W N S:Nat}[a:Sl w A 4 [(O:Int),C,m,L]][b:Sl w B 3 [(C:Int),H,W]][g:Sl w D 3 [(O:Int),M,N]](h3:4<=c)(h2:3<=d)(he:3<=e)(hK:m<=1024)(hL:L<=1024)(hH:H<=1024)(hW:W<=1024):
  () 220 #[(A,4,c),(B,3,d),(D,3,e),S] w (aL w (vI ⟨O,C,m,L,H,W,M,N,S⟩)):=by
 obtain⟨CB,CP⟩:=hY;obtain⟨ba,oa,z,rfl,oba,WJ,hz⟩:=a.get (k:=0) Y;obtain rfl:z=(O:Int):=by have:=hz.o;simpa using this.symm
 have ca1:=a.rd.all (k:=1) (z:=(C:Int)) rfl;obtain⟨bb,ob,z,rfl,obb,-,-⟩:=b.get (k:=0) Y;obtain⟨bg,og,z,rfl,obg,-,-⟩:=g.get (k:=0) Y;simp only[d9]at WJ;obtain⟨l,E⟩:=lh (m*L);obtain⟨y,G⟩:=lh (H*W);have m1:(m:Int)*(L:Int)=(l:Int):=by rw[<-E,cH]
 have m2:(H:Int)*(W:Int)=(y:Int):=by rw[<-G,cH]
 have bKL:l<=1048576:=by rw[<-E];exact ve hK hL
 have bHW:y<=1048576:=by rw[<-G];exact ve hH hW
 have BB:=U E;have HHW:=U G;clear hz E G;go_in;go_wp2_with fail;have FB:=@aP;refine ax w ap (λj _=>?_);refine qL [0,1,2,3,4,5,6,7] ?_;refine aJ 8 λK hK=>?_;go_simp;refine aE hK<|aJ 9 λK hK=>?_;go_simp;refine aE hK<|a8 ?_;obtain⟨v1,I⟩:=lg (j.alloc (.cells #[O,C,an,an,an,an,an,an,S,an,an,an] 327));rw[<-I];have O1:Own v1 j.1.size 327 [(O:Int),C,0,0,0,0,0,0,S,0,0,0]:=by rw[I];exact zE7
 have p1:aj v1 j:=I▸aj.alloc _ _;have hB:Bx v1 j.1.size 327 #[O,C,an,an,an,an,an,an,S,an,an,an]:=⟨O1⟩;clear I;go_upto_region 3 with fail;obtain⟨v2,J⟩:=lg ((((((v1.setCell (j.1.size,2) (1:Int)).setCell (j.1.size,3) (1:Int)).setCell (j.1.size,4) (1:Int)).setCell (j.1.size,5) (1:Int)).setCell (j.1.size,6) (1:Int)).setCell (j.1.size,7) (1:Int));rw[<-J];have O2:Own v2 j.1.size 327 [(O:Int),C,1,1,1,1,1,1,S,0,0,0]:=by rw[J];exact zE6
 have p2:aj v2 j:=⟨by rw[J];exact((((((aO j v1).setCell (al _) _).setCell (al _) _).setCell (al _) _).setCell (al _) _).setCell (al _) _).setCell (al _) _⟩;clear J hB p1 O1;have l1:=kJ (P:=prog) 25 ap ap bg og 3 e 1 Y Y;have l2:=kJ (P:=prog) 25 ap ap ba oa 4 c 2 Y Y;have l3:=kJ (P:=prog) 25 ap ap bb ob 3 d 1 Y Y;simp only[GN,Nat.reduceSub]at l1 l2 l3;have sa:Sl w (some ⟨ba,oa+2,none⟩) 2 [(m:Int),L]:=a.cut (F:=2) (W:=2) Y;have sb:Sl w (some ⟨bb,ob+1,none⟩) 2 [(H:Int),W]:=b.cut (F:=1) (W:=2) Y;have sg:Sl w (some ⟨bg,og+1,none⟩) 2 [(M:Int),N]:=g.cut (F:=1) (W:=2) Y;go_wp2_with fail;refine ax j ap (λu4 _=>?_);refine qL [0,1,2,3,4] ?_;refine aJ 5 λK hK=>?_;have u:=λty=>fH (P:=prog) 24 25 ty 3 underlying24 ap ((O2).at (w':=u4)) (o:=2) (dLen:=2) (dCap:=2) (sLen:=2) (sCap:=c-2) (zs:=[(m:Int),L]) ((sa).rd.at (w':=u4)) rfl aI;go_simp;refine q8 hK (λ_=>?_) ⟨below_setRow (aO j u4) (al _) _⟩;clear hK K u;refine a8 ?_;obtain⟨v3,Q⟩:=lg ((u4).setRow j.1.size (ints (over [(O:Int),C,1,1,1,1,1,1,S,0,0,0] [(m:Int),L] 2)));rw[<-Q];have O3:Own v3 j.1.size 327 [(O:Int),C,m,L,1,1,1,1,S,0,0,0]:=by rw[Q];exact((O2).at (w':=u4)).setRow [(O:Int),C,m,L,1,1,1,1,S,0,0,0]
 have p3:aj v3 j:=⟨by rw[Q];exact below_setRow (aO j u4) (al _) _⟩;clear Q;go_wp2_with fail;refine ax j ap (λu5 _=>?_);refine qL [0,1,2,3,4] ?_;refine aJ 5 λK hK=>?_;have u:=λty=>fH (P:=prog) 24 25 ty 3 underlying24 ap ((O3).at (w':=u5)) (o:=4) (dLen:=2) (dCap:=2) (sLen:=2) (sCap:=d-1) (zs:=[(H:Int),W]) ((sb).rd.at (w':=u5)) rfl aI;go_simp;refine q8 hK (λ_=>?_) ⟨below_setRow (aO j u5) (al _) _⟩;clear hK K u;refine a8 ?_;obtain⟨v4,R⟩:=lg ((u5).setRow j.1.size (ints (over [(O:Int),C,m,L,1,1,1,1,S,0,0,0] [(H:Int),W] 4)));rw[<-R];have O4:Own v4 j.1.size 327 [(O:Int),C,m,L,H,W,1,1,S,0,0,0]:=by rw[R];exact((O3).at (w':=u5)).setRow [(O:Int),C,m,L,H,W,1,1,S,0,0,0]
 have p4:aj v4 j:=⟨by rw[R];exact below_setRow (aO j u5) (al _) _⟩;clear R;go_wp2_with fail;refine ax j ap (λu6 _=>?_);refine qL [0,1,2,3,4] ?_;refine aJ 5 λK hK=>?_;have u:=λty=>fH (P:=prog) 24 25 ty 3 underlying24 ap ((O4).at (w':=u6)) (o:=6) (dLen:=2) (dCap:=2) (sLen:=2) (sCap:=e-1) (zs:=[(M:Int),N]) ((sg).rd.at (w':=u6)) rfl aI;go_simp;refine q8 hK (λ_=>?_) ⟨below_setRow (aO j u6) (al _) _⟩;clear hK K u;refine a8 ?_;obtain⟨v5,T⟩:=lg ((u6).setRow j.1.size (ints (over [(O:Int),C,m,L,H,W,1,1,S,0,0,0] [(M:Int),N] 6)));rw[<-T];have O5:Own v5 j.1.size 327 [(O:Int),C,m,L,H,W,M,N,S,0,0,0]:=by rw[T];exact((O4).at (w':=u6)).setRow [(O:Int),C,m,L,H,W,M,N,S,0,0,0]
 have p5:aj v5 j:=⟨by rw[T];exact below_setRow (aO j u6) (al _) _⟩;clear T;have B5:Bx v5 j.1.size 327 #[O,C,m,L,H,W,M,N,S,an,an,an]:=⟨O5⟩;go_upto_region 8 with fail;obtain⟨v6,V⟩:=lg ((v5).setCell (j.1.size,9) (L:Int));rw[<-V];have O6:Own v6 j.1.size 327 [(O:Int),C,m,L,H,W,M,N,S,L,0,0]:=by rw[V];exact(O5).av 9 (L:Int)
 have p6:aj v6 j:=⟨by rw[V];exact(aO j v5).setCell (al _) _⟩;clear V;have B6:Bx v6 j.1.size 327 #[O,C,m,L,H,W,M,N,S,L,an,an]:=⟨O6⟩;go_upto_region 9 with fail;obtain⟨v7,X⟩:=lg ((v6).setCell (j.1.size,10) (l:Int));rw[<-X];have O7:Own v7 j.1.size 327 [(O:Int),C,m,L,H,W,M,N,S,L,l,0]:=by rw[X];exact(O6).av 10 (l:Int)
 have p7:aj v7 j:=⟨by rw[X];exact(aO j v6).setCell (al _) _⟩;clear X;have B7:Bx v7 j.1.size 327 #[O,C,m,L,H,W,M,N,S,L,l,an]:=⟨O7⟩;go_upto_region 10 with fail;obtain⟨v8,hv8⟩:=lg ((v7).setCell (j.1.size,11) (y:Int));rw[<-hv8];have O8:Own v8 j.1.size 327 [(O:Int),C,m,L,H,W,M,N,S,L,l,y]:=by rw[hv8];exact(O7).av 11 (y:Int)
 have p8:aj v8 j:=⟨by rw[hv8];exact(aO j v7).setCell (al _) _⟩;clear hv8;have B8:Bx v8 j.1.size 327 #[O,C,m,L,H,W,M,N,S,L,l,y]:=⟨O8⟩;have BR:Bx v8 w.1.size 327 #[an,an,an,an,an,an,an,an,an,an,an,an]:=am;go_wp2_with fail;have OR0:Own v8 w.1.size 327 [0,0,0,0,0,0,0,0,0,0,0,0]:=(BR).ak;have r:=(((((((((((OR0.av 0 (O:Int)).av 1 (C:Int)).av 2 (m:Int)).av 3 (L:Int)).av 4 (H:Int)).av 5 (W:Int)).av 6 (M:Int)).av 7 (N:Int)).av 8 (S:Int)).av 9 (L:Int)).av 10 (l:Int)).av 11 (y:Int);have BF:=((((((((((((aO w v8).setCell (p:=⟨w.1.size,0,none⟩) (al _) (O:Int)).setCell (p:=⟨w.1.size,1,none⟩) (al _) (C:Int)).setCell (p:=⟨w.1.size,2,none⟩) (al _) (m:Int)).setCell (p:=⟨w.1.size,3,none⟩) (al _) (L:Int)).setCell (p:=⟨w.1.size,4,none⟩) (al _) (H:Int)).setCell (p:=⟨w.1.size,5,none⟩) (al _) (W:Int)).setCell (p:=⟨w.1.size,6,none⟩) (al _) (M:Int)).setCell (p:=⟨w.1.size,7,none⟩) (al _) (N:Int)).setCell (p:=⟨w.1.size,8,none⟩) (al _) (S:Int)).setCell (p:=⟨w.1.size,9,none⟩) (al _) (L:Int)).setCell (p:=⟨w.1.size,10,none⟩) (al _) (l:Int)).setCell (p:=⟨w.1.size,11,none⟩) (al _) (y:Int);have r0:=r.cell (i:=0) (z:=(O:Int)) rfl;have r1:=r.cell (i:=1) (z:=(C:Int)) rfl;have r2:=r.cell (i:=2) (z:=(m:Int)) rfl;have r3:=r.cell (i:=3) (z:=(L:Int)) rfl;have r4:=r.cell (i:=4) (z:=(H:Int)) rfl;have r5:=r.cell (i:=5) (z:=(W:Int)) rfl;have r6:=r.cell (i:=6) (z:=(M:Int)) rfl;have r7:=r.cell (i:=7) (z:=(N:Int)) rfl;have r8:=r.cell (i:=8) (z:=(S:Int)) rfl;have r9:=r.cell (i:=9) (z:=(L:Int)) rfl;have r10:=r.cell (i:=10) (z:=(l:Int)) rfl;have r11:=r.cell (i:=11) (z:=(y:Int)) rfl;exact aZ (v:=.agg #[O,C,m,L,H,W,M,N,S,L,l,y]) zEb rfl<|⟨by rw[vI,BB.o,HHW.o]<;>rfl,⟨BF⟩⟩
end
end
variable{xs:List Int}{S y z:Int}{c d i m:Nat}{A B:Option Addr}
def rx(ws xs:au):Bool:=aH ws&&aH xs&&decide (2<=xs.length)&&decide (xs.length<=3)&&decide (ws.length=xs.length+1)&&decide (ws.getD 1 0=xs.getD 0 0)
def oN(ws xs:au)(S:Int)(i:Nat):Bool:=f8 (xs.getD (i+1) 0) (ws.getD (i+2) 0) S
def j1(ws xs:au)(S:Int)(k:Nat):List Int:=(List.range k).map λi=>lb (xs.getD (i+1) 0) (ws.getD (i+2) 0) S
def tE(ws xs:au)(S:Int):List Int:=ws.getD 0 0::j1 ws xs S (xs.length-1)
def ry(ws xs:au)(S:Int):Bool:=(List.range (xs.length-1)).all λi=>oN ws xs S i
def oO(ws xs:au)(S:Int):Int:=if rx ws xs then(if ry ws xs S then(if aH (tE ws xs S)then 0 else 20)else 11)else 20
def qY(ws xs:au)(S:Int):List Int:=if oO ws xs S=0 then tE ws xs S else[]
section
variable{ws:List Int}
def HB(k):j1 ws xs S (k+1)=j1 ws xs S k++[lb (xs.getD (k+1) 0) (ws.getD (k+2) 0) S]:=by simp[j1,iK]
def JY(k):(j1 ws xs S k).length=k:=by simp[j1]
theorem SC(hi:i<xs.length-1)(h:oN ws xs S i=false):ry ws xs S=false:=by
 rcases e:ry ws xs S with _|_;rfl;rw[ry,dL]at e;grind
theorem NJ(h:∀i,i<xs.length-1->oN ws xs S i=true):ry ws xs S=true:=by
 rw[ry,dL];grind
def WK(h:rx ws xs=false):oO ws xs S=20/\qY ws xs S=[]:=by
 have:oO ws xs S=20:=by rw[oO,h];rfl
 exact⟨this,by rw[qY,this];rfl⟩
end
section
variable{w:World}{n:Nat}{ws:List Int}
def yE{a c:Int}{v:Int}(hv:Z (lb a z c=v))(j:Z (js a z c=y)):() 190 #[a,z,c] w (aL w (.tuple #[v,y])):=by
 rw[<-hv.o,<-j.o];exact ll (AH a z c w)
def dl[a:Sl w A n xs](e:n<=1000000){b:Bool}(hb:Z (aH xs=b)):() 119 #[(A,n,c)] w (aL w (.bool b)):=by
 obtain⟨a,rfl⟩:=a;rw[<-hb.o];exact(dq A c xs w e a).mono λ_ _ ⟨j,hb⟩=>⟨j,⟨hb⟩⟩
def zE0(h:Γ:=by go_ret2;exact⟨none,0,rfl,Sl.empty,⟨al _⟩,bL.none,aC⟩):=h
def zE8(h:Γ:=by refine a8 ?_;go_wp2;exact zE0):=h
theorem Ek[a:Sl w A n ws][b:Sl w B m xs](X:n<=1000000)(hm:m<=1000000)(j:rx ws xs=false):
  () 126 #[(A,n,c),(B,m,d),S] w (jX w [] 20):=by
 have CP:=@bX;obtain⟨a,rfl⟩:=a;have a:Sl w A ws ws:=⟨a,rfl⟩;obtain⟨b,rfl⟩:=b;have b:Sl w B xs xs:=⟨b,rfl⟩;rcases h1:aH ws with _|_
 .have l:=U h1;go_in;go_wp2_with (go_at_call 119;refine mv (dl Y l) λu _=>?_);exact zE0
 have l:=U h1;rcases h2:aH xs with _|_
 .have y:=U h2;go_in;go_wp2_with (first|(go_at_call 119;refine mv (dl Y l) λu _=>?_)|(go_at_call 119;refine mv (dl Y y) λu _=>?_));exact zE0
 have y:=U h2;by_cases h3:xs.length<2
 .have d1:decide ((xs.length:Int)<2)=true:=by simp;omega
  go_in;go_wp2_with (first|(go_at_call 119;refine mv (dl Y l) λu _=>?_)|(go_at_call 119;refine mv (dl Y y) λu _=>?_));refine aq ap (λC _=>?_);refine qL [0,1,2,3,504,505,506,7,8,509,510,511,512,513,514,15,16,517,518,519,520,521,522,523,24] ?_;exact zE8
 have d1:decide ((xs.length:Int)<2)=false:=by simp;omega
 by_cases h4:3<xs.length
 .have N:decide (3<(xs.length:Int))=true:=by simp;omega
  go_in;go_wp2_with (first|(go_at_call 119;refine mv (dl Y l) λu _=>?_)|(go_at_call 119;refine mv (dl Y y) λu _=>?_));refine aq ap (λC _=>?_);refine qL [0,1,2,3,4,5,6,7,8,509,510,511,512,513,514,15,16,517,518,519,520,521,522,523,24] ?_;exact zE8
 have N:decide (3<(xs.length:Int))=false:=by simp;omega
 have y1:IntKind.i64.wrap ((xs.length:Int)+1)=(xs.length:Int)+1:=hC _ Y;by_cases D:ws.length=xs.length+1;rotate_left
 .have O:((ws.length:Int) !=(xs.length:Int)+1)=true:=by simp;omega
  go_in;go_wp2_with (first|(go_at_call 119;refine(dl Y l).mono ?_;rintro e u ⟨rfl,_⟩)|(go_at_call 119;refine(dl Y y).mono ?_;rintro e u ⟨rfl,_⟩));refine aq ap (λC _=>?_);refine qL [0,1,2,3,4,5,6,7,8,9,10,11,12,13,14,15,16,517,518,519,520,521,522,523,24] ?_;refine a8 ?_;go_wp2_with fail;exact zE0
 have O:((ws.length:Int) !=(xs.length:Int)+1)=false:=by simp;omega
 have K:3<=ws.length/\ws.length<=4:=Y;have P:=U D;clear D;have x1:(1:Int)<(ws.length:Int):=by omega
 have x2:0<xs.length:=Y;obtain⟨ba,oa,z0,rfl,Q,E,F⟩:=a.get (k:=0) Y;obtain⟨z1,r⟩:∃z,ws[1]?=some z:=ay;have R:=a.rd.all r;obtain⟨bb,ob,x0,rfl,T,G,I⟩:=b.get (k:=0) Y;simp only[d9]at E G;have V:ws.getD 0 0=z0:=by rw[a5,F.o];rfl
 have L:ws.getD 1 0=z1:=by rw[a5,r];rfl
 have M:xs.getD 0 0=x0:=by rw[a5,I.o];rfl
 by_cases J:z1=x0;rotate_left
 .have d4:(z1 !=x0)=true:=by simpa using J
  clear h1 h2 V L M r J j;go_in;go_wp2_with (first|(go_at_call 119;refine(dl Y l).mono ?_;rintro e u ⟨rfl,_⟩)|(go_at_call 119;refine(dl Y y).mono ?_;rintro e u ⟨rfl,_⟩));refine aq ap (λC _=>?_);refine qL [0,1,2,3,4,5,6,7,8,9,10,11,12,13,14,15,16,17,18,19,20,21,22,23,24] ?_;exact zE8
 exfalso;have D:=P.o;rw[rx,h1,h2,L,M,J]at j;grind
end
variable{E:Int}
section
variable{w:World}{n:Nat}{ws:List Int}
theorem HC[a:Sl w A n ws][b:Sl w B m xs][ld:Le m d]{V:au}(r:rx ws xs=true)(hE:Z (oO ws xs S=E))(hV:Z (qY ws xs S=V)):
  () 126 #[(A,n,c),(B,m,d),S] w (jX w V E):=by
 have CP:=@bX;obtain⟨a,rfl⟩:=a;have a:Sl w A ws ws:=⟨a,rfl⟩;obtain⟨b,rfl⟩:=b;have b:Sl w B xs xs:=⟨b,rfl⟩;have hp:=r;simp only[rx,bU,b9]at hp;obtain⟨⟨⟨⟨⟨h1,h2⟩,h3⟩,h4⟩,h5⟩,h6⟩:=hp;have H1:=U h1;have H2:=U h2;have d1:decide ((xs.length:Int)<2)=false:=by simp;omega
 have d2:decide (3<(xs.length:Int))=false:=by simp;omega
 have y1:IntKind.i64.wrap ((xs.length:Int)+1)=(xs.length:Int)+1:=hC _ Y;have d3:((ws.length:Int) !=(xs.length:Int)+1)=false:=by simp;omega
 have hlen:3<=ws.length/\ws.length<=4:=Y;have x1:(1:Int)<(ws.length:Int):=by omega
 have x2:0<xs.length:=Y;obtain⟨F,C⟩:=lh (xs.length-1);have N:F+2=ws.length/\F<=2/\F+1=xs.length:=Y;have D:=U N;obtain⟨ba,oa,z0,rfl,oba,WJ,O⟩:=a.get (k:=0) Y;obtain⟨z1,J⟩:∃z,ws[1]?=some z:=ay;have ca1:=a.rd.all J;obtain⟨bb,ob,x0,rfl,obb,cb0,Q⟩:=b.get (k:=0) Y;simp only[d9]at WJ cb0;have g0:ws.getD 0 0=z0:=by rw[a5,O.o];rfl
 obtain rfl:z1=x0:=by (have g1:ws.getD 1 0=z1:=by rw[a5,J];rfl);(have g2:xs.getD 0 0=x0:=by rw[a5,Q.o];rfl);grind
 have hld:=ld.le;have l1:=kJ (P:=prog) 25 ap ap bb ob xs.length d 1 Y Y;rw[C]at l1;simp only[GN]at l1;have iO:Z (tE ws xs S=z0::j1 ws xs S F):=U (by rw[tE,g0,C]);have HP:=U r;have R:=U C;clear g0 O Q r h1 h2 J h5 h6 C N;go_in;go_wp2_with (first|(go_at_call 119;refine(dl Y H1).mono ?_;rintro e u ⟨rfl,_⟩)|(go_at_call 119;refine(dl Y H2).mono ?_;rintro e u ⟨rfl,_⟩));refine aq ap (λl _=>?_);refine qL [0,1,2,3,4,5,6,7,8,9,10,11,12,13,14,15,16,17,18,19,20,21,22,23,24] ?_;refine a8 ?_;go_upto_region 6 with fail;obtain⟨v,hv⟩:=lg (l.alloc (.cells #[z0] 3));have pv:aj v l:=hv▸aj.alloc _ _;have ho:aD v l.1.size 3 (some ⟨l.1.size,0,none⟩) 1 [z0]:=by rw[hv];exact aD.gJ (zs:=[z0]) (Own.new l 3 [z0]) (al _) aI
 rw[<-hv];clear hv;obtain⟨A0,T⟩:=lh ((some ⟨l.1.size,0,none⟩:bz));rw[T]at ho⊢;clear T;go_wp2_with fail;go_loopw [8,53] (λp q wr=>∃(k:Nat) (M:bz) (X:Nat) (L:au),k<=F/\q=.int .i64 k/\p=.slice M L X/\Z (L=z0::j1 ws xs S k)/\L.length<=10/\Z (∀i,i<k->oN ws xs S i=true)/\aD wr l.1.size 3 M X L/\aj wr l) (λ_ q _=>F-(intOf q).toNat);case atStart=>exact⟨0,A0,1,[z0],aR _,rfl,rfl,U rfl,aI,U λi hi=>Y,ho,aC⟩
 case round=>
  clear ho;obtain⟨k,M,X,L,hk,rfl,rfl,HL,hL,HW,j,hp⟩:=hrel;by_cases bD:k<F
  .obtain⟨x,hx⟩:∃x,xs[1+k]?=some x:=⟨_,bk (by have:=D.o;omega)⟩;obtain⟨y,hy⟩:∃y,ws[k+2]?=some y:=⟨_,bk (by have:=D.o;omega)⟩;have cx:=b.rd.all hx;have cy:=a.rd.all hy;rw[<-pG]at cx;(have HG:k+2<ws.length:=by have:=D.o;omega);(have gx:xs.getD (k+1) 0=x:=by rw[a5,vd k 1,hx];rfl);(have gy:ws.getD (k+2) 0=y:=by rw[a5,hy];rfl);obtain⟨q,hq⟩:=lh (lb x y S);have HQ:=U hq;rcases hw:f8 x y S with _|_
   .have HE:Z (js x y S=11):=U (by simp[js,hw]);(have G:oO ws xs S=11:=by rw[oO,HP.o,SC (i:=k) (by rwa[R.o]) (by rwa[oN,gx,gy])];rfl);(obtain rfl:E=11:=by rw[<-hE.o,G]);(obtain rfl:V=[]:=by rw[<-hV.o,qY,G];rfl);go_wp2_with (go_at_call 190;refine mv (yE HQ HE) λu _=>?_);exact zE0
   have HE:Z (js x y S=0):=U (by simp[js,hw]);(have WL:Z (∀i,i<k+1->oN ws xs S i=true):=λi hi=>by by_cases h:i=k;subst h;rw[oN,gx,gy];exact hw;exact HW.o i Y);have HN:Z (L++[q]=z0::j1 ws xs S (k+1)):=U (by rw[HB,gx,gy,hq,HL.o];rfl);go_wp2_with (first|(go_at_call 190;refine mv (yE HQ HE) λu _=>?_)|(at_builtin;refine iS rfl _ _ _ rfl 3 underlying25 ap l.1.size M X L rfl j.at q rfl Y ai ?_;intro A3 c3 w3 lN s9 _ _));have:aj w3 l:=⟨(aO l _).trans s9⟩;go_roundw;exact⟨k+1,A3,c3,L++[q],Y,by go_num,aI,HN,by have:=di List.length HN;rw[fD,JY]at this;have:=D.o;omega,WL,lN,aC⟩;simp[intOf];omega
  obtain rfl:F=k:=Y;have I:ry ws xs S=true:=NJ (by rw[R.o];exact HW);have sL:Sl wr M L L:=⟨j.rd,rfl⟩;(have K:tE ws xs S=L:=by rw[iO.o,HL.o]);rcases hr:aH L with _|_
  .have HR:=U hr;(have G:oO ws xs S=20:=by rw[oO,HP.o,I,K,hr];rfl);(obtain rfl:E=20:=by rw[<-hE.o,G]);(obtain rfl:V=[]:=by rw[<-hV.o,qY,G];rfl);go_wp2_with (go_at_call 119;refine mv (dl Y HR) λu _=>?_);exact zE0
  have HR:=U hr;(have G:oO ws xs S=0:=by rw[oO,HP.o,I,K,hr];rfl);(obtain rfl:E=0:=by rw[<-hE.o,G]);(obtain rfl:L=V:=by rw[<-hV.o,qY,G,K];rfl);go_wp2_with (go_at_call 119;refine mv (dl Y HR) λu _=>?_);go_ret2;exact⟨M,X,rfl,am,⟨j.hD⟩,⟨λad e=>aQ (ai (w:=w) (w':=l)) (j.fresh ad e)⟩,aC⟩
def sR[Sl w A n ws][Sl w B m xs][Le m d](b:n<=1000000)(hm:m<=1000000){V:au}(hE:Z (oO ws xs S=E))(hV:Z (qY ws xs S=V)):
  () 126 #[(A,n,c),(B,m,d),S] w (jX w V E):=by
 rcases hp:rx ws xs with _|_;have⟨e1,e2⟩:=WK (S:=S) hp;obtain rfl:E=20:=by rw[<-hE.o,e1]
 obtain rfl:V=[]:=by rw[<-hV.o,e2]
 exact Ek b hm hp;exact HC hp hE hV
end
variable{w':World}{C:Option Addr}{e:Nat}{zs:List Int}{ss:List Sp}{side:Int}
def HE(b:Int):List Int->List (List Int)->Int
 |_,[]=>0
 |s,t::l=>if ec s t b=0 then HE b (dF s t b) l else ec s t b
def El(b:Int):List Int->List (List Int)->List Int
 |s,[]=>s
 |s,t::l=>El b (dF s t b) l
def BC(b:Int):List (List Int)->Int
 |[]=>0
 |t::l=>if l.isEmpty&& !(decide (0<=b)&&decide (b<t.length))then 11 else HE b t l
def Em(b:Int)(L:f0):List Int:=if BC b L=0 then El b (L.headD []) L.tail else[]
section
variable{w:World}{n k N:Nat}{ps bs:List Int}{V:List Int}
def JZ{ts:au}:(dF zs ts side).length<=zs.length:=by
 unfold dF hT;split<;>simp
def zE2(h:Γ:=by go_ret2;exact⟨none,0,rfl,Sl.empty,Le.same _,bL.none,aC⟩):=h
theorem NK[a:dX w B n ss][le:Le n c](h1:1<=n)(hn:n<=1000000)(hR:Z (∀z∈aX ss,aH z=true))(hV:Z (Em side (aX ss)=V))(hE:Z (BC side (aX ss)=E)):
  () 128 #[side,.slice B n c] w (jX w V E):=by
 have CP:=@bX;have G:=le.le;obtain⟨L,hL⟩:=lh (aX ss);have LN:Z (n=L.length):=U (by rw[<-hL];exact a.len.trans cR.symm);have HG:Z (∀k:Nat,k<n->∃b off A m c zs,B=some ⟨b,off,none⟩/\Old b w/\w.cell? (b,off+k)=some (.slice A m c)/\Sl w A m zs/\Le m c/\m<=4/\Z (L[k]?=some zs)):=λk hk=>by have⟨b,o,A,m,c,z,e1,e2,e3,e4,e5,e6⟩:=a.get hk;exact⟨b,o,A,m,c,z,e1,e2,e3,e4,e5,by rw[e4.len];exact cv (hR.o _ (h8 e6.o)),ay⟩
 rw[hL]at hV hE;obtain⟨b,o,A0,Q,c0,z0,rfl,ob,v0,s0,_,m4,e0⟩:=HG.o 0 Y;have v0':w.cell? (b,o)=some (.slice A0 Q c0):=v0;obtain⟨r,hr⟩:∃r,L=z0::r:=by
  have:=e0.o;cases L with
  |nil=>cases this
  |cons x r=>grind
 obtain⟨l,rfl⟩:∃l,n=l+1:=⟨n-1,Y⟩;subst hr;have R:Z (r.length=l):=U (by have:=LN.o;simp at this;omega);have S:z0.length<=4:=by rwa[<-s0.len]
 have X:=hE.o;have hV':=hV.o;rw[Em]at hV';by_cases D:l=0/\¬(0<=side/\side<z0.length)
 .obtain⟨rfl,afY⟩:=D;obtain rfl:r=[]:=pB R.o;(have zh:BC side [z0]=11:=by simp[BC];omega);obtain rfl:E=11:=ay;obtain rfl:V=[]:=ay;have hm0:Q=z0.length:=s0.len;by_cases qQ:side<0
  .go_in;go_wp2;exact zE2
  have vp:(Q:Int)<=side:=by omega
  go_in;go_wp2;exact zE2
 have HJ:Z (HE side z0 r=E):=U (by
  rw[<-X,BC,ag];intro G;simp at G;obtain⟨rfl,G⟩:=G;exact D ⟨by simpa using R.o.symm,Y⟩)
 have HS:Z (V=if E=0 then El side z0 r else[]):=ay;have HQ:Z (l=0->0<=side/\side<Q):=ay;have⟨A',kE,ha⟩:=vF b o l c G;have HA:=U ha;by_cases I:l=0
 .have⟨p0,p1⟩:=HQ.o I;subst I;obtain rfl:r=[]:=pB R;obtain rfl:E=0:=HJ.o.symm;(obtain rfl:V=z0:=by rw[HS.o];rfl);go_in;go_wp2_with (go_at_call 103;refine(ly Y).mono ?_;rintro e u ⟨gS,rfl,sS,fS,_⟩);refine l6 1 ?_;rw[gI];go_wp2;go_ret2;exact⟨_,_,rfl,sS,Le.same _,fS.less ai,aC⟩
 have En:0<l:=Y;obtain rfl:=HA.o En;go_in;go_wp2_with (go_at_call 103;refine(ly Y).mono ?_;rintro e u ⟨gS,rfl,sS,fS,_⟩);go_loopw [6,33] (λs i wr=>∃(k:Nat) (K:bz) (c2:Nat) (T:au),k<=l/\i=.int .i64 k/\s=.slice K T c2/\Sl wr K T T/\Le T.length c2/\bL w.1.size K/\T.length<=4/\Z (HE side T (r.drop k)=E)/\Z (El side T (r.drop k)=El side z0 r)/\aj wr u) (λ_ i _=>l-(intOf i).toNat);exact⟨0,_,_,z0,aR _,rfl,rfl,sS,Le.same _,fS.less ai,S,HJ,U rfl,aC⟩;obtain⟨k,K,c2,T,hk,rfl,rfl,sT,lT,fT,hT,F,M,hp⟩:=hrel;by_cases bD:k<l
 .have⟨b',o',A1,m1,c1,z1,eb,ob',v1,s1,_,JS,ht⟩:=HG.o (k+1) Y;cases eb;have Sy:w.cell? (b,o+1+k)=some (.slice A1 m1 c1):=by rwa[show o+1+k=o+(k+1)from Y]
  have HD:Z (r.drop k=z1::r.drop (k+1)):=U (by
   have⟨zf,e⟩:=bj.1 (show r[k]?=some z1 from ht.o);rw[<-e];exact e7 zf)
  obtain⟨J,O⟩:=lh (ec T z1 side);obtain⟨V1,j⟩:=lh (dF T z1 side);change Z _ at O j;by_cases y:J=0
  .subst y;go_wp2_with (go_at_call 191;refine(vE Y Y O j).mono ?_;rintro e u ⟨A',c',rfl,sJ,lJ,fJ,_⟩);go_roundw;exact⟨k+1,A',c',V1,Y,by go_num,rfl,sJ,lJ,fJ.less ai,by rw[<-j.o];have:=JZ (zs:=T) (ts:=z1) (side:=side);omega,U (by have:=F.o;rw[HD.o]at this;simpa[HE,O.o,j.o]using this),U (by have:=M.o;rw[HD.o]at this;simpa[El,j.o]using this),aC⟩;simp[intOf];omega
  have e1:(J !=0)=true:=by simp[y]
  obtain rfl:E=J:=by have:=F.o;rw[HD.o]at this;simp[HE,O.o,y]at this;exact this.symm
  obtain rfl:V=[]:=by rw[HS.o,ag y]
  go_wp2_with (go_at_call 191;refine(vE Y Y O j).mono ?_;rintro e u ⟨A',c',rfl,sJ,lJ,fJ,_⟩);exact zE2
 have P:Z (r.drop k=[]):=eU (by rw[R.o];omega);obtain rfl:E=0:=by have:=F.o;rw[P.o]at this;exact this.symm
 obtain rfl:V=T:=by rw[HS.o,ah rfl,<-M.o,P.o];rfl
 go_wp2;go_ret2;exact⟨K,c2,rfl,sT,lT,fT,aC⟩
end
variable{A1 D:Option Addr}{R c' c1 cx g l m1 mx np:Nat}{T:TypeId}{L:List (List Int)}
structure ir where
 kd:Int
 k:Int
 wd:Int
 st:Int
 sd:Int
 fr:Int
 tt:Int
 S:List Int
def cz(o:ir)(ps xs:f0):Int:=
 if o.kd=8 then mS (ps.getD 0 []) (ps.getD 1 []) (xs.getD 0 [])else if o.kd=9 then pf [ps.getD 0 [],xs.getD 0 []]else if o.kd=10 then oO (ps.getD 0 []) (xs.getD 0 []) o.st
 else if o.kd=11\/o.kd=12 then ub (xs.getD 0 []) o.wd o.st else if o.kd=13 then BC o.sd xs else if o.kd=14 then gz (xs.getD 0 []) o.sd o.fr o.tt else if o.kd=15 then vH (xs.getD 0 []) o.S else pf xs
def c6(o:ir)(ps xs:f0):List Int:=
 if o.kd=8 then mR (ps.getD 0 []) (ps.getD 1 []) (xs.getD 0 [])else if o.kd=9 then pd [ps.getD 0 [],xs.getD 0 []]else if o.kd=10 then qY (ps.getD 0 []) (xs.getD 0 []) o.st
 else if o.kd=11\/o.kd=12 then uc (xs.getD 0 []) o.wd o.st else if o.kd=13 then Em o.sd xs else if o.kd=14 then hH (xs.getD 0 []) o.sd o.fr o.tt else if o.kd=15 then Bv (xs.getD 0 []) o.S else pd xs
def ir.right(o:ir):Bool:=tl o.kd o.k o.wd o.st o.sd o.fr o.tt o.S
def ir.cnt(o:ir)(np nx:Nat):Int:=mP o.kd o.k o.wd o.st o.sd o.fr o.tt o.S np nx
def dr(o:ir)(ps xs:f0):Int:=
 if o.cnt ps.length xs.length=0 then(if ps.all aH&&xs.all aH then cz o ps xs else 20)else o.cnt ps.length xs.length
def cy(o:ir)(ps xs:f0):List Int:=if dr o ps xs=0 then c6 o ps xs else[]
section
variable{w:World}{n k N:Nat}{ps bs:List Int}{ts:List Sp}{V:List Int}
def qa{v:Bool}[Sl w A n zs](b:n<=1000000)(hv:Z (aH zs=v)):() 119 #[(A,n,c)] w (aL w (.bool v)):=xf (sP b) (by rw[hv.o])
def yF{o:ir}{nx:Nat}(h:o.cnt np nx=0):o.right=true/\gN o.kd<=nx/\(nx:Int)<=jl o.kd/\(np:Int)=fq o.kd:=by
 unfold ir.cnt mP at h;split at h
 .rename_i hr;split at h;omega;rename_i b;exact⟨hr,Y,Y,Y⟩
 omega
theorem SD{c0:Nat}{z0 z1:au}[h:Bx w g T #[(D,l,c0),(A1,m1,c1)]][r:Sl w D l z0][y:Le l c0][u:Sl w A1 m1 z1][l1:Le m1 c1]:
  dX w g 2 [⟨D,l,c0,z0⟩,⟨A1,m1,c1,z1⟩]:=
 ⟨λj x b=>by
  match j with
  |0=>simp at b;subst b;exact⟨g,0,rfl,h.ak.lt,h.ak.cell 0,r.rd,r.len,y.le⟩
  |1=>simp at b;subst b;exact⟨g,0,rfl,h.ak.lt,h.ak.cell 1,u.rd,u.len,l1.le⟩
  |j+2=>simp at b,rfl⟩
end
def J0(h:pf L≠0):pd L=[]:=by
 unfold pf at h;unfold pd;split at h;omega;rename_i b;rw[ag b]
def WM{o:ir}{ps xs:f0}(h:cz o ps xs≠0):c6 o ps xs=[]:=by
 unfold cz at h;unfold c6;split
 .rename_i b;rw[ah b]at h;unfold mS at h;unfold mR;split at h;omega;rename_i y;rw[ag y]
 rename_i z;rw[ag z]at h;split;rename_i b;rw[ah b]at h;exact J0 h;rename_i B;rw[ag B]at h;split;rename_i b;rw[ah b]at h;unfold qY;rw[ag h];rename_i j;rw[ag j]at h;split
 .rename_i b;rw[ah b]at h;unfold ub at h;unfold uc;split at h
  .rename_i hr;rw[hr];unfold js at h;split at h;omega;rename_i C;rw[ag];intro e;rw[bU]at e;exact C e.2
  rename_i hr;rw[ag];intro e;rw[bU]at e;exact hr e.1
 rename_i l;rw[ag l]at h;split;rename_i b;rw[ah b]at h;unfold Em;rw[ag h];rename_i m;rw[ag m]at h;split;rename_i b;rw[ah b]at h;unfold hH;rw[ag h];rename_i r;rw[ag r]at h;split;rename_i b;rw[ah b]at h;unfold Bv;rw[ag h];rename_i u;rw[ag u]at h;exact J0 h
section
variable{w:World}{n k N nx:Nat}{ts:List Sp}{V:List Int}{o:ir}
def dX.all(h:dX w B n ss)(hL:aX ss=L):Z (n=L.length/\∀k:Nat,k<n->∃b off A m c zs,B=some ⟨b,off,none⟩/\Old b w/\w.cell? (b,off+k)=some (.slice A m c)/\Sl w A m zs/\Le m c/\Z (L[k]?=some zs)):=
 U ⟨by rw[<-hL];exact h.len.trans cR.symm,λk j=>by
  obtain⟨b,o,A,m,c,z,l,r,u,y,D,F⟩:=h.get j;exact⟨b,o,A,m,c,z,l,r,u,y,D,U (by rw[<-hL];exact F.o)⟩⟩
def zE1(h:Γ:=by refine a8 ?_;go_wp2_with fail;go_ret2;exact⟨T,c',rfl,sJ,lJ,fJ.less ai,aC⟩):=h
def zE3(h:Γ:=by have Hv:=U hv;have mf:=U (p9 HT G.o hv);clear hv G;go_wp2_with (go_at_call 119;refine(qa JS Hv).mono ?_;rintro e u ⟨rfl,_⟩);go_roundw;exact⟨j+1,Y,by go_num,mf,aC⟩;simp[intOf];omega):=h
def zE4(h:Γ:=by have Hv:=U hv;clear hv G;go_wp2_with (go_at_call 119;refine(qa JS Hv).mono ?_;rintro e u ⟨rfl,_⟩);exact zE2):=h
def zE5(h:Γ:=by rintro e ux ⟨T,c',rfl,sJ,lJ,fJ,_⟩;dsimp only;refine aE hK ?_;refine qL [10,11,12,13] ?_;exact zE1):=h
def zE9(h:Γ:=by go_ret2;exact⟨T,c',rfl,sJ,lJ,fJ.less ai,aC⟩):=h
def zEa(h:Γ:=by rw[<-hV.o,<-hE.o,cy,G];exact⟨rfl,rfl⟩):=h
def mn[Sl w A n o.S](hn:n<=1000000)[a:dX w B m ss][x:dX w C nx ts][Le nx cx](hm:m<=1000000)(hx:nx<=1000000)(hz:Z (∀z∈aX ss++aX ts,z.length<=1000000))(hV:Z (cy o (aX ss) (aX ts)=V))(hE:Z (dr o (aX ss) (aX ts)=E)):
  () 74 #[.agg (gM o.kd o.k o.wd o.st o.sd o.fr o.tt (A,n,d)),(B,m,e),(C,nx,cx)] w (jX w V E):=by
 obtain⟨CB,CP⟩:=hY;obtain⟨P,hP⟩:=lh (aX ss);obtain⟨X,hX⟩:=lh (aX ts);have GA:=a.all hP;have GX:=x.all hX;have HX:=U hX;rw[hP,hX]at hV hE hz;clear hP hX a;obtain⟨ce,Q⟩:=lh (o.cnt P.length X.length);have HC:Z (mP o.kd o.k o.wd o.st o.sd o.fr o.tt o.S m nx=ce):=U (by rw[<-Q,ir.cnt,GA.o.1,GX.o.1]);by_cases h0:ce=0;rotate_left
 .have b0:(ce !=0)=true:=by simp[h0]
  obtain⟨rfl,rfl⟩:V=[]/\ce=E:=by (have G:dr o P X=ce:=by rw[dr,Q,ag h0]);rw[<-hV.o,<-hE.o,cy,G,ag h0];exact⟨rfl,rfl⟩
  clear Q h0;go_in;go_wp2_with (go_at_call 104;refine(bY hn HC).mono ?_;rintro e u ⟨rfl,_⟩);exact zE2
 subst h0;obtain⟨hr,i1,i2,i3⟩:=yF Q;rw[<-GA.o.1]at i3;rw[<-GX.o.1]at i1 i2;have I:=U (And.intro i1 (And.intro i2 i3));have iO:Z (P.all aH=true->X.all aH=true->V=(if cz o P X=0 then c6 o P X else[])/\E=cz o P X):=λh1 F=>by (have G:dr o P X=cz o P X:=by rw[dr,ah Q,h1,F];rfl);exact zEa
 have HN0:Z (P.all aH=false\/X.all aH=false->V=[]/\E=20):=λh1=>by (have G:dr o P X=20:=by rw[dr,ah Q,ag];rcases h1 with h1|h1<;>simp[h1]);exact zEa
 clear Q hV hE i1 i2 i3;go_in;go_wp2_with (go_at_call 104;refine(bY hn HC).mono ?_;rintro e u ⟨rfl,_⟩);go_loopw [24] (λi wr=>∃j:Nat,j<=m/\i=.int .i64 j/\Z ((P.take j).all aH=true)/\aj wr u) (λi _=>m-(intOf i).toNat);exact⟨0,aR _,rfl,U rfl,aC⟩;obtain⟨j,hj,rfl,HT,hp⟩:=hrel;by_cases bD:j<m;obtain⟨b,q,A1,m1,c1,z1,rfl,ob,v1,s1,_,G⟩:=GA.o.2 j bD;have JS:m1<=1000000:=by rw[s1.len];exact hz.o _ (PE _ (h8 G.o))
 rcases hv:aH z1 with _|_;obtain⟨rfl,rfl⟩:=HN0.o (.inl (xi G.o hv));exact zE4;exact zE3;have HA:Z (P.all aH=true):=xj HT (by rw[<-GA.o.1];omega);clear HT;go_wp2_with fail;go_loopw [34] (λi wr=>∃j:Nat,j<=nx/\i=.int .i64 j/\Z ((X.take j).all aH=true)/\aj wr u) (λi _=>nx-(intOf i).toNat);exact⟨0,aR _,rfl,U rfl,aC⟩;rename_i wr1 _;obtain⟨j,hj,rfl,HT,hp⟩:=hrel;by_cases bD:j<nx;obtain⟨b,q,A1,m1,c1,z1,rfl,ob,v1,s1,_,G⟩:=GX.o.2 j bD;have JS:m1<=1000000:=by rw[s1.len];exact hz.o _ (zD _ (h8 G.o))
 rcases hv:aH z1 with _|_;obtain⟨rfl,rfl⟩:=HN0.o (.inr (xi G.o hv));exact zE4;exact zE3
 have HB:Z (X.all aH=true):=xj HT (by rw[<-GX.o.1];omega);have HW:Z (c6 o P X=V/\cz o P X=E):=U (by
  obtain⟨h1,F⟩:=iO.o HA HB;refine⟨?_,F.symm⟩;rw[h1]
  split
  .rfl
  .rename_i h;exact WM h)
 have HRA:Z (∀z∈P,aH z=true):=λz hz=>dL.1 HA z hz;have HRX:Z (∀z∈X,aH z=true):=λz hz=>dL.1 HB z hz;clear HT iO HN0 HA HB hz;obtain⟨b0,q0,A0,m0,c0,x0,rfl,ob0,v0,s0,lx0,e0⟩:=GX.o.2 0 (by have:=I.o.1;unfold gN at this;split at this<;>omega);have m0l:m0<=4:=by rw[s0.len];exact cv (HRX.o _ (h8 e0.o))
 have x1:0<nx:=by have:=I.o.1;unfold gN at this;split at this<;>omega
 have v0':w.cell? (b0,q0)=some (.slice A0 m0 c0):=v0;clear v0;have D0:Z (X.getD 0 []=x0):=U (by rw[a5,e0.o];rfl);obtain⟨b9,B9⟩:=lh ((o.kd==9));by_cases y:o.kd=8
 .have vC:m=2:=by have:=I.o.2.2;rw[fq,ah y]at this;omega
  obtain⟨b1,q1,A1,m1,c1,p0,rfl,mM,v1,s1,_,G⟩:=GA.o.2 0 Y;obtain⟨b2,q2,A2,m2,c2,p1,eb,iM,v2,s2,_,e2⟩:=GA.o.2 1 Y;injection eb with eb;injection eb with eb1 eb2;subst eb1 eb2
  have Sy:w.cell? (b1,q1)=some (.slice A1 m1 c1):=v1;have L:Z (mR p0 p1 x0=V/\mS p0 p1 x0=E):=U (by
   obtain⟨h1,F⟩:=HW.o;have d1:P.getD 0 []=p0:=by rw[a5,G.o];rfl
   have d2:P.getD 1 []=p1:=by rw[a5,e2.o];rfl
   rw[c6,ah y,d1,d2,D0.o]at h1;rw[cz,ah y,d1,d2,D0.o]at F;exact⟨h1,F⟩)
  have g1:0<m:=Y;(have g2:(1:Int)<(m:Int):=by omega);(have b8:(o.kd==8)=true:=by simpa using y);clear y vC v1;go_upto_region 18 with fail;refine aq ap (λux _=>?_);refine qL [0,1,2,3,4,5,6,7,8] ?_;refine aJ 9 λK hK=>?_;go_simp;refine(Sx Y (U L.o.1) (U L.o.2)).mono ?_;exact zE5
 have b8:(o.kd==8)=false:=by simpa using y
 by_cases J:o.kd=9
 .have lz:m=1:=by have:=I.o.2.2;rw[fq,ag y,ah (.inl J)]at this;omega
  obtain⟨b1,q1,A1,m1,c1,p0,rfl,mM,v1,s1,lp1,G⟩:=GA.o.2 0 Y;have Sy:w.cell? (b1,q1)=some (.slice A1 m1 c1):=v1;have L:Z (pd (aX [⟨A1,m1,c1,p0⟩,⟨A0,m0,c0,x0⟩])=V/\pf (aX [⟨A1,m1,c1,p0⟩,⟨A0,m0,c0,x0⟩])=E):=U (by
   obtain⟨h1,F⟩:=HW.o;have d1:P.getD 0 []=p0:=by rw[a5,G.o];rfl
   rw[c6,ag y,ah J,d1,D0.o]at h1;rw[cz,ag y,ah J,d1,D0.o]at F;exact⟨h1,F⟩)
  have xl:Z (∀z∈aX [⟨A1,m1,c1,p0⟩,⟨A0,m0,c0,x0⟩],aH z=true):=U (by
   intro z hz;simp[aX]at hz;rcases hz with rfl|rfl
   .exact HRA.o _ (h8 G.o)
   .exact HRX.o _ (h8 e0.o))
  have g1:0<m:=Y;(have b9:(o.kd==9)=true:=by simpa using J);clear y J lz v1 B9;go_upto_region 20 with fail;refine aq ap (λux _=>?_);refine qL [0,1,2,3,4,5] ?_;refine aJ 6 λK hK=>?_;go_simp;refine aE hK<|bc (λux _ _=>?_);refine aJ 7 λK hK=>?_;go_simp;refine(JR (ss:=[⟨A1,m1,c1,p0⟩,⟨A0,m0,c0,x0⟩]) (a:=SD) Y Y xl (U L.o.1) (U L.o.2)).mono ?_;rintro e ux ⟨T,c',rfl,sJ,lJ,fJ,_⟩;dsimp only;refine aE hK ?_;refine qL [8,9,10,11] ?_;exact zE1
 have b9:(o.kd==9)=false:=by simpa using J
 by_cases l:o.kd=10
 .have lz:m=1:=by have:=I.o.2.2;rw[fq,ag y,ah (.inr l)]at this;omega
  obtain⟨b1,q1,A1,m1,c1,p0,rfl,mM,v1,s1,lp1,G⟩:=GA.o.2 0 Y;have Sy:w.cell? (b1,q1)=some (.slice A1 m1 c1):=v1;have J6:m1<=4:=by rw[s1.len];exact cv (HRA.o _ (h8 G.o))
  have L:Z (qY p0 x0 o.st=V/\oO p0 x0 o.st=E):=U (by
   obtain⟨h1,F⟩:=HW.o;have d1:P.getD 0 []=p0:=by rw[a5,G.o];rfl
   rw[c6,ag y,ag J,ah l,d1,D0.o]at h1;rw[cz,ag y,ag J,ah l,d1,D0.o]at F;exact⟨h1,F⟩)
  have g1:0<m:=Y;(have b10:(o.kd==10)=true:=by simpa using l);clear y J l lz v1 B9;go_upto_region 22 with fail;refine aq ap (λux _=>?_);refine qL [0,1,2,3,4,5,6,7] ?_;refine aJ 8 λK hK=>?_;go_simp;refine(sR Y Y (U L.o.2) (U L.o.1)).mono ?_;rintro e ux ⟨T,c',rfl,sJ,lJ,fJ,_⟩;dsimp only;refine aE hK ?_;refine qL [9,10,11,12] ?_;exact zE1
 have b10:(o.kd==10)=false:=by simpa using l
 by_cases r:o.kd=11\/o.kd=12
 .have L:Z (uc x0 o.wd o.st=V/\ub x0 o.wd o.st=E):=U (by
   obtain⟨h1,F⟩:=HW.o;rw[c6,ag y,ag J,ag l,ah r,D0.o]at h1;rw[cz,ag y,ag J,ag l,ah r,D0.o]at F;exact⟨h1,F⟩)
  have K11:=U r;clear y J l r B9;rcases zh:(o.kd==11)with _|_;(focus have HD:(o.kd==12)=true:=by rcases K11.o with e|e;rw[e]at zh;cases zh;simpa using e);rotate_left;all_goals go_upto_region 25 with fail;refine aq ap (λux _=>?_);refine qL [0,1,2,3,4,5,6] ?_;refine aJ 7 λK hK=>?_;go_simp;refine(yD Y (U L.o.2) (U L.o.1)).mono ?_;rintro e ux ⟨T,c',rfl,sJ,lJ,fJ,_⟩;dsimp only;refine aE hK ?_;refine qL [8,9,10,11] ?_;refine a8 ?_;go_wp2_with fail;go_ret2;exact⟨T,c',rfl,sJ,lJ,fJ.less ai,aC⟩
 have b11:(o.kd==11)=false:=by simp;omega
 have b12:(o.kd==12)=false:=by simp;omega
 by_cases D:o.kd=13
 .have L:Z (Em o.sd X=V/\BC o.sd X=E):=U (by
   obtain⟨h1,F⟩:=HW.o;rw[c6,ag y,ag J,ag l,ag r,ah D]at h1;rw[cz,ag y,ag J,ag l,ag r,ah D]at F;exact⟨h1,F⟩)
  have b13:(o.kd==13)=true:=by simpa using D
  clear y J l r D B9;have J1:Z (∀z∈aX ts,aH z=true):=U (by rwa[HX.o]);have J2:=L.o.1;have J3:=L.o.2;rw[<-HX.o]at J2 J3;have J4:=U J2;have J5:=U J3;clear J2 J3;go_wp2_with (go_at_call 128;refine(NK Y Y J1 J4 J5).mono ?_;rintro e u ⟨T,c',rfl,sJ,lJ,fJ,_⟩);exact zE9
 have b13:(o.kd==13)=false:=by simpa using D
 by_cases M:o.kd=14
 .have L:Z (hH x0 o.sd o.fr o.tt=V/\gz x0 o.sd o.fr o.tt=E):=U (by
   obtain⟨h1,F⟩:=HW.o;rw[c6,ag y,ag J,ag l,ag r,ag D,ah M,D0.o]at h1;rw[cz,ag y,ag J,ag l,ag r,ag D,ah M,D0.o]at F;exact⟨h1,F⟩)
  have b14:(o.kd==14)=true:=by simpa using M
  clear y J l r D M B9;go_upto_region 29 with fail;refine aq ap (λux _=>?_);refine qL [0,1,2,3,4,5,6,7,8] ?_;refine aJ 9 λK hK=>?_;go_simp;refine(Qy Y (U L.o.2) (U L.o.1)).mono ?_;exact zE5
 have b14:(o.kd==14)=false:=by simpa using M
 by_cases O:o.kd=15
 .have L:Z (Bv x0 o.S=V/\vH x0 o.S=E):=U (by
   obtain⟨h1,F⟩:=HW.o;rw[c6,ag y,ag J,ag l,ag r,ag D,ag M,ah O,D0.o]at h1;rw[cz,ag y,ag J,ag l,ag r,ag D,ag M,ah O,D0.o]at F;exact⟨h1,F⟩)
  have b15:(o.kd==15)=true:=by simpa using O
  clear y J l r D M O B9;go_upto_region 31 with fail;refine aq ap (λux _=>?_);refine qL [0,1,2,3,4] ?_;refine aJ 5 λK hK=>?_;go_simp;refine(NC Y Y (U L.o.1) (U L.o.2)).mono ?_;rintro e ux ⟨T,c',rfl,sJ,lJ,fJ,_⟩;dsimp only;refine aE hK ?_;refine qL [6,7,8,9] ?_;exact zE1
 have b15:(o.kd==15)=false:=by simpa using O
 have L:Z (pd X=V/\pf X=E):=U (by
  obtain⟨h1,F⟩:=HW.o;rw[c6,ag y,ag J,ag l,ag r,ag D,ag M,ag O]at h1;rw[cz,ag y,ag J,ag l,ag r,ag D,ag M,ag O]at F;exact⟨h1,F⟩)
 clear y J l r D M O B9;have J1:Z (∀z∈aX ts,aH z=true):=U (by rwa[HX.o]);have J2:=L.o.1;have J3:=L.o.2;rw[<-HX.o]at J2 J3;have J4:=U J2;have J5:=U J3;clear J2 J3;go_wp2_with (go_at_call 125;refine(JR Y Y J1 J4 J5).mono ?_;rintro e u ⟨T,c',rfl,sJ,lJ,fJ,_⟩);exact zE9
end
section
variable{ps bs:List Int}{o:ir}{P X:List (List Int)}
def J1{n:Nat}{v:Int}(hr:aH zs=true)(e:zs[n]?=some z)(m:1<=v)(hv:v<=z):aH (zs.set n v)=true:=by
 obtain⟨r1,r,b,j⟩:=(ba zs).1 hr;have u:=(bj.1 e).1;refine(ba _).2 ⟨by simpa using r1,by simpa using r,p2 b n m (by have:=(dI b e).2;omega),?_⟩;rw[p3 v u];rw[iq e]at j;refine Qa (sx (zC hv ?_) ?_) j;have:=jk (l:=zs.drop (n+1)) λz e=>(bW (oB b _) e).1;omega;have:=jk (l:=zs.take n) λz e=>(bW (ov b _) e).1;omega
theorem yG(b:L≠[])(h:∀z∈L,aH z=true)(hE:pf L=0):aH (pd L)=true:=by
 unfold pf at hE;unfold pd;split at hE
 .rename_i hs;rw[ah hs];cases L with
  |nil=>grind
  |cons a l=>grind
 omega
theorem HF{ts:au}(h:ec zs ts z=0):aH (dF zs ts z)=true:=by
 unfold dF;rw[ah h];unfold ec at h;grind
theorem BD{b:Int}:∀{l:f0} {s:au},aH s=true->HE b s l=0->aH (El b s l)=true
 |[],_,h,_=>h
 |t::l,s,_,hE=>by unfold HE at hE;unfold El;split at hE;rename_i e;exact BD (HF e) hE;grind
theorem J2(j:o.cnt P.length X.length=0)(hP:P.all aH=true)(F:X.all aH=true)(h:cz o P X=0):aH (c6 o P X)=true:=by
 obtain⟨hr,i1,i2,i3⟩:=yF j;have x1:0<X.length:=by unfold gN at i1;split at i1<;>omega
 have G:∀z∈X,aH z=true:=dL.1 F;have M:∀z∈P,aH z=true:=dL.1 hP;have m:aH (X.getD 0 [])=true:=ay;have r:0<P.length->aH (P.getD 0 [])=true:=ay;unfold cz at h;unfold c6;generalize P.getD 0 []=p0 at h r⊢;generalize X.getD 0 []=x0 at h m⊢;split
 .rename_i b;rw[ah b]at h;have p1:=r (by rw[fq,ah b]at i3;omega);unfold mS at h;unfold mR;split at h;rename_i j;rw[ah j];simp only[iN,bU,b9]at j;obtain⟨N,O,I,Q⟩:=(ba _).1 p1;have:=dI I (bk (show 0<p0.length by omega));(have e:p0.getD 0 0=p0[0]'Y:=by rw[a5,bk Y];rfl);rw[e];refine(ba _).2 ⟨aI,aI,by simp[cj];omega,?_⟩;simp[aB];omega;omega
 rename_i E;rw[ag E]at h;split;rename_i b;rw[ah b]at h;have p1:=r (by rw[fq,ag E,ah (.inl b)]at i3;omega);refine yG aI (λz T=>?_) h;grind;rename_i J;rw[ag J]at h;split;rename_i b;rw[ah b]at h;unfold qY;rw[ah h];unfold oO at h;grind;rename_i u;rw[ag u]at h;split;rename_i b;rw[ah b]at h;obtain⟨R,aa,n,W,S,_,_,pw⟩:=PW.of h;exact pw.QC;rename_i y;rw[ag y]at h;split
 .rename_i b;rw[ah b]at h;unfold Em;rw[ah h];cases X with
  |nil=>simp at x1
  |cons t l=>unfold BC at h;dsimp only at h;split at h;grind;exact BD ay h
 rename_i B;rw[ag B]at h;split
 .rename_i b;rw[ah b]at h;unfold hH;rw[ah h];unfold gz at h;rw[ah m]at h;split at h;rename_i j;simp only[bU,b9]at j;obtain⟨⟨⟨⟨V,s1⟩,a0⟩,K⟩,ab⟩:=j;have L:o.sd.toNat<x0.length:=Y;have hg:=bk L;rw[a5,hg]at K;exact J1 m hg Y ay;grind
 rename_i C;rw[ag C]at h;split;rename_i b;rw[ah b]at h;unfold Bv;rw[ah h];unfold vH at h;grind;rename_i D;rw[ag D]at h;exact yG ay G h
theorem jm(h:dr o P X=0):o.cnt P.length X.length=0/\P.all aH=true/\X.all aH=true/\cz o P X=0:=by
 unfold dr at h;grind
def lC(h:dr o P X=0):aH (cy o P X)=true:=by
 obtain⟨b,hP,e,j⟩:=jm h;rw[cy,ah h];exact J2 b hP e j
end
def SE(o:ir)(P:f0)(V:au):List Int:=if o.kd=10 then[aB V,Int.tdiv (aB (P.getD 0 [])) ((P.getD 0 []).getD 0 0)]else[aB V,o.wd]
def NL(o:ir)(P:f0)(V:au):Int:=
 if o.kd=8 then aB (P.getD 0 [])else if o.kd=10\/o.kd=11\/o.kd=12 then mA (SE o P V)else aB V
def NM(o:ir)(P:f0)(V:au):Int:=if o.kd=10\/o.kd=11\/o.kd=12 then mB (SE o P V)else 0
section
variable{w:World}{n k N nx:Nat}{ts:List Sp}{F:Int}{V:List Int}{o:ir}
def J3[a:Sl w A n zs](b:n<=1000000){v e:Int}(hv:Z (mA zs=v/\mB zs=e)):() 75 #[(A,n,c)] w (aL w (.tuple #[v,e])):=by
 obtain⟨a,rfl⟩:=a;rw[<-hv.o.1,<-hv.o.2];exact(wU A c zs w b a).mono λe w' ⟨j,l⟩=>⟨j,⟨l⟩⟩
def zEc(h:Γ:=by assumption):=h
theorem J4[Sl w A n o.S](hn:n<=1000000)[a:dX w B m ss][dX w C nx ts][Le nx cx](hm:m<=1000000)(hx:nx<=1000000)(hz:Z (∀z∈aX ss++aX ts,z.length<=1000000))(hE:dr o (aX ss) (aX ts)=0){v e:Int}
  (hv:Z (NL o (aX ss) (cy o (aX ss) (aX ts))=v/\NM o (aX ss) (cy o (aX ss) (aX ts))=e)):
  () 30 #[.agg (gM o.kd o.k o.wd o.st o.sd o.fr o.tt (A,n,d)),(B,m,c),(C,nx,cx)] w (aL w (.tuple #[v,e])):=by
 obtain⟨CB,CP⟩:=hY;obtain⟨L,hP,X,hk⟩:=jm hE;have I:=lC hE;obtain⟨i0,i1,i2,i3⟩:=yF L;have HE:=U hE;obtain⟨V,hV⟩:=lh (cy o (aX ss) (aX ts));rw[hV]at I hv;have HV:=U hV;have vl:V.length<=4:=cv I;obtain⟨z,j⟩:=lh (aB V);have HS:Z (bG V=z/\cB V=0):=U ⟨by rw[bG,I];exact j,by rw[cB,I];rfl⟩;have GA:=a.all rfl;have M:Z (∀z∈aX ss,aH z=true):=ay;have I3:Z ((m:Int)=fq o.kd):=U (by rwa[GA.o.1]);by_cases l:o.kd=8
 .obtain⟨b1,O,A1,m1,c1,J,rfl,mM,P,Q,_,K⟩:=GA.o.2 0 (by have:=I3.o;rw[fq,ah l]at this;omega);have Sy:w.cell? (b1,O)=some (.slice A1 m1 c1):=P;have r1:=M.o _ (h8 K.o);(have J6:m1<=4:=by rw[Q.len];exact cv r1);have g1:0<m:=by have:=I3.o;rw[fq,ah l]at this;omega
  have HZ:Z (bG J=v/\cB J=0):=U ⟨by
   rw[<-hv.o.1,NL,ah l,bG,r1,a5,K.o];rfl,by rw[cB,r1];rfl⟩
  obtain rfl:e=0:=by rw[<-hv.o.2,NM,ag Y]
  have b8:(o.kd==8)=true:=by simpa using l
  clear l P r1 L hP X hk i0 i1 i2 i3 I hV j K hE;go_in;go_wp2_with (first|(go_at_call 74;refine(mn Y Y Y zEc HV HE).mono ?_;rintro e u ⟨A',c',rfl,sJ,lJ,fJ,_⟩)|(go_at_call 73;refine(eG Y HS).mono ?_;rintro e u ⟨rfl,_⟩)|(go_at_call 73;refine(eG Y HZ).mono ?_;rintro e u ⟨rfl,_⟩));go_ret2;exact bF
 have b8:(o.kd==8)=false:=by simpa using l
 by_cases b:o.kd=10
 .have g1:0<m:=by have:=I3.o;rw[fq,ag l,ah (.inr b)]at this;omega
  obtain⟨b1,O,A1,m1,c1,J,rfl,mM,P,Q,_,K⟩:=GA.o.2 0 Y;have Sy:w.cell? (b1,O)=some (.slice A1 m1 c1):=P;have r1:=M.o _ (h8 K.o);(have J6:m1<=4:=by rw[Q.len];exact cv r1);obtain⟨h1,h2,h3,h4⟩:=(ba _).1 r1;have m1p:0<m1:=by rw[Q.len];omega
  obtain⟨b2,q2,y,rfl,iM,u0,e2⟩:=Q.get (k:=0) m1p;have u0':w.cell? (b2,q2)=some (.int .i64 y):=u0;have y1:=dI h3 e2.o;obtain⟨D,G⟩:=lh (aB J);have kb:=pQ _ h3 h2;rw[G]at kb;have HZ:Z (bG J=D/\cB J=0):=U ⟨by rw[bG,r1];exact G,by rw[cB,r1];rfl⟩;have HM:Z (mA [z,D.tdiv y]=v/\mB [z,D.tdiv y]=e):=U (by
   have d1:(aX ss).getD 0 []=J:=by rw[a5,K.o];rfl
   have d2:J.getD 0 0=y:=by rw[a5,e2.o];rfl
   have T:SE o (aX ss) V=[z,D.tdiv y]:=by rw[SE,ah b,d1,d2,G,j]
   refine⟨?_,?_⟩
   .rw[<-hv.o.1,NL,ag l,ah (.inl b),T]
   .rw[<-hv.o.2,NM,ah (.inl b),T])
  have b10:(o.kd==10)=true:=by simpa using b
  have q0:0<=D.tdiv y:=Int.tdiv_nonneg Y Y;(have O:D.tdiv y<=D:=by have:=Int.tdiv_le_self y (show 0<=D by omega);exact this);obtain⟨qq,hqq⟩:=lh (D.tdiv y);rw[hqq]at HM q0 O;clear l b P r1 L hP X hk i0 i1 i2 i3 I hV j K hE h1 h2 h3 h4 G u0 e2;go_in;go_wp2_with (first|(go_at_call 74;refine(mn Y Y Y zEc HV HE).mono ?_;rintro e u ⟨A',c',rfl,sJ,lJ,fJ,_⟩)|(go_at_call 73;refine(eG Y HS).mono ?_;rintro e u ⟨rfl,_⟩)|(go_at_call 73;refine(eG Y HZ).mono ?_;rintro e u ⟨rfl,_⟩)|(go_at_call 75;refine(J3 Y HM).mono ?_;rintro e u ⟨rfl,_⟩));go_ret2;exact bF
 have b10:(o.kd==10)=false:=by simpa using b
 by_cases r:o.kd=11\/o.kd=12
 .have K11:=U r;have HM:Z (mA [z,o.wd]=v/\mB [z,o.wd]=e):=U (by
   have T:SE o (aX ss) V=[z,o.wd]:=by rw[SE,ag b,j]
   refine⟨?_,?_⟩
   .rw[<-hv.o.1,NL,ag l,ah (.inr r),T]
   .rw[<-hv.o.2,NM,ah (.inr r),T])
  clear l b r L hP X hk i0 i1 i2 i3 I hV j hE;rcases zh:(o.kd==11)with _|_;(focus have HD:(o.kd==12)=true:=by rcases K11.o with e|e;grind;simpa using e);rotate_left;all_goals go_in;go_wp2_with (first|(go_at_call 74;refine(mn Y Y Y zEc HV HE).mono ?_;rintro e u ⟨A',c',rfl,sJ,lJ,fJ,_⟩)|(go_at_call 73;refine(eG Y HS).mono ?_;rintro e u ⟨rfl,_⟩)|(go_at_call 75;refine(J3 Y HM).mono ?_;rintro e u ⟨rfl,_⟩));go_ret2;exact bF
 have b11:(o.kd==11)=false:=by simp;omega
 have b12:(o.kd==12)=false:=by simp;omega
 obtain⟨rfl,rfl⟩:z=v/\e=0:=⟨by rw[<-hv.o.1,NL,ag l,ag Y,j],by rw[<-hv.o.2,NM,ag Y]⟩;clear l b r L hP X hk i0 i1 i2 i3 I hV j hE;go_in;go_wp2_with (first|(go_at_call 74;refine(mn Y Y Y zEc HV HE).mono ?_;rintro e u ⟨A',c',rfl,sJ,lJ,fJ,_⟩)|(go_at_call 73;refine(eG Y HS).mono ?_;rintro e u ⟨rfl,_⟩));go_ret2;exact bF
end
def Fk(w:ab)(T:TypeId)(zs:au)(cs:dw)(h:cs=ints zs):Own (w.alloc (.cells cs T)) w.1.size T zs:=by subst h;exact Own.new _ _ _
def Eo(zs xs ts b:au):List Int:=if cP zs xs ts b then zs else[]
def Ep(zs xs ts b:au):List Int:=if cP zs xs ts b then xs.zipWith bB b else[]
def SF(zs xs ts b:au):Int:=if cP zs xs ts b then 0 else 20
def ac7(A B C D)(c d e d')(zs xs ts b)(w)(m:zs.length<=1000000)(ht:ts.length<=1000000)
  (j:Rd w A zs) (r:Rd w B xs) (l:Rd w C ts) (u:Rd w D b) (y:Z (∀z∈xs,bf z)) (E:Z (∀z∈b,bf z)):
  () 115 #[.agg #[.slice A zs c,.slice B xs d],.agg #[.slice C ts e,.slice D b d']] w (fF w (Eo zs xs ts b) (Ep zs xs ts b) (SF zs xs ts b)):=by
 rcases hr:cP zs xs ts b with _|_;have:=Sg A B C D c d e d' zs xs ts b w m ht j l hr;simpa[Eo,Ep,SF,hr]using this;have:=Bl A B C D c d e d' zs xs ts b w j r l u y E hr;simpa[Eo,Ep,SF,hr]using this
