/- WholeSame: for every input the statement returns true, and each argument reads afterwards as it read before. No condition. -/
import Derived.Test.YtmkjnlifimffkaaGreatG18
import Derived.Test.YtmkjnlifimffkaaGreatG15
import Derived.Test.YtmkjnlifimffkaaGreatRows
import Derived.Test.YtmkjnlifimffkaaGreatG19
namespace Go.Proofs.YtmkjnlifimffkaaGreat
open Go.RowKit Go.Proofs.Tryz
set_option linter.all false
set_option maxRecDepth 100000
set_option maxHeartbeats 0
variable{Γ:Prop}
attribute[local irreducible]Calls
variable{w' w0:World}{A B:Option Addr}{M j m mb q r wb:Nat}{cap:Int}
def Ml(n:Nat):madeCells #[Value.bool false] n=oX (List.replicate n false):=by
 apply pK;simp only[madeCells,Array.toList_map,Array.toList_range,oX];apply uY;simp;intro i b e;simp;rw[Nat.mod_one];rfl
def Mm(n:Nat)(b:n<=1000000)(W:ab):(Instr.makeSlice 106 (n:Int) (n:Int)).run prog W=.ok (W,n,n) (W.alloc (.cells (oX (List.replicate n false)) 4)):=by
 rw[<-Ml];exact run_make_row' (P:=prog) 106 4 (.bool false) 1 underlying106 ap rfl .i64 .i64 n Y Y W
section
variable{w:World}{n p:Nat}{c:Ch}
def aan(w:ab)(c:Ch)(cap:Int)(e:Ending)(w':ab):Prop:=
 ∃CA cc code D,e=.returned (.tuple #[.slice CA code.length cc,an])/\Z (c.kh 0 c.n D code)/\Z (min cap (c.cq 0 c.n)=D)/\Is w' CA code.length code/\bZ w' w.1.size CA cc code/\aj w' w
def Mn(F:n<=p)[Sl w A n c.W][b:Sl w B m c.K](hE:Z (c.iA cap≠0)):() 147 #[.agg #[(A,n,p),(B,m,q)],cap] w (aL w (.tuple #[(),.int .i64 (c.iA cap)])):=by
 have CB:=@az;have FR:=@qE;by_cases h:c.fb cap=0;rotate_left
 .have G:Z (c.iA cap=c.fb cap):=U (by rw[Ch.iA,ag h]);(have h1:(c.fb cap !=0)=true:=by rwa[jc]);clear h;go_in;go_wp2_with (go_at_call 197;refine(yi).mono ?_;rintro e u ⟨rfl,_⟩);go_ret2;exact⟨by rw[G.o];rfl,aC⟩
 obtain⟨ok,I,J⟩:=Ch.yl h;have y:=U ok;have j:m=c.n:=b.len;have L:=ok.Gr 0 c.n;obtain⟨D,M⟩:∃D:Nat,min cap (c.cq 0 c.n)=(D:Int):=⟨(min cap (c.cq 0 c.n)).toNat,Y⟩;have z:=U M;have O:(D:Int)<=4096:=by omega
 have l:c.rl D 0=D+1:=by unfold Ch.rl Ch.kept;rw[ah rfl];omega
 have P:0<m:=by rw[j];exact ok.n1
 have Q:m<=c.n:=dT j;have hV:c.V 0 m (D:Int)=c.V 0 c.n cap:=by rw[j,<-M];exact ok.aad ok.n1
 obtain⟨x,E⟩:=lh (c.V 0 c.n cap);have r:¬x<1152921504606846976:=λr=>hE.o (by rw[Ch.iA,ah h,E,ah r]);have e1:(ints (c.row D 0 m))[D]?=some (.int .i64 x):=by rw[e4,Ch.qD (by rw[l];omega),hV,E];rfl
 have G:Z (c.iA cap=26):=U (by rw[Ch.iA,ah h,E,ag r]);obtain⟨N,hN⟩:=lh (c.rl D 0);have hDN:D<N:=Y;have R:=U hN;clear j L M ok l hV E J I hN hE;go_in;go_upto_region 4 with(go_at_call 197;refine(yi).mono ?_;rintro e u ⟨rfl,_⟩);obtain⟨C,rfl⟩:=lg u;go_upto_region 6 with(go_at_call 198;refine(DN y F z).mono ?_;rintro e u ⟨sb,mb,rfl,IY,cA,kS,HM,_⟩);have S:=qG (w0:=C) (sb:=sb) (mb:=mb) (cap:=(D:Int)) y (Int.natCast_nonneg D) O cA (A:=A) (B:=B) (n:=n) (m:=m) (p:=p) (q:=q) m 0 m Y P Q;refine qF (λu2 _ _=>?_);refine aU C (λX=>Bx X sb 292 (fM A n p B m q (D:Int) mb)/\Bx X (World.heap u).size 294 #[an,m]) ap ⟨am,am⟩ (λT _=>?_);refine bp 0 ?_;refine bp 1 ?_;refine bp 4 ?_;refine bp 5 ?_;refine bp 6 ?_;refine bp 7 ?_;refine aJ 2 λK hK=>?_;go_simp;refine(S.at0 (aG C T) (bad:=λ_=>False) (nk:=λ_ _=>False) ((HM.o _).at (w':=T)) (λ_ h=>h.elim) (λ_ _ h=>h.elim)).mono ?_;rintro e T ⟨g,rfl,kR,nb,mR,nx,pR⟩;dsimp only;refine aE hK ?_ ⟨aG C _,⟨am,am⟩⟩;rw[R.o];refine bp 3 ?_;refine bp 8 ?_;refine aJ 9 λK hK=>?_;go_simp;refine aE hK ?_ ⟨aG C _,⟨am,am⟩⟩;refine bp 10 ?_;refine a8 ?_;go_wp2_with fail;go_ret2;exact⟨by rw[G.o];rfl,aC⟩
def ot.at0{gs:Nat}{bs:List Bool}{ps:List (Int×Int)}(h:ot w0 j A n p B m q c cap mb wb gs 0 r)(b:Z (WI w0 w j A n p B m q c cap mb wb gs bs ps))(e:(M:Int)<=cap-c.kept 0)(l:Z (c.V 0 r M<1152921504606846976))(u:ps.length+135*(r-0)<=100000)(y:Z (Marks n (if r=c.n then 0 else c.n) bs)):
  () 200 #[.pointer wb,.agg #[an,r],M] w (DP w0 w j A n p B m q c cap mb wb gs ps 0 r M):=h.at b e l u y
def I5(S:n<=p)[a:Sl w A n c.W][b:Sl w B m c.K](hE:Z (c.iA cap=0)):() 147 #[.agg #[(A,n,p),(B,m,q)],cap] w (aan w c cap):=by
 have CB:=@az;have FR:=@qE;have j:=hE.o;unfold Ch.iA at j;by_cases h:c.fb cap=0;rotate_left;rw[ag h]at j;exact absurd j h;rw[ah h]at j;obtain⟨ok,T,X⟩:=Ch.yl h;have E:=U ok;have l:m=c.n:=b.len;have nD:n=c.n+1:=a.len.trans ok.len;have hE0:=ok.Gr 0 c.n;obtain⟨D,hD⟩:∃D:Nat,min cap (c.cq 0 c.n)=(D:Int):=⟨(min cap (c.cq 0 c.n)).toNat,Y⟩;have y:=U hD;have I:(D:Int)<=4096:=by omega
 have z:c.rl D 0=D+1:=by unfold Ch.rl Ch.kept;rw[ah rfl];omega
 have J:0<m:=by rw[l];exact ok.n1
 have L:m<=c.n:=dT l;have Po:=ok.n2;have acI:m<=64:=Y;have hV:c.V 0 m (D:Int)=c.V 0 c.n cap:=by rw[l,<-hD];exact ok.aad ok.n1
 obtain⟨x,R⟩:=lh (c.V 0 c.n cap);have bD:x<1152921504606846976:=by rw[<-R];split at j;assumption;omega
 have e1:(ints (c.row D 0 m))[D]?=some (.int .i64 x):=by rw[e4,Ch.qD (by rw[z];omega),hV,R];rfl
 obtain⟨N,hN⟩:=lh (c.rl D 0);have hDN:D<N:=Y;have HRL:=U hN;have hV3:Z (c.V 0 m (D:Int)<1152921504606846976):=U (by rwa[hV,R]);have O:(n:Int)=(m:Int)+1:=by omega
 have w5:=Mm n Y;rw[O]at w5;have hMk:Z (Marks n (if m=c.n then 0 else c.n) (List.replicate n false)):=U (by
  rw[ah l];exact⟨aI,λi h1 h2=>by rw[kw,ah h2,ew Y]⟩)
 have hMD:(D:Int)<=(D:Int)-c.kept 0:=by unfold Ch.kept;rw[ah rfl];omega
 have Yb:=U l;clear l nD O hE0 hD ok z hV R X T hN hE j Po;go_in;go_upto_region 4 with(go_at_call 197;refine(yi).mono ?_;rintro e u ⟨rfl,_⟩);obtain⟨r,rfl⟩:=lg u;go_upto_region 6 with(go_at_call 198;refine(DN E S y).mono ?_;rintro e u ⟨sb,mb,rfl,IY,cA,kS,HM,_⟩);have P:=qG (w0:=r) (sb:=sb) (mb:=mb) (cap:=(D:Int)) E (Int.natCast_nonneg D) I cA (A:=A) (B:=B) (n:=n) (m:=m) (p:=p) (q:=q) m 0 m Y J L;refine qF (λu2 _ _=>?_);refine aU r (λQ=>Bx Q sb 292 (fM A n p B m q (D:Int) mb)/\Bx Q (World.heap u).size 294 #[an,m]) ap ⟨am,am⟩ (λC _=>?_);refine bp 0 ?_;refine bp 1 ?_;refine bp 4 ?_;refine bp 5 ?_;refine bp 6 ?_;refine bp 7 ?_;refine aJ 2 λK hK=>?_;go_simp;refine(P.at0 (aG r C) (bad:=λ_=>False) (nk:=λ_ _=>False) ((HM.o _).at (w':=C)) (λ_ h=>h.elim) (λ_ _ h=>h.elim)).mono ?_;rintro e C ⟨g,rfl,kR,nb,mR,nx,pR⟩;dsimp only;refine aE hK ?_ ⟨aG r _,⟨am,am⟩⟩;rw[HRL.o];refine bp 3 ?_;refine bp 8 ?_;refine aJ 9 λK hK=>?_;go_simp;refine aE hK ?_ ⟨aG r _,⟨am,am⟩⟩;refine bp 10 ?_;refine a8 ?_;go_upto_region 9 with fail;refine uD (λu3 _ kB kW=>?_);have hz:r.1.size<=C.1.size:=ai;have HI:Z (WI r u3 sb A n p B m q c (D:Int) mb (C.1.size+1) C.1.size (List.replicate n false) []):=U ⟨aC,am,mR.o.at,⟨none,0,am,bZ.nil _ _⟩,am,Nat.le_succ_of_le hz,hz,cA⟩;have k8:Bx u3 u.1.size 294 #[an,m]:=am;have s8:Bx u3 sb 292 (fM A n p B m q (D:Int) mb):=am;have HPT:=Mk (w0:=r) (sb:=sb) (mb:=mb) (wb:=C.1.size+1) (gs:=C.1.size) (cap:=(D:Int)) E (Int.natCast_nonneg D) I (A:=A) (B:=B) (n:=n) (m:=m) (p:=p) (q:=q) m 0 m Y J L;clear mR nx kR nb P e1;refine aU r (λQ=>Bx Q sb 292 (fM A n p B m q (D:Int) mb)/\Bx Q u.1.size 294 #[an,m]) ap ⟨am,am⟩ (λuy _=>?_);refine bp 0 ?_;refine bp 1 ?_;refine bp 2 ?_;refine bp 3 ?_;refine bp 4 ?_;refine aJ 5 λK hK=>?_;go_simp;refine(HPT.at0 (bs:=List.replicate n false) (ps:=[]) (M:=D) (U (HI.o.at (w':=uy))) hMD hV3 ch hMk).mono ?_;rintro e u4 ⟨rfl,code,bs3,qX,F,vy,D8,vz⟩;have p4:=F.o.pr;have s4:=F.o.I3;have k4:Bx u4 u.1.size 294 #[an,m]:=vy.o.bx (HI.o.at (w':=uy)) am ao ao ao;obtain⟨CA,cc,kW4,G⟩:=F.o.wr;dsimp only;refine aE hK ?_ ⟨aG r _,s4,k4⟩;refine a8 ?_;skip;rw[jN]at kW4 G;go_wp2_with fail;go_ret2;exact⟨CA,cc,code,D,rfl,U (by rw[<-Yb.o];exact qX.o),y,⟨G.rd,rfl⟩,aT.less (show aT _ _ 98 2 _ _ _ _ from G) ai,aC⟩
end
variable{c d g l:Nat}{E x y z:Int}{p:World}{O:List Int}
section
variable{c:Ch}{m:Int}{p:List (Int×Int)}
theorem Ch.aao(j:Nat):(c.fwd l r j).length<=2*j/\∀x∈c.fwd l r j,1<=x.2/\x.2<=(l:Int)+j:=by
 induction j with
 |zero=>exact⟨al _,λx b=>by simp[fwd]at b⟩
 |succ j e=>
  rw[fwd];refine⟨?_,λx b=>?_⟩
  .rw[bh,bh,l5];have:=e.1;split<;>simp<;>omega
  grind
theorem Ch.kh.ids(h:c.kh l r m p):l<r/\p<=2*((r-l)*(r-l))+3*(r-l)/\∀x∈p,0<=x.2/\x.2<=(r:Int):=by
 induction h with
 |last h hm=>grind
 |one h hm=>grind
 | @split l r j m p q E hr F hv hm hp hq u y=>obtain⟨G,z,a3⟩:=u;obtain⟨I,B,J⟩:=y;obtain⟨f1,f2⟩:=aao (c:=c) (l:=l) (r:=r) (j+1);refine⟨Y,?_,λx hx=>?_⟩;obtain⟨a,C⟩:=lh (r-(l+j+1));obtain⟨b,hb⟩:=lh (l+j+1-l);have e:r-l=a+b:=Y;have D:j+1=b:=Y;rw[C]at z;rw[hb]at B;rw[e,bh,bh,bh,l5];have K:b<=a*b:=zT b Y;grind;rcases cu.1 hx with hx|hx;rcases cu.1 hx with hx|hx;rcases cu.1 hx with hx|hx;grind;grind;rw[List.mem_singleton.1 hx];dsimp only;omega;grind
noncomputable def Ch.ym(c:Ch)(cap:Int):List (Int×Int):=Classical.epsilon λq=>c.kh 0 c.n (min cap (c.cq 0 c.n)) q\/((∀r,¬c.kh 0 c.n (min cap (c.cq 0 c.n)) r)/\q=[])
theorem Ch.yY(c:Ch)(cap:Int):c.kh 0 c.n (min cap (c.cq 0 c.n)) (c.ym cap)\/((∀r,¬c.kh 0 c.n (min cap (c.cq 0 c.n)) r)/\c.ym cap=[]):=
 Classical.epsilon_spec (p:=λq=>c.kh 0 c.n (min cap (c.cq 0 c.n)) q\/((∀r,¬c.kh 0 c.n (min cap (c.cq 0 c.n)) r)/\q=[])) (by
  grind)
theorem Ch.Vi(h:c.kh 0 c.n (min cap (c.cq 0 c.n)) p):c.ym cap=p:=(yY c cap).elim (λb=>b.only h) ay
theorem Ch.Pv(h:c.n<=64):(c.ym cap).length<=65536:=by
 rcases yY c cap with h1|h1;have b:=h1.ids.2.1;have e:(c.n-0)*(c.n-0)<=64*64:=ve h h;omega;grind
end
def oY(O:au)(x:Int×Int):Int×Int:=if 0<x.2 then(x.1,O.getD (x.2-1).toNat 0)else x
def chN(N:a6):Ch:=⟨T4 N,OF N⟩
def DR(N:a6)(cap:Int):Int:=if Cw N=0 then(chN N).iA cap else Cw N
noncomputable def Gs(N:a6)(cap:Int):List (Int×Int):=if DR N cap=0 then((chN N).ym cap).map (oY (eC N))else[]
theorem Gt{N:a6}(h:DR N cap=0):(Gs N cap).length<=65536:=by
 rw[Gs,ah h,bn];refine Ch.Pv ?_;unfold DR at h;by_cases b:Cw N=0;rw[ah b]at h;unfold Ch.iA at h;by_cases e:(chN N).fb cap=0;exact(Ch.yl e).1.n2;grind;grind
theorem RA:∀{ps:List (Int×Int)} {j:Nat} {x y z:Int},ps[j]?=some (x,y)->(ic ps).set (j*2+1) z=ic (ps.set j (x,z))
 |u::l,0,x,y,z,h=>by simp at h;subst h;simp[ic]
 |u::l,j+1,x,y,z,h=>by have b:=RA (ps:=l) (j:=j) (z:=z) (by simpa using h);grind [ic]
theorem bZ.adW{w:ab}{B:Nat}{V:List (Int×Int)}(h:bZ w B g c V)(r:V[j]?=some (x,y)):bZ (w.setCell (g,j*2+1) z) B g c (V.set j (x,z)):=by
 rcases aT.form (show aT w B 98 2 _ c _ _ from h)with⟨e,_⟩|⟨u,b,e,l,hg,C,hm,m,ht⟩;cases e;injection e with e;injection e with e _ _;subst e;show aT _ B 98 2 _ c _ _;refine aT.mk' l (ey g [.int .i64 z] (j*2+1) w b 98 (0,0) hg) ay hm (by rwa[g9]) ?_;grind [List.length_set,RA,tV,Array.toList_setIfInBounds,List.take_set]
structure Pw(p w:World)(g c:Nat)(V:List (Int×Int))(AO:Option Addr)(m:Nat)(O:List Int):Prop where
 row:bZ w p.1.size g c V
 so:aD w (g+1) 3 AO m O
 prev:aj w p
section
variable{w:World}{AO:Option Addr}{n k:Nat}{N:a6}{V code:List (Int×Int)}
def Pw.av(h:Pw p w g c V AO m O)(l:V[j]?=some (x,y)):Pw p (w.setCell (g,j*2+1) z) g c (V.set j (x,z)) AO m O:=
 have hg:p<=g:=h.row.fresh _ rfl
 ⟨h.row.adW l,aT.same h.so λb e=>bb w ⟨g,j*2+1,none⟩ _ _ (by have:=aT.ge h.so b e;show b.block≠g;omega),⟨h.prev.st.setCell (p:=⟨g,j*2+1,none⟩) hg _⟩⟩
theorem Pw.cell(h:Pw p w g c V AO m O)(u:V[j]?=some (x,y)):w.cell? (g,j*2+1)=some (.int .i64 y)/\w.frozen? ⟨g,j*2+1,none⟩=false:=by
 obtain⟨b,off,e,hb,-,C⟩:=h.row.rd j (x,y) u;rcases h.row.form with⟨l,_⟩|⟨D,r,l,-,hg,-⟩;cases l;injection l with l;injection l with l _ _;subst l;refine⟨?_,aA.frozen (T:=98) (cs:=r) hg _⟩;grind
def Mo{b:List (Int×Int)}(hV:b=(code.take j).map (oY O)++code.drop j)(e:code[j]?=some (x,y)):b[j]?=some (x,y)/\b.set j (oY O (x,y))=(code.take (j+1)).map (oY O)++code.drop (j+1):=by
 obtain⟨r,u⟩:=bj.1 e;have l:((code.take j).map (oY O)).length=j:=by rw[bn,cr];omega
 have hd:code.drop j=(x,y)::code.drop (j+1):=by rw[e7 r,u]
 rw[hV,hd];refine⟨by rw[eT Y,l,eV];rfl,?_⟩;rw[ky _ _ Y,l,eV,i4,i5,e,c9];simp
def zS2(h:Γ:=by go_ret2;exact⟨none,0,rfl,bZ.nil _ _,aC⟩):=h
theorem Mp[a:aW w A n B m N](hf:Z N.fits)(hs:Z N.small)(Ij:Z (bm N=0))(hE:Z (DR N cap=E))(hV:Z (Gs N cap=V)):
  () 95 #[.agg #[(A,n,c),(B,m,d)],cap] w (kg w E V):=by
 have CB:=@az;have HM:Z (m=N.nodes):=a.len;have F:=hE.o;have G:=hV.o;rw[DR]at F;rw[Gs,hE.o]at G;obtain⟨E1,h1⟩:=lh (Cw N);obtain⟨W,hW⟩:=lh (T4 N);obtain⟨C,hC⟩:=lh (OF N);have R:chN N=⟨W,C⟩:=by rw[chN,hW,hC]
 obtain⟨M,S⟩:=lh (eC N);rw[h1,R]at F;rw[R,S]at G;have T:=U h1;have X:=U hW;have EO:=U hC;have J:C=if E1=0 then M.length else 0:=by rw[<-hC,OF,h1,S];split<;>simp
 clear R h1 hW hC;obtain⟨nw,P⟩:=lh W.length;obtain⟨nc,Q⟩:=lh C.length;have I:=U P;have K:=U Q;by_cases c1:E1=0;rotate_left
 .rw[ag c1]at F;subst F;rw[ag c1]at G;subst G;(have b0:(E1 !=0)=true:=by simp[c1]);clear c1 J P Q;go_in;go_upto_region 1 with fail;refine aa (λu0 _ kn=>?_);go_wp2_with (go_at_call 146;refine(s4 hf hs T X EO).mono ?_;rintro e u1 ⟨A1,c1,B1,d1,rfl,_,_,_⟩;rw[I.o,K.o]);exact zS2
 subst c1;rw[ah rfl]at F J;by_cases c2:E=0;rotate_left
 .rw[ag c2]at G;subst G;(have b0:(E !=0)=true:=by simp[c2]);have sg:=U F;have qS:Z ((⟨W,C⟩:Ch).iA cap≠0):=ay;clear F c2 J P Q;go_in;go_upto_region 1 with fail;refine aa (λu0 _ kn=>?_);go_upto_region 4 with(go_at_call 146;refine(s4 hf hs T X EO).mono ?_;rintro e u1 ⟨A1,c1,B1,d1,rfl,o1,o2,_⟩;rw[I.o,K.o];obtain⟨hle,-⟩:nw<=c1/\True:=⟨by rw[<-I.o];exact aT.le o1,bq⟩;obtain⟨s1,-⟩:Sl u1 A1 nw W/\True:=⟨⟨o1.rd,I.o.symm⟩,bq⟩;obtain⟨s2,-⟩:Sl u1 B1 nc C/\True:=⟨⟨o2.rd,K.o.symm⟩,bq⟩);go_wp2_with (go_at_call 147;refine mv (Mn (c:=⟨W,C⟩) hle qS) λu2 _=>?_;rw[sg.o]);exact zS2
 subst c2;rw[ah rfl]at G;obtain⟨O,L,l,pZ,nA,-,-⟩:=look_ok Ij;obtain rfl:M=O:=ay;have uq:=Ij;have iO:=U pZ;have t2:Z (M=m):=ay;have RD:C=m:=by rwa[J]
 have sg:Z ((⟨W,C⟩:Ch).iA cap=0):=F;have qg:=U G;have HCM:=U RD;clear F G J P Q nA pZ S RD;go_in;go_upto_region 1 with fail;refine aa (λu0 _ kn=>?_);go_upto_region 4 with(go_at_call 146;refine(s4 hf hs T X EO).mono ?_;rintro e u1 ⟨A1,c1,B1,d1,rfl,o1,o2,_⟩;rw[I.o,K.o];obtain⟨hle,-⟩:nw<=c1/\True:=⟨by rw[<-I.o];exact aT.le o1,bq⟩;obtain⟨s1,-⟩:Sl u1 A1 nw W/\True:=⟨⟨o1.rd,I.o.symm⟩,bq⟩;obtain⟨s2,-⟩:Sl u1 B1 nc C/\True:=⟨⟨o2.rd,K.o.symm⟩,bq⟩);clear o1 o2;go_upto_region 7 with(go_at_call 147;refine(I5 (c:=⟨W,C⟩) hle sg).mono ?_;rintro e u2 ⟨CA,cc,code,D,rfl,HP,HD,_,oC,_⟩);obtain⟨k,hk⟩:=lh code.length;have HK:=U hk;rw[hk];have xk:Z ((⟨W,C⟩:Ch).ym cap=code):=Ch.Vi (by rw[HD.o];exact HP);obtain⟨q1,q2,q3⟩:=HP.o.ids;have HID:Z (∀x∈code,0<=x.2/\x.2<=(m:Int)):=U λx hx=>by have:=q3 x hx;rw[show(⟨W,C⟩:Ch).n=m from HCM.o]at this;exact this
 obtain⟨g,rfl⟩:∃g,CA=some ⟨g,0,none⟩:=by rcases oC.form with⟨_,h0,_⟩|⟨g,_,e,_⟩;rw[h0]at hk;have:=HP.o;rw[h0]at this;generalize(⟨W,C⟩:Ch).n=r at this;generalize hq:([]:List (Int×Int))=q at this;cases this<;>simp at hq;exact⟨g,e⟩
 clear hk q1 q2 q3;have tm:g<u2.1.size:=oC.lt _ rfl;have zf:k<=65536:=by have:=Gt hE;rw[hV.o,<-qg.o,xk.o,bn,HK.o]at this;exact this
 have hm:m<=1000:=by rw[HM.o];exact hs.o.1
 go_wp2_with (go_at_call 60;refine(jC hf hs uq iO t2).mono ?_;rintro e u ⟨AO,cO,rfl,sO,oO,pO⟩);have uu:Z (Pw w u g cc code AO cO M):=U ⟨(show aT _ _ 98 2 _ _ _ _ from oC).at.less (ai (w:=w) (w':=u1)),aT.less oO (aQ tm ai),aC⟩;clear oO sO tm oC;go_loopw [43] (λi wr=>∃(j:Nat) (V':List (Int×Int)),j<=k/\i=.int .i64 j/\Z (Pw w wr g cc V' AO cO M)/\Z (V'=(code.take j).map (oY M)++code.drop j)) (λi _=>k-(intOf i).toNat);exact⟨0,code,aR _,rfl,uu,U aI⟩;obtain⟨j,V',hj,rfl,HS,HV'⟩:=hrel;have pw:=HS.o.prev;by_cases bD:j<k
 .obtain⟨⟨x,y⟩,hxy⟩:∃x,code[j]?=some x:=⟨_,bk (by rwa[HK.o])⟩;obtain⟨r1,r2⟩:=Mo HV' hxy;obtain⟨c1,f1⟩:=HS.o.cell r1;have hid:=HID.o _ (aK hxy);dsimp only at hid;have R1:=U r1;have R2:=U r2;clear r1 r2 hxy;by_cases hy:0<y
  .obtain⟨i,rfl⟩:∃i:Nat,y=((i+1:Nat):Int):=⟨(y-1).toNat,Y⟩;have hi:i<m:=Y;have Zm:Sl wr AO m M:=⟨aD.rd HS.o.so,t2.o.symm⟩;obtain⟨b,off,z,rfl,ob,vz,ez⟩:=Zm.get hi;have t3:decide ((0:Int)<((i:Int)+1))=true:=ea Y;have R3:Z (oY M (x,((i+1:Nat):Int))=(x,z)):=U (by
    unfold oY;rw[ah hy,show(((i+1:Nat):Int)-1).toNat=i from Y,g3 ez.o])
   clear hy hid;go_wp2_with fail;go_roundw;exact⟨j+1,_,Y,by go_num,U (HS.o.av (z:=z) R1),U (by rw[<-R2.o,R3.o])⟩;simp[intOf];omega
  have t3:decide (0<y)=false:=ew hy;have R3:Z (V'=(code.take (j+1)).map (oY M)++code.drop (j+1)):=U (by
   rw[<-R2.o];unfold oY;rw[ag hy];obtain⟨h1,h2⟩:=bj.1 R1;rw[<-h2,List.set_getElem_self])
  clear hy hid;go_wp2_with fail;go_roundw;exact⟨j+1,V',Y,by go_num,HS,R3⟩;simp[intOf];omega
 obtain rfl:j=k:=Y;have hv:V'=V:=by rw[HV'.o,bV (dT HK.o),eU (dT HK.o),ev,<-qg.o,xk.o]
 have zi:Z (V'=j):=U (by rw[hv,<-qg.o,xk.o,bn,HK.o]);subst hv;go_wp2_with fail;go_ret2;exact⟨_,cc,by rw[zi.o];rfl,HS.o.row,pw⟩
end
variable{u:World}{AK:Option Addr}{R:Nat}{LE P1 P2 P3 P4 pl:Int}{LV:List (Int×Int)}
def DS(N:a6)(pl cap:Int):Int:=if pl=4 then DR N cap else gpE N pl cap
noncomputable def wR(N:a6)(pl cap:Int):List (Int×Int):=if pl=4 then Gs N cap else gpV N pl cap
noncomputable def mkP(N:a6)(pl cap:Int):Int×List (Int×Int)×(Int×Int×Int×Int)×Int:=
 if DS N pl cap=0 then(if lJ N cap (wR N pl cap)=0 then(pl,wR N pl cap,pA N cap (wR N pl cap),0)else(0,[],(0,0,0,0),26))else(0,[],(0,0,0,0),DS N pl cap)
section
variable{w:World}{n k y:Nat}{N:a6}{q:Int}{V:List (Int×Int)}
def Px[aW w A n B m N](l:Z N.fits)(hs:Z N.small)(b:Z (bm N=0))(r:Z (DR N cap=E))(z:Z (Gs N cap=V)):
  () 50 #[.agg #[(A,n,c),(B,m,d)],(4:Int),cap] w (kg w E V):=by
 have D:=@az;obtain⟨y,j⟩:=l8 V.length;go_in;go_upto_region 1 with fail;refine aa (λF _ G=>?_);go_wp2_with (go_at_call 95;refine(Mp l hs b r z).mono ?_;rintro e I ⟨AC,cC,rfl,C,_⟩;rw[j.o]);go_ret2;exact⟨AC,cC,by rw[j.o];rfl,(show aT _ _ 98 2 _ _ _ _ from C).at.less (ai (w:=w)),aC⟩
def DT[aW w A n B m N](j:Z N.fits)(hs:Z N.small)(b:Z (bm N=0))(hm:m<=12)(l:Z (DS N pl cap=E))(r:Z (wR N pl cap=V)):
  () 50 #[.agg #[(A,n,c),(B,m,d)],pl,cap] w (kg w E V):=by
 have hE:=l.o;have hV:=r.o;unfold DS at hE;unfold wR at hV;by_cases e:pl=4;subst e;rw[ah rfl]at hE hV;exact Px j hs b hE hV;rw[ag e]at hE hV;exact U0 j hs b hm e hE hV
def Vj:(yW N cap).length<=65536:=by
 have h:∀(W:au) (k:Nat) (b:au),(tM N W cap k b).2.length<=65536:=λW k=>by
  (have e:∀b,(O9 N b).length<=65536:=λb=>by unfold O9;split;exact yc;exact aR _);induction k with
  |zero=>
   intro b;unfold tM;split
   .split;exact e _;exact aR _
   exact aR _
  |succ k j=>
   intro b;unfold tM;split
   .split;exact e _;exact j _
   exact aR _
 unfold yW;split;exact h _ _ _;exact aR _
theorem yn(b:DS N pl cap=0):(wR N pl cap).length<=65536:=by
 unfold wR;split;rename_i e;subst e;unfold DS at b;rw[ah rfl]at b;exact Gt b;unfold gpV;repeat' split
 all_goals first|exact yc|exact Vj|grind
def Vk[aW w A n B m N](z:Z N.fits)(hs:Z N.small)(b:Z (bm N=0))(hm:m<=12)(C:cap<=144115188075855872)(H:Z (mkP N pl cap=(q,V,(P1,P2,P3,P4),E))):
  () 17 #[.agg #[(A,n,c),(B,m,d)],pl,cap] w (nm w q V P1 P2 P3 P4 E):=by
 have h:=H.o;unfold mkP at h;have no:∀{X:Int},() 17 #[.agg #[(A,n,c),(B,m,d)],pl,cap] w (aL w (Ds X))->((0:Int),([]:List (Int×Int)),((0:Int),(0:Int),(0:Int),(0:Int)),X)=(q,V,(P1,P2,P3,P4),E)->() 17 #[.agg #[(A,n,c),(B,m,d)],pl,cap] w (nm w q V P1 P2 P3 P4 E):=λF D=>by simp only[dS]at D;obtain⟨rfl,rfl,⟨rfl,rfl,rfl,rfl⟩,rfl⟩:=D;exact F.mono λe w' ⟨j,r⟩=>⟨none,0,j,bZ.nil _ _,r⟩
 by_cases j:DS N pl cap=0;rw[ah j]at h;have l:Z (∀(u:ab) [aW u A n B m N],() 50 #[.agg #[(A,n,c),(B,m,d)],pl,cap] u (kg u 0 (wR N pl cap))):=λu _=>DT z hs b hm j rfl;by_cases r:lJ N cap (wR N pl cap)=0;rw[ah r]at h;simp only[dS]at h;obtain⟨rfl,rfl,G,rfl⟩:=h;exact wI z hs C l (yn j) b rfl r G;rw[ag r]at h;exact no (IT z hs C l (yn j) b rfl r) h;rw[ag j]at h;exact no (wJ z hs (U λu _=>DT z hs b hm rfl rfl) b j) h
end
section
variable{w1:World}{A2 C PA XA XB:Option Addr}{b cp cx dx f i mx np:Nat}{ps us:List Tn}{t:Tn}{L:List (List Int)}{F':Nat->Prop}{z0 z1 z2 z3:Value}{id:Int}
def abW(w:ab)(N:a6)(P:List TV)(x:TV)(np:Nat)(e:Ending)(w':ab):Prop:=
 ∃A c gs X,e=.returned (.tuple #[.agg #[.int .i64 (rW N P x),.slice A np c,.slice X.A X.zs.length X.c,.slice X.B X.xs.length X.d],an])/\Ts w' A np gs/\gs.map Tn.tv=(lH N P x).2/\TE w' X/\X.tv=(lH N P x).1.getD 0 T0/\aj w' w
structure qH(w:World)(B gg n rg k rb:Nat)(gs rs:List Tn):Prop where
 g:jJ w B gg n gs
 r:jJ w B rg k rs
 ne:gg≠rg
 ng:gg≠rb
 nr:rg≠rb
 og:∀t∈gs,∀b,AF t.A b\/AF t.B b->b≠rg/\b≠rb/\B<=b
 Mq:∀t∈rs,∀b,AF t.A b\/AF t.B b->b≠gg/\b≠rb/\B<=b
 cg:∀t∈gs,t.zs.length<=t.c
section
variable{w:World}{n nx Bq gg rg rb k:Nat}{N:a6}{gs rs:List Tn}{P:List TV}{x:TV}{F:Nat->Prop}
def qH.at(h:qH w Bq gg n rg k rb gs rs)[l:aM w w']:qH w' Bq gg n rg k rb gs rs:=⟨h.g.at,h.r.at,h.ne,h.ng,h.nr,h.og,h.Mq,h.cg⟩
def qH.kf(h:qH w Bq gg n rg k rb gs rs)(j:Kf F F' w w')(hF:∀b,F b->b=rb\/b<Bq):qH w' Bq gg n rg k rb gs rs:=by
 have y:=h.g.lK.1;have z:=h.r.lK.1;have C:=h.ng;have D:=h.nr;have key:∀b,b≠rb/\Bq<=b->¬F b:=λb hb E=>by rcases hF b E with e|e;exact hb.1 e;omega
 exact⟨h.g.kf j (key _ ⟨C,y⟩) λt ht=>⟨λb hb=>key b (h.og t ht b (.inl hb)).2,λb hb=>key b (h.og t ht b (.inr hb)).2⟩,h.r.kf j (key _ ⟨D,z⟩) λt ht=>⟨λb hb=>key b (h.Mq t ht b (.inl hb)).2,λb hb=>key b (h.Mq t ht b (.inr hb)).2⟩,h.ne,h.ng,h.nr,h.og,h.Mq,h.cg⟩
def qH.av(h:qH w Bq gg n rg k rb gs rs)(hi:i<n)(ht:TE w t)(z:∀b,AF t.A b\/AF t.B b->b<w.1.size/\b≠gg/\b≠rg/\b≠rb/\Bq<=b)(C:t.zs.length<=t.c):
  qH ((w.setCell (gg,i*2) (.slice t.A t.zs.length t.c)).setCell (gg,i*2+1) (.slice t.B t.xs.length t.d)) Bq gg n rg k rb (gs.set i t) rs:=by
 have D:Kf (λb=>b=gg) (λb=>b=gg) w ((w.setCell (gg,i*2) (.slice t.A t.zs.length t.c)).setCell (gg,i*2+1) (.slice t.B t.xs.length t.d)):=((Kf.refl (λb=>b=gg) w).av (q:=⟨gg,i*2,none⟩) rfl _).av (q:=⟨gg,i*2+1,none⟩) rfl _;refine⟨h.g.av hi ht (λb hb=>⟨(z b (.inl hb)).1,(z b (.inl hb)).2.1⟩) (λb hb=>⟨(z b (.inr hb)).1,(z b (.inr hb)).2.1⟩),h.r.kf D (λe=>h.ne e.symm) λt ht=>⟨λb hb=>(h.Mq t ht b (.inl hb)).1,λb hb=>(h.Mq t ht b (.inr hb)).1⟩,h.ne,h.ng,h.nr,λy j b hb=>?_,h.Mq,λy j=>?_⟩;rcases ij j with j|rfl;exact h.og y j b hb;exact(z b hb).2.2;rcases ij j with j|rfl;exact h.cg y j;exact C
def qH.copied(h:qH w Bq gg n rg k rb gs rs)(hu:Ts w A2 m us)(E:f+m<=k)(G:f<k->C=some ⟨rg,f*2,none⟩)(I:∀t∈us,∀b,AF t.A b\/AF t.B b->b<w.1.size/\b≠gg/\b≠rg/\b≠rb/\Bq<=b):
  ∃w',(∀y c d,(Builtin.copy_ #[23,23] y #[.slice C m c,.slice A2 m d]).run prog w=.ok (goInt (m:Int)) w')/\qH w' Bq gg n rg k rb gs (rs.take f++us++rs.drop (f+m))/\Kf (λb=>b=rg) (λb=>b=rg) w w':=by
 have key:∀w',aT w' Bq 28 2 (some ⟨rg,0,none⟩) k k (tc (rs.take f++us++rs.drop (f+m)))->Kf (λb=>b=rg) (λb=>b=rg) w w'->qH w' Bq gg n rg k rb gs (rs.take f++us++rs.drop (f+m)):=λw' hr e=>by
  have hm:∀t∈rs.take f++us++rs.drop (f+m),TE w t/\∀b,AF t.A b\/AF t.B b->b<w.1.size/\b≠gg/\b≠rg/\b≠rb/\Bq<=b:=λt ht=>by
   have j:∀t∈rs,TE w t/\∀b,AF t.A b\/AF t.B b->b<w.1.size/\b≠gg/\b≠rg/\b≠rb/\Bq<=b:=λt ht=>⟨h.r.el t ht,λb hb=>by
    obtain⟨z,D⟩:=h.Mq t ht b hb;rcases hb with hb|hb
    .exact⟨((h.r.off t ht).1 b hb).1,z,((h.r.off t ht).1 b hb).2,D⟩
    .exact⟨((h.r.off t ht).2 b hb).1,z,((h.r.off t ht).2 b hb).2,D⟩⟩
   rcases cu.1 ht with ht|ht;rcases cu.1 ht with ht|ht;exact j t (eS ht);exact⟨hu.rd.elems t ht,I t ht⟩;exact j t (hJ ht)
  have J:m=us:=hu.len;have K:rs=k:=h.r.len;exact⟨h.g.kf e h.ne λt ht=>⟨λb hb=>(h.og t ht b (.inl hb)).1,λb hb=>(h.og t ht b (.inr hb)).1⟩,⟨hr,by simp;omega,λt ht=>⟨e.rd (hm t ht).1.1 λb hb=>((hm t ht).2 b (.inl hb)).2.2.1,e.rd (hm t ht).1.2.1 λb hb=>((hm t ht).2 b (.inr hb)).2.2.1,(hm t ht).1.2.2⟩,λt ht=>⟨λb hb=>⟨bN ((hm t ht).2 b (.inl hb)).1 e.size,((hm t ht).2 b (.inl hb)).2.2.1⟩,λb hb=>⟨bN ((hm t ht).2 b (.inr hb)).1 e.size,((hm t ht).2 b (.inr hb)).2.2.1⟩⟩⟩,h.ne,h.ng,h.nr,h.og,λt ht b hb=>⟨((hm t ht).2 b hb).2.1,((hm t ht).2 b hb).2.2.2⟩,h.cg⟩
 by_cases M:m=0;subst M;obtain rfl:us=[]:=pB hu.len.symm;refine⟨w,λy c d=>?_,key w ?_ (Kf.refl _ _),Kf.refl _ _⟩;obtain⟨i,hi,-⟩:=bJ.1 (show(prog.info? 28).map (·.size)=some 2 from by kernel_rfl);have Q:∀(x:Addr),(loadCells x 0).run prog w=.ok #[] w:=λx=>by simpa using run_loadCells_list (P:=prog) w x [] aI
 cases C<;>cases A2<;>simp[Builtin.copy_,eu underlying23,Builtin.lenOf,Builtin.firstCells,sizeOf,typeInfo,hi,storeCells,Q];rw[ev,d9,d3];exact h.r.row;obtain⟨V,X,rfl,S,T⟩:=LX h.r.row h.r.len hu Y E;rw[G Y];have e:Kf (λb=>b=rg) (λb=>b=rg) w (w.setRow rg X):=mK (F:=λb=>b=rg) rfl X;exact⟨_,λy c d=>S y m c d (al _),key _ T e,e⟩
def jJ.zero{n B:Nat}(h:aA w j 28 (iv [] n))(z:n<=1000000)(r:B<=j):jJ w B j n (List.replicate n kc):=
 ⟨.mk' (cur:=iv [] n) r h (al _) (by unfold maxLen;omega) (sV [] (aR _)) (by rw[Dl];simp[iv,tc]),fe ..,λt ht=>by rw[e3 ht];exact Rl _,λt ht=>by
  rw[e3 ht];exact⟨λb ⟨y,e,_⟩=>(by cases e),λb ⟨y,e,_⟩=>(by cases e)⟩⟩
def I7(g:Nat){n k m:Nat}(z:k<=m)(hm:m<=n):∃j,(∀W,(Instr.slice 23 (g,n,n) (some (.int .i64 (k:Int))) (some (.int .i64 (m:Int))) none).run prog W=.ok (.slice j (m-k) (n-k)) W)/\(k<n->j=some ⟨g,k*2,none⟩):=by
 have e:∀W,(sizeOf (prog.elem 23)).run prog W=.ok 2 W:=λW=>by obtain⟨C,r,y⟩:=bJ.1 (show(prog.info? (prog.elem 23)).map (·.size)=some 2 from by kernel_rfl);simp[sizeOf,typeInfo,r,y]
 refine⟨if n=k then some ⟨g,0,none⟩else(⟨g,0,none⟩:Addr).add (k*2),λW=>?_,λh=>?_⟩;rw[kW W 23 (some ⟨g,0,none⟩) n n ap .i64 .i64 (k:Int) (m:Int) Y Y Y,e];have r:(m:Int).toNat-(k:Int).toNat=m-k:=by omega
 simp[Result.andThen,sliced];rw[ag Y,cf,cQ]
def RB{L:List TV}(h:eQ w b A n c L)(hL:∀t∈L,TV.ok t):∃ts,Ts w A n ts/\ts.map Tn.tv=L/\eP ts/\(∀t∈ts,∀z,AF t.A z\/AF t.B z->z<w.1.size/\b<=z)/\(ts≠[]->∀z,AF A z->z<w.1.size/\b<=z):=by
 obtain⟨ts,D,Q,J,E,I⟩:=h;have j:∀t∈ts,TV.ok t.tv:=λt ht=>hL _ (by rw[<-I];exact List.mem_map_of_mem ht);have r:=D.rd.elems;refine⟨ts,D,I,λt ht=>⟨(j t ht).1,(E t ht).2.2⟩,λt ht z hz=>?_,λK z hz=>?_⟩;rcases hz with hz|hz;have y:=gn (w:=w) (n:=t.zs.length) (zs:=t.zs) ⟨(r t ht).1,rfl⟩ (fL (j t ht).right) z hz;obtain⟨C,e,rfl⟩:=hz;exact⟨y,(E t ht).1.o C e⟩;have y:=gn (w:=w) (n:=t.xs.length) (zs:=t.xs) ⟨(r t ht).2.1,rfl⟩ (j t ht).ne z hz;obtain⟨C,e,rfl⟩:=hz;exact⟨y,(E t ht).2.1.o C e⟩
 .cases ts with
  |nil=>exact absurd rfl K
  |cons t tt=>obtain⟨S,o,e,M⟩:=D.rd 0 t rfl;obtain⟨C,G,rfl⟩:=hz;have y:=J.o C G;rw[e]at G;cases G;exact⟨M.old,y⟩
def kf4:Kf (λb=>b=q) (λb=>b=q) u ((((u.setCell (q,0) z0).setCell (q,1) z1).setCell (q,2) z2).setCell (q,3) z3):=
 ((((Kf.refl (λb=>b=q) u).av (q:=⟨q,0,none⟩) rfl z0).av (q:=⟨q,1,none⟩) rfl z1).av (q:=⟨q,2,none⟩) rfl z2).av (q:=⟨q,3,none⟩) rfl z3
def Mr(c:fI N O L l P x):lH N P x=cD N O L l P x O.length:=by
 unfold lH cD;rw[c.hN.ord,c.hL];dsimp only;rw[a9,bV aI]
def rev_at{O:au}{d:Nat}(hd:d<O)(hi:j=O-1-d)(h:O[j]?=some z):O.reverse[d]?=some z:=by
 rwa[PI hd,<-hi]
def Py{v:dV}(hd:O.reverse[d]?=some id)(hv:N.nodes[(id-1).toNat]?=some v):cD N O L l P x (d+1)=(i0 (cD N O L l P x d).1 v.ins (pt N P (dR N P x) (cD N O L l P x d).1 id v),rU (cD N O L l P x d).2 (Cp N P (dR N P x) (cD N O L l P x d).1 id v) (dK N (id-1).toNat)):=by
 unfold cD Oz;rw[take_at hd,sB];show Oy N P (dR N P x) _ id=_;unfold Oy;rw[hv]
def zS0(h:Γ:=by rw[e3 ht]at hb;rcases hb with⟨ad,e9,_⟩|⟨ad,e9,_⟩<;>cases e9):=h
def abX[a:aW w A n B m N][tp:Ts w PA np ps][Sl w XA nx x.1][Sl w XB mx x.2](hf:Z N.fits)(hs:Z N.small)(hc:Z (fI N O L l P x))(hP:Z (ps.map Tn.tv=P))(hO:Z (eP ps))(EI:np<=1000000)(lp:np<=cp)(lB:m<=d):
  () 20 #[.agg #[(A,n,c),(B,m,d)],(PA,np,cp),.agg #[(XA,nx,cx),(XB,mx,dx)]] w (abW w N P x np):=by
 have CC:=@cJ;obtain⟨CB,CP,FB⟩:=gW;have HE:Z (bm N=0):=hc.o.hE;have HV:Z (dz N=(O,L,(l:Int))):=hc.o.hL;have hm:m<=1000:=by rw[a.len];exact hs.o.1
 have I2:Z (m=N.nodes):=a.len;have XP:O.length<=1000:=by rwa[hc.o.hN.tI,<-I2.o]
 have Lz:Z (np=(bQ N).length):=U (by rw[<-hc.o.hF.ps,<-hP.o,bn,bn];exact tp.len);have xk:Z (np=P):=U (by rw[<-hP.o,bn];exact tp.len);obtain⟨R,Ea⟩:=lg (m+1);have t6:=U Ea;have hM2:R<=1001:=Y;have hMm:m<R:=Y;have En:=hc.o.hN.oT;have rm:=hc.o.hN.lQ;have hlM:l<R:=by have:=I2.o;omega
 have jF:=jA R Y;have B9:=jA np Y;have acK:=k8 hc.o.hN hc.o.hF;have Bj:=U acK;have oG:=hc.o.val (z:=(l:Int)) Y Y;rw[a9]at oG;have zi:=U oG;clear Ea acK oG En rm;go_in;go_upto_region 1 with fail;refine uk (λu0 p0 k1 k2 k3 fN=>?_);clear fN;go_upto_region 4 with(go_at_call 59;refine(abH hf hs hc hP hO EI lp lB t6).mono ?_;rintro e u1 ⟨vg,vs,rfl,SQ,HVT,HVC,t7⟩);have HVS:=U SQ;clear SQ;go_upto_region 7 with(go_at_call 60;refine(Ck hf hs HE HV).mono ?_;rintro e u2 ⟨AO,cO,rfl,Zl,pO⟩);have sO:Sl u2 AO O O:=⟨Zl.rd,rfl⟩;clear Zl;go_upto_region 10 with(go_at_call 61;refine mv (Ao hf hs HE HV) λE _=>?_);go_upto_region 11 with fail;obtain⟨W,hW⟩:=lg (E.alloc (.cells (iv [] R) 28));obtain⟨gg,qP⟩:=lg E.1.size;have HG0:Z (jJ W E.1.size gg R (List.replicate R kc)):=U (by rw[hW,qP];exact jJ.new E Y (al _));have pW:aj W E:=by rw[hW];exact aC
 have qi:Z (gg=E):=qP;rw[<-hW,<-qP];clear hW qP jF;have Ot:=HG0.o.lK.2;obtain⟨bl,ol,Al,cl,zl,Bl,dl,xl,el,obl,cl0,cl1,sl1,sl2,ll,il,oH⟩:=(HVS.o.at (w':=E)).oj.get (k:=l) hlM;injection el with el;injection el with el el2;subst el el2;rw[cQ]at cl0 cl1;have htl:(dR N P x).getD l T0=(zl,xl):=by rw[<-HVT.o,a5,bo,oH.o];rfl
 have oG:=zi.o;rw[htl]at oG;have WN:zl=L.getD l []:=oG.1;have Gu:TV.ok (zl,xl):=oG.2.1;have zj:=U htl;have agH:=U Gu;have LF:Z (aH zl=true):=Gu.right;obtain⟨k0,p4,Xu,HG⟩:=cG Gu.right;have Zj:Z (aB zl=(k0:Int)):=p4;obtain⟨X1,hX1⟩:=lh (List.replicate k0 (4294967296:Int));have HX1:=U hX1;have Up:zl.length<=1000000:=by have C:zl.length<=4:=cv Gu.right;omega
 have aap:oc (L.getD l [])=(zl,X1):=by rw[<-WN];unfold oc;rw[p4,a9,hX1]
 have aaq:=wk (hc.o.hN.right hc.o.hF (z:=(l:Int)) Y (by have:=hc.o.hN.lQ;omega));rw[a9,aap]at aaq;have afN:=U aap;have aar:=U aaq;have Ey:0<xl.length:=by
  have C:xl≠[]:=Gu.ne;cases xl with
  |nil=>exact absurd rfl C
  |cons a t=>simp
 obtain⟨bx0,ox0,lo,rfl,agI,cx0,hlo⟩:=sl2.get (k:=0) Ey;rw[d9]at cx0;have HLO:Z (lo=rW N P x):=U (by
  unfold rW;rw[hc.o.hN.gj,a9,htl,a5]
  show _=(xl[0]?).getD 0
  rw[hlo.o];rfl)
 clear htl oG WN Gu p4 hX1 aap aaq oH hlo;go_upto_region 12 with(go_at_call 62;refine(ya Up LF Zj HX1).mono ?_;rintro e u5 ⟨A5,c5,B5,d5,rfl,s5,x5,l5,l5',f5,f5',pu5⟩;obtain⟨⟨y0,mG⟩,⟨y1,EH⟩,D1⟩:=(HG0.o.at (w':=u5)).cells (i:=l) hlM;have Lg:=D1 (l*2);have nC:=D1 (l*2+1);clear D1)
 obtain⟨W6,tk⟩:=lg ((u5.setCell (gg,l*2) (.slice A5 zl c5)).setCell (gg,l*2+1) (.slice B5 X1 d5));have HG6:Z (jJ W6 E.1.size gg R ((List.replicate R kc).set l ⟨A5,c5,zl,B5,d5,X1⟩)):=U (by
  rw[tk];exact(HG0.o.at (w':=u5)).av (i:=l) (t:=⟨A5,c5,zl,B5,d5,X1⟩) hlM (TE.of s5 x5 l5'.le aar.o.2) (λb hb=>⟨gn s5 (fL aar.o.right) b hb,by obtain⟨ad,e9,rfl⟩:=hb;have:=f5.o ad e9;omega⟩) (λb hb=>⟨gn x5 aar.o.ne b hb,by obtain⟨ad,e9,rfl⟩:=hb;have:=f5'.o ad e9;omega⟩))
 have HT6:Z (((List.replicate R kc).set l ⟨A5,c5,zl,B5,d5,X1⟩).map Tn.tv=(rV N L l P).1):=U (by
  unfold rV;rw[jb,List.map_replicate,afN.o,show N.nodes.length+1=R from by have:=t6.o;have:=I2.o;omega];rfl)
 have HC6:Z (∀t∈(List.replicate R kc).set l ⟨A5,c5,zl,B5,d5,X1⟩,t.zs.length<=t.c/\(∀b,AF t.A b->b<W6.1.size)/\∀b,AF t.B b->b<W6.1.size):=λt ht=>⟨by
  rcases ij ht with ht|rfl
  .rw[e3 ht];exact al _
  .exact l5.le,λb hb=>((HG6.o.off t ht).1 b hb).1,λb hb=>((HG6.o.off t ht).2 b hb).1⟩
 have p6:aj W6 E:=by rw[tk];exact LK (dT qi.o.symm)
 rw[<-tk];clear tk mG EH Lg nC;go_upto_region 14 with fail;go_cut [13] (λs13 wx=>∃rg rb,s13=.pointer (some ⟨rb,0,none⟩)/\Bx wx rb 67 #[lo,.slice (some ⟨rg,0,none⟩) np np,(),()]/\Bx wx rg 28 (iv [] np)/\W6.1.size<=rg/\W6.1.size<=rb/\aj wx W6);case first=>
  refine ax W6 ap (λJ _=>?_)
  repeat' (first
   |(refine kj 0 ?_
     refine qL [0,1,2,3,4,5,6,7] ?_;refine jQ 8 79 ?_)
   |(refine kj 10 ?_
     refine jQ 10 81 ?_)
   |(intro (tg:Tg 9) K hK
     clear tg;go_simp;obtain⟨rg,Ms⟩:=lh ((World.heap J).size);have lrg:(World.heap W6).size<=rg:=by rw[<-Ms];exact ai
     refine aE hK ?_;refine bc (λJ _ brg=>?_);rw[Ms]at brg⊢;clear Ms)
   |(intro (tg:Tg 11) K hK
     clear tg;go_simp;obtain⟨rb,II⟩:=lh ((World.heap J).size);have lrb:(World.heap W6).size<=rb:=by rw[<-II];exact ai
     refine aE hK ?_;refine bc (λJ _ brb=>?_);rw[II]at brb⊢;clear II)
   |(intro (tg:Tg 12) K hK
     clear tg;go_simp;obtain⟨u8,hu8⟩:=lg ((((J.setCell (rb,0) lo).setCell (rb,1) (.slice (some ⟨rg,0,none⟩) np np)).setCell (rb,2) ()).setCell (rb,3) ());rw[<-hu8];have Lb:aj u8 W6:=by rw[hu8];exact jp lrb
     have Su8:∀b,b<J.1.size->b≠rb->(World.heap u8)[b]?=J.heap[b]?:=λb _ hb=>by rw[hu8];exact(((bb _ ⟨rb,3,none⟩ _ b hb).trans (bb _ ⟨rb,2,none⟩ _ b hb)).trans (bb _ ⟨rb,1,none⟩ _ b hb)).trans (bb _ ⟨rb,0,none⟩ _ b hb)
     have Ku8:Bx u8 (rb) _ #[lo,.slice (some ⟨rg,0,none⟩) np np,(),()]:=⟨by rw[hu8];exact((((Bx.ak (w:=J) (g:=rb)).av 0 _).av 1 _).av 2 _).av 3 _⟩;have K9:Bx u8 rg 28 (iv [] np):=⟨(Su8 _ (Bx.ak (w:=J) (g:=rg)).lt (jf (Bx.ak (w:=J) (g:=rg)) (Bx.ak (w:=J) (g:=rb)) ao)).trans (Bx.ak (w:=J))⟩;refine aE hK ?_ Lb;clear hK K hu8)
   |refine ff 9 ?_
   |refine ff 12 ?_
   |refine ff 11 ?_
   |refine my 9 11 ?_ ?_
   |refine DW ?_)
  all_goals go_wp2_with fail;go_meet;exact⟨rg,rb,rfl,Ku8,K9,lrg,lrb,Lb⟩
 obtain⟨rg,rb,rfl,kb,kg,Ms,II,pwx⟩:=hcut;obtain⟨W7,rfl⟩:=lg wc;have ia:rg≠rb:=jf kg.ak kb.ak ao;have EQ:=U kb.ak;have HRB:Z (E.1.size<=rb):=aQ ai II;have hg6:=HG6.o.lK.2;have h36:E.1.size<=W6.1.size:=ai;have M:Z (qH W7 E.1.size gg R rg np rb ((List.replicate R kc).set l ⟨A5,c5,zl,B5,d5,X1⟩) (List.replicate np kc)):=by refine U ⟨HG6.o.at,jJ.zero kg.ak Y Y,Y,Y,ia,λt ht b hb=>?_,λt ht b hb=>?_,λt ht=>(HC6.o t ht).1⟩;obtain⟨-,q1,j⟩:=HC6.o t ht;have C:b<W6.1.size:=hb.elim (q1 b) (j b);refine⟨Y,Y,?_⟩;rcases ij ht with ht|rfl;exact zS0;(have h8:W.1.size<=b:=by rcases hb with⟨ad,e9,rfl⟩|⟨ad,e9,rfl⟩;exact f5.o ad e9;exact f5'.o ad e9);have:E.1.size<=W.1.size:=ai;omega;exact zS0
 have HT7:Z ((List.replicate np kc).map Tn.tv=(rV N L l P).2):=U (by unfold rV;rw[List.map_replicate,xk.o];rfl);obtain⟨Y0,hY0⟩:=lh ((O.length:Int)-1:Int);have hwY:IntKind.i64.wrap ((O.length:Int)-1)=Y0:=by rw[a7];omega
 have HY0:=U hY0;have p73:aj W7 E:=aC;clear hY0 kg HG0 HG6 B9 Ms II h36 hg6 Ot;go_wp2_with fail;go_loopw [14] (λXr wr=>∃(d:Nat) (y:Int) (gs rs:List Tn),d<=O/\Xr=.int .i64 y/\Z (y=(O.length:Int)-1-(d:Int))/\Z (qH wr E.1.size gg R rg np rb gs rs)/\Z (gs.map Tn.tv=(cD N O L l P x d).1)/\Z (rs.map Tn.tv=(cD N O L l P x d).2)/\Z (aA wr rb 67 #[lo,.slice (some ⟨rg,0,none⟩) np np,(),()])/\aj wr E) (λXr _=>(intOf Xr+1).toNat);exact⟨0,Y0,_,_,aR _,rfl,U (by rw[<-HY0.o];omega),M,HT6,HT7,EQ,p73⟩;clear M HT6 HT7 EQ;obtain⟨d,y,gs,rs,hd,rfl,HY,M,HGT,HRT,EQ,hp⟩:=hrel;have Zm:Sl wr AO O O:=am;by_cases bD:d<O
 .obtain⟨ix,rfl⟩:∃ix:Nat,y=(ix:Int):=⟨y.toNat,by have:=HY.o;omega⟩;(have hix:ix=O-1-d:=by have:=HY.o;omega);obtain⟨b1,o1,z,rfl,mM,cz,hz⟩:=Zm.get (k:=ix) Y;have wW:=rev_at bD hix hz.o;have hid:=hc.o.hN.m8.ids z (aK hz.o);have hbw:wh N L l P (O.reverse.take d) (cD N O L l P x d):=s0 hc.o.hN hc.o.hE hc.o.hF Bj d (eW bD);have I8:=hbw.there hc.o.hN hc.o.hE wW;obtain⟨v,hv,Zn,WT,f1,f2,f3,f4,f6,f7,g1,g2,g3,g4⟩:=wh.parts hc.o.hN hc.o.hF Bj hid I8;obtain⟨h1,h2⟩:=bt.1 hid;obtain⟨q,rfl⟩:∃q:Nat,z=(q:Int):=⟨z.toNat,Y⟩;obtain⟨k,hk⟩:∃k,q=k+1:=⟨q-1,Y⟩;(have oP:((q:Int)-1).toNat=k:=by omega);have oJ:=Py (l:=l) (x:=x) (P:=P) (L:=L) wW hv;rw[oP]at hv f3 f4;rw[a9]at I8 f7;have HK:=U hv;(have IB:k<m:=by rw[I2.o];exact(bj.1 hv).1);have hqM:q<R:=Y;obtain⟨b0,q0,o,A1,n1,BY,I,ni,ci,ins,P',np',cp',Q,rfl,ob,⟨v0,v1,v2,v3,v4,v5,v6,v7,v8,v9⟩,s1,si,sp,l1,li,lp',ik,lP⟩:=a.node IB;obtain rfl:v=⟨o,ins,aX Q⟩:=cU (hv.symm.trans lP.o);have IC:=hf.o.2.2 _ (aK hv);(have qW:n1<=1000000:=by rw[s1.len];have C:o.S.length<=100000:=IC.2.1;omega);have ra:ni<=1000000:=by rw[si.len];have C:ins.length<=100000:=IC.1;omega
  have LL:(cE (dR N P x) ins).map (·.1)=d7 ⟨o,ins,aX Q⟩ L:=f1;have O4:∀t∈cE (dR N P x) ins,TV.ok t:=f2;obtain⟨UV,IW⟩:=lh (cE (dR N P x) ins);have Zo:Z (∀z∈ins,∀t,vs[z.toNat]?=some t->aw t.zs t.xs=true/\t.zs.length<=t.c):=λz hz t ht=>⟨by
   have C:=O4 ((dR N P x).getD z.toNat T0) (cw.2 ⟨z,hz,rfl⟩);rw[<-HVT.o,a5,bo,ht]at C;exact C.1,HVC.o t (aK ht)⟩
  have aas:∀z∈ins,0<=z/\z<=N.nodes.length:=hc.o.hN.ko ⟨o,ins,aX Q⟩ Zn;(have Zp:Z (∀z∈ins,0<=z/\z<(R:Int)):=λz hz=>by have C:=aas z hz;have:=t6.o;have:=I2.o;omega);have x9:Z (cE (vs.map Tn.tv) ins=UV):=U (by rwa[HVT.o]);rw[IW]at LL O4;(have ud:UV.length<=1000000:=by rwa[<-IW,cE,bn,<-si.len]);obtain⟨PV,uA⟩:=lh (iB N P k ⟨o,ins,aX Q⟩);rw[uA]at f3 f4;obtain⟨GP,EC⟩:=lh (Cp N P (dR N P x) (cD N O L l P x d).1 (q:Int) ⟨o,ins,aX Q⟩);obtain⟨GX,ED⟩:=lh (pt N P (dR N P x) (cD N O L l P x d).1 (q:Int) ⟨o,ins,aX Q⟩);rw[EC,ED]at oJ;rw[ED]at g1 g2;rw[EC]at g3 g4;obtain⟨bg,og,Ag,cg,zg,Bg,dg,xg,eg,obg,cg0,cg1,sg1,sg2,lgg,ig,qP⟩:=M.o.g.oj.get (k:=q) hqM;injection eg with eg;injection eg with eg eg2;subst eg eg2;rw[cQ]at cg0 cg1;have htg:(cD N O L l P x d).1.getD q T0=(zg,xg):=by rw[<-HGT.o,a5,bo,qP.o];rfl
  rw[htg]at I8 f7;have HHR:Z (aw zg xg=true):=I8.2.1;have Bi:Z (dr o (PV.map (·.1)) (UV.map (·.1))=0):=U (by rw[f3,LL];exact f6);have qg:Z (cy o (PV.map (·.1)) (UV.map (·.1))=zg):=U (by rw[f3,LL];exact f7);have ZT:Z (qZ o PV UV zg xg=GP):=U (by
   rw[<-EC];unfold Cp;rw[oP,uA,a9,htg]
   show _=qZ o PV (cE (dR N P x) ins) zg xg
   rw[IW])
  have Og:Z (j5 o PV UV zg xg=GX):=U (by
   rw[<-ED];unfold pt;rw[oP,uA,a9,htg]
   show _=j5 o PV (cE (dR N P x) ins) zg xg
   rw[IW])
  have afO:GP.length=(aX Q).length:=by have:=di List.length g3;simpa using this
  have acL:GX.length=ni:=by have C:=di List.length g1;rw[si.len];simpa[d7]using C
  obtain⟨f,hF⟩:=lh (dK N k);obtain⟨t,hT⟩:=lh (f+(aX Q).length);have HF:=U hF;have HT:=U hT;rw[oP,hF]at oJ;have w7:=U oJ;(have Uq:t<=np:=by rw[Lz.o,<-hT,<-hF,show(aX Q).length=(⟨o,ins,aX Q⟩:dV).P.length from rfl,<-jq hv];unfold dK bQ;exact la _ _);obtain⟨A2,kE,acM⟩:=qx PA (show f<=t by omega) Uq lp;obtain⟨A9,Fa,ZV⟩:=I7 rg (show f<=t by omega) Uq;obtain⟨qn,LM⟩:=lh (t-f);have tq:Ts wr A2 qn ((ps.drop f).take qn):=by rw[<-LM];exact acM wr ps am
  rw[LM]at kE Fa;obtain⟨qs,IL⟩:=lh ((ps.drop f).take qn);rw[IL]at tq;have HQP:Z (qs.map Tn.tv=PV):=U (by
   rw[<-IL,<-uA,fT,kX,hP.o,<-hF];unfold iB;rw[show(⟨o,ins,aX Q⟩:dV).P.length=qn from by show(aX Q).length=qn;omega])
  have ID:Z (eP qs):=λt ht=>hO.o t (by rw[<-IL]at ht;exact hJ (eS ht));(have hwk:IntKind.i64.wrap ((q:Int)-1)=(k:Int):=by rw[a7];omega);(have Zq:(q:Int)=(k:Int)+1:=by omega);have HQK:=U Zq;have hfq:f+qn<=np:=Y;have hgq:GP.length=qn:=Y;have Pz:Z (f+qn<=np/\GP.length=qn/\GX.length=ni):=U ⟨hfq,hgq,acL⟩;have HA9:Z (f<np->A9=some ⟨rg,f*2,none⟩):=ZV;have DU:Z ((GX.map (·.1)=d7 ⟨o,ins,aX Q⟩ L)/\(∀t∈GX,TV.ok t)/\(∀t∈GP,TV.ok t)/\∀z∈ins,0<=z/\z<=N.nodes.length):=U ⟨g1,g2,g4,aas⟩;have HBW:=U hbw;(have hwy:IntKind.i64.wrap ((ix:Int)-1)=(ix:Int)-1:=by rw[a7];omega);(have i1:(ix:Int)<(O.length:Int):=by omega);(have afi:(k:Int)<(m:Int):=by omega);(have afj:(q:Int)<(R:Int):=by omega);have lgd:Le xg.length dg:=⟨lgg⟩;clear hid wW hbw I8 hv Zn WT f1 f2 f3 f4 f6 f7 g1 g2 g3 g4 h1 h2 oP oJ lP IC IW LL O4 uA EC ED htg qP afO acL hF hT acM LM IL Zq hk hz hfq hgq ZV aas hix;go_upto_region 20 with fail;refine aa (λu4 Lj k4=>?_);obtain⟨D,hD⟩:=lg wr.1.size;rw[<-hD]at k4⊢;have HD:=U hD;clear hD;go_upto_region 21 with(go_at_call 63;refine mv (C4 lB hf hs HQK HK HF HT) λu5 _=>?_);go_cut [19,20] (λq9 e9 wx=>∃G A' n' c' B' m' d',q9=.pointer (some ⟨G,0,none⟩)/\e9=.int .i64 0/\u5.1.size<=G/\Bx wx G 151 #[.slice A' n' c',.slice B' m' d']/\eQ wx u5.1.size A' n' c' GP/\eQ wx u5.1.size B' m' d' GX/\aj wx u5);case first=>
   have tv5:Ts u5 vg R vs:=(HVS.o.at (w':=u5)).oj;refine ax u5 ap (λJ _=>?_)
   repeat' (first
    |(refine kj 0 ?_
      refine qL [0,1,2,3,4,5,6,7,8,10,11,12] ?_;refine jQ 13 119 ?_)
    |(refine kj 15 ?_
      refine qL [15,16] ?_;refine jQ 17 122 ?_)
    |(refine kj 20 ?_
      refine jQ 20 20 ?_)
    |(intro (tg:Tg 9) K hK
      clear tg;go_simp
      refine(Lf ra Zo Zp x9).mono ?_
      rintro e J ⟨A3,c3,us,rfl,TU,LU,wz,O1,_⟩;dsimp only;refine aE hK ?_;clear hK K)
    |(intro (tg:Tg 14) K hK
      clear tg;go_simp
      refine(Gh qW ud ID wz HQP O1 Bi qg HHR ZT Og).mono ?_
      rintro e J ⟨A',n',c',B',m',d',rfl,r1,r2,_⟩;dsimp only;refine aE hK ?_;clear hK K)
    |(intro (tg:Tg 18) K hK
      clear tg;go_simp;refine aE hK ?_;refine bc (λJ _ _=>?_))
    |(intro (tg:Tg 19) K hK
      clear tg;rename World=>wN;go_simp;refine q8 hK (λ_=>?_) ⟨bA (aO u5 wN) ai _ _⟩;clear hK K)
    |refine ff 9 ?_
    |refine ff 14 ?_
    |refine ff 19 ?_
    |refine ff 18 ?_
    |refine my 9 18 ?_ ?_
    |refine my 14 18 ?_ ?_
    |refine DW ?_)
   all_goals
    go_wp2_with fail;go_meet;refine⟨_,A',n',c',B',m',d',rfl,rfl,ai,⟨(Bx.ak (w:=wN)).bP _ _⟩,?_,?_,⟨bA (aO u5 wN) ai _ _⟩⟩
    .first|exact(r1.bH Bx.ak.lt _ _).less ai|exact(r1.kR (al _) _ _).less ai
    first|exact(r2.bH Bx.ak.lt _ _).less ai|exact(r2.kR (al _) _ _).less ai
  obtain⟨G,A',n',c',B',m',d',rfl,rfl,hgG,kG,q1,j,pwx⟩:=hcut;obtain⟨wx,rfl⟩:=lg wc;obtain⟨us1,t1,mv1,-,of1,-⟩:=RB q1 DU.o.2.2.1;obtain⟨L3,t2,mv2,okx,of2,ow2⟩:=RB j DU.o.2.1;(have HU:qn=n':=by rw[t1.len,<-Pz.o.2.1,<-mv1,bn]);have U5:ni=m':=by rw[t2.len,<-Pz.o.2.2,<-mv2,bn]
  subst HU U5;have hru:wr.1.size<=u5.1.size:=ai;have T:Z (gg<u5/\rg<u5.1.size/\rb<u5.1.size/\E.1.size<=u5.1.size/\E.1.size<=rg):=U (by
   have q3:=M.o.g.lK;have q4:=M.o.r.lK;have q5:=EQ.o.lt;omega)
  have afP:=U of1;have RC:=U of2;have aat:=U ow2;have afQ:=U mv1;have Gb:=U mv2;have ZW:=U okx;have HDG:Z (D≠rg/\D≠gg/\D<u5):=U (by
   have q3:=M.o.r.lK.2;have q4:=M.o.g.lK.2;have q5:=HD.o;have q6:D<u4.1.size:=k4.ak.lt;have q7:u4.1.size<=u5.1.size:=ai;omega)
  have Da:Z (G≠rg/\G≠gg):=U (by have:=T.o;omega);have cx1:Cl wx rb 1 (.slice (some ⟨rg,0,none⟩) np np):=⟨(EQ.o.at (w':=wx)).cell 1⟩;clear q1 j of1 of2 ow2 mv1 mv2 okx kE hru;go_upto_region 24 with fail;refine aU E (λw9=>Cl w9 rb 1 (.slice (some ⟨rg,0,none⟩) np np)/\Bx w9 G 151 #[.slice A' qn c',.slice B' ni d']) ap ⟨am,am⟩ (λuz _=>?_);refine bp 0 ?_;refine bp 1 ?_;refine bp 2 ?_;refine bp 3 ?_;refine bp 4 ?_;refine bp 5 ?_;refine bp 6 ?_;refine aJ 7 λK hK=>?_;have acN:=M.o.at (w':=uz);have t19:Ts uz A' qn us1:=am;have t29:Ts uz B' ni L3:=am;have Km:wx.1.size<=uz.1.size:=ai;obtain⟨W8,rj,aau,Gv⟩:=qH.copied (f:=f) acN t19 Pz.o.1 HA9 (λt ht b hb=>by have C:=afP.o t ht b hb;have:=T.o;exact⟨Y,Y,Y,Y,Y⟩);obtain⟨rs2,aav⟩:=lh (rs.take f++us1++rs.drop (f+qn));rw[aav]at aau;have afR:=U aav;have afS:=U aau;(have pw8:aj W8 E:=Gv.prev λb e=>by rw[e];exact M.o.r.lK.1);have aaw:Z (aA W8 rb 67 #[lo,.slice (some ⟨rg,0,none⟩) np np,(),()]):=U (Gv.ak (EQ.o.at (w':=uz)) λe=>M.o.nr e.symm);have cw8:Cl W8 rb 1 (.slice (some ⟨rg,0,none⟩) np np):=⟨aaw.o.cell 1⟩;have kG8:Bx W8 G 151 #[.slice A' qn c',.slice B' ni d']:=⟨Gv.ak (Bx.ak (w:=uz)) Da.o.1⟩;have cD8:Cl W8 D 8 (I,ni,ci):=⟨(Gv.ak (k4.ak.at (w':=uz)) HDG.o.1).cell 8⟩;have afT:Z (Ts W8 B' ni L3):=U (Gv.Dw t29 (λh0 b hb e=>by have C:=aat.o h0 b hb;have:=T.o;have:b=rg:=e;omega) λt ht=>⟨λb hb e=>by have C:=RC.o t ht b (.inl hb);have:=T.o;have:b=rg:=e;omega,λb hb e=>by have C:=RC.o t ht b (.inr hb);have:=T.o;have:b=rg:=e;omega⟩);refine dZ rfl _ _ 23 23 rfl _ _ rfl rfl (rj _ _ _)<|aE hK ?_ ⟨pw8,cw8,kG8⟩;clear hK K rj Gv aau aav t19 t29 Km acN;refine a8 ?_;skip;clear Fa;go_wp2_with fail;go_loopw [138] (λaax ws=>∃(j:Nat) (IX:List Tn),j<=ni/\aax=.int .i64 (j:Int)/\Z (qH ws E.1.size gg R rg np rb IX rs2)/\Z (IX.map Tn.tv=i0 (cD N O L l P x d).1 (ins.take j) (GX.take j))/\Z (Kf (λb=>b=gg) (λb=>b=gg) W8 ws)/\aj ws E) (λaax _=>ni-(intOf aax).toNat);exact⟨0,gs,aR _,rfl,afS,U (by rwa[d8,d8]),U (Kf.refl _ _),pw8⟩;obtain⟨j,IX,hq2,rfl,X,aay,M6,rE⟩:=hrel;by_cases Lk:j<ni
  .obtain⟨bi,oi,z,rfl,obi,cz2,jR⟩:=si.get Lk;obtain⟨fN,gu⟩:=DU.o.2.2.2 z (aK jR.o);obtain⟨zn,rfl⟩:∃zn:Nat,z=(zn:Int):=⟨z.toNat,Y⟩;(have hzm:zn<R:=by have:=t6.o;have:=I2.o;omega);have ZY:Ts wr B' ni L3:=M6.o.Dw afT (λh0 b hb e=>by have C:=aat.o h0 b hb;have:=T.o;have:b=gg:=e;omega) λt ht=>⟨λb hb e=>by have C:=RC.o t ht b (.inl hb);have:=T.o;have:b=gg:=e;omega,λb hb e=>by have C:=RC.o t ht b (.inr hb);have:=T.o;have:b=gg:=e;omega⟩;obtain⟨b2,o2,A3,n3,c3,z3,B3,k3,d3,x3,rfl,iM,e0,e1,s3,y3,l3,l3',i3,h4,h6,Vy,wo⟩:=ZY.yK ZW Lk;(have vX:GX[j]?=some (z3,x3):=by have C:=wo.o;(have h8:j<GX.length:=by rwa[Pz.o.2.2]);rw[Gb.o,a5,bk h8]at C;rw[bk h8];exact di some C);obtain⟨bh,oh,Ah,ch,zh,Bh,dh,xh,eh,obh,Z3,ch1,sh1,sh2,lhh,ih,hgh⟩:=X.o.g.oj.get (k:=zn) hzm;injection eh with eh;injection eh with eh eh2;subst eh eh2;rw[cQ]at Z3 ch1;(have I8:(i0 (cD N O L l P x d).1 (ins.take j) (GX.take j)).getD zn T0=(zh,xh):=by rw[<-aay.o,a5,bo,hgh.o];rfl);have L6:=wj (L:=L) (m:=N.nodes.length) (ins.take j) (GX.take j) (cD N O L l P x d).1 HBW.o.len (λz hz=>DU.o.2.2.2 z (eS hz)) (by rw[fT,DU.o.1,d7,fT]) (λt ht=>DU.o.2.1 t (eS ht)) HBW.o.sh;have wF:=L6.2.1 (zn:Int) fN gu;unfold Cq at wF;rw[a9,I8]at wF;have hzt:z3=L.getD zn []/\TV.ok (z3,x3):=by refine⟨?_,DU.o.2.1 _ (aK vX)⟩;(have C:(GX.map (·.1))[j]?=(d7 (⟨o,ins,aX Q⟩:dV) L)[j]?:=by rw[DU.o.1]);rw[bo,vX,d7,bo]at C;have h8:ins[j]?=some (zn:Int):=jR.o;have h7:(some (z3,x3)).map Prod.fst=(ins[j]?).map λz=>L.getD z.toNat []:=C;rw[h8]at h7;exact cU h7
   have hV:=Cr (S:=L.getD zn []) wF hzt.1 hzt.2;obtain⟨V,zz⟩:=lh (iC (zh,xh) (z3,x3));rw[zz]at hV;have afU:=U zz;have HVO:=U hV;have Dz:Z (xh=[]\/cP zh xh z3 x3=true):=U (by
    rcases wF with g2|g2
    .exact .inl (di Prod.snd g2)
    .refine .inr ?_;have e1:zh=z3:=g2.1.trans hzt.1.symm;unfold cP;rw[g2.2.1,hzt.2.1,e1];simp)
   have tr:xh.length<=1000000:=by rcases wF with g2|g2;have:xh=[]:=di Prod.snd g2;rw[this];simp;have C:xh.length<=65536:=(fp g2.2.1).1;omega
   have ql:Z (i0 (cD N O L l P x d).1 (ins.take (j+1)) (GX.take (j+1))=(i0 (cD N O L l P x d).1 (ins.take j) (GX.take j)).set zn V):=U (by
    have C:=uv ins GX (cD N O L l P x d).1 j (zn:Int) (z3,x3) jR.o vX;rw[a9,I8,zz]at C;exact C)
   have WR:Bx wr G 151 #[.slice A' qn c',.slice (some ⟨b2,o2,none⟩) ni d']:=⟨M6.o.ak kG8.ak Da.o.2⟩;(have i2:(j:Int)<(ni:Int):=by omega);(have i3':(zn:Int)<(R:Int):=by omega);have ogg:Old gg wr:=⟨X.o.g.lK.2⟩;clear vX I8 L6 wF hzt hV zz hgh ZY wo;go_upto_region 28 with fail;(have afV:b2≠gg:=by (have C:L3≠[]:=λe=>by have h8:=Gb.o;rw[e]at h8;have:=Pz.o.2.2;rw[<-h8]at this;simp at this;omega);have:=aat.o C b2 ⟨_,rfl,rfl⟩;have:=T.o;omega);have cA:Cl wr b2 (o2+j*2) (A3,n3,c3):=⟨e0⟩;have cB:Cl wr b2 (o2+j*2+1) (.slice B3 k3 d3):=⟨e1⟩;clear e0 e1;refine aU E (λw9=>Bx w9 G 151 #[.slice A' qn c',.slice (some ⟨b2,o2,none⟩) ni d']/\Cl w9 b2 (o2+j*2) (A3,n3,c3)/\Cl w9 b2 (o2+j*2+1) (.slice B3 k3 d3)) ap ⟨am,am,am⟩ (λJ _=>?_);refine a1 0 ?_;refine a1 1 ?_;refine a1 2 ?_;refine a1 3 ?_;refine a1 4 ?_;refine a1 6 ?_;refine a1 7 ?_;refine a1 8 ?_;refine a1 9 ?_;refine a1 10 ?_;refine aJ 5 λK hK=>?_;go_simp;refine aE hK ?_ ⟨aG E _,⟨am,am,am⟩⟩;refine aJ 11 λK hK=>?_;have Km:wr.1.size<=J.1.size:=ai;go_simp;refine(IA tr Y Y Dz afU).mono ?_
   rintro e9 J ⟨A6,c6,B6,d6,rfl,s6,x6,l6,l6',f6,f6',_⟩;dsimp only;have HF6:Z (bL wr.1.size A6/\bL wr.1.size B6):=U ⟨f6.less Km,f6'.less Km⟩;clear Km;refine aE hK ?_ ⟨aG E _,am,am,am⟩;refine a1 12 ?_;refine aJ 13 λK hK=>?_;have V9:=X.o.at (w':=J);obtain⟨⟨y0,mG⟩,⟨y1,EH⟩,D1⟩:=V9.g.cells (i:=zn) hzm;have Lg:=D1 (zn*2);have nC:=D1 (zn*2+1);go_simp;obtain⟨W9,uy⟩:=lg ((J.setCell (gg,zn*2) (.slice A6 V.1.length c6)).setCell (gg,zn*2+1) (.slice B6 V.2.length d6));have nA:=HVO.o.2;have q3:=X.o.g.lK;have q4:=X.o.r.lK;have q5:rb<wr.1.size:=(M6.o.ak aaw λe=>X.o.ng e.symm).lt;have HG9:Z (qH W9 E.1.size gg R rg np rb (IX.set zn ⟨A6,c6,V.1,B6,d6,V.2⟩) rs2):=U (by
    rw[uy];exact V9.av (i:=zn) (t:=⟨A6,c6,V.1,B6,d6,V.2⟩) hzm (TE.of (w:=J) (n1:=V.1.length) (m1:=V.2.length) am am l6'.le nA.2) (λb hb=>by
     rcases hb with hb|hb
     .have C:=gn (w:=J) (n:=V.1.length) (zs:=V.1) (A:=A6) am (fL nA.right) b hb;obtain⟨ad,e9,rfl⟩:=hb;have:=HF6.o.1.o ad e9;exact⟨C,Y,Y,Y,Y⟩
     .have C:=gn (w:=J) (n:=V.2.length) (zs:=V.2) (A:=B6) am nA.ne b hb;obtain⟨ad,e9,rfl⟩:=hb;have:=HF6.o.2.o ad e9;exact⟨C,Y,Y,Y,Y⟩) l6.le)
   have OD:Kf (λb=>b=gg) (λb=>b=gg) J W9:=by rw[uy];exact((Kf.refl (λb=>b=gg) J).av (q:=⟨gg,zn*2,none⟩) rfl _).av (q:=⟨gg,zn*2+1,none⟩) rfl _
   have Uk:Z (Kf (λb=>b=gg) (λb=>b=gg) W8 W9):=U ((M6.o.trans (Kf.later _ (w:=wr) (w':=J))).trans OD);(have p9:aj W9 E:=by rw[uy];exact LK M.o.g.lK.1);have O3:Bx W9 G 151 #[.slice A' qn c',.slice (some ⟨b2,o2,none⟩) ni d']:=⟨OD.ak (Bx.ak (w:=J)) Da.o.2⟩;have hold:W9.heap[b2]?=J.heap[b2]?:=OD.keep b2 (bN iM.lt ai) afV;have cA9:Cl W9 b2 (o2+j*2) (A3,n3,c3):=⟨(d4 hold).trans (Cl.eq (w:=J))⟩;have cB9:Cl W9 b2 (o2+j*2+1) (.slice B3 k3 d3):=⟨(d4 hold).trans (Cl.eq (w:=J))⟩;rw[<-uy];clear uy OD hold mG EH Lg nC D1 V9 nA q3 q4 q5;refine aE hK ?_ ⟨p9,O3,cA9,cB9⟩;refine a8 ?_;go_wp2_with fail;exact⟨⟨j+1,_,Y,by go_num,HG9,U (by rw[ql.o,jb,aay.o];rfl),Uk,p9⟩,by simp[intOf]<;>omega⟩
  obtain rfl:j=ni:=Y;go_wp2_with fail;go_roundw;have IH:ins=j:=si.len.symm;refine⟨d+1,(ix:Int)-1,IX,rs2,Y,rfl,U (by have:=HY.o;omega),X,U ?_,U ?_,U (M6.o.ak aaw λe=>X.o.ng e.symm),rE⟩;rw[aay.o,w7.o,bV (dT IH),bV (dT Pz.o.2.2)];rw[w7.o,<-afR.o,c9,c9,fT,kX,HRT.o,afQ.o,rU,Pz.o.2.1];simp[intOf]<;>omega
 have hdl:d=O:=Y;obtain rfl:y= -1:=by have:=HY.o;omega
 obtain⟨bh,oh,Ah,ch,zh,Bh,dh,xh,eh,obh,Z3,ch1,sh1,sh2,lhh,ih,hgh⟩:=M.o.g.oj.get (k:=0) Y;injection eh with eh;injection eh with eh eh2;subst eh eh2;simp only[cQ,fo]at Z3 ch1;have kbw:Bx wr rb 67 #[lo,.slice (some ⟨rg,0,none⟩) np np,(),()]:=⟨EQ⟩;have HGH:=hgh;clear hgh;go_upto_region 31 with fail;obtain⟨W9,uy⟩:=lg ((wr.setCell (rb,2) (.slice Ah zh ch)).setCell (rb,3) (.slice Bh xh dh));have hru:=M.o.r.lK.1;have afW:E.1.size<=rb:=HRB.o;have kb9:Bx W9 rb 67 #[lo,.slice (some ⟨rg,0,none⟩) np np,.slice Ah zh ch,.slice Bh xh dh]:=⟨by rw[uy];exact(EQ.o.av 2 _).av 3 _⟩;have p9:aj W9 E:=by rw[uy];exact LK afW
 have k9:Kf (λb=>b=rb) (λb=>b=rb) wr W9:=by rw[uy];exact((Kf.refl (λb=>b=rb) wr).av (q:=⟨rb,2,none⟩) rfl _).av (q:=⟨rb,3,none⟩) rfl _
 have HG9:Z (qH W9 E.1.size gg R rg np rb gs rs):=M.o.kf k9 λb e=>.inl e;rw[<-uy];clear uy;go_wp2_with fail;refine aZ (v:=.tuple #[.agg #[lo,.slice (some ⟨rg,0,none⟩) np np,.slice Ah zh ch,.slice Bh xh dh],an]) ?_ rfl ?_;rw[ct rfl];go_simp;have hob:w.1.size+1+1<E:=(am:Bx E (w.1.size+1+1) _ _).ak.lt;have hk:=kf4 (u:=W9) (q:=w.1.size+1+1) (z0:=.int .i64 lo) (z1:=.slice (some ⟨rg,0,none⟩) np np) (z2:=.slice Ah zh ch) (z3:=.slice Bh xh dh);have hg:=HG9.o.kf hk λb e=>.inr (by have:b=w.1.size+1+1:=e;omega);have Ms:=Mr hc;refine⟨some ⟨rg,0,none⟩,np,rs,⟨Ah,ch,zh,Bh,dh,xh⟩,by rw[HLO.o],hg.r.oj,?_,hg.g.el _ (aK HGH),?_,hk.prev λb e=>by have:b=w.1.size+1+1:=e;omega⟩;rw[HRT.o,Ms,hdl];rw[Ms,<-hdl,<-HGT.o,a5,bo,HGH.o];rfl
end
end
variable{xs zs:List Int}{L:List (List Int)}{cb cp cx dx:Nat}{ps:List Tn}{S:Int}{BA PA XA XB:Option Addr}
section
variable{N:a6}{P:List TV}{x:TV}{bs:List Int}
def Gw{t:TV}(h:t=T0\/TV.ok t):t.1.length<=1000000/\t.2.length<=1000000:=by
 rcases h with rfl|h;exact⟨aR _,aR _⟩;have:=fp h.1;omega
def Mt(c:fI N O L l P x):(∀t∈(lH N P x).2,t.1.length<=1000000/\t.2.length<=1000000)/\(((lH N P x).1.getD 0 T0).1.length<=1000000/\((lH N P x).1.getD 0 T0).2.length<=1000000):=by
 have b:=s0 c.hN c.hE c.hF (k8 c.hN c.hF) O.length (al _);have e:Oz N P (dR N P x) (rV N L l P) (O.reverse.take O.length)=lH N P x:=(Mr c).symm;rw[e]at b;refine⟨λt ht=>Gw (b.TX t ht),Gw ?_⟩;rcases b.sh 0 Y Y with h3|h3;exact .inl h3;exact .inr h3.2
def x8.exc(h:x8 N zs ps x cap)(b:∀t∈ps,∀z∈t.xs,bf z)(e:∀z∈x.2,bf z)(j:∀v∈N.nodes,bf v.o.k)(m:iy N=0):∃O L l,fI N O L l (ps.map Tn.tv) x:=by
 obtain⟨O,L,l,r,y,-⟩:=look_ok h.hE;exact⟨O,L,l,y,h.hE,m,⟨h.ft.1,λt ht=>⟨h.ft.2.1 t ht,λz B=>by
  obtain⟨u,hu,rfl⟩:=cw.1 ht;exact b u hu z B⟩,h.ft.2.2.2,⟨h.ft.2.2.1,e⟩,j⟩,r⟩
end
section
variable{w:World}{K:Option Addr}{n:Nat}{bs xz:List Int}{N:a6}
def aW.k6(a:aW w A n B m N):∀v∈N.nodes,bf v.o.k:=λv hv=>by
 obtain⟨k,b⟩:=fZ hv;have e:k<m:=by rw[a.len];exact(bj.1 b).1
 obtain⟨_,_,o,_,_,_,_,_,_,_,_,_,_,_,_,_,_,_,_,_,_,_,_,i6,j⟩:=a.node e;rw[j.o]at b;obtain rfl:=cU b;exact i6.bd
def PC{V:List (Int×Int)}(h:mkP N pl cap=(z,V,(y,S,P3,P4),E)):(E≠0/\z=0/\V=[])\/(E=0/\lJ N cap V=0/\pA N cap V=(y,S,P3,P4)/\V.length<=65536):=by
 unfold mkP at h;split at h
 .rename_i b;split at h;rename_i e;simp only[dS]at h;obtain⟨-,rfl,j,rfl⟩:=h;exact .inr ⟨rfl,e,j,yn b⟩;simp only[dS]at h;obtain⟨rfl,rfl,-,rfl⟩:=h;exact .inl ⟨ao,rfl,rfl⟩
 rename_i b;simp only[dS]at h;obtain⟨rfl,rfl,-,rfl⟩:=h;exact .inl ⟨b,rfl,rfl⟩
def zS1(h:Γ:=by go_ret;exact⟨rfl,aO w _⟩):=h
def yo[s:Bs w BA zs.length zs][tp:Ts w PA ps.length ps][sx:Sl w XA xz xz][xx:Sl w XB xs xs][lx:Le xs.length dx][ix:cm xs](T:zs<=cb)(hb:Z (∀t∈ps,t.zs.length<=17592186043904/\t.xs.length<=17592186043904))(X:Z (∀t∈ps,t.zs.length<=t.c))(EI:ps.length<=140737488351232)(hx:xz.length<=17592186043904/\xs.length<=17592186043904)(C:ps<=cp)(hlx:xz<=cx):
  () 5 #[.agg #[.slice BA zs cb,.slice PA ps cp,.slice XA xz cx,.slice XB xs dx,pl,cap]] w (Vn w):=by
 have CB:=@az;have FB:=@aP;have h6:Z (∀t∈ps,∀z∈t.xs,bf z):=λt ht=>(tp.rd.elems t ht).2.2.2;have h6x:Z (∀z∈xs,bf z):=ix.bd;obtain⟨x,hX⟩:=lg ((xz,xs));have HX:=U hX;have sx1:Sl w XA xz x.1:=by rw[hX];exact sx
 have xx1:Sl w XB xs x.2:=by rwa[hX]
 have Tf:cm x.2:=by rw[hX];exact ix
 obtain⟨y1,EA⟩:=lh zs.length;obtain⟨y2,D⟩:=lh ps.length;obtain⟨y3,hy3⟩:=lh xz.length;obtain⟨y4,hy4⟩:=lh xs.length;have HY2:=U D;clear hX sx xx ix;rw[EA]at s T⊢;rw[D]at tp EI C⊢;rw[hy3]at sx1 hx hlx⊢;rw[hy4]at xx1 lx hx⊢;clear EA D hy3 hy4;go_in;go_upto_region 1 with fail;refine aa (λu0 p0 k0=>?_);go_upto_region 2 with(go_at_call 7;refine(Y9 T hb X EI hx).mono ?_;rintro e u1 ⟨A,n,c,B,m,d,g,rfl,hg,_⟩);refine aa (λu2 p2 k2=>?_);cases g with
 |false=>clear hg;go_wp2_with (go_at_call 8;refine uB.mono ?_;rintro e u3 ⟨rfl,_⟩);exact zS1
 |true=>
  obtain⟨N,j,aN,G3,Ki⟩:=hg rfl;have b:=U j;clear hg j;obtain⟨cp2,rfl⟩:=bO b.o.c0;(have E9:cp2<=16777216:=by have:=b.o.c1;omega);have HF:Z N.fits:=b.o.fi;have HS:Z N.small:=b.o.sm;have sg:Z (bm N=0):=b.o.hE;have kH:Z (eP ps):=b.o.ok X;have HPF:Z ((ps.map Tn.tv).map (·.1)=bQ N):=b.o.ft.1;obtain⟨F,D8⟩:=yV b.o.fw;(have agJ:y2<=300:=by rw[<-HPF.o,bn,bn,HY2.o]at F;exact F);have hmm:N.nodes.length<=200:=Y;(have afX:m<=12:=by rwa[aN.len]);have y:y2<=1000000:=Y;have Sc:Z (∀v∈N.nodes,bf v.o.k):=aN.k6;obtain⟨⟨Q,V,⟨P1,P2,P3,P4⟩,E⟩,hQ⟩:=lh (mkP N pl (cp2:Int));have R6:=U hQ;obtain⟨k,hk⟩:=lh V.length;have HK:=U hk;have RE:=PC hQ;rw[hk]at RE;clear F D8 hQ hk;go_upto_region 5 with(go_at_call 17;refine(Vk HF HS sg afX Y R6).mono ?_;rintro e u3 ⟨AC,cC,rfl,oC,_⟩;rw[HK.o]);refine aa (λu4 p4 k4=>?_);rcases RE with⟨h0,rfl,-⟩|⟨rfl,hRE,hRV,oG⟩
  .have b0:(E !=0)=true:=by simp[h0]
   clear h0;go_wp2_with (go_at_call 8;refine uB.mono ?_;rintro e u5 ⟨rfl,_⟩);exact zS1
  have iC:Is u4 AC k V:=⟨(bZ.at (w':=u4) oC).rd,HK.o.symm⟩;have HRE:=U hRE;have HRV:=U hRV;clear oC hRE hRV;obtain⟨O,L,l,r⟩:=b.o.exc h6 (by rwa[HX.o]) Sc (DC HRE).1;have G:=U r;obtain⟨wV,hsx⟩:=Mt r;have Cf:=U wV;have HSX:=U hsx;clear r wV hsx;obtain⟨P,hP⟩:=lh (ps.map Tn.tv);rw[hP]at G Cf HSX;have HP:=U hP;clear hP;have lxd:y4<=dx:=lx.le;go_upto_region 8 with(go_at_call 19;refine(Rw HF HS G HP kH y hlx lxd C Ki oG E9 hmm HRE HRV).mono ?_;rintro e u6 ⟨A2,c2,gs,⟨A5,c5,M,B5,d5,S⟩,pk,hi,mv,rfl,tG,hG,tX,hX2,hhi,_⟩;dsimp only);have HG:=U hG;have DU:=U hX2;have t1:Sl u6 A5 M M:=⟨tX.1,rfl⟩;have t2:Sl u6 B5 S S:=⟨tX.2.1,rfl⟩;clear hG hX2 tX hhi;refine aa (λu7 p7 k7=>?_);go_upto_region 9 with(go_at_call 20;refine(abX HF HS G HP kH y C Ki).mono ?_;rintro e u8 ⟨A3,c3,wZ,⟨A6,c6,z6,B6,d6,x6⟩,rfl,tH,hH,I,hX3,_⟩;dsimp only);have HGH:Z (gs.map Tn.tv=wZ.map Tn.tv):=HG.o.trans hH.symm;have e9:((M,S):TV)=(z6,x6):=DU.o.trans hX3.symm;have u:=HSX.o;rw[<-DU.o]at u;have Pp:M.length<=1000000:=u.1;have hx5:S.length<=1000000:=u.2;have L2:Z (∀t∈gs,t.zs.length<=1000000/\t.xs.length<=1000000):=λt ht=>Cf.o t.tv (by rw[<-HG.o];exact List.mem_map_of_mem ht);injection e9 with e7 e8;subst e7 e8;have t3:Sl u8 A6 M M:=⟨I.1,rfl⟩;have t4:Sl u8 B6 S S:=⟨I.2.1,rfl⟩;have J:y2<=1000000000000:=Y;clear hH hX3 I u;refine aa (λu9 p9 k9=>?_);go_wp2_with (first|(go_at_call 21;refine(Ut HGH L2 Pp hx5 J).mono ?_;rintro e u10 ⟨rfl,_⟩)|(go_at_call 8;refine uB.mono ?_;rintro e u11 ⟨rfl,_⟩));exact zS1
end
section
open Go.ChangeShapes Go.WideShapes Go.ChangeAt Go.RowKit
def zS3(h:Γ:=by decide+kernel):=h
def wS(os:Os)(b:os.Started)(H:Type)(enc:TypeId×Value->H):
  ReturnsInHanded {} checked os 5 .any (Rows.wholeSameSpec.pre6 enc prog Tryz.f5 Rows.wholeSameRow.domain false) (Rows.wholeSameSpec.post enc prog Tryz.f5 false true false false):=by
 refine returnsInHanded_of_change_sized (C:=checked) DV b ap func5
  (ChangeSpec.witness6 (enc:=enc) (C:=checked) false ⟨#[],#[.agg #[(),(),(),(),an,an]],[]⟩ 8 ap ap ap ap) ?_
 intro W base args L gs before l M _ r _;have B:(DataW.weightsEach prog (Tryz.f5.params.toList++Rows.wholeSameSpec.plain.varTypes prog) (L++gs)).all (· <=reachBytes)=true:=r;have u:∀(j:Nat) t v,Tryz.f5.params[j]?=some t->args[j]?=some v->Value.okWide prog W .any base t v:=l;have G:=M;obtain⟨p,q,D,hV,rfl,_,_⟩:=M;have I:DataW.TrodAll enc prog W 0 (λ_=>true) true Tryz.f5.params.toList args.toList L p:=D;rw[params5]at I u B;have E:=I;obtain⟨v0,O,d0,P,p0,q0,J,rfl,rfl,Q,r0⟩:=trodAll_cons I;obtain⟨rfl,rfl,rfl⟩:=trodAll_nil r0;obtain rfl:args= #[v0]:=by cases args;simp_all
 obtain⟨rfl,rfl⟩:=trodVars_none hV;obtain⟨BA,cb,zs,PA,cp,ps,XA,cx,N,XB,dx,xs,pl,cap,rfl,s0,K,m,F,y,R,l1⟩:=IJ (u 0 30 v0 rfl rfl) Q (VB B (j:=0) rfl rfl);have S:Ts W PA ps.length ps:=⟨m.rd,rfl⟩;have T:Sl W XA N N:=⟨F.rd,rfl⟩;have V:Sl W XB xs xs:=⟨y.rd,rfl⟩;have X:Le xs.length dx:=⟨y.2.1⟩;have i61:cm xs:=⟨λz hz=>Ay (y.2.2.2 z hz)⟩;clear D l r;refine(yo K (U m.big) (U m.ad3) (by have:=m.len;omega) ⟨R,l1⟩ m.cap F.2.1).mono λe W' ⟨he,aO⟩=>?_;subst he;exact⟨_,rfl,_,_,_,[],_,[],G,trodAll_mk1 (shut_bool underlying4 _),Ax G2 zS3 E aO,rfl,aO.frame _,λh=>by cases h⟩
theorem wholeSame_holds:Rows.WholeSameSaid:=
 OpenClaim.holds_of_wide 5 Tryz.f5 rfl rfl rfl rfl rfl rfl rfl ⟨rfl,rfl,rfl,rfl,rfl⟩ rfl rfl rfl rfl rfl yq func5 yp
  (pH ap) (by unfold Func.isWrapper;first|(rw[ah zS3];kernel_rfl)|(rw[ag zS3];exact⟨rfl,rfl⟩))
  (λos b H e _=>wS os b H e)
end
