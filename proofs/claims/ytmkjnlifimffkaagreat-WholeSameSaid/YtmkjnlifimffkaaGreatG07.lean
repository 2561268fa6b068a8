/- Lemmas. -/
import Derived.Test.YtmkjnlifimffkaaGreatG06
import Derived.OrdersIn
namespace Go.Proofs.YtmkjnlifimffkaaGreat
open Go.RowKit Tryz
set_option linter.all false
set_option maxRecDepth 100000
set_option maxHeartbeats 0
variable{Γ:Prop}
attribute[local irreducible]Calls
variable{x y z:Int}
def g8(b:Int):Int:=if 1<=b/\b<=5 then 1 else if b=6\/b=7 then 2 else 0
def mX(x:Int):Int:=bB (bw x 1073741824) 2147483648
def fg(b k x y:Int):Int:=
 if b=1 then max x 0
 else if b=2 then(if 0<x then x else bw x k)
 else if b=3 then io x (-4294967296) 4294967296
 else if b=4 then io (mX x) 0 4294967296
 else if b=5 then bw x k
 else if b=6 then bB x y
 else if b=7 then bw x y
 else 0
def dJ(b k x y g:Int):Int:=
 if b=1 then(if 0<x then g else 0)
 else if b=2 then(if 0<x then g else bw g k)
 else if b=3 then(if-4294967296<x/\x<4294967296 then g else 0)
 else if b=4 then(if 0<mX x/\mX x<4294967296 then bw g 1073741824 else 0)
 else if b=5 then bw g k
 else if b=6 then g
 else if b=7 then bw g y
 else 0
def gP(b x g:Int):Int:=if b=6 then g else if b=7 then bw g x else 0
theorem BM{low high:Int}(b:bf x)(e:bf low)(j:bf high):bf (io x low high):=by
 grind [io]
theorem q5:bf 1073741824:=⟨ao,ao⟩
def S3(x:Int):bf (mX x):=hW _ _
def S4{k:Int}(j:bf k)(e:bf x)(l:bf y):bf (fg z k x y):=by
 have m:bf (max x 0):=by obtain⟨a,b⟩:=e;constructor<;>omega
 unfold fg;repeat' split
 all_goals first|exact m|exact e|exact jU e j|exact jU e l|exact hW _ _|exact BM e ⟨ao,ao⟩ ⟨ao,ao⟩|exact BM (S3 x) ⟨ao,ao⟩ ⟨ao,ao⟩|exact⟨ao,ao⟩
theorem NZ{k g:Int}(b:bf k)(e:bf y)(hg:bf g):bf (dJ z k x y g):=by
 grind [bf,dJ,jU,q5]
theorem N0{g:Int}(b:bf x)(hg:bf g):bf (gP z x g):=by
 grind [bf,gP,jU]
section
variable{k g:Int}
def Xc:fg 1 k x y=max x 0:=by simp[fg]
def Kn:fg 2 k x y=if 0<x then x else bw x k:=by simp[fg]
def Xd:fg 3 k x y=io x (-4294967296) 4294967296:=by simp[fg]
def Xe:fg 4 k x y=io (mX x) 0 4294967296:=by simp[fg]
def Xf:fg 5 k x y=bw x k:=by simp[fg]
def Xg:fg 6 k x y=bB x y:=by simp[fg]
def Xh:fg 7 k x y=bw x y:=by simp[fg]
def Fp:dJ 1 k x y g=if 0<x then g else 0:=by simp[dJ]
def Fq:dJ 2 k x y g=if 0<x then g else bw g k:=by simp[dJ]
def xq:dJ 3 k x y g=if-4294967296<x/\x<4294967296 then g else 0:=by simp[dJ]
def xr:dJ 4 k x y g=if 0<mX x/\mX x<4294967296 then bw g 1073741824 else 0:=by simp[dJ]
def S5:dJ 5 k x y g=bw g k:=by simp[dJ]
def S6:dJ 6 k x y g=g:=by simp[dJ]
def S7:dJ 7 k x y g=bw g y:=by simp[dJ]
def S8:gP 6 x g=g:=by simp[gP]
def S9:gP 7 x g=bw g x:=by simp[gP]
def gi(h:z<6):gP z x g=0:=by unfold gP;rw[ag (by omega),ag (by omega)]
end
variable{kind:Int}
section
variable{w:World}{k g:Int}
def HT:() 213 #[kind] w (aL w (g8 kind:Int)):=by
 by_cases b:kind=1\/kind=2\/kind=3\/kind=4\/kind=5\/kind=6\/kind=7
 .rcases b with rfl|rfl|rfl|rfl|rfl|rfl|rfl<;>
  .go_in
   go_wp2_with fail
   go_ret;exact bF
 .have e:g8 kind=0:=by unfold g8;rw[ag Y,ag Y]
  have k1:(kind==1)=false:=by simpa using λh=>b Y
  have k2:(kind==2)=false:=by simpa using λh=>b Y
  have j:(kind==3)=false:=by simpa using λh=>b Y
  have l:(kind==4)=false:=by simpa using λh=>b Y
  have m:(kind==5)=false:=by simpa using λh=>b Y
  have k6:(kind==6)=false:=by simpa using λh=>b Y
  have r:(kind==7)=false:=by simpa using λh=>b Y
  rw[e];clear b e
  go_in
  go_wp2_with fail
  go_ret;exact bF
def vN[I6 x]:() 225 #[x] w (aL w (mX x:Int)):=by
 go_in;go_wp2_with (first|(go_at_call 170;refine(gK).mono ?_;rintro e u ⟨rfl,_⟩)|(go_at_call 171;refine(ma).mono ?_;rintro e u ⟨rfl,_⟩));go_ret;exact bF
def zG3(h:Γ:=by go_in;go_wp2_with (go_at_call 170;refine(gK).mono ?_;rintro e u ⟨rfl,_⟩);go_ret;exact bF):=h
def zG4(h:Γ:=by simpa using λh=>b Y):=h
def zG6(h:Γ:=by go_in;go_wp2_with fail;go_ret;exact bF):=h
def Xi[I6 k][I6 x][I6 y]:() 212 #[kind,k,x,y] w (aL w (fg kind k x y:Int)):=by
 by_cases b:kind=1\/kind=2\/kind=3\/kind=4\/kind=5\/kind=6\/kind=7
 .rcases b with rfl|rfl|rfl|rfl|rfl|rfl|rfl;refine cn (v:=.int .i64 (max x 0)) ?_ (by rw[Xc]);exact zG6;by_cases j:0<x;refine cn (v:=.int .i64 x) ?_ (by rw[Kn,ah Y]);exact zG6;refine cn (v:=.int .i64 (bw x k)) ?_ (by rw[Kn,ag Y]);exact zG3
  .refine cn (v:=.int .i64 (io x (EX 4294967296) 4294967296)) ?_ (by rw[Xd];simp[EX,ik]);go_in;go_wp2_with (first|(go_at_call 224;refine(Qh).mono ?_;rintro e u ⟨rfl,_⟩)|(go_at_call 262;refine(EZ).mono ?_;rintro e u ⟨rfl,_⟩));go_ret;exact bF
  .refine cn (v:=.int .i64 (io (mX x) 0 4294967296)) ?_ (by rw[Xe]);go_in;go_wp2_with (first|(go_at_call 225;refine(vN).mono ?_;rintro e u ⟨rfl,_⟩)|(go_at_call 262;refine(EZ).mono ?_;rintro e u ⟨rfl,_⟩));go_ret;exact bF
  refine cn (v:=.int .i64 (bw x k)) ?_ (by rw[Xf]);exact zG3
  .refine cn (v:=.int .i64 (bB x y)) ?_ (by rw[Xg]);go_in;go_wp2_with (go_at_call 171;refine(ma).mono ?_;rintro e u ⟨rfl,_⟩);go_ret;exact bF
  refine cn (v:=.int .i64 (bw x y)) ?_ (by rw[Xh]);exact zG3
 refine cn (v:=.int .i64 0) ?_ (by unfold fg;repeat rw[ag Y]);have k1:(kind==1)=false:=zG4;have k2:(kind==2)=false:=zG4;have l:(kind==3)=false:=zG4;have m:(kind==4)=false:=zG4;have r:(kind==5)=false:=zG4;have k6:(kind==6)=false:=zG4;have z:(kind==7)=false:=zG4;clear b;exact zG6
def N1:() 224 #[(4294967296:Int)] w (aL w (-4294967296:Int)):=cn Qh (by simp[EX,ik])
def zG8(h:Γ:=by rw[xq,gi ao];repeat (first|rw[ah Y]|rw[ag Y])):=h
def zG9(h:Γ:=by rw[xr,gi ao];repeat (first|rw[ah Y]|rw[ag Y])):=h
def zG0(h:Γ:=by refine cn (v:=.tuple #[.int .i64 (0),.int .i64 (0)]) ?_ zG8;go_in;go_wp2_with (go_at_call 224;refine(N1).mono ?_;rintro e u ⟨rfl,_⟩);go_ret2;exact bF):=h
def zG1(h:Γ:=by refine cn (v:=.tuple #[.int .i64 (0),.int .i64 (0)]) ?_ zG9;go_in;go_wp2_with (go_at_call 225;refine(vN).mono ?_;rintro e u ⟨rfl,_⟩);go_ret2;exact bF):=h
def zG2(h:Γ:=by go_in;go_wp2_with (go_at_call 170;refine(gK).mono ?_;rintro e u ⟨rfl,_⟩);go_ret2;exact bF):=h
def zG5(h:Γ:=by go_in;go_wp2_with fail;go_ret2;exact bF):=h
def zGa(h:Γ:=by rw[Fp,gi ao];repeat (first|rw[ah Y]|rw[ag Y])):=h
def zGb(h:Γ:=by rw[Fq,gi ao];repeat (first|rw[ah Y]|rw[ag Y])):=h
def Fr[I6 k][I6 x][I6 y][I6 g]:() 181 #[kind,k,x,y,g] w (aL w (.tuple #[.int .i64 (dJ kind k x y g),.int .i64 (gP kind x g)])):=by
 by_cases b:kind=1\/kind=2\/kind=3\/kind=4\/kind=5\/kind=6\/kind=7
 .rcases b with rfl|rfl|rfl|rfl|rfl|rfl|rfl
  .by_cases j:0<x
   .refine cn (v:=.tuple #[.int .i64 (g),.int .i64 (0)]) ?_ zGa;exact zG5
   refine cn (v:=.tuple #[.int .i64 (0),.int .i64 (0)]) ?_ zGa;exact zG5
  .by_cases j:0<x
   .refine cn (v:=.tuple #[.int .i64 (g),.int .i64 (0)]) ?_ zGb;exact zG5
   refine cn (v:=.tuple #[.int .i64 (bw g k),.int .i64 (0)]) ?_ zGb;exact zG2
  .by_cases j:x<=-4294967296;exact zG0;by_cases l:4294967296<=x;exact zG0;refine cn (v:=.tuple #[.int .i64 (g),.int .i64 (0)]) ?_ zG8;go_in;go_wp2_with (go_at_call 224;refine(N1).mono ?_;rintro e u ⟨rfl,_⟩);go_ret2;exact bF
  .by_cases j:mX x<=0;exact zG1;by_cases l:4294967296<=mX x;exact zG1;refine cn (v:=.tuple #[.int .i64 (bw g 1073741824),.int .i64 (0)]) ?_ zG9;go_in;go_wp2_with (first|(go_at_call 225;refine(vN).mono ?_;rintro e u ⟨rfl,_⟩)|(go_at_call 170;refine(gK).mono ?_;rintro e u ⟨rfl,_⟩));go_ret2;exact bF
  refine cn (v:=.tuple #[.int .i64 (bw g k),.int .i64 (0)]) ?_ (by rw[S5,gi ao]);exact zG2;refine cn (v:=.tuple #[.int .i64 (g),.int .i64 (g)]) ?_ (by rw[S6,S8]);exact zG5;refine cn (v:=.tuple #[.int .i64 (bw g y),.int .i64 (bw g x)]) ?_ (by rw[S7,S9]);exact zG2
 refine cn (v:=.tuple #[.int .i64 (0),.int .i64 (0)]) ?_ (by unfold dJ gP;repeat rw[ag Y]);have k1:(kind==1)=false:=zG4;have k2:(kind==2)=false:=zG4;have m:(kind==3)=false:=zG4;have r:(kind==4)=false:=zG4;have z:(kind==5)=false:=zG4;have k6:(kind==6)=false:=zG4;have B:(kind==7)=false:=zG4;clear b;exact zG5
end
variable{t:Tn}{A:Option Addr}{c i:Nat}
def km(ts:List Tn):List Int:=(ts[0]?.map (·.zs)).getD []
def Ex(z0:au)(t:Tn):Bool:=aw t.zs t.xs&&decide (t.zs=z0)
def gQ(b:Int)(ts:List Tn):Int:=if g8 b=0 then 21 else if(ts.length:Int)=g8 b then(if ts.all (Ex (km ts))then 0 else 20)else 20
def rF(b:Int):g8 b=0\/g8 b=1\/g8 b=2:=by
 unfold g8;by_cases h:1<=b/\b<=5;rw[ah h];simp;rw[ag h];by_cases e:b=6\/b=7;rw[ah e];simp;rw[ag e];simp
def N2{ts:List Tn}{p:Tn->Bool}{k:Nat}(h:∀j u,j<k->ts[j]?=some u->p u=true)(e:ts[k]?=some t)(ht:p t=true):∀j u,j<k+1->ts[j]?=some u->p u=true:=λj u l hu=>by
 by_cases b:j<k;exact h j u b hu;obtain rfl:j=k:=Y;rw[e]at hu;injection hu with hu;exact hu▸ht
def abh{ts:List Tn}{p:Tn->Bool}{k:Nat}(h:∀j u,j<k->ts[j]?=some u->p u=true)(e:¬k<ts):ts.all p=true:=by
 rw[dL];intro u hu;obtain⟨j,b⟩:=List.mem_iff_getElem?.1 hu;exact h j u (by have:=(bj.1 b).1;omega) b
def Ko{ts:List Tn}{p:Tn->Bool}{k:Nat}(b:ts[k]?=some t)(ht:p t=false):ts.all p=false:=by
 rw[<-Bool.not_eq_true,dL];intro h;have:=h t (aK b);rw[ht]at this;cases this
section
variable{w:World}{n:Nat}{ts:List Tn}
def zG7(h:Γ:=by go_in;go_wp2_with (go_at_call 213;refine(HT).mono ?_;rintro e u ⟨rfl,_⟩);go_ret;exact bF):=h
def zGd(h:Γ:=by simp only[Ex,hr,hs];rfl):=h
def xt[a:Ts w A n ts](G:Z (∀t∈ts,t.zs.length<=1000000)):() 180 #[kind,(A,n,c)] w (aL w (gQ kind ts:Int)):=by
 obtain⟨R,S⟩:=hY;by_cases l:g8 kind=0;refine cn (v:=.int .i64 21) ?_ (by simp[gQ,l]);have I:(g8 kind==0)=true:=by simp[l]
 clear l;exact zG7;have I:(g8 kind==0)=false:=by simp[l]
 by_cases z:(n:Int)=g8 kind;rotate_left;have J:((n:Int) !=g8 kind)=true:=by simp[z]
 refine cn (v:=.int .i64 20) ?_ (by rw[gQ,ag l,ag (by rwa[<-a.len])]);clear l z;exact zG7;have J:((n:Int) !=g8 kind)=false:=by simp[z]
 have E:Z (gQ kind ts=if ts.all (Ex (km ts))then 0 else 20):=U (by rw[gQ,ag l,ah (by rwa[<-a.len])]);have B:0<n/\n<=2:=by rcases rF kind with h|h|h<;>omega
 obtain⟨F,B⟩:=B;clear l z;obtain⟨b,o,T,c0,z0,V,d0,x0,rfl,ob,q0,-,X,-,-,-,C⟩:=a.get F;have r:Z (km ts=z0):=U (by simp[km,C.o]);have L:z0.length<=1000000:=G.o _ (aK C.o);simp only[fo,d9]at q0;go_in;go_wp2_with (go_at_call 213;refine(HT).mono ?_;rintro e u ⟨rfl,_⟩);go_loopw [18] (λi wr=>∃k:Nat,k<=n/\i=.int .i64 k/\Z (∀j u,j<k->ts[j]?=some u->Ex z0 u=true)/\aj wr u) (λi _=>n-(intOf i).toNat);exact⟨0,aR _,rfl,U (λj u hj=>by omega),aC⟩;obtain⟨k,hk,rfl,m,hp⟩:=hrel;by_cases D:k<n
 .obtain⟨b',o',A1,c1,z1,B1,d1,x1,e,M,q1,q2,s1,t1,-,-,ht⟩:=a.get D;injection e with e;injection e with N O;subst N O;have P:z1.length<=1000000:=G.o _ (aK ht.o);rcases hr:aw z1 x1 with _|_
  .go_wp2_with fail;refine aq ap (λy _=>?_);refine eE 0 ?_;refine aJ 1 λK hK=>?_;go_simp;refine(bK Y).mono ?_;rintro e y ⟨rfl,_⟩;dsimp only;refine aE hK ?_;refine qL [2,3,504,505,506,507,508,509,510,511,12] ?_;refine a8 ?_;go_wp2_with fail;go_ret;refine⟨?_,aC⟩;rw[E.o,r.o,Ko ht.o (by simp[Ex,hr])];rfl
  rcases hs:decide (z1=z0)with _|_
  .go_wp2_with fail;refine aq ap (λy _=>?_);refine eE 0 ?_;refine aJ 1 λK hK=>?_;go_simp;refine(bK Y).mono ?_;rintro e y ⟨rfl,_⟩;dsimp only;refine aE hK ?_;refine qL [2,3,4,5,6,7,8,9] ?_;refine aJ 10 λK hK=>?_;go_simp;refine(ga Y Y).mono ?_;rintro e y ⟨rfl,_⟩;dsimp only;refine aE hK ?_;refine qL [11,12] ?_;refine a8 ?_;go_wp2_with fail;go_ret;refine⟨?_,aC⟩;rw[E.o,r.o,Ko ht.o zGd];rfl
  go_wp2_with fail;refine aq ap (λy _=>?_);refine eE 0 ?_;refine aJ 1 λK hK=>?_;go_simp;refine(bK Y).mono ?_;rintro e y ⟨rfl,_⟩;dsimp only;refine aE hK ?_;refine qL [2,3,4,5,6,7,8,9] ?_;refine aJ 10 λK hK=>?_;go_simp;refine(ga Y Y).mono ?_;rintro e y ⟨rfl,_⟩;dsimp only;refine aE hK ?_;refine qL [11,12] ?_;refine a8 ?_;go_wp2_with fail;go_roundw;exact⟨k+1,Y,by go_num,U (N2 m.o ht.o zGd),aC⟩;simp[intOf];omega
 have e:ts.all (Ex z0)=true:=abh m.o (by rwa[<-a.len]);have Q:Z (gQ kind ts=0):=U (by rw[E.o,r.o,e];rfl);clear e;go_wp2_with fail;go_ret;exact⟨by rw[Q.o];rfl,aC⟩
def sec(ts:List Tn)(i:Nat):Int:=(ts[1]?.map λt=>t.xs.getD i 0).getD 0
def uf[a:Ts w A n ts](u:n<=2)(h:Z (∀t,ts[1]?=some t->i<t.xs)):() 182 #[(A,n,c),i] w (aL w (sec ts i:Int)):=by
 by_cases j:n<2;have e:sec ts i=0:=by have:ts[1]?=none:=ej (by rw[<-a.len];omega);simp[sec,this]
 rw[e];clear e;exact zG6;obtain rfl:n=2:=Y;obtain⟨b,o,y,c1,z1,B,d1,x1,rfl,ob,-,C,-,l,-,-,ht⟩:=a.get (k:=1) Y;have hi:=h.o _ ht.o;simp only at hi;obtain⟨D,E,z,rfl,m,F,r⟩:=l.get hi;have e:sec ts i=z:=by simp[sec,ht.o,a5,r.o]
 rw[e];clear e j;exact zG6
end
variable{kk:Int}
def ha(ts:List Tn):List Int:=(ts[0]?.map (·.xs)).getD []
def tn(b k:Int)(ts:List Tn)(m:Nat):List Int:=(List.range m).map λi=>fg b k ((ha ts).getD i 0) (sec ts i)
def nX(b k:Int)(ts:List Tn)(m:Nat):(tn b k ts m).length=m:=by simp[tn]
def Ta(b k:Int)(ts:List Tn)(m:Nat):tn b k ts (m+1)=tn b k ts m++[fg b k ((ha ts).getD m 0) (sec ts m)]:=by simp[tn,iK]
def sT{ts:List Tn}(h:gQ z ts=0):1<=ts.length/\ts.length<=2/\(ts.length:Int)=g8 z/\∀t∈ts,aw t.zs t.xs=true/\t.zs=km ts:=by
 unfold gQ at h;split at h;omega;split at h
 .split at h;rename_i j e b;rw[dL]at b;refine⟨?_,?_,e,λt ht=>?_⟩;rcases rF z with h|h|h<;>omega;rcases rF z with h|h|h<;>omega;have:=b t ht;simpa[Ex]using this;omega
 omega
def BO{ts:List Tn}(h:gQ z ts=0)(ht:t∈ts):t.xs=(ha ts).length:=by
 obtain⟨m,-,-,j⟩:=sT h;obtain⟨t0,l⟩:∃t0,ts[0]?=some t0:=⟨_,bk Y⟩;have a:=j t ht;have b:=j t0 (aK l);have e:ha ts=t0.xs:=by simp[ha,l]
 rw[e];exact sN (a.2▸a.1) (b.2▸b.1)
theorem vO{w:ab}{ts:List Tn}(h:nu w A ts)(i:Nat):I6 (sec ts i):=by
 unfold sec;cases e:ts[1]? with
 |none=>exact(am:I6 0)
 |some t=>
  simp only[pN,sC,a5];cases b:t.xs[i]? with
  |none=>exact(am:I6 0)
  |some z=>obtain⟨_,_,_,k⟩:=h 1 t e;exact⟨k.bd z (aK b)⟩
variable{O:List Int}
def ac9(w:ab)(zs xs:au)(E:Int)(e:Ending)(w':ab):Prop:=
 ∃g b,e=.returned (.tuple #[.agg #[.slice (some ⟨g,0,none⟩) zs zs.length,.slice (some ⟨b,0,none⟩) xs xs.length],E])/\w.1.size<=g/\w.1.size<=b/\Own w' g 3 zs/\Own w' b 65 xs/\aj w' w
section
variable{w:World}{n:Nat}{ts:List Tn}
def N3[a:Ts w A n ts][I6 kk](hz:Z (∀t∈ts,t.zs.length<=1000000))(hE:gQ kind ts=0){X:au}(hZ:Z (O=km ts))(hX:Z (X=tn kind kk ts (ha ts).length)):() 165 #[kind,kk,(A,n,c)] w (ac9 w O X 0):=by
 have CB:=@az;have FB:=@aP;have CP:=@bX;obtain⟨C,D,-,m⟩:=sT hE;rw[<-a.len]at C D;obtain⟨b,o,A0,c0,z0,B0,d0,x0,rfl,ob,q0,q1,s0,t0,oM,i0,r⟩:=a.get (k:=0) C;simp only[fo,d9]at q0 q1;have E:=(m _ (aK r.o)).1;obtain⟨lx,I,lz⟩:=gO E;simp only at lx I lz;have y:Z (ha ts=x0):=U (by simp[ha,r.o]);have J:Z (km ts=z0):=U (by simp[km,r.o]);have HS:Z (∀i,i<x0.length->∀t,ts[1]?=some t->i<t.xs.length):=λi hi t ht=>by rwa[BO hE (aK ht),y.o]
 have HI:=U λi=>vO a.rd i;clear m E;go_in;go_wp2_with (go_at_call 180;refine(xt hz).mono ?_;rintro e u ⟨rfl,_⟩);refine(gX Y Y).mono ?_;rintro e w1 ⟨g,j,rfl,hg,F,oS,L,xo⟩;go_wp2_with fail;have n1:w1≠j:=by have:=L.lt;omega
 have n2:g≠j:=oS.aF (cs:=ints x0) L ao;go_loopw [28] (λi wr=>∃k:Nat,k<=x0/\i=.int .i64 k/\Own wr j 65 (fd (tn kind kk ts) x0 k)/\Own wr g 3 z0/\Bx wr w1.1.size 28 #[.slice g z0 z0.length,.slice j x0 x0.length]/\aj wr u) (λi _=>x0.length-(intOf i).toNat);exact⟨0,aR _,rfl,by simpa[fd,tn]using L.at,oS.at,am,aC⟩;obtain⟨k,hk,rfl,hO,hS,hB,hp⟩:=hrel;by_cases B:k<x0
 .obtain⟨b2,M,x,rfl,iM,cx,G⟩:=t0.get B;have ix:I6 x:=cm.at G.o;have iy:=HI.o k;have N:=mU (f:=tn kind kk ts) (nX kind kk ts k) G.o;have P:=U (kK (f:=tn kind kk ts) (z:=fg kind kk x (sec ts k)) (nX kind kk ts k) (by rw[Ta,y.o,a5,G.o];rfl) G.o);have Q:=U (HS.o k B);go_wp2_with fail;refine aU u (λw9=>Bx w9 w1.1.size 28 #[.slice g z0 z0.length,.slice j x0 x0.length]) ap am (λl _=>?_);refine br 0 ?_;refine br 1 ?_;refine br 2 ?_;refine br 3 ?_;refine br 4 ?_;refine br 5 ?_;refine br 6 ?_;refine br 7 ?_;refine aJ 8 λK hK=>?_;go_simp;refine(uf D Q).mono ?_;rintro e l ⟨rfl,_⟩;dsimp only;refine aE hK ?_ ⟨aG u _,am⟩;refine aJ 9 λK hK=>?_;go_simp;refine(Xi).mono ?_;rintro e l ⟨rfl,_⟩;dsimp only;refine aE hK ?_ ⟨aG u _,am⟩;refine br 10 ?_;refine aJ 11 λK hK=>?_;have R:=((hO).at (w':=l)).cell N;have S:=((hO).at (w':=l)).frozen k;go_simp;refine aE hK ?_ ⟨⟨(aO u l).setCell (p:=⟨j,k,none⟩) F _⟩,⟨(Bx.ak (w:=l)).aV n1 _⟩⟩;clear hK K R S;refine a8 ?_;go_wp2_with fail;go_roundw;have M:=(hO.at (w':=l)).av k (fg kind kk x (sec ts k));rw[P.o]at M;exact⟨k+1,Y,by go_num,M,(hS.at (w':=l)).aV n2 _,⟨(Bx.ak (w:=l)).aV n1 _⟩,⟨(aO u l).setCell (p:=⟨j,k,none⟩) F _⟩⟩;simp[intOf];omega
 rw[mo B]at hO;obtain rfl:k=x0:=Y;have V:=U hO;clear hO;have T:Bx wr w.1.size 28 #[(),()]:=am;have l1:=hS.aF T.ak ao;have l2:=V.o.aF T.ak ao;go_wp2_with fail;have k3:=T.ak.bP (.slice g z0 z0.length) (.slice j x0 x0.length);have B3:=bA (aO w wr) (p:=w.1.size) (al _) (.slice g z0 z0.length) (.slice j x0 x0.length);have o3:=hS.bH l1 (.slice g z0 z0.length) (.slice j x0 x0.length);have o4:=V.o.bH l2 (.slice g z0 z0.length) (.slice j x0 x0.length);obtain⟨r0,r1⟩:=bM k3;refine aZ (v:=.tuple #[.agg #[.slice g z0 z0.length,.slice j x0 x0.length],an]) (by simp[results,results165,go_sem,r0,r1]) rfl ?_;rw[hX.o,hZ.o,y.o,J.o];exact⟨_,_,by rw[nX],by have:=ai (w:=w) (w':=u);omega,by have:=ai (w:=w) (w':=u);omega,o3,o4,⟨B3⟩⟩
end
variable{S:Int}{xs:List Int}{B D:Option Addr}{d e m:Nat}
def aeH(f:CF)(ws xs V:au):Prop:=
 (xs=[(f.C:Int),(f.W:Int)]/\ws=[(f.O:Int),(f.C:Int),(f.L:Int)]/\V=[(f.O:Int),(f.N:Int)]/\f.K=1/\f.H=1/\f.M=1)\/
  (xs=[(f.C:Int),(f.H:Int),(f.W:Int)]/\ws=[(f.O:Int),(f.C:Int),(f.K:Int),(f.L:Int)]/\V=[(f.O:Int),(f.M:Int),(f.N:Int)])
structure nY(f:CF)(ws xs V:List Int)(S:Int):Prop where
 ok:By f
 is:aeH f ws xs V
 s:S=(f.S:Int)
 w:aB ws=((f.O*(f.C*(f.K*f.L)):Nat):Int)
 x:aB xs=((f.C*(f.H*f.W):Nat):Int)
 v:aB V=((f.O*(f.M*f.N):Nat):Int)
 vr:aH V=true
 HV:f.K<=1024/\f.L<=1024/\f.H<=1024/\f.W<=1024
 agt:lb (f.H:Int) (f.K:Int) (if ws.length=3 then 1 else f.S:Int)=(f.M:Int)
 agu:lb (f.W:Int) (f.L:Int) (f.S:Int)=(f.N:Int)
def hc(h:1<=z/\z<=1024):∃n:Nat,z=(n:Int)/\1<=n/\n<=1024:=⟨z.toNat,Y,Y,Y⟩
def rG{ws:au}(h:oO ws xs S=0):∃f,nY f ws xs (qY ws xs S) S:=by
 have hV:qY ws xs S=tE ws xs S:=by rw[qY,ah h]
 unfold oO at h;split at h
 .rename_i hp;split at h
  .rename_i E;split at h;rename_i hr;simp only[rx,bU,b9]at hp;obtain⟨⟨⟨⟨⟨X,h2⟩,h3⟩,h4⟩,R⟩,F⟩:=hp;obtain⟨-,-,Eg,wpr⟩:=(ba ws).1 X;obtain⟨-,-,l,xpr⟩:=(ba xs).1 h2;obtain⟨-,-,vin,r⟩:=(ba _).1 hr;rw[ry,dL]at E;by_cases hx:xs.length=2;obtain⟨x0,x1,rfl⟩:∃x0 x1,xs=[x0,x1]:=by
    match xs,hx with
    |[x0,x1],_=>exact⟨x0,x1,rfl⟩
   obtain⟨b,w1,w2,rfl⟩:∃b w1 w2,ws=[b,w1,w2]:=by
    match ws,R with
    |[b,w1,w2],_=>exact⟨b,w1,w2,rfl⟩
   simp at F;subst F;obtain⟨O,rfl,o1,o2⟩:=hc (bW Eg (z:=b) aI);obtain⟨C,rfl,c1,c2⟩:=hc (bW Eg (z:=w1) aI);obtain⟨L,rfl,l1,G⟩:=hc (bW Eg (z:=w2) aI);obtain⟨W,rfl,v1,I⟩:=hc (bW l (z:=x1) aI);(have u:f8 (W:Int) (L:Int) S=true:=by have:=E 0 (by simp);simpa[oN]using this);have m:=u;simp only[f8,bU,b9,pO]at m;obtain⟨y,rfl⟩:=bO (show 0<=S by omega);obtain⟨N,e,n1,-,s1,-,s2,-,fit,-,-⟩:=sO u;(have j:tE [(O:Int),C,L] [(C:Int),W] y=[(O:Int),N]:=by simp[tE,j1,e]);rw[hV,j];rw[j]at hr r;(have pw:aB [(O:Int),(C:Int),(L:Int)]=((O*(C*(1*L)):Nat):Int):=by simp[aB,mr]);(have J:aB [(C:Int),(W:Int)]=((C*(1*W):Nat):Int):=by simp[aB]);have pv:aB [(O:Int),(N:Int)]=((O*(1*N):Nat):Int):=by simp[aB]
   refine⟨⟨O,C,1,L,1,W,1,N,y⟩,⟨⟨λi hi=>by
    simp only at hi⊢;obtain rfl:i=0:=Y;simp,fit,?_,?_,?_,o1,c1,al _,l1,al _,n1,s2⟩,.inl ⟨rfl,rfl,rfl,rfl,rfl,rfl⟩,rfl,?_,?_,?_,hr,⟨show 1<=1024 by omega,G,show 1<=1024 by omega,I⟩,by simp[lb,f8],e⟩⟩
   simp only;omega;simp only;omega;simp only;omega;exact pw;exact J;exact pv;have P:xs.length=3:=Y;obtain⟨x0,x1,x2,rfl⟩:∃x0 x1 x2,xs=[x0,x1,x2]:=by
    match xs,P with
    |[x0,x1,x2],_=>exact⟨x0,x1,x2,rfl⟩
   obtain⟨b,w1,w2,w3,rfl⟩:∃b w1 w2 w3,ws=[b,w1,w2,w3]:=by
    match ws,R with
    |[b,w1,w2,w3],_=>exact⟨b,w1,w2,w3,rfl⟩
   simp at F;subst F;obtain⟨O,rfl,o1,o2⟩:=hc (bW Eg (z:=b) aI);obtain⟨C,rfl,c1,c2⟩:=hc (bW Eg (z:=w1) aI);obtain⟨K,rfl,k1,k2⟩:=hc (bW Eg (z:=w2) aI);obtain⟨L,rfl,l1,G⟩:=hc (bW Eg (z:=w3) aI);obtain⟨H,rfl,h1',Q⟩:=hc (bW l (z:=x1) aI);obtain⟨W,rfl,v1,I⟩:=hc (bW l (z:=x2) aI);(have hh:f8 (H:Int) (K:Int) S=true:=by have:=E 0 (by simp);simpa[oN]using this);(have u:f8 (W:Int) (L:Int) S=true:=by have:=E 1 (by simp);simpa[oN]using this);have m:=u;simp only[f8,bU,b9,pO]at m;obtain⟨y,rfl⟩:=bO (show 0<=S by omega);obtain⟨M,T,m1,-,-,-,-,-,B,-,-⟩:=sO hh;obtain⟨N,V,n1,-,s1,-,s2,-,D,-,-⟩:=sO u;(have j:tE [(O:Int),C,K,L] [(C:Int),H,W] y=[(O:Int),M,N]:=by simp[tE,j1,T,V,iK]);rw[hV,j];rw[j]at hr r;(have pw:aB [(O:Int),(C:Int),(K:Int),(L:Int)]=((O*(C*(K*L)):Nat):Int):=by simp[aB,mr]);(have J:aB [(C:Int),(H:Int),(W:Int)]=((C*(H*W):Nat):Int):=by simp[aB,mr]);(have pv:aB [(O:Int),(M:Int),(N:Int)]=((O*(M*N):Nat):Int):=by simp[aB,mr]);refine⟨⟨O,C,K,L,H,W,M,N,y⟩,⟨⟨B,D,?_,?_,?_,o1,c1,k1,l1,m1,n1,s2⟩,.inr ⟨rfl,rfl,rfl⟩,rfl,?_,?_,?_,hr,⟨k2,G,Q,I⟩,by simpa using T,V⟩⟩;simp only;omega;simp only;omega;simp only;omega;exact pw;exact J;exact pv;omega
  omega
 omega
section
variable{w:World}{n k:Nat}{ws V:List Int}
def Tc{f:CF}[a:Sl w A n ws][b:Sl w B m xs][g:Sl w D k V][lc:Le n c][ld:Le m d][le:Le k e](z:Z (nY f ws xs V S)):() 220 #[(A,n,c),(B,m,d),(D,k,e),S] w (aL w (vI f)):=by
 obtain⟨O,C,K,L,H,W,M,N,Q⟩:=f;obtain⟨E,j,F,l⟩:=z.o.HV;have hs:=z.o.s;have G:=lc.le;have hd:=ld.le;have I:=le.le;have r:=a.len;have u:=b.len;have y:=g.len;rcases z.o.is with⟨rfl,rfl,rfl,J,P,hm⟩|⟨rfl,rfl,rfl⟩;simp only at J P hm hs E j F l;subst J P hm hs;simp at r u y;subst r u y;exact JX G hd I j l;simp only at hs E j F l;subst hs;simp at r u y;subst r u y;exact HA G hd I E j F l
def tG[Sl w A n ws][Sl w B m xs][Le n c][Le m d](j:n<=1000000)(hm:m<=1000000){f:CF}(hE:Z (oO ws xs S=0))(hV:Z (qY ws xs S=V))(b:Z (nY f ws xs V S)):
  () 172 #[(A,n,c),(B,m,d),S] w (aL w (.func (.func 221) #[vI f] #[])):=by
 go_in;go_wp2_with (first|(go_at_call 126;refine(sR Y Y hE hV).mono ?_;rintro e u ⟨l,r,rfl,y,z,C,_⟩)|(go_at_call 220;refine(Tc b).mono ?_;rintro e u ⟨rfl,_⟩));go_ret;exact bF
end
section
variable{ops:Array Oper}{l:Nat}{P:Program}{Q:Exit->Act->World->Prop}{a:Act}{K:Act->World->Prop}
def mY(b:Array Oper):Bool:=b.all λo=>match o.op with
 |.defer _=>false
 |_=>true
def Kq(h:mY ops=true){o:Oper}(hi:ops[i]?=some o):∀c,o.op≠.defer c:=by
 intro c b;unfold mY at h;rw[Array.all_eq_true]at h;obtain⟨e,rfl⟩:=fY.1 hi;have:=h i e;rw[b]at this;cases this
section
variable{n:Nat}
def Kr{o:Oper}{w:ab}(hd:∀c,o.op≠.defer c)(h:o.wp P a w K Q):o.wpIn (Fence.wide.inRound l) n P a w K Q:=by
 refine⟨λ_ _=>bq,?_⟩;unfold Oper.wp at h;rw[show Oper.semAt (Fence.wide.inRound l).round a.eval o=execOp a.eval o from Oper.semAt_some l _ o hd];generalize(execOp a.eval o).run P w=r at*;cases r with
 |ok x w'=>cases x<;>simp only[Oper.upon]at h<;>simp only[Oper.uponIn];(case value=>exact h);(case skip=>exact h);(case defer=>exact h);(case enter=>exact⟨(λh=>by simp[Fence.wide]at h),CallsIn.inRound l (callsIn_wide.2 h)⟩);case row=>exact⟨(λh=>by simp[Fence.wide]at h),λc cs _=>let⟨v,w',r,s⟩:=h c cs;⟨v,w',r,stepsIn_wide.2 s⟩⟩
 |halt x w'=>cases x<;>simp only[Oper.upon]at h<;>simp only[Oper.uponIn]<;>exact h
def BP(hd:mY ops=true)(hq:¬LetsOut Q){w:ab}{j:Act->World->Prop}(hK:∀a w,K a w->j a w)(h:wpOp P ops Q i K a w):wpOpIn (Fence.wide.inRound l) n P ops Q i j a w:=by
 unfold wpOp at h;unfold wpOpIn;split;rename_i e;rw[e]at h;exact hK _ _ h;rename_i o e;rw[e]at h;simp only at h;split;rename_i b;rw[ah b]at h;rcases h with h|⟨-,h⟩;exact Oper.wpIn_mono hK (Kr (Kq hd e) h);exact absurd h hq;rename_i b;rw[ag b]at h;exact⟨λ_ _=>bq,hK _ _ h⟩
def qf{b:Region.Mode}(hd:mY ops=true)(hq:¬LetsOut Q):∀(fuel:Nat) (listed:Array Bool) (a:Act) (w:ab),wpAny P b ops Q fuel listed a w->wpAnyIn (Fence.wide.inRound l) n P b ops Q fuel listed a w
 |0,_,_,_,h=>h
 |fuel+1,_,_,_,h=>⟨h.1,λi hi=>BP hd hq (λa w=>qf hd hq fuel _ a w) (h.2 i hi)⟩
def zn{id:Nat}{w:ab}(X:ab)(hm:P.follows .mixedOrders=true)(hd:mY ops=true)(hq:¬LetsOut Q)
  (h:∀u,aj u w->wpAnyH P .any ops Q (λw'=>aj w' X) ops.size (Array.replicate ops.size false) a u):(Code.region id ops true).wpIn (Fence.wide.inRound l) n P Q a w:=
 wpIn_region_any hm (qf hd hq _ _ _ _ (wpAny_of_held _ _ _ _ (h _ (aj.drew w))))
def xu{id:Nat}{w:ab}(hm:P.follows .mixedOrders=true)(hd:mY ops=true)(hq:¬LetsOut Q)
  (h:∀u,aj u w->wpAnyH P .any ops Q (λw'=>aj w' w) ops.size (Array.replicate ops.size false) a u):(Code.region id ops true).wpIn (Fence.wide.inRound l) n P Q a w:=zn w hm hd hq h
def it{id:Nat}{w:ab}(X:ab)(R:World->Prop)(hm:P.follows .mixedOrders=true)(hd:mY ops=true)(hq:¬LetsOut Q)
  (h:∀u,aj u w->wpAnyH P .any ops Q (λw'=>aj w' X/\R w') ops.size (Array.replicate ops.size false) a u):(Code.region id ops true).wpIn (Fence.wide.inRound l) n P Q a w:=
 wpIn_region_any hm (qf hd hq _ _ _ _ (wpAny_of_held _ _ _ _ (h _ (aj.drew w))))
end
end
def Aj(ws xs L:au)(x:gZ):List Int:=L.set x.1 (bB (L.getD x.1 0) (bw (ws.getD x.2.1 0) (xs.getD x.2.2 0)))
def fV(ws xs:au)(N:Nat)(b:List gZ):List Int:=b.foldl (Aj ws xs) (List.replicate N 0)
def Ak(gs xs L:au)(x:gZ):List Int:=L.set x.2.1 (bB (L.getD x.2.1 0) (bw (gs.getD x.1 0) (xs.getD x.2.2 0)))
def eI(gs xs:au)(N:Nat)(b:List gZ):List Int:=b.foldl (Ak gs xs) (List.replicate N 0)
def Al(gs ws L:au)(x:gZ):List Int:=L.set x.2.2 (bB (L.getD x.2.2 0) (bw (gs.getD x.1 0) (ws.getD x.2.1 0)))
def eJ(gs ws:au)(N:Nat)(b:List gZ):List Int:=b.foldl (Al gs ws) (List.replicate N 0)
section
variable{us vs L:List Int}{N:Nat}{pre:List gZ}{x:gZ}
def HW:fV us vs N (pre++[x])=Aj us vs (fV us vs N pre) x:=by simp[fV]
def HX:eI us vs N (pre++[x])=Ak us vs (eI us vs N pre) x:=by simp[eI]
def HY:eJ us vs N (pre++[x])=Al us vs (eJ us vs N pre) x:=by simp[eJ]
theorem sU(f:List Int->gZ->List Int)(h:∀L x,(f L x).length=L.length):∀(pre:List gZ) (L:au),(pre.foldl f L).length=L.length
 |[],_=>rfl
 |x::pre,L=>by rw[uF,sU f h pre,h]
def vP(f:List Int->gZ->List Int)(h:∀L x,(∀z∈L,bf z)->∀z∈f L x,bf z):∀(pre:List gZ) (L:au),(∀z∈L,bf z)->∀z∈pre.foldl f L,bf z
 |[],_,hL=>hL
 |x::pre,L,hL=>by rw[uF];exact vP f h pre _ (h L x hL)
theorem HZ{L:au}{k:Nat}{v:Int}(hL:∀z∈L,bf z)(hv:bf v):∀z∈L.set k v,bf z:=ay
def xy:∀z∈List.replicate N (0:Int),bf z:=λz b=>by
 obtain⟨-,rfl⟩:=List.mem_replicate.1 b;unfold bf;omega
theorem n5:(fV us vs N pre).length=N:=by grind [fV,sU,Aj]
theorem n6:(eI us vs N pre).length=N:=by grind [eI,sU,Ak]
theorem n7:(eJ us vs N pre).length=N:=by grind [eJ,sU,Al]
def BQ:∀z∈fV us vs N pre,bf z:=vP _ (λ_ _ h=>HZ h (hW _ _)) _ _ xy
def ug:∀z∈eI us vs N pre,bf z:=vP _ (λ_ _ h=>HZ h (hW _ _)) _ _ xy
def uh:∀z∈eJ us vs N pre,bf z:=vP _ (λ_ _ h=>HZ h (hW _ _)) _ _ xy
end
variable{C:Option Addr}{R c' cx d' m':Nat}{xw xx zw zx:List Int}
section
open Go.RowKit Go.Shelf
attribute [local go_sem] Oper.semAt_some
section
variable{w:World}{n:Nat}
def GoI(w:ab)(g e j:Nat)(zw xw zx xx V:au)(A B C D:bz)(c d c' d' N:Nat)(b:List gZ)(W:ab):Prop:=
 Own W e 65 (fV xw xx N b)/\Own W g 3 V/\aA W j 28 #[.slice g V V.length,(e,N,N)]/\
  aA W w.1.size 28 #[.slice A zw c,.slice B xw d]/\aA W (w.1.size+1) 28 #[.slice C zx c',.slice D xx d']/\aA W (w.1.size+1+1) 28 #[(),()]/\Below w.1.size w W
def zGc(h:Γ:=by rintro⟨_,_,h⟩;exact h):=h
def N4[a:Sl w A n zw][b:Sl w B m xw][a':Sl w C R zx][b':Sl w D m' xx][cm xw][cm xx][Le n c][Le R cx](hn:n<=1000000)(HU:R<=1000000){V X:au}{f:CF}
  (h1:aw zw xw=true) (h2:aw zx xx=true) (hE:Z (oO zw zx S=0)) (hV:Z (qY zw zx S=V)) (J:Z (nY f zw zx V S)) (hX:Z (X=fV xw xx (f.O*(f.M*f.N)) f.all)):
  () 160 #[.agg #[.slice A n c,(B,m,d)],.agg #[(C,R,cx),(D,m',d')],S] w (dM w V X 0):=by
 obtain⟨CB,CP,FB⟩:=gW;have W4:=J.o.vr;obtain⟨N,hN⟩:=lh (f.O*(f.M*f.N));have SQ:Z (aB V=(N:Int)):=U (by rw[J.o.v,hN]);have hV4:V.length<=1000000:=by have:=((ba V).1 W4).2.1;omega
 have kH:Z (By f):=J.o.ok;have Jz:xw.length=f.O*(f.C*(f.K*f.L)):=by have h:=((aS _ _).1 h1).2;rw[J.o.w]at h;omega
 have jY:xx.length=f.C*(f.H*f.W):=by have h:=((aS _ _).1 h2).2;rw[J.o.x]at h;omega
 have HB:Z (∀x∈f.all,x.1<N/\x.2.1<xw.length/\x.2.2<xx.length):=λx hx=>by rw[<-hN,Jz,jY];exact QD J.o.ok hx
 have hw6:xw.length<=65536:=by rw[Jz];exact J.o.ok.ow
 have Bm:xx.length<=65536:=by rw[jY];exact J.o.ok.ox
 rw[hN]at hX;obtain⟨a,rfl⟩:=a;have a:Sl w A zw zw:=⟨a,rfl⟩;obtain⟨b,rfl⟩:=b;have b:Sl w B xw xw:=⟨b,rfl⟩;obtain⟨a',rfl⟩:=a';have a':Sl w C zx zx:=⟨a',rfl⟩;obtain⟨b',rfl⟩:=b';have b':Sl w D xx xx:=⟨b',rfl⟩;have Bf:0<xw.length:=by have:=(gO h1).2.1;omega
 have Ey:0<xx.length:=by have:=(gO h2).2.1;omega
 obtain⟨bb,ob,_,rfl,obb,-,-⟩:=b.get (k:=0) Bf;obtain⟨bd,od,_,rfl,obd,-,-⟩:=b'.get (k:=0) Ey;clear hN Jz jY;refine(callsIn_wide (n:=3)).1<|callsIn_of_wp_marks func160 rfl bq ?_;simp only[ntmps160,i9,fD,ja,Nat.reduceAdd,Nat.reduceSub,Array.replicate_succ,Array.replicate_zero,List.push_toArray,List.append_toArray,jN,uZ];gi_wp2_with (first|(refine⟨bq,?_⟩;gi_at_call 69;refine(callsIn_wide.2 (bK Y)).mono ?_;rintro e u ⟨rfl,_⟩)|(refine⟨bq,?_⟩;gi_at_call 126;refine(callsIn_wide.2 (sR Y Y hE hV)).mono ?_;rintro e u ⟨A',c',rfl,sJ,lJ,fJ,_⟩));obtain⟨ua,rfl⟩:=lg u;gi_wp2_with (refine⟨bq,?_⟩;gi_at_call 62;refine(callsIn_wide.2 (Fm Y W4 SQ)).mono ?_;rintro e u ⟨g,j,rfl,hg,y7,oS,oX,xo⟩);obtain⟨w1,rfl⟩:=lg u;gi_wp2_with (refine⟨bq,?_⟩;gi_at_call 172;refine(callsIn_wide.2 (tG Y Y hE hV J)).mono ?_;rintro e u ⟨rfl,_⟩);obtain⟨w2,rfl⟩:=lg u;have ru:w<=g:=aQ (ai (w:=w) (w':=ua)) hg;have G:w<=j:=aQ (ai (w:=w) (w':=ua)) y7;have kO:Bx w2 w1.1.size 28 #[.slice g V V.length,.slice j N N]:=am;have kW:Bx w2 w.1.size 28 #[.slice A zw c,.slice (some ⟨bb,ob,none⟩) xw d]:=am;have kX:Bx w2 (w.1.size+1) 28 #[.slice C zx cx,.slice (some ⟨bd,od,none⟩) xx d']:=am;have kR:Bx w2 (w.1.size+1+1) 28 #[(),()]:=am;have b2:=aO w w2;have I0:GoI w g j w1.1.size zw xw zx xx V A (some ⟨bb,ob,none⟩) C (some ⟨bd,od,none⟩) c d cx d' N [] w2:=⟨oX.at,oS.at,kO.ak,kW.ak,kX.ak,kR.ak,b2⟩
 refine Fi (gf:=221) (fb:= #[vI f]) (lb:= #[]) (α:=gZ) rfl (enters_of func221 ap rfl) (Bz f kH w2) (aY _ _) (λ_=>rfl) (GoI w g j w1.1.size zw xw zx xx V A (some ⟨bb,ob,none⟩) C (some ⟨bd,od,none⟩) c d cx d' N) (λ_ _ _=>False)
  ?firm (λ_=>c5.none_) I0 ?acts (λx W=>W.alloc (.cells #[.int .i64 x.1,.int .i64 x.2.1,.int .i64 x.2.2] 267)) (λx n W=>aA W n 267 #[.int .i64 x.1,.int .i64 x.2.1,.int .i64 x.2.2]) (λ_ _=>eX _ _) (λ_ _=>aA.new _ _ _)
  (λx n W l o o' h ho hc=>(c5.ak (B:=0) (λ(_:Unit)=>n) 267 (λ_=>_)).iY () W l o o' h (aR _) ho hc) ?assign ?body ?done (λ_ _ _ _ _ _ h=>h.elim)
 case firm=>exact(c5.own (λ_=>j) _ (fV xw xx N)).and ((c5.own (λ_=>g) _ (λ_=>V)).and ((c5.ak (λ_=>w1.1.size) _ (λ_=>_)).and ((c5.ak (λ_=>w.1.size) _ (λ_=>_)).and ((c5.ak (λ_=>w.1.size+1) _ (λ_=>_)).and ((c5.ak (λ_=>w.1.size+1+1) _ (λ_=>_)).and (c5.below (al _) b2.size))))))
 case assign=>intro l x W K hK;simp only[vJ];gi_wp2;exact hK
 case body=>
  rintro l P ⟨x1,x2,x3⟩ W0 W ⟨F,iS,Q,T,H0,r,bW⟩ ⟨post,hT⟩ vp Jp hA;dsimp only at hA⊢;obtain⟨qU,tr,Ks⟩:=HB.o (x1,x2,x3) (by rw[hT];simp);simp only at qU tr Ks;have pW:aj W w:=⟨bW⟩;have qO:Bx W w1.1.size 28 #[.slice g V V.length,.slice j N N]:=⟨Q⟩;have qW:Bx W w.1.size 28 #[.slice A zw c,.slice (some ⟨bb,ob,none⟩) xw d]:=⟨T⟩;have qX:Bx W (w.1.size+1) 28 #[.slice C zx cx,.slice (some ⟨bd,od,none⟩) xx d']:=⟨H0⟩;have qA:Bx W W0.1.size 267 #[x1,x2,x3]:=⟨hA⟩;obtain⟨y,hy⟩:∃y,xw[x2]?=some y:=⟨_,bk tr⟩;obtain⟨z,hz⟩:∃z,xx[x3]?=some z:=⟨_,bk Ks⟩;obtain⟨o,ho⟩:∃o,(fV xw xx N P)[x1]?=some o:=⟨_,bk (by rwa[n5])⟩;have cy:=b.rd.all hy;have cz:=b'.rd.all hz;have iy:I6 y:=cm.at hy;have iz:I6 z:=cm.at hz;have io:I6 o:=⟨BQ o (aK ho)⟩;have hco:=F.cell ho;have og:Old j W:=⟨F.lt⟩;have Kk:Z ((fV xw xx N P).set x1 (bB o (bw y z))=fV xw xx N (P++[(x1,x2,x3)])):=U (by
   rw[HW,Aj];simp only;rw[a5,ho,a5,hy,a5,hz];rfl)
  (have oH:j<w2+2:=by have:=oX.lt;have:=ai (w:=w1) (w':=w2);omega);have n0:W0≠j:=Y;(have n1:w1≠j:=by have:=oX.lt;omega);have HO:=U ho;clear hy hz;gi_wp2;refine xu ap ap zGc (λv1 _=>?_);refine qL [0,1,2,3,4,5,6,7,8,9,10,11] ?_;refine aJ 12 λK hK=>?_;go_simp;refine(gK).mono ?_;rintro e v1 ⟨rfl,_⟩;dsimp only;refine aE hK ?_;refine eE 13 ?_;refine a8 ?_;gi_wp2;refine it w (λw9=>Bx w9 w1.1.size 28 #[.slice g V V.length,.slice j N N]/\Bx w9 W0.1.size 267 #[x1,x2,x3]) ap ap zGc (λE _=>?_);refine bp 0 ?_;refine bp 1 ?_;refine bp 2 ?_;refine bp 3 ?_;refine bp 4 ?_;refine bp 5 ?_;refine bp 6 ?_;refine bp 7 ?_;refine bp 8 ?_;refine bp 10 ?_;refine aJ 9 λK hK=>?_;go_simp;refine aE hK ?_ ⟨aG w _,⟨am,am⟩⟩;refine aJ 11 λK hK=>?_;go_simp;refine(ma).mono ?_;rintro e E ⟨rfl,_⟩;dsimp only;refine aE hK ?_ ⟨aG w _,⟨am,am⟩⟩;refine bp 12 ?_;refine aJ 13 λK hK=>?_;have oD:=((F).at (w':=E)).cell HO;have o6:=((F).at (w':=E)).frozen x1;go_simp;refine aE hK ?_ ⟨⟨(aO w E).setCell (p:=⟨j,x1,none⟩) G _⟩,⟨⟨(Bx.ak (w:=E)).aV n1 _⟩,⟨(Bx.ak (w:=E)).aV n0 _⟩⟩⟩;clear hK K oD o6;refine a8 ?_;gi_wp2
  have o2:=(F.at (w':=E)).av x1 (bB o (bw y z));rw[Kk.o]at o2;have ne1:g≠j:=iS.aF (cs:=ints (fV xw xx N P)) F ao;have n2:=F.aF T ao;have n3:=F.aF H0 ao;have n4:=F.aF r ao;exact⟨h9 (gh (aO W E)) _ _,(dg.below (aO W E)).trans (dg.av (p:=⟨j,x1,none⟩) _ oH),
   o2,(iS.at (w':=E)).aV (p:=⟨j,x1,none⟩) ne1 _,(Q.at (w':=E)).aV (p:=⟨j,x1,none⟩) n1 _,(T.at (w':=E)).aV (p:=⟨j,x1,none⟩) (dp n2) _,(H0.at (w':=E)).aV (p:=⟨j,x1,none⟩) (dp n3) _,
   (r.at (w':=E)).aV (p:=⟨j,x1,none⟩) (dp n4) _,(aO w E).setCell (p:=⟨j,x1,none⟩) G _⟩
 case done=>rintro D xs W hD rfl ⟨F,iS,Q,T,H0,r,bW⟩ hK;have qO:Bx W w1.1.size 28 #[.slice g V V.length,.slice j N N]:=⟨Q⟩;have qR:Bx W (w.1.size+1+1) 28 #[(),()]:=⟨r⟩;have pW:aj W w:=⟨bW⟩;have HO:=U F;clear F;gi_wp2;have I:=(KeepsOthers.setCell (W.setCell (w.1.size+1+1,0) (.slice g V V.length)) ⟨w.1.size+1+1,1,none⟩ (.slice j N N)).same D _ ((KeepsOthers.setCell W ⟨w.1.size+1+1,0,none⟩ (.slice g V V.length)).same D _ hK rfl) rfl;refine⟨aI,.inl ⟨_,_,rfl,run_takeDeferred I,?_⟩⟩;have l1:=iS.aF r ao;have l2:=HO.o.aF r ao;have k2:=aA.bP r (.slice g V V.length) (.slice j N N);have o2:=iS.bH l1 (.slice g V V.length) (.slice j N N);have o3:=HO.o.bH l2 (.slice g V V.length) (.slice j N N);have b3:=bA bW (p:=w.1.size+1+1) Y (.slice g V V.length) (.slice j N N);have k4:=(c5.ak (B:=0) (λ(_:Unit)=>w.1.size+1+1) 28 (λ_=>_)).iY () _ D _ (.deferred none) k2 (aR _) I rfl;have o4:=(c5.own (B:=0) (λ(_:Unit)=>g) 3 (λ_=>V)).iY () _ D _ (.deferred none) o2 (aR _) I rfl;have o5:=(c5.own (B:=0) (λ(_:Unit)=>j) 65 (λ_=>fV xw xx N f.all)).iY () _ D _ (.deferred none) o3 (aR _) I rfl;have b4:=(c5.below (β:=Unit) (w:=w) (al _) b2.size).iY () _ D _ (.deferred none) b3 hD I rfl;have c0:=k4.cell 0;have c1:=k4.cell 1;generalize((W.setCell (w.1.size+1+1,0) (.slice g V V.length)).setCell (w.1.size+1+1,1) (.slice j N N)).putObj D (.deferred none)=W3 at*;refine⟨.tuple #[.agg #[.slice g V V.length,.slice j N N],an],by simp[results,results160,go_sem,c0,c1],?_⟩;exact⟨_,_,_,_,by rw[hX.o,n5],⟨o4.rd,rfl⟩,⟨by rw[hX.o];exact o5.rd,rfl⟩,⟨al _⟩,⟨by rw[hX.o,n5];exact al _⟩,⟨λad e=>by cases e;exact ru⟩,⟨λad e=>by cases e;exact G⟩,⟨b4⟩⟩
end
end
