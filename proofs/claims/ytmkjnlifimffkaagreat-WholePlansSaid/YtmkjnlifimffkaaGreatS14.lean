/- Lemmas. -/
import Derived.Test.YtmkjnlifimffkaaGreatS11
namespace Go.Proofs.YtmkjnlifimffkaaGreat
open Go.RowKit Tryz
set_option linter.all false
set_option maxRecDepth 100000
set_option maxHeartbeats 0
variable{Γ:Prop}
attribute[local irreducible]Calls
variable{E x y z:Int}
def g7(b:Int):Int:=if 1<=b/\b<=5 then 1 else if b=6\/b=7 then 2 else 0
def mI(x:Int):Int:=bQ (bN x 1073741824) 2147483648
def fh(b k x y:Int):Int:=
 if b=1 then max x 0
 else if b=2 then(if 0<x then x else bN x k)
 else if b=3 then im x (-4294967296) 4294967296
 else if b=4 then im (mI x) 0 4294967296
 else if b=5 then bN x k
 else if b=6 then bQ x y
 else if b=7 then bN x y
 else 0
def dI(b k x y g:Int):Int:=
 if b=1 then(if 0<x then g else 0)
 else if b=2 then(if 0<x then g else bN g k)
 else if b=3 then(if-4294967296<x/\x<4294967296 then g else 0)
 else if b=4 then(if 0<mI x/\mI x<4294967296 then bN g 1073741824 else 0)
 else if b=5 then bN g k
 else if b=6 then g
 else if b=7 then bN g y
 else 0
def gP(b x g:Int):Int:=if b=6 then g else if b=7 then bN g x else 0
def zS{low high:Int}(b:bb x)(e:bb low)(j:bb high):bb (im x low high):=by
 unfold im;split;exact j;split;exact e;exact b
def q5:bb 1073741824:=⟨am,am⟩
def Pp(x:Int):bb (mI x):=hW _ _
def Pq{k:Int}(j:bb k)(e:bb x)(l:bb y):bb (fh z k x y):=by
 have m:bb (max x 0):=by obtain⟨a,b⟩:=e;constructor<;>omega
 unfold fh;repeat' split
 all_goals first|exact m|exact e|exact hT e j|exact hT e l|exact hW _ _|exact zS e ⟨am,am⟩ ⟨am,am⟩|exact zS (Pp x) ⟨am,am⟩ ⟨am,am⟩|exact⟨am,am⟩
def Lf{k g:Int}(b:bb k)(e:bb y)(hg:bb g):bb (dI E k x y g):=by
 have z:bb 0:=⟨am,am⟩;unfold dI;repeat' split
 all_goals first|exact hg|exact z|exact hT hg b|exact hT hg e|exact hT hg q5
def Lg{g:Int}(b:bb x)(hg:bb g):bb (gP y x g):=by
 have z:bb 0:=⟨am,am⟩;unfold gP;repeat' split
 all_goals first|exact hg|exact z|exact hT hg b
variable{k g:Int}
def Tw:fh 1 k x y=max x 0:=by simp[fh]
def Ia:fh 2 k x y=if 0<x then x else bN x k:=by simp[fh]
def Tx:fh 3 k x y=im x (-4294967296) 4294967296:=by simp[fh]
def Ty:fh 4 k x y=im (mI x) 0 4294967296:=by simp[fh]
def Tz:fh 5 k x y=bN x k:=by simp[fh]
def TA:fh 6 k x y=bQ x y:=by simp[fh]
def TB:fh 7 k x y=bN x y:=by simp[fh]
def Dg:dI 1 k x y g=if 0<x then g else 0:=by simp[dI]
def Dh:dI 2 k x y g=if 0<x then g else bN g k:=by simp[dI]
def vG:dI 3 k x y g=if-4294967296<x/\x<4294967296 then g else 0:=by simp[dI]
def vH:dI 4 k x y g=if 0<mI x/\mI x<4294967296 then bN g 1073741824 else 0:=by simp[dI]
def Pr:dI 5 k x y g=bN g k:=by simp[dI]
def Ps:dI 6 k x y g=g:=by simp[dI]
def Pt:dI 7 k x y g=bN g y:=by simp[dI]
def Pu:gP 6 x g=g:=by simp[gP]
def Pv:gP 7 x g=bN g x:=by simp[gP]
def gb(h:z<6):gP z x g=0:=by unfold gP;rw[ag (by omega),ag (by omega)]
variable{w:World}{kind:Int}
def FW:() 213 #[kind] w (aJ w (g7 kind:Int)):=by
 by_cases b:kind=1\/kind=2\/kind=3\/kind=4\/kind=5\/kind=6\/kind=7
 .rcases b with rfl|rfl|rfl|rfl|rfl|rfl|rfl<;>
  .go_in
   go_wp2_with fail
   go_ret;exact bB
 .have e:g7 kind=0:=by unfold g7;rw[ag om,ag om]
  have k1:(kind==1)=false:=by simpa using λh=>b om
  have k2:(kind==2)=false:=by simpa using λh=>b om
  have j:(kind==3)=false:=by simpa using λh=>b om
  have l:(kind==4)=false:=by simpa using λh=>b om
  have m:(kind==5)=false:=by simpa using λh=>b om
  have k6:(kind==6)=false:=by simpa using λh=>b om
  have r:(kind==7)=false:=by simpa using λh=>b om
  rw[e];clear b e
  go_in
  go_wp2_with fail
  go_ret;exact bB
def uw[I6 x]:() 225 #[x] w (aJ w (mI x:Int)):=by
 go_in;go_wp2_with (first|(go_at_call 170;refine(ip).mono ?_;rintro e u ⟨rfl,_⟩)|(go_at_call 171;refine(pi).mono ?_;rintro e u ⟨rfl,_⟩));go_ret;exact bB
def xO3(h:Γ:=by go_in;go_wp2_with (go_at_call 170;refine(ip).mono ?_;rintro e u ⟨rfl,_⟩);go_ret;exact bB):=h
def xO4(h:Γ:=by simpa using λh=>b om):=h
def xO6(h:Γ:=by go_in;go_wp2_with fail;go_ret;exact bB):=h
def TC[I6 k][I6 x][I6 y]:() 212 #[kind,k,x,y] w (aJ w (fh kind k x y:Int)):=by
 by_cases b:kind=1\/kind=2\/kind=3\/kind=4\/kind=5\/kind=6\/kind=7
 .rcases b with rfl|rfl|rfl|rfl|rfl|rfl|rfl;refine cu (v:=.int .i64 (max x 0)) ?_ (by rw[Tw]);exact xO6;by_cases j:0<x;refine cu (v:=.int .i64 x) ?_ (by rw[Ia,ah om]);exact xO6;refine cu (v:=.int .i64 (bN x k)) ?_ (by rw[Ia,ag om]);exact xO3
  .refine cu (v:=.int .i64 (im x (CR 4294967296) 4294967296)) ?_ (by rw[Tx];simp[CR,il]);go_in;go_wp2_with (first|(go_at_call 224;refine(M1).mono ?_;rintro e u ⟨rfl,_⟩)|(go_at_call 262;refine(CT).mono ?_;rintro e u ⟨rfl,_⟩));go_ret;exact bB
  .refine cu (v:=.int .i64 (im (mI x) 0 4294967296)) ?_ (by rw[Ty]);go_in;go_wp2_with (first|(go_at_call 225;refine(uw).mono ?_;rintro e u ⟨rfl,_⟩)|(go_at_call 262;refine(CT).mono ?_;rintro e u ⟨rfl,_⟩));go_ret;exact bB
  refine cu (v:=.int .i64 (bN x k)) ?_ (by rw[Tz]);exact xO3
  .refine cu (v:=.int .i64 (bQ x y)) ?_ (by rw[TA]);go_in;go_wp2_with (go_at_call 171;refine(pi).mono ?_;rintro e u ⟨rfl,_⟩);go_ret;exact bB
  refine cu (v:=.int .i64 (bN x y)) ?_ (by rw[TB]);exact xO3
 refine cu (v:=.int .i64 0) ?_ (by unfold fh;repeat rw[ag om]);have k1:(kind==1)=false:=xO4;have k2:(kind==2)=false:=xO4;have l:(kind==3)=false:=xO4;have m:(kind==4)=false:=xO4;have r:(kind==5)=false:=xO4;have k6:(kind==6)=false:=xO4;have z:(kind==7)=false:=xO4;clear b;exact xO6
def Lh:() 224 #[(4294967296:Int)] w (aJ w (-4294967296:Int)):=cu M1 (by simp[CR,il])
def xO8(h:Γ:=by rw[vG,gb am];repeat (first|rw[ah om]|rw[ag om])):=h
def xO9(h:Γ:=by rw[vH,gb am];repeat (first|rw[ah om]|rw[ag om])):=h
def xO0(h:Γ:=by refine cu (v:=.tuple #[.int .i64 (0),.int .i64 (0)]) ?_ xO8;go_in;go_wp2_with (go_at_call 224;refine(Lh).mono ?_;rintro e u ⟨rfl,_⟩);go_ret2;exact bB):=h
def xO1(h:Γ:=by refine cu (v:=.tuple #[.int .i64 (0),.int .i64 (0)]) ?_ xO9;go_in;go_wp2_with (go_at_call 225;refine(uw).mono ?_;rintro e u ⟨rfl,_⟩);go_ret2;exact bB):=h
def xO2(h:Γ:=by go_in;go_wp2_with (go_at_call 170;refine(ip).mono ?_;rintro e u ⟨rfl,_⟩);go_ret2;exact bB):=h
def xO5(h:Γ:=by go_in;go_wp2_with fail;go_ret2;exact bB):=h
def xOa(h:Γ:=by rw[Dg,gb am];repeat (first|rw[ah om]|rw[ag om])):=h
def xOb(h:Γ:=by rw[Dh,gb am];repeat (first|rw[ah om]|rw[ag om])):=h
def Di[I6 k][I6 x][I6 y][I6 g]:() 181 #[kind,k,x,y,g] w (aJ w (.tuple #[.int .i64 (dI kind k x y g),.int .i64 (gP kind x g)])):=by
 by_cases b:kind=1\/kind=2\/kind=3\/kind=4\/kind=5\/kind=6\/kind=7
 .rcases b with rfl|rfl|rfl|rfl|rfl|rfl|rfl
  .by_cases j:0<x
   .refine cu (v:=.tuple #[.int .i64 (g),.int .i64 (0)]) ?_ xOa;exact xO5
   refine cu (v:=.tuple #[.int .i64 (0),.int .i64 (0)]) ?_ xOa;exact xO5
  .by_cases j:0<x
   .refine cu (v:=.tuple #[.int .i64 (g),.int .i64 (0)]) ?_ xOb;exact xO5
   refine cu (v:=.tuple #[.int .i64 (bN g k),.int .i64 (0)]) ?_ xOb;exact xO2
  .by_cases j:x<=-4294967296;exact xO0;by_cases l:4294967296<=x;exact xO0;refine cu (v:=.tuple #[.int .i64 (g),.int .i64 (0)]) ?_ xO8;go_in;go_wp2_with (go_at_call 224;refine(Lh).mono ?_;rintro e u ⟨rfl,_⟩);go_ret2;exact bB
  .by_cases j:mI x<=0;exact xO1;by_cases l:4294967296<=mI x;exact xO1;refine cu (v:=.tuple #[.int .i64 (bN g 1073741824),.int .i64 (0)]) ?_ xO9;go_in;go_wp2_with (first|(go_at_call 225;refine(uw).mono ?_;rintro e u ⟨rfl,_⟩)|(go_at_call 170;refine(ip).mono ?_;rintro e u ⟨rfl,_⟩));go_ret2;exact bB
  refine cu (v:=.tuple #[.int .i64 (bN g k),.int .i64 (0)]) ?_ (by rw[Pr,gb am]);exact xO2;refine cu (v:=.tuple #[.int .i64 (g),.int .i64 (g)]) ?_ (by rw[Ps,Pu]);exact xO5;refine cu (v:=.tuple #[.int .i64 (bN g y),.int .i64 (bN g x)]) ?_ (by rw[Pt,Pv]);exact xO2
 refine cu (v:=.tuple #[.int .i64 (0),.int .i64 (0)]) ?_ (by unfold dI gP;repeat rw[ag om]);have k1:(kind==1)=false:=xO4;have k2:(kind==2)=false:=xO4;have m:(kind==3)=false:=xO4;have r:(kind==4)=false:=xO4;have z:(kind==5)=false:=xO4;have k6:(kind==6)=false:=xO4;have B:(kind==7)=false:=xO4;clear b;exact xO5
variable{c i k n:Nat}{t:Tn}{A:Option Addr}
def ka(ts:List Tn):List Int:=(ts[0]?.map (·.zs)).getD []
def Cq(z0:au)(t:Tn):Bool:=ap t.zs t.xs&&decide (t.zs=z0)
def gQ(b:Int)(ts:List Tn):Int:=if g7 b=0 then 21 else if(ts.length:Int)=g7 b then(if ts.all (Cq (ka ts))then 0 else 20)else 20
def qM(b:Int):g7 b=0\/g7 b=1\/g7 b=2:=by
 unfold g7;by_cases h:1<=b/\b<=5;rw[ah h];simp;rw[ag h];by_cases e:b=6\/b=7;rw[ah e];simp;rw[ag e];simp
def Li{ts:List Tn}{p:Tn->Bool}(h:∀j u,j<k->ts[j]?=some u->p u=true)(e:ts[k]?=some t)(ht:p t=true):∀j u,j<k+1->ts[j]?=some u->p u=true:=λj u l hu=>by
 by_cases b:j<k;exact h j u b hu;obtain rfl:j=k:=om;rw[e]at hu;injection hu with hu;exact hu▸ht
def X2{ts:List Tn}{p:Tn->Bool}(h:∀j u,j<k->ts[j]?=some u->p u=true)(e:¬k<ts):ts.all p=true:=by
 rw[dz];intro u hu;obtain⟨j,b⟩:=List.mem_iff_getElem?.1 hu;exact h j u (by have:=(a8.1 b).1;omega) b
def Ib{ts:List Tn}{p:Tn->Bool}(b:ts[k]?=some t)(ht:p t=false):ts.all p=false:=by
 rw[<-Bool.not_eq_true,dz];intro h;have:=h t (aC b);rw[ht]at this;cases this
section
variable{ts:List Tn}
def xO7(h:Γ:=by go_in;go_wp2_with (go_at_call 213;refine(FW).mono ?_;rintro e u ⟨rfl,_⟩);go_ret;exact bB):=h
def xOc(h:Γ:=by simp only[Cq,hr,hs];rfl):=h
def vI[a:Ts w A n ts](G:Hx (∀t∈ts,t.zs.length<=1000000)):() 180 #[kind,(A,n,c)] w (aJ w (gQ kind ts:Int)):=by
 obtain⟨R,S⟩:=kU;by_cases l:g7 kind=0;refine cu (v:=.int .i64 21) ?_ (by simp[gQ,l]);have I:(g7 kind==0)=true:=by simp[l]
 clear l;exact xO7;have I:(g7 kind==0)=false:=by simp[l]
 by_cases z:(n:Int)=g7 kind;rotate_left;have J:((n:Int) !=g7 kind)=true:=by simp[z]
 refine cu (v:=.int .i64 20) ?_ (by rw[gQ,ag l,ag (by rw[<-a.len];exact z)]);clear l z;exact xO7;have J:((n:Int) !=g7 kind)=false:=by simp[z]
 have E:Hx (gQ kind ts=if ts.all (Cq (ka ts))then 0 else 20):=ae (by rw[gQ,ag l,ah (by rw[<-a.len];exact z)]);have B:0<n/\n<=2:=by rcases qM kind with h|h|h<;>omega
 obtain⟨F,B⟩:=B;clear l z;obtain⟨b,o,T,c0,z0,U,d0,x0,rfl,ob,q0,-,V,-,-,-,C⟩:=a.get F;have r:Hx (ka ts=z0):=ae (by simp[ka,C.o]);have L:z0.length<=1000000:=G.o _ (aC C.o);simp only[e6,ef]at q0;go_in;go_wp2_with (go_at_call 213;refine(FW).mono ?_;rintro e u ⟨rfl,_⟩);go_loopw [18] (λi wr=>∃k:Nat,k<=n/\i=.int .i64 k/\Hx (∀j u,j<k->ts[j]?=some u->Cq z0 u=true)/\aj wr u) (λi _=>n-(intOf i).toNat);exact⟨0,aM _,rfl,ae (λj u X=>by omega),aF⟩;obtain⟨k,Y,rfl,m,hp⟩:=hrel;by_cases D:k<n
 .obtain⟨Z,o',A1,c1,z1,B1,d1,x1,e,M,q1,q2,s1,t1,-,-,ht⟩:=a.get D;injection e with e;injection e with N O;subst N O;have P:z1.length<=1000000:=G.o _ (aC ht.o);rcases hr:ap z1 x1 with _|_
  .go_wp2_with fail;refine aw ao (λy _=>?_);refine ff 0 ?_;refine aK 1 λK hK=>?_;go_simp;refine(bD om).mono ?_;rintro e y ⟨rfl,_⟩;dsimp only;refine aG hK ?_;refine qL [2,3,504,505,506,507,508,509,510,511,12] ?_;refine a9 ?_;go_wp2_with fail;go_ret;refine⟨?_,aF⟩;rw[E.o,r.o,Ib ht.o (by simp[Cq,hr])];rfl
  rcases hs:decide (z1=z0)with _|_
  .go_wp2_with fail;refine aw ao (λy _=>?_);refine ff 0 ?_;refine aK 1 λK hK=>?_;go_simp;refine(bD om).mono ?_;rintro e y ⟨rfl,_⟩;dsimp only;refine aG hK ?_;refine qL [2,3,4,5,6,7,8,9] ?_;refine aK 10 λK hK=>?_;go_simp;refine(f9 om om).mono ?_;rintro e y ⟨rfl,_⟩;dsimp only;refine aG hK ?_;refine qL [11,12] ?_;refine a9 ?_;go_wp2_with fail;go_ret;refine⟨?_,aF⟩;rw[E.o,r.o,Ib ht.o xOc];rfl
  go_wp2_with fail;refine aw ao (λy _=>?_);refine ff 0 ?_;refine aK 1 λK hK=>?_;go_simp;refine(bD om).mono ?_;rintro e y ⟨rfl,_⟩;dsimp only;refine aG hK ?_;refine qL [2,3,4,5,6,7,8,9] ?_;refine aK 10 λK hK=>?_;go_simp;refine(f9 om om).mono ?_;rintro e y ⟨rfl,_⟩;dsimp only;refine aG hK ?_;refine qL [11,12] ?_;refine a9 ?_;go_wp2_with fail;go_roundw;exact⟨k+1,om,by go_num,ae (Li m.o ht.o xOc),aF⟩;simp[intOf];omega
 have e:ts.all (Cq z0)=true:=X2 m.o (by rw[<-a.len];exact D);have Q:Hx (gQ kind ts=0):=ae (by rw[E.o,r.o,e];rfl);clear e;go_wp2_with fail;go_ret;exact⟨by rw[Q.o];rfl,aF⟩
def sec(ts:List Tn)(i:Nat):Int:=(ts[1]?.map λt=>t.xs.getD i 0).getD 0
def s3[a:Ts w A n ts](u:n<=2)(h:Hx (∀t,ts[1]?=some t->i<t.xs)):() 182 #[(A,n,c),i] w (aJ w (sec ts i:Int)):=by
 by_cases j:n<2;have e:sec ts i=0:=by have:ts[1]?=none:=fc (by rw[<-a.len];omega);simp[sec,this]
 rw[e];clear e;exact xO6;obtain rfl:n=2:=om;obtain⟨b,o,y,c1,z1,B,d1,x1,rfl,ob,-,C,-,l,-,-,ht⟩:=a.get (k:=1) om;have hi:=h.o _ ht.o;simp only at hi;obtain⟨D,E,z,rfl,m,F,r⟩:=l.get hi;have e:sec ts i=z:=by simp[sec,ht.o,aQ,r.o]
 rw[e];clear e j;exact xO6
end
variable{kk:Int}
def g8(ts:List Tn):List Int:=(ts[0]?.map (·.xs)).getD []
def sg(b k:Int)(ts:List Tn)(m:Nat):List Int:=(List.range m).map λi=>fh b k ((g8 ts).getD i 0) (sec ts i)
def ny(b k:Int)(ts:List Tn)(m:Nat):(sg b k ts m).length=m:=by simp[sg]
def Pw(b k:Int)(ts:List Tn)(m:Nat):sg b k ts (m+1)=sg b k ts m++[fh b k ((g8 ts).getD m 0) (sec ts m)]:=by simp[sg,g5]
def rQ{ts:List Tn}(h:gQ z ts=0):1<=ts.length/\ts.length<=2/\(ts.length:Int)=g7 z/\∀t∈ts,ap t.zs t.xs=true/\t.zs=ka ts:=by
 unfold gQ at h;split at h;omega;split at h
 .split at h;rename_i j e b;rw[dz]at b;refine⟨?_,?_,e,λt ht=>?_⟩;rcases qM z with h|h|h<;>omega;rcases qM z with h|h|h<;>omega;have:=b t ht;simpa[Cq]using this;omega
 omega
def zT{ts:List Tn}(h:gQ z ts=0)(ht:t∈ts):t.xs=(g8 ts).length:=by
 obtain⟨m,-,-,j⟩:=rQ h;obtain⟨t0,l⟩:∃t0,ts[0]?=some t0:=⟨_,a5 om⟩;have a:=j t ht;have b:=j t0 (aC l);have e:g8 ts=t0.xs:=by simp[g8,l]
 rw[e];exact rK (a.2▸a.1) (b.2▸b.1)
theorem ux{ts:List Tn}(h:m3 w A ts)(i:Nat):I6 (sec ts i):=by
 unfold sec;cases e:ts[1]? with
 |none=>exact(aq:I6 0)
 |some t=>
  simp only[yq,tB,aQ];cases b:t.xs[i]? with
  |none=>exact(aq:I6 0)
  |some z=>obtain⟨_,_,_,k⟩:=h 1 t e;exact⟨k.bd z (aC b)⟩
variable{V:List Int}
def aaH(w:aa)(zs xs:au)(E:Int)(e:Ending)(w':aa):Prop:=
 ∃g b,e=.returned (.tuple #[.agg #[.slice (some ⟨g,0,none⟩) zs zs.length,.slice (some ⟨b,0,none⟩) xs xs.length],E])/\w.1.size<=g/\w.1.size<=b/\Own w' g 3 zs/\Own w' b 65 xs/\aj w' w
section
variable{ts:List Tn}
def Lj[a:Ts w A n ts][I6 kk](Y:Hx (∀t∈ts,t.zs.length<=1000000))(hE:gQ kind ts=0){X:au}(hZ:Hx (V=ka ts))(hX:Hx (X=sg kind kk ts (g8 ts).length)):() 165 #[kind,kk,(A,n,c)] w (aaH w V X 0):=by
 have CB:=@ay;have FB:=@aO;have CP:=@bW;obtain⟨C,D,-,m⟩:=rQ hE;rw[<-a.len]at C D;obtain⟨b,o,A0,c0,z0,B0,d0,x0,rfl,ob,q0,q1,s0,t0,oK,i0,r⟩:=a.get (k:=0) C;simp only[e6,ef]at q0 q1;have E:=(m _ (aC r.o)).1;obtain⟨lx,I,lz⟩:=gO E;simp only at lx I lz;have y:Hx (g8 ts=x0):=ae (by simp[g8,r.o]);have J:Hx (ka ts=z0):=ae (by simp[ka,r.o]);have HS:Hx (∀i,i<x0.length->∀t,ts[1]?=some t->i<t.xs.length):=λi hi t ht=>by rw[zT hE (aC ht),y.o];exact hi
 have HI:=ae λi=>ux a.rd i;clear m E;go_in;go_wp2_with (go_at_call 180;refine(vI Y).mono ?_;rintro e u ⟨rfl,_⟩);refine(gW om om).mono ?_;rintro e L ⟨g,j,rfl,hg,F,oS,M,vD⟩;go_wp2_with fail;have n1:L≠j:=by have:=M.lt;omega
 have n2:g≠j:=oS.aH (cs:=ints x0) M am;go_loopw [28] (λi wr=>∃k:Nat,k<=x0/\i=.int .i64 k/\Own wr j 65 (e2 (sg kind kk ts) x0 k)/\Own wr g 3 z0/\Bx wr L.1.size 28 #[.slice g z0 z0.length,.slice j x0 x0.length]/\aj wr u) (λi _=>x0.length-(intOf i).toNat);exact⟨0,aM _,rfl,by simpa[e2,sg]using M.at,oS.at,aq,aF⟩;obtain⟨k,hk,rfl,hO,hS,hB,hp⟩:=hrel;by_cases B:k<x0
 .obtain⟨b2,N,x,rfl,jU,cx,G⟩:=t0.get B;have ix:I6 x:=cv.at G.o;have iy:=HI.o k;have O:=mG (f:=sg kind kk ts) (ny kind kk ts k) G.o;have P:=ae (kx (f:=sg kind kk ts) (z:=fh kind kk x (sec ts k)) (ny kind kk ts k) (by rw[Pw,y.o,aQ,G.o];rfl) G.o);have Q:=ae (HS.o k B);go_wp2_with fail;refine a6 u (λw9=>Bx w9 L.1.size 28 #[.slice g z0 z0.length,.slice j x0 x0.length]) ao aq (λl _=>?_);refine bR 0 ?_;refine bR 1 ?_;refine bR 2 ?_;refine bR 3 ?_;refine bR 4 ?_;refine bR 5 ?_;refine bR 6 ?_;refine bR 7 ?_;refine aK 8 λK hK=>?_;go_simp;refine(s3 D Q).mono ?_;rintro e l ⟨rfl,_⟩;dsimp only;refine aG hK ?_ ⟨aR u _,aq⟩;refine aK 9 λK hK=>?_;go_simp;refine(TC).mono ?_;rintro e l ⟨rfl,_⟩;dsimp only;refine aG hK ?_ ⟨aR u _,aq⟩;refine bR 10 ?_;refine aK 11 λK hK=>?_;have R:=((hO).at (w':=l)).cell O;have S:=((hO).at (w':=l)).frozen k;go_simp;refine aG hK ?_ ⟨⟨(aP u l).setCell (p:=⟨j,k,none⟩) F _⟩,⟨(Bx.ak (w:=l)).aY n1 _⟩⟩;clear hK K R S;refine a9 ?_;go_wp2_with fail;go_roundw;have N:=(hO.at (w':=l)).av k (fh kind kk x (sec ts k));rw[P.o]at N;exact⟨k+1,om,by go_num,N,(hS.at (w':=l)).aY n2 _,⟨(Bx.ak (w:=l)).aY n1 _⟩,⟨(aP u l).setCell (p:=⟨j,k,none⟩) F _⟩⟩;simp[intOf];omega
 rw[mc B]at hO;obtain rfl:k=x0:=om;have U:=ae hO;clear hO;have T:Bx wr w.1.size 28 #[(),()]:=aq;have l1:=hS.aH T.ak am;have l2:=U.o.aH T.ak am;go_wp2_with fail;have k3:=T.ak.bP (.slice g z0 z0.length) (.slice j x0 x0.length);have B3:=br (aP w wr) (p:=w.1.size) (al _) (.slice g z0 z0.length) (.slice j x0 x0.length);have o3:=hS.bA l1 (.slice g z0 z0.length) (.slice j x0 x0.length);have o4:=U.o.bA l2 (.slice g z0 z0.length) (.slice j x0 x0.length);obtain⟨r0,r1⟩:=bI k3;refine aX (v:=.tuple #[.agg #[.slice g z0 z0.length,.slice j x0 x0.length],an]) (by simp[results,results165,go_sem,r0,r1]) rfl ?_;rw[hX.o,hZ.o,y.o,J.o];exact⟨_,_,by rw[ny],by have:=ai (w:=w) (w':=u);omega,by have:=ai (w:=w) (w':=u);omega,o3,o4,⟨B3⟩⟩
end
end Go.Proofs.YtmkjnlifimffkaaGreat
