/- Lemmas. -/
import Derived.Test.YtmkjnlifimffkaaGreatF11
namespace Go.Proofs.YtmkjnlifimffkaaGreat
open Go.RowKit Tryz
set_option linter.all false
set_option maxRecDepth 100000
set_option maxHeartbeats 0
variable{x y z:Int}
def f6(b:Int):Int:=if 1<=b/\b<=5 then 1 else if b=6\/b=7 then 2 else 0
def kZ(x:Int):Int:=cA (ch x 1073741824) 2147483648
def eO(b k x y:Int):Int:=
 if b=1 then max x 0
 else if b=2 then(if 0<x then x else ch x k)
 else if b=3 then gY x (-4294967296) 4294967296
 else if b=4 then gY (kZ x) 0 4294967296
 else if b=5 then ch x k
 else if b=6 then cA x y
 else if b=7 then ch x y
 else 0
def dw(b k x y g:Int):Int:=
 if b=1 then(if 0<x then g else 0)
 else if b=2 then(if 0<x then g else ch g k)
 else if b=3 then(if-4294967296<x/\x<4294967296 then g else 0)
 else if b=4 then(if 0<kZ x/\kZ x<4294967296 then ch g 1073741824 else 0)
 else if b=5 then ch g k
 else if b=6 then g
 else if b=7 then ch g y
 else 0
def fN(b x g:Int):Int:=if b=6 then g else if b=7 then ch g x else 0
def xJ{low high:Int}(b:bo x)(e:bo low)(j:bo high):bo (gY x low high):=by
 unfold gY;split
 .exact j
 .split
  .exact e
  .exact b
def q5:bo 1073741824:=⟨ak,ak⟩
def MU(x:Int):bo (kZ x):=jI _ _
def MV{k:Int}(j:bo k)(e:bo x)(l:bo y):bo (eO z k x y):=by
 have m:bo (max x 0):=by obtain⟨a,b⟩:=e;constructor<;>omega
 unfold eO
 repeat' split
 all_goals first|exact m|exact e|exact gG e j|exact gG e l|exact jI _ _|exact xJ e ⟨ak,ak⟩ ⟨ak,ak⟩|exact xJ (MU x) ⟨ak,ak⟩ ⟨ak,ak⟩|exact⟨ak,ak⟩
def ID{k g:Int}(b:bo k)(e:bo y)(hg:bo g):bo (dw z k x y g):=by
 have j:bo 0:=⟨ak,ak⟩;unfold dw
 repeat' split
 all_goals first|exact hg|exact j|exact gG hg b|exact gG hg e|exact gG hg q5
def IE{g:Int}(b:bo x)(hg:bo g):bo (fN z x g):=by
 have e:bo 0:=⟨ak,ak⟩;unfold fN
 repeat' split
 all_goals first|exact hg|exact e|exact gG hg b
section
variable{k g:Int}
def Qx:eO 1 k x y=max x 0:=by simp[eO]
def Fv:eO 2 k x y=if 0<x then x else ch x k:=by simp[eO]
def Qy:eO 3 k x y=gY x (-4294967296) 4294967296:=by simp[eO]
def Qz:eO 4 k x y=gY (kZ x) 0 4294967296:=by simp[eO]
def QA:eO 5 k x y=ch x k:=by simp[eO]
def QB:eO 6 k x y=cA x y:=by simp[eO]
def QC:eO 7 k x y=ch x y:=by simp[eO]
def AU:dw 1 k x y g=if 0<x then g else 0:=by simp[dw]
def AV:dw 2 k x y g=if 0<x then g else ch g k:=by simp[dw]
def tG:dw 3 k x y g=if-4294967296<x/\x<4294967296 then g else 0:=by simp[dw]
def tH:dw 4 k x y g=if 0<kZ x/\kZ x<4294967296 then ch g 1073741824 else 0:=by simp[dw]
def MW:dw 5 k x y g=ch g k:=by simp[dw]
def MX:dw 6 k x y g=g:=by simp[dw]
def MY:dw 7 k x y g=ch g y:=by simp[dw]
def MZ:fN 6 x g=g:=by simp[fN]
def M0:fN 7 x g=ch g x:=by simp[fN]
def fn(h:z<6):fN z x g=0:=by unfold fN;rw[ag (by omega),ag (by omega)]
end
variable{kind:Int}
section
variable{w:World}{k g:Int}
def Dm:() 213 #[kind] w (aD w (f6 kind:Int)):=by
 by_cases b:kind=1\/kind=2\/kind=3\/kind=4\/kind=5\/kind=6\/kind=7
 .rcases b with rfl|rfl|rfl|rfl|rfl|rfl|rfl<;>
  .go_in
   go_wp2_with fail
   go_ret;exact bq
 .have e:f6 kind=0:=by unfold f6;rw[ag om,ag om]
  have k1:(kind==1)=false:=by simpa using λh=>b om
  have k2:(kind==2)=false:=by simpa using λh=>b om
  have k3:(kind==3)=false:=by simpa using λh=>b om
  have k4:(kind==4)=false:=by simpa using λh=>b om
  have j:(kind==5)=false:=by simpa using λh=>b om
  have k6:(kind==6)=false:=by simpa using λh=>b om
  have l:(kind==7)=false:=by simpa using λh=>b om
  rw[e];clear b e
  go_in
  go_wp2_with fail
  go_ret;exact bq
def sD[I6 x]:() 225 #[x] w (aD w (kZ x:Int)):=by
 go_in
 go_wp2_with (first|(go_at_call 170;(with_reducible refine(lY).mono ?_);rintro e u ⟨rfl,_⟩)|(go_at_call 171;(with_reducible refine(wt).mono ?_);rintro e u ⟨rfl,_⟩))
 go_ret;exact bq
def QD[I6 k][I6 x][I6 y]:() 212 #[kind,k,x,y] w (aD w (eO kind k x y:Int)):=by
 by_cases b:kind=1\/kind=2\/kind=3\/kind=4\/kind=5\/kind=6\/kind=7
 .rcases b with rfl|rfl|rfl|rfl|rfl|rfl|rfl
  .refine bZ (v:=.int .i64 (max x 0)) ?_ (by rw[Qx])
   go_in
   go_wp2_with fail
   go_ret;exact bq
  .by_cases j:0<x
   .refine bZ (v:=.int .i64 x) ?_ (by rw[Fv,ah om])
    go_in
    go_wp2_with fail
    go_ret;exact bq
   .refine bZ (v:=.int .i64 (ch x k)) ?_ (by rw[Fv,ag om])
    go_in
    go_wp2_with (go_at_call 170;(with_reducible refine(lY).mono ?_);rintro e u ⟨rfl,_⟩)
    go_ret;exact bq
  .refine bZ (v:=.int .i64 (gY x (Ay 4294967296) 4294967296)) ?_ (by rw[Qy];simp[Ay,gX])
   go_in
   go_wp2_with (first|(go_at_call 224;(with_reducible refine(Kz).mono ?_);rintro e u ⟨rfl,_⟩)|(go_at_call 262;(with_reducible refine(AA).mono ?_);rintro e u ⟨rfl,_⟩))
   go_ret;exact bq
  .refine bZ (v:=.int .i64 (gY (kZ x) 0 4294967296)) ?_ (by rw[Qz])
   go_in
   go_wp2_with (first|(go_at_call 225;(with_reducible refine(sD).mono ?_);rintro e u ⟨rfl,_⟩)|(go_at_call 262;(with_reducible refine(AA).mono ?_);rintro e u ⟨rfl,_⟩))
   go_ret;exact bq
  .refine bZ (v:=.int .i64 (ch x k)) ?_ (by rw[QA])
   go_in
   go_wp2_with (go_at_call 170;(with_reducible refine(lY).mono ?_);rintro e u ⟨rfl,_⟩)
   go_ret;exact bq
  .refine bZ (v:=.int .i64 (cA x y)) ?_ (by rw[QB])
   go_in
   go_wp2_with (go_at_call 171;(with_reducible refine(wt).mono ?_);rintro e u ⟨rfl,_⟩)
   go_ret;exact bq
  .refine bZ (v:=.int .i64 (ch x y)) ?_ (by rw[QC])
   go_in
   go_wp2_with (go_at_call 170;(with_reducible refine(lY).mono ?_);rintro e u ⟨rfl,_⟩)
   go_ret;exact bq
 .refine bZ (v:=.int .i64 0) ?_ (by unfold eO;repeat rw[ag om]);have k1:(kind==1)=false:=by simpa using λh=>b om
  have k2:(kind==2)=false:=by simpa using λh=>b om
  have k3:(kind==3)=false:=by simpa using λh=>b om
  have k4:(kind==4)=false:=by simpa using λh=>b om
  have l:(kind==5)=false:=by simpa using λh=>b om
  have k6:(kind==6)=false:=by simpa using λh=>b om
  have m:(kind==7)=false:=by simpa using λh=>b om
  clear b
  go_in
  go_wp2_with fail
  go_ret;exact bq
def IF:() 224 #[(4294967296:Int)] w (aD w (-4294967296:Int)):=bZ Kz (by simp[Ay,gX])
def M1[I6 k][I6 x][I6 y][I6 g]:() 181 #[kind,k,x,y,g] w (aD w (.tuple #[.int .i64 (dw kind k x y g),.int .i64 (fN kind x g)])):=by
 by_cases b:kind=1\/kind=2\/kind=3\/kind=4\/kind=5\/kind=6\/kind=7
 .rcases b with rfl|rfl|rfl|rfl|rfl|rfl|rfl
  .by_cases j:0<x
   .refine bZ (v:=.tuple #[.int .i64 (g),.int .i64 (0)]) ?_ (by rw[AU,fn ak];repeat (first|rw[ah om]|rw[ag om]))
    go_in
    go_wp2_with fail
    go_ret2;exact bq
   refine bZ (v:=.tuple #[.int .i64 (0),.int .i64 (0)]) ?_ (by rw[AU,fn ak];repeat (first|rw[ah om]|rw[ag om]))
   go_in
   go_wp2_with fail
   go_ret2;exact bq
  .by_cases j:0<x
   .refine bZ (v:=.tuple #[.int .i64 (g),.int .i64 (0)]) ?_ (by rw[AV,fn ak];repeat (first|rw[ah om]|rw[ag om]))
    go_in
    go_wp2_with fail
    go_ret2;exact bq
   refine bZ (v:=.tuple #[.int .i64 (ch g k),.int .i64 (0)]) ?_ (by rw[AV,fn ak];repeat (first|rw[ah om]|rw[ag om]))
   go_in
   go_wp2_with (go_at_call 170;(with_reducible refine(lY).mono ?_);rintro e u ⟨rfl,_⟩)
   go_ret2;exact bq
  .by_cases j:x<=-4294967296
   .refine bZ (v:=.tuple #[.int .i64 (0),.int .i64 (0)]) ?_ (by rw[tG,fn ak];repeat (first|rw[ah om]|rw[ag om]))
    go_in
    go_wp2_with (go_at_call 224;(with_reducible refine(IF).mono ?_);rintro e u ⟨rfl,_⟩)
    go_ret2;exact bq
   by_cases l:4294967296<=x
   .refine bZ (v:=.tuple #[.int .i64 (0),.int .i64 (0)]) ?_ (by rw[tG,fn ak];repeat (first|rw[ah om]|rw[ag om]))
    go_in
    go_wp2_with (go_at_call 224;(with_reducible refine(IF).mono ?_);rintro e u ⟨rfl,_⟩)
    go_ret2;exact bq
   refine bZ (v:=.tuple #[.int .i64 (g),.int .i64 (0)]) ?_ (by rw[tG,fn ak];repeat (first|rw[ah om]|rw[ag om]))
   go_in
   go_wp2_with (go_at_call 224;(with_reducible refine(IF).mono ?_);rintro e u ⟨rfl,_⟩)
   go_ret2;exact bq
  .by_cases j:kZ x<=0
   .refine bZ (v:=.tuple #[.int .i64 (0),.int .i64 (0)]) ?_ (by rw[tH,fn ak];repeat (first|rw[ah om]|rw[ag om]))
    go_in
    go_wp2_with (go_at_call 225;(with_reducible refine(sD).mono ?_);rintro e u ⟨rfl,_⟩)
    go_ret2;exact bq
   by_cases l:4294967296<=kZ x
   .refine bZ (v:=.tuple #[.int .i64 (0),.int .i64 (0)]) ?_ (by rw[tH,fn ak];repeat (first|rw[ah om]|rw[ag om]))
    go_in
    go_wp2_with (go_at_call 225;(with_reducible refine(sD).mono ?_);rintro e u ⟨rfl,_⟩)
    go_ret2;exact bq
   refine bZ (v:=.tuple #[.int .i64 (ch g 1073741824),.int .i64 (0)]) ?_ (by rw[tH,fn ak];repeat (first|rw[ah om]|rw[ag om]))
   go_in
   go_wp2_with (first|(go_at_call 225;(with_reducible refine(sD).mono ?_);rintro e u ⟨rfl,_⟩)|(go_at_call 170;(with_reducible refine(lY).mono ?_);rintro e u ⟨rfl,_⟩))
   go_ret2;exact bq
  .refine bZ (v:=.tuple #[.int .i64 (ch g k),.int .i64 (0)]) ?_ (by rw[MW,fn ak])
   go_in
   go_wp2_with (go_at_call 170;(with_reducible refine(lY).mono ?_);rintro e u ⟨rfl,_⟩)
   go_ret2;exact bq
  .refine bZ (v:=.tuple #[.int .i64 (g),.int .i64 (g)]) ?_ (by rw[MX,MZ])
   go_in
   go_wp2_with fail
   go_ret2;exact bq
  .refine bZ (v:=.tuple #[.int .i64 (ch g y),.int .i64 (ch g x)]) ?_ (by rw[MY,M0])
   go_in
   go_wp2_with (go_at_call 170;(with_reducible refine(lY).mono ?_);rintro e u ⟨rfl,_⟩)
   go_ret2;exact bq
 .refine bZ (v:=.tuple #[.int .i64 (0),.int .i64 (0)]) ?_ (by unfold dw fN;repeat rw[ag om]);have k1:(kind==1)=false:=by simpa using λh=>b om
  have k2:(kind==2)=false:=by simpa using λh=>b om
  have k3:(kind==3)=false:=by simpa using λh=>b om
  have k4:(kind==4)=false:=by simpa using λh=>b om
  have m:(kind==5)=false:=by simpa using λh=>b om
  have k6:(kind==6)=false:=by simpa using λh=>b om
  have r:(kind==7)=false:=by simpa using λh=>b om
  clear b
  go_in
  go_wp2_with fail
  go_ret2;exact bq
end
variable{ts:List Tn}{t:Tn}{A:Option Addr}{c i:Nat}
def lF(b:List Tn):List Int:=(b[0]?.map (·.zs)).getD []
def Ah(z0:av)(t:Tn):Bool:=aJ t.zs t.xs&&decide (t.zs=z0)
def gR(b:Int)(e:List Tn):Int:=if f6 b=0 then 21 else if(e.length:Int)=f6 b then(if e.all (Ah (lF e))then 0 else 20)else 20
def pp(b:Int):f6 b=0\/f6 b=1\/f6 b=2:=by
 unfold f6;by_cases h:1<=b/\b<=5
 .rw[ah h];simp
 .rw[ag h];by_cases e:b=6\/b=7
  .rw[ah e];simp
  .rw[ag e];simp
def IG{p:Tn->Bool}{k:Nat}(h:∀j u,j<k->ts[j]?=some u->p u=true)(e:ts[k]?=some t)(ht:p t=true):∀j u,j<k+1->ts[j]?=some u->p u=true:=λj u l hu=>by
 by_cases b:j<k
 .exact h j u b hu
 .obtain rfl:j=k:=om;rw[e]at hu;injection hu with hu;exact hu▸ht
def Ve{p:Tn->Bool}{k:Nat}(h:∀j u,j<k->ts[j]?=some u->p u=true)(e:¬k<ts):ts.all p=true:=by
 rw[cZ];intro u hu;obtain⟨j,b⟩:=List.mem_iff_getElem?.1 hu;exact h j u (by have:=(a5.1 b).1;omega) b
def Fw{p:Tn->Bool}{k:Nat}(b:ts[k]?=some t)(ht:p t=false):ts.all p=false:=by
 rw[<-Bool.not_eq_true,cZ];intro h;have:=h t (aC b);rw[ht]at this;cases this
section
variable{w:World}{n:Nat}
def AX[a:Ts w A n ts](G:Hx (∀t∈ts,t.zs.length<=1000000)):() 180 #[kind,(A,n,c)] w (aD w (gR kind ts:Int)):=by
 obtain⟨R,S⟩:=h5;by_cases l:f6 kind=0
 .refine bZ (v:=.int .i64 21) ?_ (by simp[gR,l]);have I:(f6 kind==0)=true:=by simp[l]
  clear l
  go_in
  go_wp2_with (go_at_call 213;(with_reducible refine(Dm).mono ?_);rintro e u ⟨rfl,_⟩)
  go_ret;exact bq
 have I:(f6 kind==0)=false:=by simp[l]
 by_cases z:(n:Int)=f6 kind;rotate_left
 .have J:((n:Int) !=f6 kind)=true:=by simp[z]
  refine bZ (v:=.int .i64 20) ?_ (by rw[gR,ag l,ag (by rw[<-a.len];exact z)]);clear l z
  go_in
  go_wp2_with (go_at_call 213;(with_reducible refine(Dm).mono ?_);rintro e u ⟨rfl,_⟩)
  go_ret;exact bq
 have J:((n:Int) !=f6 kind)=false:=by simp[z]
 have E:Hx (gR kind ts=if ts.all (Ah (lF ts))then 0 else 20):=ae (by rw[gR,ag l,ah (by rw[<-a.len];exact z)]);have B:0<n/\n<=2:=by rcases pp kind with h|h|h<;>omega
 obtain⟨F,B⟩:=B;clear l z;obtain⟨b,o,T,c0,z0,U,d0,x0,rfl,ob,q0,-,V,-,-,-,C⟩:=a.get F;have r:Hx (lF ts=z0):=ae (by simp[lF,C.o]);have L:z0.length<=1000000:=G.o _ (aC C.o);simp only[jt,gE]at q0
 go_in
 go_wp2_with (go_at_call 213;(with_reducible refine(Dm).mono ?_);rintro e u ⟨rfl,_⟩)
 go_loopw [18] (λi wr=>∃k:Nat,k<=n/\i=.int .i64 k/\Hx (∀j u,j<k->ts[j]?=some u->Ah z0 u=true)/\aj wr u) (λi _=>n-(intOf i).toNat)
 .exact⟨0,aT _,rfl,ae (λj u X=>by omega),aK⟩
 ·
  obtain⟨k,Y,rfl,m,hp⟩:=hrel;by_cases D:k<n
  .obtain⟨Z,o',A1,c1,z1,B1,d1,x1,e,M,q1,q2,s1,t1,-,-,ht⟩:=a.get D;injection e with e
   injection e with N O
   subst N O;have P:z1.length<=1000000:=G.o _ (aC ht.o);rcases hr:aJ z1 x1 with _|_
   .go_wp2_with fail
    refine am aq (λy _=>?_);refine ap 0 ?_;refine aM 1 λK hK=>?_;go_simp
    (with_reducible refine(d9 om).mono ?_)
    rintro e y ⟨rfl,_⟩;dsimp only;refine aL hK ?_;refine qL [2,3,504,505,506,507,508,509,510,511,12] ?_;refine aZ ?_
    go_wp2_with fail
    go_ret;refine⟨?_,aK⟩;rw[E.o,r.o,Fw ht.o (by simp[Ah,hr])];rfl
   rcases hs:decide (z1=z0)with _|_
   .go_wp2_with fail
    refine am aq (λy _=>?_);refine ap 0 ?_;refine aM 1 λK hK=>?_;go_simp
    (with_reducible refine(d9 om).mono ?_)
    rintro e y ⟨rfl,_⟩;dsimp only;refine aL hK ?_;refine qL [2,3,4,5,6,7,8,9] ?_;refine aM 10 λK hK=>?_;go_simp
    (with_reducible refine(i7 om om).mono ?_)
    rintro e y ⟨rfl,_⟩;dsimp only;refine aL hK ?_;refine qL [11,12] ?_;refine aZ ?_
    go_wp2_with fail
    go_ret;refine⟨?_,aK⟩;rw[E.o,r.o,Fw ht.o (by simp only[Ah,hr,hs];rfl)];rfl
   .go_wp2_with fail
    refine am aq (λy _=>?_);refine ap 0 ?_;refine aM 1 λK hK=>?_;go_simp
    (with_reducible refine(d9 om).mono ?_)
    rintro e y ⟨rfl,_⟩;dsimp only;refine aL hK ?_;refine qL [2,3,4,5,6,7,8,9] ?_;refine aM 10 λK hK=>?_;go_simp
    (with_reducible refine(i7 om om).mono ?_)
    rintro e y ⟨rfl,_⟩;dsimp only;refine aL hK ?_;refine qL [11,12] ?_;refine aZ ?_
    go_wp2_with fail
    go_roundw
    .exact⟨k+1,om,by go_num,ae (IG m.o ht.o (by simp only[Ah,hr,hs];rfl)),aK⟩
    .simp[intOf];omega
  .have e:ts.all (Ah z0)=true:=Ve m.o (by rw[<-a.len];exact D);have Q:Hx (gR kind ts=0):=ae (by rw[E.o,r.o,e];rfl);clear e
   go_wp2_with fail
   go_ret;exact⟨by rw[Q.o];rfl,aK⟩
def sec(ts:List Tn)(i:Nat):Int:=(ts[1]?.map λt=>t.xs.getD i 0).getD 0
def xK[a:Ts w A n ts](u:n<=2)(h:Hx (∀t,ts[1]?=some t->i<t.xs)):() 182 #[(A,n,c),i] w (aD w (sec ts i:Int)):=by
 by_cases j:n<2
 .have e:sec ts i=0:=by
   have:ts[1]?=none:=c6 (by rw[<-a.len];omega);simp[sec,this]
  rw[e];clear e
  go_in
  go_wp2_with fail
  go_ret;exact bq
 .obtain rfl:n=2:=om;obtain⟨b,o,y,c1,z1,B,d1,x1,rfl,ob,-,C,-,l,-,-,ht⟩:=a.get (k:=1) om;have hi:=h.o _ ht.o;simp only at hi;obtain⟨D,E,z,rfl,m,F,r⟩:=l.get hi;have e:sec ts i=z:=by simp[sec,ht.o,aX,r.o]
  rw[e];clear e j
  go_in
  go_wp2_with fail
  go_ret;exact bq
end
variable{kk:Int}
def hA(b:List Tn):List Int:=(b[0]?.map (·.xs)).getD []
def qu(b k:Int)(e:List Tn)(m:Nat):List Int:=(List.range m).map λi=>eO b k ((hA e).getD i 0) (sec e i)
def l5(b k:Int)(e:List Tn)(m:Nat):(qu b k e m).length=m:=by simp[qu]
def M2(b k:Int)(e:List Tn)(m:Nat):qu b k e (m+1)=qu b k e m++[eO b k ((hA e).getD m 0) (sec e m)]:=by simp[qu,j0]
def tI(h:gR z ts=0):1<=ts.length/\ts.length<=2/\(ts.length:Int)=f6 z/\∀t∈ts,aJ t.zs t.xs=true/\t.zs=lF ts:=by
 unfold gR at h
 split at h
 .omega
 .split at h
  .split at h
   .rename_i j e b;rw[cZ]at b;refine⟨?_,?_,e,λt ht=>?_⟩
    .rcases pp z with h|h|h<;>omega
    .rcases pp z with h|h|h<;>omega
    .have:=b t ht;simpa[Ah]using this
   .omega
  .omega
def Fx(h:gR z ts=0)(ht:t∈ts):t.xs=(hA ts).length:=by
 obtain⟨m,-,-,j⟩:=tI h;obtain⟨t0,l⟩:∃t0,ts[0]?=some t0:=⟨_,bc om⟩;have a:=j t ht;have b:=j t0 (aC l);have e:hA ts=t0.xs:=by simp[hA,l]
 rw[e];exact tB (a.2▸a.1) (b.2▸b.1)
theorem Dn{w:ay}(h:mN w A ts)(i:Nat):I6 (sec ts i):=by
 unfold sec;cases e:ts[1]? with
 |none=>exact(ao:I6 0)
 |some t=>
  simp only[nC,pZ,aX];cases b:t.xs[i]? with
  |none=>exact(ao:I6 0)
  |some z=>
   obtain⟨_,_,_,k⟩:=h 1 t e;exact⟨k.bd z (aC b)⟩
variable{O:List Int}
def Y5(w:ay)(zs xs:av)(E:Int)(e:Ending)(w':ay):Prop:=
 ∃g b,e=.returned (.tuple #[.agg #[.slice (some ⟨g,0,none⟩) zs zs.length,.slice (some ⟨b,0,none⟩) xs xs.length],E])/\w.1.size<=g/\w.1.size<=b/\Own w' g 3 zs/\Own w' b 65 xs/\aj w' w
section
variable{w:World}{n:Nat}
def IH[a:Ts w A n ts][I6 kk](V:Hx (∀t∈ts,t.zs.length<=1000000))(hE:gR kind ts=0){X:av}(Y:Hx (O=lF ts))(hX:Hx (X=qu kind kk ts (hA ts).length)):() 165 #[kind,kk,(A,n,c)] w (Y5 w O X 0):=by
 have CB:=@aa;have FB:=@aP;have CP:=@bL;obtain⟨C,D,-,m⟩:=tI hE;rw[<-a.len]at C D;obtain⟨b,o,A0,c0,z0,B0,d0,x0,rfl,ob,q0,q1,s0,t0,rh,i0,r⟩:=a.get (k:=0) C;simp only[jt,gE]at q0 q1;have E:=(m _ (aC r.o)).1;obtain⟨lx,I,lz⟩:=xw E;simp only at lx I lz;have y:Hx (hA ts=x0):=ae (by simp[hA,r.o]);have J:Hx (lF ts=z0):=ae (by simp[lF,r.o]);have HS:Hx (∀i,i<x0.length->∀t,ts[1]?=some t->i<t.xs.length):=λi hi t ht=>by
  rw[Fx hE (aC ht),y.o];exact hi
 have HI:=ae λi=>Dn a.rd i;clear m E
 go_in
 go_wp2_with (go_at_call 180;(with_reducible refine(AX V).mono ?_);rintro e u ⟨rfl,_⟩)
 refine(o8 om om).mono ?_;rintro e w1 ⟨g,j,rfl,hg,F,oS,L,Ix⟩
 go_wp2_with fail
 have n1:w1≠j:=by have:=L.lt;omega
 have n2:g≠j:=oS.aS (cs:=ints x0) L ak;go_loopw [28] (λi wr=>∃k:Nat,k<=x0/\i=.int .i64 k/\Own wr j 65 (fm (qu kind kk ts) x0 k)/\Own wr g 3 z0/\Bx wr w1.1.size 28 #[.slice g z0 z0.length,.slice j x0 x0.length]/\aj wr u) (λi _=>x0.length-(intOf i).toNat)
 .exact⟨0,aT _,rfl,by simpa[fm,qu]using L.at,oS.at,ao,aK⟩
 ·
  obtain⟨k,hk,rfl,hO,hS,hB,hp⟩:=hrel;by_cases B:k<x0
  .obtain⟨b2,M,x,rfl,jf,cx,G⟩:=t0.get B;have ix:I6 x:=dp.at G.o;have iy:=HI.o k;have N:=mV (f:=qu kind kk ts) (l5 kind kk ts k) G.o;have P:=ae (kF (f:=qu kind kk ts) (z:=eO kind kk x (sec ts k)) (l5 kind kk ts k) (by rw[M2,y.o,aX,G.o];rfl) G.o);have Q:=ae (HS.o k B)
   go_wp2_with fail
   refine aR u (λw9=>Bx w9 w1.1.size 28 #[.slice g z0 z0.length,.slice j x0 x0.length]) aq ao (λl _=>?_);refine bw 0 ?_;refine bw 1 ?_;refine bw 2 ?_;refine bw 3 ?_;refine bw 4 ?_;refine bw 5 ?_;refine bw 6 ?_;refine bw 7 ?_;refine aM 8 λK hK=>?_;go_simp
   (with_reducible refine(xK D Q).mono ?_)
   rintro e l ⟨rfl,_⟩;dsimp only;refine aL hK ?_ ⟨ab u _,ao⟩;refine aM 9 λK hK=>?_;go_simp
   (with_reducible refine(QD).mono ?_)
   rintro e l ⟨rfl,_⟩;dsimp only;refine aL hK ?_ ⟨ab u _,ao⟩;refine bw 10 ?_;refine aM 11 λK hK=>?_;have R:=((hO).at (w':=l)).cell N;have S:=((hO).at (w':=l)).frozen k;go_simp;refine aL hK ?_ ⟨⟨(a7 u l).setCell (p:=⟨j,k,none⟩) F _⟩,⟨(Bx.al (w:=l)).a9 n1 _⟩⟩;clear hK K R S;refine aZ ?_
   go_wp2_with fail
   go_roundw
   ·
    have M:=(hO.at (w':=l)).ax k (eO kind kk x (sec ts k));rw[P.o]at M;exact⟨k+1,om,by go_num,M,(hS.at (w':=l)).a9 n2 _,⟨(Bx.al (w:=l)).a9 n1 _⟩,⟨(a7 u l).setCell (p:=⟨j,k,none⟩) F _⟩⟩
   .simp[intOf];omega
  .rw[mY B]at hO;obtain rfl:k=x0:=om;have U:=ae hO;clear hO;have T:Bx wr w.1.size 28 #[(),()]:=ao;have l1:=hS.aS T.al ak;have l2:=U.o.aS T.al ak
   go_wp2_with fail
   have k3:=T.al.cY (.slice g z0 z0.length) (.slice j x0 x0.length);have B3:=cM (a7 w wr) (p:=w.1.size) (an _) (.slice g z0 z0.length) (.slice j x0 x0.length);have o3:=hS.cU l1 (.slice g z0 z0.length) (.slice j x0 x0.length);have o4:=U.o.cU l2 (.slice g z0 z0.length) (.slice j x0 x0.length);obtain⟨r0,r1⟩:=di k3;refine a8 (v:=.tuple #[.agg #[.slice g z0 z0.length,.slice j x0 x0.length],au]) (by simp[results,results165,go_sem,r0,r1]) rfl ?_;rw[hX.o,Y.o,y.o,J.o];exact⟨_,_,by rw[l5],by have:=ai (w:=w) (w':=u);omega,by have:=ai (w:=w) (w':=u);omega,o3,o4,⟨B3⟩⟩
end
