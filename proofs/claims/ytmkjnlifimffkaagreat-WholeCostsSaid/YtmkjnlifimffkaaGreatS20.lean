/- Lemmas. No condition. -/
import Derived.Test.YtmkjnlifimffkaaGreatS17
namespace Go.Proofs.YtmkjnlifimffkaaGreat
open Go.RowKit
set_option linter.all false
set_option maxRecDepth 100000
set_option maxHeartbeats 16000000
def jU(b:Int):Int:=if 1<=b/\b<=5 then 1 else if b=6\/b=7 then 2 else 0
def xN(x:Int):Int:=dQ (dI x 1073741824) 2147483648
def lU(b k x y:Int):Int:=
 if b=1 then max x 0
 else if b=2 then(if 0<x then x else dI x k)
 else if b=3 then uF x (-4294967296) 4294967296
 else if b=4 then uF (xN x) 0 4294967296
 else if b=5 then dI x k
 else if b=6 then dQ x y
 else if b=7 then dI x y
 else 0
def kZ(b k x y g:Int):Int:=
 if b=1 then(if 0<x then g else 0)
 else if b=2 then(if 0<x then g else dI g k)
 else if b=3 then(if-4294967296<x/\x<4294967296 then g else 0)
 else if b=4 then(if 0<xN x/\xN x<4294967296 then dI g 1073741824 else 0)
 else if b=5 then dI g k
 else if b=6 then g
 else if b=7 then dI g y
 else 0
def rG(b x g:Int):Int:=if b=6 then g else if b=7 then dI g x else 0
theorem ZE{x low high:Int}(b:aR x)(e:aR low)(j:aR high):aR (uF x low high):=by
 unfold uF;split
 ·exact j
 ·split
  ·exact e
  ·exact b
theorem q5:aR 1073741824:=⟨ah,ah⟩
theorem akk(x:Int):aR (xN x):=BG _ _
theorem akl{e k x y:Int}(l:aR k)(j:aR x)(r:aR y):aR (lU e k x y):=by
 have m:aR (max x 0):=by obtain⟨a,b⟩:=j;constructor<;>omega
 unfold lU
 repeat' split
 all_goals first|exact m|exact j|exact xm j l|exact xm j r|exact BG _ _|exact ZE j ⟨ah,ah⟩ ⟨ah,ah⟩|exact ZE (akk x) ⟨ah,ah⟩ ⟨ah,ah⟩|exact⟨ah,ah⟩
theorem akm{b k x y g:Int}(e:aR k)(j:aR y)(hg:aR g):aR (kZ b k x y g):=by
 have z:aR 0:=⟨ah,ah⟩;unfold kZ
 repeat' split
 all_goals first|exact hg|exact z|exact xm hg e|exact xm hg j|exact xm hg q5
theorem akn{b x g:Int}(e:aR x)(hg:aR g):aR (rG b x g):=by
 have z:aR 0:=⟨ah,ah⟩;unfold rG
 repeat' split
 all_goals first|exact hg|exact z|exact xm hg e
section
variable{k x y g:Int}
theorem ako:lU 1 k x y=max x 0:=by simp[lU]
theorem ZF:lU 2 k x y=if 0<x then x else dI x k:=by simp[lU]
theorem akp:lU 3 k x y=uF x (-4294967296) 4294967296:=by simp[lU]
theorem akq:lU 4 k x y=uF (xN x) 0 4294967296:=by simp[lU]
theorem akr:lU 5 k x y=dI x k:=by simp[lU]
theorem aks:lU 6 k x y=dQ x y:=by simp[lU]
theorem akt:lU 7 k x y=dI x y:=by simp[lU]
theorem ZG:kZ 1 k x y g=if 0<x then g else 0:=by simp[kZ]
theorem ZH:kZ 2 k x y g=if 0<x then g else dI g k:=by simp[kZ]
theorem R8:kZ 3 k x y g=if-4294967296<x/\x<4294967296 then g else 0:=by simp[kZ]
theorem R9:kZ 4 k x y g=if 0<xN x/\xN x<4294967296 then dI g 1073741824 else 0:=by simp[kZ]
theorem aku:kZ 5 k x y g=dI g k:=by simp[kZ]
theorem akv:kZ 6 k x y g=g:=by simp[kZ]
theorem akw:kZ 7 k x y g=dI g y:=by simp[kZ]
theorem akx:rG 6 x g=g:=by simp[rG]
theorem aky:rG 7 x g=dI g x:=by simp[rG]
theorem xO{b:Int}(h:b<6):rG b x g=0:=by unfold rG;rw[if_neg (by omega),if_neg (by omega)]
end
section
variable{w:World}{kind k x y g:Int}
theorem Sa:Calls Tryz.prog 213 #[kind] w (aM w (.int .i64 (jU kind))):=by
 by_cases b:kind=1\/kind=2\/kind=3\/kind=4\/kind=5\/kind=6\/kind=7
 ·rcases b with rfl|rfl|rfl|rfl|rfl|rfl|rfl<;>
  ·go_enter Tryz.func213,Tryz.ntmps213
   go_wp2_with fail
   go_ret;exact⟨rfl,ai _ _⟩
 ·have e:jU kind=0:=by unfold jU;rw[if_neg om,if_neg om]
  have k1:(kind==1)=false:=by simpa using fun h=>b om
  have k2:(kind==2)=false:=by simpa using fun h=>b om
  have j:(kind==3)=false:=by simpa using fun h=>b om
  have l:(kind==4)=false:=by simpa using fun h=>b om
  have m:(kind==5)=false:=by simpa using fun h=>b om
  have k6:(kind==6)=false:=by simpa using fun h=>b om
  have r:(kind==7)=false:=by simpa using fun h=>b om
  rw[e];clear b e;go_enter Tryz.func213,Tryz.ntmps213
  go_wp2_with fail
  go_ret;exact⟨rfl,ai _ _⟩
theorem Nl[I6 x]:Calls Tryz.prog 225 #[x] w (aM w (.int .i64 (xN x))):=by
 go_enter Tryz.func225,Tryz.ntmps225
 go_wp2_with (first|(go_at_call 170;(with_reducible refine(BI).mono ?_);rintro e u ⟨rfl,_⟩)|(go_at_call 171;(with_reducible refine(Mh).mono ?_);rintro e u ⟨rfl,_⟩))
 go_ret;exact⟨rfl,ai _ _⟩
theorem akz[I6 k][I6 x][I6 y]:Calls Tryz.prog 212 #[kind,k,x,y] w (aM w (.int .i64 (lU kind k x y))):=by
 by_cases b:kind=1\/kind=2\/kind=3\/kind=4\/kind=5\/kind=6\/kind=7
 ·rcases b with rfl|rfl|rfl|rfl|rfl|rfl|rfl
  ·refine ja (v:=.int .i64 (max x 0)) ?_ (by rw[ako]);go_enter Tryz.func212,Tryz.ntmps212
   go_wp2_with fail
   go_ret;exact⟨rfl,ai _ _⟩
  ·by_cases j:0<x
   ·refine ja (v:=.int .i64 x) ?_ (by rw[ZF,if_pos om]);go_enter Tryz.func212,Tryz.ntmps212
    go_wp2_with fail
    go_ret;exact⟨rfl,ai _ _⟩
   ·refine ja (v:=.int .i64 (dI x k)) ?_ (by rw[ZF,if_neg om]);go_enter Tryz.func212,Tryz.ntmps212
    go_wp2_with (first|(go_at_call 170;(with_reducible refine(BI).mono ?_);rintro e u ⟨rfl,_⟩))
    go_ret;exact⟨rfl,ai _ _⟩
  ·refine ja (v:=.int .i64 (uF x (Fu 4294967296) 4294967296)) ?_ (by rw[akp];simp[Fu,uE]);go_enter Tryz.func212,Tryz.ntmps212
   go_wp2_with (first|(go_at_call 224;(with_reducible refine(Xr).mono ?_);rintro e u ⟨rfl,_⟩)|(go_at_call 262;(with_reducible refine(Xt).mono ?_);rintro e u ⟨rfl,_⟩))
   go_ret;exact⟨rfl,ai _ _⟩
  ·refine ja (v:=.int .i64 (uF (xN x) 0 4294967296)) ?_ (by rw[akq]);go_enter Tryz.func212,Tryz.ntmps212
   go_wp2_with (first|(go_at_call 225;(with_reducible refine(Nl).mono ?_);rintro e u ⟨rfl,_⟩)|(go_at_call 262;(with_reducible refine(Xt).mono ?_);rintro e u ⟨rfl,_⟩))
   go_ret;exact⟨rfl,ai _ _⟩
  ·refine ja (v:=.int .i64 (dI x k)) ?_ (by rw[akr]);go_enter Tryz.func212,Tryz.ntmps212
   go_wp2_with (first|(go_at_call 170;(with_reducible refine(BI).mono ?_);rintro e u ⟨rfl,_⟩))
   go_ret;exact⟨rfl,ai _ _⟩
  ·refine ja (v:=.int .i64 (dQ x y)) ?_ (by rw[aks]);go_enter Tryz.func212,Tryz.ntmps212
   go_wp2_with (first|(go_at_call 171;(with_reducible refine(Mh).mono ?_);rintro e u ⟨rfl,_⟩))
   go_ret;exact⟨rfl,ai _ _⟩
  ·refine ja (v:=.int .i64 (dI x y)) ?_ (by rw[akt]);go_enter Tryz.func212,Tryz.ntmps212
   go_wp2_with (first|(go_at_call 170;(with_reducible refine(BI).mono ?_);rintro e u ⟨rfl,_⟩))
   go_ret;exact⟨rfl,ai _ _⟩
 ·refine ja (v:=.int .i64 0) ?_ (by unfold lU;repeat rw[if_neg om]);have k1:(kind==1)=false:=by simpa using fun h=>b om
  have k2:(kind==2)=false:=by simpa using fun h=>b om
  have l:(kind==3)=false:=by simpa using fun h=>b om
  have m:(kind==4)=false:=by simpa using fun h=>b om
  have r:(kind==5)=false:=by simpa using fun h=>b om
  have k6:(kind==6)=false:=by simpa using fun h=>b om
  have z:(kind==7)=false:=by simpa using fun h=>b om
  clear b;go_enter Tryz.func212,Tryz.ntmps212
  go_wp2_with fail
  go_ret;exact⟨rfl,ai _ _⟩
theorem Sb:Calls Tryz.prog 224 #[(4294967296:Int)] w (aM w (.int .i64 (-4294967296))):=ja Xr (by simp[Fu,uE])
theorem akA[I6 k][I6 x][I6 y][I6 g]:Calls Tryz.prog 181 #[kind,k,x,y,g] w (aM w (.tuple #[.int .i64 (kZ kind k x y g),.int .i64 (rG kind x g)])):=by
 by_cases b:kind=1\/kind=2\/kind=3\/kind=4\/kind=5\/kind=6\/kind=7
 ·rcases b with rfl|rfl|rfl|rfl|rfl|rfl|rfl
  ·by_cases j:0<x
   ·refine ja (v:=.tuple #[.int .i64 (g),.int .i64 (0)]) ?_ (by rw[ZG,xO ah];repeat (first|rw[if_pos om]|rw[if_neg om]));go_enter Tryz.func181,Tryz.ntmps181
    go_wp2_with fail
    go_ret2;exact⟨rfl,ai _ _⟩
   refine ja (v:=.tuple #[.int .i64 (0),.int .i64 (0)]) ?_ (by rw[ZG,xO ah];repeat (first|rw[if_pos om]|rw[if_neg om]));go_enter Tryz.func181,Tryz.ntmps181
   go_wp2_with fail
   go_ret2;exact⟨rfl,ai _ _⟩
  ·by_cases j:0<x
   ·refine ja (v:=.tuple #[.int .i64 (g),.int .i64 (0)]) ?_ (by rw[ZH,xO ah];repeat (first|rw[if_pos om]|rw[if_neg om]));go_enter Tryz.func181,Tryz.ntmps181
    go_wp2_with fail
    go_ret2;exact⟨rfl,ai _ _⟩
   refine ja (v:=.tuple #[.int .i64 (dI g k),.int .i64 (0)]) ?_ (by rw[ZH,xO ah];repeat (first|rw[if_pos om]|rw[if_neg om]));go_enter Tryz.func181,Tryz.ntmps181
   go_wp2_with (first|(go_at_call 170;(with_reducible refine(BI).mono ?_);rintro e u ⟨rfl,_⟩))
   go_ret2;exact⟨rfl,ai _ _⟩
  ·by_cases j:x<=-4294967296
   ·refine ja (v:=.tuple #[.int .i64 (0),.int .i64 (0)]) ?_ (by rw[R8,xO ah];repeat (first|rw[if_pos om]|rw[if_neg om]));go_enter Tryz.func181,Tryz.ntmps181
    go_wp2_with (first|(go_at_call 224;(with_reducible refine(Sb).mono ?_);rintro e u ⟨rfl,_⟩))
    go_ret2;exact⟨rfl,ai _ _⟩
   by_cases l:4294967296<=x
   ·refine ja (v:=.tuple #[.int .i64 (0),.int .i64 (0)]) ?_ (by rw[R8,xO ah];repeat (first|rw[if_pos om]|rw[if_neg om]));go_enter Tryz.func181,Tryz.ntmps181
    go_wp2_with (first|(go_at_call 224;(with_reducible refine(Sb).mono ?_);rintro e u ⟨rfl,_⟩))
    go_ret2;exact⟨rfl,ai _ _⟩
   refine ja (v:=.tuple #[.int .i64 (g),.int .i64 (0)]) ?_ (by rw[R8,xO ah];repeat (first|rw[if_pos om]|rw[if_neg om]));go_enter Tryz.func181,Tryz.ntmps181
   go_wp2_with (first|(go_at_call 224;(with_reducible refine(Sb).mono ?_);rintro e u ⟨rfl,_⟩))
   go_ret2;exact⟨rfl,ai _ _⟩
  ·by_cases j:xN x<=0
   ·refine ja (v:=.tuple #[.int .i64 (0),.int .i64 (0)]) ?_ (by rw[R9,xO ah];repeat (first|rw[if_pos om]|rw[if_neg om]));go_enter Tryz.func181,Tryz.ntmps181
    go_wp2_with (first|(go_at_call 225;(with_reducible refine(Nl).mono ?_);rintro e u ⟨rfl,_⟩))
    go_ret2;exact⟨rfl,ai _ _⟩
   by_cases l:4294967296<=xN x
   ·refine ja (v:=.tuple #[.int .i64 (0),.int .i64 (0)]) ?_ (by rw[R9,xO ah];repeat (first|rw[if_pos om]|rw[if_neg om]));go_enter Tryz.func181,Tryz.ntmps181
    go_wp2_with (first|(go_at_call 225;(with_reducible refine(Nl).mono ?_);rintro e u ⟨rfl,_⟩))
    go_ret2;exact⟨rfl,ai _ _⟩
   refine ja (v:=.tuple #[.int .i64 (dI g 1073741824),.int .i64 (0)]) ?_ (by rw[R9,xO ah];repeat (first|rw[if_pos om]|rw[if_neg om]));go_enter Tryz.func181,Tryz.ntmps181
   go_wp2_with (first|(go_at_call 225;(with_reducible refine(Nl).mono ?_);rintro e u ⟨rfl,_⟩)|(go_at_call 170;(with_reducible refine(BI).mono ?_);rintro e u ⟨rfl,_⟩))
   go_ret2;exact⟨rfl,ai _ _⟩
  ·refine ja (v:=.tuple #[.int .i64 (dI g k),.int .i64 (0)]) ?_ (by rw[aku,xO ah]);go_enter Tryz.func181,Tryz.ntmps181
   go_wp2_with (first|(go_at_call 170;(with_reducible refine(BI).mono ?_);rintro e u ⟨rfl,_⟩))
   go_ret2;exact⟨rfl,ai _ _⟩
  ·refine ja (v:=.tuple #[.int .i64 (g),.int .i64 (g)]) ?_ (by rw[akv,akx]);go_enter Tryz.func181,Tryz.ntmps181
   go_wp2_with fail
   go_ret2;exact⟨rfl,ai _ _⟩
  ·refine ja (v:=.tuple #[.int .i64 (dI g y),.int .i64 (dI g x)]) ?_ (by rw[akw,aky]);go_enter Tryz.func181,Tryz.ntmps181
   go_wp2_with (first|(go_at_call 170;(with_reducible refine(BI).mono ?_);rintro e u ⟨rfl,_⟩))
   go_ret2;exact⟨rfl,ai _ _⟩
 ·refine ja (v:=.tuple #[.int .i64 (0),.int .i64 (0)]) ?_ (by unfold kZ rG;repeat rw[if_neg om]);have k1:(kind==1)=false:=by simpa using fun h=>b om
  have k2:(kind==2)=false:=by simpa using fun h=>b om
  have m:(kind==3)=false:=by simpa using fun h=>b om
  have r:(kind==4)=false:=by simpa using fun h=>b om
  have z:(kind==5)=false:=by simpa using fun h=>b om
  have k6:(kind==6)=false:=by simpa using fun h=>b om
  have B:(kind==7)=false:=by simpa using fun h=>b om
  clear b;go_enter Tryz.func181,Tryz.ntmps181
  go_wp2_with fail
  go_ret2;exact⟨rfl,ai _ _⟩
end
def zs0(ts:List Tn):List Int:=(ts[0]?.map (·.zs)).getD []
def za(z0:List Int)(t:Tn):Bool:=bH t.zs t.xs&&decide (t.zs=z0)
def qa(b:Int)(ts:List Tn):Int:=if jU b=0 then 21 else if(ts.length:Int)=jU b then(if ts.all (za (zs0 ts))then 0 else 20)else 20
theorem Sc(b:Int):jU b=0\/jU b=1\/jU b=2:=by
 unfold jU;by_cases h:1<=b/\b<=5
 ·rw[if_pos h];simp
 ·rw[if_neg h];by_cases e:b=6\/b=7
  ·rw[if_pos e];simp
  ·rw[if_neg e];simp
theorem akB{ts:List Tn}{p:Tn->Bool}{k:Nat}{t:Tn}(h:∀j u,j<k->ts[j]?=some u->p u=true)(e:ts[k]?=some t)(ht:p t=true):∀j u,j<k+1->ts[j]?=some u->p u=true:=fun j u l hu=>by
 by_cases b:j<k
 ·exact h j u b hu
 ·obtain rfl:j=k:=om;rw[e]at hu;injection hu with hu;exact hu▸ht
theorem akC{ts:List Tn}{p:Tn->Bool}{k:Nat}(h:∀j u,j<k->ts[j]?=some u->p u=true)(e:¬k<ts.length):ts.all p=true:=by
 rw[fK];intro u hu;obtain⟨j,b⟩:=List.mem_iff_getElem?.1 hu;exact h j u (by have:=(aY.1 b).1;omega) b
theorem ZI{ts:List Tn}{p:Tn->Bool}{k:Nat}{t:Tn}(b:ts[k]?=some t)(ht:p t=false):ts.all p=false:=by
 rw[<-Bool.not_eq_true,fK];intro h;have:=h t (aK b);rw[ht]at this;cases this
section
variable{w:World}{A:Option Addr}{n c:Nat}{ts:List Tn}{kind:Int}
theorem ZJ[a:Ts w A n ts](G:Hid (∀t∈ts,t.zs.length<=1000000)):Calls Tryz.prog 180 #[kind,.slice A n c] w (aM w (.int .i64 (qa kind ts))):=by
 obtain⟨R,S⟩:=lM;by_cases l:jU kind=0
 ·refine ja (v:=.int .i64 21) ?_ (by simp[qa,l]);have I:(jU kind==0)=true:=by simp[l]
  clear l;go_enter Tryz.func180,Tryz.ntmps180
  go_wp2_with (first|(go_at_call 213;(with_reducible refine(Sa).mono ?_);rintro e u ⟨rfl,_⟩))
  go_ret;exact⟨rfl,ai _ _⟩
 have I:(jU kind==0)=false:=by simp[l]
 by_cases z:(n:Int)=jU kind;rotate_left
 ·have J:((n:Int) !=jU kind)=true:=by simp[z]
  refine ja (v:=.int .i64 20) ?_ (by rw[qa,if_neg l,if_neg (by rw[<-a.len];exact z)]);clear l z;go_enter Tryz.func180,Tryz.ntmps180
  go_wp2_with (first|(go_at_call 213;(with_reducible refine(Sa).mono ?_);rintro e u ⟨rfl,_⟩))
  go_ret;exact⟨rfl,ai _ _⟩
 have J:((n:Int) !=jU kind)=false:=by simp[z]
 have E:Hid (qa kind ts=if ts.all (za (zs0 ts))then 0 else 20):=ae (by rw[qa,if_neg l,if_pos (by rw[<-a.len];exact z)]);have B:0<n/\n<=2:=by rcases Sc kind with h|h|h<;>omega
 obtain⟨F,B⟩:=B;clear l z;obtain⟨b,o,T,c0,z0,U,d0,x0,rfl,ob,q0,-,V,-,-,-,C⟩:=a.get F;have r:Hid (zs0 ts=z0):=ae (by simp[zs0,C.out]);have L:z0.length<=1000000:=G.out _ (aK C.out);simp only[yG,nA]at q0;go_enter Tryz.func180,Tryz.ntmps180
 go_wp2_with (first|(go_at_call 213;(with_reducible refine(Sa).mono ?_);rintro e u ⟨rfl,_⟩))
 go_loopw [18] (fun i wr=>∃k:Nat,k<=n/\i=.int .i64 k/\Hid (∀j u,j<k->ts[j]?=some u->za z0 u=true)/\ak wr u) (fun i _=>n-(intOf i).toNat)
 case atStart=>exact⟨0,aS _,rfl,ae (fun j u X=>by omega),ai _ _⟩
 case round=>
  obtain⟨k,Y,rfl,m,hp⟩:=hrel;by_cases D:k<n
  ·obtain⟨b',o',Z,c1,z1,B1,d1,x1,e,M,q1,q2,s1,t1,-,-,ht⟩:=a.get D;injection e with e
   injection e with N O
   subst N O;have P:z1.length<=1000000:=G.out _ (aK ht.out);rcases hr:bH z1 x1 with _|_
   ·go_wp2_with fail
    refine bZ aj (fun y _=>?_);refine ag 0 22 ?_;refine ay 1 fun K hK=>?_;go_simp
    (with_reducible refine(tu om).mono ?_)
    rintro e y ⟨rfl,_⟩;dsimp only;refine av hK ?_;clear hK K;refine ag 2 24 ?_;refine ag 3 25 ?_;refine ax 4 26 ?_;refine ax 5 27 ?_;refine ax 6 28 ?_;refine ax 7 29 ?_;refine ax 8 30 ?_;refine ax 9 31 ?_;refine ax 10 32 ?_;refine ax 11 33 ?_;refine ag 12 34 ?_;refine aO ?_
    go_wp2_with fail
    go_ret;refine⟨?_,ai _ _⟩;rw[E.out,r.out,ZI ht.out (by simp[za,hr])];rfl
   rcases hs:decide (z1=z0)with _|_
   ·go_wp2_with fail
    refine bZ aj (fun y _=>?_);refine ag 0 22 ?_;refine ay 1 fun K hK=>?_;go_simp
    (with_reducible refine(tu om).mono ?_)
    rintro e y ⟨rfl,_⟩;dsimp only;refine av hK ?_;clear hK K;refine ag 2 24 ?_;refine ag 3 25 ?_;refine ag 4 26 ?_;refine ag 5 27 ?_;refine ag 6 28 ?_;refine ag 7 29 ?_;refine ag 8 30 ?_;refine ag 9 31 ?_;refine ay 10 fun K hK=>?_;go_simp
    (with_reducible refine(Dq om om).mono ?_)
    rintro e y ⟨rfl,_⟩;dsimp only;refine av hK ?_;clear hK K;refine ag 11 33 ?_;refine ag 12 34 ?_;refine aO ?_
    go_wp2_with fail
    go_ret;refine⟨?_,ai _ _⟩;rw[E.out,r.out,ZI ht.out (by simp only[za,hr,hs];rfl)];rfl
   ·go_wp2_with fail
    refine bZ aj (fun y _=>?_);refine ag 0 22 ?_;refine ay 1 fun K hK=>?_;go_simp
    (with_reducible refine(tu om).mono ?_)
    rintro e y ⟨rfl,_⟩;dsimp only;refine av hK ?_;clear hK K;refine ag 2 24 ?_;refine ag 3 25 ?_;refine ag 4 26 ?_;refine ag 5 27 ?_;refine ag 6 28 ?_;refine ag 7 29 ?_;refine ag 8 30 ?_;refine ag 9 31 ?_;refine ay 10 fun K hK=>?_;go_simp
    (with_reducible refine(Dq om om).mono ?_)
    rintro e y ⟨rfl,_⟩;dsimp only;refine av hK ?_;clear hK K;refine ag 11 33 ?_;refine ag 12 34 ?_;refine aO ?_
    go_wp2_with fail
    go_roundw
    case rel=>exact⟨k+1,om,by go_num,ae (akB m.out ht.out (by simp only[za,hr,hs];rfl)),ai _ _⟩
    case measure=>simp[intOf];omega
  ·have e:ts.all (za z0)=true:=akC m.out (by rw[<-a.len];exact D);have Q:Hid (qa kind ts=0):=ae (by rw[E.out,r.out,e];rfl);clear e
   go_wp2_with fail
   go_ret;exact⟨by rw[Q.out];rfl,ai _ _⟩
def sec(ts:List Tn)(i:Nat):Int:=(ts[1]?.map fun t=>t.xs.getD i 0).getD 0
theorem ZK[a:Ts w A n ts]{i:Nat}(u:n<=2)(h:Hid (∀t,ts[1]?=some t->i<t.xs.length)):Calls Tryz.prog 182 #[.slice A n c,i] w (aM w (.int .i64 (sec ts i))):=by
 by_cases j:n<2
 ·have e:sec ts i=0:=by
   have:ts[1]?=none:=mE (by rw[<-a.len];omega);simp[sec,this]
  rw[e];clear e;go_enter Tryz.func182,Tryz.ntmps182
  go_wp2_with fail
  go_ret;exact⟨rfl,ai _ _⟩
 ·obtain rfl:n=2:=om;obtain⟨b,o,y,c1,z1,B,d1,x1,rfl,ob,-,C,-,l,-,-,ht⟩:=a.get (k:=1) om;have hi:=h.out _ ht.out;simp only at hi;obtain⟨D,E,z,rfl,m,F,r⟩:=l.get hi;have e:sec ts i=z:=by simp[sec,ht.out,aQ,r.out]
  rw[e];clear e j;go_enter Tryz.func182,Tryz.ntmps182
  go_wp2_with fail
  go_ret;exact⟨rfl,ai _ _⟩
end
def iA(ts:List Tn):List Int:=(ts[0]?.map (·.xs)).getD []
def qJ(b k:Int)(ts:List Tn)(m:Nat):List Int:=(List.range m).map fun i=>lU b k ((iA ts).getD i 0) (sec ts i)
theorem Nn(b k:Int)(ts:List Tn)(m:Nat):(qJ b k ts m).length=m:=by simp[qJ]
theorem akD(b k:Int)(ts:List Tn)(m:Nat):qJ b k ts (m+1)=qJ b k ts m++[lU b k ((iA ts).getD m 0) (sec ts m)]:=by simp[qJ,vM]
theorem Sd{b:Int}{ts:List Tn}(h:qa b ts=0):1<=ts.length/\ts.length<=2/\(ts.length:Int)=jU b/\∀t∈ts,bH t.zs t.xs=true/\t.zs=zs0 ts:=by
 unfold qa at h
 split at h
 ·omega
 ·split at h
  ·split at h
   ·rename_i l j e;rw[fK]at e;refine⟨?_,?_,j,fun t ht=>?_⟩
    ·rcases Sc b with h|h|h<;>omega
    ·rcases Sc b with h|h|h<;>omega
    ·have:=e t ht;simpa[za]using this
   ·omega
  ·omega
theorem ZL{l:Int}{ts:List Tn}(h:qa l ts=0){t:Tn}(ht:t∈ts):t.xs.length=(iA ts).length:=by
 obtain⟨r,-,-,j⟩:=Sd h;obtain⟨t0,m⟩:∃t0,ts[0]?=some t0:=⟨_,aW om⟩;have a:=j t ht;have b:=j t0 (aK m);have e:iA ts=t0.xs:=by simp[iA,m]
 rw[e];exact Rp (a.2▸a.1) (b.2▸b.1)
theorem Sg{w:World}{A:Option Addr}{ts:List Tn}(h:mJ w A ts)(i:Nat):I6 (sec ts i):=by
 unfold sec;cases e:ts[1]? with
 |none=>exact(iin:I6 0)
 |some t=>
  simp only[PX,E9,aQ];cases b:t.xs[i]? with
  |none=>exact(iin:I6 0)
  |some z=>
   obtain⟨_,_,_,k⟩:=h 1 t e;exact⟨k.bd z (aK b)⟩
def akE(w:World)(zs xs:List Int)(E:Int)(e:Ending)(w':World):Prop:=
 ∃g b,e=.returned (.tuple #[.agg #[.slice (some ⟨g,0,none⟩) zs.length zs.length,.slice (some ⟨b,0,none⟩) xs.length xs.length],E])/\w.heap.size<=g/\w.heap.size<=b/\Own w' g 3 zs/\Own w' b 65 xs/\ak w' w
section
variable{w:World}{A:Option Addr}{n c:Nat}{ts:List Tn}{kind kk:Int}
theorem akF[a:Ts w A n ts][I6 kk](V:Hid (∀t∈ts,t.zs.length<=1000000))(hE:qa kind ts=0){Z X:List Int}(Y:Hid (Z=zs0 ts))(hX:Hid (X=qJ kind kk ts (iA ts).length)):Calls Tryz.prog 165 #[kind,kk,.slice A n c] w (akE w Z X 0):=by
 have CB:=@bf;have FB:=@dV;have CP:=@kQ;obtain⟨C,D,-,m⟩:=Sd hE;rw[<-a.len]at C D;obtain⟨b,o,A0,c0,z0,B0,d0,x0,rfl,ob,q0,q1,s0,t0,hd0,i0,r⟩:=a.get (k:=0) C;simp only[yG,nA]at q0 q1;have E:=(m _ (aK r.out)).1;obtain⟨lx,I,lz⟩:=YX E;simp only at lx I lz;have y:Hid (iA ts=x0):=ae (by simp[iA,r.out]);have J:Hid (zs0 ts=z0):=ae (by simp[zs0,r.out]);have HS:Hid (∀i,i<x0.length->∀t,ts[1]?=some t->i<t.xs.length):=ae fun i hi t ht=>by
  rw[ZL hE (aK ht),y.out];exact hi
 have HI:=ae fun i=>Sg a.rd i;clear m E;go_enter Tryz.func165,Tryz.ntmps165
 go_wp2_with (first|(go_at_call 180;(with_reducible refine(ZJ V).mono ?_);rintro e u ⟨rfl,_⟩))
 refine(Ii om om).mono ?_;rintro e L ⟨g,j,rfl,hg,F,oS,M,DX⟩
 go_wp2_with fail
 have n1:L.heap.size≠j:=by have:=M.lt;omega
 have n2:g≠j:=oS.bP (cs:=ints x0) M ah;go_loopw [28] (fun i wr=>∃k:Nat,k<=x0.length/\i=.int .i64 k/\Own wr j 65 (upTo (qJ kind kk ts) x0 k)/\Own wr g 3 z0/\Bx wr L.heap.size 28 #[.slice g z0.length z0.length,.slice j x0.length x0.length]/\ak wr u) (fun i _=>x0.length-(intOf i).toNat)
 case atStart=>exact⟨0,aS _,rfl,by simpa[upTo,qJ]using M.at,oS.at,iin,ai _ _⟩
 case round=>
  obtain⟨k,hk,rfl,hO,hS,hB,hp⟩:=hrel;by_cases B:k<x0.length
  ·obtain⟨b2,N,x,rfl,jT,cx,G⟩:=t0.get B;have ix:I6 x:=dh.at G.out;have iy:=HI.out k;have O:=FX (f:=qJ kind kk ts) (Nn kind kk ts k) G.out;have P:=ae (FY (f:=qJ kind kk ts) (z:=lU kind kk x (sec ts k)) (Nn kind kk ts k) (by rw[akD,y.out,aQ,G.out];rfl) G.out);have Q:=ae (HS.out k B)
   go_wp2_with fail
   refine j6 u (fun w9=>Bx w9 L.heap.size 28 #[.slice g z0.length z0.length,.slice j x0.length x0.length]) aj iin (fun l _=>?_);refine bA 0 33 ?_;refine bA 1 34 ?_;refine bA 2 35 ?_;refine bA 3 36 ?_;refine bA 4 37 ?_;refine bA 5 38 ?_;refine bA 6 39 ?_;refine bA 7 40 ?_;refine ay 8 fun K hK=>?_;go_simp
   (with_reducible refine(ZK D Q).mono ?_)
   rintro e l ⟨rfl,_⟩;dsimp only;refine av hK ?_ ⟨ai u _,iin⟩;clear hK K;refine ay 9 fun K hK=>?_;go_simp
   (with_reducible refine(akz).mono ?_)
   rintro e l ⟨rfl,_⟩;dsimp only;refine av hK ?_ ⟨ai u _,iin⟩;clear hK K;refine bA 10 43 ?_;refine ay 11 fun K hK=>?_;have R:=((hO).at (w':=l)).cell O;have S:=((hO).at (w':=l)).frozen k;go_simp;refine av hK ?_ ⟨⟨(aL u l).setCell (p:=⟨j,k,none⟩) F _⟩,⟨(Bx.blk (w:=l)).far n1 _⟩⟩;clear hK K R S;refine aO ?_
   go_wp2_with fail
   go_roundw
   case rel=>
    have N:=(hO.at (w':=l)).aF k (lU kind kk x (sec ts k));rw[P.out]at N;exact⟨k+1,om,by go_num,N,(hS.at (w':=l)).far n2 _,⟨(Bx.blk (w:=l)).far n1 _⟩,⟨(aL u l).setCell (p:=⟨j,k,none⟩) F _⟩⟩
   case measure=>simp[intOf];omega
  ·rw[I5 B]at hO;obtain rfl:k=x0.length:=om;have U:=ae hO;clear hO;have T:Bx wr w.heap.size 28 #[.slice none 0 0,.slice none 0 0]:=iin;have l1:=hS.bP T.blk ah;have l2:=U.out.bP T.blk ah
   go_wp2_with fail
   have k3:=T.blk.set2 (.slice g z0.length z0.length) (.slice j x0.length x0.length);have B3:=gW (aL w wr) (p:=w.heap.size) (az _) (.slice g z0.length z0.length) (.slice j x0.length x0.length);have o3:=hS.dY l1 (.slice g z0.length z0.length) (.slice j x0.length x0.length);have o4:=U.out.dY l2 (.slice g z0.length z0.length) (.slice j x0.length x0.length);obtain⟨r0,r1⟩:=fC k3;refine bM (v:=.tuple #[.agg #[.slice g z0.length z0.length,.slice j x0.length x0.length],(0:Int)]) (by simp[results,Tryz.results165,go_sem,r0,r1]) rfl ?_;rw[hX.out,Y.out,y.out,J.out];exact⟨_,_,by rw[Nn],by have:=aH (w:=w) (w':=u);omega,by have:=aH (w:=w) (w':=u);omega,o3,o4,⟨B3⟩⟩
end
end Go.Proofs.YtmkjnlifimffkaaGreat
