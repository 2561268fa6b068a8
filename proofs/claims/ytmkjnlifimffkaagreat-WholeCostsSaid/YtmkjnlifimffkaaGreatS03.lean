/- Lemmas. No condition. -/
import Derived.Test.YtmkjnlifimffkaaGreatS02
import Derived.Lib.Mul64
import Derived.Laws.Bits64b
import Derived.SizedLaws
import Derived.Recover
import Derived.Defers
namespace Go.Proofs.YtmkjnlifimffkaaGreat
open Go.RowKit
set_option maxRecDepth 100000
set_option maxHeartbeats 16000000
class Old(b:Nat)(w:World):Prop where
 lt:b<w.heap.size
class Bx(w:World)(g:Nat)(T:outParam TypeId)(cs:outParam (Array Value)):Prop where
 blk:aD w g T cs
class Sl(w:World)(A:Option Addr)(n:Nat)(zs:outParam (List Int)):Prop where
 rd:Rd w A zs
 len:n=zs.length
section
variable{w w' X:World}{b g n:Nat}{T:TypeId}{cs:Array Value}{A:Option Addr}{zs:List Int}{o o' o'' o3 o4:Obj}
instance(priority:=low) Old.step[p:ak w' w][h:Old b w]:Old b w':=⟨bV h.lt p.st.size⟩
instance(priority:=low) Bx.step[p:ak w' w][h:Bx w g T cs]:Bx w' g T cs:=⟨h.blk.keep p.st⟩
instance Bx.new:Bx (X.alloc (.cells cs T)) X.heap.size T cs:=⟨aD.new _ _ _⟩
instance Bx.as5:Bx ((X.alloc o).alloc (.cells cs T)) (X.heap.size+1) T cs:=⟨aD.new' _ _ _ au⟩
instance Bx.as6:Bx (((X.alloc o).alloc o').alloc (.cells cs T)) (X.heap.size+1+1) T cs:=⟨aD.new' _ _ _ au⟩
instance Bx.as7:Bx ((((X.alloc o).alloc o').alloc o'').alloc (.cells cs T)) (X.heap.size+1+1+1) T cs:=⟨aD.new' _ _ _ au⟩
instance Bx.as8:Bx (((((X.alloc o).alloc o').alloc o'').alloc o3).alloc (.cells cs T)) (X.heap.size+1+1+1+1) T cs:=⟨aD.new' _ _ _ au⟩
theorem bf[h:Bx w g T cs](i:Nat):w.cell? ⟨g,i,none⟩=cs[i]?:=h.blk.cell i
theorem dV[h:Bx w g T cs](i:Nat):w.frozen? ⟨g,i,none⟩=false:=h.blk.frozen i
instance(priority:=low) Sl.step[p:ak w' w][h:Sl w A n zs]:Sl w' A n zs:=⟨h.rd.below p.st,h.len⟩
instance(priority:=low) Sl.empty:Sl w A 0 []:=⟨Rd.nil _ _,rfl⟩
theorem aD.Qm{k:List Int}(h:aD w g T (ints k)):Rd w (some ⟨g,0,none⟩) k:=Own.rd (T:=T) h
section
variable{a b c d e f:Int}
instance Sl.Dn[h:Bx w g T #[a]]:Sl w (some ⟨g,0,none⟩) 1 [a]:=⟨h.blk.Qm (k:=[a]),rfl⟩
instance Sl.Md[h:Bx w g T #[a,b]]:Sl w (some ⟨g,0,none⟩) 2 [a,b]:=⟨h.blk.Qm (k:=[a,b]),rfl⟩
instance Sl.as9[h:Bx w g T #[a,b,c,d]]:Sl w (some ⟨g,0,none⟩) 4 [a,b,c,d]:=⟨h.blk.Qm (k:=[a,b,c,d]),rfl⟩
end
theorem kQ[p:ak w' w][h:Old b w](i:Nat):w'.cell? ⟨b,i,none⟩=w.cell? ⟨b,i+0,none⟩:=p.st.cell (p:=⟨b,i,none⟩) h.lt
theorem Qn[p:ak w' w][h:Old b w](i:Nat):w'.frozen? ⟨b,i,none⟩=w.frozen? ⟨b,i+0,none⟩:=p.st.frozen (p:=⟨b,i,none⟩) h.lt
theorem Sl.get(h:Sl w A n zs){k:Nat}(j:k<n):∃b off z,A=some ⟨b,off,none⟩/\Old b w/\w.cell? ⟨b,off+k,none⟩=some (.int .i64 z)/\Hid (zs[k]?=some z):=by
 obtain⟨b,off,z,e,hb,l,m⟩:=h.rd.get (k:=k) (by rw[<-h.len];exact j);exact⟨b,off,z,e,⟨hb⟩,l,m⟩
theorem ai(w w':World)[l:Later w w']:ak w' w:=⟨l.st⟩
end
def aM(w:World)(v:Value)(e:Ending)(w':World):Prop:=e=.returned v/\ak w' w
section
variable{P:Program}{f:Nat}{args:Array Value}{w:World}
theorem Xh{v:Value}(h:Calls P f args w (xk w v)):Calls P f args w (aM w v):=h.mono fun _ _ ⟨b,hb⟩=>⟨b,⟨hb⟩⟩
theorem afm{b:Bool}(h:Calls P f args w (Qh w b)):Calls P f args w (aM w (.bool b)):=h.mono fun _ _ ⟨e,n,hb⟩=>⟨e,⟨hb▸below_drewN (bq _ _) n⟩⟩
theorem qZ{Q:Ending->World->Prop}{X:World}{T:TypeId}{cs:Array Value}(h:∀u,ak u X->Bx u X.heap.size T cs->Calls P f args u Q):Calls P f args (X.alloc (.cells cs T)) Q:=
 h _ (ak.alloc _ _) Bx.new
theorem Qo{Q:Ending->World->Prop}{X:World}{T T':TypeId}{cs b:Array Value}(h:∀u,ak u X->Bx u X.heap.size T cs->Bx u (X.heap.size+1) T' b->Calls P f args u Q):Calls P f args ((X.alloc (.cells cs T)).alloc (.cells b T')) Q:=
 h _ (ai _ _) iin iin
theorem ata{Q:Ending->World->Prop}{X:World}{T T' e:TypeId}{cs j b:Array Value}(h:∀u,ak u X->Bx u X.heap.size T cs->Bx u (X.heap.size+1) T' j->Bx u (X.heap.size+1+1) e b->Calls P f args u Q):Calls P f args (((X.alloc (.cells cs T)).alloc (.cells j T')).alloc (.cells b e)) Q:=
 h _ (ai _ _) iin iin iin
theorem bY{j:Region.Mode}{e:Array Oper}{Q:Exit->Act->World->Prop}{S:World->Prop}{b:Nat}{listed:Array Bool}{a:Act}{X:World}{T:TypeId}{cs:Array Value}
  (h:∀u,ak u X->Bx u X.heap.size T cs->wpAnyH P j e Q S b listed a u):wpAnyH P j e Q S b listed a (X.alloc (.cells cs T)):=
 h _ (ak.alloc _ _) Bx.new
theorem eU{b:Array Oper}{Q:Exit->Act->World->Prop}{id:Nat}{a:Act}(X:World)[l:Later X w](hm:P.follows .mixedOrders=true)
  (h:∀u,ak u w->wpAnyH P .any b Q (fun w'=>ak w' X) b.size (Array.replicate b.size false) a u):(Code.region id b true).wp P Q a w:=
 wp_region_held_drew hm ⟨l.st.drew⟩ (fun _=>h _ (ak.drew w))
theorem j6{b:Array Oper}{Q:Exit->Act->World->Prop}{id:Nat}{a:Act}(X:World)(R:World->Prop)[l:Later X w](hm:P.follows .mixedOrders=true)(e:R w.drew)
  (h:∀u,ak u w->wpAnyH P .any b Q (fun w'=>ak w' X/\R w') b.size (Array.replicate b.size false) a u):(Code.region id b true).wp P Q a w:=
 wp_region_held_drew hm ⟨⟨l.st.drew⟩,e⟩ (fun _=>h _ (ak.drew w))
theorem bZ{b:Array Oper}{Q:Exit->Act->World->Prop}{id:Nat}{a:Act}(hm:P.follows .mixedOrders=true)
  (h:∀u,ak u w->wpAnyH P .any b Q (fun w'=>ak w' w) b.size (Array.replicate b.size false) a u):(Code.region id b true).wp P Q a w:=eU w hm h
end
section
set_option linter.defProp false
def iK:=And.intro @bf (And.intro @kQ @dV)
def lM:=And.intro @bf @kQ
end
def yL(n d:Int):Int:=if d<2*(n%d)\/(2*(n%d)=d/\(n/d)%2=1)then n/d+1 else n/d
def uC(neg:Bool):Int:=if neg then-9223372036854775808 else 9223372036854775807
def nV(q:Int)(neg:Bool):Int:=if 9223372036854775808<=q then uC neg else(if neg then-q else q)
def pM(x:Int):Int:=if x<0 then-x else x
def uD(x y:Int):Bool:=decide (x<0) !=decide (y<0)
def dI(x y:Int):Int:=nV (yL (pM x*pM y) 4294967296) (uD x y)
def fdiv(x y:Int):Int:=if y=0 then(if x=0 then 0 else uC (decide (x<0)))else nV (yL (pM x*4294967296) (pM y)) (uD x y)
def uE(x:Int):Int:=if x< -9223372036854775808 then-9223372036854775808 else if 9223372036854775807<x then 9223372036854775807 else x
def dQ(x y:Int):Int:=uE (x+y)
def Fu(x:Int):Int:=uE (-x)
def aR(x:Int):Prop:= -9223372036854775808<=x/\x<=9223372036854775807
theorem yM{x:Int}(h:aR x):0<=pM x/\pM x<=9223372036854775808:=by unfold aR at h;unfold pM;split<;>omega
theorem Xi(x:Int):aR (uE x):=by unfold uE aR;split<;>(try split)<;>omega
theorem Xj{q:Int}(h:0<=q)(b:Bool):aR (nV q b):=by unfold nV uC aR;cases b<;>simp<;>split<;>omega
theorem Xk{n d:Int}(b:0<=n)(hd:0<d):0<=yL n d:=by
 have:=yE b (Int.le_of_lt hd);unfold yL;split<;>omega
theorem xm{x y:Int}(b:aR x)(e:aR y):aR (dI x y):=
 Xj (Xk (vP (yM b).1 (yM e).1) ah) _
theorem BG(x y:Int):aR (dQ x y):=Xi _
theorem Xl{x y:Int}(b:aR x)(e:aR y):aR (fdiv x y):=by
 unfold fdiv;by_cases h:y=0
 ·rw[if_pos h]
  split
  ·exact⟨ah,ah⟩
  ·unfold uC aR;split<;>omega
 ·rw[if_neg h];refine Xj (Xk (vP (yM b).1 ah) ?_) _;have:=(yM e).1;unfold pM;split<;>omega
section
theorem wrap_toInt(v:BitVec 64):IntKind.i64.wrap (v.toNat:Int)=v.toInt:=by
 rw[bF,BitVec.toInt_eq_toNat_cond];have:=v.isLt
 split<;>omega
theorem Qp(a:Int)(h:aR a):(BitVec.ofInt 64 a).msb=decide (a<0):=by
 obtain⟨b,e⟩:=h;rw[WB,BitVec.toInt_ofInt];have:a.bmod (2^64)=a:=by rw[Int.bmod_def];split<;>omega
 rw[this]
theorem Xm(a b:Int):bits .xor .i64 a b=(BitVec.ofInt 64 a^^^BitVec.ofInt 64 b).toInt:=wrap_toInt _
theorem afn(a b:Int):bits .and .i64 a b=(BitVec.ofInt 64 a&&&BitVec.ofInt 64 b).toInt:=wrap_toInt _
theorem Xn{x y s:Int}(b:aR x)(e:aR y)(hs:aR s):
  decide (bits .and .i64 (bits .xor .i64 x s) (bits .xor .i64 y s)<0)=((decide (x<0)^^decide (s<0))&&(decide (y<0)^^decide (s<0))):=by
 rw[Xm,Xm,afn,Wx,Wx,<-WB,BitVec.msb_and,WE,WE,Qp x b,Qp y e,Qp s hs]
theorem afo(n:Int):aR (wrap64 n):=by unfold wrap64 aR;omega
theorem afp(n:Int):wrap64 n=(n+9223372036854775808)%18446744073709551616-9223372036854775808:=by unfold wrap64;rfl
theorem Me(a:Int)(b:0<=a)(j:a<=18446744073709551615):bits .and .u64 a 4294967295=a%4294967296:=by
 obtain⟨n,rfl⟩:=eF b;have h:=bits_and_u64_nat n 4294967295 om om;have e:n&&&4294967295=n%4294967296:=Nat.and_two_pow_sub_one_eq_mod n 32;rw[e]at h;exact h
theorem Xo(a:Int)(b:0<=a)(j:a<=18446744073709551615):bits .and .u64 a 1=a%2:=by
 obtain⟨n,rfl⟩:=eF b;have h:=bits_and_u64_nat n 1 om om;have e:n&&&1=n%2:=Nat.and_one_is_mod n;rw[e]at h;exact h
theorem afq(a b:Int)(j:0<=a)(u:a<4294967296)(l:0<=b)(y:b<4294967296):bits .or .u64 (a*4294967296) b=a*4294967296+b:=by
 obtain⟨n,rfl⟩:=eF j;obtain⟨m,rfl⟩:=eF l;have r:(n:Int)*4294967296=((n*4294967296:Nat):Int):=by omega
 rw[r,WS (n*4294967296) m om om];have e:n*4294967296|||m=n*4294967296+m:=by
  have:=Po (i:=32) (b:=m) om n;rw[show(2:Nat)^32=4294967296 from rfl]at this;rw[Ht];omega
 rw[e];omega
theorem Mf(x:Int)(w:World)(h:aR x):Calls Tryz.prog 216 #[x] w fun e w'=>e=.returned (.int .u64 (pM x))/\w=w':=by
 obtain⟨b,j⟩:=h;by_cases h:x<0
 ·go_enter Tryz.func216,Tryz.ntmps216
  go_wp2
  go_ret;refine⟨gT ?_,rfl⟩;rw[cZ,cZ,pM,if_pos h];omega
 ·go_enter Tryz.func216,Tryz.ntmps216
  go_wp2
  go_ret;exact⟨gT (by rw[pM,if_neg om]),rfl⟩
theorem Fv(b:Bool)(w:World):Calls Tryz.prog 217 #[.bool b] w fun e w'=>e=.returned (.int .i64 (uC b))/\w=w':=by
 cases b
 ·go_enter Tryz.func217,Tryz.ntmps217
  go_wp2
  go_ret;exact⟨rfl,rfl⟩
 ·go_enter Tryz.func217,Tryz.ntmps217
  go_wp2
  go_ret;exact⟨rfl,rfl⟩
theorem Mg(q:Int)(b:Bool)(w:World)(l:0<=q)(m:q<=18446744073709551615):
  Calls Tryz.prog 218 #[.int .u64 q,.bool b] w fun e w'=>e=.returned (.int .i64 (nV q b))/\w=w':=by
 by_cases h:9223372036854775807<q
 ·have j:Hid (nV q b=uC b):=ae (by rw[nV,if_pos om]);go_enter Tryz.func218,Tryz.ntmps218
  go_wp2_with fail
  refine(Fv b w).mono ?_;rintro e w' ⟨rfl,rfl⟩
  go_wp2_with fail
  go_ret;exact⟨gT j.out.symm,rfl⟩
 ·go_enter Tryz.func218,Tryz.ntmps218;cases b
  ·go_wp2_with fail
   go_ret;exact⟨gT (by rw[nV,if_neg om];rfl),rfl⟩
  ·go_wp2_with fail
   go_ret;exact⟨gT (by rw[nV,if_neg om];rfl),rfl⟩
theorem afr(x y:Nat)(J:x<18446744073709551616)(K:y<18446744073709551616)(w:World):
  Calls Tryz.prog 215 #[.int .u64 x,.int .u64 y] w fun e w'=>e=.returned (.tuple #[.int .u64 ((x*y/18446744073709551616:Nat):Int),.int .u64 ((x*y%18446744073709551616:Nat):Int)])/\w=w':=by
 have j:∀a:Nat,a<18446744073709551616->bits .and .u64 (a:Int) 4294967295=((a%4294967296:Nat):Int):=fun a M=>by
  rw[Me a om om];omega
 have r:∀a:Nat,(a:Int)/4294967296=((a/4294967296:Nat):Int):=fun a=>om;have u:∀a b:Nat,(a:Int)*(b:Int)=((a*b:Nat):Int):=fun a b=>(yx a b).symm;have z:∀a b:Nat,(a:Int)+(b:Int)=((a+b:Nat):Int):=fun a b=>(mF a b).symm;have l:∀a:Nat,a<18446744073709551616->IntKind.u64.wrap (a:Int)=(a:Int):=fun a M=>by rw[cZ];omega
 have m:∀a:Nat,IntKind.u64.wrap (a:Int)=((a%18446744073709551616:Nat):Int):=fun a=>by rw[cZ];omega
 have C:=ae j;have N:=ae r;have O:=ae u;have P:=ae z;have B:=ae l;have Q:=ae m;clear j r u z l m;obtain⟨bd,L,R,D⟩:=Lib.mul64_hi x y J K;have T:=Lib.half_mul_le (a:=x/4294967296) (b:=y/4294967296) om om;have U:=Lib.half_mul_le (a:=x/4294967296) (b:=y%4294967296) om om;have V:=Lib.half_mul_le (a:=x%4294967296) (b:=y/4294967296) om om;have E:x/4294967296*(y/4294967296)<18446744073709551616:=om;have F:x/4294967296*(y%4294967296)<18446744073709551616:=om;have G:x%4294967296*(y/4294967296)<18446744073709551616:=om;have I:x/4294967296*(y/4294967296)+(x/4294967296*(y%4294967296)+x%4294967296*(y%4294967296)/4294967296)/4294967296<18446744073709551616:=om;have S:x/4294967296*(y/4294967296)+(x/4294967296*(y%4294967296)+x%4294967296*(y%4294967296)/4294967296)/4294967296+((x/4294967296*(y%4294967296)+x%4294967296*(y%4294967296)/4294967296)%4294967296+x%4294967296*(y/4294967296))/4294967296<18446744073709551616:=om;go_enter Tryz.func215,Tryz.ntmps215
 go_wp2
 simp only[C.out x J,C.out y K,N.out,O.out,P.out,B.out _ bd,B.out _ F,B.out _ L,C.out _ L,B.out _ G,B.out _ R,B.out _ E,B.out _ I,B.out _ S,Q.out (x*y)];rw[D];go_ret2;exact⟨rfl,rfl⟩
theorem afs{p:Int}(_h0:0<=p)(_h1:p/18446744073709551616<2147483648):
  p/18446744073709551616*4294967296+p%18446744073709551616/4294967296=p/4294967296/\p%18446744073709551616%4294967296=p%4294967296:=om
theorem Ig(x y:Int)(w:World)(E:aR x)(F:aR y):
  Calls Tryz.prog 170 #[x,y] w fun e w'=>e=.returned (.int .i64 (dI x y))/\w=w':=by
 obtain⟨a,G⟩:=eF (yM E).1;obtain⟨b,I⟩:=eF (yM F).1;have Q:a<18446744073709551616:=by have:=(yM E).2;omega
 have hb:b<18446744073709551616:=by have:=(yM F).2;omega
 have R:=ae (afr a b Q hb);have S:=ae (Mf x);have T:=ae (Mf y);rw[G]at S;rw[I]at T;have J:Hid (dI x y=nV (yL ((a*b:Nat):Int) 4294967296) (uD x y)):=ae (by rw[dI,G,I,yx]);clear G I;generalize hp:a*b=p at*;have U:((p/18446744073709551616:Nat):Int)=(p:Int)/18446744073709551616:=by omega
 have V:((p%18446744073709551616:Nat):Int)=(p:Int)%18446744073709551616:=by omega
 rw[U,V]at R;have m:0<=(p:Int):=by omega
 clear hp U V Q hb;generalize(p:Int)=P at*;have X:=ae (afs (p:=P) m);generalize u:P/18446744073709551616=hi at*;generalize K:P%18446744073709551616=lo at*;have b1:0<=hi:=om;have b2:0<=lo:=om;have b3:lo<=18446744073709551615:=om;have z:=ae u;clear u K;go_enter Tryz.func170,Tryz.ntmps170
 go_wp2_with fail
 refine(S.out w E).mono ?_;rintro e w' ⟨rfl,rfl⟩
 go_wp2_with fail
 refine(T.out w F).mono ?_;rintro e w' ⟨rfl,rfl⟩
 go_wp2_with fail
 refine(R.out w).mono ?_;rintro e w' ⟨rfl,rfl⟩;have L:Hid ((!decide (x<0)==decide (y<0))=uD x y):=ae rfl;by_cases B:2147483648<=hi
 ·have C:Hid (dI x y=uC (uD x y)):=ae (by
   have:=z.out;rw[J.out,nV,if_pos];unfold yL;split<;>omega)
  clear m
  go_wp2_with fail
  rw[L.out];refine(Fv _ w).mono ?_;rintro e w' ⟨rfl,rfl⟩
  go_wp2_with fail
  go_ret;exact⟨gT C.out.symm,rfl⟩
 ·have M:hi<2147483648:=om;obtain⟨Y,Z⟩:=X.out M;have hq:=afq hi (lo/4294967296) b1 om om om;rw[Y]at hq;have hr:=Me lo b2 b3;rw[Z]at hr;have N:0<=P/4294967296:=om;have hq1:P/4294967296<9223372036854775808:=by have:=z.out;omega
  have ho:=Xo (P/4294967296) N om;have hr0:0<=P%4294967296:=om;have hr1:P%4294967296<4294967296:=om;have HR:Hid (yL P 4294967296=if 4294967296<2*(P%4294967296)\/(2*(P%4294967296)=4294967296/\(P/4294967296)%2=1)then P/4294967296+1 else P/4294967296):=ae rfl;clear Y Z B X;generalize P/4294967296=q at*;generalize P%4294967296=r at*;generalize O:q%2=o at*;have ho3:0<=o/\o<=1:=om;clear O;by_cases j:2147483648<r\/(r=2147483648/\o=1)
  ·have C:Hid (dI x y=nV (q+1) (uD x y)):=ae (by rw[J.out,HR.out,if_pos om]);rcases j with j|⟨j,D⟩
   rotate_left
   focus
    subst D;subst j
   all_goals
    go_wp2_with fail
    rw[L.out];refine(Mg (q+1) _ w om om).mono ?_;rintro e w' ⟨rfl,rfl⟩
    go_wp2_with fail
    go_ret;exact⟨gT C.out.symm,rfl⟩
  ·have C:Hid (dI x y=nV q (uD x y)):=ae (by rw[J.out,HR.out,if_neg om]);by_cases l:r=2147483648
   focus
    subst l;obtain rfl:o=0:=om;clear j
   rotate_left
   focus
    have hr3:r<2147483648:=om;have hr4:(r==2147483648)=false:=by simpa using l
    clear j l
   all_goals
    go_wp2_with fail
    rw[L.out];refine(Mg q _ w om om).mono ?_;rintro e w' ⟨rfl,rfl⟩
    go_wp2_with fail
    go_ret;exact⟨gT C.out.symm,rfl⟩
end
section
theorem Dp(x y:Int)(w:World)(m:aR x)(r:aR y):Calls Tryz.prog 171 #[x,y] w fun e w'=>e=.returned (.int .i64 (dQ x y))/\w=w':=by
 have u:=ae m;have z:=ae r;obtain⟨E,F⟩:=m;obtain⟨G,I⟩:=r;by_cases l: -9223372036854775808<=x+y/\x+y<=9223372036854775807
 ·obtain⟨i1,i2⟩:=l;have ht:=Xn u.out z.out (s:=x+y) ⟨i1,i2⟩;have C:decide (bits .and .i64 (bits .xor .i64 x (x+y)) (bits .xor .i64 y (x+y))<0)=false:=by
   rw[ht];by_cases a:x<0<;>by_cases b:y<0<;>by_cases c:x+y<0<;>simp[a,b,c]<;>omega
  clear ht;go_enter Tryz.func171,Tryz.ntmps171
  go_wp2_with fail
  go_ret;exact⟨gT (by rw[dQ,uE,if_neg om,if_neg om]),rfl⟩
 ·have B:=afp (x+y);have j:=afo (x+y);have ht:=Xn u.out z.out (s:=wrap64 (x+y)) j;have C:decide (bits .and .i64 (bits .xor .i64 x (wrap64 (x+y))) (bits .xor .i64 y (wrap64 (x+y)))<0)=true:=by
   rw[ht,B];by_cases a:x<0
   ·have b:y<0:=om;have c:¬((x+y+9223372036854775808)%18446744073709551616-9223372036854775808<0):=om;simp[a,b];omega
   ·have b:¬y<0:=om;have c:(x+y+9223372036854775808)%18446744073709551616-9223372036854775808<0:=om;simp[a,b];omega
  have D:Hid (dQ x y=uC (decide (x<0))):=ae (by
   rw[dQ,uE];by_cases a:x<0
   ·rw[if_pos om];simp[uC,a]
   ·rw[if_neg om,if_pos om];simp[uC,a])
  clear B ht j;go_enter Tryz.func171,Tryz.ntmps171
  go_wp2_with fail
  refine(Fv _ w).mono ?_;rintro e w' ⟨rfl,rfl⟩
  go_wp2_with fail
  go_ret;exact⟨gT D.out.symm,rfl⟩
theorem aft(x:Int)(w:World)(b:aR x):Calls Tryz.prog 224 #[x] w fun e w'=>e=.returned (.int .i64 (Fu x))/\w=w':=by
 obtain⟨l,m⟩:=b;by_cases hm:x= -9223372036854775808
 ·subst hm;go_enter Tryz.func224,Tryz.ntmps224
  go_wp2_with fail
  go_ret;exact⟨gT ah,rfl⟩
 ·have hb:(x== -9223372036854775808)=false:=by simpa using hm
  have j: -9223372036854775808<x:=om;clear hm;go_enter Tryz.func224,Tryz.ntmps224
  go_wp2_with fail
  go_ret;exact⟨gT (by rw[Fu,uE,if_neg om,if_neg om]),rfl⟩
def fint(n:Int):Int:=uE (n*4294967296)
theorem Xp(n:Int):aR (fint n):=Xi _
theorem Fw(n:Int)(w:World):Calls Tryz.prog 26 #[n] w fun e w'=>e=.returned (.int .i64 (fint n))/\w=w':=by
 by_cases b:2147483648<=n
 ·go_enter Tryz.func26,Tryz.ntmps26
  go_wp2_with fail
  go_ret;exact⟨gT (by rw[fint,uE,if_neg om,if_pos om]),rfl⟩
 ·by_cases j:n< -2147483648
  ·go_enter Tryz.func26,Tryz.ntmps26
   go_wp2_with fail
   go_ret;exact⟨gT (by rw[fint,uE,if_pos om]),rfl⟩
  ·go_enter Tryz.func26,Tryz.ntmps26
   go_wp2_with fail
   go_ret;exact⟨gT (by rw[fint,uE,if_neg om,if_neg om]),rfl⟩
def uF(x low high:Int):Int:=if high<x then high else if x<low then low else x
theorem afu(x low high:Int)(w:World):Calls Tryz.prog 262 #[x,low,high] w fun e w'=>e=.returned (.int .i64 (uF x low high))/\w=w':=by
 by_cases b:high<x
 ·go_enter Tryz.func262,Tryz.ntmps262
  go_wp2_with fail
  go_ret;exact⟨gT (by rw[uF,if_pos b]),rfl⟩
 ·by_cases j:x<low
  ·go_enter Tryz.func262,Tryz.ntmps262
   go_wp2_with fail
   go_ret;exact⟨gT (by rw[uF,if_neg om,if_pos j]),rfl⟩
  ·go_enter Tryz.func262,Tryz.ntmps262
   go_wp2_with fail
   go_ret;exact⟨gT (by rw[uF,if_neg om,if_neg om]),rfl⟩
def uG(l:List Int):Int:=l.foldl dQ 0
theorem Xq(l:List Int)(x:Int):uG (l++[x])=dQ (uG l) x:=by simp[uG]
theorem Qq(l:List Int):aR (uG l):=by
 rcases List.eq_nil_or_concat l with rfl|⟨m,x,rfl⟩
 ·exact⟨ah,ah⟩
 ·rw[List.concat_eq_append,Xq];exact BG _ _
theorem afv(A:Option Addr)(c:Nat)(l:List Int)(w:World)(hs:l.length<=1000000)(hb:Hid (∀z∈l,aR z))(h:Rd w A l):
  Calls Tryz.prog 211 #[.slice A l.length c] w fun e w'=>e=.returned (.int .i64 (uG l))/\w=w':=by
 go_enter Tryz.func211,Tryz.ntmps211
 go_wp2_with fail
 go_loop [3,8] (fun s i=>∃k:Nat,k<=l.length/\i=.int .i64 k/\s=.int .i64 (uG (l.take k))) (fun _ i=>l.length-(intOf i).toNat)
 case atStart=>exact⟨0,aS _,rfl,rfl⟩
 case round=>
  obtain⟨k,u,rfl,rfl⟩:=hrel;by_cases j:k<l.length
  ·obtain⟨b,off,z,rfl,r,y,m⟩:=h.get j;have CA:=ae (Dp (uG (l.take k)) z w (Qq _) (hb.out z (aK m.out)))
   go_wp2_with fail
   refine CA.out.mono ?_;rintro e w' ⟨rfl,rfl⟩
   go_wp2_with fail
   go_round
   case rel=>exact⟨k+1,om,by go_num,by rw[take_at m.out,Xq]⟩
   case measure=>simp[intOf];omega
  ·have e:Hid (l.take k=l):=ae (dB om)
   go_wp2_with fail
   go_ret;exact⟨gT (by rw[e.out]),rfl⟩
end
class I6(x:Int):Prop where
 bd:aR x
class dh(xs:List Int):Prop where
 bd:∀z∈xs,aR z
section
variable{x y:Int}{xs:List Int}
instance I6.mul[a:I6 x][b:I6 y]:I6 (dI x y):=⟨xm a.bd b.bd⟩
instance:I6 0:=⟨ah,ah⟩
instance:I6 1:=⟨ah,ah⟩
instance:I6 2:=⟨ah,ah⟩
instance:I6 3:=⟨ah,ah⟩
instance:I6 4:=⟨ah,ah⟩
instance:I6 5:=⟨ah,ah⟩
instance:I6 6:=⟨ah,ah⟩
instance:I6 7:=⟨ah,ah⟩
instance:I6 (-1):=⟨ah,ah⟩
instance:I6 1073741824:=⟨ah,ah⟩
instance:I6 2147483648:=⟨ah,ah⟩
instance:I6 4294967296:=⟨ah,ah⟩
instance:I6 (-4294967296):=⟨ah,ah⟩
instance:I6 9223372036854775807:=⟨ah,ah⟩
theorem dh.hid[a:dh xs]:Hid (∀z∈xs,aR z):=ae a.bd
theorem dh.at[a:dh xs]{k:Nat}(h:xs[k]?=some x):I6 x:=⟨a.bd x (aK h)⟩
end
theorem BH{P:Program}{f:Nat}{args:Array Value}{w:World}{v:Value}(h:Calls P f args w fun e w'=>e=.returned v/\w=w'):Calls P f args w (aM w v):=
 h.mono fun _ _ ⟨b,j⟩=>⟨b,j▸ai _ _⟩
theorem afw{P:Program}{f:Nat}{args:Array Value}{w:World}{v:Value}(h:Calls P f args w fun e w'=>e=.returned v/\Below w.heap.size w w'):Calls P f args w (aM w v):=
 h.mono fun _ _ ⟨b,j⟩=>⟨b,⟨j⟩⟩
section
variable{w:World}{x y:Int}
theorem BI[a:I6 x][b:I6 y]:Calls Tryz.prog 170 #[x,y] w (aM w (.int .i64 (dI x y))):=BH (Ig x y w a.bd b.bd)
theorem Mh[a:I6 x][b:I6 y]:Calls Tryz.prog 171 #[x,y] w (aM w (.int .i64 (dQ x y))):=BH (Dp x y w a.bd b.bd)
theorem Xr[a:I6 x]:Calls Tryz.prog 224 #[x] w (aM w (.int .i64 (Fu x))):=BH (aft x w a.bd)
theorem Xt{l h:Int}:Calls Tryz.prog 262 #[x,l,h] w (aM w (.int .i64 (uF x l h))):=BH (afu x l h w)
end
structure Tn where
 A:Option Addr
 c:Nat
 zs:List Int
 B:Option Addr
 d:Nat
 xs:List Int
structure Fx(w:World)(b o:Nat)(t:Tn):Prop where
 old:b<w.heap.size
 c0:w.cell? ⟨b,o,none⟩=some (.slice t.A t.zs.length t.c)
 c1:w.cell? ⟨b,o+1,none⟩=some (.slice t.B t.xs.length t.d)
 s:Rd w t.A t.zs
 x:Rd w t.B t.xs
 le:t.xs.length<=t.d
 bd:∀z∈t.xs,aR z
theorem Fx.below{w w':World}{b o:Nat}{t:Tn}(h:Fx w b o t)(hb:Below w.heap.size w w'):Fx w' b o t:=
 ⟨bV h.old hb.size,(hb.cell (p:=⟨b,o,none⟩) h.old).trans h.c0,(hb.cell (p:=⟨b,o+1,none⟩) h.old).trans h.c1,h.s.below hb,h.x.below hb,h.le,h.bd⟩
def mJ(w:World)(A:Option Addr)(ts:List Tn):Prop:=
 ∀j t,ts[j]?=some t->∃b o,A=some ⟨b,o,none⟩/\Fx w b (o+j*2) t
theorem mJ.below{w w':World}{A:Option Addr}{ts:List Tn}(h:mJ w A ts)(hb:Below w.heap.size w w'):mJ w' A ts:=fun j t l=>by
 obtain⟨b,o,e,k⟩:=h j t l;exact⟨b,o,e,k.below hb⟩
theorem mJ.nil(w:World)(A:Option Addr):mJ w A []:=fun j t b=>by simp at b
class Ts(w:World)(A:Option Addr)(n:Nat)(ts:outParam (List Tn)):Prop where
 rd:mJ w A ts
 len:n=ts.length
section
variable{w w':World}{A:Option Addr}{n:Nat}{ts:List Tn}
instance(priority:=low) Ts.step[p:ak w' w][h:Ts w A n ts]:Ts w' A n ts:=⟨h.rd.below p.st,h.len⟩
instance(priority:=low) Ts.empty:Ts w A 0 []:=⟨mJ.nil _ _,rfl⟩
theorem Ts.get(h:Ts w A n ts){k:Nat}(m:k<n):∃b o j c1 zs l d1 xs,A=some ⟨b,o,none⟩/\Old b w/\w.cell? ⟨b,o+k*2,none⟩=some (.slice j zs.length c1)/\w.cell? ⟨b,o+k*2+1,none⟩=some (.slice l xs.length d1)/\
  Sl w j zs.length zs/\Sl w l xs.length xs/\xs.length<=d1/\dh xs/\Hid (ts[k]?=some ⟨j,c1,zs,l,d1,xs⟩):=by
 have e:ts[k]?=some (ts[k]'(by rw[<-h.len];exact m)):=aW _;obtain⟨b,o,rfl,t⟩:=h.rd k _ e;exact⟨b,o,_,_,_,_,_,_,rfl,⟨t.old⟩,t.c0,t.c1,⟨t.s,rfl⟩,⟨t.x,rfl⟩,t.le,⟨t.bd⟩,e⟩
end
section
variable{w:World}{g:Nat}{T:TypeId}{A B C D:Option Addr}{n m c d n' m' c' d':Nat}{zs xs ts ys:List Int}
theorem Qr{v:World}{o:Nat}{t:Tn}{cs:Array Value}(h:aD v g T cs)(b:cs[o]?=some (.slice t.A t.zs.length t.c))(e:cs[o+1]?=some (.slice t.B t.xs.length t.d))(s:Rd v t.A t.zs)(x:Rd v t.B t.xs)(le:t.xs.length<=t.d)(bd:∀z∈t.xs,aR z):Fx v g o t:=
 ⟨h.lt,(h.cell o).trans b,(h.cell (o+1)).trans e,s,x,le,bd⟩
class Le(a b:Nat):Prop where
 le:a<=b
instance Le.same(a:Nat):Le a a:=⟨az _⟩
instance Ts.Dn[h:Bx w g T #[.slice A n c,.slice B m d]][s:Sl w A n zs][x:Sl w B m xs][l:Le m d][i:dh xs]:Ts w (some ⟨g,0,none⟩) 1 [⟨A,c,zs,B,d,xs⟩]:=
 ⟨fun j t b=>by
  cases j with
  |zero=>
   simp at b;subst b;obtain⟨s,rfl⟩:=s;obtain⟨x,rfl⟩:=x;exact⟨g,0,rfl,Qr h.blk rfl rfl s x l.le i.bd⟩
  |succ j=>simp at b,rfl⟩
instance Ts.Md[h:Bx w g T #[.slice A n c,.slice B m d,.slice C n' c',.slice D m' d']][s:Sl w A n zs][x:Sl w B m xs][l:Le m d][i:dh xs][s':Sl w C n' ts][e:Sl w D m' ys][r:Le m' d'][u:dh ys]:Ts w (some ⟨g,0,none⟩) 2 [⟨A,c,zs,B,d,xs⟩,⟨C,c',ts,D,d',ys⟩]:=
 ⟨fun j t b=>by
  obtain⟨s,rfl⟩:=s;obtain⟨x,rfl⟩:=x;obtain⟨s',rfl⟩:=s';obtain⟨e,rfl⟩:=e
  match j with
  |0=>simp at b;subst b;exact⟨g,0,rfl,Qr h.blk rfl rfl s x l.le i.bd⟩
  |1=>simp at b;subst b;exact⟨g,0,rfl,Qr h.blk rfl rfl s' e r.le u.bd⟩
  |j+2=>simp at b,rfl⟩
end
section
open Go.RowKit Go.ChangeShapes Go.WideShapes Go.Deep
section
variable{H:Type}{enc:TypeId×Value->H}{W:World}{base:Nat}{held:Bool}
theorem Xu{a:Addr}{v:Value}(h:W.cell? a=some v):∃b o,a=⟨b,o,none⟩:=by
 obtain⟨b,off,sp⟩:=a;cases sp with
 |none=>exact⟨b,off,rfl⟩
 |some s=>
  exfalso;simp[World.cell?]at h
  split at h<;>simp at h
theorem add_plain(b o k:Nat):(⟨b,o,none⟩:Addr).add k=⟨b,o+k,none⟩:=by
 unfold Addr.add
 split
 ·rename_i e;subst e;rfl
 ·rfl
theorem afx{b:Nat}{cs:List Value}{x:DataW H×List MemPlace}(h:DataW.trod enc Tryz.prog W base (fun _=>true) held b 28 cs=some x)(l:cs.length=2):
  ∃A c zs B d xs,cs=[.slice A zs.length c,.slice B xs.length d]/\IntsIn W A c zs/\IntsIn W B d xs:=by
 match cs,l with
 |[v0,v1],_=>
  obtain⟨_,_,e⟩:=WU Tryz.underlying28 h 0 _ rfl;obtain⟨_,_,j⟩:=WU Tryz.underlying28 h 1 _ rfl;replace e:DataW.trod enc Tryz.prog W base (fun _=>true) held _ 25 [v0]=some _:=e;replace j:DataW.trod enc Tryz.prog W base (fun _=>true) held _ 26 [v1]=some _:=j;obtain⟨A,c,zs,rfl,m⟩:=Qd Tryz.underlying25 Tryz.underlying3 aj e;obtain⟨B,d,xs,rfl,i1⟩:=Qd Tryz.underlying26 Tryz.underlying65 aj j;exact⟨A,c,zs,B,d,xs,rfl,m,i1⟩
end
end
section
open Go.RowKit Go.ChangeShapes Go.WideShapes Go.Deep
def Wt{H:Type}(t:TypeId)(d:DataW H):Prop:=∀n∈d.weights Tryz.prog t,n<=reachBytes
abbrev vV:Nat:=17592186043904
theorem afy{H:Type}{ts:List TypeId}{b:List (DataW H)}(h:(DataW.weightsEach Tryz.prog ts b).all (· <=reachBytes)=true){j:Nat}{t:TypeId}{d:DataW H}(ht:ts[j]?=some t)(hd:b[j]?=some d):Wt t d:=
 fun n e=>by simpa using fK.1 h _ (LC ht hd n e)
section
variable{H:Type}{enc:TypeId×Value->H}{W:World}{base:Nat}{held:Bool}
theorem Xv{T E:TypeId}{j:Nat}{v:Value}{x:DataW H×List MemPlace}(r:Tryz.prog.underlying T=some (.slice E))(hE:Tryz.prog.underlying E=some (.int .i64))(u:Tryz.prog.cellsOf E=1)(hb:Tryz.prog.bytesOf E=8)
  (h:DataW.trod enc Tryz.prog W base (fun _=>true) held j T [v]=some x) (y:Wt T x.1):∃A c zs,v=.slice A (List.length zs) c/\IntsIn W A c zs/\zs.length<=vV:=by
 obtain⟨A,c,zs,rfl,hi⟩:=Qd r hE u h;refine⟨A,c,zs,rfl,hi,?_⟩;rcases open_ints r hE u h with⟨b,_⟩|⟨a,l,c,m,b,_,C,hm,z,B,_,_⟩
 ·injection b with b;injection b with _ e _;omega
 ·injection b with b
  injection b with _ e _
  subst B;have:=y ((((m.take l).length+(m.drop l).length))*8) (by simp[DataW.weights,r,hb,lits]);simp only[LM]at z;simp[reachBytes]at this;unfold vV;omega
theorem Xw{b:Nat}{cs:List Value}{x:DataW H×List MemPlace}(h:DataW.trod enc Tryz.prog W base (fun _=>true) held b 28 cs=some x)(u:cs.length=2)(y:Wt 28 x.1):
  ∃A c zs B d xs,cs=[.slice A (List.length zs) c,.slice B (List.length xs) d]/\IntsIn W A c zs/\IntsIn W B d xs/\zs.length<=vV/\xs.length<=vV:=by
 match cs,u with
 |[v0,v1],_=>
  obtain⟨ys,n,_,z,_,r,hg⟩:=Qc Tryz.underlying28 h
  match ys,r with
  |[y0,y1],_=>
   have C:DataW.trod enc Tryz.prog W base (fun _=>true) held n 25 [v0]=some y0:=hg 0 _ rfl;have D:DataW.trod enc Tryz.prog W base (fun _=>true) held n 26 [v1]=some y1:=hg 1 _ rfl;have e:x.1=.agg [y0.1,y1.1]:=by rw[z];rfl
   have l:∀n∈DataW.weightsEach Tryz.prog [25,26] [y0.1,y1.1],n<=reachBytes:=by
    intro n m;refine y n ?_;rw[e];simp only[DataW.weights,Tryz.underlying28];exact m
   obtain⟨A,c,zs,rfl,E,F⟩:=Xv Tryz.underlying25 Tryz.underlying3 aj aj C (fun n m=>l n (LC (j:=0) rfl rfl n m));obtain⟨B,d,xs,rfl,i1,l1⟩:=Xv Tryz.underlying26 Tryz.underlying65 aj aj D (fun n m=>l n (LC (j:=1) rfl rfl n m));exact⟨A,c,zs,B,d,xs,rfl,E,i1,F,l1⟩
theorem Xx{e:TypeId}:∀{l:List (DataW H)} {d:DataW H},d∈l->∀n∈d.weights Tryz.prog e,n∈DataW.weightsAll Tryz.prog e l
 |a::l,d,h,n,b=>by
  simp only[DataW.weightsAll,dP];rcases dz.1 h with rfl|h
  ·exact .inl b
  ·exact .inr (Xx h n b)
structure Xy(W:World)(A:Option Addr)(c:Nat)(ts:List Tn):Prop where
 rd:mJ W A ts
 big:∀t∈ts,t.zs.length<=vV/\t.xs.length<=vV
 afz:∀t∈ts,t.zs.length<=t.c
 len:ts.length*48<=140737488351232
 cap:ts.length<=c
theorem afA{E:Nat}{v:Value}{x:DataW H×List MemPlace}(h:DataW.trod enc Tryz.prog W base (fun _=>true) held E 23 [v]=some x)(S:Wt 23 x.1):∃A c ts,v=.slice A (List.length ts) c/\Xy W A c ts:=by
 rcases open_slice Tryz.underlying23 h with⟨l,_⟩|⟨a,len,cap,m,n,D,Pl,l,_,T,hm,F,U,hi⟩
 ·injection l with l;subst l
  exact⟨none,0,[],rfl,mJ.nil _ _,au,au,au,az _⟩
 ·injection l with l;subst l
  simp only[LM]at F;subst F;have V:Tryz.prog.cellsOf 28=2:=aj;have Z:Tryz.prog.bytesOf 28=48:=aj;have M:∀i,i<len->Wt 28 (D i):=fun i hi n hn=>by
   refine S n ?_;rw[U];simp only[DataW.weights,Tryz.underlying23,dz,dP];exact .inr (.inl (Xx (dG.2 ⟨i,yF.2 hi,rfl⟩) n hn))
  have r:len*48<=140737488351232:=by
   have:=S ((len+(m-len))*48) (by rw[U];simp[DataW.weights,Tryz.underlying23,Z]);simp[reachBytes]at this;omega
  have key:∀i,i<len->∃(b o:Nat) (t:Tn),a=⟨b,o,none⟩/\Fx W b (o+i*2) t/\t.zs.length<=vV/\t.xs.length<=vV/\t.zs.length<=t.c:=by
   intro i N;obtain⟨cs',X,ht⟩:=hi i om;rw[V]at X;obtain⟨_,O,G⟩:=WJ X;obtain⟨A,c,zs,B,d,xs,rfl,Y,i1,l0,l1⟩:=Xw ht O (M i N);have L:=G 0 om;have P:=G 1 om;rw[Go.Deep.add_add]at L P;have ea:∃b o,a=⟨b,o,none⟩:=by
    obtain⟨cs0,I,Q⟩:=hi 0 om;rw[V]at I;obtain⟨_,J,K⟩:=WJ I;obtain⟨_,_,_,_,_,_,rfl,_,_⟩:=afx Q J;have g:=K 0 om;rw[Go.Deep.add_add]at g;exact Xu (show W.cell? (a.add 0)=some _ from g)
   obtain⟨b',o',rfl⟩:=ea;rw[add_plain]at L P;exact⟨b',o',⟨A,c,zs,B,d,xs⟩,rfl,⟨Px W _ L,L,P,Y.rd,i1.rd,i1.2.1,fun z hz=>WV (i1.2.2.2 z hz)⟩,l0,l1,Y.2.1⟩
  have all:∀k,k<=len->∃ts:List Tn,ts.length=k/\mJ W (some a) ts/\∀t∈ts,t.zs.length<=vV/\t.xs.length<=vV/\t.zs.length<=t.c:=by
   intro k
   induction k with
   |zero=>intro _;exact⟨[],rfl,mJ.nil _ _,au⟩
   |succ k ih=>
    intro hk;obtain⟨ts,r,y,e⟩:=ih om;obtain⟨b,o,t,rfl,ht,T⟩:=key k om;refine⟨ts++[t],by simp[r],fun j u C=>?_,fun u hu=>?_⟩
    ·by_cases hjk:j<k
     ·rw[Bn om]at C;exact y j u C
     ·have:j=k:=by
       have:=(aY.1 C).1;simp at this;omega
      subst this;rw[lC om,r]at C;simp at C;subst C;exact⟨b,o,rfl,ht⟩
    ·rcases dP.1 hu with hu|hu
     ·exact e u hu
     ·simp at hu;subst hu;exact T
  obtain⟨ts,R,y,e⟩:=all len (az _);exact⟨some a,m,ts,by rw[R],y,fun t ht=>⟨(e t ht).1,(e t ht).2.1⟩,fun t ht=>(e t ht).2.2,om,om⟩
end
end
section
open Go.RowKit Go.ChangeShapes Go.WideShapes Go.Deep
section
variable{H:Type}{enc:TypeId×Value->H}{W:World}{base:Nat}{held:Bool}
theorem Ih{T:TypeId}{r:Array Field}{e:Nat}{cs:List Value}{x:DataW H×List MemPlace}{b:Nat->Bool}(u:Tryz.prog.underlying T=some (.struct r))(h:DataW.trod enc Tryz.prog W base b held e T cs=some x)(z:Wt T x.1)
  (i:Nat) (f:Field) (l:r[i]?=some f):∃n y,DataW.trod enc Tryz.prog W base b held n f.type ((cs.drop f.offset).take (Tryz.prog.cellsOf f.type))=some y/\Wt f.type y.1:=by
 obtain⟨xs,n,_,B,_,C,hg⟩:=Qc u h;have hi:i<xs.length:=by rw[C];exact(nz.1 l).1
 refine⟨n,xs[i],(hg i f l).trans (aW hi),fun m hm=>z m ?_⟩;rw[B];simp only[DataW.weights,u];refine LC (j:=i) (t:=f.type) (d:=xs[i].1) ?_ ?_ m hm
 ·simp[l]
 ·simp[aW hi]
end
end
section
theorem afB{n k:Nat}{v:Int}(b:k<n):(List.replicate k v++List.replicate (n-k) 0).set k v=List.replicate (k+1) v++List.replicate (n-(k+1)) 0:=by
 rw[yA _ _ au];simp only[lF,l9];rw[show n-k=(n-(k+1))+1 from om,uo,yC,List.replicate_succ',jX];rfl
theorem afC{n k:Nat}{v:Int}(b:k<n):(List.replicate k v++List.replicate (n-k) 0)[k]?=some 0:=by
 rw[lC au,sj,if_pos bD]
theorem pQ{zs:List Int}(h:aU zs=true):∃n:Nat,aV zs=(n:Int)/\1<=n/\n<=65536:=by
 obtain⟨_,e,b,hp⟩:=(j5 zs).1 h;have j:=(Qf zs b e).1;exact⟨(aV zs).toNat,om,om,om⟩
def afD(w:World)(zs xs:List Int)(e:Ending)(w':World):Prop:=
 ∃g b,e=.returned (.tuple #[.agg #[.slice (some ⟨g,0,none⟩) zs.length zs.length,.slice (some ⟨b,0,none⟩) xs.length xs.length],(0:Int)])/\w.heap.size<=g/\w.heap.size<=b/\Own w' g 3 zs/\Own w' b 65 xs/\Below w.heap.size w w'
theorem Xz(A:Option Addr)(c:Nat)(zs:List Int)(b:Int)(n:Nat)(w:World)(hs:zs.length<=1000000)(h:Rd w A zs)(hr:Hid (aU zs=true))(I:Hid (aV zs=(n:Int))):
  Calls Tryz.prog 62 #[.slice A zs.length c,b] w (afD w zs (List.replicate n b)):=by
 obtain⟨r1,Z,C,D⟩:=(j5 zs).1 hr.out;have O:n<=65536:=by have:=I.out;omega
 clear C D;have J:=(bq w.heap.size w).alloc (az _) (.cells #[.slice none 0 0,.slice none 0 0] 28);have k0:=aD.new w 28 #[.slice none 0 0,.slice none 0 0];have K:Hid (bJ zs=(n:Int)/\eT zs=0):=ae (by simp[bJ,eT,hr.out,I.out]);have E:=fun W=>run_make_row' (P:=Tryz.prog) 26 65 (.int .i64 0) 8 Tryz.underlying26 aj rfl .i64 .i64 n om om W;rw[EW]at E;go_enter Tryz.func62,Tryz.ntmps62
 go_wp2_with fail
 refine(Mc A c zs _ hs (h.below J)).mono ?_;rintro e r ⟨rfl,hb⟩;rw[K.out.1,K.out.2];have k1:=k0.keep hb;have L:=dS J hb;have y:=L.size;clear k0
 go_wp2_with fail
 go_loopw [23] (fun i wr=>∃k:Nat,k<=n/\i=.int .i64 k/\Own wr r.heap.size 65 (List.replicate k b++List.replicate (n-k) 0)/\aD wr w.heap.size 28 #[.slice none 0 0,.slice none 0 0]/\Below w.heap.size w wr) (fun i _=>n-(intOf i).toNat)
 case atStart=>exact⟨0,aS _,rfl,Own.new _ _ _,k1.alloc _,L.alloc y _⟩
 case round=>
  obtain⟨k,hk,rfl,j,m,l⟩:=hrel;by_cases z:k<n
  ·have hc:=j.cell (afC (v:=b) z);have hf:=j.frozen k;have B:=ae (j.aF k b);rw[afB z]at B;have F:=j.bP m ah;have Q:=ae (m.far (p:=⟨r.heap.size,k,none⟩) F.symm (.int .i64 b));clear j m
   go_wp2_with fail
   go_roundw
   case rel=>exact⟨k+1,om,by go_num,B.out,Q.out,l.setCell y _⟩
   case measure=>simp[intOf];omega
  ·have e:List.replicate k b++List.replicate (n-k) 0=List.replicate n b:=by
    obtain rfl:k=n:=om;simp
   rw[e]at j;have B:=ae j;clear j e
   go_wp2_with fail
   refine(Fs A c zs wr hs (h.below l)).mono ?_;rintro e w2 ⟨g,rfl,hg,M,u⟩;have k2:=m.keep u;have N:=B.out.keep u;have R:=dS l u;obtain⟨q0,G⟩:=fC k2;have f0:=k2.frozen 0;have f1:=k2.frozen 1;have n1:=M.bP k2 ah;have S:=N.bP k2 ah;have T:=l.size
   go_wp2_with fail
   have U:=k2.set2 (.slice g zs.length zs.length) (.slice r.heap.size n n);have V:=gW R (az _) (.slice g zs.length zs.length) (.slice r.heap.size n n);have X:=M.dY n1 (.slice g zs.length zs.length) (.slice r.heap.size n n);have Y:=N.dY S (.slice g zs.length zs.length) (.slice r.heap.size n n);clear q0 G;obtain⟨q0,G⟩:=fC U;refine bM (v:=.tuple #[.agg #[.slice g zs.length zs.length,.slice r.heap.size n n],(0:Int)]) (by simp[results,Tryz.results62,go_sem,q0,G]) rfl ?_;exact⟨_,_,by rw[lF],om,om,X,Y,V⟩
end
section
variable{w:World}{A B C D:Option Addr}{n m n' m' c d c' d':Nat}{zs xs ts ys:List Int}
theorem tu[a:Sl w A n zs][b:Sl w B m xs](e:n<=1000000):Calls Tryz.prog 69 #[.agg #[.slice A n c,.slice B m d]] w (aM w (.bool (bH zs xs))):=by
 obtain⟨a,rfl⟩:=a;obtain⟨b,rfl⟩:=b;exact Xh (vU A B c d zs xs w e a)
theorem Dq[a:Sl w A n zs][b:Sl w B m xs](e:n<=1000000)(hm:m<=1000000):Calls Tryz.prog 70 #[.slice A n c,.slice B m d] w (aM w (.bool (decide (zs=xs)))):=by
 obtain⟨a,rfl⟩:=a;obtain⟨b,rfl⟩:=b;exact afm (Ql A B c d zs xs w e hm a b)
def afE(w:World)(zs xs:List Int)(e:Ending)(w':World):Prop:=
 ∃g b,e=.returned (.agg #[.slice (some ⟨g,0,none⟩) zs.length zs.length,.slice (some ⟨b,0,none⟩) xs.length xs.length])/\w.heap.size<=g/\w.heap.size<=b/\Own w' g 3 zs/\Own w' b 65 xs/\ak w' w
theorem Ii[a:Sl w A n zs][b:Sl w B m xs](e:n<=1000000)(hm:m<=1000000):Calls Tryz.prog 71 #[.agg #[.slice A n c,.slice B m d]] w (afE w zs xs):=by
 obtain⟨a,rfl⟩:=a;obtain⟨b,rfl⟩:=b;exact(Dm A B c d zs xs w e hm a b).mono fun _ _ ⟨g,j,l,r,u,o1,y,hb⟩=>⟨g,j,l,r,u,o1,y,⟨hb⟩⟩
end
end Go.Proofs.YtmkjnlifimffkaaGreat
