/- Lemmas. -/
import Derived.Test.YtmkjnlifimffkaaGreatF01
import Derived.Lib.Mul64
import Derived.Laws.Bits64b
import Derived.SizedLaws
import Derived.Recover
import Derived.Defers
namespace Go.Proofs.YtmkjnlifimffkaaGreat
open Go.RowKit Tryz
set_option linter.all false
set_option maxRecDepth 100000
set_option maxHeartbeats 0
section
variable{X w':World}{b f g m:Nat}{Hs T T':TypeId}{A:Option Addr}{zs:List Int}{P:Program}{args i4 wP:Array Value}{v:Value}{md:Region.Mode}{ops:Array Oper}{Q:Exit->Act->World->Prop}{listed:Array Bool}{a:Act}
class Old(b:Nat)(w:World):Prop where
 lt:b<w
class Bx(w:World)(g:Nat)(T:outParam TypeId)(cs:outParam (Array Value)):Prop where
 al:aB w g T cs
class Sl(w:World)(A:Option Addr)(n:Nat)(zs:outParam (List Int)):Prop where
 rd:Rd w A zs
 len:n=zs
section
variable{w:World}{n:Nat}{cs:Array Value}{o o' Hp o3 o4:Obj}
instance(priority:=low) Old.step[p:aj w' w][h:Old b w]:Old b w':=⟨bu h.lt p.st.size⟩
instance(priority:=low) Bx.step[p:aj w' w][h:Bx w g T cs]:Bx w' g T cs:=⟨h.al.keep p.st⟩
instance Bx.new:Bx (X.alloc (.cells cs T)) X.1.size T cs:=⟨aB.new _ _ _⟩
instance Bx.acd:Bx ((X.alloc o).alloc (.cells cs T)) (X.1.size+1) T cs:=⟨aB.fx _ _ _ aG⟩
instance Bx.ace:Bx (((X.alloc o).alloc o').alloc (.cells cs T)) (X.1.size+1+1) T cs:=⟨aB.fx _ _ _ aG⟩
instance Bx.acf:Bx ((((X.alloc o).alloc o').alloc Hp).alloc (.cells cs T)) (X.1.size+1+1+1) T cs:=⟨aB.fx _ _ _ aG⟩
instance Bx.acg:Bx (((((X.alloc o).alloc o').alloc Hp).alloc o3).alloc (.cells cs T)) (X.1.size+1+1+1+1) T cs:=⟨aB.fx _ _ _ aG⟩
def aa[h:Bx w g T cs](i:Nat):w.cell? (g,i)=cs[i]?:=h.al.cell i
def aP[h:Bx w g T cs](i):w.frozen? ⟨g,i,none⟩=false:=h.al.frozen i
instance(priority:=low) Sl.step[p:aj w' w][h:Sl w A n zs]:Sl w' A n zs:=⟨h.rd.below p.st,h.len⟩
instance(priority:=low) Sl.empty:Sl w A 0 []:=⟨Rd.nil _ _,rfl⟩
def aB.XD{k:av}(h:aB w g T (ints k)):Rd w g k:=Own.rd (T:=T) h
section
variable{a b c d e f:Int}
instance Sl.wO[h:Bx w g T #[a]]:Sl w g 1 [a]:=⟨h.al.XD (k:=[a]),rfl⟩
instance Sl.Ky[h:Bx w g T #[a,b]]:Sl w g 2 [a,b]:=⟨h.al.XD (k:=[a,b]),rfl⟩
instance Sl.ach[h:Bx w g T #[a,b,c,d]]:Sl w g 4 [a,b,c,d]:=⟨h.al.XD (k:=[a,b,c,d]),rfl⟩
end
def bL[p:aj w' w][h:Old b w](i):w'.cell? (b,i)=w.cell? (b,i+0):=p.st.cell (p:=⟨b,i,none⟩) h.lt
def nG[p:aj w' w][h:Old b w](i):w'.frozen? ⟨b,i,none⟩=w.frozen? ⟨b,i+0,none⟩:=p.st.frozen (p:=⟨b,i,none⟩) h.lt
def Sl.get(h:Sl w A n zs){k:Nat}(j:k<n):∃b off z,A=some ⟨b,off,none⟩/\Old b w/\w.cell? (b,off+k)=some (.int .i64 z)/\Hx (zs[k]?=some z):=by
 have⟨b,off,z,e,hb,hc,hz⟩:=h.rd.get (k:=k) (by rw[<-h.len];exact j);exact⟨b,off,z,e,⟨hb⟩,hc,hz⟩
theorem ab(w w')[l:aF w w']:aj w' w:=⟨l.st⟩
end
def aD(w:ay)(v:Value)(e:Ending)(w':ay):Prop:=e=.returned v/\aj w' w
section
variable{w:World}
def WJ(h:Calls P f args w (o6 w v)):Calls P f args w (aD w v):=h.mono λ_ _ ⟨b,hb⟩=>⟨b,⟨hb⟩⟩
def XE{b:Bool}(h:Calls P f args w (nD w b)):Calls P f args w (aD w (.bool b)):=h.mono λ_ _ ⟨e,n,hb⟩=>⟨e,⟨hb▸below_drewN (aY _ _) n⟩⟩
def dO{Q:Ending->World->Prop}{cs:eL}(h:∀u,aj u X->Bx u X.1.size T cs->Calls P f args u Q):Calls P f args (X.alloc (.cells cs T)) Q:=
 h _ (aj.alloc _ _) Bx.new
def qS{Q:Ending->World->Prop}{cs:eL}(h:∀u,aj u X->Bx u X.1.size T cs->Bx u (X.1.size+1) T' i4->Calls P f args u Q):Calls P f args ((X.alloc (.cells cs T)).alloc (.cells i4 T')) Q:=
 h _ (ab _ _) ao ao
def XF{Q:Ending->World->Prop}{cs:eL}(h:∀u,aj u X->Bx u X.1.size T cs->Bx u (X.1.size+1) T' i4->Bx u (X.1.size+1+1) Hs wP->Calls P f args u Q):Calls P f args (((X.alloc (.cells cs T)).alloc (.cells i4 T')).alloc (.cells wP Hs)) Q:=
 h _ (ab _ _) ao ao ao
def bh{S:World->Prop}{cs:eL}
  (h:∀u,aj u X->Bx u X.1.size T cs->wpAnyH P md ops Q S m listed a u):wpAnyH P md ops Q S m listed a (X.alloc (.cells cs T)):=
 h _ (aj.alloc _ _) Bx.new
def aH{id:Nat}(X)[l:aF X w](hm:P.follows .mixedOrders=true)
  (h:∀u,aj u w->wpAnyH P .any ops Q (λw'=>aj w' X) ops.size (Array.replicate ops.size false) a u):(Code.region id ops true).wp P Q a w:=
 wp_region_held_drew hm ⟨l.st.drew⟩ (λ_=>h _ (aj.drew w))
def aR{id:Nat}(X:ay)(R:World->Prop)[l:aF X w](hm:P.follows .mixedOrders=true)(b:R w.drew)
  (h:∀u,aj u w->wpAnyH P .any ops Q (λw'=>aj w' X/\R w') ops.size (Array.replicate ops.size false) a u):(Code.region id ops true).wp P Q a w:=
 wp_region_held_drew hm ⟨⟨l.st.drew⟩,b⟩ (λ_=>h _ (aj.drew w))
def am{id:Nat}(hm:P.follows .mixedOrders=true)
  (h:∀u,aj u w->wpAnyH P .any ops Q (λw'=>aj w' w) ops.size (Array.replicate ops.size false) a u):(Code.region id ops true).wp P Q a w:=aH w hm h
end
end
variable{w':World}
section
set_option linter.defProp false
def ha:=And.intro @aa (And.intro @bL @aP)
def h5:=And.intro @aa @bL
def kL{w:ay}[aF w w']:Below w.1.size w w':=a7 w w'
def bq{α:Type}{e:α}{w:ay}[aF w w']:e=e/\aj w' w:=⟨rfl,ab w w'⟩
theorem aK{w:ay}[aF w w']:aj w' w:=ab w w'
end
variable{x y:Int}
def zP(n d:Int):Int:=if d<2*(n%d)\/(2*(n%d)=d/\(n/d)%2=1)then n/d+1 else n/d
def i5(neg:Bool):Int:=if neg then-9223372036854775808 else 9223372036854775807
def gh(q:Int)(neg:Bool):Int:=if 9223372036854775808<=q then i5 neg else(if neg then-q else q)
def jH(x:Int):Int:=if x<0 then-x else x
def mK(x y:Int):Bool:=decide (x<0) !=decide (y<0)
def ch(x y:Int):Int:=gh (zP (jH x*jH y) 4294967296) (mK x y)
def fdiv(x y:Int):Int:=if y=0 then(if x=0 then 0 else i5 (decide (x<0)))else gh (zP (jH x*4294967296) (jH y)) (mK x y)
def gX(x:Int):Int:=if x< -9223372036854775808 then-9223372036854775808 else if 9223372036854775807<x then 9223372036854775807 else x
def cA(x y:Int):Int:=gX (x+y)
def Ay(x:Int):Int:=gX (-x)
def bo(x:Int):Prop:= -9223372036854775808<=x/\x<=9223372036854775807
def hk(h:bo x):0<=jH x/\jH x<=9223372036854775808:=by unfold bo at h;unfold jH;split<;>omega
def wQ(x):bo (gX x):=by unfold gX bo;split<;>(try split)<;>omega
def Az{q:Int}(h:0<=q)(b):bo (gh q b):=by unfold gh i5 bo;cases b<;>simp<;>split<;>omega
def um{n d:Int}(b:0<=n)(hd:0<d):0<=zP n d:=by
 have:=js b (Int.le_of_lt hd);unfold zP;split<;>omega
def gG(b:bo x)(e:bo y):bo (ch x y):=
 Az (um (iC (hk b).1 (hk e).1) ak) _
def jI(x y):bo (cA x y):=wQ _
def En(b:bo x)(e:bo y):bo (fdiv x y):=by
 unfold fdiv;by_cases h:y=0
 .rw[ah h]
  split
  .exact⟨ak,ak⟩
  .unfold i5 bo;split<;>omega
 .rw[ag h];refine Az (um (iC (hk b).1 ak) ?_) _;have:=(hk e).1;unfold jH;split<;>omega
def wrap_toInt(v:BitVec 64):IntKind.i64.wrap (v.toNat:Int)=v.toInt:=by
 rw[aV,BitVec.toInt_eq_toNat_cond];have:=v.isLt
 split<;>omega
def qT(a)(h:bo a):(BitVec.ofInt 64 a).msb=decide (a<0):=by
 have⟨h1,h2⟩:=h;rw[Kh,BitVec.toInt_ofInt];have:a.bmod (2^64)=a:=by rw[Int.bmod_def];split<;>omega
 rw[this]
def qA(a b):bits .xor .i64 a b=(BitVec.ofInt 64 a^^^BitVec.ofInt 64 b).toInt:=wrap_toInt _
def zQ(a b):bits .and .i64 a b=(BitVec.ofInt 64 a&&&BitVec.ofInt 64 b).toInt:=wrap_toInt _
def wR{s:Int}(b:bo x)(e:bo y)(hs:bo s):
  decide (bits .and .i64 (bits .xor .i64 x s) (bits .xor .i64 y s)<0)=((decide (x<0)^^decide (s<0))&&(decide (y<0)^^decide (s<0))):=by
 rw[qA,qA,zQ,Kb,Kb,<-Kh,BitVec.msb_and,Ki,Ki,qT x b,qT y e,qT s hs]
def Ht(n):bo (wrap64 n):=by unfold wrap64 bo;omega
def Hu(n):wrap64 n=(n+9223372036854775808)%18446744073709551616-9223372036854775808:=by unfold wrap64;rfl
def p6(a)(b:0<=a)(j:a<=18446744073709551615):bits .and .u64 a 4294967295=a%4294967296:=by
 obtain⟨n,rfl⟩:=cf b;have h:=bits_and_u64_nat n 4294967295 om om;have e:n&&&4294967295=n%4294967296:=Nat.and_two_pow_sub_one_eq_mod n 32;rw[e]at h;exact h
def Eo(a)(b:0<=a)(j:a<=18446744073709551615):bits .and .u64 a 1=a%2:=by
 obtain⟨n,rfl⟩:=cf b;have h:=bits_and_u64_nat n 1 om om;have e:n&&&1=n%2:=Nat.and_one_is_mod n;rw[e]at h;exact h
def LL(a b)(j:0<=a)(u:a<4294967296)(l:0<=b)(y:b<4294967296):bits .or .u64 (a*4294967296) b=a*4294967296+b:=by
 obtain⟨n,rfl⟩:=cf j;obtain⟨m,rfl⟩:=cf l;have r:(n:Int)*4294967296=((n*4294967296:Nat):Int):=by omega
 rw[r,Kv (n*4294967296) m om om];have e:n*4294967296|||m=n*4294967296+m:=by
  have:=J5 (i:=32) (b:=m) om n;rw[show(2:Nat)^32=4294967296 from rfl]at this;rw[vQ];omega
 rw[e];omega
def p7(x)(w)(h:bo x):() 216 #[x] w λe w'=>e=.returned (.int .u64 (jH x))/\w=w':=by
 have⟨h1,h2⟩:=h;by_cases h:x<0
 .go_in
  go_wp2
  go_ret;refine⟨bz ?_,rfl⟩;rw[bg,bg,jH,ah h];omega
 .go_in
  go_wp2
  go_ret;exact⟨bz (by rw[jH,ag om]),rfl⟩
def kC(b)(w):() 217 #[.bool b] w λe w'=>e=.returned (i5 b:Int)/\w=w':=by
 cases b
 .go_in
  go_wp2
  go_ret;exact⟨rfl,rfl⟩
 .go_in
  go_wp2
  go_ret;exact⟨rfl,rfl⟩
def ie(q)(b)(w)(l:0<=q)(m:q<=18446744073709551615):
  () 218 #[.int .u64 q,.bool b] w λe w'=>e=.returned (gh q b:Int)/\w=w':=by
 by_cases h:9223372036854775807<q
 .have j:Hx (gh q b=i5 b):=ae (by rw[gh,ah om])
  go_in
  go_wp2_with fail
  refine(kC b w).mono ?_;rintro e w' ⟨rfl,rfl⟩
  go_wp2
  go_ret;exact⟨bz j.o.symm,rfl⟩
 .go_in
  cases b
  .go_wp2
   go_ret;exact⟨bz (by rw[gh,ag om];rfl),rfl⟩
  .go_wp2
   go_ret;exact⟨bz (by rw[gh,ag om];rfl),rfl⟩
def Ep(x y:Nat)(F:x<18446744073709551616)(G:y<18446744073709551616)(w:ay):
  () 215 #[.int .u64 x,.int .u64 y] w λe w'=>e=.returned (.tuple #[.int .u64 ((x*y/18446744073709551616:Nat):Int),.int .u64 ((x*y%18446744073709551616:Nat):Int)])/\w=w':=by
 have l:∀a:Nat,a<18446744073709551616->bits .and .u64 (a:Int) 4294967295=((a%4294967296:Nat):Int):=λa I=>by
  rw[p6 a om om];omega
 have r:∀a:Nat,(a:Int)/4294967296=((a/4294967296:Nat):Int):=λa=>om;have u:∀a b:Nat,(a:Int)*(b:Int)=((a*b:Nat):Int):=λa b=>(mm a b).symm;have z:∀a b:Nat,(a:Int)+(b:Int)=((a+b:Nat):Int):=λa b=>(fH a b).symm;have j:∀a:Nat,a<18446744073709551616->IntKind.u64.wrap (a:Int)=(a:Int):=λa I=>by rw[bg];omega
 have m:∀a:Nat,IntKind.u64.wrap (a:Int)=((a%18446744073709551616:Nat):Int):=λa=>by rw[bg];omega
 change Hx _ at l r u z j m;have⟨bd,bt,bw,hhi⟩:=Lib.mul64_hi x y F G;have K:=Lib.half_mul_le (a:=x/4294967296) (b:=y/4294967296) om om;have L:=Lib.half_mul_le (a:=x/4294967296) (b:=y%4294967296) om om;have M:=Lib.half_mul_le (a:=x%4294967296) (b:=y/4294967296) om om;have B:x/4294967296*(y/4294967296)<18446744073709551616:=om;have C:x/4294967296*(y%4294967296)<18446744073709551616:=om;have D:x%4294967296*(y/4294967296)<18446744073709551616:=om;have E:x/4294967296*(y/4294967296)+(x/4294967296*(y%4294967296)+x%4294967296*(y%4294967296)/4294967296)/4294967296<18446744073709551616:=om;have J:x/4294967296*(y/4294967296)+(x/4294967296*(y%4294967296)+x%4294967296*(y%4294967296)/4294967296)/4294967296+((x/4294967296*(y%4294967296)+x%4294967296*(y%4294967296)/4294967296)%4294967296+x%4294967296*(y/4294967296))/4294967296<18446744073709551616:=om
 go_in
 go_wp2
 simp only[l.o x F,l.o y G,r.o,u.o,z.o,j.o _ bd,j.o _ C,j.o _ bt,l.o _ bt,j.o _ D,j.o _ bw,j.o _ B,j.o _ E,j.o _ J,m.o (x*y)];rw[hhi];go_ret2;exact⟨rfl,rfl⟩
def Hv{p:Int}(_h0:0<=p)(_h1:p/18446744073709551616<2147483648):
  p/18446744073709551616*4294967296+p%18446744073709551616/4294967296=p/4294967296/\p%18446744073709551616%4294967296=p%4294967296:=om
def pa(x y:Int)(w:ay)(E:bo x)(F:bo y):
  () 170 #[x,y] w λe w'=>e=.returned (ch x y:Int)/\w=w':=by
 have⟨a,ea⟩:=cf (hk E).1;have⟨b,eb⟩:=cf (hk F).1;have S:a<18446744073709551616:=by have:=(hk E).2;omega
 have hb:b<18446744073709551616:=by have:=(hk F).2;omega
 have M:=ae (Ep a b S hb);have N:=ae (p7 x);have O:=ae (p7 y);rw[ea]at N;rw[eb]at O;have G:Hx (ch x y=gh (zP ((a*b:Nat):Int) 4294967296) (mK x y)):=ae (by rw[ch,ea,eb,mm]);generalize hp:a*b=p at*;have T:((p/18446744073709551616:Nat):Int)=(p:Int)/18446744073709551616:=by omega
 have U:((p%18446744073709551616:Nat):Int)=(p:Int)%18446744073709551616:=by omega
 rw[T,U]at M;have u:0<=(p:Int):=by omega
 generalize(p:Int)=P at*;have Q:=ae (Hv (p:=P) u);generalize I:P/18446744073709551616=hi at*;generalize V:P%18446744073709551616=lo at*;have X:0<=hi:=om;have Y:0<=lo:=om;have Z:lo<=18446744073709551615:=om;have z:=ae I
 go_in
 go_wp2_with fail
 refine(N.o w E).mono ?_;rintro e w' ⟨rfl,rfl⟩
 go_wp2_with fail
 refine(O.o w F).mono ?_;rintro e w' ⟨rfl,rfl⟩
 go_wp2_with fail
 refine(M.o w).mono ?_;rintro e w' ⟨rfl,rfl⟩;have D:Hx ((!decide (x<0)==decide (y<0))=mK x y):=rfl;by_cases B:2147483648<=hi
 .have m:Hx (ch x y=i5 (mK x y)):=ae (by
   have:=z.o;rw[G.o,gh,ah];unfold zP;split<;>omega)
  clear u
  go_wp2_with fail
  rw[D.o];refine(kC _ w).mono ?_;rintro e w' ⟨rfl,rfl⟩
  go_wp2
  go_ret;exact⟨bz m.o.symm,rfl⟩
 .have J:hi<2147483648:=om;have⟨HQ,HM⟩:=Q.o J;have hq:=LL hi (lo/4294967296) X om om om;rw[HQ]at hq;have hr:=p6 lo Y Z;rw[HM]at hr;have K:0<=P/4294967296:=om;have LM:P/4294967296<9223372036854775808:=by have:=z.o;omega
  have ho:=Eo (P/4294967296) K om;have Ut:0<=P%4294967296:=om;have hr1:P%4294967296<4294967296:=om;have R:Hx (zP P 4294967296=if 4294967296<2*(P%4294967296)\/(2*(P%4294967296)=4294967296/\(P/4294967296)%2=1)then P/4294967296+1 else P/4294967296):=rfl;clear HQ HM B Q;generalize P/4294967296=q at*;generalize P%4294967296=r at*;generalize L:q%2=o at*;have qm:0<=o/\o<=1:=om;clear L;by_cases j:2147483648<r\/(r=2147483648/\o=1)
  .have m:Hx (ch x y=gh (q+1) (mK x y)):=ae (by rw[G.o,R.o,ah om]);rcases j with j|⟨j,C⟩
   rotate_left
   focus
    subst C;subst j
   all_goals
    go_wp2_with fail
    rw[D.o];refine(ie (q+1) _ w om om).mono ?_;rintro e w' ⟨rfl,rfl⟩
    go_wp2_with fail
    go_ret;exact⟨bz m.o.symm,rfl⟩
  .have m:Hx (ch x y=gh q (mK x y)):=ae (by rw[G.o,R.o,ag om]);by_cases l:r=2147483648
   .subst l;obtain rfl:o=0:=om;clear j
    go_wp2_with fail
    rw[D.o];refine(ie q _ w om om).mono ?_;rintro e w' ⟨rfl,rfl⟩
    go_wp2_with fail
    go_ret;exact⟨bz m.o.symm,rfl⟩
   .have hr3:r<2147483648:=om;have hr4:(r==2147483648)=false:=by simpa using l
    clear j l
    go_wp2_with fail
    rw[D.o];refine(ie q _ w om om).mono ?_;rintro e w' ⟨rfl,rfl⟩
    go_wp2
    go_ret;exact⟨bz m.o.symm,rfl⟩
def kM(x y)(w)(l:bo x)(m:bo y):() 171 #[x,y] w λe w'=>e=.returned (cA x y:Int)/\w=w':=by
 have r:=ae l;have u:=ae m;obtain⟨D,E⟩:=l;obtain⟨F,G⟩:=m;by_cases j: -9223372036854775808<=x+y/\x+y<=9223372036854775807
 .obtain⟨i1,i2⟩:=j;have ht:=wR r.o u.o (s:=x+y) ⟨i1,i2⟩;have B:decide (bits .and .i64 (bits .xor .i64 x (x+y)) (bits .xor .i64 y (x+y))<0)=false:=by
   rw[ht];by_cases a:x<0<;>by_cases b:y<0<;>by_cases c:x+y<0<;>simp[a,b,c]<;>omega
  clear ht
  go_in
  go_wp2_with fail
  go_ret;exact⟨bz (by rw[cA,gX,ag om,ag om]),rfl⟩
 .have z:=Hu (x+y);have vc:=Ht (x+y);have ht:=wR r.o u.o (s:=wrap64 (x+y)) vc;have B:decide (bits .and .i64 (bits .xor .i64 x (wrap64 (x+y))) (bits .xor .i64 y (wrap64 (x+y)))<0)=true:=by
   rw[ht,z];by_cases a:x<0
   .have b:y<0:=om;have c:¬((x+y+9223372036854775808)%18446744073709551616-9223372036854775808<0):=om;simp[a,b];omega
   .have b:¬y<0:=om;have c:(x+y+9223372036854775808)%18446744073709551616-9223372036854775808<0:=om;simp[a,b];omega
  have C:Hx (cA x y=i5 (decide (x<0))):=ae (by
   rw[cA,gX];by_cases a:x<0
   .rw[ah om];simp[i5,a]
   .rw[ag om,ah om];simp[i5,a])
  clear z ht vc
  go_in
  go_wp2_with fail
  refine(kC _ w).mono ?_;rintro e w' ⟨rfl,rfl⟩
  go_wp2
  go_ret;exact⟨bz C.o.symm,rfl⟩
def Pa(x)(w)(b:bo x):() 224 #[x] w λe w'=>e=.returned (Ay x:Int)/\w=w':=by
 have⟨h1,h2⟩:=b;by_cases hm:x= -9223372036854775808
 .subst hm
  go_in
  go_wp2
  go_ret;exact⟨bz ak,rfl⟩
 .have hb:(x== -9223372036854775808)=false:=by simpa using hm
  have j: -9223372036854775808<x:=om
  go_in
  go_wp2
  go_ret;exact⟨bz (by rw[Ay,gX,ag om,ag om]),rfl⟩
def kN(n:Int):Int:=gX (n*4294967296)
def Er(n):bo (kN n):=wQ _
def mL(n:Int)(w:ay):() 26 #[n] w λe w'=>e=.returned (kN n:Int)/\w=w':=by
 by_cases b:2147483648<=n
 .go_in
  go_wp2
  go_ret;exact⟨bz (by rw[kN,gX,ag om,ah om]),rfl⟩
 .by_cases j:n< -2147483648
  .go_in
   go_wp2
   go_ret;exact⟨bz (by rw[kN,gX,ah om]),rfl⟩
  .go_in
   go_wp2
   go_ret;exact⟨bz (by rw[kN,gX,ag om,ag om]),rfl⟩
def gY(x low high:Int):Int:=if high<x then high else if x<low then low else x
def Hw(x low high:Int)(w:ay):() 262 #[x,low,high] w λe w'=>e=.returned (gY x low high:Int)/\w=w':=by
 by_cases b:high<x
 .go_in
  go_wp2
  go_ret;exact⟨bz (by rw[gY,ah b]),rfl⟩
 .by_cases j:x<low
  .go_in
   go_wp2
   go_ret;exact⟨bz (by rw[gY,ag om,ah j]),rfl⟩
  .go_in
   go_wp2
   go_ret;exact⟨bz (by rw[gY,ag om,ag om]),rfl⟩
def mM(l:av):Int:=l.foldl cA 0
def wS(l)(x):mM (l++[x])=cA (mM l) x:=by simp[mM]
def wU(l):bo (mM l):=by
 rcases List.eq_nil_or_concat l with rfl|⟨m,x,rfl⟩
 .exact⟨ak,ak⟩
 .rw[List.concat_eq_append,wS];exact jI _ _
def Pb(A)(c)(l)(w)(hs:l.length<=1000000)(hb:Hx (∀z∈l,bo z))(h:Rd w A l):
  () 211 #[.slice A l c] w λe w'=>e=.returned (mM l:Int)/\w=w':=by
 go_in
 go_wp2_with fail
 go_loop [3,8] (λs i=>∃k:Nat,k<=l.length/\i=.int .i64 k/\s=.int .i64 (mM (l.take k))) (λ_ i=>l.length-(intOf i).toNat)
 case atStart=>exact⟨0,aT _,rfl,rfl⟩
 case round=>
  obtain⟨k,u,rfl,rfl⟩:=hrel;by_cases j:k<l.length
  .obtain⟨b,off,z,rfl,r,y,m⟩:=h.get j;have CA:=ae (kM (mM (l.take k)) z w (wU _) (hb.o z (aC m.o)))
   go_wp2_with fail
   refine CA.o.mono ?_;rintro e w' ⟨rfl,rfl⟩
   go_wp2
   go_round
   case rel=>exact⟨k+1,om,by go_num,by rw[take_at m.o,wS]⟩
   case measure=>exact e6
  .have e:Hx (l.take k=l):=ae (bR om)
   go_wp2
   go_ret;exact⟨bz (by rw[e.o]),rfl⟩

section
variable{h:Int}{xs:List Int}{P:Program}{f:Nat}{args:Array Value}{v:Value}
class I6(x:Int):Prop where
 bd:bo x
class dp(xs:List Int):Prop where
 bd:∀z∈xs,bo z
instance I6.mul[a:I6 x][b:I6 y]:I6 (ch x y):=⟨gG a.bd b.bd⟩
instance:I6 0:=⟨ak,ak⟩
instance:I6 1:=⟨ak,ak⟩
instance:I6 2:=⟨ak,ak⟩
instance:I6 3:=⟨ak,ak⟩
instance:I6 4:=⟨ak,ak⟩
instance:I6 5:=⟨ak,ak⟩
instance:I6 6:=⟨ak,ak⟩
instance:I6 7:=⟨ak,ak⟩
instance:I6 (-1):=⟨ak,ak⟩
instance:I6 1073741824:=⟨ak,ak⟩
instance:I6 2147483648:=⟨ak,ak⟩
instance:I6 4294967296:=⟨ak,ak⟩
instance:I6 (-4294967296):=⟨ak,ak⟩
instance:I6 9223372036854775807:=⟨ak,ak⟩
def dp.hid[a:dp xs]:Hx (∀z∈xs,bo z):=ae a.bd
theorem dp.at[a:dp xs]{k:Nat}(h:xs[k]?=some x):I6 x:=⟨a.bd x (aC h)⟩
def jJ{w:ay}(h:Calls P f args w λe w'=>e=.returned v/\w=w'):Calls P f args w (aD w v):=
 h.mono λ_ _ ⟨b,j⟩=>⟨b,j▸aK⟩
def Uu{w:ay}(h:Calls P f args w λe w'=>e=.returned v/\Below w.1.size w w'):Calls P f args w (aD w v):=
 h.mono λ_ _ ⟨b,j⟩=>⟨b,⟨j⟩⟩
section
variable{w:World}
def lY[a:I6 x][b:I6 y]:() 170 #[x,y] w (aD w (ch x y:Int)):=jJ (pa x y w a.bd b.bd)
def wt[a:I6 x][b:I6 y]:() 171 #[x,y] w (aD w (cA x y:Int)):=jJ (kM x y w a.bd b.bd)
def Kz[a:I6 x]:() 224 #[x] w (aD w (Ay x:Int)):=jJ (Pa x w a.bd)
def AA{l:Int}:() 262 #[x,l,h] w (aD w (gY x l h:Int)):=jJ (Hw x l h w)
end
end
variable{A B C:Option Addr}{R c c' d d' g m:Nat}{T:TypeId}{xs ys zs:List Int}
structure Tn where
 A:Option Addr
 c:Nat
 zs:List Int
 B:Option Addr
 d:Nat
 xs:List Int
structure LN(w:World)(b o:Nat)(t:Tn):Prop where
 old:b<w
 c0:w.cell? (b,o)=some (.slice t.A t.zs.length t.c)
 c1:w.cell? (b,o+1)=some (.slice t.B t.xs.length t.d)
 s:Rd w t.A t.zs
 x:Rd w t.B t.xs
 le:t.xs.length<=t.d
 bd:∀z∈t.xs,bo z
def LN.below{w w':ay}{b o:Nat}{t:Tn}(h:LN w b o t)(hb:Below w.1.size w w'):LN w' b o t:=
 ⟨bu h.old hb.size,(hb.cell (p:=⟨b,o,none⟩) h.old).trans h.c0,(hb.cell (p:=⟨b,o+1,none⟩) h.old).trans h.c1,h.s.below hb,h.x.below hb,h.le,h.bd⟩
def mN(w:ay)(A:cD)(e:List Tn):Prop:=
 ∀j t,e[j]?=some t->∃b o,A=some ⟨b,o,none⟩/\LN w b (o+j*2) t
def mN.below{w w':ay}{A:cD}{l:List Tn}(h:mN w A l)(hb:Below w.1.size w w'):mN w' A l:=λj t m=>by
 have⟨b,o,e,k⟩:=h j t m;exact⟨b,o,e,k.below hb⟩
def mN.nil(w)(A):mN w A []:=λj t b=>by simp at b
class Ts(w:World)(A:Option Addr)(n:Nat)(ts:outParam (List Tn)):Prop where
 rd:mN w A ts
 len:n=ts
section
variable{w:World}{n:Nat}{ts:List Tn}
instance(priority:=low) Ts.step[p:aj w' w][h:Ts w A n ts]:Ts w' A n ts:=⟨h.rd.below p.st,h.len⟩
instance(priority:=low) Ts.empty:Ts w A 0 []:=⟨mN.nil _ _,rfl⟩
def Ts.get(h:Ts w A n ts){k:Nat}(m:k<n):∃b o j c1 zs l d1 xs,A=some ⟨b,o,none⟩/\Old b w/\w.cell? (b,o+k*2)=some (.slice j zs.length c1)/\w.cell? (b,o+k*2+1)=some (.slice l xs.length d1)/\
  Sl w j zs.length zs/\Sl w l xs.length xs/\xs.length<=d1/\dp xs/\Hx (ts[k]?=some ⟨j,c1,zs,l,d1,xs⟩):=by
 have e:ts[k]?=some (ts[k]'(by rw[<-h.len];exact m)):=bc _;obtain⟨b,o,rfl,t⟩:=h.rd k _ e;exact⟨b,o,_,_,_,_,_,_,rfl,⟨t.old⟩,t.c0,t.c1,⟨t.s,rfl⟩,⟨t.x,rfl⟩,t.le,⟨t.bd⟩,e⟩
end
section
variable{w:World}{D:Option Addr}{n m':Nat}{ts:List Int}
def CK{v:ay}{o:Nat}{t:Tn}{cs:eL}(h:aB v g T cs)(b:cs[o]?=some (.slice t.A t.zs.length t.c))(e:cs[o+1]?=some (.slice t.B t.xs.length t.d))(s:Rd v t.A t.zs)(x:Rd v t.B t.xs)(le:t.xs.length<=t.d)(bd:∀z∈t.xs,bo z):LN v g o t:=
 ⟨h.lt,(h.cell o).trans b,(h.cell (o+1)).trans e,s,x,le,bd⟩
class Le(a b:Nat):Prop where
 le:a<=b
instance Le.same(a:Nat):Le a a:=⟨an _⟩
instance Ts.wO[h:Bx w g T #[(A,n,c),(B,m,d)]][s:Sl w A n zs][x:Sl w B m xs][l:Le m d][i:dp xs]:Ts w g 1 [⟨A,c,zs,B,d,xs⟩]:=
 ⟨λj t b=>by
  cases j with
  |zero=>
   simp at b;subst b;obtain⟨s,rfl⟩:=s;obtain⟨x,rfl⟩:=x;exact⟨g,0,rfl,CK h.al rfl rfl s x l.le i.bd⟩
  |succ j=>simp at b,rfl⟩
instance Ts.Ky[h:Bx w g T #[(A,n,c),(B,m,d),(C,R,c'),(D,m',d')]][s:Sl w A n zs][x:Sl w B m xs][l:Le m d][i:dp xs][e:Sl w C R ts][r:Sl w D m' ys][u:Le m' d'][y:dp ys]:Ts w g 2 [⟨A,c,zs,B,d,xs⟩,⟨C,c',ts,D,d',ys⟩]:=
 ⟨λj t b=>by
  obtain⟨s,rfl⟩:=s;obtain⟨x,rfl⟩:=x;obtain⟨e,rfl⟩:=e;obtain⟨r,rfl⟩:=r
  match j with
  |0=>simp at b;subst b;exact⟨g,0,rfl,CK h.al rfl rfl s x l.le i.bd⟩
  |1=>simp at b;subst b;exact⟨g,0,rfl,CK h.al rfl rfl e r u.le y.bd⟩
  |j+2=>simp at b,rfl⟩
end
variable{H:Type}{enc:TypeId×Value->H}{W:World}{base:Nat}{held:Bool}{v:Value}
section
open Go.RowKit Go.ChangeShapes Go.WideShapes Go.Deep
def wV{a:Addr}(h:W.cell? a=some v):∃b o,a=⟨b,o,none⟩:=by
 have⟨b,off,sp⟩:=a;cases sp with
 |none=>exact⟨b,off,rfl⟩
 |some s=>
  exfalso;simp[World.cell?]at h
  split at h<;>simp at h
def add_plain(b o k):(⟨b,o,none⟩:Addr).add k=⟨b,o+k,none⟩:=by
 unfold Addr.add
 split
 .rename_i e;subst e;rfl
 .rfl
def Hy{cs:iP}{x:DataW H×List MemPlace}(h:DataW.trod enc prog W base (λ_=>true) held m 28 cs=some x)(j:cs.length=2):
  ∃A c zs B d xs,cs=[.slice A zs.length c,.slice B xs.length d]/\jx W A c zs/\jx W B d xs:=by
 match cs,j with
 |[v0,v1],_=>
  have⟨_,_,b⟩:=fld underlying28 h 0 _ rfl;have⟨_,_,e⟩:=fld underlying28 h 1 _ rfl;replace b:DataW.trod enc prog W base (λ_=>true) held _ 25 [v0]=some _:=b;replace e:DataW.trod enc prog W base (λ_=>true) held _ 26 [v1]=some _:=e;obtain⟨A,c,zs,rfl,l⟩:=qP underlying25 underlying3 aq b;obtain⟨B,d,xs,rfl,i1⟩:=qP underlying26 underlying65 aq e;exact⟨A,c,zs,B,d,xs,rfl,l,i1⟩
end
variable{j:Nat}
section
open Go.RowKit Go.ChangeShapes Go.WideShapes Go.Deep
def Wt(t:TypeId)(d:DataW H):Prop:=∀n∈d.weights prog t,n<=reachBytes
abbrev hV:Nat:=17592186043904
def Pc{b:List TypeId}{e:List (DataW H)}(h:(DataW.weightsEach prog b e).all (· <=reachBytes)=true){t:TypeId}{d:DataW H}(ht:b[j]?=some t)(hd:e[j]?=some d):Wt t d:=
 λn l=>by simpa using cZ.1 h _ (vY ht hd n l)
def un{E:TypeId}{x:DataW H×List MemPlace}(r:prog.underlying T=some (.slice E))(hE:prog.underlying E=some (.int .i64))(u:prog.cellsOf E=1)(hb:prog.bytesOf E=8)
  (h:DataW.trod enc prog W base (λ_=>true) held m T [v]=some x) (y:Wt T x.1):∃A c zs,v=.slice A (List.length zs) c/\jx W A c zs/\zs.length<=hV:=by
 obtain⟨A,c,zs,rfl,hi⟩:=qP r hE u h;refine⟨A,c,zs,rfl,hi,?_⟩;rcases open_ints r hE u h with⟨b,_⟩|⟨a,l,c,j,b,_,C,hm,z,B,_,_⟩
 .injection b with b;injection b with _ e _;omega
 .injection b with b
  injection b with _ e _
  subst B;have:=y ((((j.take l).length+(j.drop l).length))*8) (by simp[DataW.weights,r,hb,lits]);simp only[wj]at z;simp[reachBytes]at this;unfold hV;omega
def uo{cs:iP}{x:DataW H×List MemPlace}(h:DataW.trod enc prog W base (λ_=>true) held m 28 cs=some x)(r:cs.length=2)(u:Wt 28 x.1):
  ∃A c zs B d xs,cs=[.slice A (List.length zs) c,.slice B (List.length xs) d]/\jx W A c zs/\jx W B d xs/\zs.length<=hV/\xs.length<=hV:=by
 match cs,r with
 |[v0,v1],_=>
  have⟨ys,n,_,hx,_,Es,hg⟩:=Cx underlying28 h
  match ys,Es with
  |[y0,y1],_=>
   have y:DataW.trod enc prog W base (λ_=>true) held n 25 [v0]=some y0:=hg 0 _ rfl;have z:DataW.trod enc prog W base (λ_=>true) held n 26 [v1]=some y1:=hg 1 _ rfl;have e:x.1=.agg [y0.1,y1.1]:=by rw[hx];rfl
   have b:∀n∈DataW.weightsEach prog [25,26] [y0.1,y1.1],n<=reachBytes:=by
    intro n l;refine u n ?_;rw[e];simp only[DataW.weights,underlying28];exact l
   obtain⟨A,c,zs,rfl,C,D⟩:=un underlying25 underlying3 aq aq y (λn l=>b n (vY (j:=0) rfl rfl n l));obtain⟨B,d,xs,rfl,i1,l1⟩:=un underlying26 underlying65 aq aq z (λn l=>b n (vY (j:=1) rfl rfl n l));exact⟨A,c,zs,B,d,xs,rfl,C,i1,D,l1⟩
def oI{e:TypeId}:∀{l:List (DataW H)} {d:DataW H},d∈l->∀n∈d.weights prog e,n∈DataW.weightsAll prog e l
 |a::l,d,h,n,b=>by
  simp only[DataW.weightsAll,bJ];rcases bT.1 h with rfl|h
  .exact .inl b
  .exact .inr (oI h n b)
structure Pd(W:World)(A:Option Addr)(c:Nat)(ts:List Tn):Prop where
 rd:mN W A ts
 big:∀t∈ts,t.zs<=hV/\t.xs<=hV
 aaH:∀t∈ts,t.zs.length<=t.c
 len:ts.length*48<=140737488351232
 cap:ts<=c
def Et{x:DataW H×List MemPlace}(h:DataW.trod enc prog W base (λ_=>true) held j 23 [v]=some x)(J:Wt 23 x.1):∃A c l,v=.slice A (List.length l) c/\Pd W A c l:=by
 rcases open_slice underlying23 h with⟨r,_⟩|⟨a,len,cap,m,n,D,Y,r,_,K,hm,C,L,hi⟩
 .cases r;exact⟨none,0,[],rfl,mN.nil _ _,aG,aG,aG,an _⟩
 .cases r;simp only[wj]at C;subst C;have M:prog.cellsOf 28=2:=aq;have O:prog.bytesOf 28=48:=aq;have F:∀i,i<len->Wt 28 (D i):=λi hi n P=>by
   refine J n ?_;rw[L];simp only[DataW.weights,underlying23,bT,bJ];exact .inr (.inl (oI (bC.2 ⟨i,hM.2 hi,rfl⟩) n P))
  have e:len*48<=140737488351232:=by
   have:=J ((len+(m-len))*48) (by rw[L];simp[DataW.weights,underlying23,O]);simp[reachBytes]at this;omega
  have key:∀i,i<len->∃(b o:Nat) (t:Tn),a=⟨b,o,none⟩/\LN W b (o+i*2) t/\t.zs.length<=hV/\t.xs.length<=hV/\t.zs.length<=t.c:=by
   intro i G;have⟨i4,hc,ht⟩:=hi i om;rw[M]at hc;have⟨_,wW,LO⟩:=Km hc;obtain⟨A,c,zs,B,d,xs,rfl,N,i1,Q,l1⟩:=uo ht wW (F i G);have E:=LO 0 om;have I:=LO 1 om;rw[Go.Deep.add_add]at E I;have R:∃b o,a=⟨b,o,none⟩:=by
    have⟨cs0,vd,ht0⟩:=hi 0 om;rw[M]at vd;have⟨_,aaI,aaJ⟩:=Km vd;obtain⟨_,_,_,_,_,_,rfl,_,_⟩:=Hy ht0 aaI;have g:=aaJ 0 om;rw[Go.Deep.add_add]at g;exact wV (show W.cell? (a.add 0)=some _ from g)
   obtain⟨S,T,rfl⟩:=R;rw[add_plain]at E I;exact⟨S,T,⟨A,c,zs,B,d,xs⟩,rfl,⟨Cb W _ E,E,I,N.rd,i1.rd,i1.2.1,λz U=>wG (i1.2.2.2 z U)⟩,Q,l1,N.2.1⟩
  have all:∀k,k<=len->∃l:List Tn,l.length=k/\mN W (some a) l/\∀t∈l,t.zs.length<=hV/\t.xs.length<=hV/\t.zs.length<=t.c:=by
   intro k
   induction k with
   |zero=>intro _;exact⟨[],rfl,mN.nil _ _,aG⟩
   |succ k V=>
    intro Z;have⟨l,e,LP,wX⟩:=V om;obtain⟨b,o,t,rfl,ht,K⟩:=key k om;refine⟨l++[t],by simp[e],λaa u y=>?_,λu hu=>?_⟩
    .by_cases X:aa<k
     .rw[lI om]at y;exact LP aa u y
     .have:aa=k:=by
       have:=(a5.1 y).1;simp at this;omega
      subst this;rw[ew om,e]at y;simp at y;subst y;exact⟨b,o,rfl,ht⟩
    .rcases bJ.1 hu with hu|hu
     .exact wX u hu
     .simp at hu;subst hu;exact K
  have⟨l,hts,LP,wX⟩:=all len (an _);exact⟨some a,m,l,by rw[hts],LP,λt ht=>⟨(wX t ht).1,(wX t ht).2.1⟩,λt ht=>(wX t ht).2.2,om,om⟩
end
variable{l:Nat}{fs:Array Field}{spare:Nat->Bool}
section
open Go.RowKit Go.ChangeShapes Go.WideShapes Go.Deep
def Eu{cs:iP}{x:DataW H×List MemPlace}(e:prog.underlying T=some (.struct fs))(h:DataW.trod enc prog W base spare held l T cs=some x)(r:Wt T x.1)
  (i:Nat) (f:Field) (b:fs[i]?=some f):∃n y,DataW.trod enc prog W base spare held n f.type ((cs.drop f.offset).take (prog.cellsOf f.type))=some y/\Wt f.type y.1:=by
 obtain⟨xs,n,_,u,_,z,hg⟩:=Cx e h;have hi:i<xs.length:=by rw[z];exact(eX.1 b).1
 refine⟨n,xs[i],(hg i f b).trans (bc hi),λm hm=>r m ?_⟩;rw[u];simp only[DataW.weights,e];refine vY (j:=i) (t:=f.type) (d:=xs[i].1) ?_ ?_ m hm
 .simp[b]
 .simp[bc hi]
end
def Hz{n k:Nat}{v:Int}(b:k<n):(List.replicate k v++List.replicate (n-k) 0).set k v=List.replicate (k+1) v++List.replicate (n-(k+1)) 0:=by
 rw[kH _ _ aG];simp only[fg,eB];rw[show n-k=(n-(k+1))+1 from om,kI,jq,List.replicate_succ',dg];rfl
def Pe{n k:Nat}{v:Int}(b:k<n):(List.replicate k v++List.replicate (n-k) 0)[k]?=some 0:=by
 rw[ew aG,ix,ah bY]
def cV(h:aA zs=true):∃n:Nat,aN zs=(n:Int)/\1<=n/\n<=65536:=by
 have⟨_,h4,tu,hp⟩:=(bE zs).1 h;have b:=(qQ zs tu h4).1;exact⟨(aN zs).toNat,om,om,om⟩
def XG(w:ay)(zs xs:av)(e:Ending)(w':ay):Prop:=
 ∃g b,e=.returned (.tuple #[.agg #[.slice (some ⟨g,0,none⟩) zs zs.length,.slice (some ⟨b,0,none⟩) xs xs.length],au])/\w.1.size<=g/\w.1.size<=b/\Own w' g 3 zs/\Own w' b 65 xs/\Below w.1.size w w'
def up(A:cD)(c:Nat)(zs:av)(b:Int)(n:Nat)(w:ay)(hs:zs.length<=1000000)(h:Rd w A zs)(hr:Hx (aA zs=true))(D:Hx (aN zs=(n:Int))):
  () 62 #[.slice A zs c,b] w (XG w zs (List.replicate n b)):=by
 have⟨r1,r4,O8,rpr⟩:=(bE zs).1 hr;have K:n<=65536:=by have:=D.o;omega
 have E:=(aY w.1.size w).alloc (an _) (.cells #[(),()] 28);have k0:=aB.new w 28 #[(),()];have F:Hx (bt zs=(n:Int)/\cg zs=0):=ae (by simp[bt,cg,hr.o,D.o]);have B:=λW=>run_make_row' (P:=prog) 26 65 au 8 underlying26 aq rfl .i64 .i64 n om om W;rw[hY]at B
 go_in
 go_wp2_with fail
 refine(r8 A c zs _ hs (h.below E)).mono ?_;rintro e w1 ⟨rfl,hb⟩;rw[F.o.1,F.o.2];have k1:=k0.keep hb;have G:=dW E hb;have u:=G.size
 go_wp2
 go_loopw [23] (λi wr=>∃k:Nat,k<=n/\i=.int .i64 k/\Own wr w1.1.size 65 (List.replicate k b++List.replicate (n-k) 0)/\aB wr w.1.size 28 #[(),()]/\Below w.1.size w wr) (λi _=>n-(intOf i).toNat)
 .exact⟨0,aT _,rfl,Own.new _ _ _,k1.alloc _,G.alloc u _⟩
 ·
  obtain⟨k,S,rfl,j,m,l⟩:=hrel;by_cases y:k<n
  .have T:=j.cell (Pe (v:=b) y);have U:=j.frozen k;have z:=ae (j.ax k b);rw[Hz y]at z;have C:=j.aS m ak;have L:=ae (m.a9 (p:=⟨w1.1.size,k,none⟩) C.symm b)
   go_wp2
   go_roundw
   .exact⟨k+1,om,by go_num,z,L,l.setCell u _⟩
   .simp[intOf];omega
  .have e:List.replicate k b++List.replicate (n-k) 0=List.replicate n b:=by
    obtain rfl:k=n:=om;simp
   rw[e]at j;have z:=ae j
   go_wp2_with fail
   refine(mJ A c zs wr hs (h.below l)).mono ?_;rintro e w2 ⟨g,rfl,hg,I,r⟩;have k2:=m.keep r;have J:=z.o.keep r;have M:=dW l r;have⟨q0,q1⟩:=di k2;have V:=k2.frozen 0;have f1:=k2.frozen 1;have n1:=I.aS k2 ak;have n2:=J.aS k2 ak;have N:=l.size
   go_wp2
   have k3:=k2.cY (.slice g zs zs.length) (w1,n,n);have O:=cM M (an _) (.slice g zs zs.length) (w1,n,n);have Q:=I.cU n1 (.slice g zs zs.length) (w1,n,n);have R:=J.cU n2 (.slice g zs zs.length) (w1,n,n);have⟨q0,q1⟩:=di k3;refine a8 (v:=.tuple #[.agg #[.slice g zs zs.length,(w1,n,n)],au]) (by simp[results,results62,go_sem,q0,q1]) rfl ?_;exact⟨_,_,by rw[fg],om,om,Q,R,O⟩

section
variable{w:World}{D:Option Addr}{n m':Nat}{ts:List Int}
def d9[a:Sl w A n zs][b:Sl w B m xs](e:n<=1000000):() 69 #[.agg #[(A,n,c),(B,m,d)]] w (aD w (.bool (aJ zs xs))):=by
 obtain⟨a,rfl⟩:=a;obtain⟨b,rfl⟩:=b;exact WJ (fW A B c d zs xs w e a)
def i7[a:Sl w A n zs][b:Sl w B m xs](e:n<=1000000)(hm:m<=1000000):() 70 #[(A,n,c),(B,m,d)] w (aD w (.bool (decide (zs=xs)))):=by
 obtain⟨a,rfl⟩:=a;obtain⟨b,rfl⟩:=b;exact XE (tq A B c d zs xs w e hm a b)
def aaK(w:ay)(zs xs:av)(e:Ending)(w':ay):Prop:=
 ∃g b,e=.returned (.agg #[.slice (some ⟨g,0,none⟩) zs zs.length,.slice (some ⟨b,0,none⟩) xs xs.length])/\w.1.size<=g/\w.1.size<=b/\Own w' g 3 zs/\Own w' b 65 xs/\aj w' w
def o8[a:Sl w A n zs][b:Sl w B m xs](e:n<=1000000)(hm:m<=1000000):() 71 #[.agg #[(A,n,c),(B,m,d)]] w (aaK w zs xs):=by
 obtain⟨a,rfl⟩:=a;obtain⟨b,rfl⟩:=b;exact(nF A B c d zs xs w e hm a b).mono λ_ _ ⟨g,j,l,r,u,o1,y,hb⟩=>⟨g,j,l,r,u,o1,y,⟨hb⟩⟩
end
