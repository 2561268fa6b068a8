/- Lemmas. -/
import Derived.Test.YtmkjnlifimffkaaGreatS01
import Derived.Lib.Mul64
import Derived.Laws.Bits64b
import Derived.SizedLaws
import Derived.Recover
import Derived.Defers
namespace Go.Proofs.YtmkjnlifimffkaaGreat
open Go.RowKit Tryz
set_option linter.all false
set_option maxRecDepth 100000
set_option maxHeartbeats 0
variable{Γ:Prop}
variable{w w':World}{c g m n:Nat}{T T':TypeId}{xs zs:List Int}{E:Int}{v0 v1:Value}{A:Option Addr}{cs:Array Value}
def ap(zs xs:au):Bool:=aA zs&&decide ((xs.length:Int)=ax zs)
def aN(zs xs):ap zs xs=true↔aA zs=true/\(xs.length:Int)=ax zs:=by simp[ap]
def aB.gK{B:Nat}(h:Own w g T zs)(b:B<=g)(e:zs.length<=1000000000):aB w B T g zs.length zs:=by
 refine⟨aD,.inr ⟨g,zs.length,ints zs,rfl,b,h,al _,by unfold maxLen;omega,by simp[yH],?_⟩⟩;rw[bY (by simp[ints])];simp[ints]
def RA(w:aa)(zs xs:au)(e:Ending)(w':aa):Prop:=
 ∃g b,e=.returned (.agg #[.slice (some ⟨g,0,none⟩) zs zs.length,.slice (some ⟨b,0,none⟩) xs xs.length])/\w.1.size<=g/\w.1.size<=b/\Own w' g 3 zs/\Own w' b 65 xs/\Below w.1.size w w'
def fH(w:aa)(zs xs:au)(E:Int)(e:Ending)(w':aa):Prop:=
 ∃A c B d,e=.returned (.tuple #[.agg #[.slice A zs c,.slice B xs d],E])/\aB w' w.1.size 3 A c zs/\aB w' w.1.size 65 B d xs/\Below w.1.size w w'
def fH.no(b:zs=[])(j:xs=[])(hb:Below w.1.size w w')(e:Ending)(l:e=.returned (.tuple #[.agg #[(),()],E])):fH w zs xs E e w':=by
 subst b j;exact⟨none,0,none,0,l,aB.nil _ _ _,aB.nil _ _ _,hb⟩
def bI(h:az w g T #[v0,v1]):w.cell? (g,0)=some v0/\w.cell? (g,1)=some v1:=⟨h.cell 0,h.cell 1⟩
def az.bP{a b:Value}(h:az w g T #[a,b])(v0 e):az ((w.setCell (g,0) v0).setCell (g,1) e) g T #[v0,e]:=(h.av 0 v0).av 1 e
def Own.bA{p:Nat}(h:Own w g T zs)(hp:g≠p)(v0 b):Own ((w.setCell (p,0) v0).setCell (p,1) b) g T zs:=
 (h.aY (p:=⟨p,0,none⟩) hp v0).aY (p:=⟨p,1,none⟩) hp b
def aB.bA{B p:Nat}(h:aB w B T A c zs)(hp:∀b,A=some b->b.block≠p)(v0 j):aB ((w.setCell (p,0) v0).setCell (p,1) j) B T A c zs:=
 h.same λb e=>(ba _ ⟨p,1,none⟩ j _ (hp b e)).trans (ba _ ⟨p,0,none⟩ v0 _ (hp b e))
def br{p:Nat}(h:Below n w w')(hp:n<=p)(v0 b):Below n w ((w'.setCell (p,0) v0).setCell (p,1) b):=
 (h.setCell (p:=⟨p,0,none⟩) hp v0).setCell (p:=⟨p,1,none⟩) hp b
def Own.aH(h:Own w g T zs)(b:az w m T' cs)(e:T≠T'):g≠m:=by
 rintro rfl;unfold Own at h;unfold az at b;rw[h]at b;injection b with b;injection b with _ ht;exact e ht
def aB.aH{B:Nat}(h:aB w B T A c zs)(b:az w m T' cs)(j:T≠T'):∀l,A=some l->l.block≠m:=by
 intro l e;rcases h.form with⟨rfl,_,_⟩|⟨g,r,rfl,u,hg,_⟩;cases e;cases e;rintro rfl;unfold az at b;dsimp only at b;rw[hg]at b;injection b with b;injection b with _ ht;exact j ht
def zAk(h:Γ:=by go_wp2;go_ret;exact⟨bU j.o.symm,du l hb⟩):=h
def eJ(A B:bF)(c d:Nat)(zs xs:au)(w:aa)(hs:zs.length<=1000000)(h:Rd w A zs):
  () 69 #[.agg #[.slice A zs c,.slice B xs d]] w (ov w (.bool (ap zs xs))):=by
 have l:=(aV w.1.size w).alloc (al _) (.cells #[.slice A zs c,.slice B xs d] 28);have k0:=az.new w 28 #[.slice A zs c,.slice B xs d];have m:=h.alloc (.cells #[.slice A zs c,.slice B xs d] 28);rcases hr:aA zs with _|_
 .have j:Hx (ap zs xs=false):=ae (by simp[ap,hr]);have b:Hx (bz zs=0/\cA zs=20):=ae (by simp[bz,cA,hr]);go_in;go_wp2_with fail;refine(tW A c zs _ hs m).mono ?_;rintro e r ⟨rfl,hb⟩;rw[b.o.1,b.o.2];exact zAk
 have b:Hx (bz zs=ax zs/\cA zs=0):=ae (by simp[bz,cA,hr]);have j:Hx (ap zs xs=((xs.length:Int)==ax zs)):=ae (by simp[ap,hr];exact tN.2 aD);go_in;go_wp2_with fail;refine(tW A c zs _ hs m).mono ?_;rintro e r ⟨rfl,hb⟩;rw[b.o.1,b.o.2];have⟨q0,q1⟩:=bI (k0.keep hb);exact zAk
def pg(A B)(c d)(zs xs)(w)(hs:zs.length<=1000000)(G:xs.length<=1000000)(h:Rd w A zs)(r:Rd w B xs):
  () 71 #[.agg #[.slice A zs c,.slice B xs d]] w (RA w zs xs):=by
 have l:=λW=>run_make_row' (P:=prog) 26 65 an 8 underlying26 ao rfl .i64 .i64 xs.length om om W;rw[kj]at l;have j:=((aV w.1.size w).alloc (al _) (.cells #[.slice A zs c,.slice B xs d] 28)).alloc aD (.cells #[(),()] 28);have b:=λu=>sj (P:=prog) 26 26 u 65 65 underlying26 ao xs B d _ (r.below j);rw[kj]at b;simp only[MW]at b;go_in;go_wp2_with fail;refine(mj A c zs _ hs (((h.below j)).alloc _)).mono ?_;rintro e I ⟨g,rfl,hg,m,hb⟩;have y:=du (j.alloc j.size (.cells (ints xs) 65)) hb;have k1:=((az.ew (w.alloc (.cells #[.slice A zs c,.slice B xs d] 28)) 28 #[(),()] (n:=w.1.size+1) aD).alloc (.cells (ints xs) 65)).keep hb;have k2:=(Own.ew ((w.alloc (.cells #[.slice A zs c,.slice B xs d] 28)).alloc (.cells #[(),()] 28)) 65 xs (n:=w.1.size+1+1) aD).keep hb;have⟨q0,q1⟩:=bI k1;have J:=k1.frozen 0;have f1:=k1.frozen 1;simp at hg;go_wp2;have n1:=k2.aH k1 am;have z:=m.aH k1 am;have C:=k1.bP (.slice g zs zs.length) (w.1.size+1+1,xs.length,xs.length);have D:=k2.bA n1 (.slice g zs zs.length) (w.1.size+1+1,xs.length,xs.length);have E:=m.bA z (.slice g zs zs.length) (w.1.size+1+1,xs.length,xs.length);have F:=br y (cz _) (.slice g zs zs.length) (w.1.size+1+1,xs.length,xs.length);have⟨q0,q1⟩:=bI C;refine aX (v:=.agg #[.slice g zs zs.length,(w.1.size+1+1,xs.length,xs.length)]) (by simp[results,results71,go_sem,q0,q1]) rfl ?_;exact⟨g,_,rfl,om,om,E,D,F⟩
def fH.yes(hg:w.1.size<=g)(b:w.1.size<=m)(u:zs.length<=1000000)(y:xs.length<=1000000)(l:Own w' g 3 zs)(j:Own w' m 65 xs)(hb:Below w.1.size w w')(e:Ending)
  (r:e=.returned (.tuple #[.agg #[.slice g zs zs.length,.slice m xs xs.length],an])):fH w zs xs 0 e w':=
 ⟨_,_,_,_,r,aB.gK l hg om,aB.gK j b om,hb⟩
def zAl(h:Γ:=by simp[results,results25,go_sem,q0,q1]):=h
def RB(A B)(c d)(zs xs)(w)(hs:zs.length<=1000000)(h:Rd w A zs)(hr:Hx (ap zs xs=false)):
  () 25 #[.slice A zs c,.slice B xs d] w (fH w [] [] 20):=by
 have b:=((aV w.1.size w).alloc (al _) (.cells #[(),()] 28)).alloc aD (.cells #[.slice A zs c,.slice B xs d] 28);have k0:=(az.new w 28 #[(),()]).alloc (.cells #[.slice A zs c,.slice B xs d] 28);go_in;go_wp2_with fail;refine(eJ A B c d zs xs _ hs (h.below b)).mono ?_;rintro e r ⟨rfl,hb⟩;rw[hr.o];have k1:=k0.keep hb;have j:=du b hb;have⟨q0,q1⟩:=bI k1;have u:=k1.frozen 0;have f1:=k1.frozen 1;go_wp2;have l:=k1.bP () ();have m:=br j (al _) () ();have⟨q0,q1⟩:=bI l;refine aX (v:=.tuple #[.agg #[(),()],(20:Int)]) zAl rfl ?_;exact fH.no rfl rfl m _ rfl
def Og(A B)(c d)(zs xs)(w)(hs:zs.length<=1000000)(y:xs.length<=1000000)(h:Rd w A zs)(D:Rd w B xs)(hr:Hx (ap zs xs=true)):
  () 25 #[.slice A zs c,.slice B xs d] w (fH w zs xs 0):=by
 have z:=((aV w.1.size w).alloc (al _) (.cells #[(),()] 28)).alloc aD (.cells #[.slice A zs c,.slice B xs d] 28);have k0:=(az.new w 28 #[(),()]).alloc (.cells #[.slice A zs c,.slice B xs d] 28);have r:=az.ew (w.alloc (.cells #[(),()] 28)) 28 #[.slice A zs c,.slice B xs d] (n:=w.1.size+1) aD;go_in;go_wp2_with fail;refine(eJ A B c d zs xs _ hs (h.below z)).mono ?_;rintro e E ⟨rfl,hb⟩;rw[hr.o];have k1:=k0.keep hb;have u:=r.keep hb;have m:=du z hb;have⟨p0,p1⟩:=bI u;go_wp2_with fail;refine(pg A B c d zs xs E hs y (h.below m) (D.below m)).mono ?_;rintro e O ⟨g,b,rfl,hg,F,C,j,l⟩;have k2:=k1.keep l;have G:=du m l;have⟨q0,q1⟩:=bI k2;have P:=k2.frozen 0;have f1:=k2.frozen 1;have n1:=C.aH k2 am;have I:=j.aH k2 am;have J:=m.size;go_wp2;have K:=k2.bP (.slice g zs zs.length) (.slice b xs xs.length);have L:=br G (al _) (.slice g zs zs.length) (.slice b xs xs.length);have M:=C.bA n1 (.slice g zs zs.length) (.slice b xs xs.length);have N:=j.bA I (.slice g zs zs.length) (.slice b xs xs.length);have⟨q0,q1⟩:=bI K;refine aX (v:=.tuple #[.agg #[.slice g zs zs.length,.slice b xs xs.length],an]) zAl rfl ?_;exact fH.yes om om hs y M N L _ rfl
section
variable{X:World}{b f k:Nat}{JY:TypeId}{args lW yT:Array Value}{P:Program}{v:Value}{md:Region.Mode}{ops:Array Oper}{Q:Exit->Act->World->Prop}{listed:Array Bool}{a:Act}
class Old(b:Nat)(w:World):Prop where
 lt:b<w
class Bx(w:World)(g:Nat)(T:outParam TypeId)(cs:outParam (Array Value)):Prop where
 ak:az w g T cs
class Sl(w:World)(A:Option Addr)(n:Nat)(zs:outParam (List Int)):Prop where
 rd:Rd w A zs
 len:n=zs
section
variable{o o' JU o3 o4:Obj}
instance(priority:=low) Old.step[p:aj w' w][h:Old b w]:Old b w':=⟨bu h.lt p.st.size⟩
instance(priority:=low) Bx.step[p:aj w' w][h:Bx w g T cs]:Bx w' g T cs:=⟨h.ak.keep p.st⟩
instance Bx.new:Bx (X.alloc (.cells cs T)) X.1.size T cs:=⟨az.new _ _ _⟩
instance Bx.adj:Bx ((X.alloc o).alloc (.cells cs T)) (X.1.size+1) T cs:=⟨az.ew _ _ _ aD⟩
instance Bx.adk:Bx (((X.alloc o).alloc o').alloc (.cells cs T)) (X.1.size+1+1) T cs:=⟨az.ew _ _ _ aD⟩
instance Bx.adl:Bx ((((X.alloc o).alloc o').alloc JU).alloc (.cells cs T)) (X.1.size+1+1+1) T cs:=⟨az.ew _ _ _ aD⟩
instance Bx.adm:Bx (((((X.alloc o).alloc o').alloc JU).alloc o3).alloc (.cells cs T)) (X.1.size+1+1+1+1) T cs:=⟨az.ew _ _ _ aD⟩
def ay[h:Bx w g T cs](i:Nat):w.cell? (g,i)=cs[i]?:=h.ak.cell i
def aO[h:Bx w g T cs](i):w.frozen? ⟨g,i,none⟩=false:=h.ak.frozen i
instance(priority:=low) Sl.step[p:aj w' w][h:Sl w A n zs]:Sl w' A n zs:=⟨h.rd.below p.st,h.len⟩
instance(priority:=low) Sl.empty:Sl w A 0 []:=⟨Rd.nil _ _,rfl⟩
def az.rdL{k:au}(h:az w g T (ints k)):Rd w g k:=Own.rd (T:=T) h
section
variable{a b c d e f:Int}
instance Sl.yS[h:Bx w g T #[a]]:Sl w g 1 [a]:=⟨h.ak.rdL (k:=[a]),rfl⟩
instance Sl.M0[h:Bx w g T #[a,b]]:Sl w g 2 [a,b]:=⟨h.ak.rdL (k:=[a,b]),rfl⟩
instance Sl.adn[h:Bx w g T #[a,b,c,d]]:Sl w g 4 [a,b,c,d]:=⟨h.ak.rdL (k:=[a,b,c,d]),rfl⟩
end
def bW[p:aj w' w][h:Old b w](i):w'.cell? (b,i)=w.cell? (b,i+0):=p.st.cell (p:=⟨b,i,none⟩) h.lt
def jN[p:aj w' w][h:Old b w](i):w'.frozen? ⟨b,i,none⟩=w.frozen? ⟨b,i+0,none⟩:=p.st.frozen (p:=⟨b,i,none⟩) h.lt
def Sl.get(h:Sl w A n zs)(j:k<n):∃b off z,A=some ⟨b,off,none⟩/\Old b w/\w.cell? (b,off+k)=some (.int .i64 z)/\Hx (zs[k]?=some z):=by
 have⟨b,off,z,e,hb,hc,hz⟩:=h.rd.get (k:=k) (by rw[<-h.len];exact j);exact⟨b,off,z,e,⟨hb⟩,hc,hz⟩
theorem aR(w w')[l:aT w w']:aj w' w:=⟨l.st⟩
end
def aJ(w:aa)(v:Value)(e:Ending)(w':aa):Prop:=e=.returned v/\aj w' w
def RC(h:Calls P f args w (ov w v)):Calls P f args w (aJ w v):=h.mono λ_ _ ⟨b,hb⟩=>⟨b,⟨hb⟩⟩
def aam{b:Bool}(h:Calls P f args w (pf w b)):Calls P f args w (aJ w (.bool b)):=h.mono λ_ _ ⟨e,n,hb⟩=>⟨e,⟨hb▸below_drewN (aV _ _) n⟩⟩
def ey{Q:Ending->World->Prop}(h:∀u,aj u X->Bx u X.1.size T cs->Calls P f args u Q):Calls P f args (X.alloc (.cells cs T)) Q:=
 h _ (aj.alloc _ _) Bx.new
def ph{Q:Ending->World->Prop}(h:∀u,aj u X->Bx u X.1.size T cs->Bx u (X.1.size+1) T' lW->Calls P f args u Q):Calls P f args ((X.alloc (.cells cs T)).alloc (.cells lW T')) Q:=
 h _ (aR _ _) aq aq
def aan{Q:Ending->World->Prop}(h:∀u,aj u X->Bx u X.1.size T cs->Bx u (X.1.size+1) T' lW->Bx u (X.1.size+1+1) JY yT->Calls P f args u Q):Calls P f args (((X.alloc (.cells cs T)).alloc (.cells lW T')).alloc (.cells yT JY)) Q:=
 h _ (aR _ _) aq aq aq
def bc{S:World->Prop}
  (h:∀u,aj u X->Bx u X.1.size T cs->wpAnyH P md ops Q S m listed a u):wpAnyH P md ops Q S m listed a (X.alloc (.cells cs T)):=
 h _ (aj.alloc _ _) Bx.new
def ab{id:Nat}(X)[l:aT X w](hm:P.follows .mixedOrders=true)
  (h:∀u,aj u w->wpAnyH P .any ops Q (λw'=>aj w' X) ops.size (Array.replicate ops.size false) a u):(Code.region id ops true).wp P Q a w:=
 wp_region_held_drew hm ⟨l.st.drew⟩ (λ_=>h _ (aj.drew w))
def a6{id:Nat}(X:aa)(R:World->Prop)[l:aT X w](hm:P.follows .mixedOrders=true)(b:R w.drew)
  (h:∀u,aj u w->wpAnyH P .any ops Q (λw'=>aj w' X/\R w') ops.size (Array.replicate ops.size false) a u):(Code.region id ops true).wp P Q a w:=
 wp_region_held_drew hm ⟨⟨l.st.drew⟩,b⟩ (λ_=>h _ (aj.drew w))
def aw{id:Nat}(hm:P.follows .mixedOrders=true)
  (h:∀u,aj u w->wpAnyH P .any ops Q (λw'=>aj w' w) ops.size (Array.replicate ops.size false) a u):(Code.region id ops true).wp P Q a w:=ab w hm h
end
section
set_option linter.defProp false
def ia:=And.intro @ay (And.intro @bW @aO)
def kU:=And.intro @ay @bW
def ml[aT w w']:Below w.1.size w w':=aP w w'
def bB{α:Type}{e:α}[aT w w']:e=e/\aj w' w:=⟨rfl,aR w w'⟩
theorem aF[aT w w']:aj w' w:=aR w w'
end
variable{x y:Int}
def B0(n d:Int):Int:=if d<2*(n%d)\/(2*(n%d)=d/\(n/d)%2=1)then n/d+1 else n/d
def km(neg:Bool):Int:=if neg then-9223372036854775808 else 9223372036854775807
def ha(q:Int)(neg:Bool):Int:=if 9223372036854775808<=q then km neg else(if neg then-q else q)
def kV(x:Int):Int:=if x<0 then-x else x
def oz(x y:Int):Bool:=decide (x<0) !=decide (y<0)
def bN(x y:Int):Int:=ha (B0 (kV x*kV y) 4294967296) (oz x y)
def fdiv(x y:Int):Int:=if y=0 then(if x=0 then 0 else km (decide (x<0)))else ha (B0 (kV x*4294967296) (kV y)) (oz x y)
def il(x:Int):Int:=if x< -9223372036854775808 then-9223372036854775808 else if 9223372036854775807<x then 9223372036854775807 else x
def bQ(x y:Int):Int:=il (x+y)
def CR(x:Int):Int:=il (-x)
def bb(x:Int):Prop:= -9223372036854775808<=x/\x<=9223372036854775807
def iK(h:bb x):0<=kV x/\kV x<=9223372036854775808:=by unfold bb at h;unfold kV;split<;>omega
def yU(x):bb (il x):=by unfold il bb;split<;>(try split)<;>omega
def CS{q:Int}(h:0<=q)(b):bb (ha q b):=by unfold ha km bb;cases b<;>simp<;>split<;>omega
def wB{n d:Int}(b:0<=n)(hd:0<d):0<=B0 n d:=by
 have:=kI b (Int.le_of_lt hd);unfold B0;split<;>omega
def hT(b:bb x)(e:bb y):bb (bN x y):=
 CS (wB (jF (iK b).1 (iK e).1) am) _
def hW(x y):bb (bQ x y):=yU _
def G6(b:bb x)(e:bb y):bb (fdiv x y):=by
 unfold fdiv;by_cases h:y=0
 .rw[ah h];split;exact⟨am,am⟩;unfold km bb;split<;>omega
 rw[ag h];refine CS (wB (jF (iK b).1 am) ?_) _;have:=(iK e).1;unfold kV;split<;>omega
def wrap_toInt(v:BitVec 64):IntKind.i64.wrap (v.toNat:Int)=v.toInt:=by
 rw[a7,BitVec.toInt_eq_toNat_cond];have:=v.isLt;split<;>omega
def sH(a)(h:bb a):(BitVec.ofInt 64 a).msb=decide (a<0):=by
 have⟨h1,h2⟩:=h;rw[MI,BitVec.toInt_ofInt];have:a.bmod (2^64)=a:=by rw[Int.bmod_def];split<;>omega
 rw[this]
def sn(a b):bits .xor .i64 a b=(BitVec.ofInt 64 a^^^BitVec.ofInt 64 b).toInt:=wrap_toInt _
def B1(a b):bits .and .i64 a b=(BitVec.ofInt 64 a&&&BitVec.ofInt 64 b).toInt:=wrap_toInt _
def yV{s:Int}(b:bb x)(e:bb y)(hs:bb s):
  decide (bits .and .i64 (bits .xor .i64 x s) (bits .xor .i64 y s)<0)=((decide (x<0)^^decide (s<0))&&(decide (y<0)^^decide (s<0))):=by
 rw[sn,sn,B1,MF,MF,<-MI,BitVec.msb_and,MK,MK,sH x b,sH y e,sH s hs]
def JZ(n):bb (wrap64 n):=by unfold wrap64 bb;omega
def J0(n):wrap64 n=(n+9223372036854775808)%18446744073709551616-9223372036854775808:=by unfold wrap64;rfl
def rF(a)(b:0<=a)(j:a<=18446744073709551615):bits .and .u64 a 4294967295=a%4294967296:=by
 obtain⟨n,rfl⟩:=bJ b;have h:=bits_and_u64_nat n 4294967295 om om;have e:n&&&4294967295=n%4294967296:=Nat.and_two_pow_sub_one_eq_mod n 32;rw[e]at h;exact h
def G7(a)(b:0<=a)(j:a<=18446744073709551615):bits .and .u64 a 1=a%2:=by
 obtain⟨n,rfl⟩:=bJ b;have h:=bits_and_u64_nat n 1 om om;have e:n&&&1=n%2:=Nat.and_one_is_mod n;rw[e]at h;exact h
def Oh(a b)(j:0<=a)(u:a<4294967296)(l:0<=b)(y:b<4294967296):bits .or .u64 (a*4294967296) b=a*4294967296+b:=by
 obtain⟨n,rfl⟩:=bJ j;obtain⟨m,rfl⟩:=bJ l;have r:(n:Int)*4294967296=((n*4294967296:Nat):Int):=by omega
 rw[r,MX (n*4294967296) m om om];have e:n*4294967296|||m=n*4294967296+m:=by have:=Eh (i:=32) (b:=m) om n;rw[show(2:Nat)^32=4294967296 from rfl]at this;rw[tG];omega
 rw[e];omega
def rG(x)(w)(h:bb x):() 216 #[x] w λe w'=>e=.returned (.int .u64 (kV x))/\w=w':=by
 have⟨h1,h2⟩:=h;by_cases h:x<0
 .go_in;go_wp2;go_ret;refine⟨bC ?_,rfl⟩;rw[bq,bq,kV,ah h];omega
 go_in;go_wp2;go_ret;exact⟨bC (by rw[kV,ag om]),rfl⟩
def l8(b)(w):() 217 #[.bool b] w λe w'=>e=.returned (km b:Int)/\w=w':=by
 cases b
 .go_in;go_wp2;go_ret;exact⟨rfl,rfl⟩
 go_in;go_wp2;go_ret;exact⟨rfl,rfl⟩
def zAi(h:Γ:=by go_wp2;go_ret;exact⟨bC (by rw[ha,ag om];rfl),rfl⟩):=h
def ji(q)(b)(w)(l:0<=q)(m:q<=18446744073709551615):
  () 218 #[.int .u64 q,.bool b] w λe w'=>e=.returned (ha q b:Int)/\w=w':=by
 by_cases h:9223372036854775807<q
 .have j:Hx (ha q b=km b):=ae (by rw[ha,ah om]);go_in;go_wp2_with fail;refine(l8 b w).mono ?_;rintro e w' ⟨rfl,rfl⟩;go_wp2;go_ret;exact⟨bC j.o.symm,rfl⟩
 go_in;cases b;exact zAi;exact zAi
def G8(x y:Nat)(F:x<18446744073709551616)(G:y<18446744073709551616)(w:aa):
  () 215 #[.int .u64 x,.int .u64 y] w λe w'=>e=.returned (.tuple #[.int .u64 ((x*y/18446744073709551616:Nat):Int),.int .u64 ((x*y%18446744073709551616:Nat):Int)])/\w=w':=by
 have l:∀a:Nat,a<18446744073709551616->bits .and .u64 (a:Int) 4294967295=((a%4294967296:Nat):Int):=λa I=>by rw[rF a om om];omega
 have r:∀a:Nat,(a:Int)/4294967296=((a/4294967296:Nat):Int):=λa=>om;have u:∀a b:Nat,(a:Int)*(b:Int)=((a*b:Nat):Int):=λa b=>(b8 a b).symm;have z:∀a b:Nat,(a:Int)+(b:Int)=((a+b:Nat):Int):=λa b=>(ee a b).symm;have j:∀a:Nat,a<18446744073709551616->IntKind.u64.wrap (a:Int)=(a:Int):=λa I=>by rw[bq];omega
 have m:∀a:Nat,IntKind.u64.wrap (a:Int)=((a%18446744073709551616:Nat):Int):=λa=>by rw[bq];omega
 change Hx _ at l r u z j m;have⟨bd,bt,bw,WY⟩:=Lib.mul64_hi x y F G;have K:=Lib.half_mul_le (a:=x/4294967296) (b:=y/4294967296) om om;have L:=Lib.half_mul_le (a:=x/4294967296) (b:=y%4294967296) om om;have M:=Lib.half_mul_le (a:=x%4294967296) (b:=y/4294967296) om om;have B:x/4294967296*(y/4294967296)<18446744073709551616:=om;have C:x/4294967296*(y%4294967296)<18446744073709551616:=om;have D:x%4294967296*(y/4294967296)<18446744073709551616:=om;have E:x/4294967296*(y/4294967296)+(x/4294967296*(y%4294967296)+x%4294967296*(y%4294967296)/4294967296)/4294967296<18446744073709551616:=om;have J:x/4294967296*(y/4294967296)+(x/4294967296*(y%4294967296)+x%4294967296*(y%4294967296)/4294967296)/4294967296+((x/4294967296*(y%4294967296)+x%4294967296*(y%4294967296)/4294967296)%4294967296+x%4294967296*(y/4294967296))/4294967296<18446744073709551616:=om;go_in;go_wp2;simp only[l.o x F,l.o y G,r.o,u.o,z.o,j.o _ bd,j.o _ C,j.o _ bt,l.o _ bt,j.o _ D,j.o _ bw,j.o _ B,j.o _ E,j.o _ J,m.o (x*y)];rw[WY];go_ret2;exact⟨rfl,rfl⟩
def J1{p:Int}(_h0:0<=p)(_h1:p/18446744073709551616<2147483648):
  p/18446744073709551616*4294967296+p%18446744073709551616/4294967296=p/4294967296/\p%18446744073709551616%4294967296=p%4294967296:=om
def zAg(h:Γ:=by rintro e w' ⟨rfl,rfl⟩;go_wp2_with fail;go_ret;exact⟨bC m.o.symm,rfl⟩):=h
def zAh(h:Γ:=by rintro e w' ⟨rfl,rfl⟩;go_wp2;go_ret;exact⟨bC m.o.symm,rfl⟩):=h
def qw(x y:Int)(w:aa)(E:bb x)(F:bb y):
  () 170 #[x,y] w λe w'=>e=.returned (bN x y:Int)/\w=w':=by
 have⟨a,ea⟩:=bJ (iK E).1;have⟨b,eb⟩:=bJ (iK F).1;have S:a<18446744073709551616:=by have:=(iK E).2;omega
 have hb:b<18446744073709551616:=by have:=(iK F).2;omega
 have M:=ae (G8 a b S hb);have N:=ae (rG x);have O:=ae (rG y);rw[ea]at N;rw[eb]at O;have G:Hx (bN x y=ha (B0 ((a*b:Nat):Int) 4294967296) (oz x y)):=ae (by rw[bN,ea,eb,b8]);generalize hp:a*b=p at*;have T:((p/18446744073709551616:Nat):Int)=(p:Int)/18446744073709551616:=by omega
 have U:((p%18446744073709551616:Nat):Int)=(p:Int)%18446744073709551616:=by omega
 rw[T,U]at M;have u:0<=(p:Int):=by omega
 generalize(p:Int)=P at*;have Q:=ae (J1 (p:=P) u);generalize I:P/18446744073709551616=hi at*;generalize V:P%18446744073709551616=lo at*;have X:0<=hi:=om;have Y:0<=lo:=om;have Z:lo<=18446744073709551615:=om;have z:=ae I;go_in;go_wp2_with fail;refine(N.o w E).mono ?_;rintro e w' ⟨rfl,rfl⟩;go_wp2_with fail;refine(O.o w F).mono ?_;rintro e w' ⟨rfl,rfl⟩;go_wp2_with fail;refine(M.o w).mono ?_;rintro e w' ⟨rfl,rfl⟩;have D:Hx ((!decide (x<0)==decide (y<0))=oz x y):=rfl;by_cases B:2147483648<=hi
 .have m:Hx (bN x y=km (oz x y)):=ae (by
   have:=z.o;rw[G.o,ha,ah];unfold B0;split<;>omega)
  clear u;go_wp2_with fail;rw[D.o];refine(l8 _ w).mono ?_;exact zAh
 have J:hi<2147483648:=om;have⟨HQ,HM⟩:=Q.o J;have hq:=Oh hi (lo/4294967296) X om om om;rw[HQ]at hq;have hr:=rF lo Y Z;rw[HM]at hr;have K:0<=P/4294967296:=om;have Oi:P/4294967296<9223372036854775808:=by have:=z.o;omega
 have ho:=G7 (P/4294967296) K om;have WZ:0<=P%4294967296:=om;have W0:P%4294967296<4294967296:=om;have R:Hx (B0 P 4294967296=if 4294967296<2*(P%4294967296)\/(2*(P%4294967296)=4294967296/\(P/4294967296)%2=1)then P/4294967296+1 else P/4294967296):=rfl;clear HQ HM B Q;generalize P/4294967296=q at*;generalize P%4294967296=r at*;generalize L:q%2=o at*;have qe:0<=o/\o<=1:=om;clear L;by_cases j:2147483648<r\/(r=2147483648/\o=1)
 .have m:Hx (bN x y=ha (q+1) (oz x y)):=ae (by rw[G.o,R.o,ah om]);rcases j with j|⟨j,C⟩;rotate_left;(focus subst C;subst j);all_goals go_wp2_with fail;rw[D.o];refine(ji (q+1) _ w om om).mono ?_;exact zAg
 have m:Hx (bN x y=ha q (oz x y)):=ae (by rw[G.o,R.o,ag om]);by_cases l:r=2147483648
 .subst l;obtain rfl:o=0:=om;clear j;go_wp2_with fail;rw[D.o];refine(ji q _ w om om).mono ?_;exact zAg
 have hr3:r<2147483648:=om;have hr4:(r==2147483648)=false:=by simpa using l
 clear j l;go_wp2_with fail;rw[D.o];refine(ji q _ w om om).mono ?_;exact zAh
def mm(x y)(w)(m:bb x)(r:bb y):() 171 #[x,y] w λe w'=>e=.returned (bQ x y:Int)/\w=w':=by
 have u:=ae m;have z:=ae r;obtain⟨E,F⟩:=m;obtain⟨G,I⟩:=r;by_cases l: -9223372036854775808<=x+y/\x+y<=9223372036854775807
 .obtain⟨i1,i2⟩:=l;have ht:=yV u.o z.o (s:=x+y) ⟨i1,i2⟩;(have C:decide (bits .and .i64 (bits .xor .i64 x (x+y)) (bits .xor .i64 y (x+y))<0)=false:=by rw[ht];by_cases a:x<0<;>by_cases b:y<0<;>by_cases c:x+y<0<;>simp[a,b,c]<;>omega);clear ht;go_in;go_wp2_with fail;go_ret;exact⟨bC (by rw[bQ,il,ag om,ag om]),rfl⟩
 have B:=J0 (x+y);have j:=JZ (x+y);have ht:=yV u.o z.o (s:=wrap64 (x+y)) j;have C:decide (bits .and .i64 (bits .xor .i64 x (wrap64 (x+y))) (bits .xor .i64 y (wrap64 (x+y)))<0)=true:=by rw[ht,B];by_cases a:x<0;have b:y<0:=om;have c:¬((x+y+9223372036854775808)%18446744073709551616-9223372036854775808<0):=om;simp[a,b];omega;have b:¬y<0:=om;have c:(x+y+9223372036854775808)%18446744073709551616-9223372036854775808<0:=om;simp[a,b];omega
 have D:Hx (bQ x y=km (decide (x<0))):=ae (by
  rw[bQ,il];by_cases a:x<0
  .rw[ah om];simp[km,a]
  .rw[ag om,ah om];simp[km,a])
 clear B ht j;go_in;go_wp2_with fail;refine(l8 _ w).mono ?_;rintro e w' ⟨rfl,rfl⟩;go_wp2;go_ret;exact⟨bC D.o.symm,rfl⟩
def RD(x)(w)(b:bb x):() 224 #[x] w λe w'=>e=.returned (CR x:Int)/\w=w':=by
 have⟨h1,h2⟩:=b;by_cases hm:x= -9223372036854775808
 .subst hm;go_in;go_wp2;go_ret;exact⟨bC am,rfl⟩
 have hb:(x== -9223372036854775808)=false:=by simpa using hm
 have j: -9223372036854775808<x:=om;go_in;go_wp2;go_ret;exact⟨bC (by rw[CR,il,ag om,ag om]),rfl⟩
def mn(n:Int):Int:=il (n*4294967296)
def G9(n):bb (mn n):=yU _
def oB(n:Int)(w:aa):() 26 #[n] w λe w'=>e=.returned (mn n:Int)/\w=w':=by
 by_cases b:2147483648<=n
 .go_in;go_wp2;go_ret;exact⟨bC (by rw[mn,il,ag om,ah om]),rfl⟩
 by_cases j:n< -2147483648
 .go_in;go_wp2;go_ret;exact⟨bC (by rw[mn,il,ah om]),rfl⟩
 go_in;go_wp2;go_ret;exact⟨bC (by rw[mn,il,ag om,ag om]),rfl⟩
def im(x low high:Int):Int:=if high<x then high else if x<low then low else x
def J2(x low high:Int)(w:aa):() 262 #[x,low,high] w λe w'=>e=.returned (im x low high:Int)/\w=w':=by
 by_cases b:high<x
 .go_in;go_wp2;go_ret;exact⟨bC (by rw[im,ah b]),rfl⟩
 by_cases j:x<low
 .go_in;go_wp2;go_ret;exact⟨bC (by rw[im,ag om,ah j]),rfl⟩
 go_in;go_wp2;go_ret;exact⟨bC (by rw[im,ag om,ag om]),rfl⟩
def oC(l:au):Int:=l.foldl bQ 0
def yW(l)(x):oC (l++[x])=bQ (oC l) x:=by simp[oC]
def yX(l):bb (oC l):=by
 rcases List.eq_nil_or_concat l with rfl|⟨m,x,rfl⟩;exact⟨am,am⟩;rw[List.concat_eq_append,yW];exact hW _ _
def RE(A)(c)(l)(w)(hs:l.length<=1000000)(hb:Hx (∀z∈l,bb z))(h:Rd w A l):
  () 211 #[.slice A l c] w λe w'=>e=.returned (oC l:Int)/\w=w':=by
 go_in;go_wp2_with fail;go_loop [3,8] (λs i=>∃k:Nat,k<=l.length/\i=.int .i64 k/\s=.int .i64 (oC (l.take k))) (λ_ i=>l.length-(intOf i).toNat);case atStart=>exact⟨0,aM _,rfl,rfl⟩
 case round=>
  obtain⟨k,u,rfl,rfl⟩:=hrel;by_cases j:k<l.length
  .obtain⟨b,off,z,rfl,r,y,m⟩:=h.get j;have CA:=ae (mm (oC (l.take k)) z w (yX _) (hb.o z (aC m.o)));go_wp2_with fail;refine CA.o.mono ?_;rintro e w' ⟨rfl,rfl⟩;go_wp2;go_round;(case rel=>exact⟨k+1,om,by go_num,by rw[take_at m.o,yW]⟩);case measure=>exact nT
  have e:Hx (l.take k=l):=ae (bY om);go_wp2;go_ret;exact⟨bC (by rw[e.o]),rfl⟩

section
variable{h:Int}{f k:Nat}{P:Program}{args:Array Value}{v:Value}
class I6(x:Int):Prop where
 bd:bb x
class cv(xs:List Int):Prop where
 bd:∀z∈xs,bb z
instance I6.mul[a:I6 x][b:I6 y]:I6 (bN x y):=⟨hT a.bd b.bd⟩
instance:I6 0:=⟨am,am⟩
instance:I6 1:=⟨am,am⟩
instance:I6 2:=⟨am,am⟩
instance:I6 3:=⟨am,am⟩
instance:I6 4:=⟨am,am⟩
instance:I6 5:=⟨am,am⟩
instance:I6 6:=⟨am,am⟩
instance:I6 7:=⟨am,am⟩
instance:I6 (-1):=⟨am,am⟩
instance:I6 1073741824:=⟨am,am⟩
instance:I6 2147483648:=⟨am,am⟩
instance:I6 4294967296:=⟨am,am⟩
instance:I6 (-4294967296):=⟨am,am⟩
instance:I6 9223372036854775807:=⟨am,am⟩
def cv.hid[a:cv xs]:Hx (∀z∈xs,bb z):=ae a.bd
theorem cv.at[a:cv xs](h:xs[k]?=some x):I6 x:=⟨a.bd x (aC h)⟩
def kW(h:Calls P f args w λe w'=>e=.returned v/\w=w'):Calls P f args w (aJ w v):=
 h.mono λ_ _ ⟨b,j⟩=>⟨b,j▸aF⟩
def W3(h:Calls P f args w λe w'=>e=.returned v/\Below w.1.size w w'):Calls P f args w (aJ w v):=
 h.mono λ_ _ ⟨b,j⟩=>⟨b,⟨j⟩⟩
def ip[a:I6 x][b:I6 y]:() 170 #[x,y] w (aJ w (bN x y:Int)):=kW (qw x y w a.bd b.bd)
def pi[a:I6 x][b:I6 y]:() 171 #[x,y] w (aJ w (bQ x y:Int)):=kW (mm x y w a.bd b.bd)
def M1[a:I6 x]:() 224 #[x] w (aJ w (CR x:Int)):=kW (RD x w a.bd)
def CT{l:Int}:() 262 #[x,l,h] w (aJ w (im x l h:Int)):=kW (J2 x l h w)
end
variable{R b c' d d' k m':Nat}{B C D:Option Addr}{ys:List Int}
structure Tn where
 A:Option Addr
 c:Nat
 zs:List Int
 B:Option Addr
 d:Nat
 xs:List Int
structure Oj(w:World)(b o:Nat)(t:Tn):Prop where
 old:b<w
 c0:w.cell? (b,o)=some (.slice t.A t.zs.length t.c)
 c1:w.cell? (b,o+1)=some (.slice t.B t.xs.length t.d)
 s:Rd w t.A t.zs
 x:Rd w t.B t.xs
 le:t.xs.length<=t.d
 bd:∀z∈t.xs,bb z
def Oj.below{o:Nat}{t:Tn}(h:Oj w b o t)(hb:Below w.1.size w w'):Oj w' b o t:=
 ⟨bu h.old hb.size,(hb.cell (p:=⟨b,o,none⟩) h.old).trans h.c0,(hb.cell (p:=⟨b,o+1,none⟩) h.old).trans h.c1,h.s.below hb,h.x.below hb,h.le,h.bd⟩
def m3(w:aa)(A:bF)(ts:List Tn):Prop:=
 ∀j t,ts[j]?=some t->∃b o,A=some ⟨b,o,none⟩/\Oj w b (o+j*2) t
def m3.below{ts:List Tn}(h:m3 w A ts)(hb:Below w.1.size w w'):m3 w' A ts:=λj t l=>by
 have⟨b,o,e,k⟩:=h j t l;exact⟨b,o,e,k.below hb⟩
def m3.nil(w)(A):m3 w A []:=λj t b=>by simp at b
class Ts(w:World)(A:Option Addr)(n:Nat)(ts:outParam (List Tn)):Prop where
 rd:m3 w A ts
 len:n=ts
section
variable{ts:List Tn}
instance(priority:=low) Ts.step[p:aj w' w][h:Ts w A n ts]:Ts w' A n ts:=⟨h.rd.below p.st,h.len⟩
instance(priority:=low) Ts.empty:Ts w A 0 []:=⟨m3.nil _ _,rfl⟩
def Ts.get(h:Ts w A n ts)(m:k<n):∃b o j c1 zs l d1 xs,A=some ⟨b,o,none⟩/\Old b w/\w.cell? (b,o+k*2)=some (.slice j zs.length c1)/\w.cell? (b,o+k*2+1)=some (.slice l xs.length d1)/\
  Sl w j zs.length zs/\Sl w l xs.length xs/\xs.length<=d1/\cv xs/\Hx (ts[k]?=some ⟨j,c1,zs,l,d1,xs⟩):=by
 have e:ts[k]?=some (ts[k]'(by rw[<-h.len];exact m)):=a5 _;obtain⟨b,o,rfl,t⟩:=h.rd k _ e;exact⟨b,o,_,_,_,_,_,_,rfl,⟨t.old⟩,t.c0,t.c1,⟨t.s,rfl⟩,⟨t.x,rfl⟩,t.le,⟨t.bd⟩,e⟩
end
section
variable{ts:List Int}
def yu{v:aa}{o:Nat}{t:Tn}(h:az v g T cs)(b:cs[o]?=some (.slice t.A t.zs.length t.c))(e:cs[o+1]?=some (.slice t.B t.xs.length t.d))(s:Rd v t.A t.zs)(x:Rd v t.B t.xs)(le:t.xs.length<=t.d)(bd:∀z∈t.xs,bb z):Oj v g o t:=
 ⟨h.lt,(h.cell o).trans b,(h.cell (o+1)).trans e,s,x,le,bd⟩
class Le(a b:Nat):Prop where
 le:a<=b
instance Le.same(a:Nat):Le a a:=⟨al _⟩
instance Ts.yS[h:Bx w g T #[(A,n,c),(B,m,d)]][s:Sl w A n zs][x:Sl w B m xs][l:Le m d][i:cv xs]:Ts w g 1 [⟨A,c,zs,B,d,xs⟩]:=
 ⟨λj t b=>by
  cases j with
  |zero=>
   simp at b;subst b;obtain⟨s,rfl⟩:=s;obtain⟨x,rfl⟩:=x;exact⟨g,0,rfl,yu h.ak rfl rfl s x l.le i.bd⟩
  |succ j=>simp at b,rfl⟩
instance Ts.M0[h:Bx w g T #[(A,n,c),(B,m,d),(C,R,c'),(D,m',d')]][s:Sl w A n zs][x:Sl w B m xs][l:Le m d][i:cv xs][e:Sl w C R ts][r:Sl w D m' ys][u:Le m' d'][y:cv ys]:Ts w g 2 [⟨A,c,zs,B,d,xs⟩,⟨C,c',ts,D,d',ys⟩]:=
 ⟨λj t b=>by
  obtain⟨s,rfl⟩:=s;obtain⟨x,rfl⟩:=x;obtain⟨e,rfl⟩:=e;obtain⟨r,rfl⟩:=r
  match j with
  |0=>simp at b;subst b;exact⟨g,0,rfl,yu h.ak rfl rfl s x l.le i.bd⟩
  |1=>simp at b;subst b;exact⟨g,0,rfl,yu h.ak rfl rfl e r u.le y.bd⟩
  |j+2=>simp at b,rfl⟩
end
variable{H:Type}{enc:TypeId×Value->H}{W:World}{base:Nat}{held:Bool}{v:Value}
section
open Go.RowKit Go.ChangeShapes Go.WideShapes Go.Deep
def yY{a:Addr}(h:W.cell? a=some v):∃b o,a=⟨b,o,none⟩:=by
 have⟨b,off,sp⟩:=a;cases sp with
 |none=>exact⟨b,off,rfl⟩
 |some s=>exfalso;simp[World.cell?]at h;split at h<;>simp at h
def add_plain(b o k):(⟨b,o,none⟩:Addr).add k=⟨b,o+k,none⟩:=by
 unfold Addr.add;split;rename_i e;subst e;rfl;rfl
def J3{cs:j7}{x:DataW H×List MemPlace}(h:DataW.trod enc prog W base (λ_=>true) held m 28 cs=some x)(j:cs.length=2):
  ∃A c zs B d xs,cs=[.slice A zs.length c,.slice B xs.length d]/\kL W A c zs/\kL W B d xs:=by
 match cs,j with
 |[v0,v1],_=>have⟨_,_,b⟩:=fld underlying28 h 0 _ rfl;have⟨_,_,e⟩:=fld underlying28 h 1 _ rfl;replace b:DataW.trod enc prog W base (λ_=>true) held _ 25 [v0]=some _:=b;replace e:DataW.trod enc prog W base (λ_=>true) held _ 26 [v1]=some _:=e;obtain⟨A,c,zs,rfl,l⟩:=sF underlying25 underlying3 ao b;obtain⟨B,d,xs,rfl,i1⟩:=sF underlying26 underlying65 ao e;exact⟨A,c,zs,B,d,xs,rfl,l,i1⟩
end
variable{j:Nat}
section
open Go.RowKit Go.ChangeShapes Go.WideShapes Go.Deep
def Wt(t:TypeId)(d:DataW H):Prop:=∀n∈d.weights prog t,n<=reachBytes
abbrev iY:Nat:=17592186043904
def RF{ts:List TypeId}{b:List (DataW H)}(h:(DataW.weightsEach prog ts b).all (· <=reachBytes)=true){t:TypeId}{d:DataW H}(ht:ts[j]?=some t)(hd:b[j]?=some d):Wt t d:=
 λn e=>by simpa using dz.1 h _ (yd ht hd n e)
def wC{E:TypeId}{x:DataW H×List MemPlace}(r:prog.underlying T=some (.slice E))(hE:prog.underlying E=some (.int .i64))(u:prog.cellsOf E=1)(hb:prog.bytesOf E=8)
  (h:DataW.trod enc prog W base (λ_=>true) held m T [v]=some x) (y:Wt T x.1):∃A c zs,v=.slice A (List.length zs) c/\kL W A c zs/\zs.length<=iY:=by
 obtain⟨A,c,zs,rfl,hi⟩:=sF r hE u h;refine⟨A,c,zs,rfl,hi,?_⟩;rcases open_ints r hE u h with⟨b,_⟩|⟨a,l,c,j,b,_,C,hm,z,B,_,_⟩;injection b with b;injection b with _ e _;omega;injection b with b;injection b with _ e _;subst B;have:=y ((((j.take l).length+(j.drop l).length))*8) (by simp[DataW.weights,r,hb,lits]);simp only[yn]at z;simp[reachBytes]at this;unfold iY;omega
def wD{cs:j7}{x:DataW H×List MemPlace}(h:DataW.trod enc prog W base (λ_=>true) held m 28 cs=some x)(r:cs.length=2)(u:Wt 28 x.1):
  ∃A c zs B d xs,cs=[.slice A (List.length zs) c,.slice B (List.length xs) d]/\kL W A c zs/\kL W B d xs/\zs.length<=iY/\xs.length<=iY:=by
 match cs,r with
 |[v0,v1],_=>
  have⟨ys,n,_,hx,_,tZ,hg⟩:=ES underlying28 h;match ys,tZ with
  |[y0,y1],_=>have y:DataW.trod enc prog W base (λ_=>true) held n 25 [v0]=some y0:=hg 0 _ rfl;have z:DataW.trod enc prog W base (λ_=>true) held n 26 [v1]=some y1:=hg 1 _ rfl;(have e:x.1=.agg [y0.1,y1.1]:=by rw[hx];rfl);(have b:∀n∈DataW.weightsEach prog [25,26] [y0.1,y1.1],n<=reachBytes:=by intro n l;refine u n ?_;rw[e];simp only[DataW.weights,underlying28];exact l);obtain⟨A,c,zs,rfl,C,D⟩:=wC underlying25 underlying3 ao ao y (λn l=>b n (yd (j:=0) rfl rfl n l));obtain⟨B,d,xs,rfl,i1,l1⟩:=wC underlying26 underlying65 ao ao z (λn l=>b n (yd (j:=1) rfl rfl n l));exact⟨A,c,zs,B,d,xs,rfl,C,i1,D,l1⟩
def p6{e:TypeId}:∀{l:List (DataW H)} {d:DataW H},d∈l->∀n∈d.weights prog e,n∈DataW.weightsAll prog e l
 |a::l,d,h,n,b=>by simp only[DataW.weightsAll,bM];rcases cw.1 h with rfl|h;exact .inl b;exact .inr (p6 h n b)
structure RG(W:World)(A:Option Addr)(c:Nat)(ts:List Tn):Prop where
 rd:m3 W A ts
 big:∀t∈ts,t.zs<=iY/\t.xs<=iY
 abq:∀t∈ts,t.zs.length<=t.c
 len:ts.length*48<=140737488351232
 cap:ts<=c
def Ha{x:DataW H×List MemPlace}(h:DataW.trod enc prog W base (λ_=>true) held j 23 [v]=some x)(I:Wt 23 x.1):∃A c ts,v=.slice A (List.length ts) c/\RG W A c ts:=by
 rcases open_slice underlying23 h with⟨l,_⟩|⟨a,len,cap,m,n,D,X,l,_,J,hm,y,K,hi⟩;cases l;exact⟨none,0,[],rfl,m3.nil _ _,aD,aD,aD,al _⟩;cases l;simp only[yn]at y;subst y;have L:prog.cellsOf 28=2:=ao;have N:prog.bytesOf 28=48:=ao;have E:∀i,i<len->Wt 28 (D i):=λi hi n O=>by refine I n ?_;rw[K];simp only[DataW.weights,underlying23,cw,bM];exact .inr (.inl (p6 (bw.2 ⟨i,iU.2 hi,rfl⟩) n O))
 have e:len*48<=140737488351232:=by have:=I ((len+(m-len))*48) (by rw[K];simp[DataW.weights,underlying23,N]);simp[reachBytes]at this;omega
 have key:∀i,i<len->∃(b o:Nat) (t:Tn),a=⟨b,o,none⟩/\Oj W b (o+i*2) t/\t.zs.length<=iY/\t.xs.length<=iY/\t.zs.length<=t.c:=by intro i F;have⟨lW,hc,ht⟩:=hi i om;rw[L]at hc;have⟨_,xd,Ok⟩:=MO hc;obtain⟨A,c,zs,B,d,xs,rfl,M,i1,P,l1⟩:=wD ht xd (E i F);have C:=Ok 0 om;have G:=Ok 1 om;rw[Go.Deep.add_add]at C G;(have Q:∃b o,a=⟨b,o,none⟩:=by have⟨cs0,qf,ht0⟩:=hi 0 om;rw[L]at qf;have⟨_,abr,abt⟩:=MO qf;obtain⟨_,_,_,_,_,_,rfl,_,_⟩:=J3 ht0 abr;have g:=abt 0 om;rw[Go.Deep.add_add]at g;exact yY (show W.cell? (a.add 0)=some _ from g));obtain⟨R,S,rfl⟩:=Q;rw[add_plain]at C G;exact⟨R,S,⟨A,c,zs,B,d,xs⟩,rfl,⟨Es W _ C,C,G,M.rd,i1.rd,i1.2.1,λz T=>yK (i1.2.2.2 z T)⟩,P,l1,M.2.1⟩
 have all:∀k,k<=len->∃ts:List Tn,ts.length=k/\m3 W (some a) ts/\∀t∈ts,t.zs.length<=iY/\t.xs.length<=iY/\t.zs.length<=t.c:=by
  intro k;induction k with
  |zero=>intro _;exact⟨[],rfl,m3.nil _ _,aD⟩
  |succ k U=>intro Y;have⟨ts,e,vi,yZ⟩:=U om;obtain⟨b,o,t,rfl,ht,J⟩:=key k om;refine⟨ts++[t],by simp[e],λZ u r=>?_,λu hu=>?_⟩;by_cases V:Z<k;rw[lK om]at r;exact vi Z u r;(have:Z=k:=by have:=(a8.1 r).1;simp at this;omega);subst this;rw[eE om,e]at r;simp at r;subst r;exact⟨b,o,rfl,ht⟩;rcases bM.1 hu with hu|hu;exact yZ u hu;simp at hu;subst hu;exact J
 have⟨ts,hts,vi,yZ⟩:=all len (al _);exact⟨some a,m,ts,by rw[hts],vi,λt ht=>⟨(yZ t ht).1,(yZ t ht).2.1⟩,λt ht=>(yZ t ht).2.2,om,om⟩
end
variable{fs:Array Field}{spare:Nat->Bool}
section
open Go.RowKit Go.ChangeShapes Go.WideShapes Go.Deep
def Hb{cs:j7}{x:DataW H×List MemPlace}(l:prog.underlying T=some (.struct fs))(h:DataW.trod enc prog W base spare held b T cs=some x)(r:Wt T x.1)
  (i:Nat) (f:Field) (e:fs[i]?=some f):∃n y,DataW.trod enc prog W base spare held n f.type ((cs.drop f.offset).take (prog.cellsOf f.type))=some y/\Wt f.type y.1:=by
 obtain⟨xs,n,_,u,_,z,hg⟩:=ES l h;have hi:i<xs.length:=by rw[z];exact(dP.1 e).1
 refine⟨n,xs[i],(hg i f e).trans (a5 hi),λm hm=>r m ?_⟩;rw[u];simp only[DataW.weights,l];refine yd (j:=i) (t:=f.type) (d:=xs[i].1) ?_ ?_ m hm;simp[e];simp[a5 hi]
end
def J4{v:Int}(b:k<n):(List.replicate k v++List.replicate (n-k) 0).set k v=List.replicate (k+1) v++List.replicate (n-(k+1)) 0:=by
 rw[lA _ _ aD];simp only[eY,fe];rw[show n-k=(n-(k+1))+1 from om,jA,iS,List.replicate_succ',eO];rfl
def RH{v:Int}(b:k<n):(List.replicate k v++List.replicate (n-k) 0)[k]?=some 0:=by
 rw[eE aD,jy,ah cr]
def cP(h:aA zs=true):∃n:Nat,ax zs=(n:Int)/\1<=n/\n<=65536:=by
 have⟨_,h4,sI,hp⟩:=(a2 zs).1 h;have b:=(pd zs sI h4).1;exact⟨(ax zs).toNat,om,om,om⟩
def aao(w:aa)(zs xs:au)(e:Ending)(w':aa):Prop:=
 ∃g b,e=.returned (.tuple #[.agg #[.slice (some ⟨g,0,none⟩) zs zs.length,.slice (some ⟨b,0,none⟩) xs xs.length],an])/\w.1.size<=g/\w.1.size<=b/\Own w' g 3 zs/\Own w' b 65 xs/\Below w.1.size w w'
def wE(A:bF)(c:Nat)(zs:au)(b:Int)(n:Nat)(w:aa)(hs:zs.length<=1000000)(h:Rd w A zs)(hr:Hx (aA zs=true))(E:Hx (ax zs=(n:Int))):
  () 62 #[.slice A zs c,b] w (aao w zs (List.replicate n b)):=by
 have⟨r1,r4,tX,WW⟩:=(a2 zs).1 hr;have L:n<=65536:=by have:=E.o;omega
 have F:=(aV w.1.size w).alloc (al _) (.cells #[(),()] 28);have k0:=az.new w 28 #[(),()];have G:Hx (bz zs=(n:Int)/\cA zs=0):=ae (by simp[bz,cA,hr.o,E.o]);have C:=λW=>run_make_row' (P:=prog) 26 65 an 8 underlying26 ao rfl .i64 .i64 n om om W;rw[kj]at C;go_in;go_wp2_with fail;refine(tW A c zs _ hs (h.below F)).mono ?_;rintro e m ⟨rfl,hb⟩;rw[G.o.1,G.o.2];have k1:=k0.keep hb;have I:=du F hb;have y:=I.size;go_wp2;go_loopw [23] (λi wr=>∃k:Nat,k<=n/\i=.int .i64 k/\Own wr m.1.size 65 (List.replicate k b++List.replicate (n-k) 0)/\az wr w.1.size 28 #[(),()]/\Below w.1.size w wr) (λi _=>n-(intOf i).toNat);exact⟨0,aM _,rfl,Own.new _ _ _,k1.alloc _,I.alloc y _⟩;obtain⟨k,V,rfl,j,r,l⟩:=hrel;by_cases z:k<n
 .have X:=j.cell (RH (v:=b) z);have Y:=j.frozen k;have B:=ae (j.av k b);rw[J4 z]at B;have D:=j.aH r am;have M:=ae (r.aY (p:=⟨m.1.size,k,none⟩) D.symm b);go_wp2;go_roundw;exact⟨k+1,om,by go_num,B,M,l.setCell y _⟩;simp[intOf];omega
 have e:List.replicate k b++List.replicate (n-k) 0=List.replicate n b:=by obtain rfl:k=n:=om;simp
 rw[e]at j;have B:=ae j;go_wp2_with fail;refine(mj A c zs wr hs (h.below l)).mono ?_;rintro e Z ⟨g,rfl,hg,J,u⟩;have k2:=r.keep u;have K:=B.o.keep u;have N:=du l u;have⟨q0,q1⟩:=bI k2;have f0:=k2.frozen 0;have f1:=k2.frozen 1;have n1:=J.aH k2 am;have O:=K.aH k2 am;have Q:=l.size;go_wp2;have R:=k2.bP (.slice g zs zs.length) (m,n,n);have S:=br N (al _) (.slice g zs zs.length) (m,n,n);have T:=J.bA n1 (.slice g zs zs.length) (m,n,n);have U:=K.bA O (.slice g zs zs.length) (m,n,n);have⟨q0,q1⟩:=bI R;refine aX (v:=.tuple #[.agg #[.slice g zs zs.length,(m,n,n)],an]) (by simp[results,results62,go_sem,q0,q1]) rfl ?_;exact⟨_,_,by rw[eY],om,om,T,U,S⟩
def Hc(p)(w):
  CallsD prog 184 #[.pointer (some p)] .returning w λe b w'=>e=.returned (.tuple #[])/\b=.returning/\w'=w:=by
 refine callsD_of_wpS func184 rfl λj cs hu=>?_;apply wpS_seq;apply wpS_region;simp[wpOpsS,go_sem,recoverD,hu,ntmps184,Exit.thenS];refine wpS_cond (t:=false) (by simp[Act.eval,Array.replicate]) ?_;simp only[Bool.false_eq_true,if_false];refine wpS_of_wp (wp_skip ?_);cases j;simp_all [bodyPostS,results,results184]
def zAf(h:Γ:=by refine leaves_cons (f:=184) (args:= #[.pointer w.1.size]) aD (by simp[go_sem]) ?_;refine(Hc ⟨w.1.size,0,none⟩ _).mono ?_;rintro e R F ⟨rfl,rfl,rfl⟩;rw[E.o];simp[Leaves,settle,results,results116,go_sem];exact⟨rfl,(aV _ _).alloc (al _) _⟩):=h
def W4(A B)(c d)(xs l)(w)(S:xs.length<=1000000)(G:Hx (xs.length=l.length))(h:Rd w A xs)(L:Rd w B l):
  () 116 #[.slice A xs c,.slice B l d] w (ov w (.bool (decide (xs=l)))):=by
 have I:=(aV w.1.size w).alloc (al _) (.cells #[.bool false] 4);have g:=h.below I;have M:=L.below I;go_enter_defers func116,ntmps116;go_wp2_with fail;go_loop [10] (λi=>∃k:Nat,k<=xs.length/\i=.int .i64 k/\xs.take k=l.take k) (λi=>xs.length-(intOf i).toNat);exact⟨0,aM _,rfl,rfl⟩;obtain⟨k,T,rfl,r⟩:=hrel;have J:=ae r;clear r;by_cases m:k<xs.length
 .obtain⟨b,off,x,rfl,hb,N,u⟩:=g.get m;(have z:k<l.length:=by rw[<-G.o];exact m);obtain⟨U,K,y,rfl,O,P,C⟩:=M.get z;by_cases j:x=y
  .have Q:(x !=y)=false:=by simp[j]
   have D:=ae j;go_wp2;go_round;exact⟨k+1,om,by go_num,by rw[take_at u.o,take_at C.o,J.o,D.o]⟩;simp[intOf];omega
  have Q:(x !=y)=true:=by simp[j]
  have E:Hx (decide (xs=l)=false):=ae (by simpa using Rv u.o C.o j);go_wp2;exact zAf
 have E:Hx (decide (xs=l)=true):=ae (by simpa using tV G J m);go_wp2_with fail;exact zAf
def zAj(h:Γ:=by go_wp2;go_ret;exact⟨bU y.o.symm,below_drewN l n⟩):=h
def RI(A B C D)(c d m d')(zs xs ts b)(w)(E:zs.length<=1000000)(J:xs.length<=1000000)(ht:ts.length<=1000000)
  (F:Rd w A zs) (K:Rd w B xs) (G:Rd w C ts) (L:Rd w D b):
  () 67 #[.agg #[.slice A zs c,.slice B xs d],.agg #[.slice C ts m,.slice D b d']] w (ov w (.bool (decide (zs=ts)&&decide (xs=b)))):=by
 have l:=((aV w.1.size w).alloc (al _) (.cells #[.slice A zs c,.slice B xs d] 28)).alloc aD (.cells #[.slice C ts m,.slice D b d'] 28);have k0:=(az.new w 28 #[.slice A zs c,.slice B xs d]).alloc (.cells #[.slice C ts m,.slice D b d'] 28);have u:=az.ew (w.alloc (.cells #[.slice A zs c,.slice B xs d] 28)) 28 #[.slice C ts m,.slice D b d'] (n:=w.1.size+1) aD;by_cases r:zs=ts
 .have j:Hx (decide (zs=ts)=true):=ae (by simpa using r);clear r;by_cases z:xs.length=b.length
  .have M:=ae z;(have N:((xs.length:Int)==(b.length:Int))=true:=by simp;omega);have y:Hx ((decide (zs=ts)&&decide (xs=b))=decide (xs=b)):=ae (by rw[j.o];simp);clear z;go_in;go_wp2_with fail;refine(l7 A C c m zs ts _ E ht (F.below l) (G.below l)).mono ?_;rintro e I ⟨rfl,n,rfl⟩;rw[j.o];have⟨p0,p1⟩:=bI (k0.drewN n);obtain⟨q0,O⟩:=bI (u.drewN n);go_wp2_with fail;refine(W4 B D d d' xs b _ J M ((K.below l).drewN n) ((L.below l).drewN n)).mono ?_;rintro e P ⟨rfl,hb⟩;go_wp2_with fail;go_ret;exact⟨bU y.o.symm,du l (Rs hb)⟩
  have N:((xs.length:Int)==(b.length:Int))=false:=by simp;omega
  have y:Hx ((decide (zs=ts)&&decide (xs=b))=false):=ae (by simp;intro _ e;exact z (by rw[e]));clear z;go_in;go_wp2_with fail;refine(l7 A C c m zs ts _ E ht (F.below l) (G.below l)).mono ?_;rintro e I ⟨rfl,n,rfl⟩;rw[j.o];have⟨p0,p1⟩:=bI (k0.drewN n);have⟨q0,O⟩:=bI (u.drewN n);exact zAj
 have j:Hx (decide (zs=ts)=false):=ae (by simpa using r);have y:Hx ((decide (zs=ts)&&decide (xs=b))=false):=ae (by rw[j.o];rfl);go_in;go_wp2_with fail;refine(l7 A C c m zs ts _ E ht (F.below l) (G.below l)).mono ?_;rintro e I ⟨rfl,n,rfl⟩;rw[j.o];exact zAj
section
variable{ts:List Int}
def bD[a:Sl w A n zs][b:Sl w B m xs](e:n<=1000000):() 69 #[.agg #[(A,n,c),(B,m,d)]] w (aJ w (.bool (ap zs xs))):=by
 obtain⟨a,rfl⟩:=a;obtain⟨b,rfl⟩:=b;exact RC (eJ A B c d zs xs w e a)
def f9[a:Sl w A n zs][b:Sl w B m xs](e:n<=1000000)(hm:m<=1000000):() 70 #[(A,n,c),(B,m,d)] w (aJ w (.bool (decide (zs=xs)))):=by
 obtain⟨a,rfl⟩:=a;obtain⟨b,rfl⟩:=b;exact aam (l7 A B c d zs xs w e hm a b)
def CU[a:Sl w A n zs][b:Sl w B m xs][a':Sl w C R ts][e:Sl w D m' ys](l:n<=1000000)(hm:m<=1000000)(j:R<=1000000):() 67 #[.agg #[(A,n,c),(B,m,d)],.agg #[(C,R,c'),(D,m',d')]] w (aJ w (.bool (decide (zs=ts)&&decide (xs=ys)))):=by
 obtain⟨a,rfl⟩:=a;obtain⟨b,rfl⟩:=b;obtain⟨a',rfl⟩:=a';obtain⟨e,rfl⟩:=e;exact RC (RI A B C D c d c' d' zs xs ts ys w l hm j a b a' e)
def abu(w:aa)(zs xs:au)(e:Ending)(w':aa):Prop:=
 ∃g b,e=.returned (.agg #[.slice (some ⟨g,0,none⟩) zs zs.length,.slice (some ⟨b,0,none⟩) xs xs.length])/\w.1.size<=g/\w.1.size<=b/\Own w' g 3 zs/\Own w' b 65 xs/\aj w' w
def gW[a:Sl w A n zs][b:Sl w B m xs](e:n<=1000000)(hm:m<=1000000):() 71 #[.agg #[(A,n,c),(B,m,d)]] w (abu w zs xs):=by
 obtain⟨a,rfl⟩:=a;obtain⟨b,rfl⟩:=b;exact(pg A B c d zs xs w e hm a b).mono λ_ _ ⟨g,j,l,r,u,o1,y,hb⟩=>⟨g,j,l,r,u,o1,y,⟨hb⟩⟩
end
end Go.Proofs.YtmkjnlifimffkaaGreat
