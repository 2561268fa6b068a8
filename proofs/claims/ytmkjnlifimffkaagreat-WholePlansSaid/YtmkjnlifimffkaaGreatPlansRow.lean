/- WholePlans: for every input the statement returns true, and each argument reads afterwards as it read before. No condition. -/
import Derived.Test.YtmkjnlifimffkaaGreatS30
import Derived.Test.YtmkjnlifimffkaaGreatS36
import Derived.Test.YtmkjnlifimffkaaGreatRows
import Derived.Test.YtmkjnlifimffkaaGreatS37
namespace Go.Proofs.YtmkjnlifimffkaaGreat
open Go.RowKit Go.Proofs.Tryz
set_option linter.all false
set_option maxRecDepth 100000
set_option maxHeartbeats 0
variable{Γ:Prop}
attribute[local irreducible]Calls
section
variable{p u w w' w1:World}{A A2 B C PA XA XB:Option Addr}{R b c cp cx d dx f g i j k l m mx n np nx q:Nat}{N:bm}{ps us:List Tn}{t:Tn}{O:List Int}{L:List (List Int)}{F':Nat->Prop}{z0 z1 z2 z3:Value}{id z:Int}
def Zw(w:aa)(N:bm)(P:List TV)(x:TV)(np:Nat)(e:Ending)(w':aa):Prop:=
 ∃A c gs X,e=.returned (.tuple #[.agg #[.int .i64 (ra N P x),.slice A np c,.slice X.A X.zs.length X.c,.slice X.B X.xs.length X.d],an])/\Ts w' A np gs/\gs.map Tn.tv=(lw N P x).2/\TE w' X/\X.tv=(lw N P x).1.getD 0 T0/\aj w' w
structure p7(w:World)(B gg n rg k rb:Nat)(gs rs:List Tn):Prop where
 g:jx w B gg n gs
 r:jx w B rg k rs
 ne:gg≠rg
 ng:gg≠rb
 nr:rg≠rb
 og:∀t∈gs,∀b,AF t.A b\/AF t.B b->b≠rg/\b≠rb/\B<=b
 JP:∀t∈rs,∀b,AF t.A b\/AF t.B b->b≠gg/\b≠rb/\B<=b
 cg:∀t∈gs,t.zs.length<=t.c
section
variable{Bq gg rg rb:Nat}{gs rs:List Tn}{P:List TV}{x:TV}{F:Nat->Prop}
def p7.at(h:p7 w Bq gg n rg k rb gs rs)[aT w w']:p7 w' Bq gg n rg k rb gs rs:=⟨h.g.at,h.r.at,h.ne,h.ng,h.nr,h.og,h.JP,h.cg⟩
def p7.kf(h:p7 w Bq gg n rg k rb gs rs)(j:Kf F F' w w')(hF:∀b,F b->b=rb\/b<Bq):p7 w' Bq gg n rg k rb gs rs:=by
 have y:=h.g.lC.1;have z:=h.r.lC.1;have C:=h.ng;have D:=h.nr;have key:∀b,b≠rb/\Bq<=b->¬F b:=λb hb E=>by rcases hF b E with e|e;exact hb.1 e;omega
 exact⟨h.g.kf j (key _ ⟨C,y⟩) λt ht=>⟨λb hb=>key b (h.og t ht b (.inl hb)).2,λb hb=>key b (h.og t ht b (.inr hb)).2⟩,h.r.kf j (key _ ⟨D,z⟩) λt ht=>⟨λb hb=>key b (h.JP t ht b (.inl hb)).2,λb hb=>key b (h.JP t ht b (.inr hb)).2⟩,h.ne,h.ng,h.nr,h.og,h.JP,h.cg⟩
def p7.av(h:p7 w Bq gg n rg k rb gs rs)(hi:i<n)(ht:TE w t)(z:∀b,AF t.A b\/AF t.B b->b<w.1.size/\b≠gg/\b≠rg/\b≠rb/\Bq<=b)(C:t.zs.length<=t.c):
  p7 ((w.setCell (gg,i*2) (.slice t.A t.zs.length t.c)).setCell (gg,i*2+1) (.slice t.B t.xs.length t.d)) Bq gg n rg k rb (gs.set i t) rs:=by
 have D:Kf (λb=>b=gg) (λb=>b=gg) w ((w.setCell (gg,i*2) (.slice t.A t.zs.length t.c)).setCell (gg,i*2+1) (.slice t.B t.xs.length t.d)):=((Kf.refl (λb=>b=gg) w).av (q:=⟨gg,i*2,none⟩) rfl _).av (q:=⟨gg,i*2+1,none⟩) rfl _;refine⟨h.g.av hi ht (λb hb=>⟨(z b (.inl hb)).1,(z b (.inl hb)).2.1⟩) (λb hb=>⟨(z b (.inr hb)).1,(z b (.inr hb)).2.1⟩),h.r.kf D (λe=>h.ne e.symm) λt ht=>⟨λb hb=>(h.JP t ht b (.inl hb)).1,λb hb=>(h.JP t ht b (.inr hb)).1⟩,h.ne,h.ng,h.nr,λy j b hb=>?_,h.JP,λy j=>?_⟩;rcases hA j with j|rfl;exact h.og y j b hb;exact(z b hb).2.2;rcases hA j with j|rfl;exact h.cg y j;exact C
def p7.copied(h:p7 w Bq gg n rg k rb gs rs)(hu:Ts w A2 m us)(E:f+m<=k)(G:f<k->C=some ⟨rg,f*2,none⟩)(I:∀t∈us,∀b,AF t.A b\/AF t.B b->b<w.1.size/\b≠gg/\b≠rg/\b≠rb/\Bq<=b):
  ∃w',(∀y c d,(Builtin.copy_ #[23,23] y #[.slice C m c,.slice A2 m d]).run prog w=.ok (goInt (m:Int)) w')/\p7 w' Bq gg n rg k rb gs (rs.take f++us++rs.drop (f+m))/\Kf (λb=>b=rg) (λb=>b=rg) w w':=by
 have key:∀w',aU w' Bq 28 2 (some ⟨rg,0,none⟩) k k (tc (rs.take f++us++rs.drop (f+m)))->Kf (λb=>b=rg) (λb=>b=rg) w w'->p7 w' Bq gg n rg k rb gs (rs.take f++us++rs.drop (f+m)):=λw' hr e=>by
  have hm:∀t∈rs.take f++us++rs.drop (f+m),TE w t/\∀b,AF t.A b\/AF t.B b->b<w.1.size/\b≠gg/\b≠rg/\b≠rb/\Bq<=b:=λt ht=>by
   have j:∀t∈rs,TE w t/\∀b,AF t.A b\/AF t.B b->b<w.1.size/\b≠gg/\b≠rg/\b≠rb/\Bq<=b:=λt ht=>⟨h.r.el t ht,λb hb=>by
    obtain⟨z,D⟩:=h.JP t ht b hb;rcases hb with hb|hb
    .exact⟨((h.r.off t ht).1 b hb).1,z,((h.r.off t ht).1 b hb).2,D⟩
    .exact⟨((h.r.off t ht).2 b hb).1,z,((h.r.off t ht).2 b hb).2,D⟩⟩
   rcases bM.1 ht with ht|ht;rcases bM.1 ht with ht|ht;exact j t (cE ht);exact⟨hu.rd.elems t ht,I t ht⟩;exact j t (dA ht)
  have J:m=us:=hu.len;have K:rs=k:=h.r.len;exact⟨h.g.kf e h.ne λt ht=>⟨λb hb=>(h.og t ht b (.inl hb)).1,λb hb=>(h.og t ht b (.inr hb)).1⟩,⟨hr,by simp;omega,λt ht=>⟨e.rd (hm t ht).1.1 λb hb=>((hm t ht).2 b (.inl hb)).2.2.1,e.rd (hm t ht).1.2.1 λb hb=>((hm t ht).2 b (.inr hb)).2.2.1,(hm t ht).1.2.2⟩,λt ht=>⟨λb hb=>⟨bu ((hm t ht).2 b (.inl hb)).1 e.size,((hm t ht).2 b (.inl hb)).2.2.1⟩,λb hb=>⟨bu ((hm t ht).2 b (.inr hb)).1 e.size,((hm t ht).2 b (.inr hb)).2.2.1⟩⟩⟩,h.ne,h.ng,h.nr,h.og,λt ht b hb=>⟨((hm t ht).2 b hb).2.1,((hm t ht).2 b hb).2.2.2⟩,h.cg⟩
 by_cases M:m=0;subst M;obtain rfl:us=[]:=hB hu.len.symm;refine⟨w,λy c d=>?_,key w ?_ (Kf.refl _ _),Kf.refl _ _⟩;obtain⟨i,hi,-⟩:=bt.1 (show(prog.info? 28).map (·.size)=some 2 from by kernel_rfl);have Q:∀(x:Addr),(loadCells x 0).run prog w=.ok #[] w:=λx=>by simpa using run_loadCells_list (P:=prog) w x [] aD
 cases C<;>cases A2<;>simp[Builtin.copy_,gF underlying23,Builtin.lenOf,Builtin.firstCells,sizeOf,typeInfo,hi,storeCells,Q];rw[en,ef,dC];exact h.r.row;obtain⟨U,Y,rfl,S,T⟩:=JA h.r.row h.r.len hu om E;rw[G om];have e:Kf (λb=>b=rg) (λb=>b=rg) w (w.setRow rg Y):=mu (F:=λb=>b=rg) rfl Y;exact⟨_,λy c d=>S y m c d (al _),key _ T e,e⟩
def jx.zero{n B:Nat}(h:az w j 28 (iu [] n))(z:n<=1000000)(r:B<=j):jx w B j n (List.replicate n j6):=
 ⟨.mk' (cur:=iu [] n) r h (al _) (by unfold maxLen;omega) (rS [] (aM _)) (by rw[BD];simp[iu,tc]),eY ..,λt ht=>by rw[eH ht];exact N0 _,λt ht=>by
  rw[eH ht];exact⟨λb ⟨y,e,_⟩=>(by cases e),λb ⟨y,e,_⟩=>(by cases e)⟩⟩
def G2(g:Nat){n k m:Nat}(z:k<=m)(hm:m<=n):∃j,(∀W,(Instr.slice 23 (g,n,n) (some (.int .i64 (k:Int))) (some (.int .i64 (m:Int))) none).run prog W=.ok (.slice j (m-k) (n-k)) W)/\(k<n->j=some ⟨g,k*2,none⟩):=by
 have e:∀W,(sizeOf (prog.elem 23)).run prog W=.ok 2 W:=λW=>by obtain⟨C,r,y⟩:=bt.1 (show(prog.info? (prog.elem 23)).map (·.size)=some 2 from by kernel_rfl);simp[sizeOf,typeInfo,r,y]
 refine⟨if n=k then some ⟨g,0,none⟩else(⟨g,0,none⟩:Addr).add (k*2),λW=>?_,λh=>?_⟩;rw[kJ W 23 (some ⟨g,0,none⟩) n n ao .i64 .i64 (k:Int) (m:Int) om om om,e];have r:(m:Int).toNat-(k:Int).toNat=m-k:=by omega
 simp[Result.andThen,sliced];rw[ag om,cn,cf]
def Oc{L:List TV}(h:eK w b A n c L)(hL:∀t∈L,TV.ok t):∃ts,Ts w A n ts/\ts.map Tn.tv=L/\eB ts/\(∀t∈ts,∀z,AF t.A z\/AF t.B z->z<w.1.size/\b<=z)/\(ts≠[]->∀z,AF A z->z<w.1.size/\b<=z):=by
 obtain⟨ts,D,Q,J,E,I⟩:=h;have j:∀t∈ts,TV.ok t.tv:=λt ht=>hL _ (by rw[<-I];exact List.mem_map_of_mem ht);have r:=D.rd.elems;refine⟨ts,D,I,λt ht=>⟨(j t ht).1,(E t ht).2.2⟩,λt ht z hz=>?_,λK z hz=>?_⟩;rcases hz with hz|hz;have y:=gh (w:=w) (n:=t.zs.length) (zs:=t.zs) ⟨(r t ht).1,rfl⟩ (fM (j t ht).right) z hz;obtain⟨C,e,rfl⟩:=hz;exact⟨y,(E t ht).1.o C e⟩;have y:=gh (w:=w) (n:=t.xs.length) (zs:=t.xs) ⟨(r t ht).2.1,rfl⟩ (j t ht).ne z hz;obtain⟨C,e,rfl⟩:=hz;exact⟨y,(E t ht).2.1.o C e⟩
 .cases ts with
  |nil=>exact absurd rfl K
  |cons t tt=>obtain⟨S,o,e,M⟩:=D.rd 0 t rfl;obtain⟨C,G,rfl⟩:=hz;have y:=J.o C G;rw[e]at G;cases G;exact⟨M.old,y⟩
def kf4:Kf (λb=>b=q) (λb=>b=q) u ((((u.setCell (q,0) z0).setCell (q,1) z1).setCell (q,2) z2).setCell (q,3) z3):=
 ((((Kf.refl (λb=>b=q) u).av (q:=⟨q,0,none⟩) rfl z0).av (q:=⟨q,1,none⟩) rfl z1).av (q:=⟨q,2,none⟩) rfl z2).av (q:=⟨q,3,none⟩) rfl z3
def JQ(c:fQ N O L l P x):lw N P x=cD N O L l P x O.length:=by
 unfold lw cD;rw[c.hN.ord,c.hL];dsimp only;rw[aZ,bY aD]
def rev_at{O:au}{d:Nat}(hd:d<O)(hi:j=O-1-d)(h:O[j]?=some z):O.reverse[d]?=some z:=by
 rw[xU hd,<-hi];exact h
def My{v:et}(hd:O.reverse[d]?=some id)(hv:N.nodes[(id-1).toNat]?=some v):cD N O L l P x (d+1)=(iQ (cD N O L l P x d).1 v.ins (oU N P (dU N P x) (cD N O L l P x d).1 id v),q8 (cD N O L l P x d).2 (Az N P (dU N P x) (cD N O L l P x d).1 id v) (dJ N (id-1).toNat)):=by
 unfold cD LL;rw[take_at hd,lN];show LK N P (dU N P x) _ id=_;unfold LK;rw[hv]
def xA5(h:Γ:=by rw[eH ht]at hb;rcases hb with⟨ad,e9,_⟩|⟨ad,e9,_⟩<;>cases e9):=h
def Zx[a:aW w A n B m N][tp:Ts w PA np ps][Sl w XA nx x.1][Sl w XB mx x.2](hf:Hx N.fits)(hs:Hx N.small)(X:Hx (fQ N O L l P x))(hP:Hx (ps.map Tn.tv=P))(hO:Hx (eB ps))(CD:np<=1000000)(lp:np<=cp)(lB:m<=d):
  () 20 #[.agg #[(A,n,c),(B,m,d)],(PA,np,cp),.agg #[(XA,nx,cx),(XB,mx,dx)]] w (Zw w N P x np):=by
 have CC:=@cQ;obtain⟨CB,CP,FB⟩:=ia;have HE:Hx (bo N=0):=X.o.hE;have HV:Hx (dB N=(O,L,(l:Int))):=X.o.hL;have hm:m<=1000:=by rw[a.len];exact hs.o.1
 have Rq:Hx (m=N.nodes):=a.len;have Ug:O.length<=1000:=by rw[X.o.hN.sB,<-Rq.o];exact hm
 have Jm:Hx (np=(bH N).length):=ae (by rw[<-X.o.hF.ps,<-hP.o,bj,bj];exact tp.len);have FC:Hx (np=P):=ae (by rw[<-hP.o,bj];exact tp.len);obtain⟨R,B7⟩:=lg (m+1);have Fl:=ae B7;have hM2:R<=1001:=om;have hMm:m<R:=om;have HU:=X.o.hN.oo;have ui:=X.o.hN.lE;have hlM:l<R:=by have:=Rq.o;omega
 have la:=jp R om;have Ak:=jp np om;have aah:=kQ X.o.hN X.o.hF;have zm:=ae aah;have pp:=X.o.val (z:=(l:Int)) om om;rw[aZ]at pp;have Cn:=ae pp;clear B7 aah pp HU ui;go_in;go_upto_region 1 with fail;refine s0 (λu0 p0 k1 k2 k3 hJ=>?_);clear hJ;go_upto_region 4 with(go_at_call 59;refine(Zb hf hs X hP hO CD lp lB Fl).mono ?_;rintro e u1 ⟨vg,vs,rfl,Ph,HVT,HVC,sQ⟩);have HVS:=ae Ph;clear Ph;go_upto_region 7 with(go_at_call 60;refine(Av hf hs HE HV).mono ?_;rintro e u2 ⟨AO,cO,rfl,VO,pO⟩);have sO:Sl u2 AO O O:=⟨VO.rd,rfl⟩;clear VO;go_upto_region 10 with(go_at_call 61;refine mv (yE hf hs HE HV) λE _=>?_);go_upto_region 11 with fail;obtain⟨W,hW⟩:=lg (E.alloc (.cells (iu [] R) 28));obtain⟨gg,qp⟩:=lg E.1.size;have Zy:Hx (jx W E.1.size gg R (List.replicate R j6)):=ae (by rw[hW,qp];exact jx.new E om (al _));have pW:aj W E:=by rw[hW];exact aF
 have pL:Hx (gg=E):=qp;rw[<-hW,<-qp];clear hW qp la;have LG:=Zy.o.lC.2;obtain⟨bl,ol,Al,cl,zl,Bl,dl,xl,el,obl,cl0,cl1,sl1,sl2,ll,il,n6⟩:=(HVS.o.at (w':=E)).nL.get (k:=l) hlM;injection el with el;injection el with el el2;subst el el2;rw[cf]at cl0 cl1;have Zz:(dU N P x).getD l T0=(zl,xl):=by rw[<-HVT.o,aQ,bf,n6.o];rfl
 have pp:=Cn.o;rw[Zz]at pp;have S6:zl=L.getD l []:=pp.1;have Ee:TV.ok (zl,xl):=pp.2.1;have xq:=ae Zz;have adU:=ae Ee;have t9:Hx (aA zl=true):=Ee.right;obtain⟨k0,St,TQ,XE⟩:=cP Ee.right;have VM:Hx (ax zl=(k0:Int)):=St;obtain⟨X1,hX1⟩:=lh (List.replicate k0 (4294967296:Int));have HX1:=ae hX1;have QH:zl.length<=1000000:=by have C:zl.length<=4:=cG Ee.right;omega
 have Wx:nH (L.getD l [])=(zl,X1):=by rw[<-S6];unfold nH;rw[St,aZ,hX1]
 have Wy:=uL (X.o.hN.right X.o.hF (z:=(l:Int)) om (by have:=X.o.hN.lE;omega));rw[aZ,Wx]at Wy;have ac2:=ae Wx;have Wz:=ae Wy;have Cr:0<xl.length:=by
  have C:xl≠[]:=Ee.ne;cases xl with
  |nil=>exact absurd rfl C
  |cons a t=>simp
 obtain⟨bx0,ox0,lo,rfl,adV,cx0,hlo⟩:=sl2.get (k:=0) Cr;rw[ef]at cx0;have HLO:Hx (lo=ra N P x):=ae (by
  unfold ra;rw[X.o.hN.fj,aZ,Zz,aQ]
  show _=(xl[0]?).getD 0
  rw[hlo.o];rfl)
 clear Zz pp S6 Ee St hX1 Wx Wy n6 hlo;go_upto_region 12 with(go_at_call 62;refine(ww QH t9 VM HX1).mono ?_;rintro e u5 ⟨A5,c5,B5,d5,rfl,s5,x5,l5,l5',f5,Zt,Y1⟩;obtain⟨⟨y0,qf⟩,⟨y1,xD⟩,BX⟩:=(Zy.o.at (w':=u5)).cells (i:=l) hlM;have I2:=BX (l*2);have sf:=BX (l*2+1);clear BX)
 obtain⟨W6,se⟩:=lg ((u5.setCell (gg,l*2) (.slice A5 zl c5)).setCell (gg,l*2+1) (.slice B5 X1 d5));have WA:Hx (jx W6 E.1.size gg R ((List.replicate R j6).set l ⟨A5,c5,zl,B5,d5,X1⟩)):=ae (by
  rw[se];exact(Zy.o.at (w':=u5)).av (i:=l) (t:=⟨A5,c5,zl,B5,d5,X1⟩) hlM (TE.of s5 x5 l5'.le Wz.o.2) (λb hb=>⟨gh s5 (fM Wz.o.right) b hb,by obtain⟨ad,e9,rfl⟩:=hb;have:=f5.o ad e9;omega⟩) (λb hb=>⟨gh x5 Wz.o.ne b hb,by obtain⟨ad,e9,rfl⟩:=hb;have:=Zt.o ad e9;omega⟩))
 have HT6:Hx (((List.replicate R j6).set l ⟨A5,c5,zl,B5,d5,X1⟩).map Tn.tv=(q2 N L l P).1):=ae (by
  unfold q2;rw[jJ,List.map_replicate,ac2.o,show N.nodes.length+1=R from by have:=Fl.o;have:=Rq.o;omega];rfl)
 have HC6:Hx (∀t∈(List.replicate R j6).set l ⟨A5,c5,zl,B5,d5,X1⟩,t.zs.length<=t.c/\(∀b,AF t.A b->b<W6.1.size)/\∀b,AF t.B b->b<W6.1.size):=λt ht=>⟨by
  rcases hA ht with ht|rfl
  .rw[eH ht];exact al _
  .exact l5.le,λb hb=>((WA.o.off t ht).1 b hb).1,λb hb=>((WA.o.off t ht).2 b hb).1⟩
 have p6:aj W6 E:=by rw[se];exact Js (ei pL.o.symm)
 rw[<-se];clear se qf xD I2 sf;go_upto_region 14 with fail;go_cut [13] (λs13 wx=>∃rg rb,s13=.pointer (some ⟨rb,0,none⟩)/\Bx wx rb 67 #[lo,.slice (some ⟨rg,0,none⟩) np np,(),()]/\Bx wx rg 28 (iu [] np)/\W6.1.size<=rg/\W6.1.size<=rb/\aj wx W6);case first=>
  refine ab W6 ao (λJ _=>?_)
  repeat' (first
   |(refine j8 0 ?_
     refine qL [0,1,2,3,4,5,6,7] ?_;refine jL 8 79 ?_)
   |(refine j8 10 ?_
     refine jL 10 81 ?_)
   |(intro (tg:Tg 9) K hK
     clear tg;go_simp;obtain⟨rg,JR⟩:=lh ((World.heap J).size);have lrg:(World.heap W6).size<=rg:=by rw[<-JR];exact ai
     refine aG hK ?_;refine bc (λJ _ brg=>?_);rw[JR]at brg⊢;clear JR)
   |(intro (tg:Tg 11) K hK
     clear tg;go_simp;obtain⟨rb,GN⟩:=lh ((World.heap J).size);have lrb:(World.heap W6).size<=rb:=by rw[<-GN];exact ai
     refine aG hK ?_;refine bc (λJ _ brb=>?_);rw[GN]at brb⊢;clear GN)
   |(intro (tg:Tg 12) K hK
     clear tg;go_simp;obtain⟨u8,WB⟩:=lg ((((J.setCell (rb,0) lo).setCell (rb,1) (.slice (some ⟨rg,0,none⟩) np np)).setCell (rb,2) ()).setCell (rb,3) ());rw[<-WB];have IW:aj u8 W6:=by rw[WB];exact jd lrb
     have Su8:∀b,b<J.1.size->b≠rb->(World.heap u8)[b]?=J.heap[b]?:=λb _ hb=>by rw[WB];exact(((ba _ ⟨rb,3,none⟩ _ b hb).trans (ba _ ⟨rb,2,none⟩ _ b hb)).trans (ba _ ⟨rb,1,none⟩ _ b hb)).trans (ba _ ⟨rb,0,none⟩ _ b hb)
     have Ku8:Bx u8 (rb) _ #[lo,.slice (some ⟨rg,0,none⟩) np np,(),()]:=⟨by rw[WB];exact((((Bx.ak (w:=J) (g:=rb)).av 0 _).av 1 _).av 2 _).av 3 _⟩;have K9:Bx u8 rg 28 (iu [] np):=⟨(Su8 _ (Bx.ak (w:=J) (g:=rg)).lt (i0 (Bx.ak (w:=J) (g:=rg)) (Bx.ak (w:=J) (g:=rb)) am)).trans (Bx.ak (w:=J))⟩;refine aG hK ?_ IW;clear hK K WB)
   |refine fg 9 ?_
   |refine fg 12 ?_
   |refine fg 11 ?_
   |refine mf 9 11 ?_ ?_
   |refine BU ?_)
  all_goals go_wp2_with fail;go_meet;exact⟨rg,rb,rfl,Ku8,K9,lrg,lrb,IW⟩
 obtain⟨rg,rb,rfl,kb,kg,JR,GN,pwx⟩:=hcut;obtain⟨W7,rfl⟩:=lg wc;have js:rg≠rb:=i0 kg.ak kb.ak am;have CM:=ae kb.ak;have HRB:Hx (E.1.size<=rb):=aL ai GN;have hg6:=WA.o.lC.2;have h36:E.1.size<=W6.1.size:=ai;have M:Hx (p7 W7 E.1.size gg R rg np rb ((List.replicate R j6).set l ⟨A5,c5,zl,B5,d5,X1⟩) (List.replicate np j6)):=by refine ae ⟨WA.o.at,jx.zero kg.ak om om,om,om,js,λt ht b hb=>?_,λt ht b hb=>?_,λt ht=>(HC6.o t ht).1⟩;obtain⟨-,q1,j⟩:=HC6.o t ht;have C:b<W6.1.size:=hb.elim (q1 b) (j b);refine⟨om,om,?_⟩;rcases hA ht with ht|rfl;exact xA5;(have h8:W.1.size<=b:=by rcases hb with⟨ad,e9,rfl⟩|⟨ad,e9,rfl⟩;exact f5.o ad e9;exact Zt.o ad e9);have:E.1.size<=W.1.size:=ai;omega;exact xA5
 have Y9:Hx ((List.replicate np j6).map Tn.tv=(q2 N L l P).2):=ae (by unfold q2;rw[List.map_replicate,FC.o];rfl);obtain⟨Y0,hY0⟩:=lh ((O.length:Int)-1:Int);have hwY:IntKind.i64.wrap ((O.length:Int)-1)=Y0:=by rw[a7];omega
 have HY0:=ae hY0;have p73:aj W7 E:=aF;clear hY0 kg Zy WA Ak JR GN h36 hg6 LG;go_wp2_with fail;go_loopw [14] (λTM wr=>∃(d:Nat) (y:Int) (gs rs:List Tn),d<=O/\TM=.int .i64 y/\Hx (y=(O.length:Int)-1-(d:Int))/\Hx (p7 wr E.1.size gg R rg np rb gs rs)/\Hx (gs.map Tn.tv=(cD N O L l P x d).1)/\Hx (rs.map Tn.tv=(cD N O L l P x d).2)/\Hx (az wr rb 67 #[lo,.slice (some ⟨rg,0,none⟩) np np,(),()])/\aj wr E) (λTM _=>(intOf TM+1).toNat);exact⟨0,Y0,_,_,aM _,rfl,ae (by rw[<-HY0.o];omega),M,HT6,Y9,CM,p73⟩;clear M HT6 Y9 CM;obtain⟨d,y,gs,rs,hd,rfl,HY,M,HGT,Zo,CM,hp⟩:=hrel;have sO2:Sl wr AO O O:=aq;by_cases bE:d<O
 .obtain⟨ix,rfl⟩:∃ix:Nat,y=(ix:Int):=⟨y.toNat,by have:=HY.o;omega⟩;(have hix:ix=O-1-d:=by have:=HY.o;omega);obtain⟨b1,o1,z,rfl,pq,cz,hz⟩:=sO2.get (k:=ix) om;have vi:=rev_at bE hix hz.o;have hid:=X.o.hN.kh.ids z (aC hz.o);have Zj:vV N L l P (O.reverse.take d) (cD N O L l P x d):=rX X.o.hN X.o.hE X.o.hF zm d (fq bE);have G3:=Zj.there X.o.hN X.o.hE vi;obtain⟨v,hv,VP,Td,f1,f2,f3,f4,f6,f7,g1,g2,g3,g4⟩:=vV.parts X.o.hN X.o.hF zm hid G3;obtain⟨h1,h2⟩:=bn.1 hid;obtain⟨q,rfl⟩:∃q:Nat,z=(q:Int):=⟨z.toNat,om⟩;obtain⟨k,hk⟩:∃k,q=k+1:=⟨q-1,om⟩;(have sY:((q:Int)-1).toNat=k:=by omega);have qi:=My (l:=l) (x:=x) (P:=P) (L:=L) vi hv;rw[sY]at hv f3 f4;rw[aZ]at G3 f7;have HK:=ae hv;(have GG:k<m:=by rw[Rq.o];exact(a8.1 hv).1);have Zc:q<R:=om;obtain⟨b0,q0,o,A1,n1,F8,I,ni,ci,ins,P',np',cp',Q,rfl,ob,⟨v0,v1,v2,v3,v4,v5,v6,v7,v8,v9⟩,s1,si,sp,l1,li,lp',ik,oj⟩:=a.node GG;obtain rfl:v=⟨o,ins,aS Q⟩:=cH (hv.symm.trans oj.o);have GH:=hf.o.2.2 _ (aC hv);(have qk:n1<=1000000:=by rw[s1.len];have C:o.S.length<=100000:=GH.2.1;omega);have qm:ni<=1000000:=by rw[si.len];have C:ins.length<=100000:=GH.1;omega
  have Jt:(cM (dU N P x) ins).map (·.1)=d8 ⟨o,ins,aS Q⟩ L:=f1;have Mh:∀t∈cM (dU N P x) ins,TV.ok t:=f2;obtain⟨UV,GZ⟩:=lh (cM (dU N P x) ins);have VQ:Hx (∀z∈ins,∀t,vs[z.toNat]?=some t->ap t.zs t.xs=true/\t.zs.length<=t.c):=λz hz t ht=>⟨by
   have C:=Mh ((dU N P x).getD z.toNat T0) (bw.2 ⟨z,hz,rfl⟩);rw[<-HVT.o,aQ,bf,ht]at C;exact C.1,HVC.o t (aC ht)⟩
  have WC:∀z∈ins,0<=z/\z<=N.nodes.length:=X.o.hN.kc ⟨o,ins,aS Q⟩ VP;(have VR:Hx (∀z∈ins,0<=z/\z<(R:Int)):=λz hz=>by have C:=WC z hz;have:=Fl.o;have:=Rq.o;omega);have wv:Hx (cM (vs.map Tn.tv) ins=UV):=ae (by rw[HVT.o];exact GZ);rw[GZ]at Jt Mh;(have sW:UV.length<=1000000:=by rw[<-GZ,cM,bj,<-si.len];exact qm);obtain⟨PV,CQ⟩:=lh (iy N P k ⟨o,ins,aS Q⟩);rw[CQ]at f3 f4;obtain⟨GP,Cw⟩:=lh (Az N P (dU N P x) (cD N O L l P x d).1 (q:Int) ⟨o,ins,aS Q⟩);obtain⟨GX,Cx⟩:=lh (oU N P (dU N P x) (cD N O L l P x d).1 (q:Int) ⟨o,ins,aS Q⟩);rw[Cw,Cx]at qi;rw[Cx]at g1 g2;rw[Cw]at g3 g4;obtain⟨bg,og,Ag,cg,zg,Bg,dg,xg,eg,obg,cg0,cg1,sg1,sg2,lgg,ig,qp⟩:=M.o.g.nL.get (k:=q) Zc;injection eg with eg;injection eg with eg eg2;subst eg eg2;rw[cf]at cg0 cg1;have ZA:(cD N O L l P x d).1.getD q T0=(zg,xg):=by rw[<-HGT.o,aQ,bf,qp.o];rfl
  rw[ZA]at G3 f7;have HHR:Hx (ap zg xg=true):=G3.2.1;have zk:Hx (dr o (PV.map (·.1)) (UV.map (·.1))=0):=ae (by rw[f3,Jt];exact f6);have s7:Hx (cJ o (PV.map (·.1)) (UV.map (·.1))=zg):=ae (by rw[f3,Jt];exact f7);have Wn:Hx (ql o PV UV zg xg=GP):=ae (by
   rw[<-Cw];unfold Az;rw[sY,CQ,aZ,ZA]
   show _=ql o PV (cM (dU N P x) ins) zg xg
   rw[GZ])
  have Lw:Hx (jZ o PV UV zg xg=GX):=ae (by
   rw[<-Cx];unfold oU;rw[sY,CQ,aZ,ZA]
   show _=jZ o PV (cM (dU N P x) ins) zg xg
   rw[GZ])
  have ac3:GP.length=(aS Q).length:=by have:=cq List.length g3;simpa using this
  have aai:GX.length=ni:=by have C:=cq List.length g1;rw[si.len];simpa[d8]using C
  obtain⟨f,hF⟩:=lh (dJ N k);obtain⟨t,hT⟩:=lh (f+(aS Q).length);have HF:=ae hF;have HT:=ae hT;rw[sY,hF]at qi;have vn:=ae qi;(have QI:t<=np:=by rw[Jm.o,<-hT,<-hF,show(aS Q).length=(⟨o,ins,aS Q⟩:et).P.length from rfl,<-jf hv];unfold dJ bH;exact kR _ _);obtain⟨A2,ko,aaj⟩:=pY PA (show f<=t by omega) QI lp;obtain⟨A9,C2,Wp⟩:=G2 rg (show f<=t by omega) QI;obtain⟨qn,Mi⟩:=lh (t-f);have tq:Ts wr A2 qn ((ps.drop f).take qn):=by rw[<-Mi];exact aaj wr ps aq
  rw[Mi]at ko C2;obtain⟨qs,GR⟩:=lh ((ps.drop f).take qn);rw[GR]at tq;have HQP:Hx (qs.map Tn.tv=PV):=ae (by
   rw[<-GR,<-CQ,gI,kK,hP.o,<-hF];unfold iy;rw[show(⟨o,ins,aS Q⟩:et).P.length=qn from by show(aS Q).length=qn;omega])
  have GI:Hx (eB qs):=λt ht=>hO.o t (by rw[<-GR]at ht;exact dA (cE ht));(have hwk:IntKind.i64.wrap ((q:Int)-1)=(k:Int):=by rw[a7];omega);(have VS:(q:Int)=(k:Int)+1:=by omega);have HQK:=ae VS;have hfq:f+qn<=np:=om;have hgq:GP.length=qn:=om;have Mz:Hx (f+qn<=np/\GP.length=qn/\GX.length=ni):=ae ⟨hfq,hgq,aai⟩;have HA9:Hx (f<np->A9=some ⟨rg,f*2,none⟩):=Wp;have BR:Hx ((GX.map (·.1)=d8 ⟨o,ins,aS Q⟩ L)/\(∀t∈GX,TV.ok t)/\(∀t∈GP,TV.ok t)/\∀z∈ins,0<=z/\z<=N.nodes.length):=ae ⟨g1,g2,g4,WC⟩;have HBW:=ae Zj;(have hwy:IntKind.i64.wrap ((ix:Int)-1)=(ix:Int)-1:=by rw[a7];omega);(have i1:(ix:Int)<(O.length:Int):=by omega);(have acF:(k:Int)<(m:Int):=by omega);(have acG:(q:Int)<(R:Int):=by omega);have lgd:Le xg.length dg:=⟨lgg⟩;clear hid vi Zj G3 hv VP Td f1 f2 f3 f4 f6 f7 g1 g2 g3 g4 h1 h2 sY qi oj GH GZ Jt Mh CQ Cw Cx ZA qp ac3 aai hF hT aaj Mi GR VS hk hz hfq hgq Wp WC hix;go_upto_region 20 with fail;refine aE (λu4 I5 k4=>?_);obtain⟨D,hD⟩:=lg wr.1.size;rw[<-hD]at k4⊢;have HD:=ae hD;clear hD;go_upto_region 21 with(go_at_call 63;refine mv (Bi lB hf hs HQK HK HF HT) λu5 _=>?_);go_cut [19,20] (λq9 e9 wx=>∃G A' n' c' B' m' d',q9=.pointer (some ⟨G,0,none⟩)/\e9=.int .i64 0/\u5.1.size<=G/\Bx wx G 151 #[.slice A' n' c',.slice B' m' d']/\eK wx u5.1.size A' n' c' GP/\eK wx u5.1.size B' m' d' GX/\aj wx u5);case first=>
   have tv5:Ts u5 vg R vs:=(HVS.o.at (w':=u5)).nL;refine ab u5 ao (λJ _=>?_)
   repeat' (first
    |(refine j8 0 ?_
      refine qL [0,1,2,3,4,5,6,7,8,10,11,12] ?_;refine jL 13 119 ?_)
    |(refine j8 15 ?_
      refine qL [15,16] ?_;refine jL 17 122 ?_)
    |(refine j8 20 ?_
      refine jL 20 20 ?_)
    |(intro (tg:Tg 9) K hK
      clear tg;go_simp
      refine(I1 qm VQ VR wv).mono ?_
      rintro e J ⟨A3,c3,us,rfl,TU,LU,Me,Mf,_⟩;dsimp only;refine aG hK ?_;clear hK K)
    |(intro (tg:Tg 14) K hK
      clear tg;go_simp
      refine(D7 qk sW GI Me HQP Mf zk s7 HHR Wn Lw).mono ?_
      rintro e J ⟨A',n',c',B',m',d',rfl,r1,r2,_⟩;dsimp only;refine aG hK ?_;clear hK K)
    |(intro (tg:Tg 18) K hK
      clear tg;go_simp;refine aG hK ?_;refine bc (λJ _ _=>?_))
    |(intro (tg:Tg 19) K hK
      clear tg;rename World=>wN;go_simp;refine qt hK (λ_=>?_) ⟨br (aP u5 wN) ai _ _⟩;clear hK K)
    |refine fg 9 ?_
    |refine fg 14 ?_
    |refine fg 19 ?_
    |refine fg 18 ?_
    |refine mf 9 18 ?_ ?_
    |refine mf 14 18 ?_ ?_
    |refine BU ?_)
   all_goals
    go_wp2_with fail;go_meet;refine⟨_,A',n',c',B',m',d',rfl,rfl,ai,⟨(Bx.ak (w:=wN)).bP _ _⟩,?_,?_,⟨br (aP u5 wN) ai _ _⟩⟩
    .first|exact(r1.bA Bx.ak.lt _ _).less ai|exact(r1.kF (al _) _ _).less ai
    first|exact(r2.bA Bx.ak.lt _ _).less ai|exact(r2.kF (al _) _ _).less ai
  obtain⟨G,A',n',c',B',m',d',rfl,rfl,hgG,kG,q1,j,pwx⟩:=hcut;obtain⟨wx,rfl⟩:=lg wc;obtain⟨Zq,t1,mv1,-,of1,-⟩:=Oc q1 BR.o.2.2.1;obtain⟨JG,t2,mv2,okx,of2,ow2⟩:=Oc j BR.o.2.1;(have FR:qn=n':=by rw[t1.len,<-Mz.o.2.1,<-mv1,bj]);have hm':ni=m':=by rw[t2.len,<-Mz.o.2.2,<-mv2,bj]
  subst FR hm';have hru:wr.1.size<=u5.1.size:=ai;have T:Hx (gg<u5/\rg<u5.1.size/\rb<u5.1.size/\E.1.size<=u5.1.size/\E.1.size<=rg):=ae (by
   have q3:=M.o.g.lC;have q4:=M.o.r.lC;have q5:=CM.o.lt;omega)
  have ac4:=ae of1;have Od:=ae of2;have WD:=ae ow2;have ac5:=ae mv1;have D2:=ae mv2;have Wq:=ae okx;have HDG:Hx (D≠rg/\D≠gg/\D<u5):=ae (by
   have q3:=M.o.r.lC.2;have q4:=M.o.g.lC.2;have q5:=HD.o;have q6:D<u4.1.size:=k4.ak.lt;have q7:u4.1.size<=u5.1.size:=ai;omega)
  have Bo:Hx (G≠rg/\G≠gg):=ae (by have:=T.o;omega);have cx1:Cl wx rb 1 (.slice (some ⟨rg,0,none⟩) np np):=⟨(CM.o.at (w':=wx)).cell 1⟩;clear q1 j of1 of2 ow2 mv1 mv2 okx ko hru;go_upto_region 24 with fail;refine a6 E (λw9=>Cl w9 rb 1 (.slice (some ⟨rg,0,none⟩) np np)/\Bx w9 G 151 #[.slice A' qn c',.slice B' ni d']) ao ⟨aq,aq⟩ (λuz _=>?_);refine bT 0 ?_;refine bT 1 ?_;refine bT 2 ?_;refine bT 3 ?_;refine bT 4 ?_;refine bT 5 ?_;refine bT 6 ?_;refine aK 7 λK hK=>?_;have aak:=M.o.at (w':=uz);have t19:Ts uz A' qn Zq:=aq;have t29:Ts uz B' ni JG:=aq;have H9:wx.1.size<=uz.1.size:=ai;obtain⟨W8,pt,WE,Ef⟩:=p7.copied (f:=f) aak t19 Mz.o.1 HA9 (λt ht b hb=>by have C:=ac4.o t ht b hb;have:=T.o;exact⟨om,om,om,om,om⟩);obtain⟨rs2,WF⟩:=lh (rs.take f++Zq++rs.drop (f+qn));rw[WF]at WE;have ac6:=ae WF;have ac7:=ae WE;(have pw8:aj W8 E:=Ef.prev λb e=>by rw[e];exact M.o.r.lC.1);have WG:Hx (az W8 rb 67 #[lo,.slice (some ⟨rg,0,none⟩) np np,(),()]):=ae (Ef.ak (CM.o.at (w':=uz)) λe=>M.o.nr e.symm);have cw8:Cl W8 rb 1 (.slice (some ⟨rg,0,none⟩) np np):=⟨WG.o.cell 1⟩;have kG8:Bx W8 G 151 #[.slice A' qn c',.slice B' ni d']:=⟨Ef.ak (Bx.ak (w:=uz)) Bo.o.1⟩;have cD8:Cl W8 D 8 (I,ni,ci):=⟨(Ef.ak (k4.ak.at (w':=uz)) HDG.o.1).cell 8⟩;have ac8:Hx (Ts W8 B' ni JG):=ae (Ef.BK t29 (λh0 b hb e=>by have C:=WD.o h0 b hb;have:=T.o;have:b=rg:=e;omega) λt ht=>⟨λb hb e=>by have C:=Od.o t ht b (.inl hb);have:=T.o;have:b=rg:=e;omega,λb hb e=>by have C:=Od.o t ht b (.inr hb);have:=T.o;have:b=rg:=e;omega⟩);refine d7 rfl _ _ 23 23 rfl _ _ rfl rfl (pt _ _ _)<|aG hK ?_ ⟨pw8,cw8,kG8⟩;clear hK K pt Ef WE WF t19 t29 H9 aak;refine a9 ?_;skip;clear C2;go_wp2_with fail;go_loopw [138] (λWH ws=>∃(j:Nat) (G0:List Tn),j<=ni/\WH=.int .i64 (j:Int)/\Hx (p7 ws E.1.size gg R rg np rb G0 rs2)/\Hx (G0.map Tn.tv=iQ (cD N O L l P x d).1 (ins.take j) (GX.take j))/\Hx (Kf (λb=>b=gg) (λb=>b=gg) W8 ws)/\aj ws E) (λWH _=>ni-(intOf WH).toNat);exact⟨0,gs,aM _,rfl,ac7,ae (by rw[dW,dW];exact HGT),ae (Kf.refl _ _),pw8⟩;obtain⟨j,G0,hq2,rfl,U,WI,Kq,sZ⟩:=hrel;by_cases I7:j<ni
  .obtain⟨bi,oi,z,rfl,obi,cz2,jM⟩:=si.get I7;obtain⟨hJ,hH⟩:=BR.o.2.2.2 z (aC jM.o);obtain⟨Z,rfl⟩:∃Z:Nat,z=(Z:Int):=⟨z.toNat,om⟩;(have Yv:Z<R:=by have:=Fl.o;have:=Rq.o;omega);have Ws:Ts wr B' ni JG:=Kq.o.BK ac8 (λh0 b hb e=>by have C:=WD.o h0 b hb;have:=T.o;have:b=gg:=e;omega) λt ht=>⟨λb hb e=>by have C:=Od.o t ht b (.inl hb);have:=T.o;have:b=gg:=e;omega,λb hb e=>by have C:=Od.o t ht b (.inr hb);have:=T.o;have:b=gg:=e;omega⟩;obtain⟨b2,o2,A3,n3,c3,z3,B3,k3,d3,x3,rfl,jU,e0,e1,s3,y3,l3,l3',i3,h4,h6,hr3,uO⟩:=Ws.wU Wq I7;(have uC:GX[j]?=some (z3,x3):=by have C:=uO.o;(have h8:j<GX.length:=by rw[Mz.o.2.2];exact I7);rw[D2.o,aQ,a5 h8]at C;rw[a5 h8];exact cq some C);obtain⟨bh,oh,Ah,ch,zh,Bh,dh,xh,eh,obh,Ww,ch1,sh1,sh2,lhh,ih,WJ⟩:=U.o.g.nL.get (k:=Z) Yv;injection eh with eh;injection eh with eh eh2;subst eh eh2;rw[cf]at Ww ch1;(have G3:(iQ (cD N O L l P x d).1 (ins.take j) (GX.take j)).getD Z T0=(zh,xh):=by rw[<-WI.o,aQ,bf,WJ.o];rfl);have JJ:=uJ (L:=L) (m:=N.nodes.length) (ins.take j) (GX.take j) (cD N O L l P x d).1 HBW.o.len (λz hz=>BR.o.2.2.2 z (cE hz)) (by rw[gI,BR.o.1,d8,gI]) (λt ht=>BR.o.2.1 t (cE ht)) HBW.o.sh;have uA:=JJ.2.1 (Z:Int) hJ hH;unfold AA at uA;rw[aZ,G3]at uA;have WK:z3=L.getD Z []/\TV.ok (z3,x3):=by refine⟨?_,BR.o.2.1 _ (aC uC)⟩;(have C:(GX.map (·.1))[j]?=(d8 (⟨o,ins,aS Q⟩:et) L)[j]?:=by rw[BR.o.1]);rw[bf,uC,d8,bf]at C;have h8:ins[j]?=some (Z:Int):=jM.o;have h7:(some (z3,x3)).map Prod.fst=(ins[j]?).map λz=>L.getD z.toNat []:=C;rw[h8]at h7;exact cH h7
   have hV:=AB (S:=L.getD Z []) uA WK.1 WK.2;obtain⟨V,xK⟩:=lh (iz (zh,xh) (z3,x3));rw[xK]at hV;have ac9:=ae xK;have HVO:=ae hV;have BO:Hx (xh=[]\/cR zh xh z3 x3=true):=ae (by
    rcases uA with g2|g2
    .exact .inl (cq Prod.snd g2)
    .refine .inr ?_;have e1:zh=z3:=g2.1.trans WK.1.symm;unfold cR;rw[g2.2.1,WK.2.1,e1];simp)
   have Cs:xh.length<=1000000:=by rcases uA with g2|g2;have:xh=[]:=cq Prod.snd g2;rw[this];simp;have C:xh.length<=65536:=(fu g2.2.1).1;omega
   have pQ:Hx (iQ (cD N O L l P x d).1 (ins.take (j+1)) (GX.take (j+1))=(iQ (cD N O L l P x d).1 (ins.take j) (GX.take j)).set Z V):=ae (by
    have C:=tr ins GX (cD N O L l P x d).1 j (Z:Int) (z3,x3) jM.o uC;rw[aZ,G3,xK]at C;exact C)
   have Ta:Bx wr G 151 #[.slice A' qn c',.slice (some ⟨b2,o2,none⟩) ni d']:=⟨Kq.o.ak kG8.ak Bo.o.2⟩;(have i2:(j:Int)<(ni:Int):=by omega);(have i3':(Z:Int)<(R:Int):=by omega);have ogg:Old gg wr:=⟨U.o.g.lC.2⟩;clear uC G3 JJ uA WK hV xK WJ Ws uO;go_upto_region 28 with fail;(have ada:b2≠gg:=by (have C:JG≠[]:=λe=>by have h8:=D2.o;rw[e]at h8;have:=Mz.o.2.2;rw[<-h8]at this;simp at this;omega);have:=WD.o C b2 ⟨_,rfl,rfl⟩;have:=T.o;omega);have cA:Cl wr b2 (o2+j*2) (A3,n3,c3):=⟨e0⟩;have cB:Cl wr b2 (o2+j*2+1) (.slice B3 k3 d3):=⟨e1⟩;clear e0 e1;refine a6 E (λw9=>Bx w9 G 151 #[.slice A' qn c',.slice (some ⟨b2,o2,none⟩) ni d']/\Cl w9 b2 (o2+j*2) (A3,n3,c3)/\Cl w9 b2 (o2+j*2+1) (.slice B3 k3 d3)) ao ⟨aq,aq,aq⟩ (λJ _=>?_);refine bL 0 ?_;refine bL 1 ?_;refine bL 2 ?_;refine bL 3 ?_;refine bL 4 ?_;refine bL 6 ?_;refine bL 7 ?_;refine bL 8 ?_;refine bL 9 ?_;refine bL 10 ?_;refine aK 5 λK hK=>?_;go_simp;refine aG hK ?_ ⟨aR E _,⟨aq,aq,aq⟩⟩;refine aK 11 λK hK=>?_;have H9:wr.1.size<=J.1.size:=ai;go_simp;refine(GD Cs om om BO ac9).mono ?_
   rintro e9 J ⟨A6,c6,B6,d6,rfl,s6,x6,l6,l6',f6,f6',_⟩;dsimp only;have HF6:Hx (bG wr.1.size A6/\bG wr.1.size B6):=ae ⟨f6.less H9,f6'.less H9⟩;clear H9;refine aG hK ?_ ⟨aR E _,aq,aq,aq⟩;refine bL 12 ?_;refine aK 13 λK hK=>?_;have Si:=U.o.at (w':=J);obtain⟨⟨y0,qf⟩,⟨y1,xD⟩,BX⟩:=Si.g.cells (i:=Z) Yv;have I2:=BX (Z*2);have sf:=BX (Z*2+1);go_simp;obtain⟨W9,Y⟩:=lg ((J.setCell (gg,Z*2) (.slice A6 V.1.length c6)).setCell (gg,Z*2+1) (.slice B6 V.2.length d6));have sP:=HVO.o.2;have q3:=U.o.g.lC;have q4:=U.o.r.lC;have q5:rb<wr.1.size:=(Kq.o.ak WG λe=>U.o.ng e.symm).lt;have HG9:Hx (p7 W9 E.1.size gg R rg np rb (G0.set Z ⟨A6,c6,V.1,B6,d6,V.2⟩) rs2):=ae (by
    rw[Y];exact Si.av (i:=Z) (t:=⟨A6,c6,V.1,B6,d6,V.2⟩) Yv (TE.of (w:=J) (n1:=V.1.length) (m1:=V.2.length) aq aq l6'.le sP.2) (λb hb=>by
     rcases hb with hb|hb
     .have C:=gh (w:=J) (n:=V.1.length) (zs:=V.1) (A:=A6) aq (fM sP.right) b hb;obtain⟨ad,e9,rfl⟩:=hb;have:=HF6.o.1.o ad e9;exact⟨C,om,om,om,om⟩
     .have C:=gh (w:=J) (n:=V.2.length) (zs:=V.2) (A:=B6) aq sP.ne b hb;obtain⟨ad,e9,rfl⟩:=hb;have:=HF6.o.2.o ad e9;exact⟨C,om,om,om,om⟩) l6.le)
   have LP:Kf (λb=>b=gg) (λb=>b=gg) J W9:=by rw[Y];exact((Kf.refl (λb=>b=gg) J).av (q:=⟨gg,Z*2,none⟩) rfl _).av (q:=⟨gg,Z*2+1,none⟩) rfl _
   have QE:Hx (Kf (λb=>b=gg) (λb=>b=gg) W8 W9):=ae ((Kq.o.trans (Kf.later _ (w:=wr) (w':=J))).trans LP);(have p9:aj W9 E:=by rw[Y];exact Js M.o.g.lC.1);have Mg:Bx W9 G 151 #[.slice A' qn c',.slice (some ⟨b2,o2,none⟩) ni d']:=⟨LP.ak (Bx.ak (w:=J)) Bo.o.2⟩;have hold:W9.heap[b2]?=J.heap[b2]?:=LP.keep b2 (bu jU.lt ai) ada;have cA9:Cl W9 b2 (o2+j*2) (A3,n3,c3):=⟨(d9 hold).trans (Cl.eq (w:=J))⟩;have cB9:Cl W9 b2 (o2+j*2+1) (.slice B3 k3 d3):=⟨(d9 hold).trans (Cl.eq (w:=J))⟩;rw[<-Y];clear Y LP hold qf xD I2 sf BX Si sP q3 q4 q5;refine aG hK ?_ ⟨p9,Mg,cA9,cB9⟩;refine a9 ?_;go_wp2_with fail;exact⟨⟨j+1,_,om,by go_num,HG9,ae (by rw[pQ.o,jJ,WI.o];rfl),QE,p9⟩,by simp[intOf]<;>omega⟩
  obtain rfl:j=ni:=om;go_wp2_with fail;go_roundw;have GM:ins=j:=si.len.symm;refine⟨d+1,(ix:Int)-1,G0,rs2,om,rfl,ae (by have:=HY.o;omega),U,ae ?_,ae ?_,ae (Kq.o.ak WG λe=>U.o.ng e.symm),sZ⟩;rw[WI.o,vn.o,bY (ei GM),bY (ei Mz.o.2.2)];rw[vn.o,<-ac6.o,c9,c9,gI,kK,Zo.o,ac5.o,q8,Mz.o.2.1];simp[intOf]<;>omega
 have hdl:d=O:=om;obtain rfl:y= -1:=by have:=HY.o;omega
 obtain⟨bh,oh,Ah,ch,zh,Bh,dh,xh,eh,obh,Ww,ch1,sh1,sh2,lhh,ih,WJ⟩:=M.o.g.nL.get (k:=0) om;injection eh with eh;injection eh with eh eh2;subst eh eh2;simp only[cf,e6]at Ww ch1;have Y2:Bx wr rb 67 #[lo,.slice (some ⟨rg,0,none⟩) np np,(),()]:=⟨CM⟩;have ZB:=WJ;clear WJ;go_upto_region 31 with fail;obtain⟨W9,Y⟩:=lg ((wr.setCell (rb,2) (.slice Ah zh ch)).setCell (rb,3) (.slice Bh xh dh));have hru:=M.o.r.lC.1;have adb:E.1.size<=rb:=HRB.o;have kb9:Bx W9 rb 67 #[lo,.slice (some ⟨rg,0,none⟩) np np,.slice Ah zh ch,.slice Bh xh dh]:=⟨by rw[Y];exact(CM.o.av 2 _).av 3 _⟩;have p9:aj W9 E:=by rw[Y];exact Js adb
 have k9:Kf (λb=>b=rb) (λb=>b=rb) wr W9:=by rw[Y];exact((Kf.refl (λb=>b=rb) wr).av (q:=⟨rb,2,none⟩) rfl _).av (q:=⟨rb,3,none⟩) rfl _
 have HG9:Hx (p7 W9 E.1.size gg R rg np rb gs rs):=M.o.kf k9 λb e=>.inl e;rw[<-Y];clear Y;go_wp2_with fail;refine aX (v:=.tuple #[.agg #[lo,.slice (some ⟨rg,0,none⟩) np np,.slice Ah zh ch,.slice Bh xh dh],an]) ?_ rfl ?_;rw[cF rfl];go_simp;have hob:w.1.size+1+1<E:=(aq:Bx E (w.1.size+1+1) _ _).ak.lt;have hk:=kf4 (u:=W9) (q:=w.1.size+1+1) (z0:=.int .i64 lo) (z1:=.slice (some ⟨rg,0,none⟩) np np) (z2:=.slice Ah zh ch) (z3:=.slice Bh xh dh);have hg:=HG9.o.kf hk λb e=>.inr (by have:b=w.1.size+1+1:=e;omega);have JR:=JQ X;refine⟨some ⟨rg,0,none⟩,np,rs,⟨Ah,ch,zh,Bh,dh,xh⟩,by rw[HLO.o],hg.r.nL,?_,hg.g.el _ (aC ZB),?_,hk.prev λb e=>by have:b=w.1.size+1+1:=e;omega⟩;rw[Zo.o,JR,hdl];rw[JR,<-hdl,<-HGT.o,aQ,bf,ZB.o];rfl
end
end
variable{N:bm}{O xs zs:List Int}{L:List (List Int)}{R cb cp cx dx l m n:Nat}{ps:List Tn}{cap pl:Int}{w:World}{A B BA PA XA XB:Option Addr}
variable{P:List TV}{x:TV}{bs:List Int}
def Eg{t:TV}(h:t=T0\/TV.ok t):t.1.length<=1000000/\t.2.length<=1000000:=by
 rcases h with rfl|h;exact⟨aM _,aM _⟩;have:=fu h.1;omega
def JS(c:fQ N O L l P x):(∀t∈(lw N P x).2,t.1.length<=1000000/\t.2.length<=1000000)/\(((lw N P x).1.getD 0 T0).1.length<=1000000/\((lw N P x).1.getD 0 T0).2.length<=1000000):=by
 have b:=rX c.hN c.hE c.hF (kQ c.hN c.hF) O.length (al _);have e:LL N P (dU N P x) (q2 N L l P) (O.reverse.take O.length)=lw N P x:=(JQ c).symm;rw[e]at b;refine⟨λt ht=>Eg (b.Qi t ht),Eg ?_⟩;rcases b.sh 0 om om with h3|h3;exact .inl h3;exact .inr h3.2
def wu.exc(h:wu N zs ps x cap)(b:∀t∈ps,∀z∈t.xs,bb z)(e:∀z∈x.2,bb z)(j:∀v∈N.nodes,bb v.o.k)(m:iR N=0):∃O L l,fQ N O L l (ps.map Tn.tv) x:=by
 obtain⟨O,L,l,r,y,-⟩:=look_ok h.hE;exact⟨O,L,l,y,h.hE,m,⟨h.ft.1,λt ht=>⟨h.ft.2.1 t ht,λz B=>by
  obtain⟨u,hu,rfl⟩:=bw.1 ht;exact b u hu z B⟩,h.ft.2.2.2,⟨h.ft.2.2.1,e⟩,j⟩,r⟩
variable{K:Option Addr}{xz:List Int}
def aW.k6(a:aW w A n B m N):∀v∈N.nodes,bb v.o.k:=λv hv=>by
 obtain⟨k,b⟩:=eN hv;have e:k<m:=by rw[a.len];exact(a8.1 b).1
 obtain⟨_,_,o,_,_,_,_,_,_,_,_,_,_,_,_,_,_,_,_,_,_,_,_,i6,j⟩:=a.node e;rw[j.o]at b;obtain rfl:=cH b;exact i6.bd
def xA2(h:Γ:=by go_ret;exact⟨rfl,aP w _⟩):=h
def xA3(h:Γ:=by go_wp2_with (go_at_call 8;refine kG.mono ?_;rintro e u3 ⟨rfl,_⟩);exact xA2):=h
def xA4(h:Γ:=by go_wp2_with (go_at_call 8;refine kG.mono ?_;rintro e u4 ⟨rfl,_⟩);exact xA2):=h
def ve[s:Bs w BA zs.length zs][tp:Ts w PA ps.length ps][sx:Sl w XA xz xz][xx:Sl w XB xs xs][lx:Le xs.length dx][ix:cv xs][sk:Bs w K bs.length bs](Jk:zs<=cb)(hb:Hx (∀t∈ps,t.zs.length<=17592186043904/\t.xs.length<=17592186043904))(pt:Hx (∀t∈ps,t.zs.length<=t.c))(CD:ps.length<=140737488351232)(hx:xz.length<=17592186043904/\xs.length<=17592186043904)(I:ps<=cp)(hlx:xz<=cx):
  () 6 #[.agg #[.slice BA zs cb,.slice PA ps cp,.slice XA xz cx,.slice XB xs dx,pl,cap],.slice K bs R] w (Rt w):=by
 have CB:=@ay;have FB:=@aO;have h6:Hx (∀t∈ps,∀z∈t.xs,bb z):=λt ht=>(tp.rd.elems t ht).2.2.2;have h6x:Hx (∀z∈xs,bb z):=ix.bd;obtain⟨x,hX⟩:=lg ((xz,xs));have HX:=ae hX;have sx1:Sl w XA xz x.1:=by rw[hX];exact sx
 have xx1:Sl w XB xs x.2:=by rw[hX];exact xx
 have PC:cv x.2:=by rw[hX];exact ix
 obtain⟨y1,Qb⟩:=lh zs.length;obtain⟨y2,J⟩:=lh ps.length;obtain⟨y3,Zv⟩:=lh xz.length;obtain⟨y4,hy4⟩:=lh xs.length;obtain⟨y5,M⟩:=lh bs.length;have HY2:=ae J;have HY5:=ae M;clear hX sx xx ix;rw[Qb]at s Jk⊢;rw[J]at tp CD I⊢;rw[Zv]at sx1 hx hlx⊢;rw[hy4]at xx1 lx hx⊢;rw[M]at sk⊢;clear Qb J Zv hy4 M;go_in;go_upto_region 1 with fail;refine aE (λu0 p0 k0=>?_);go_upto_region 2 with(go_at_call 7;refine(VC Jk hb pt CD hx).mono ?_;rintro e u1 ⟨A,n,c,B,m,d,g,rfl,hg,_⟩);refine aE (λu2 p2 k2=>?_);cases g with
 |false=>clear hg;exact xA3
 |true=>
  obtain⟨N,j,aN,EU,H7⟩:=hg rfl;have b:=ae j;clear hg j;by_cases h9:900<y5;(have g9:decide ((900:Int)<(y5:Int))=true:=by simp;omega);exact xA3;(have g9:decide ((900:Int)<(y5:Int))=false:=by simp;omega);have hy9:y5<=900:=om;clear h9;obtain⟨E,hE⟩:=lh (vd bs);obtain⟨V,hV⟩:=lh (JL bs);have HE:=ae hE;have HV:=ae hV;have JT:=JN (bs:=bs);rw[hE]at JT;(have y:V.length<=65536:=by rw[<-hV];unfold JL;split;have:=JO bs;rw[HY5.o]at this;omega;exact aM _);obtain⟨k,hk⟩:=lh V.length;have HK:=ae hk;rw[hk]at y;clear hE hV hk;go_upto_region 5 with(go_at_call 13;refine(Rp hy9 HE HV).mono ?_;rintro e u3 ⟨AC,cC,rfl,oC,_⟩;rw[HK.o]);rcases JT with rfl|rfl|rfl;rotate_left;exact xA4;exact xA4;have iC:Is u3 AC k V:=⟨ce.rd oC,HK.o.symm⟩;clear oC;have qf:=b.o.c0;have xD:=b.o.c1;obtain⟨C,rfl⟩:=bJ qf;have G:C<=16777216:=om;clear qf xD;have HF:Hx N.fits:=b.o.fi;have HS:Hx N.small:=b.o.sm;have wq:Hx (bo N=0):=b.o.hE;have Q:Hx (eB ps):=b.o.ok pt;have Za:Hx ((ps.map Tn.tv).map (·.1)=bH N):=b.o.ft.1;have HXF:Hx (x.1=N.dV):=b.o.ft.2.2.2;have hr:=b.o.ft.2.2.1;obtain⟨S,Kn⟩:=w9 b.o.fw;(have adW:y2<=300:=by rw[<-Za.o,bj,bj,HY2.o]at S;exact S);have hmm:N.nodes.length<=200:=om;have r:y2<=1000000:=om;have OJ:Hx (∀v∈N.nodes,bb v.o.k):=aN.k6;obtain⟨⟨P1,P2,P3,P4⟩,HRV⟩:=kS (rf N (C:Int) V);obtain⟨E,D⟩:=kS (mV N (C:Int) V);clear S Kn;go_upto_region 8 with(go_at_call 14;refine(GA HF HS y om D HRV).mono ?_;rintro e u4 ⟨rfl,_⟩);refine aE (λu5 p5 k5=>?_);by_cases h0:E=0;rotate_left
  .have b0:(E !=0)=true:=by simp[h0]
   go_upto_region 9 with(go_at_call 19;refine(Mt HF HS wq Za Q HXF hr r y G D h0).mono ?_;rintro e u6 ⟨rfl,_⟩);refine aE (λu7 p7 k7=>?_);clear h0 hr;go_wp2_with (go_at_call 8;refine kG.mono ?_;rintro e u8 ⟨rfl,_⟩);exact xA2
  subst h0;obtain⟨O,L,l,u⟩:=b.o.exc h6 (by rw[HX.o];exact h6x) OJ (BP D).1;have T:=ae u;obtain⟨EZ,hsx⟩:=JS u;have Ar:=ae EZ;have HSX:=ae hsx;clear u EZ hsx hr;have Fo:Hx (ps.map Tn.tv=ps.map Tn.tv):=rfl;obtain⟨P,hP⟩:=lh (ps.map Tn.tv);rw[hP]at T Ar HSX;have HP:=ae hP;clear hP Fo;have lxd:y4<=dx:=lx.le;go_upto_region 9 with(go_at_call 19;refine(Ob HF HS T HP Q r hlx lxd I H7 y G hmm D HRV).mono ?_;rintro e u6 ⟨A2,c2,gs,⟨A5,c5,Y,B5,d5,Z⟩,pk,hi,mv,rfl,tG,hG,tX,hX2,WY,_⟩;dsimp only);have HG:=ae hG;have BR:=ae hX2;have t1:Sl u6 A5 Y Y:=⟨tX.1,rfl⟩;have t2:Sl u6 B5 Z Z:=⟨tX.2.1,rfl⟩;(have g10:decide (hi<=(C:Int))=true:=by simpa using WY);clear hG hX2 tX WY;refine aE (λu7 p7 k7=>?_);go_upto_region 12 with(go_at_call 20;refine(Zx HF HS T HP Q r I H7).mono ?_;rintro e u8 ⟨A3,c3,t8,⟨A6,c6,z6,B6,d6,x6⟩,rfl,tH,hH,U,hX3,_⟩;dsimp only);have ZB:Hx (gs.map Tn.tv=t8.map Tn.tv):=HG.o.trans hH.symm;have e9:((Y,Z):TV)=(z6,x6):=BR.o.trans hX3.symm;have F:=HSX.o;rw[<-BR.o]at F;have hz5:Y.length<=1000000:=F.1;have hx5:Z.length<=1000000:=F.2;have JF:Hx (∀t∈gs,t.zs.length<=1000000/\t.xs.length<=1000000):=λt ht=>Ar.o t.tv (by rw[<-HG.o];exact List.mem_map_of_mem ht);injection e9 with e7 e8;subst e7 e8;have t3:Sl u8 A6 Y Y:=⟨U.1,rfl⟩;have t4:Sl u8 B6 Z Z:=⟨U.2.1,rfl⟩;have X:y2<=1000000000000:=om;clear hH hX3 U F;refine aE (λu9 p9 k9=>?_);go_wp2_with (first|(go_at_call 21;refine(QK ZB JF hz5 hx5 X).mono ?_;rintro e u10 ⟨rfl,_⟩)|(go_at_call 8;refine kG.mono ?_;rintro e u11 ⟨rfl,_⟩));exact xA2
section
open Go.ChangeShapes Go.WideShapes Go.ChangeAt Go.RowKit
def xA6(h:Γ:=by decide+kernel):=h
def tw(os:Os)(b:os.Started)(H:Type)(enc:TypeId×Value->H):
  ReturnsInHanded {} Tryz.checked os 6 .any (Rows.wholePlansSpec.pre6 enc Tryz.prog Tryz.f6 Rows.wholePlansRow.domain false) (Rows.wholePlansSpec.post enc Tryz.prog Tryz.f6 false true false false):=by
 refine returnsInHanded_of_change_sized (C:=Tryz.checked) BS b ao Tryz.func6
  (ChangeSpec.witness6 (enc:=enc) (C:=Tryz.checked) false ⟨#[],#[.agg #[(),(),(),(),an,an],()],[]⟩ 8 ao ao ao ao) ?_
 intro W base args L gs before l M _ u _;have B:(DataW.weightsEach Tryz.prog (Tryz.f6.params.toList++Rows.wholePlansSpec.plain.varTypes Tryz.prog) (L++gs)).all (· <=reachBytes)=true:=u;have m:∀(j:Nat) t v,Tryz.f6.params[j]?=some t->args[j]?=some v->Value.okWide Tryz.prog W .any base t v:=l;have G:=M;obtain⟨p,q,D,hV,rfl,_,_⟩:=M;have I:DataW.TrodAll enc Tryz.prog W 0 (λ_=>true) true Tryz.f6.params.toList args.toList L p:=D;rw[Tryz.params6]at I m B;have E:=I;obtain⟨v0,Q,d0,R,p0,q0,J,rfl,rfl,S,r0⟩:=trodAll_cons I;obtain⟨N,T,d1,U,p1,q1,rfl,rfl,rfl,V,r1⟩:=trodAll_cons r0;obtain⟨rfl,rfl,rfl⟩:=trodAll_nil r1;obtain rfl:args= #[v0,N]:=by cases args;simp_all
 obtain⟨rfl,rfl⟩:=trodVars_none hV;obtain⟨BA,cb,zs,PA,cp,ps,XA,cx,O,XB,dx,xs,pl,cap,rfl,s0,K,r,F,y,X,l1⟩:=GO (m 0 30 v0 rfl rfl) S (RF B (j:=0) rfl rfl);obtain⟨K1,Y,Z,rfl,bk1,P⟩:=Md (m 1 22 N rfl rfl) V;have tp1:Ts W PA ps.length ps:=⟨r.rd,rfl⟩;have sx1:Sl W XA O O:=⟨F.rd,rfl⟩;have sy1:Sl W XB xs xs:=⟨y.rd,rfl⟩;have lx1:Le xs.length dx:=⟨y.2.1⟩;have i61:cv xs:=⟨λz hz=>yK (y.2.2.2 z hz)⟩;clear D l u;refine(ve K (ae r.big) (ae r.abq) (by have:=r.len;omega) ⟨X,l1⟩ r.cap F.2.1).mono λe W' ⟨he,aP⟩=>?_;subst he;exact⟨_,rfl,_,_,_,[],_,[],G,trodAll_mk1 (shut_bool Tryz.underlying4 _),yJ ET xA6 E aP,rfl,aP.frame _,λh=>by cases h⟩
theorem wholePlans_holds:Rows.WholePlansSaid:=
 OpenClaim.holds_of_wide 6 Tryz.f6 rfl rfl rfl rfl rfl rfl rfl ⟨rfl,rfl,rfl,rfl,rfl⟩ rfl rfl rfl rfl rfl u2 Tryz.func6 u1
  (o6 ao) (by unfold Func.isWrapper;first|(rw[ah xA6];kernel_rfl)|(rw[ag xA6];exact⟨rfl,rfl⟩))
  (λos b H e _=>tw os b H e)
end
end Go.Proofs.YtmkjnlifimffkaaGreat
