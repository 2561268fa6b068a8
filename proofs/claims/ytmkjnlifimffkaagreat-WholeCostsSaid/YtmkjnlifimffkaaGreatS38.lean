/- Lemmas. No condition. -/
import Derived.Test.YtmkjnlifimffkaaGreatS37
namespace Go.Proofs.YtmkjnlifimffkaaGreat
open Go.RowKit
set_option linter.all false
set_option maxRecDepth 100000
set_option maxHeartbeats 16000000
def NF(x:Nd)(b:Nat):Prop:=AF x.A b\/AF x.I b\/AF x.P b\/∃s∈x.ps,AF s.A b
structure vH(B:Nat)(u:World)(x:Nd):Prop where
 s:Sl u x.A x.n x.o.S
 i:Sl u x.I x.ni x.ins
 p:dA u x.P x.np x.ps
 ls:x.n<=x.c
 li:x.ni<=x.ci
 lp:x.np<=x.cp
 k6:aR x.o.k
 lo:∀b,NF x b->B<=b
 hi:∀b,NF x b->b<u.heap.size
def apa(p:World)(g:Nat)(w:World)(V:dJ)(o:eY)(e:Ending)(w':World):Prop:=
 ∃x:Nd,e=.returned (.agg #[x.o.kd,x.o.k,x.o.wd,x.o.st,x.o.sd,x.o.fr,x.o.tt,.slice x.A x.n x.c,.slice x.I x.ni x.ci,.slice x.P x.np x.cp])/\Hid (x.val=V)/\Hid (vH w.heap.size w' x)/\Hid (jf p w' g o)/\Hid (Ke (fun b=>b=g) w w')/\ak w' p
theorem jd.push{w w':World}{B c c':Nat}{A A':Option Addr}{ss:List Sp}{x:Sp}(h:jd w B A c ss)(F:Rd w x.A x.zs)(hm:x.m=x.zs.length)(E:x.m<=x.c)(r:∀b,AF x.A b->B<=b/\b<w.heap.size/\¬AF A b)(D:bS A A' w w')
  (hr:aP w' B 25 1 A' c' (ss.length+1) ((fP ss).toList++[.slice x.A x.m x.c])):jd w' B A' c' (ss++[x]):=by
 have C:∀y∈ss++[x],∀ad,y.A=some ad->ad.block<w.heap.size:=fun y j ad e=>by
  rcases dP.1 j with j|j
  ·exact h.lt y j ad e
  ·rw[gm.1 j]at e;exact(r _ ⟨ad,e,rfl⟩).2.1
 have u:∀y∈ss++[x],∀ad bd,y.A=some ad->A=some bd->bd.block≠ad.block:=fun y j ad bd e l=>by
  rcases dP.1 j with j|j
  ·exact h.ne y j ad bd e l
  ·rw[gm.1 j]at e;exact fun G=>(r _ ⟨ad,e,rfl⟩).2.2 ⟨bd,l,G⟩
 refine⟨?_,fun y j=>?_,fun y j ad bd e l=>?_,fun y j ad e=>bV (C y j ad e) D.size⟩
 ·rw[cu,aa0];exact hr
 ·rcases dP.1 j with z|z
  ·obtain⟨I,J⟩:=h.el y z;exact⟨I.iq D fun ad bd e l=>u y j ad bd e l,J⟩
  ·rw[gm.1 z]at j⊢;exact⟨F.iq D fun ad bd e l=>u x (Br _ (gm.2 rfl)) ad bd e l,hm,E,⟨fun ad e=>(r _ ⟨ad,e,rfl⟩).1⟩⟩
 ·rcases D.new bd l with⟨a0,K,L⟩|M
  ·rw[L];exact u y j ad a0 e K
  ·have:=C y j ad e;omega
theorem jd.kf{w w':World}{B c:Nat}{A:Option Addr}{ss:List Sp}{F F':Nat->Prop}(h:jd w B A c ss)(l:Kf F F' w w')(hF:∀b,B<=b->¬F b):jd w' B A c ss:=
 ⟨l.row h.row fun b hb=>hF b (h.row.af hb).1,fun x j=>⟨l.rd (h.el x j).1 fun b ⟨ad,e,m⟩=>hF b (m▸(h.el x j).2.2.2.out ad e),(h.el x j).2⟩,h.ne,fun x j ad e=>bV (h.lt x j ad e) l.size⟩
theorem jd.apb{w:World}{B c:Nat}{A:Option Addr}{ss:List Sp}(h:jd w B A c ss):dA w A ss.length ss:=⟨fun j x b=>by
 have hm:=aK b;obtain⟨g,e,l⟩:=h.row.cell (j:=j) (v:=.slice x.A x.m x.c) (by simp[fP,b]);exact⟨g,0,e,(h.row.af ⟨_,e,rfl⟩).2.1,by rw[fo];exact l,(h.el x hm).1,(h.el x hm).2.1,(h.el x hm).2.2.1⟩,rfl⟩
section
variable{p w w' u u' v:World}{g:Nat}{o o':eY}{V:dJ}
theorem apc{q:Nat}{z0 z1 e z3 z4 j l m r y:Value}:Kf (fun b=>b=q) (fun b=>b=q) u ((((((((((u.setCell ⟨q,0,none⟩ z0).setCell ⟨q,1,none⟩ z1).setCell ⟨q,2,none⟩ e).setCell ⟨q,3,none⟩ z3).setCell ⟨q,4,none⟩ z4).setCell ⟨q,5,none⟩ j).setCell ⟨q,6,none⟩ l).setCell ⟨q,7,none⟩ m).setCell ⟨q,8,none⟩ r).setCell ⟨q,9,none⟩ y):=
 ((((((((((Kf.refl (fun b=>b=q) u).aF (q:=⟨q,0,none⟩) rfl z0).aF (q:=⟨q,1,none⟩) rfl z1).aF (q:=⟨q,2,none⟩) rfl e).aF (q:=⟨q,3,none⟩) rfl z3).aF (q:=⟨q,4,none⟩) rfl z4).aF (q:=⟨q,5,none⟩) rfl j).aF (q:=⟨q,6,none⟩) rfl l).aF (q:=⟨q,7,none⟩) rfl m).aF (q:=⟨q,8,none⟩) rfl r).aF (q:=⟨q,9,none⟩) rfl y
theorem vH.kf{w w':World}{B:Nat}{x:Nd}{F F':Nat->Prop}(h:vH B w x)(l:Kf F F' w w')(hF:∀b,NF x b->¬F b):vH B w' x:=
 ⟨l.sl h.s fun b hb=>hF b (.inl hb),l.sl h.i fun b hb=>hF b (.inr (.inl hb)),⟨fun j s y=>by
  obtain⟨b,off,e,m,z,C,D,E⟩:=h.p.rd j s y;have hb:=l.keep b m (hF b (.inr (.inr (.inl ⟨_,e,rfl⟩))));exact⟨b,off,e,bV m l.size,(jG hb).trans z,l.rd C fun b' r=>hF b' (.inr (.inr (.inr ⟨s,aK y,r⟩))),D,E⟩,h.p.len⟩,h.ls,h.li,h.lp,h.k6,h.lo,fun b hb=>bV (h.hi b hb) l.size⟩
theorem apd{w v u u':World}{g q vb:Nat}(j:w.heap.size<=v.heap.size)[l:Later w v](h:Ke (fun b=>b=g\/b=vb) v u)(m:Kf (fun b=>b=q) (fun b=>b=q) u u')(hq:w.heap.size<=q/\w.heap.size<=vb):Ke (fun b=>b=g) w u':=
 ⟨(l.st.mono (aS _)).trans (h.base.trans m.base),aZ j (aZ h.size m.size),fun b hb r=>(m.keep b (bV hb (aZ j h.size)) (by show¬b=q;omega)).trans ((h.keep b (bV hb j) (by rintro(e|e);exact r e;omega)).trans (l.st.block b hb)),fun _ hb=>.inl hb⟩
theorem ape(c:Nat):nN c none=([],none):=by cases c<;>rfl
theorem apf(c:Nat):oP c none=([],none):=by cases c<;>rfl
theorem acR(h:Hid (jf p w g o))(hN:Hid (yf o=(V,o'))):Calls Tryz.prog 48 #[.pointer g] w (apa p g w V o'):=by
 have CB:=@bf;have FB:=@dV;have hg0:=h.out.hg;have Ka:=h.out.byO;have e1:(256:Int)^1=256:=by decide
 have e2:(256:Int)^2=65536:=by decide
 have hn:=hN.out;obtain⟨⟨z0,o0⟩,hz0⟩:=lh (bE 1 o);have Kb:=(Ka).get 1;rw[hz0]at Kb;dsimp only at Kb;have Hz0:=ae hz0;obtain⟨⟨z1,o1⟩,hz1⟩:=lh (bE 8 o0);have Oz:=(Kb.1).get 8;rw[hz1]at Oz;dsimp only at Oz;have Hz1:=ae hz1;obtain⟨⟨f1,Q⟩,hf1⟩:=lh (bE 2 o1);have Kc:=(Oz.1).get 2;rw[hf1]at Kc;dsimp only at Kc;have Hf1:=ae hf1;obtain⟨⟨f2,o3⟩,hf2⟩:=lh (bE 2 Q);have Kh:=(Kc.1).get 2;rw[hf2]at Kh;dsimp only at Kh;have Hf2:=ae hf2;obtain⟨⟨f3,o4⟩,hf3⟩:=lh (bE 2 o3);have Ki:=(Kh.1).get 2;rw[hf3]at Ki;dsimp only at Ki;have Hf3:=ae hf3;obtain⟨⟨f4,o5⟩,OA⟩:=lh (bE 2 o4);have Kj:=(Ki.1).get 2;rw[OA]at Kj;dsimp only at Kj;have Hf4:=ae OA;obtain⟨⟨f5,o6⟩,OB⟩:=lh (bE 2 o5);have Kk:=(Kj.1).get 2;rw[OB]at Kk;dsimp only at Kk;have Hf5:=ae OB;obtain⟨⟨zs,o7⟩,hzs⟩:=lh (lY o6);have OC:=(Kk.1).sh;rw[hzs]at OC;dsimp only at OC;have HZS:=ae hzs;obtain⟨⟨ci,o8⟩,hci⟩:=lh (bE 1 o7);have EE:=OC.get 1;rw[hci]at EE;dsimp only at EE;rw[e1]at EE;have HCI:=ae hci;obtain⟨⟨is,o9⟩,his⟩:=lh (nN ci.toNat o8);have OD:=oQ.ins ci.toNat EE.1;rw[his]at OD;dsimp only at OD;obtain⟨⟨cq,U3⟩,hcq⟩:=lh (bE 1 o9);have GN:=OD.get 1;rw[hcq]at GN;dsimp only at GN;rw[e1]at GN;have HCQ:=ae hcq;obtain⟨⟨ps,OE⟩,hps⟩:=lh (oP cq.toNat U3);rw[e1]at Kb;rw[e2]at Kc Kh Ki Kj Kk;obtain⟨K,hK⟩:=lh (IntKind.i64.wrap z1);have hV:V=⟨⟨z0,K,f1,f2,f3,f4,f5,zs⟩,is,ps⟩/\o'=OE:=by
  unfold yf ug at hn;simp only[hz0,hz1,hf1,hf2,hf3,OA,OB,hzs,hci,his,hcq,hps,hK]at hn;injection hn with n1 n2
  exact⟨n1.symm,n2.symm⟩
 have HV:=ae hV;obtain⟨c,rfl⟩:=eF EE.2.1;obtain⟨d,rfl⟩:=eF GN.2.1;rw[dD]at his hps;have hc:c<256:=by have:=EE.2.2;omega
 have hd:d<256:=by have:=GN.2.2;omega
 have HIS:=ae his;have IB:=ae hps;have w0:IntKind.i64.wrap z0=z0:=by rw[bF];omega
 have w1:IntKind.i64.wrap f1=f1:=by rw[bF];omega
 have w2:IntKind.i64.wrap f2=f2:=by rw[bF];omega
 have w3:IntKind.i64.wrap f3=f3:=by rw[bF];omega
 have w4:IntKind.i64.wrap f4=f4:=by rw[bF];omega
 have w5:IntKind.i64.wrap f5=f5:=by rw[bF];omega
 have hK6:aR K:=by rw[<-hK];unfold aR;rw[bF];omega
 have ML:=ae hK6;clear hz0 hz1 hf1 hf2 hf3 OA OB hzs hci his hcq hps hn hV Kb Oz Kc Kh Ki Kj Kk OC EE OD GN Ka e1 e2 hK6;go_enter Tryz.func48,Tryz.ntmps48
 go_upto_region 2 with fail
 refine qd (fun v pv k0 k1=>?_);obtain⟨vb,hvb⟩:=lg (w.heap.size+1);rw[<-hvb]at k1⊢;have vE:Hid (ek 84 p v v v g vb o #[(0:Int),(0:Int),(0:Int),(0:Int),(0:Int),(0:Int),(0:Int),.slice none 0 0,.slice none 0 0,.slice none 0 0]):=ae ⟨h.out.at,Kf.refl _ _,Kf.refl _ _,k1.blk,om,om,k1.blk.lt,az _⟩;have hvv:=k1.blk.lt;have hgv:g<v.heap.size:=om;have U4:=ae hvb;clear hvb
 go_upto_region 3 with(go_at_call 46;refine(qQ (k:=1) (y:=1) (ae vE.out.r) rfl ah ah Hz0).mono ?_;rintro e u1 ⟨rfl,HR,HK,pu⟩;have Iz:Hid (ek 84 p v v u1 g vb o0 #[(0:Int),(0:Int),(0:Int),(0:Int),(0:Int),(0:Int),(0:Int),.slice none 0 0,.slice none 0 0,.slice none 0 0]):=ae (vE.out.get HR.out HK.out);have kb:Bx u1 vb 84 #[(0:Int),(0:Int),(0:Int),(0:Int),(0:Int),(0:Int),(0:Int),.slice none 0 0,.slice none 0 0,.slice none 0 0]:=⟨Iz.out.bv⟩)
 obtain⟨W1,hW1⟩:=lg (u1.setCell ⟨vb,0,none⟩ (.int .i64 z0));have HT1:Hid (ek 84 p v v W1 g vb o0 #[z0,(0:Int),(0:Int),(0:Int),(0:Int),(0:Int),(0:Int),.slice none 0 0,.slice none 0 0,.slice none 0 0]):=ae (by rw[hW1];exact Iz.out.set 0 _);rw[<-hW1];clear hW1;clear k1
 go_upto_region 4 with(go_at_call 46;refine(qQ (k:=8) (y:=8) (ae HT1.out.r) rfl ah ah Hz1).mono ?_;rintro e u2 ⟨rfl,HR2,apl,ru⟩;have HS2:Hid (ek 84 p v v u2 g vb o1 #[z0,(0:Int),(0:Int),(0:Int),(0:Int),(0:Int),(0:Int),.slice none 0 0,.slice none 0 0,.slice none 0 0]):=ae (HT1.out.get HR2.out apl.out);have uJ:Bx u2 vb 84 #[z0,(0:Int),(0:Int),(0:Int),(0:Int),(0:Int),(0:Int),.slice none 0 0,.slice none 0 0,.slice none 0 0]:=⟨HS2.out.bv⟩)
 obtain⟨W2,hW2⟩:=lg (u2.setCell ⟨vb,1,none⟩ (.int .i64 K));have HT2:Hid (ek 84 p v v W2 g vb o1 #[z0,.int .i64 K,(0:Int),(0:Int),(0:Int),(0:Int),(0:Int),.slice none 0 0,.slice none 0 0,.slice none 0 0]):=ae (by rw[hW2];exact HS2.out.set 1 _);rw[<-hW2];clear hW2
 go_upto_region 5 with(go_at_call 90;refine ao9.mono ?_;rintro e u3 ⟨G,rfl,hG,kG,OG⟩)
 have wF:Hid (ek 84 p v v u3 g vb o1 #[z0,.int .i64 K,(0:Int),(0:Int),(0:Int),(0:Int),(0:Int),.slice none 0 0,.slice none 0 0,.slice none 0 0]):=ae HT2.out.at;have hGv:v.heap.size<=G:=aZ HT2.out.k.size hG;have HKG:=ae kG;have R:Hid (∀i,i<=5->fO o1 i=(if i=0 then o1 else if i=1 then Q else if i=2 then o3 else if i=3 then o4 else if i=4 then o5 else o6)):=ae fun i hi=>by
  have a2:fO o1 1=Q:=by show(bE 2 o1).2=_;rw[Hf1.out]
  have a3:fO o1 2=o3:=by show(bE 2 (fO o1 1)).2=_;rw[a2,Hf2.out]
  have a4:fO o1 3=o4:=by show(bE 2 (fO o1 2)).2=_;rw[a3,Hf3.out]
  have a5:fO o1 4=o5:=by show(bE 2 (fO o1 3)).2=_;rw[a4,Hf4.out]
  have a6:fO o1 5=o6:=by show(bE 2 (fO o1 4)).2=_;rw[a5,Hf5.out]
  have:i=0\/i=1\/i=2\/i=3\/i=4\/i=5:=om;rcases this with rfl|rfl|rfl|rfl|rfl|rfl
  ·rfl
  ·exact a2
  ·exact a3
  ·exact a4
  ·exact a5
  ·exact a6
 clear kG hG;go_loopw [21] (fun U5 wr=>∃i:Nat,i<=5/\U5=.int .i64 (i:Int)/\Hid (ek 84 p v v wr g vb (fO o1 i) #[z0,.int .i64 K,.int .i64 (if 0<i then f1 else 0),.int .i64 (if 1<i then f2 else 0),.int .i64 (if 2<i then f3 else 0),.int .i64 (if 3<i then f4 else 0),.int .i64 (if 4<i then f5 else 0),.slice none 0 0,.slice none 0 0,.slice none 0 0])/\Hid (aD wr G 183 #[.pointer (some ⟨vb,2,none⟩),.pointer (some ⟨vb,3,none⟩),.pointer (some ⟨vb,4,none⟩),.pointer (some ⟨vb,5,none⟩),.pointer (some ⟨vb,6,none⟩)])/\ak wr p) (fun U5 _=>5-(intOf U5).toNat)
 case atStart=>exact⟨0,ah,rfl,wF,HKG,wF.out.prev⟩
 case round=>
  clear wF HKG;obtain⟨i,hi,rfl,N,HG,hp⟩:=hrel;have:i=0\/i=1\/i=2\/i=3\/i=4\/i=5:=om;rcases this with rfl|rfl|rfl|rfl|rfl|rfl
  ·have D:Hid (ek 84 p v v wr g vb o1 #[z0,.int .i64 K,(0:Int),(0:Int),(0:Int),(0:Int),(0:Int),.slice none 0 0,.slice none 0 0,.slice none 0 0]):=ae (by have:=N.out;rw[R.out 0 ah]at this;exact this);have kG:Bx wr G 183 #[.pointer (some ⟨vb,2,none⟩),.pointer (some ⟨vb,3,none⟩),.pointer (some ⟨vb,4,none⟩),.pointer (some ⟨vb,5,none⟩),.pointer (some ⟨vb,6,none⟩)]:=⟨HG.out⟩
   go_wp2_with (go_at_call 46;refine(qQ (k:=2) (y:=2) (ae D.out.r) rfl ah ah Hf1).mono ?_;rintro e u4 ⟨rfl,HR,HK,pu⟩;have B:Hid (ek 84 p v v u4 g vb Q #[z0,.int .i64 K,(0:Int),(0:Int),(0:Int),(0:Int),(0:Int),.slice none 0 0,.slice none 0 0,.slice none 0 0]):=ae (D.out.get HR.out HK.out);have OH:Bx u4 vb 84 #[z0,.int .i64 K,(0:Int),(0:Int),(0:Int),(0:Int),(0:Int),.slice none 0 0,.slice none 0 0,.slice none 0 0]:=⟨B.out.bv⟩)
   go_roundw
   case rel=>
    refine⟨1,ah,rfl,ae ?_,ae ?_,(B.out.set 2 _).prev⟩
    ·rw[R.out 1 ah];exact B.out.set 2 _
    ·have:=HK.out.blk HG.out (by show¬G=g;omega);exact this.far (p:=⟨vb,2,none⟩) (by show G≠vb;omega) _
   case measure=>simp[intOf]
  ·have D:Hid (ek 84 p v v wr g vb Q #[z0,.int .i64 K,f1,(0:Int),(0:Int),(0:Int),(0:Int),.slice none 0 0,.slice none 0 0,.slice none 0 0]):=ae (by have:=N.out;rw[R.out 1 ah]at this;exact this);have kG:Bx wr G 183 #[.pointer (some ⟨vb,2,none⟩),.pointer (some ⟨vb,3,none⟩),.pointer (some ⟨vb,4,none⟩),.pointer (some ⟨vb,5,none⟩),.pointer (some ⟨vb,6,none⟩)]:=⟨HG.out⟩
   go_wp2_with (go_at_call 46;refine(qQ (k:=2) (y:=2) (ae D.out.r) rfl ah ah Hf2).mono ?_;rintro e u4 ⟨rfl,HR,HK,pu⟩;have B:Hid (ek 84 p v v u4 g vb o3 #[z0,.int .i64 K,f1,(0:Int),(0:Int),(0:Int),(0:Int),.slice none 0 0,.slice none 0 0,.slice none 0 0]):=ae (D.out.get HR.out HK.out);have OH:Bx u4 vb 84 #[z0,.int .i64 K,f1,(0:Int),(0:Int),(0:Int),(0:Int),.slice none 0 0,.slice none 0 0,.slice none 0 0]:=⟨B.out.bv⟩)
   go_roundw
   case rel=>
    refine⟨2,ah,rfl,ae ?_,ae ?_,(B.out.set 3 _).prev⟩
    ·rw[R.out 2 ah];exact B.out.set 3 _
    ·have:=HK.out.blk HG.out (by show¬G=g;omega);exact this.far (p:=⟨vb,3,none⟩) (by show G≠vb;omega) _
   case measure=>simp[intOf]
  ·have D:Hid (ek 84 p v v wr g vb o3 #[z0,.int .i64 K,f1,f2,(0:Int),(0:Int),(0:Int),.slice none 0 0,.slice none 0 0,.slice none 0 0]):=ae (by have:=N.out;rw[R.out 2 ah]at this;exact this);have kG:Bx wr G 183 #[.pointer (some ⟨vb,2,none⟩),.pointer (some ⟨vb,3,none⟩),.pointer (some ⟨vb,4,none⟩),.pointer (some ⟨vb,5,none⟩),.pointer (some ⟨vb,6,none⟩)]:=⟨HG.out⟩
   go_wp2_with (go_at_call 46;refine(qQ (k:=2) (y:=2) (ae D.out.r) rfl ah ah Hf3).mono ?_;rintro e u4 ⟨rfl,HR,HK,pu⟩;have B:Hid (ek 84 p v v u4 g vb o4 #[z0,.int .i64 K,f1,f2,(0:Int),(0:Int),(0:Int),.slice none 0 0,.slice none 0 0,.slice none 0 0]):=ae (D.out.get HR.out HK.out);have OH:Bx u4 vb 84 #[z0,.int .i64 K,f1,f2,(0:Int),(0:Int),(0:Int),.slice none 0 0,.slice none 0 0,.slice none 0 0]:=⟨B.out.bv⟩)
   go_roundw
   case rel=>
    refine⟨3,ah,rfl,ae ?_,ae ?_,(B.out.set 4 _).prev⟩
    ·rw[R.out 3 ah];exact B.out.set 4 _
    ·have:=HK.out.blk HG.out (by show¬G=g;omega);exact this.far (p:=⟨vb,4,none⟩) (by show G≠vb;omega) _
   case measure=>simp[intOf]
  ·have D:Hid (ek 84 p v v wr g vb o4 #[z0,.int .i64 K,f1,f2,f3,(0:Int),(0:Int),.slice none 0 0,.slice none 0 0,.slice none 0 0]):=ae (by have:=N.out;rw[R.out 3 ah]at this;exact this);have kG:Bx wr G 183 #[.pointer (some ⟨vb,2,none⟩),.pointer (some ⟨vb,3,none⟩),.pointer (some ⟨vb,4,none⟩),.pointer (some ⟨vb,5,none⟩),.pointer (some ⟨vb,6,none⟩)]:=⟨HG.out⟩
   go_wp2_with (go_at_call 46;refine(qQ (k:=2) (y:=2) (ae D.out.r) rfl ah ah Hf4).mono ?_;rintro e u4 ⟨rfl,HR,HK,pu⟩;have B:Hid (ek 84 p v v u4 g vb o5 #[z0,.int .i64 K,f1,f2,f3,(0:Int),(0:Int),.slice none 0 0,.slice none 0 0,.slice none 0 0]):=ae (D.out.get HR.out HK.out);have OH:Bx u4 vb 84 #[z0,.int .i64 K,f1,f2,f3,(0:Int),(0:Int),.slice none 0 0,.slice none 0 0,.slice none 0 0]:=⟨B.out.bv⟩)
   go_roundw
   case rel=>
    refine⟨4,ah,rfl,ae ?_,ae ?_,(B.out.set 5 _).prev⟩
    ·rw[R.out 4 ah];exact B.out.set 5 _
    ·have:=HK.out.blk HG.out (by show¬G=g;omega);exact this.far (p:=⟨vb,5,none⟩) (by show G≠vb;omega) _
   case measure=>simp[intOf]
  ·have D:Hid (ek 84 p v v wr g vb o5 #[z0,.int .i64 K,f1,f2,f3,f4,(0:Int),.slice none 0 0,.slice none 0 0,.slice none 0 0]):=ae (by have:=N.out;rw[R.out 4 ah]at this;exact this);have kG:Bx wr G 183 #[.pointer (some ⟨vb,2,none⟩),.pointer (some ⟨vb,3,none⟩),.pointer (some ⟨vb,4,none⟩),.pointer (some ⟨vb,5,none⟩),.pointer (some ⟨vb,6,none⟩)]:=⟨HG.out⟩
   go_wp2_with (go_at_call 46;refine(qQ (k:=2) (y:=2) (ae D.out.r) rfl ah ah Hf5).mono ?_;rintro e u4 ⟨rfl,HR,HK,pu⟩;have B:Hid (ek 84 p v v u4 g vb o6 #[z0,.int .i64 K,f1,f2,f3,f4,(0:Int),.slice none 0 0,.slice none 0 0,.slice none 0 0]):=ae (D.out.get HR.out HK.out);have OH:Bx u4 vb 84 #[z0,.int .i64 K,f1,f2,f3,f4,(0:Int),.slice none 0 0,.slice none 0 0,.slice none 0 0]:=⟨B.out.bv⟩)
   go_roundw
   case rel=>
    refine⟨5,ah,rfl,ae ?_,ae ?_,(B.out.set 6 _).prev⟩
    ·rw[R.out 5 ah];exact B.out.set 6 _
    ·have:=HK.out.blk HG.out (by show¬G=g;omega);exact this.far (p:=⟨vb,6,none⟩) (by show G≠vb;omega) _
   case measure=>simp[intOf]
  ·have D:Hid (ek 84 p v v wr g vb o6 #[z0,.int .i64 K,f1,f2,f3,f4,f5,.slice none 0 0,.slice none 0 0,.slice none 0 0]):=ae (by have:=N.out;rw[R.out 5 ah]at this;exact this);clear N R
   go_upto_region 10 with(go_at_call 47;refine(Ox (ae D.out.r) HZS).mono ?_;rintro e u5 ⟨AS,cS,rfl,wB,Km,U6,tK,U7⟩;have rO:Hid (ek 84 p v v u5 g vb o7 #[z0,.int .i64 K,f1,f2,f3,f4,f5,.slice none 0 0,.slice none 0 0,.slice none 0 0]):=ae (D.out.get U6.out tK.out);have kb6:Bx u5 vb 84 #[z0,.int .i64 K,f1,f2,f3,f4,f5,.slice none 0 0,.slice none 0 0,.slice none 0 0]:=⟨rO.out.bv⟩)
   obtain⟨W6,xA⟩:=lg (u5.setCell ⟨vb,7,none⟩ (.slice AS zs.length cS));have Kn:Hid (ek 84 p v v W6 g vb o7 #[z0,.int .i64 K,f1,f2,f3,f4,f5,.slice AS zs.length cS,.slice none 0 0,.slice none 0 0]):=ae (by rw[xA];exact rO.out.set 7 _);have hvw:v.heap.size<=wr.heap.size:=D.out.k.size;have OI:Hid (Rd W6 AS zs/\∀b,AF AS b->v.heap.size<=b/\b<W6.heap.size):=ae (by
    have h9:Kf (fun b=>b=vb) (fun b=>b=vb) u5 W6:=by rw[xA];exact(Kf.refl (fun b=>b=vb) u5).aF (q:=⟨vb,7,none⟩) rfl _
    exact⟨h9.rd wB.rd fun b hb e=>by have:=wB.lo b hb;omega,fun b hb=>⟨aZ hvw (wB.lo b hb),bV (wB.hi b hb) h9.size⟩⟩)
   have Ko:=ae Km;rw[<-xA];clear xA wB Km
   go_upto_region 11 with(go_at_call 46;refine(qQ (k:=1) (y:=1) (ae Kn.out.r) rfl ah ah HCI).mono ?_;rintro e u7 ⟨rfl,HR7,yU,pu7⟩)
   have EF:Hid (ek 84 p v u7 u7 g vb o8 #[z0,.int .i64 K,f1,f2,f3,f4,f5,.slice AS zs.length cS,.slice none 0 0,.slice none 0 0]):=ae (Kn.out.get HR7.out yU.out).from_;have OJ:Hid (Rd u7 AS zs/\∀b,AF AS b->v.heap.size<=b/\b<u7.heap.size):=ae ⟨yU.out.rd OI.out.1 fun b hb=>by have:=(OI.out.2 b hb).1;show¬b=g;omega,fun b hb=>⟨(OI.out.2 b hb).1,bV (OI.out.2 b hb).2 yU.out.size⟩⟩;go_loopw [6] (fun s6 wr=>∃(q r:Nat) (m:List Int) (I:Option Addr) (cI:Nat) (Q:eY),q+r=c/\m.length=q/\s6=.int .u64 (r:Int)/\Hid (ek 84 p v u7 wr g vb Q #[z0,.int .i64 K,f1,f2,f3,f4,f5,.slice AS zs.length cS,.slice I q cI,.slice none 0 0])/\Hid (aG wr u7.heap.size 3 I cI m)/\Hid ((m++(nN r Q).1,(nN r Q).2)=(is,o9))/\ak wr p) (fun s6 _=>(intOf s6).toNat)
   case atStart=>exact⟨0,c,[],none,0,o8,om,rfl,rfl,EF,ae (aG.nil _ _ _),ae (by rw[HIS.out];rfl),pu7⟩
   case round=>
    obtain⟨q,r,m,I,cI,Q,Oy,hil,rfl,N,S,HM,hp⟩:=hrel;obtain⟨v3,fl,Gz,hfl⟩:=N.out.r.flag;have U8:Bx wr vb 84 #[z0,.int .i64 K,f1,f2,f3,f4,f5,.slice AS zs.length cS,.slice I q cI,.slice none 0 0]:=⟨N.out.bv⟩;by_cases hgo:0<r/\fl=false
    ·obtain⟨hr,rfl⟩:=hgo;cases Q with
     |none=>cases hfl
     |some L2=>
      subst hil;obtain⟨r',rfl⟩:∃r',r=r'+1:=⟨r-1,om⟩;have hbd:=U0 N.out.r 2;have e2:(256:Int)^2=65536:=by decide
      rw[e2]at hbd;obtain⟨⟨E,o3⟩,hG⟩:=lh (bE 2 (some L2));have hm:=HM.out;rw[nN,hG]at hm;rw[hG]at hbd;dsimp only at hm hbd;have wz:IntKind.i64.wrap E=E:=by rw[bF];omega
      have t1:decide (0<r'+1)=true:=au;have HG2:=ae hG;have pX:Hid (((m++[E])++(nN r' o3).1,(nN r' o3).2)=(is,o9)):=ae (by rw[<-hm,jX];rfl);obtain⟨R1,yg⟩:=lg (r'+1:Nat);rw[<-yg]at t1⊢;have wr2:IntKind.u64.wrap ((R1:Int)-1)=(r':Int):=by rw[cZ];omega
      have HRR:=ae yg;clear hG hm e2 hbd yg hfl hr
      go_upto_region 13 with fail
      refine eU p aj (fun j _=>?_);refine ag 0 48 ?_;refine ag 2 50 ?_;refine il 1 3 (fun K hK=>?_) (fun K hK=>?_)
      ·go_simp;refine av hK ?_;clear hK K;refine ay 3 fun K hK=>?_;have P:=N.out.at (u':=j);have ho0:=S.out.at (w':=j);go_simp
       (with_reducible refine(qQ (k:=2) (y:=2) (ae P.r) rfl ah ah HG2).mono ?_)
       rintro e j ⟨rfl,rQ,J,T⟩;dsimp only;have U:=ae (P.get rQ.out J.out);have U9:Hid (aG j u7.heap.size 3 I cI m):=ae (J.out.own ho0 (fun b hb=>by have:=(S.out.af hb).1;have:=EF.out.hvv;show¬b=g;omega));have Kq:Bx j vb 84 _:=⟨U.out.bv⟩;refine av hK ?_ T;clear hK K;refine ag 4 52 ?_;refine ay 5 fun K hK=>?_;go_simp;refine av hK ?_;clear hK K;refine bY (fun j _ _=>?_);refine ay 6 fun K hK=>?_;have A7:=U.out.at (u':=j);have Va:=U9.out.at (w':=j);refine GM aj _ _ _ rfl 3 Tryz.underlying24 1 8 (.int .i64 0) aj rfl ah ah u7.heap.size I cI m.length (m.map (Value.int .i64)) rfl Va.row [.int .i64 E] rfl Bx.blk rfl (fun u hu=>by rw[gm.1 hu];rfl) om A7.k2.size ?_;intro O c3 j ho3 hc3;have M:=ae (A7.iq hc3 (fun b hb=>(S.out.af hb).1) hgv);have Kr:Hid (aG j u7.heap.size 3 O c3 (m++[E])):=ae (by unfold aG;rw[cu,gV];exact ho3);have wo:ak j p:=M.out.prev;have Kt:Bx j vb 84 _:=⟨M.out.bv⟩;refine av hK ?_ wo;clear hK K;refine ag 7 55 ?_;refine ay 8 fun K hK=>?_;have hc8:=(M.out.at (u':=j)).bv.cell 8;have yh:=(M.out.at (u':=j)).bv.frozen 8;go_simp;obtain⟨W9,z⟩:=lg (j.setCell ⟨vb,8,none⟩ (.slice O (m.length+1) c3));have l:=ae ((M.out.at (u':=j)).set 8 (.slice O (m.length+1) c3));have X:Hid (aG W9 u7.heap.size 3 O c3 (m++[E])):=ae ((Kr.out.at (w':=j)).same fun ad e9=>by rw[z];exact dM _ ⟨vb,8,none⟩ _ _ (by have:=Kr.out.fresh ad e9;have:=EF.out.hvv;show ad.block≠vb;omega));rw[<-z]at l⊢;have yj:ak W9 p:=l.out.prev;clear z hc8 yh;refine av hK ?_ yj;clear hK K;refine aO ?_
       go_wp2_with fail
       exact⟨⟨m.length+1,r',m++[E],O,c3,o3,by have:=HRR.out;omega,au,rfl,l,ae (X.out),pX,l.out.prev⟩,by simp[intOf];have:=HRR.out;omega⟩
      ·have P:=N.out.at (u':=j);have ho0:=S.out.at (w':=j);go_simp
       (with_reducible refine(qQ (k:=2) (y:=2) (ae P.r) rfl ah ah HG2).mono ?_)
       rintro e j ⟨rfl,rQ,J,T⟩;dsimp only;have U:=ae (P.get rQ.out J.out);have U9:Hid (aG j u7.heap.size 3 I cI m):=ae (J.out.own ho0 (fun b hb=>by have:=(S.out.af hb).1;have:=EF.out.hvv;show¬b=g;omega));have Kq:Bx j vb 84 _:=⟨U.out.bv⟩;refine av hK ?_ T;clear hK K;refine ag 4 52 ?_;refine il 1 5 (fun K hK=>?_) (fun K hK=>?_)
       focus
        go_simp;refine av hK ?_;clear hK K;refine ay 5 fun K hK=>?_;go_simp;refine av hK ?_;clear hK K;refine bY (fun j _ _=>?_)
       rotate_left
       focus
        go_simp;refine av hK ?_;clear hK K;refine bY (fun j _ _=>?_);refine ay 1 fun K hK=>?_;go_simp;refine av hK ?_;clear hK K
       all_goals
        refine ay 6 fun K hK=>?_;have A7:=U.out.at (u':=j);have Va:=U9.out.at (w':=j);refine GM aj _ _ _ rfl 3 Tryz.underlying24 1 8 (.int .i64 0) aj rfl ah ah u7.heap.size I cI m.length (m.map (Value.int .i64)) rfl Va.row [.int .i64 E] rfl Bx.blk rfl (fun u hu=>by rw[gm.1 hu];rfl) om A7.k2.size ?_;intro O c3 j ho3 hc3;have M:=ae (A7.iq hc3 (fun b hb=>(S.out.af hb).1) hgv);have Kr:Hid (aG j u7.heap.size 3 O c3 (m++[E])):=ae (by unfold aG;rw[cu,gV];exact ho3);have wo:ak j p:=M.out.prev;have Kt:Bx j vb 84 _:=⟨M.out.bv⟩;refine av hK ?_ wo;clear hK K;refine ag 7 55 ?_;refine ay 8 fun K hK=>?_;have hc8:=(M.out.at (u':=j)).bv.cell 8;have yh:=(M.out.at (u':=j)).bv.frozen 8;go_simp;obtain⟨W9,z⟩:=lg (j.setCell ⟨vb,8,none⟩ (.slice O (m.length+1) c3));have l:=ae ((M.out.at (u':=j)).set 8 (.slice O (m.length+1) c3));have X:Hid (aG W9 u7.heap.size 3 O c3 (m++[E])):=ae ((Kr.out.at (w':=j)).same fun ad e9=>by rw[z];exact dM _ ⟨vb,8,none⟩ _ _ (by have:=Kr.out.fresh ad e9;have:=EF.out.hvv;show ad.block≠vb;omega));rw[<-z]at l⊢;have yj:ak W9 p:=l.out.prev;clear z hc8 yh;refine av hK ?_ yj;clear hK K;refine aO ?_
        go_wp2_with fail
        exact⟨⟨m.length+1,r',m++[E],O,c3,o3,by have:=HRR.out;omega,au,rfl,l,ae (X.out),pX,l.out.prev⟩,by simp[intOf];have:=HRR.out;omega⟩
    ·have hfin:is=m/\o9=Q:=by
      have hm:=HM.out;have h8:nN r Q=([],Q):=by
       rcases PL r with h9|h9
       ·subst h9;rfl
       ·cases Q with
        |none=>exact ape r
        |some L=>exact absurd ⟨h9,hfl⟩ hgo
      rw[h8,oV]at hm;injection hm with m1 m2
      exact⟨m1.symm,m2.symm⟩
     obtain⟨rfl,rfl⟩:=hfin;subst hil;have hst:(decide (0<r)=false)\/(decide (0<r)=true/\fl=true):=by
      by_cases h9:0<r
      ·exact .inr ⟨by simpa using h9,by cases fl;exact absurd ⟨h9,rfl⟩ hgo;rfl⟩
      ·exact .inl (by simpa using h9)
     have OL:Hid (Rd wr AS zs/\∀b,AF AS b->v.heap.size<=b/\b<wr.heap.size):=ae ⟨N.out.rd OJ.out.1 (fun b hb=>(OJ.out.2 b hb).1) om,fun b hb=>⟨(OJ.out.2 b hb).1,bV (OJ.out.2 b hb).2 N.out.k2.size⟩⟩;clear hgo hfl HM;rcases hst with t1|⟨t1,rfl⟩
     all_goals
      go_upto_region 15 with(go_at_call 46;refine(qQ (k:=1) (y:=1) (ae N.out.r) rfl ah ah HCQ).mono ?_;rintro e u9 ⟨rfl,rQ,J,pu9⟩)
      have U:Hid (ek 84 p v u9 u9 g vb U3 #[z0,.int .i64 K,f1,f2,f3,f4,f5,.slice AS zs.length cS,.slice I is.length cI,.slice none 0 0]):=ae (N.out.get rQ.out J.out).from_;have OM:Hid (Rd u9 AS zs/\∀b,AF AS b->v.heap.size<=b/\b<u9.heap.size):=ae ⟨J.out.rd OL.out.1 fun b hb=>by have:=(OL.out.2 b hb).1;show¬b=g;omega,fun b hb=>⟨(OL.out.2 b hb).1,bV (OL.out.2 b hb).2 J.out.size⟩⟩;have OO:Hid (Rd u9 I is/\∀b,AF I b->v.heap.size<=b/\b<u9.heap.size):=ae ⟨J.out.rd S.out.rd fun b hb=>by have:=(S.out.af hb).1;have:=EF.out.hvv;show¬b=g;omega,fun b hb=>⟨aZ EF.out.hvv (S.out.af hb).1,bV (S.out.af hb).2.1 J.out.size⟩⟩;have apq:Hid (is.length<=cI):=ae S.out.uB;clear t1 U8 Gz hp N S;clear Oy;go_loopw [7] (fun s7 wr=>∃(q r:Nat) (ss:List Sp) (O:Option Addr) (c3:Nat) (Q:eY),q+r=d/\ss.length=q/\s7=.int .u64 (r:Int)/\Hid (ek 84 p v u9 wr g vb Q #[z0,.int .i64 K,f1,f2,f3,f4,f5,.slice AS zs.length cS,.slice I is.length cI,.slice O q c3])/\Hid (jd wr u9.heap.size O c3 ss)/\Hid ((aJ ss++(oP r Q).1,(oP r Q).2)=(ps,OE))/\ak wr p) (fun s7 _=>(intOf s7).toNat)
      case atStart=>exact⟨0,d,[],none,0,U3,om,rfl,rfl,U,ae jd.nil,ae (by rw[IB.out];rfl),pu9⟩
      case round=>
       obtain⟨q,r,ss,O,c3,Q,Oy,hil,rfl,N,S,HM,hp⟩:=hrel;obtain⟨v3,fl,Gz,hfl⟩:=N.out.r.flag;have U8:Bx wr vb 84 #[z0,.int .i64 K,f1,f2,f3,f4,f5,.slice AS zs.length cS,.slice I is.length cI,.slice O q c3]:=⟨N.out.bv⟩;by_cases hgo:0<r/\fl=false
       ·obtain⟨hr,rfl⟩:=hgo;cases Q with
        |none=>cases hfl
        |some L2=>
         subst hil;obtain⟨r',rfl⟩:∃r',r=r'+1:=⟨r-1,om⟩;obtain⟨⟨E,o3⟩,hG⟩:=lh (lY (some L2));have hm:=HM.out;rw[oP,hG]at hm;dsimp only at hm;have t1:decide (0<r'+1)=true:=au;have HG2:=ae hG;have pX:=ae hm;obtain⟨R1,yg⟩:=lg (r'+1:Nat);rw[<-yg]at t1⊢;have wr2:IntKind.u64.wrap ((R1:Int)-1)=(r':Int):=by rw[cZ];omega
         have HRR:=ae yg;clear hG hm yg hfl hr
         go_upto_region 17 with fail
         refine eU p aj (fun j _=>?_);refine ag 0 69 ?_;refine ag 2 71 ?_;refine il 1 3 (fun K hK=>?_) (fun K hK=>?_)
         ·go_simp;refine av hK ?_;clear hK K;refine ay 3 fun K hK=>?_;have P:=N.out.at (u':=j);have ho0:=S.out.at (w':=j);have Ku:u9.heap.size<=j.heap.size:=P.k2.size;have Kv:∀b,AF O b->b<j.heap.size:=fun b hb=>(ho0.row.af hb).2.1;go_simp
          (with_reducible refine(Ox (ae P.r) HG2).mono ?_)
          rintro e j ⟨AX,cX,rfl,Y,Kw,rQ,J,T⟩;dsimp only;have yl:=ae (P.get rQ.out J.out);have Au:Hid (jd j u9.heap.size O c3 ss):=ae (ho0.kf J.out (fun b hb=>by have:=U.out.k.size;show¬b=g;omega));have Z:Hid (Rd j AX E/\(∀b,AF AX b->u9.heap.size<=b/\b<j.heap.size/\¬AF O b)/\E.length<=cX):=ae ⟨Y.rd,fun b hb=>⟨aZ Ku (Y.lo b hb),Y.hi b hb,fun hx=>by have:=Y.lo b hb;have:=Kv b hx;omega⟩,Kw⟩;have Kq:Bx j vb 84 _:=⟨yl.out.bv⟩;clear Y Kw Ku Kv;refine av hK ?_ T;clear hK K;refine ay 4 fun K hK=>?_;go_simp;refine av hK ?_;clear hK K;refine bY (fun j _ _=>?_);refine ay 5 fun K hK=>?_;have hsa:=yl.out.at (u':=j);have hoa:=Au.out.at (w':=j);have EH:Rd j AX E:=Z.out.1.below (aL _ j);have Vb:∀b,AF AX b->u9.heap.size<=b/\b<j.heap.size/\¬AF O b:=fun b hb=>⟨(Z.out.2.1 b hb).1,bV (Z.out.2.1 b hb).2.1 aH,(Z.out.2.1 b hb).2.2⟩;refine GM aj _ _ _ rfl 25 Tryz.underlying82 1 24 (.slice none 0 0) aj rfl ah ah u9.heap.size O c3 ss.length (fP ss).toList rfl hoa.row [.slice AX E.length cX] rfl Bx.blk rfl (fun u hu=>by rw[gm.1 hu];rfl) om hsa.k2.size ?_;intro A4 c4 j ho3 hc3;have vI:=ae (hsa.iq hc3 (fun b hb=>(S.out.row.af hb).1) hgv);have zM:Hid (jd j u9.heap.size A4 c4 (ss++[⟨AX,E.length,cX,E⟩])):=ae (hoa.push (x:=⟨AX,E.length,cX,E⟩) EH rfl Z.out.2.2 Vb hc3 ho3);have wo:ak j p:=vI.out.prev;have Kt:Bx j vb 84 _:=⟨vI.out.bv⟩;refine av hK ?_ wo;clear hK K;refine ag 6 75 ?_;refine ay 7 fun K hK=>?_;have hc8:=(vI.out.at (u':=j)).bv.cell 9;have yh:=(vI.out.at (u':=j)).bv.frozen 9;go_simp;obtain⟨W9,z⟩:=lg (j.setCell ⟨vb,9,none⟩ (.slice A4 (ss.length+1) c4));have l:=ae ((vI.out.at (u':=j)).set 9 (.slice A4 (ss.length+1) c4));have X:Hid (jd W9 u9.heap.size A4 c4 (ss++[⟨AX,E.length,cX,E⟩])):=ae ((zM.out.at (w':=j)).kf (F:=fun b=>b=vb) (F':=fun b=>b=vb) (by rw[z];exact(Kf.refl (fun b=>b=vb) j).aF (q:=⟨vb,9,none⟩) rfl _) fun b hb=>by have:=U.out.k.size;show¬b=vb;omega);rw[<-z]at l⊢;have yj:ak W9 p:=l.out.prev;clear z hc8 yh;refine av hK ?_ yj;clear hK K;refine aO ?_
          go_wp2_with fail
          exact⟨⟨ss.length+1,r',ss++[⟨AX,E.length,cX,E⟩],A4,c4,o3,by have:=HRR.out;omega,au,rfl,l,X,ae (by have:=pX.out;rw[<-this];simp[aJ]),l.out.prev⟩,by simp[intOf];have:=HRR.out;omega⟩
         ·have P:=N.out.at (u':=j);have ho0:=S.out.at (w':=j);have Ku:u9.heap.size<=j.heap.size:=P.k2.size;have Kv:∀b,AF O b->b<j.heap.size:=fun b hb=>(ho0.row.af hb).2.1;go_simp
          (with_reducible refine(Ox (ae P.r) HG2).mono ?_)
          rintro e j ⟨AX,cX,rfl,Y,Kw,rQ,J,T⟩;dsimp only;have yl:=ae (P.get rQ.out J.out);have Au:Hid (jd j u9.heap.size O c3 ss):=ae (ho0.kf J.out (fun b hb=>by have:=U.out.k.size;show¬b=g;omega));have Z:Hid (Rd j AX E/\(∀b,AF AX b->u9.heap.size<=b/\b<j.heap.size/\¬AF O b)/\E.length<=cX):=ae ⟨Y.rd,fun b hb=>⟨aZ Ku (Y.lo b hb),Y.hi b hb,fun hx=>by have:=Y.lo b hb;have:=Kv b hx;omega⟩,Kw⟩;have Kq:Bx j vb 84 _:=⟨yl.out.bv⟩;clear Y Kw Ku Kv;refine av hK ?_ T;clear hK K;refine il 1 4 (fun K hK=>?_) (fun K hK=>?_)
          focus
           go_simp;refine av hK ?_;clear hK K;refine ay 4 fun K hK=>?_;go_simp;refine av hK ?_;clear hK K;refine bY (fun j _ _=>?_)
          rotate_left
          focus
           go_simp;refine av hK ?_;clear hK K;refine bY (fun j _ _=>?_);refine ay 1 fun K hK=>?_;go_simp;refine av hK ?_;clear hK K
          all_goals
           refine ay 5 fun K hK=>?_;have hsa:=yl.out.at (u':=j);have hoa:=Au.out.at (w':=j);have EH:Rd j AX E:=Z.out.1.below (aL _ j);have Vb:∀b,AF AX b->u9.heap.size<=b/\b<j.heap.size/\¬AF O b:=fun b hb=>⟨(Z.out.2.1 b hb).1,bV (Z.out.2.1 b hb).2.1 aH,(Z.out.2.1 b hb).2.2⟩;refine GM aj _ _ _ rfl 25 Tryz.underlying82 1 24 (.slice none 0 0) aj rfl ah ah u9.heap.size O c3 ss.length (fP ss).toList rfl hoa.row [.slice AX E.length cX] rfl Bx.blk rfl (fun u hu=>by rw[gm.1 hu];rfl) om hsa.k2.size ?_;intro A4 c4 j ho3 hc3;have vI:=ae (hsa.iq hc3 (fun b hb=>(S.out.row.af hb).1) hgv);have zM:Hid (jd j u9.heap.size A4 c4 (ss++[⟨AX,E.length,cX,E⟩])):=ae (hoa.push (x:=⟨AX,E.length,cX,E⟩) EH rfl Z.out.2.2 Vb hc3 ho3);have wo:ak j p:=vI.out.prev;have Kt:Bx j vb 84 _:=⟨vI.out.bv⟩;refine av hK ?_ wo;clear hK K;refine ag 6 75 ?_;refine ay 7 fun K hK=>?_;have hc8:=(vI.out.at (u':=j)).bv.cell 9;have yh:=(vI.out.at (u':=j)).bv.frozen 9;go_simp;obtain⟨W9,z⟩:=lg (j.setCell ⟨vb,9,none⟩ (.slice A4 (ss.length+1) c4));have l:=ae ((vI.out.at (u':=j)).set 9 (.slice A4 (ss.length+1) c4));have X:Hid (jd W9 u9.heap.size A4 c4 (ss++[⟨AX,E.length,cX,E⟩])):=ae ((zM.out.at (w':=j)).kf (F:=fun b=>b=vb) (F':=fun b=>b=vb) (by rw[z];exact(Kf.refl (fun b=>b=vb) j).aF (q:=⟨vb,9,none⟩) rfl _) fun b hb=>by have:=U.out.k.size;show¬b=vb;omega);rw[<-z]at l⊢;have yj:ak W9 p:=l.out.prev;clear z hc8 yh;refine av hK ?_ yj;clear hK K;refine aO ?_
           go_wp2_with fail
           exact⟨⟨ss.length+1,r',ss++[⟨AX,E.length,cX,E⟩],A4,c4,o3,by have:=HRR.out;omega,au,rfl,l,X,ae (by have:=pX.out;rw[<-this];simp[aJ]),l.out.prev⟩,by simp[intOf];have:=HRR.out;omega⟩
       ·have hfin:ps=aJ ss/\OE=Q:=by
         have hm:=HM.out;have h8:oP r Q=([],Q):=by
          rcases PL r with h9|h9
          ·subst h9;rfl
          ·cases Q with
           |none=>exact apf r
           |some L=>exact absurd ⟨h9,hfl⟩ hgo
         rw[h8,oV]at hm;injection hm with m1 m2
         exact⟨m1.symm,m2.symm⟩
        obtain⟨hp9,rfl⟩:=hfin;have II:=ae hp9;subst hil;have hst:(decide (0<r)=false)\/(decide (0<r)=true/\fl=true):=by
         by_cases h9:0<r
         ·exact .inr ⟨by simpa using h9,by cases fl;exact absurd ⟨h9,rfl⟩ hgo;rfl⟩
         ·exact .inl (by simpa using h9)
        have hrb:aD wr w.heap.size 84 #[(0:Int),(0:Int),(0:Int),(0:Int),(0:Int),(0:Int),(0:Int),.slice none 0 0,.slice none 0 0,.slice none 0 0]:=N.out.k.blk k0.blk (by have:=U4.out;rintro(e9|e9)<;>omega);have kr:Bx wr w.heap.size 84 #[(0:Int),(0:Int),(0:Int),(0:Int),(0:Int),(0:Int),(0:Int),.slice none 0 0,.slice none 0 0,.slice none 0 0]:=⟨hrb⟩;have Cn:Hid (vH v.heap.size wr ⟨⟨z0,K,f1,f2,f3,f4,f5,zs⟩,AS,zs.length,cS,I,is.length,cI,is,O,ss.length,c3,ss⟩):=ae (by
         have h9:=N.out.hvv;refine⟨⟨N.out.rd OM.out.1 (fun b hb=>(OM.out.2 b hb).1) om,rfl⟩,⟨N.out.rd OO.out.1 (fun b hb=>(OO.out.2 b hb).1) om,rfl⟩,S.out.apb,Ko.out,apq.out,S.out.row.le,ML.out,fun b hb=>?_,fun b hb=>?_⟩
         ·rcases hb with hb|hb|hb|⟨s9,A7,ad,e9,rfl⟩
          ·have:=(OM.out.2 b hb).1;omega
          ·have:=(OO.out.2 b hb).1;omega
          ·have:=(S.out.row.af hb).1;omega
          ·have:=(S.out.el s9 A7).2.2.2.out ad e9;omega
         ·rcases hb with hb|hb|hb|⟨s9,A7,ad,e9,rfl⟩
          ·have:=(OM.out.2 b hb).2;exact bV this N.out.k2.size
          ·have:=(OO.out.2 b hb).2;exact bV this N.out.k2.size
          ·exact(S.out.row.af hb).2.1
          ·exact S.out.lt s9 A7 ad e9)
        have HKW:Hid (Ke (fun b=>b=g\/b=vb) v wr):=ae N.out.k;have HRW:Hid (jf p wr g OE):=ae N.out.r;clear hgo hfl HM;rcases hst with t1|⟨t1,rfl⟩
        all_goals
         go_wp2_with fail
         obtain⟨rfl,rfl⟩:=HV.out;obtain⟨W9,z⟩:=lg ((((((((((wr.setCell ⟨w.heap.size,0,none⟩ (.int .i64 z0)).setCell ⟨w.heap.size,1,none⟩ (.int .i64 K)).setCell ⟨w.heap.size,2,none⟩ (.int .i64 f1)).setCell ⟨w.heap.size,3,none⟩ (.int .i64 f2)).setCell ⟨w.heap.size,4,none⟩ (.int .i64 f3)).setCell ⟨w.heap.size,5,none⟩ (.int .i64 f4)).setCell ⟨w.heap.size,6,none⟩ (.int .i64 f5)).setCell ⟨w.heap.size,7,none⟩ (.slice AS zs.length cS)).setCell ⟨w.heap.size,8,none⟩ (.slice I is.length cI)).setCell ⟨w.heap.size,9,none⟩ (.slice O ss.length c3));rw[<-z];have k9:Kf (fun b=>b=w.heap.size) (fun b=>b=w.heap.size) wr W9:=by rw[z];exact apc
         have b9:=(((((((((hrb.aF 0 (.int .i64 z0)).aF 1 (.int .i64 K)).aF 2 (.int .i64 f1)).aF 3 (.int .i64 f2)).aF 4 (.int .i64 f3)).aF 5 (.int .i64 f4)).aF 6 (.int .i64 f5)).aF 7 (.slice AS zs.length cS)).aF 8 (.slice I is.length cI)).aF 9 (.slice O ss.length c3);rw[<-z]at b9;have r0:=b9.cell 0;have r1:=b9.cell 1;have r2:=b9.cell 2;have r3:=b9.cell 3;have r4:=b9.cell 4;have r5:=b9.cell 5;have r6:=b9.cell 6;have r7:=b9.cell 7;have r8:=b9.cell 8;have r9:=b9.cell 9;clear z;refine bM (v:=.agg #[z0,.int .i64 K,f1,f2,f3,f4,f5,.slice AS zs.length cS,.slice I is.length cI,.slice O ss.length c3]) (by simp[results,Tryz.results48,go_sem,r0,r1,r2,r3,r4,r5,r6,r7,r8,r9]) rfl ?_;have hwv:w.heap.size<v.heap.size:=by have:=U4.out;omega
         have C:=Cn.out.kf k9 fun b hb e9=>by have:=Cn.out.lo b hb;omega
         have nd2:vH w.heap.size W9 _:=⟨C.s,C.i,C.p,C.ls,C.li,C.lp,C.k6,fun b hb=>aZ (zR hwv) (C.lo b hb),C.hi⟩;exact⟨⟨⟨z0,K,f1,f2,f3,f4,f5,zs⟩,AS,zs.length,cS,I,is.length,cI,is,O,ss.length,c3,ss⟩,rfl,ae (by show(⟨_,is,aJ ss⟩:dJ)=_;rw[II.out]),ae nd2,ae (HRW.out.kf k9 (fun b e9=>by have:=h.out.hg;omega) fun e9=>by omega),ae (apd (vb:=vb) aH HKW.out k9 (by have:=U4.out;omega)),k9.prev fun b e9=>by have:=h.out.hg;omega⟩
end
def ym(zs:List Int):Int:=if zs.length<8 then 16 else if num (zs.drop (zs.length-4))=rV 0 (zs.take (zs.length-4))then 0 else 30
section
variable{p w w' u:World}{A:Option Addr}{n c g b o k:Nat}{zs:List Int}
theorem acY:∀(zs:List Int) (i:Nat),i+zs.length<=4000->(∀z∈zs,0<=z/\z<256)->0<=rV i zs/\rV i zs<=zs.length*1020000
 |[],i,_,_=>by simp[rV]
 |z::t,i,h,e=>by
  have j:=e z dN;rw[iJ]at h;have m:=acY t (i+1) om fun x l=>e x (fI _ l);have r:0<=((i:Int)+1)*z:=vP om j.1;have y:((i:Int)+1)*z<=4000*255:=yI om om j.1 ah;rw[rV,iJ];omega
theorem apu(zs:List Int):∀v∈zs.map (Value.int .u8),v.oneCell'=true:=fun v hv=>by
 obtain⟨z,_,rfl⟩:=dG.1 hv;rfl
theorem apv[s:Bs w (some ⟨b,o,none⟩) n zs](hn:n<=1000000):Calls Tryz.prog 91 #[.slice (some ⟨b,o,none⟩) n c] w (fun e w'=>∃A c,e=.returned (.slice A n c)/\Bs w' A n zs/\n<=c/\ak w' w):=by
 obtain⟨i,hi,l⟩:=bN.1 (show(Tryz.prog.info? 5).map (fun i=>(i.zero,i.size,i.bytes))=some (some (.int .u8 0),1,1)from by kernel_rfl);simp only[jZ]at l;obtain⟨m,r,y⟩:=l;have G:n=zs.length:=s.len;have p1:ak (w.alloc (.cells #[] 5)) w:=iin;have J:(w.alloc (.cells #[] 5)).ownsRow w.heap.size 5 1 (.slice w.heap.size 0 0) 0 []:=aP.mk' (cur:= #[]) (az _) (xe w _) (az _) (aS _) rfl rfl;have M:Bs (w.alloc (.cells #[] 5)) (some ⟨b,o,none⟩) n zs:=iin;have R:=fun N=>Li (P:=Tryz.prog) (w.alloc (.cells #[] 5)) w.heap.size 22 N 5 i _ 1 1 aj hi m r y rfl ah _ 0 _ J ⟨b,o,none⟩ n c (zs.map (Value.int .u8)) (by simp[G]) (fun k u hu=>by
  rw[dE]at hu;obtain⟨z,C,rfl⟩:=bN.1 hu;rw[eu];obtain⟨b',o',e,hb,I,_⟩:=M.rd k z C;injection e with e;injection e with O Q;subst O Q
  exact I) (apu zs) (by unfold maxLen;omega) om au
 obtain⟨v',w',hr,B,hg,-,-⟩:=R 22;have S:∀W,(binOp .eql 22 (.slice (some ⟨b,o,none⟩) n c) (.slice none 0 0)).run Tryz.prog W=.ok (.bool false) W:=fun W=>Lib.run_eql_slice_nil W 22 5 _ _ _ _ _ aj;have T:=ae B;have U:=ae hg;have K:=ae G;have V:=ae s.all;clear R J B hg G hi m r y;go_enter Tryz.func91,Tryz.ntmps91
 go_wp2_with (at_builtin;refine Lib.wpList_append_run _ rfl _ _ 22 22 rfl _ _ rfl rfl _ _ hr ?_)
 go_ret;have hb:Below w.heap.size w w':=((bq w.heap.size w).alloc (az _) _).grown U.out au (fun k D=>by
  rw[xn]at D;injection D with D
  show w.heap.size<=k
  exact lH D)
 have E:=T.out;rw[fo,Bo]at E;have X:∀A' c',v'=.slice A' n c'->aP w' w.heap.size 5 1 A' c' n (zs.map (Value.int .u8)):=fun A' c' e=>by rw[e]at E;exact E
 rcases E.2 with⟨rfl,Y⟩|⟨g,cap,cur,rfl,_⟩
 ·have L:=K.out;rw[Y]at L⊢;obtain rfl:zs=[]:=rZ L.symm;exact⟨none,0,rfl,⟨fun j z F=>by simp at F,rfl⟩,az _,⟨hb⟩⟩
 ·have hr:=X _ _ rfl;refine⟨_,_,rfl,⟨fun j z F=>?_,K.out⟩,hr.le,⟨hb⟩⟩;obtain⟨Z,e,I⟩:=hr.cell (j:=j) (v:=.int .u8 z) (by rw[dE,F];rfl);have C:=V.out z (aK F);exact⟨Z,0,e,hr.lt _ e,by rw[fo];exact I,C.1,C.2⟩
def acZ(w:World)(L:List Int)(e:Ending)(w':World):Prop:=∃g p,e=.returned (.tuple #[.pointer (some ⟨g,0,none⟩),(0:Int)])/\ak p w/\Hid (jf p w' g (some L))/\ak w' p
theorem apw(h:n<8):Calls Tryz.prog 45 #[.slice A n c] w (aM w (.tuple #[.pointer none,(16:Int)])):=by
 have d1:decide ((n:Int)<8)=true:=by simp;omega
 go_enter Tryz.func45,Tryz.ntmps45
 go_wp2_with fail
 go_ret2;exact⟨rfl,ai _ _⟩
theorem ac0[s:Bs w A n zs](hn:n<=4000)(Q:n<=c)(h:8<=n){E:Int}(hE:Hid (ym zs=E)):
  Calls Tryz.prog 45 #[.slice A n c] w (fun e w'=>if E=0 then acZ w (zs.take (n-4)) e w' else aM w (.tuple #[.pointer none,(30:Int)]) e w'):=by
 have CB:=@bf;have FB:=@dV;obtain⟨b,o,z,rfl,ob,-,-,-,-⟩:=s.get (k:=0) om;have hl:n=zs.length:=s.len;have r:=s.all;obtain⟨m,hm⟩:∃m,n=m+4:=⟨n-4,om⟩;have j:=GK (zs:=zs.drop m) fun z R=>r z (jo R);have B:=acY (zs.take m) 0 (by rw[dO];omega) fun z R=>r z (gU R);rw[jY]at j;rw[dO]at B;have e4:zs.length-m=4:=om;rw[e4]at j;have p4:(256:Int)^4=4294967296:=by decide
 rw[p4]at j;have C:=hE.out;rw[ym,if_neg om,show zs.length-4=m from om]at C;rw[show n-4=m from om];obtain⟨A',S,T⟩:=acE b o n c m om Q;obtain rfl:=T om;have sD:Bs w (some ⟨b,o+m,none⟩) 4 (zs.drop m):=by
  have:=s.drop (k:=m);rwa[show n-m=4 from om]at this
 have sT:Bs w (some ⟨b,o,none⟩) m (zs.take m):=s.take om;obtain⟨O,F⟩:=lh (num (zs.drop m));obtain⟨I,G⟩:=lh (rV 0 (zs.take m));rw[F]at j C;rw[G]at B C;have U:=ae F;have V:=ae G;have l:Hid ((zs.drop m).length=4):=ae (by rw[jY];omega);have w1:IntKind.u64.wrap I=I:=by rw[cZ];omega
 have hw4:IntKind.i64.wrap ((n:Int)-4)=(m:Int):=by rw[bF];omega
 have HE:=ae C;have X:m<=4000:=om;have hmc:m<=c:=om;clear hl r j B e4 p4 C F G;go_enter Tryz.func45,Tryz.ntmps45
 go_upto_region 5 with fail
 refine bI (fun u0 Y k0=>?_);have Z:Hid (jf w u0 w.heap.size (some (zs.drop m))):=ae ⟨by rw[l.out];decide,Y,⟨some ⟨b,o+m,none⟩,c-m,by rw[l.out];exact k0.blk,by rw[l.out];exact sD,by rw[l.out];omega⟩,az _⟩;have HG4:Hid (bE 4 (some (zs.drop m))=(O,some ((zs.drop m).drop 4))):=ae (by
  unfold bE;dsimp only;rw[if_neg (by rw[l.out];omega),dB (by rw[l.out];exact az _),U.out])
 have J:∀W:World,ak W w->Calls Tryz.prog 92 #[.slice (some ⟨b,o,none⟩) m c] W (aM W (.int .u32 I)):=fun W pW=>by
  rw[<-V.out];exact aoT X
 have L:=ae J;clear J S;refine eU w aj (fun P _=>?_);refine ag 1 17 ?_;refine ag 2 18 ?_;refine ag 3 19 ?_;refine ay 0 fun K hK=>?_;have M:=Z.out.at (w':=P);go_simp
 (with_reducible refine(qQ (k:=4) (y:=4) (ae M) rfl ah ah HG4).mono ?_)
 rintro e P ⟨rfl,-,-,tJ⟩;dsimp only;refine av hK ?_ tJ;clear hK K M;refine ay 4 fun K hK=>?_;go_simp
 (with_reducible refine(L.out P iin).mono ?_)
 rintro e P ⟨rfl,_⟩;dsimp only;refine av hK ?_;clear hK K;refine ag 5 21 ?_;refine ag 6 22 ?_;refine aO ?_;rename World=>uy;by_cases hq:O=I
 ·have C:(0:Int)=E:=by have:=HE.out;rwa[if_pos hq]at this
  subst C;have b0:(O !=I)=false:=by simp[hq]
  clear hq
  go_wp2_with (go_at_call 91;refine(apv om).mono ?_;rintro e N ⟨A5,c5,rfl,s5,l5,U7⟩)
  go_ret2;have D:(zs.take m).length=m:=sT.len.symm;exact⟨N.heap.size,N,rfl,ai w N,ae ⟨by rw[D];omega,ai N _,⟨A5,c5,by rw[D];exact aD.new _ _ _,by rw[D];exact s5,by rw[D];exact l5⟩,az _⟩,ai N _⟩
 ·have C:(30:Int)=E:=by have:=HE.out;rwa[if_neg hq]at this
  subst C;have b0:(O !=I)=true:=by simp[hq]
  clear hq
  go_wp2_with fail
  go_ret2;exact⟨rfl,ai w uy⟩
end
end Go.Proofs.YtmkjnlifimffkaaGreat
