/- Lemmas. No condition. -/
import Derived.Test.YtmkjnlifimffkaaGreatS38
import Derived.Test.YtmkjnlifimffkaaGreatS36
namespace Go.Proofs.YtmkjnlifimffkaaGreat
open Go.RowKit
set_option linter.all false
set_option maxRecDepth 100000
set_option maxHeartbeats 16000000
def wU(x:Nd):List Value:=Gg x.o (.slice x.A x.n x.c) (.slice x.I x.ni x.ci) (.slice x.P x.np x.cp)
structure mD(w:World)(B:Nat)(A:Option Addr)(c:Nat)(xs:List Nd):Prop where
 row:aP w B 84 10 A c xs.length (xs.flatMap wU)
 el:∀x∈xs,vH B w x
 ne:∀x∈xs,∀b,NF x b->¬AF A b
def GQ(zs:List Int):Int:=if ym zs=0 then(match(qo (zs.take (zs.length-4))).nd.2 with|none=>16|some R=>if(qo (zs.take (zs.length-4))).m4.1=1096042545 then(if R=[]then bU (rW (zs.take (zs.length-4)))else 10)else 10)else ym zs
def EI(zs:List Int):aI:=rW (zs.take (zs.length-4))
def apy(w:World)(N:aI)(e:Ending)(w':World):Prop:=∃A n c B m d,e=.returned (.tuple #[.agg #[.slice A n c,.slice B m d],(0:Int)])/\aX w' A n B m N/\n<=c/\m<=d/\ak w' w/\∀u,Kf (fun b=>b<w.heap.size) (fun b=>b<w.heap.size) w' u->aX u A n B m N
section
variable{p w w' u:World}{A A':Option Addr}{n c c' g b o k B:Nat}{zs:List Int}{xs:List Nd}{x:Nd}{F F':Nat->Prop}
theorem ac1:∀(xs:List Nd) (j:Nat) (x:Nd),xs[j]?=some x->∀k,k<10->(xs.flatMap wU)[j*10+k]?=(wU x)[k]?
 |[],j,x,h,_,_=>by simp at h
 |y::t,0,x,h,k,hk=>by
  rw[List.getElem?_cons_zero]at h;obtain rfl:=eP h;rw[sG,yG,fo,Bn (by show k<10;exact hk)]
 |y::t,j+1,x,h,k,hk=>by
  rw[CY]at h;have e:=ac1 t j x h k hk;rw[sG,lC (by show 10<=_;omega),<-e];congr 1
  show(j+1)*10+k-10=_
  omega
theorem mD.nil(w:World)(B:Nat):mD w B none 0 []:=⟨⟨rfl,.inl ⟨rfl,rfl⟩⟩,fun t ht=>(by cases ht),fun t ht=>(by cases ht)⟩
theorem mD.kf(h:mD w B A c xs)(e:Kf F F' w w')(hF:∀b,B<=b->¬F b):mD w' B A c xs:=
 ⟨e.row h.row fun b hb=>hF b (h.row.af hb).1,fun x j=>(h.el x j).kf e fun b hb=>hF b ((h.el x j).lo b hb),h.ne⟩
theorem mD.at(h:mD w B A c xs)[Later w w']:mD w' B A c xs:=h.kf (F:=fun _=>False) (Kf.later _) fun _ _ h=>h
theorem mD.push(h:mD w B A c xs)(z:vH B w x)(C:∀b,NF x b->¬AF A b)(r:bS A A' w w')(hr:aP w' B 84 10 A' c' (xs.length+1) (xs.flatMap wU++wU x)):mD w' B A' c' (xs++[x]):=by
 have l:∀y∈xs++[x],∀b,NF y b->¬AF A b:=fun y j b hb=>by
  rcases dP.1 j with j|j
  ·exact h.ne y j b hb
  ·rw[gm.1 j]at hb;exact C b hb
 have m:∀y∈xs++[x],vH B w y:=fun y j=>by
  rcases dP.1 j with j|j
  ·exact h.el y j
  ·rw[gm.1 j];exact z
 refine⟨?_,fun y j=>(m y j).kf (Kf.iq r) (l y j),fun y j b hb D=>?_⟩
 ·rw[cu,Bq];simpa using hr
 ·obtain⟨ad,e,rfl⟩:=D;rcases r.new ad e with⟨a0,E,G⟩|I
  ·exact l y j _ hb ⟨a0,E,G.symm⟩
  ·have:=(m y j).hi _ hb;omega
theorem mD.rd(h:mD w B A c xs):aar w A xs:=fun j x r=>by
 have hm:=aK r;have l:=h.el x hm;have y:∀k v,(wU x)[k]?=some v->∃g,A=some ⟨g,0,none⟩/\w.cell? ⟨g,j*10+k,none⟩=some v:=fun k v hv=>h.row.cell (by
  rw[ac1 xs j x r k (by have:=(aY.1 hv).1;exact this)];exact hv)
 obtain⟨g,e,-⟩:=y 0 _ rfl;refine⟨g,0,e,(h.row.af ⟨_,e,rfl⟩).2.1,fun k v hv=>?_,l.s,l.i,l.p,l.ls,l.li,l.lp,l.k6⟩;obtain⟨C,m,z⟩:=y k v hv;rw[e]at m;injection m with m
 injection m with m
 subst m;rw[fo];exact z
theorem ac2:∀u∈wU x,u.oneCell'=true:=fun u hu=>by
 simp only[wU,Gg,dz,mG,pI]at hu;rcases hu with rfl|rfl|rfl|rfl|rfl|rfl|rfl|rfl|rfl|rfl<;>rfl
theorem apz(c:Nat):nO c none=([],none):=by cases c<;>rfl
theorem apA{k:Nat}{n:Int}(h:0<k):0<(jC k n).length:=by rw[acG];exact h
theorem apB(v:dJ):0<(ED v).length:=by
 unfold ED;simp only[cu];have:=apA (k:=1) (n:=v.o.kd) ah;omega
theorem ac3:∀l:List dJ,l.length<=(l.flatMap ED).length
 |[]=>az _
 |v::t=>by
  rw[sG,cu,iJ];have:=apB v;have:=ac3 t;omega
theorem ac4{L:List Int}(hb:lZ L)(C:L.length<=1000)(hm:(qo L).m4.1=1096042545)(l:(qo L).nd.2=some []):(rW L).fits/\(rW L).small:=by
 obtain⟨m,D,E,e⟩:=ao4 hb hm l;have r:(rW L).nodes.length<=1000:=by
  have j:=eD List.length m;unfold UW at j;simp only[cu]at j;have:=ac3 (rW L).nodes;omega
 exact⟨⟨om,om,fun v hv=>⟨by have:=(e v hv).i;omega,by have:=(e v hv).s;omega,by have:=(e v hv).p;omega,fun z y=>by have:=(e v hv).ps z y;omega⟩⟩,r,fun v hv=>by have:=(e v hv).i;omega⟩
theorem apC[s:Bs w A n zs](y:n<=4000)(l:n<=c){E:Int}(hE:Hid (ym zs=E))(r:E≠0):Calls Tryz.prog 45 #[.slice A n c] w (aM w (.tuple #[.pointer none,E])):=by
 have j:=hE.out;by_cases m:n<8
 ·rw[ym,if_pos (by rw[<-s.len];exact m)]at j;subst j;exact apw m
 ·refine(ac0 y l om hE).mono ?_;intro e w' h;rw[if_neg r]at h;rw[ym,if_neg (by rw[<-s.len];exact m)]at j
  split at j
  ·exact absurd j.symm r
  ·subst j;exact h
theorem apD[s:Bs w A n zs](m:n<=4000)(j:n<=c)(hE:Hid (ym zs=0)):Calls Tryz.prog 45 #[.slice A n c] w (acZ w (zs.take (n-4))):=by
 have r:8<=n:=by
  have l:=hE.out;unfold ym at l
  split at l
  ·cases l
  ·rename_i h;rw[s.len];omega
 refine(ac0 m j r hE).mono ?_;intro e w' h;rw[if_pos rfl]at h;exact h
theorem kf2{q:Nat}{z0 z1:Value}:Kf (fun b=>b=q) (fun b=>b=q) u ((u.setCell ⟨q,0,none⟩ z0).setCell ⟨q,1,none⟩ z1):=
 ((Kf.refl (fun b=>b=q) u).aF (q:=⟨q,0,none⟩) rfl z0).aF (q:=⟨q,1,none⟩) rfl z1
theorem rX{q:Nat}{z0 z1:Value}[Later w u](hq:w.heap.size<=q):ak ((u.setCell ⟨q,0,none⟩ z0).setCell ⟨q,1,none⟩ z1) w:=kf2.prev fun b e=>by rw[e];exact hq
theorem ac6[s:Bs w A n zs](hn:n<=1000)(hnc:n<=c){E:Int}(hE:Hid (GQ zs=E)){N:aI}(hN:Hid (EI zs=N)):
  Calls Tryz.prog 16 #[.slice A n c] w (fun e w'=>(E=0/\apy w N e w')\/(E≠0/\aM w (.tuple #[.agg #[.slice none 0 0,.slice none 0 0],E]) e w')):=by
 have CB:=@bf;have FB:=@dV;have Y:=hE.out;have hv:=hN.out;unfold GQ at Y;unfold EI at hv;rw[<-s.len]at Y hv;by_cases hr:ym zs=0;rotate_left
 ·rw[if_neg hr]at Y;have HR:=ae Y;rw[Y]at hr;have b0:(E !=0)=true:=by simp[hr]
  clear Y hv;go_enter Tryz.func16,Tryz.ntmps16
  go_upto_region 1 with fail
  refine bI (fun u0 Ah k0=>?_)
  go_wp2_with (go_at_call 45;refine(apC om hnc HR hr).mono ?_;rintro e u1 ⟨rfl,_⟩)
  refine bM (v:=.tuple #[.agg #[.slice none 0 0,.slice none 0 0],.int .i64 (E)]) ?_ rfl ?_
  ·rw[eG rfl];go_simp
  ·first|exact .inr ⟨by assumption,rfl,rX (az _)⟩|exact⟨rfl,rX (az _)⟩
 rw[if_pos hr]at Y;have HRD:=ae hr;obtain⟨L,hL⟩:=lh (zs.take (n-4));rw[hL]at Y hv;have JN:=ae hL;have Vd:lZ L:=fun z hz=>s.all z (by rw[<-hL]at hz;exact gU hz);have y8:L.length<=1000:=by rw[<-hL,dO];omega
 obtain⟨⟨mk,o1⟩,h1⟩:=lh (bE 4 (some L));obtain⟨⟨is,o2⟩,h2⟩:=lh (lY o1);obtain⟨⟨cn,o3⟩,h3⟩:=lh (bE 2 o2);obtain⟨⟨ns,o4⟩,h4⟩:=lh (nO cn.toNat o3);have Ka:oQ (some L):=fun L' e=>by injection e with e;subst e;exact Vd
 have Ve:=Ka.get 4;rw[h1]at Ve;have Vf:=Ve.1.sh;rw[h2]at Vf;have Z:=Vf.get 2;rw[h3]at Z;dsimp only at Z;have e2:(256:Int)^2=65536:=by decide
 rw[e2]at Z;obtain⟨d,rfl⟩:=eF Z.2.1;rw[dD]at h4;have hd:d<65536:=by have:=Z.2.2;omega
 have a1:(qo L).m4=(mk,o1):=h1;have a2:(qo L).inp=(is,o2):=by show lY (bE 4 (some L)).2=_;rw[h1];exact h2
 have a3:(qo L).c=((d:Int),o3):=by show bE 2 (lY (bE 4 (some L)).2).2=_;rw[h1,h2];exact h3
 have a4:(qo L).nd=(ns,o4):=by show nO (qo L).c.1.toNat (qo L).c.2=_;rw[a3,dD];exact h4
 have a5:rW L=⟨is,ns⟩:=by unfold rW;rw[a2,a4]
 have zu:Hid (mk=1096042545->o4=some []->(rW L).fits/\(rW L).small):=ae fun m1 m2=>ac4 Vd y8 (by rw[a1];exact m1) (by rw[a4];exact m2);rw[a4,a1]at Y;dsimp only at Y;rw[hv]at Y a5;have GR:=ae a5;rw[hv]at zu;have DD:=ae Y;have H1:=ae h1;have H2:=ae h2;have H3:=ae h3;have H4:=ae h4;clear Y hv hr hL Vd h1 h2 h3 h4 Ka Ve Vf Z e2 a1 a2 a3 a4 a5;go_enter Tryz.func16,Tryz.ntmps16
 go_upto_region 1 with fail
 refine bI (fun u0 Ah k0=>?_)
 go_upto_region 4 with(go_at_call 45;refine(apD om hnc HRD).mono ?_;rintro e u1 ⟨g,p,rfl,pp,HR1,tJ⟩)
 rw[JN.out]at HR1;have Ai:=HR1.out.hg
 go_upto_region 5 with(go_at_call 46;refine(qQ (k:=4) (y:=4) HR1 rfl ah ah H1).mono ?_;rintro e u2 ⟨rfl,HR2,lN,ru⟩)
 go_upto_region 6 with(go_at_call 47;refine(Ox HR2 H2).mono ?_;rintro e u3 ⟨AS,cS,rfl,wB,Km,HR3,rf,OG⟩)
 refine bI (fun v pv k1=>?_);obtain⟨J,hnb⟩:=lg u3.heap.size;rw[<-hnb]at k1⊢;have hg3:=HR3.out.hg;have vE:Hid (ek 33 p v v v g J o2 #[.slice AS is.length cS,.slice none 0 0]):=ae ⟨HR3.out.at,Kf.refl _ _,Kf.refl _ _,k1.blk,om,om,k1.blk.lt,az _⟩;have hvv:=k1.blk.lt;have hgv:g<v.heap.size:=om;have Cu:Hid (Rd v AS is/\∀b,AF AS b->w.heap.size<b/\b≠g/\b≠J/\b<v.heap.size):=ae ⟨wB.rd.below (aL u3 v),fun b hb=>by
  have q1:=wB.lo b hb;have q2:=wB.hi b hb;have q3:=HR2.out.hg;have q4:w.heap.size<u0.heap.size:=k0.blk.lt;have q5:u0.heap.size<=p.heap.size:=aH;omega⟩
 have Ko:=ae Km;clear hnb wB Km k1
 go_upto_region 7 with(go_at_call 46;refine(qQ (k:=2) (y:=2) (ae vE.out.r) rfl ah ah H3).mono ?_;rintro e M ⟨rfl,U6,tK,U7⟩)
 have rO:Hid (ek 33 p v M M g J o3 #[.slice AS is.length cS,.slice none 0 0]):=ae (vE.out.get U6.out tK.out).from_;go_loopw [8] (fun s8 wr=>∃(q r:Nat) (xs:List Nd) (O:Option Addr) (cB:Nat) (o:eY),q+r=d/\xs.length=q/\s8=.int .u64 (r:Int)/\Hid (ek 33 p v M wr g J o #[.slice AS is.length cS,.slice O q cB])/\Hid (mD wr M.heap.size O cB xs)/\Hid ((xs.map Nd.val++(nO r o).1,(nO r o).2)=(ns,o4))/\ak wr p) (fun s8 _=>(intOf s8).toNat)
 case atStart=>exact⟨0,d,[],none,0,o3,om,rfl,rfl,rO,ae (mD.nil _ _),ae (by rw[H4.out];rfl),U7⟩
 case round=>
  obtain⟨q,r,xs,O,cB,o,Oy,hil,rfl,HS,HO,HM,hp⟩:=hrel;obtain⟨v3,fl,Gz,hfl⟩:=HS.out.r.flag;have U8:Bx wr J 33 #[.slice AS is.length cS,.slice O q cB]:=⟨HS.out.bv⟩;subst hil;by_cases hgo:0<r/\fl=false
  ·obtain⟨hr,rfl⟩:=hgo;cases o with
   |none=>cases hfl
   |some L2=>
    obtain⟨r',rfl⟩:∃r',r=r'+1:=⟨r-1,om⟩;obtain⟨⟨V,o'⟩,hG⟩:=lh (yf (some L2));have hm:=HM.out;rw[nO,hG]at hm;dsimp only at hm;have t1:decide (0<r'+1)=true:=au;have HG2:=ae hG;have pX:=ae hm;obtain⟨R1,yg⟩:=lg (r'+1:Nat);rw[<-yg]at t1⊢;have wr2:IntKind.u64.wrap ((R1:Int)-1)=(r':Int):=by rw[cZ];omega
    have HRR:=ae yg;have hxl:xs.length<=100000000:=om;clear hG hm yg hfl hr
    go_upto_region 9 with fail
    refine eU p aj (fun l _=>?_);refine ag 0 36 ?_;refine ag 2 38 ?_;refine il 1 3 (fun K hK=>?_) (fun K hK=>?_)
    ·go_simp;refine av hK ?_;clear hK K;refine ay 3 fun K hK=>?_;have T:=HS.out.at (u':=l);have ho0:=HO.out.at (w':=l);have P:M.heap.size<=l.heap.size:=T.k2.size;have Q:∀b,AF O b->b<l.heap.size:=fun b hb=>(ho0.row.af hb).2.1;go_simp
     (with_reducible refine(acR (ae T.r) HG2).mono ?_)
     rintro e l ⟨U,rfl,Vg,j,rQ,EA,Vh⟩;dsimp only;have yl:=ae (T.get rQ.out EA.out);have Au:Hid (mD l M.heap.size O cB xs):=ae (ho0.kf EA.out (fun b hb=>by have:=rO.out.k.size;show¬b=g;omega));have Ky:Hid (vH M.heap.size l U/\∀b,NF U b->¬AF O b):=ae ⟨⟨j.out.s,j.out.i,j.out.p,j.out.ls,j.out.li,j.out.lp,j.out.k6,fun b hb=>aZ P (j.out.lo b hb),j.out.hi⟩,fun b hb hx=>by have:=j.out.lo b hb;have:=Q b hx;omega⟩;have Kq:Bx l J 33 _:=⟨yl.out.bv⟩;clear P Q j;refine av hK ?_ Vh;clear hK K;refine ay 4 fun K hK=>?_;go_simp;refine av hK ?_;clear hK K;refine bY (fun l _ _=>?_);refine ay 5 fun K hK=>?_;have hsa:=yl.out.at (u':=l);have hoa:=Au.out.at (w':=l);have EH:vH M.heap.size l U:=Ky.out.1.kf (F:=fun _=>False) (F':=fun _=>False) (Kf.later _) fun _ _ h=>h;refine GM aj _ _ _ rfl 84 Tryz.underlying31 10 128 (.agg #[(0:Int),(0:Int),(0:Int),(0:Int),(0:Int),(0:Int),(0:Int),.slice none 0 0,.slice none 0 0,.slice none 0 0]) aj rfl ah ah M.heap.size O cB xs.length (xs.flatMap wU) rfl hoa.row (wU U) rfl Bx.blk rfl ac2 hxl hsa.k2.size ?_;intro A4 c4 l ho3 hc3;have I:=ae (hsa.iq hc3 (fun b hb=>(HO.out.row.af hb).1) hgv);have zM:Hid (mD l M.heap.size A4 c4 (xs++[U])):=ae (hoa.push EH Ky.out.2 hc3 ho3);have wo:ak l p:=I.out.prev;have Kt:Bx l J 33 _:=⟨I.out.bv⟩;refine av hK ?_ wo;clear hK K;refine ag 6 42 ?_;refine ay 7 fun K hK=>?_;have hc8:=(I.out.at (u':=l)).bv.cell 1;have yh:=(I.out.at (u':=l)).bv.frozen 1;go_simp;obtain⟨W9,X⟩:=lg (l.setCell ⟨J,1,none⟩ (.slice A4 (xs.length+1) c4));have D:=ae ((I.out.at (u':=l)).set 1 (.slice A4 (xs.length+1) c4));have Vi:Hid (mD W9 M.heap.size A4 c4 (xs++[U])):=ae ((zM.out.at (w':=l)).kf (F:=fun b=>b=J) (F':=fun b=>b=J) (by rw[X];exact(Kf.refl (fun b=>b=J) l).aF (q:=⟨J,1,none⟩) rfl _) fun b hb=>by have:=rO.out.k.size;show¬b=J;omega);rw[<-X]at D⊢;have yj:ak W9 p:=D.out.prev;clear X hc8 yh;refine av hK ?_ yj;clear hK K;refine aO ?_
     go_wp2_with fail
     exact⟨⟨xs.length+1,r',xs++[U],A4,c4,o',by have:=HRR.out;omega,au,rfl,D,Vi,ae (by have:=pX.out;rw[<-this,gV,jX];show _=(_++V::_,_);rw[<-Vg.out];rfl),D.out.prev⟩,by simp[intOf];have:=HRR.out;omega⟩
    ·have T:=HS.out.at (u':=l);have ho0:=HO.out.at (w':=l);have P:M.heap.size<=l.heap.size:=T.k2.size;have Q:∀b,AF O b->b<l.heap.size:=fun b hb=>(ho0.row.af hb).2.1;go_simp
     (with_reducible refine(acR (ae T.r) HG2).mono ?_)
     rintro e l ⟨U,rfl,Vg,j,rQ,EA,Vh⟩;dsimp only;have yl:=ae (T.get rQ.out EA.out);have Au:Hid (mD l M.heap.size O cB xs):=ae (ho0.kf EA.out (fun b hb=>by have:=rO.out.k.size;show¬b=g;omega));have Ky:Hid (vH M.heap.size l U/\∀b,NF U b->¬AF O b):=ae ⟨⟨j.out.s,j.out.i,j.out.p,j.out.ls,j.out.li,j.out.lp,j.out.k6,fun b hb=>aZ P (j.out.lo b hb),j.out.hi⟩,fun b hb hx=>by have:=j.out.lo b hb;have:=Q b hx;omega⟩;have Kq:Bx l J 33 _:=⟨yl.out.bv⟩;clear P Q j;refine av hK ?_ Vh;clear hK K;refine il 1 4 (fun K hK=>?_) (fun K hK=>?_)
     focus
      go_simp;refine av hK ?_;clear hK K;refine ay 4 fun K hK=>?_;go_simp;refine av hK ?_;clear hK K;refine bY (fun l _ _=>?_)
     rotate_left
     focus
      go_simp;refine av hK ?_;clear hK K;refine bY (fun l _ _=>?_);refine ay 1 fun K hK=>?_;go_simp;refine av hK ?_;clear hK K
     all_goals
      refine ay 5 fun K hK=>?_;have hsa:=yl.out.at (u':=l);have hoa:=Au.out.at (w':=l);have EH:vH M.heap.size l U:=Ky.out.1.kf (F:=fun _=>False) (F':=fun _=>False) (Kf.later _) fun _ _ h=>h;refine GM aj _ _ _ rfl 84 Tryz.underlying31 10 128 (.agg #[(0:Int),(0:Int),(0:Int),(0:Int),(0:Int),(0:Int),(0:Int),.slice none 0 0,.slice none 0 0,.slice none 0 0]) aj rfl ah ah M.heap.size O cB xs.length (xs.flatMap wU) rfl hoa.row (wU U) rfl Bx.blk rfl ac2 hxl hsa.k2.size ?_;intro A4 c4 l ho3 hc3;have I:=ae (hsa.iq hc3 (fun b hb=>(HO.out.row.af hb).1) hgv);have zM:Hid (mD l M.heap.size A4 c4 (xs++[U])):=ae (hoa.push EH Ky.out.2 hc3 ho3);have wo:ak l p:=I.out.prev;have Kt:Bx l J 33 _:=⟨I.out.bv⟩;refine av hK ?_ wo;clear hK K;refine ag 6 42 ?_;refine ay 7 fun K hK=>?_;have hc8:=(I.out.at (u':=l)).bv.cell 1;have yh:=(I.out.at (u':=l)).bv.frozen 1;go_simp;obtain⟨W9,X⟩:=lg (l.setCell ⟨J,1,none⟩ (.slice A4 (xs.length+1) c4));have D:=ae ((I.out.at (u':=l)).set 1 (.slice A4 (xs.length+1) c4));have Vi:Hid (mD W9 M.heap.size A4 c4 (xs++[U])):=ae ((zM.out.at (w':=l)).kf (F:=fun b=>b=J) (F':=fun b=>b=J) (by rw[X];exact(Kf.refl (fun b=>b=J) l).aF (q:=⟨J,1,none⟩) rfl _) fun b hb=>by have:=rO.out.k.size;show¬b=J;omega);rw[<-X]at D⊢;have yj:ak W9 p:=D.out.prev;clear X hc8 yh;refine av hK ?_ yj;clear hK K;refine aO ?_
      go_wp2_with fail
      exact⟨⟨xs.length+1,r',xs++[U],A4,c4,o',by have:=HRR.out;omega,au,rfl,D,Vi,ae (by have:=pX.out;rw[<-this,gV,jX];show _=(_++V::_,_);rw[<-Vg.out];rfl),D.out.prev⟩,by simp[intOf];have:=HRR.out;omega⟩
  ·have hfin:ns=xs.map Nd.val/\o4=o:=by
    have hm:=HM.out;have h8:nO r o=([],o):=by
     rcases PL r with S|S
     ·subst S;rfl
     ·cases o with
      |none=>exact apz r
      |some L=>exact absurd ⟨S,hfl⟩ hgo
    rw[h8,oV]at hm;injection hm with m1 m2
    exact⟨m1.symm,m2.symm⟩
   obtain⟨hns,rfl⟩:=hfin;have HNS:=ae hns;have hst:(decide (0<r)=false)\/(decide (0<r)=true/\fl=true):=by
    by_cases S:0<r
    ·exact .inr ⟨by simpa using S,by cases fl;exact absurd ⟨S,rfl⟩ hgo;rfl⟩
    ·exact .inl (by simpa using S)
   have sS:Sl wr AS is.length is:=⟨HS.out.k.rd Cu.out.1 fun b hb=>by have:=Cu.out.2 b hb;rintro(e|e)<;>omega,rfl⟩;have aN:aX wr AS is.length O xs.length N:=⟨by rw[GR.out];exact sS,⟨xs,HO.out.rd,by rw[GR.out,<-hns]⟩,by rw[GR.out,hns,dF]⟩;have hwp:w.heap.size<u0.heap.size:=k0.blk.lt;have hup:u0.heap.size<=p.heap.size:=aH;have kr:Bx wr w.heap.size 33 #[.slice none 0 0,.slice none 0 0]:=iin;have HB8:Hid (xs.length<=cB):=ae HO.out.row.le;clear hgo hfl HM hns;cases o4 with
   |none=>
    obtain⟨L9,-,FE⟩:=HS.out.r;have Gb:Hid (16=E):=DD;have h0:=Gb.out;subst h0;have h0:(16:Int)≠0:=by decide
    have m:Hid (Calls Tryz.prog 49 #[.pointer g] wr (aM wr (.int .i64 16))):=ae (acF (L:=L9) (sh:=true) (ae FE));clear FE;rcases hst with t1|⟨t1,rfl⟩
    all_goals
     go_wp2_with (go_at_call 49;refine m.out.mono ?_;rintro e u9 ⟨rfl,_⟩)
     refine bM (v:=.tuple #[.agg #[.slice none 0 0,.slice none 0 0],.int .i64 (16)]) ?_ rfl ?_
     ·rw[eG rfl];go_simp
     ·first|exact .inr ⟨by assumption,rfl,rX (az _)⟩|exact⟨rfl,rX (az _)⟩
   |some R=>
    have FE:=HS.out.r.2;have Gb:Hid ((if mk=1096042545 then if R=[]then bU N else 10 else 10)=E):=DD;have m:Hid (Calls Tryz.prog 49 #[.pointer g] wr (aM wr (.int .i64 (if R=[]then 0 else 10)))):=ae (acF (L:=R) (sh:=false) (ae FE));have S:=Gb.out;have C:=m.out;clear FE DD Gb m;by_cases hm:mk=1096042545
    ·rw[if_pos hm]at S;by_cases hR:R=[]
     ·rw[if_pos hR]at S C;have m:=ae C;have vJ:=ae S;obtain⟨hfi,hsm⟩:=zu.out hm (by rw[hR]);have HF:=ae hfi;have ac8:=ae hsm;have b1:(mk !=1096042545)=false:=by simp[hm]
      clear C S hfi hsm hm hR;by_cases h0:E=0
      ·subst h0;rcases hst with t1|⟨t1,rfl⟩
       all_goals
        go_wp2_with (first|(go_at_call 49;refine m.out.mono ?_;rintro e u9 ⟨rfl,_⟩)|(go_at_call 40;refine(zy HF ac8 vJ).mono ?_;rintro e ua ⟨rfl,_⟩))
        have key:∀u9:World,Kf (fun b=>b<=w.heap.size) (fun b=>b<=w.heap.size) ua u9->aX u9 AS is.length O xs.length N:=fun u9 hk=>by
         have hsl:Sl ua AS is.length is:=iin;have apG:=HO.out.at (w':=ua);have hq:=apG.kf hk fun b hb=>by have:=rO.out.k.size;show¬b<=w.heap.size;omega
         exact⟨by rw[GR.out];exact⟨hk.rd hsl.rd fun b hb=>by have:=(Cu.out.2 b hb).1;show¬b<=w.heap.size;omega,rfl⟩,⟨xs,hq.rd,by rw[GR.out,<-HNS.out]⟩,by rw[GR.out,HNS.out,dF]⟩
        have hk1:=(kf2 (u:=ua) (q:=w.heap.size) (z0:=.slice AS is.length cS) (z1:=.slice O xs.length cB)).more (G:=fun b=>b<=w.heap.size) (G':=fun b=>b<=w.heap.size) (fun b h=>by rw[h];exact az _) (fun b h=>.inr (.inl h));refine bM (v:=.tuple #[.agg #[.slice AS is.length cS,.slice O xs.length cB],(0:Int)]) ?_ rfl ⟨AS,is.length,cS,O,xs.length,cB,rfl,key _ hk1,Ko.out,HB8.out,rX (az _),fun u9 hk=>key u9 (hk1.trans (hk.more (fun b h=>zR h) fun b h=>.inr (.inl h)))⟩;rw[eG rfl];go_simp
      ·have b0:(E !=0)=true:=by simp[h0]
       rcases hst with t1|⟨t1,rfl⟩
       all_goals
        go_wp2_with (first|(go_at_call 49;refine m.out.mono ?_;rintro e u9 ⟨rfl,_⟩)|(go_at_call 40;refine(zy HF ac8 vJ).mono ?_;rintro e ua ⟨rfl,_⟩))
        refine bM (v:=.tuple #[.agg #[.slice none 0 0,.slice none 0 0],.int .i64 (E)]) ?_ rfl ?_
        ·rw[eG rfl];go_simp
        ·first|exact .inr ⟨by assumption,rfl,rX (az _)⟩|exact⟨rfl,rX (az _)⟩
     ·rw[if_neg hR]at S C;subst S;have h0:(10:Int)≠0:=by decide
      have m:=ae C;have b1:(mk !=1096042545)=false:=by simp[hm]
      clear C hm hR;rcases hst with t1|⟨t1,rfl⟩
      all_goals
       go_wp2_with (go_at_call 49;refine m.out.mono ?_;rintro e u9 ⟨rfl,_⟩)
       refine bM (v:=.tuple #[.agg #[.slice none 0 0,.slice none 0 0],.int .i64 (10)]) ?_ rfl ?_
       ·rw[eG rfl];go_simp
       ·first|exact .inr ⟨by assumption,rfl,rX (az _)⟩|exact⟨rfl,rX (az _)⟩
    ·rw[if_neg hm]at S;subst S;have h0:(10:Int)≠0:=by decide
     have b1:(mk !=1096042545)=true:=by simp[hm]
     by_cases hR:R=[]
     focus
      rw[if_pos hR]at C
     rotate_left
     focus
      rw[if_neg hR]at C
     all_goals
      have m:=ae C;clear C hm hR;rcases hst with t1|⟨t1,rfl⟩
      all_goals
       go_wp2_with (go_at_call 49;refine m.out.mono ?_;rintro e u9 ⟨rfl,_⟩)
       refine bM (v:=.tuple #[.agg #[.slice none 0 0,.slice none 0 0],.int .i64 (10)]) ?_ rfl ?_
       ·rw[eG rfl];go_simp
       ·first|exact .inr ⟨by assumption,rfl,rX (az _)⟩|exact⟨rfl,rX (az _)⟩
end
structure OP(N:aI)(zs:List Int)(ps:List Tn)(x:TV)(cap:Int):Prop where
 fi:N.fits
 sm:N.small
 hE:bU N=0
 fw:EB N=true
 ft:UQ N (ps.map Tn.tv) x
 c0:0<=cap
 c1:cap<=16777216
 ln:zs.length<=600
 dc:GQ zs=0
 dv:EI zs=N
def apH(w:World)(zs:List Int)(ps:List Tn)(x:TV)(cap:Int)(e:Ending)(w':World):Prop:=
 ∃A n c B m d g,e=.returned (.tuple #[.agg #[.slice A n c,.slice B m d],.bool g])/\(g=true->∃N,OP N zs ps x cap/\aX w' A n B m N/\n<=c/\m<=d)/\ak w' w
theorem apI{ps:List Tn}{t:Tn}(h:t∈ps):uf t<=zL ps:=by
 induction ps with
 |nil=>simp at h
 |cons a l b=>
  unfold zL at*;rw[fe,jR];rcases dz.1 h with rfl|h
  ·omega
  ·have:=b h;omega
theorem apJ{ps:List Tn}(hb:∀t∈ps,t.zs.length<=17592186043904/\t.xs.length<=17592186043904):zL ps<=ps.length*35184372087809:=by
 induction ps with
 |nil=>simp[zL]
 |cons a l b=>
  have e:=b fun t ht=>hb t (fI _ ht);have j:=hb a dN;unfold zL at*;rw[fe,jR,iJ];unfold uf at*;omega
theorem apK{ps:List Tn}{t:Tn}(hb:∀t∈ps,t.zs.length<=17592186043904/\t.xs.length<=17592186043904)(ht:t.zs.length<=17592186043904/\t.xs.length<=17592186043904)(e:ps.length<=100000)(h:wrap64 (CG ps+CG [t])<=700):zL ps<=700/\uf t<=700:=by
 have j:=apJ hb;have b:zL [t]=uf t:=by simp[zL]
 have l:uf t<=35184372087809:=by unfold uf;omega
 unfold CG at h;rw[b]at h;unfold wrap64 at h;omega
theorem apL{zs:List Int}(hb:lZ zs)(u:zs.length<=1000)(h:GQ zs=0):(EI zs).fits/\(EI zs).small/\bU (EI zs)=0:=by
 unfold GQ at h;by_cases hr:ym zs=0
 ·rw[if_pos hr]at h;have b:lZ (zs.take (zs.length-4)):=fun z r=>hb z (gU r);have e:(zs.take (zs.length-4)).length<=1000:=by rw[dO];omega
  cases hm:(qo (zs.take (zs.length-4))).nd.2 with
  |none=>
   rw[hm]at h;dsimp only at h;exact absurd h ah
  |some R=>
   rw[hm]at h;dsimp only at h;by_cases j:(qo (zs.take (zs.length-4))).m4.1=1096042545
   ·rw[if_pos j]at h;by_cases l:R=[]
    ·rw[if_pos l]at h;have m:=ac4 b e j (by rw[hm,l]);exact⟨m.1,m.2,h⟩
    ·rw[if_neg l]at h;exact absurd h ah
   ·rw[if_neg j]at h;exact absurd h ah
 ·rw[if_neg hr]at h;exact absurd h hr
theorem ac9{N:aI}(h:EB N=true):(iU N).length<=300/\N.nodes.length<=12:=by
 have e:J8 N<=300/\N.nodes.length<=12:=by simpa[EB]using h
 refine⟨aZ ?_ e.1,e.2⟩;unfold J8 iU;refine aZ ?_ (Nat.le_add_left _ _);generalize N.nodes=l
 induction l with
 |nil=>simp
 |cons a l j=>
  rw[sG,cu,fe,jR];have:a.P.length<=yc a:=by
   unfold yc;have:∀P:List (List Int),P.length<=(P.map fun s=>1+s.length).sum:=by
    intro P
    induction P with
    |nil=>simp
    |cons b P j=>rw[fe,jR,iJ];omega
   have:=this a.P;omega
  omega
class ui(w:World)(g:Nat)(T:TypeId):Prop where
 out:∃z0 z1,aD w g T #[z0,z1]
instance(priority:=low) ui.of{w:World}{g:Nat}{T:TypeId}{z0 z1:Value}[k:Bx w g T #[z0,z1]]:ui w g T:=⟨_,_,k.blk⟩
class oU(w:World)(h:Nat)(A:Option Addr)(n:Nat)(B:Option Addr)(m:Nat)(N:outParam aI):Prop where
 out:∀u,Kf (fun b=>b<h) (fun b=>b<h) w u->aX u A n B m N
instance(priority:=low) oU.step{w w':World}{h n m:Nat}{A B:Option Addr}{N:aI}[p:ak w' w][k:oU w h A n B m N]:oU w' h A n B m N:=⟨fun u b=>k.out u ((Kf.later _).trans b)⟩
section
variable{w:World}{BA PA XA XB:Option Addr}{nb cb np cp nx cx mx dx:Nat}{zs:List Int}{ps:List Tn}{x:TV}{pl cap:Int}
theorem OP.ok{N:aI}(h:OP N zs ps x cap)(b:∀t∈ps,t.zs.length<=t.c):jw ps:=fun t ht=>⟨h.ft.2.1 t.tv (List.mem_map_of_mem ht),b t ht⟩
theorem apM[s:Bs w BA nb zs][tp:Ts w PA np ps][sx:Sl w XA nx x.1][xx:Sl w XB mx x.2][Le mx dx][dh x.2](hnb:nb<=cb)(hb:Hid (∀t∈ps,t.zs.length<=17592186043904/\t.xs.length<=17592186043904))(hcp:Hid (∀t∈ps,t.zs.length<=t.c))(F:np<=140737488351232)(hx:nx<=17592186043904/\mx<=17592186043904):
  Calls Tryz.prog 7 #[.agg #[.slice BA nb cb,.slice PA np cp,.slice XA nx cx,.slice XB mx dx,pl,cap]] w (apH w zs ps x cap):=by
 have CB:=@bf;have FB:=@dV;have Ra:Hid (nb=zs.length):=ae s.len;have OQ:Hid (np=ps.length):=ae tp.len;have BU:Hid (nx=x.1.length/\mx=x.2.length):=ae ⟨sx.len,xx.len⟩;have U:Hid (∀t∈[(⟨XA,cx,x.1,XB,dx,x.2⟩:Tn)],t.zs.length<=17592186043904/\t.xs.length<=17592186043904):=ae fun t ht=>by
  rw[gm]at ht;subst ht
  show x.1.length<=_/\x.2.length<=_
  rw[<-sx.len,<-xx.len];exact hx
 obtain⟨Z1,hZ1⟩:=lh (CG ps);obtain⟨Z2,hZ2⟩:=lh (CG [(⟨XA,cx,x.1,XB,dx,x.2⟩:Tn)]);obtain⟨T,hT⟩:=lh (wrap64 (Z1+Z2));have I:=ae hZ1;have Y:=ae hZ2;have HT:Hid (wrap64 (CG ps+CG [(⟨XA,cx,x.1,XB,dx,x.2⟩:Tn)])=T):=ae (by rw[hZ1,hZ2];exact hT);have Co:IntKind.i64.wrap (Z1+Z2)=T:=by rw[<-hT,bF];unfold wrap64;rfl
 clear hZ1 hZ2 hx;by_cases h1:600<nb
 ·have g1:decide ((600:Int)<(nb:Int))=true:=by simp;omega
  clear hT Co;go_enter Tryz.func7,Tryz.ntmps7
  go_upto_region 1 with fail
  refine qd (fun X p0 k1 k2=>?_);refine eU X aj (fun y _=>?_);refine ag 0 6 ?_;refine ag 1 7 ?_;refine ag 2 8 ?_;refine ag 3 9 ?_;refine ag 4 10 ?_;refine ax 5 11 ?_;refine ax 6 12 ?_;refine ax 7 13 ?_;refine ax 8 14 ?_;refine ax 9 15 ?_;refine ax 10 16 ?_;refine ax 11 17 ?_;refine ax 12 18 ?_;refine ax 13 19 ?_;refine ag 14 20 ?_;refine ag 15 21 ?_;refine ax 16 22 ?_;refine ax 17 23 ?_;refine ax 18 24 ?_;refine ag 19 25 ?_;refine ag 20 26 ?_;refine ax 21 27 ?_;refine ax 22 28 ?_;refine ax 23 29 ?_;refine ag 24 30 ?_;refine aO ?_
  go_wp2_with fail
  refine bM (v:=.tuple #[.agg #[.slice none 0 0,.slice none 0 0],.bool false]) ?_ rfl ⟨none,0,0,none,0,0,false,rfl,fun h=>absurd h ah,?_⟩
  ·rw[eG rfl];go_simp
  ·exact rX (fu _)
 have g1:decide ((600:Int)<(nb:Int))=false:=by simp;omega
 have hn1:nb<=1000:=om;have DJ:Hid (nb<=600):=ae om;clear h1;by_cases h2:700<T
 ·have g2:decide (700<T)=true:=by simpa using h2
  clear h2;go_enter Tryz.func7,Tryz.ntmps7
  go_upto_region 1 with fail
  refine qd (fun X p0 k1 k2=>?_);refine eU X aj (fun y _=>?_);refine ag 0 6 ?_;refine ag 1 7 ?_;refine ag 2 8 ?_;refine ag 3 9 ?_;refine ag 4 10 ?_;refine ag 5 11 ?_;refine ag 6 12 ?_;refine ag 8 14 ?_;refine ag 9 15 ?_;refine il 7 10 (fun K hK=>?_) (fun K hK=>?_)
  focus
   go_simp
   (with_reducible refine(wR hb F I).mono ?_)
   rintro e y ⟨rfl,_⟩;dsimp only;refine av hK ?_;clear hK K;refine ay 10 fun K hK=>?_;go_simp;refine av hK ?_;clear hK K;refine bY (fun y _ _=>?_)
  rotate_left
  focus
   go_simp;refine av hK ?_;clear hK K;refine bY (fun y _ _=>?_);refine ay 7 fun K hK=>?_;go_simp
   (with_reducible refine(wR hb F I).mono ?_)
   rintro e y ⟨rfl,_⟩;dsimp only;refine av hK ?_;clear hK K
  all_goals
   refine ay 11 fun K hK=>?_;go_simp
   (with_reducible refine(wR (np:=1) U om Y).mono ?_)
   rintro e y ⟨rfl,_⟩;dsimp only;refine av hK ?_;clear hK K;refine ag 12 18 ?_;refine ag 13 19 ?_;refine ag 14 20 ?_;refine ag 15 21 ?_;refine ax 16 22 ?_;refine ax 17 23 ?_;refine ax 18 24 ?_;refine ag 19 25 ?_;refine ag 20 26 ?_;refine ax 21 27 ?_;refine ax 22 28 ?_;refine ax 23 29 ?_;refine ag 24 30 ?_;refine aO ?_
   go_wp2_with fail
   refine bM (v:=.tuple #[.agg #[.slice none 0 0,.slice none 0 0],.bool false]) ?_ rfl ⟨none,0,0,none,0,0,false,rfl,fun h=>absurd h ah,?_⟩
   ·rw[eG rfl];go_simp
   ·exact rX (fu _)
 have g2:decide (700<T)=false:=by simpa using h2
 have HT7:Hid (T<=700):=ae om;clear h2;by_cases h3:cap<0
 ·have g3:decide (cap<0)=true:=by simpa using h3
  clear h3;go_enter Tryz.func7,Tryz.ntmps7
  go_upto_region 1 with fail
  refine qd (fun X p0 k1 k2=>?_);refine eU X aj (fun y _=>?_);refine ag 0 6 ?_;refine ag 1 7 ?_;refine ag 2 8 ?_;refine ag 3 9 ?_;refine ag 4 10 ?_;refine ag 5 11 ?_;refine ag 6 12 ?_;refine ag 8 14 ?_;refine ag 9 15 ?_;refine il 7 10 (fun K hK=>?_) (fun K hK=>?_)
  focus
   go_simp
   (with_reducible refine(wR hb F I).mono ?_)
   rintro e y ⟨rfl,_⟩;dsimp only;refine av hK ?_;clear hK K;refine ay 10 fun K hK=>?_;go_simp;refine av hK ?_;clear hK K;refine bY (fun y _ _=>?_)
  rotate_left
  focus
   go_simp;refine av hK ?_;clear hK K;refine bY (fun y _ _=>?_);refine ay 7 fun K hK=>?_;go_simp
   (with_reducible refine(wR hb F I).mono ?_)
   rintro e y ⟨rfl,_⟩;dsimp only;refine av hK ?_;clear hK K
  all_goals
   refine ay 11 fun K hK=>?_;go_simp
   (with_reducible refine(wR (np:=1) U om Y).mono ?_)
   rintro e y ⟨rfl,_⟩;dsimp only;refine av hK ?_;clear hK K;refine ag 12 18 ?_;refine ag 13 19 ?_;refine ag 14 20 ?_;refine ag 15 21 ?_;refine ag 16 22 ?_;refine ag 17 23 ?_;refine ag 18 24 ?_;refine ag 19 25 ?_;refine ag 20 26 ?_;refine ax 21 27 ?_;refine ax 22 28 ?_;refine ax 23 29 ?_;refine ag 24 30 ?_;refine aO ?_
   go_wp2_with fail
   refine bM (v:=.tuple #[.agg #[.slice none 0 0,.slice none 0 0],.bool false]) ?_ rfl ⟨none,0,0,none,0,0,false,rfl,fun h=>absurd h ah,?_⟩
   ·rw[eG rfl];go_simp
   ·exact rX (fu _)
 have g3:decide (cap<0)=false:=by simpa using h3
 have HC0:Hid (0<=cap):=ae om;clear h3;by_cases h4:16777216<cap
 ·have g4:decide (16777216<cap)=true:=by simpa using h4
  clear h4;go_enter Tryz.func7,Tryz.ntmps7
  go_upto_region 1 with fail
  refine qd (fun X p0 k1 k2=>?_);refine eU X aj (fun y _=>?_);refine ag 0 6 ?_;refine ag 1 7 ?_;refine ag 2 8 ?_;refine ag 3 9 ?_;refine ag 4 10 ?_;refine ag 5 11 ?_;refine ag 6 12 ?_;refine ag 8 14 ?_;refine ag 9 15 ?_;refine il 7 10 (fun K hK=>?_) (fun K hK=>?_)
  focus
   go_simp
   (with_reducible refine(wR hb F I).mono ?_)
   rintro e y ⟨rfl,_⟩;dsimp only;refine av hK ?_;clear hK K;refine ay 10 fun K hK=>?_;go_simp;refine av hK ?_;clear hK K;refine bY (fun y _ _=>?_)
  rotate_left
  focus
   go_simp;refine av hK ?_;clear hK K;refine bY (fun y _ _=>?_);refine ay 7 fun K hK=>?_;go_simp
   (with_reducible refine(wR hb F I).mono ?_)
   rintro e y ⟨rfl,_⟩;dsimp only;refine av hK ?_;clear hK K
  all_goals
   refine ay 11 fun K hK=>?_;go_simp
   (with_reducible refine(wR (np:=1) U om Y).mono ?_)
   rintro e y ⟨rfl,_⟩;dsimp only;refine av hK ?_;clear hK K;refine ag 12 18 ?_;refine ag 13 19 ?_;refine ag 14 20 ?_;refine ag 15 21 ?_;refine ag 16 22 ?_;refine ag 17 23 ?_;refine ag 18 24 ?_;refine ag 19 25 ?_;refine ag 20 26 ?_;refine ag 21 27 ?_;refine ag 22 28 ?_;refine ag 23 29 ?_;refine ag 24 30 ?_;refine aO ?_
   go_wp2_with fail
   refine bM (v:=.tuple #[.agg #[.slice none 0 0,.slice none 0 0],.bool false]) ?_ rfl ⟨none,0,0,none,0,0,false,rfl,fun h=>absurd h ah,?_⟩
   ·rw[eG rfl];go_simp
   ·exact rX (fu _)
 have g4:decide (16777216<cap)=false:=by simpa using h4
 have Gq:Hid (cap<=16777216):=ae om;clear h4;obtain⟨E,HE⟩:=jS (GQ zs);obtain⟨N,HN⟩:=jS (EI zs);go_enter Tryz.func7,Tryz.ntmps7
 go_upto_region 1 with fail
 refine NK (fun C X pz p0 kz hz k1=>?_)
 go_cut [30] (fun s30 wx=>s30=.bool false/\ak wx X)
 case first=>
  refine eU X aj (fun y _=>?_);refine ag 0 6 ?_;refine ag 1 7 ?_;refine ag 2 8 ?_;refine ag 3 9 ?_;refine ag 4 10 ?_;refine ag 5 11 ?_;refine ag 6 12 ?_;refine ag 8 14 ?_;refine ag 9 15 ?_;refine il 7 10 (fun K hK=>?_) (fun K hK=>?_)
  focus
   go_simp
   (with_reducible refine(wR hb F I).mono ?_)
   rintro e y ⟨rfl,_⟩;dsimp only;refine av hK ?_;clear hK K;refine ay 10 fun K hK=>?_;go_simp;refine av hK ?_;clear hK K;refine bY (fun y _ _=>?_)
  rotate_left
  focus
   go_simp;refine av hK ?_;clear hK K;refine bY (fun y _ _=>?_);refine ay 7 fun K hK=>?_;go_simp
   (with_reducible refine(wR hb F I).mono ?_)
   rintro e y ⟨rfl,_⟩;dsimp only;refine av hK ?_;clear hK K
  all_goals
   refine ay 11 fun K hK=>?_;go_simp
   (with_reducible refine(wR (np:=1) U om Y).mono ?_)
   rintro e y ⟨rfl,_⟩;dsimp only;refine av hK ?_;clear hK K;refine ag 12 18 ?_;refine ag 13 19 ?_;refine ag 14 20 ?_;refine ag 15 21 ?_;refine ag 16 22 ?_;refine ag 17 23 ?_;refine ag 18 24 ?_;refine ag 19 25 ?_;refine ag 20 26 ?_;refine ag 21 27 ?_;refine ag 22 28 ?_;refine ag 23 29 ?_;refine ag 24 30 ?_;refine aO ?_
   go_wp2_with fail
   go_meet
   exact⟨rfl,ai _ _⟩
 obtain⟨rfl,_⟩:=hcut;obtain⟨y,rfl⟩:=lg wc;by_cases h0:E=0;rotate_left
 ·have b0:(E !=0)=true:=by simp[h0]
  have b1:(E==0)=false:=by simp[h0]
  go_upto_region 4 with(go_at_call 16;refine(ac6 hn1 hnb HE HN).mono ?_;rintro e u1 h9;obtain⟨rfl,_⟩:=(h9.resolve_left fun k=>h0 k.1).2)
  refine bI (fun u2 p2 k3=>?_);obtain⟨G,hG⟩:=lh u1.heap.size;have J:G≠w.heap.size+1:=by
   have h1:w.heap.size+1<u1.heap.size:=(iin:Bx u1 (w.heap.size+1) _ _).blk.lt;omega
  rw[hG]at k3⊢;clear h0;refine j6 C (fun Q=>Bx Q G 33 #[.slice none 0 0,.slice none 0 0]/\ui Q (w.heap.size+1) 33) aj ⟨iin,iin⟩ (fun j _=>?_);refine bu 0 38 ?_;refine bu 1 39 ?_;refine bu 2 40 ?_;refine bu 3 41 ?_;refine fA 4 42 ?_;refine fA 5 43 ?_;refine bu 6 44 ?_;refine bu 7 45 ?_;refine fA 8 46 ?_;refine fA 9 47 ?_;refine fA 10 48 ?_;refine fA 11 49 ?_;refine fA 12 50 ?_;refine fA 13 51 ?_;refine fA 14 52 ?_;refine bu 15 53 ?_;refine ay 16 fun K hK=>?_;obtain⟨z0,z1,q9⟩:=(iin:ui j (w.heap.size+1) 33).out;have Vj:Bx j (w.heap.size+1) 33 #[z0,z1]:=⟨q9⟩;go_simp;obtain⟨r,l⟩:=lg ((j.setCell ⟨w.heap.size+1,0,none⟩ (.slice none 0 0)).setCell ⟨w.heap.size+1,1,none⟩ (.slice none 0 0));rw[<-l];have D:Below (World.heap C).size C r:=by rw[l];exact gW (aL C j) hz _ _
  have M:∀b,b<j.heap.size->b≠w.heap.size+1->(World.heap r)[b]?=j.heap[b]?:=fun b _ hb=>by rw[l];exact(dM _ ⟨w.heap.size+1,1,none⟩ _ b hb).trans (dM _ ⟨w.heap.size+1,0,none⟩ _ b hb)
  have Ea:Bx r (w.heap.size+1) _ #[.slice none 0 0,.slice none 0 0]:=⟨by rw[l];exact aD.set2 (Bx.blk (w:=j) (g:=w.heap.size+1)) _ _⟩;have O:Bx r G 33 #[.slice none 0 0,.slice none 0 0]:=⟨(M G (Bx.blk (w:=j) (g:=G)).lt J).trans (Bx.blk (w:=j) (g:=G))⟩;have Av:ak r C:=⟨D⟩;have P:ui r (w.heap.size+1) 33:=iin;refine av hK ?_ ⟨⟨D⟩,O,P⟩;clear hK K l;refine bu 17 3 ?_;refine aO ?_
  go_wp2_with fail
  refine bM (v:=.tuple #[.agg #[.slice none 0 0,.slice none 0 0],.bool false]) ?_ rfl ⟨none,0,0,none,0,0,false,rfl,fun h=>absurd h ah,?_⟩
  ·rw[eG rfl];go_simp
  ·exact ai _ _
 subst h0;have L:=apL s.all (by rw[<-s.len];exact hn1) HE.out;rw[HN.out]at L;have HF:=ae L.1;have R:=ae L.2.1;have vJ:=ae L.2.2;clear L
 go_upto_region 4 with(go_at_call 16;refine(ac6 hn1 hnb HE HN).mono ?_;rintro e u1 h9;obtain⟨A,n,c,B,m,d,rfl,aN,hnc,hmd,_,k9⟩:=(h9.resolve_right fun k=>k.1 rfl).2)
 refine bI (fun u2 p2 k3=>?_);obtain⟨G,hG⟩:=lh u1.heap.size;have J:G≠w.heap.size+1:=by
  have h1:w.heap.size+1<u1.heap.size:=(iin:Bx u1 (w.heap.size+1) _ _).blk.lt;omega
 rw[hG]at k3⊢;obtain⟨h,hh⟩:=lh y.heap.size;rw[hh]at k9;replace hh:w.heap.size+1<h:=by
  have h1:w.heap.size+1<y.heap.size:=(iin:Bx y (w.heap.size+1) _ _).blk.lt;omega
 have nk1:oU u1 h A n B m N:=⟨k9⟩;clear k9;obtain⟨f1,V⟩:=lh (EB N);cases f1 with
 |false=>
  refine j6 C (fun Q=>Bx Q G 33 #[.slice A n c,.slice B m d]/\oU Q h A n B m N/\ui Q (w.heap.size+1) 33) aj ⟨iin,iin,iin⟩ (fun j _=>?_);refine bT 0 38 ?_;refine bT 1 39 ?_;refine bT 2 40 ?_;refine bT 3 41 ?_;refine bT 4 42 ?_;refine ay 5 fun K hK=>?_;obtain aN5:aX j A n B m N:=(iin:oU j h A n B m N).out _ (Kf.refl _ _);go_simp
  (with_reducible refine(UT HF R).mono ?_)
  rintro e j ⟨rfl,_⟩;dsimp only;refine av hK ?_ ⟨ai C _,⟨iin,iin,iin⟩⟩;clear hK K;rw[V];refine bT 6 44 ?_;refine bT 7 45 ?_;refine fA 8 46 ?_;refine fA 9 47 ?_;refine fA 10 48 ?_;refine fA 11 49 ?_;refine fA 12 50 ?_;refine fA 13 51 ?_;refine fA 14 52 ?_;refine bT 15 53 ?_;refine ay 16 fun K hK=>?_;obtain⟨z0,z1,q9⟩:=(iin:ui j (w.heap.size+1) 33).out;have Vj:Bx j (w.heap.size+1) 33 #[z0,z1]:=⟨q9⟩;go_simp;obtain⟨r,l⟩:=lg ((j.setCell ⟨w.heap.size+1,0,none⟩ (.slice A n c)).setCell ⟨w.heap.size+1,1,none⟩ (.slice B m d));rw[<-l];have D:Below (World.heap C).size C r:=by rw[l];exact gW (aL C j) hz _ _
  have M:∀b,b<j.heap.size->b≠w.heap.size+1->(World.heap r)[b]?=j.heap[b]?:=fun b _ hb=>by rw[l];exact(dM _ ⟨w.heap.size+1,1,none⟩ _ b hb).trans (dM _ ⟨w.heap.size+1,0,none⟩ _ b hb)
  have Ea:Bx r (w.heap.size+1) _ #[.slice A n c,.slice B m d]:=⟨by rw[l];exact aD.set2 (Bx.blk (w:=j) (g:=w.heap.size+1)) _ _⟩;have O:Bx r G 33 #[.slice A n c,.slice B m d]:=⟨(M G (Bx.blk (w:=j) (g:=G)).lt J).trans (Bx.blk (w:=j) (g:=G))⟩;have Av:ak r C:=⟨D⟩;have P:ui r (w.heap.size+1) 33:=iin;have S:oU r h A n B m N:=⟨fun u hk=>(iin:oU j h A n B m N).out u (Kf.trans (by rw[l];exact((Kf.refl _ _).aF (q:=⟨w.heap.size+1,0,none⟩) hh _).aF (q:=⟨w.heap.size+1,1,none⟩) hh _) hk)⟩;refine av hK ?_ ⟨⟨D⟩,O,S,P⟩;clear hK K l;refine bT 17 3 ?_;refine aO ?_
  go_wp2_with fail
  refine bM (v:=.tuple #[.agg #[.slice A n c,.slice B m d],.bool false]) ?_ rfl ⟨A,n,c,B,m,d,false,rfl,fun h=>absurd h ah,?_⟩
  ·rw[eG rfl];go_simp
  ·exact ai _ _
 |true=>
  obtain⟨hp3,-⟩:=ac9 V;have Z:np=(iU N).length->(zL ps<=700/\uf (⟨XA,cx,x.1,XB,dx,x.2⟩:Tn)<=700):=fun e=>apK hb.out (U.out _ (gm.2 rfl)) (by rw[<-OQ.out];omega) (by rw[HT.out];exact HT7.out);by_cases z:UQ N (ps.map Tn.tv) x
  ·have hps:np=(iU N).length:=by rw[<-z.1,dF,dF];exact OQ.out
   have GOOD:Hid (OP N zs ps x cap):=ae ⟨HF.out,R.out,vJ.out,V,z,HC0.out,Gq.out,by rw[<-Ra.out];exact DJ.out,HE.out,HN.out⟩;have pV:Hid (jw ps):=ae (GOOD.out.ok hcp.out);have HPF:Hid ((ps.map Tn.tv).map (·.1)=iU N):=ae z.1;have HXF:Hid (x.1=N.inp):=ae z.2.2.2;have hr:=z.2.2.1;have hpn:np<=100000000:=om;clear z Z hps hp3;refine j6 C (fun Q=>Bx Q G 33 #[.slice A n c,.slice B m d]/\oU Q h A n B m N/\ui Q (w.heap.size+1) 33) aj ⟨iin,iin,iin⟩ (fun j _=>?_);refine bT 0 38 ?_;refine bT 1 39 ?_;refine bT 2 40 ?_;refine bT 3 41 ?_;refine bT 4 42 ?_;refine ay 5 fun K hK=>?_;obtain aN5:aX j A n B m N:=(iin:oU j h A n B m N).out _ (Kf.refl _ _);go_simp
   (with_reducible refine(UT HF R).mono ?_)
   rintro e j ⟨rfl,_⟩;dsimp only;refine av hK ?_ ⟨ai C _,⟨iin,iin,iin⟩⟩;clear hK K;rw[V];refine bT 6 44 ?_;refine bT 7 45 ?_;refine bT 8 46 ?_;refine bT 9 47 ?_;refine bT 10 48 ?_;refine bT 11 49 ?_;refine bT 12 50 ?_;refine ay 13 fun K hK=>?_;obtain apS:aX j A n B m N:=(iin:oU j h A n B m N).out _ (Kf.refl _ _);go_simp
   (with_reducible refine(acB HF R vJ HPF pV HXF hr hpn).mono ?_)
   rintro e j ⟨rfl,_⟩;dsimp only;refine av hK ?_ ⟨ai C _,⟨iin,iin,iin⟩⟩;clear hK K;refine bT 14 52 ?_;refine bT 15 53 ?_;refine ay 16 fun K hK=>?_;obtain⟨z0,z1,q9⟩:=(iin:ui j (w.heap.size+1) 33).out;have Vj:Bx j (w.heap.size+1) 33 #[z0,z1]:=⟨q9⟩;go_simp;obtain⟨r,l⟩:=lg ((j.setCell ⟨w.heap.size+1,0,none⟩ (.slice A n c)).setCell ⟨w.heap.size+1,1,none⟩ (.slice B m d));rw[<-l];have D:Below (World.heap C).size C r:=by rw[l];exact gW (aL C j) hz _ _
   have M:∀b,b<j.heap.size->b≠w.heap.size+1->(World.heap r)[b]?=j.heap[b]?:=fun b _ hb=>by rw[l];exact(dM _ ⟨w.heap.size+1,1,none⟩ _ b hb).trans (dM _ ⟨w.heap.size+1,0,none⟩ _ b hb)
   have Ea:Bx r (w.heap.size+1) _ #[.slice A n c,.slice B m d]:=⟨by rw[l];exact aD.set2 (Bx.blk (w:=j) (g:=w.heap.size+1)) _ _⟩;have O:Bx r G 33 #[.slice A n c,.slice B m d]:=⟨(M G (Bx.blk (w:=j) (g:=G)).lt J).trans (Bx.blk (w:=j) (g:=G))⟩;have Av:ak r C:=⟨D⟩;have P:ui r (w.heap.size+1) 33:=iin;have S:oU r h A n B m N:=⟨fun u hk=>(iin:oU j h A n B m N).out u (Kf.trans (by rw[l];exact((Kf.refl _ _).aF (q:=⟨w.heap.size+1,0,none⟩) hh _).aF (q:=⟨w.heap.size+1,1,none⟩) hh _) hk)⟩;refine av hK ?_ ⟨⟨D⟩,O,S,P⟩;clear hK K l;refine bT 17 3 ?_;refine aO ?_
   go_wp2_with fail
   refine bM (v:=.tuple #[.agg #[.slice A n c,.slice B m d],.bool true]) ?_ rfl ⟨A,n,c,B,m,d,true,rfl,fun _=>⟨N,GOOD.out,S.out _ (Kf.refl _ _),hnc,hmd⟩,?_⟩
   ·rw[eG rfl];go_simp
   ·exact ai _ _
  ·have HNO:=ae z;have hnx:np=(iU N).length->nx<=1000000:=fun e=>by have h9:=(Z e).2;unfold uf at h9;dsimp only at h9;rw[BU.out.1];omega
   have HOZ:Hid (np=(iU N).length->∀t∈ps,t.zs.length<=1000000):=ae fun e t ht=>by have h8:=apI ht;have h9:=(Z e).1;unfold uf at h8;omega
   clear z Z hp3;refine j6 C (fun Q=>Bx Q G 33 #[.slice A n c,.slice B m d]/\oU Q h A n B m N/\ui Q (w.heap.size+1) 33) aj ⟨iin,iin,iin⟩ (fun j _=>?_);refine bT 0 38 ?_;refine bT 1 39 ?_;refine bT 2 40 ?_;refine bT 3 41 ?_;refine bT 4 42 ?_;refine ay 5 fun K hK=>?_;obtain aN5:aX j A n B m N:=(iin:oU j h A n B m N).out _ (Kf.refl _ _);go_simp
   (with_reducible refine(UT HF R).mono ?_)
   rintro e j ⟨rfl,_⟩;dsimp only;refine av hK ?_ ⟨ai C _,⟨iin,iin,iin⟩⟩;clear hK K;rw[V];refine bT 6 44 ?_;refine bT 7 45 ?_;refine bT 8 46 ?_;refine bT 9 47 ?_;refine bT 10 48 ?_;refine bT 11 49 ?_;refine bT 12 50 ?_;refine ay 13 fun K hK=>?_;obtain apS:aX j A n B m N:=(iin:oU j h A n B m N).out _ (Kf.refl _ _);go_simp
   (with_reducible refine(aoJ HF R vJ HOZ hnx HNO).mono ?_)
   rintro e j ⟨rfl,_⟩;dsimp only;refine av hK ?_ ⟨ai C _,⟨iin,iin,iin⟩⟩;clear hK K;refine bT 14 52 ?_;refine bT 15 53 ?_;refine ay 16 fun K hK=>?_;obtain⟨z0,z1,q9⟩:=(iin:ui j (w.heap.size+1) 33).out;have Vj:Bx j (w.heap.size+1) 33 #[z0,z1]:=⟨q9⟩;go_simp;obtain⟨r,l⟩:=lg ((j.setCell ⟨w.heap.size+1,0,none⟩ (.slice A n c)).setCell ⟨w.heap.size+1,1,none⟩ (.slice B m d));rw[<-l];have D:Below (World.heap C).size C r:=by rw[l];exact gW (aL C j) hz _ _
   have M:∀b,b<j.heap.size->b≠w.heap.size+1->(World.heap r)[b]?=j.heap[b]?:=fun b _ hb=>by rw[l];exact(dM _ ⟨w.heap.size+1,1,none⟩ _ b hb).trans (dM _ ⟨w.heap.size+1,0,none⟩ _ b hb)
   have Ea:Bx r (w.heap.size+1) _ #[.slice A n c,.slice B m d]:=⟨by rw[l];exact aD.set2 (Bx.blk (w:=j) (g:=w.heap.size+1)) _ _⟩;have O:Bx r G 33 #[.slice A n c,.slice B m d]:=⟨(M G (Bx.blk (w:=j) (g:=G)).lt J).trans (Bx.blk (w:=j) (g:=G))⟩;have Av:ak r C:=⟨D⟩;have P:ui r (w.heap.size+1) 33:=iin;have S:oU r h A n B m N:=⟨fun u hk=>(iin:oU j h A n B m N).out u (Kf.trans (by rw[l];exact((Kf.refl _ _).aF (q:=⟨w.heap.size+1,0,none⟩) hh _).aF (q:=⟨w.heap.size+1,1,none⟩) hh _) hk)⟩;refine av hK ?_ ⟨⟨D⟩,O,S,P⟩;clear hK K l;refine bT 17 3 ?_;refine aO ?_
   go_wp2_with fail
   refine bM (v:=.tuple #[.agg #[.slice A n c,.slice B m d],.bool false]) ?_ rfl ⟨A,n,c,B,m,d,false,rfl,fun h=>absurd h ah,?_⟩
   ·rw[eG rfl];go_simp
   ·exact ai _ _
end
end Go.Proofs.YtmkjnlifimffkaaGreat
