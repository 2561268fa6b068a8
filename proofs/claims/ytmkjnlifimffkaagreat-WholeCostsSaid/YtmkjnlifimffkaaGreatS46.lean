/- Lemmas. No condition. -/
import Derived.Test.YtmkjnlifimffkaaGreatS45
namespace Go.Proofs.YtmkjnlifimffkaaGreat
open Go.RowKit
set_option linter.all false
set_option maxRecDepth 100000
set_option maxHeartbeats 16000000
section
set_option linter.unusedVariables false
structure qU(w:World)(q g r GB:Nat)(m:jB)(A:Option Addr)(n:Nat)(ts:List Tn):Prop where
 rd:Ts w A n ts
 row:ts≠[]->∀b,AF A b->b<w.heap.size/\¬m.U g r b/\b≠GB
 el:∀t∈ts,zN w q g r GB m t
section
variable{p w w' u:World}{q g r n k f c GB b B:Nat}{m m':jB}{e:qP}{A A' A2 C:Option Addr}{ts gs gs' us:List Tn}{t X:Tn}{J:qm}{L G':List TV}{F F':Nat->Prop}
theorem fM.vK{u w:World}[l:Later u w]{A:Option Addr}{n c b:Nat}{L:List TV}(h:fM u b A n c L){p:Nat}(hp:u.heap.size<=p)(v0 v1:Value):fM ((w.setCell ⟨p,0,none⟩ v0).setCell ⟨p,1,none⟩ v1) b A n c L:=
 h.at (l:=⟨gW l.st hp v0 v1⟩)
theorem VI{A D C E F:Option Addr}{n m nx cx ng G N gd c d:Nat}{o:gP}{ts us:List Tn}{g V:List Int}{j l:List TV}[Sl w A n o.S][I6 o.k](O:n<=1000000)[Ts w D m ts][Ts w C nx us][Le nx cx](P:nx<=1000000)(Q:Hid (jw ts))(R:Hid (jw us))(hP:Hid (ts.map Tn.tv=j))(I:Hid (us.map Tn.tv=l))(hE:Hid (iw o (j.map (·.1)) (l.map (·.1))=0))(hq:Hid (gF o))
  (hV:Hid (dZ o (j.map (·.1)) (l.map (·.1))=V)) [Sl w E ng V] [Sl w F G g] [dh g] [Le G gd] (hg:Hid (bH V g=true)) {K M:List TV} (y:Hid (zi o j l V g=K)) (z:Hid (zk o j l V g=M)):
  Calls Tryz.prog 64 #[.agg (opC o.kd o.k o.wd o.st o.sd o.fr o.tt (.slice A n d)),.slice D m c,.slice C nx cx,.agg #[.slice E ng N,.slice F G gd]] w (Nw w K M):=by
 rw[<-hP.out,<-I.out]at hE hV y z;exact alu O P Q R (by rw[CJ,CJ];exact hE.out) hq (ae (by rw[CJ,CJ];exact hV.out)) hg y z
theorem Kf.VJ(y:Kf F F' w w')(h:Ts w A n ts)(hr:ts≠[]->∀b,AF A b->¬F b)(ht:∀t∈ts,(∀b,AF t.A b->¬F b)/\∀b,AF t.B b->¬F b):Ts w' A n ts:=
 ⟨fun j t z=>by
  obtain⟨b,o,rfl,l⟩:=h.rd j t z;have hm:=aK z;have hb:=y.keep b l.old (hr (List.ne_nil_of_mem hm) b ⟨_,rfl,rfl⟩);have D:∀i,w'.cell? ⟨b,i,none⟩=w.cell? ⟨b,i,none⟩:=fun i=>jG hb;exact⟨b,o,rfl,⟨bV l.old y.size,(D _).trans l.c0,(D _).trans l.c1,y.rd l.s (ht t hm).1,y.rd l.x (ht t hm).2,l.le,l.bd⟩⟩,h.len⟩
theorem qU.step(h:qU w q g r GB m A n ts)(j:Kf (m.U g r) (m'.U g r) w w'):qU w' q g r GB m' A n ts:=
 ⟨j.VJ h.rd (fun l b hb=>(h.row l b hb).2.1) fun t ht=>⟨fun b hb=>((h.el t ht).oa b hb).2.1,fun b hb=>((h.el t ht).ob b hb).2.1⟩,fun l b hb=>by
  obtain⟨y,z,D⟩:=h.row l b hb;exact⟨bV y j.size,fun E=>(j.new b E).elim z fun G=>absurd y (sM.2 G),D⟩,fun t ht=>(h.el t ht).step j⟩
theorem qU.at(h:qU w q g r GB m A n ts)[Later w w']:qU w' q g r GB m A n ts:=h.step (Kf.later _)
theorem zN.KP(h:zN w q g r GB m t)(j:Kf (fun b=>b=GB) (fun b=>b=GB) w w'):zN w' q g r GB m t:=
 ⟨⟨j.rd h.te.1 fun b hb=>(h.oa b hb).2.2.1,j.rd h.te.2.1 fun b hb=>(h.ob b hb).2.2.1,h.te.2.2⟩,fun b hb=>⟨bV (h.oa b hb).1 j.size,(h.oa b hb).2⟩,fun b hb=>⟨bV (h.ob b hb).1 j.size,(h.ob b hb).2⟩⟩
theorem qU.KP(h:qU w q g r GB m A n ts)(l:Kf (fun b=>b=GB) (fun b=>b=GB) w w'):qU w' q g r GB m A n ts:=
 ⟨l.VJ h.rd (fun j b hb=>(h.row j b hb).2.2) fun t ht=>⟨fun b hb=>((h.el t ht).oa b hb).2.2.1,fun b hb=>((h.el t ht).ob b hb).2.2.1⟩,fun j b hb=>⟨bV (h.row j b hb).1 l.size,(h.row j b hb).2⟩,fun t ht=>(h.el t ht).KP l⟩
theorem qU.adI(h:fM w b A n c L)(hL:∀t∈L,TV.ok t)(M:∀z,m.U g r z->z<b)(R:GB<b)(hb:q<=b):∃ts,qU w q g r GB m A n ts/\ts.map Tn.tv=L/\jw ts:=by
 obtain⟨ts,E,S,I,G,K⟩:=h;have l:∀t∈ts,TV.ok t.tv:=fun t ht=>hL _ (by rw[<-K];exact List.mem_map_of_mem ht);have key:∀{C:Option Addr},bn b C->∀z,AF C z->¬m.U g r z/\z≠GB/\q<=z:=fun{C} N z ⟨ad,e,hq⟩=>by
  have T:=N.out ad e;subst hq;exact⟨fun O=>by have:=M _ O;omega,om,om⟩
 have y:=E.rd.elems;refine⟨ts,⟨E,fun P z j=>⟨?_,(key I z j).1,(key I z j).2.1⟩,fun t ht=>⟨y t ht,fun z j=>⟨?_,key (G t ht).1 z j⟩,fun z j=>⟨?_,key (G t ht).2.1 z j⟩⟩⟩,K,fun t ht=>⟨(l t ht).1,(G t ht).2.2⟩⟩
 ·cases ts with
  |nil=>exact absurd rfl P
  |cons t tt=>
   obtain⟨b',o,e,Q⟩:=E.rd 0 t rfl;obtain⟨ad,D,rfl⟩:=j;rw[e]at D;injection D with D;subst D
   exact Q.old
 ·exact zK (w:=w) (n:=t.zs.length) (zs:=t.zs) ⟨(y t ht).1,rfl⟩ (JZ (l t ht).right) z j
 ·exact zK (w:=w) (n:=t.xs.length) (zs:=t.xs) ⟨(y t ht).2.1,rfl⟩ (l t ht).ne z j
theorem MS.keep'{v:bL}{B':Nat}{j:Bool->Tb}(h:MS w B' g r m v j)(l:∀b,m.U g r b->w'.heap[b]?=w.heap[b]?):MS w' B' g r m v j:=
 ⟨h.ar.keep fun b hb=>l b (.inr (.inl hb)),fun s=>(h.t s).keep' fun b hb=>by
  rcases hb with hb|rfl
  ·cases s
   ·exact l b (.inr (.inr (.inl hb)))
   ·exact l b (.inr (.inr (.inr hb)))
  ·exact l b (.inl rfl),h.ca,h.gB,h.gA,h.FA,h.FF⟩
theorem gN.aq7(h:gN p w J g r GB m e gs X)(l:Kf (fun b=>b=GB) (fun b=>b=GB) w w')(j:aP w' p.heap.size 28 2 (some ⟨GB,0,none⟩) J.np J.np (tc gs'))(y:gs'.length=J.np)(hv:gs'.map Tn.tv=G')(z:∀t∈gs',zN w p.heap.size g r GB m t):gN p w' J g r GB m {e with G:=G'} gs' X:=
 ⟨h.ms.keep' fun b hb=>l.keep b (h.ms.lt b hb).2 fun D=>h.GU (D▸hb),h.cs,h.lo,h.gr,j,y,hv,h.x0,h.x1,h.xv,h.ax.KP l,fun t ht=>(z t ht).KP l,h.GU⟩
theorem aq8(w:World)(A A2:Option Addr)(n c k d:Nat)(j:TypeId)(l:Nat.min k n=0):(Builtin.copy_ #[23,23] j #[.slice A n c,.slice A2 k d]).run Tryz.prog w=.ok (goInt 0) w:=by
 obtain⟨i,hi,-⟩:=bN.1 (show(Tryz.prog.info? 28).map (·.size)=some 2 from by kernel_rfl);have y:∀(x:Addr),(loadCells x 0).run Tryz.prog w=.ok #[] w:=fun x=>by simpa using run_loadCells_list (P:=Tryz.prog) w x [] au
 cases A<;>cases A2<;>simp[Builtin.copy_,vQ Tryz.underlying23,Builtin.lenOf,Builtin.firstCells,sizeOf,typeInfo,hi,l,storeCells,y]
theorem aq9(g:Nat){n f:Nat}(z:f<=n):∃A',(∀W,(Instr.slice 23 (.slice g n n) (some (.int .i64 (f:Int))) none none).run Tryz.prog W=.ok (.slice A' (n-f) (n-f)) W)/\(f<n->A'=some ⟨g,f*2,none⟩):=by
 have j:∀W,(sizeOf (Tryz.prog.elem 23)).run Tryz.prog W=.ok 2 W:=fun W=>by
  obtain⟨D,l,y⟩:=bN.1 (show(Tryz.prog.info? (Tryz.prog.elem 23)).map (·.size)=some 2 from by kernel_rfl);simp[sizeOf,typeInfo,l,y]
 refine⟨if n=f then some ⟨g,0,none⟩else(⟨g,0,none⟩:Addr).add (f*2),fun W=>?_,fun h=>?_⟩
 ·rw[j4 W 23 (some ⟨g,0,none⟩) n n aj .i64 (f:Int) om om,j];simp[Result.andThen,sliced]
 ·rw[if_neg om,eu,fo]
theorem ara(h:aP w B 28 2 (some ⟨GB,0,none⟩) n n (tc gs))(l:gs.length=n)(hu:Ts w A2 k us)(y:f+k<=n)(z:f<n->A'=some ⟨GB,f*2,none⟩):
  ∃w',(∀j d,(Builtin.copy_ #[23,23] j #[.slice A' (n-f) (n-f),.slice A2 k d]).run Tryz.prog w=.ok (goInt (k:Int)) w')/\aP w' B 28 2 (some ⟨GB,0,none⟩) n n (tc (gs.take f++us++gs.drop (f+k)))/\Kf (fun b=>b=GB) (fun b=>b=GB) w w':=by
 by_cases D:k=0
 ·subst D;obtain rfl:us=[]:=rZ hu.len.symm;refine⟨w,fun j d=>aq8 w _ _ _ _ _ _ j (Nat.zero_min _),?_,Kf.refl _ _⟩;rw[oV,nA,iX];exact h
 ·obtain⟨ad,Y,rfl,E,G⟩:=aq6 h l hu om y;rw[z om];exact⟨_,fun j d=>E j (n-f) (n-f) d om,G,MF (F:=fun b=>b=GB) rfl Y⟩
theorem gN.copied[Later p w](h:gN p w J g r GB m e gs X)(hP:qU w p.heap.size g r GB m A2 k us)(l:f+k<=J.np)(y:f<J.np->A'=some ⟨GB,f*2,none⟩):
  ∃w',(∀z d,(Builtin.copy_ #[23,23] z #[.slice A' (J.np-f) (J.np-f),.slice A2 k d]).run Tryz.prog w=.ok (goInt (k:Int)) w')/\gN p w' J g r GB m {e with G:=AJ e.G (us.map Tn.tv) f} (gs.take f++us++gs.drop (f+k)) X/\Kf (fun b=>b=GB) (fun b=>b=GB) w w'/\ak w' p:=by
 obtain⟨w',D,E,j⟩:=ara h.row h.gl hP.rd l y;have I:=hP.rd.len;have M:=h.gl;refine⟨w',D,h.aq7 j E bD ?_ fun t ht=>?_,j,j.prev fun b K=>by rw[K];exact h.bnd.1⟩
 ·unfold AJ;rw[gV,gV,yJ,Dh,h.gv,dF,<-I]
 ·rcases dP.1 ht with ht|ht
  ·rcases dP.1 ht with ht|ht
   ·exact h.wW t (gU ht)
   ·exact hP.el t ht
  ·exact h.wW t (jo ht)
end
end
section
set_option linter.unusedVariables false
section
variable{p w w' u w1:World}{B r g k n i j GB l:Nat}{m m' m2:jB}{e e':qP}{v v':bL}{nd:dJ}{t:Tb}{tb iE:Bool->Tb}{T:Bool->Int->Option (List Int)}{gs:List Tn}{X:Tn}{J:qm}{C:Option Addr}{zs:List Int}{N:aI}{O:List Int}{L:List (List Int)}{P:List TV}{x:TV}{cap kd id z lo:Int}{s:di}{b:Bool}
def qp(N:aI)(s:di)(id:Int)(n i:Nat):List Bool:=(List.range n).map fun q=>if q<i then mr N s id q else false
theorem arb(N:aI)(s:di)(id:Int)(n:Nat):qp N s id n 0=List.replicate n false:=by
 unfold qp;apply LD
 ·simp
 ·intro q y D;simp
theorem adJ(h:mr N s id i=false):qp N s id n (i+1)=qp N s id n i:=by
 unfold qp;refine oZ fun q _=>?_;by_cases hq:q<i
 ·rw[if_pos hq,if_pos om]
 ·by_cases y:q=i
  ·subst y;rw[if_pos om,if_neg hq,h]
  ·rw[if_neg om,if_neg hq]
theorem arc(h:mr N s id i=true):(qp N s id n i).set i true=qp N s id n (i+1):=by
 unfold qp;apply LD
 ·simp
 ·intro q D E;rw[H5];simp only[List.getElem_map,List.getElem_range];by_cases hq:i=q
  ·subst hq;rw[if_pos rfl,if_pos om,h]
  ·rw[if_neg hq];by_cases y:q<i
   ·rw[if_pos y,if_pos om]
   ·rw[if_neg y,if_neg om]
theorem ard(hi:i<n):(qp N s id n n)[i]?=some (mr N s id i):=by
 unfold qp;rw[dE,xc hi];simp[hi]
theorem Kf.arf{F F':Nat->Prop}(h:Kf F F' w w'){q:Addr}(hq:w.heap.size<=q.block)(y:Value):Kf F F' w (w'.setCell q y):=
 ⟨h.base.setCell (p:=q) (aS _) y,by have:=h.size;simpa using this,fun b hb D=>by
  rw[dM w' q y b om];exact h.keep b hb D,h.new⟩
theorem MS.far(h:MS w B g r m v tb){q:Addr}(hq:¬m.U g r q.block)(y:Value):MS (w.setCell q y) B g r m v tb:=h.keep' fun b hb=>dM w q y b fun e=>hq (e▸hb)
theorem arh{j n c:Nat}{y:Option Addr}{xs:List Int}{ss:List Sp}[Later p w]{id:Int}(hid:id=(j:Int))(sh:Hid (dA p y n ss))(h:Hid (MS w p.heap.size g r m v tb))(D:Hid (dK v tb T))(E:Hid (T true (j:Int)=some xs))(hs:Hid (m.cs[16]?=some (.slice y n c)))(F:Hid ((aJ ss)[j]?=some zs))(hr:Hid (bH zs xs=true)):
  Calls Tryz.prog 154 #[.pointer (some ⟨g,13,none⟩),id] w (qE w zs xs 0):=by
 subst hid;exact acv sh h D E hs F hr
theorem ari[pw:Later p w](hB:Hid (wQ p J N L P x))(c:gM N O L l P x)(hI:gz N O L l P x cap s e)(hS:gN p w J g r GB m e gs X)(hc:iV (aC N cap) s 6 id=0)(hn:N.nodes.length<=200)(hnx:e.A.nx<=100000000000)(hmv:e.A.mv<=100000000000):
  Calls Tryz.prog 101 #[.pointer g,id] w (GV p J g r GB N O L l P x cap (bB (aC N cap) s 6 id) e.A 1000):=by
 have CC:=@jK;have CP:=@kQ;obtain⟨nd,b⟩:=hI.aoj c hc;have HC:=ae c;have HI:=ae hI;have HS:=ae hS;have M:=ae b;obtain⟨k,hkk⟩:=lh ((id-1).toNat);have hk:Hid (N.nodes[k]?=some nd):=ae (by rw[<-hkk];exact b.hv);obtain rfl:id=(k:Int)+1:=by have:=b.i1;omega
 have pwp:ak w p:=⟨pw.st⟩;have a:aX p J.A J.n J.B J.m N:=hB.out.net;have HM:Hid (J.m=N.nodes.length):=ae a.len;have J7:k<J.m:=by rw[HM.out];exact(aY.1 hk.out).1
 have hm:J.m<=1000:=by rw[HM.out];exact hB.out.small.1
 have hwj:IntKind.i64.wrap (k:Int)=(k:Int):=by rw[bF];omega
 have c1:Cl w g 1 (.slice J.B J.m J.d):=hS.ms.cl hS.cs.c1;have og:Old g w:=hS.ms.old;generalize J.B=Bz at a c1;obtain⟨b0,q0,o,A1,n1,c1',I,ni,ci,ins,P',np,cp,Q,rfl,ob,⟨v0,v1,v2,v3,v4,v5,v6,v7,v8,v9⟩,s1,si,sp,l1,li,lp,ik,hnd⟩:=a.node J7;obtain rfl:nd=⟨o,ins,aJ Q⟩:=eP (hk.out.symm.trans hnd.out);have hni:ni<=1000:=by have:=hB.out.small.2 _ (aK hk.out);rw[si.len];exact this
 have zH:Hid (bG N ((k:Int)+1)=ins):=ae b.hi;have OY:Hid (ni=ins.length):=ae si.len;have hmk:∀W,_:=fun W=>NI ni om W;have BU:=ae hnx;have uL:=ae hmv;clear hkk hnd b c hI hS hc hm hnx hmv;go_enter Tryz.func101,Tryz.ntmps101
 go_upto_region 2 with fail
 refine bI (fun u0 Ah k0=>?_);obtain⟨D,hD⟩:=lg w.heap.size;rw[<-hD]at k0⊢;have HD:=ae hD;have cd8:Cl u0 D 8 (.slice I ni ci):=⟨k0.blk.cell 8⟩;have od:Old D u0:=⟨k0.blk.lt⟩;clear hD;obtain⟨KQ,VK⟩:∃KQ:Array Value,KQ= #[.int .i64 o.kd,.int .i64 o.k,.int .i64 o.wd,.int .i64 o.st,.int .i64 o.sd,.int .i64 o.fr,.int .i64 o.tt,.slice A1 n1 c1',.slice I ni ci,.slice P' np cp]:=⟨_,rfl⟩;have arj:Hid (aD u0 D 84 KQ):=ae (by rw[VK];exact k0.blk);have adK:=ae VK;clear VK k0
 go_wp2_with fail
 obtain⟨F,hF⟩:=lg u0.heap.size;obtain⟨W1,hW1⟩:=lg (u0.alloc (.cells (dL (List.replicate ni false)) 4));have pW1:ak W1 u0:=by rw[hW1];exact ai _ _
 have ark:Hid (aD W1 F 4 (dL (qp N s ((k:Int)+1) ni 0))):=ae (by rw[hW1,hF,arb];exact aD.new _ _ _);rw[<-hW1,<-hF];have HDW:Hid (w.heap.size<=D):=ae (lH HD.out.symm);have BV:Hid (w.heap.size<=F):=ae (by rw[hF];exact aH);have Bb:Hid (∀q,w.heap.size<=q->¬m.U g r q):=ae fun q hq hx=>by have:=(HS.out.ms.lt q hx).2;omega
 have HDF:Hid (D≠F):=ae (by have:=od.lt;omega);obtain⟨ss,sh,hsp⟩:=hB.out.sh;have SH:=ae sh;have GH:=ae hsp;clear hW1 hF hmk sh hsp;go_loopw [34] (fun VL wr=>∃(i:Nat) (m1:jB) (v1:bL) (vL:Bool->Tb) (T1:Bool->Int->Option (List Int)),i<=ni/\VL=.int .i64 (i:Int)/\Hid (MS wr p.heap.size g r m1 v1 vL)/\Hid (rT N L s e ((k:Int)+1) i v1 vL T1)/\Hid (gH w wr g r m m1)/\Hid (¬m1.U g r F/\¬m1.U g r D)/\Hid (aD wr D 84 KQ)/\Hid (aD wr F 4 (dL (qp N s ((k:Int)+1) ni i)))/\Hid (v1.nx<=e.A.nx+i/\v1.mv<=e.A.mv+i)/\ak wr p) (fun VL _=>ni-(intOf VL).toNat)
 case atStart=>exact⟨0,m,e.A,e.tb,e.T,aS _,rfl,ae HS.out.ms.at,ae (rT.zero HI.out.mb HI.out.lp_),ae (gH.later g r m),ae ⟨Bb.out F BV.out,Bb.out D HDW.out⟩,ae arj.out.at,ark,ae ⟨az _,az _⟩,ai _ _⟩
 case round=>
  obtain⟨i,m1,v1,vL,T1,hi,rfl,R,qK,HT1,CO,En,OZ,Bf,hp⟩:=hrel;by_cases hlt:i<ni
  ·obtain⟨bi,oi,z,rfl,obi,cz,hz⟩:=si.get hlt;have HZ:Hid ((bG N ((k:Int)+1))[i]?=some z):=ae (by rw[zH.out];exact hz.out);have hhas:=qK.out.has HI.out M.out HZ.out;have i1:(i:Int)<(ni:Int):=by omega
   have HTB:Hid (jv wr p.heap.size g 13 m1.cs (m1.F true) (vL true)):=ae (R.out.t true);rcases yu:mr N s ((k:Int)+1) i with _|_
   ·have O0:=ae yu;have hz0:=hhas.2.1 yu;clear hhas yu;by_cases hzz:z=0
    ·subst hzz
     go_wp2_with fail
     go_roundw
     case rel=>exact⟨i+1,m1,v1,vL,T1,om,by go_num,R,ae (qK.out.skip HZ.out O0.out),HT1,CO,En,ae (by rw[adJ O0.out];exact OZ.out),ae ⟨by have:=Bf.out.1;omega,by have:=Bf.out.2;omega⟩,hp⟩
     case measure=>simp[intOf];omega
    ·obtain⟨xs,hxs⟩:=hz0.resolve_left hzz;have VM:Hid (qB (vL true) z=true):=ae (qK.out.mb.has.2 ⟨xs,hxs⟩);have hz1:(z==0)=false:=by simp[hzz]
     clear hxs hzz hz0
     go_wp2_with (go_at_call 155;refine(X7 HTB.out VM).mono ?_;rintro e u1 ⟨rfl,_⟩)
     go_roundw
     case rel=>exact⟨i+1,m1,v1,vL,T1,om,by go_num,ae (R.out.at (w':=u1)),ae (qK.out.skip HZ.out O0.out),ae (HT1.out.trans (gH.later g r m1 (w:=wr) (w':=u1))),CO,ae (En.out.at (w':=u1)),ae (by rw[adJ O0.out];exact OZ.out.at (w':=u1)),ae ⟨by have:=Bf.out.1;omega,by have:=Bf.out.2;omega⟩,ai p u1⟩
     case measure=>simp[intOf];omega
   ·have EO:=ae yu;obtain⟨hzz,VN⟩:=hhas.1.1 yu;have HTN:=ae VN;have hrz:=M.out.x8 z (aK hz.out);have VM:Hid (qB (vL true) z=false):=ae (by
     rw[PQ];intro hx;obtain⟨xs,hxs⟩:=qK.out.mb.has.1 hx;rw[VN]at hxs;cases hxs)
    have hz1:(z==0)=false:=by simp[hzz]
    obtain⟨jz,hjz⟩:∃jz:Nat,z=(jz:Int):=⟨z.toNat,om⟩;have VO:=ae hjz;have hgi:(qp N s ((k:Int)+1) ni i)[i]?=some false:=by
     unfold qp;rw[dE,xc hlt];simp
    have HGI:=ae hgi;have hrt:=HC.out.hN.right HC.out.hF hrz.1 hrz.2;have HRT:Hid (aU (L.getD z.toNat [])=true):=ae hrt;obtain⟨w0,w1,w2⟩:=HC.out.word (cap:=cap) hrz.1 hrz.2;have wG:Hid (bJ (L.getD z.toNat [])=((eH L z:Nat):Int)):=ae (by
     obtain⟨n9,g1,g2,g3⟩:=pQ hrt;have e2:bJ (L.getD z.toNat [])=(n9:Int):=by rw[bJ,if_pos hrt,g1]
     rw[eH,e2];rfl)
    have HJJ:Hid ((aJ ss)[jz]?=some (L.getD z.toNat [])):=ae (by
     have h9:jz<L.length:=by rw[HC.out.len];omega
     rw[GH.out,hjz,dD,aQ,aW h9];rfl)
    have hroom:=qK.out.room HI.out M.out HZ.out yu;have hl':v1.lv+eH L z<=v1.cap:=om;have qD:Hid ((vL true).length<=200):=ae (aZ (qK.out.mb.Vu (b:=true) (n:=N.nodes.length) fun y xs hy=>by
     rw[qK.out.tg]at hy
     split at hy
     ·rename_i hm;rw[Ez,zH.out]at hm;have h8:=M.out.x8 y (gU hm.1);have h7:=hm.2.1;omega
     ·exact HI.out.ids true y xs hy) hn)
    clear hhas yu VN hjz hgi hrt w0 hroom hzz
    go_upto_region 8 with(go_at_call 155;refine(X7 HTB.out VM).mono ?_;rintro e u1 ⟨rfl,_⟩;have O3:=OZ.out.at (w':=u1);have F7:=O3.frozen i;have hcF:=(O3.cell i).trans (iN HGI.out);have ars:=ae O3;clear O3)
    obtain⟨W2,hW2⟩:=lg (u1.setCell ⟨F,i,none⟩ (.bool true));have KD:Hid (MS W2 p.heap.size g r m1 v1 vL):=ae (by rw[hW2];exact(R.out.at (w':=u1)).far CO.out.1 _);have Bh:Hid (aD W2 F 4 (dL (qp N s ((k:Int)+1) ni (i+1)))):=ae (by rw[hW2,<-arc EO.out,<-Ec];exact ars.out.aF i _);have adO:Hid (aD W2 D 84 KQ):=ae (by rw[hW2];exact(En.out.at (w':=u1)).far HDF.out _);have HT2:Hid (gH w W2 g r m m1):=ae (by
     have h9:=HT1.out.trans (gH.later g r m1 (w:=wr) (w':=u1));rw[hW2];exact⟨h9.kf.arf BV.out _,h9.sm⟩)
    have pW2:ak W2 p:=HT2.out.prev HS.out.ms;have VP:Hid (m1.cs[16]?=some (.slice J.SA J.ns J.sc)):=ae ((HS.out.cs.same HT1.out.sm).cS true);have hnx1:v1.nx<=1000000000000:=by have:=Bf.out.1;have:=BU.out;omega
    have art:v1.mv<=1000000000000:=by have:=Bf.out.2;have:=uL.out;omega
    have hlen1:=qD.out;have aru:Hid (T1 true (jz:Int)=none):=ae (by rw[<-VO.out];exact HTN.out);rw[<-hW2];clear hW2 F7 hcF
    go_wp2_with (go_at_call 150;refine(adf (p:=p) (j:=jz) VO.out SH KD (ae qK.out.mb) aru VP HJJ HRT wG w1 w2 hl' hnx1 art hlen1).mono ?_;rintro e u3 ⟨rfl,m3,v3,tb3,Vr,KE,HG3,arx,GZ⟩)
    go_roundw
    case rel=>
     have hmb:=KE.out;rw[<-VO.out]at hmb;have q1:=HG3.out;have hF2:=Bh.out.lt;have hD2:=adO.out.lt;have hnF:¬m3.U g r F:=fun hx=>(GZ.out.kf.new F hx).elim CO.out.1 fun h9=>absurd hF2 (sM.2 h9);have hnD:¬m3.U g r D:=fun hx=>(GZ.out.kf.new D hx).elim CO.out.2 fun h9=>absurd hD2 (sM.2 h9);exact⟨i+1,m3,v3,tb3,_,om,by go_num,Vr,ae (qK.out.gave HZ.out EO.out hmb q1.lv q1.pe q1.cap),ae (HT2.out.trans GZ.out),ae ⟨hnF,hnD⟩,ae (GZ.out.kf.blk adO.out CO.out.2),ae (GZ.out.kf.blk Bh.out CO.out.1),ae ⟨by have:=Bf.out.1;have:=q1.nx;omega,by have:=Bf.out.2;have:=arx.out;omega⟩,GZ.out.prev KD.out⟩
    case measure=>simp[intOf];omega
  ·obtain rfl:i=ni:=om;obtain⟨UV,hUV⟩:=lh (jy (ed N P x) ins);have A8:Hid (jy (ed N P x) (⟨o,ins,aJ Q⟩:dJ).ins=UV):=ae hUV;have hfw:=Cr HC.out.hN HC.out.hF;have HZ0:Hid ((ed N P x).getD 0 T0=x):=ae hfw.zero;have qD:Hid (L.length=N.nodes.length+1):=ae HC.out.hN.len;have ary:Hid (∀z∈(⟨o,ins,aJ Q⟩:dJ).ins,InT L T1 (ed N P x) N.nodes.length z):=ae fun z hz=>(M.out.ins z hz).imp (fun h=>h) fun⟨a1,a2,a3⟩=>by
    obtain⟨b1,b2,_⟩:=HC.out.val a1 a2;exact⟨a1,a2,(qK.out.tf z).trans a3,b1,b2⟩
   have adQ:=ae qK.out.mb;have KR:Hid (tZ J r m1.cs):=ae (HS.out.cs.same HT1.out.sm);obtain⟨gv,hgv⟩:=lh ((fZ N O L l P x s.done.toNat).1.getD ((k:Int)+1).toNat T0);have HGV:=ae hgv;have G6:=M.out.JD;rw[hgv]at G6;have arz:((k:Int)+1).toNat=k+1:=by omega
   rw[arz]at G6;have HTG:Hid (T1 true ((k+1:Nat):Int)=some gv.2):=ae (by
    have e9:((k+1:Nat):Int)=(k:Int)+1:=by omega
    rw[e9,qK.out.tg,if_neg,M.out.tg,hgv];rw[Ez];intro hx;have:=hx.2.2;rw[M.out.gd]at this;cases this)
   have HGS:Hid ((aJ ss)[k+1]?=some gv.1):=ae (by
    have h9:k+1<L.length:=by rw[HC.out.len];have:=M.out.i2;omega
    rw[GH.out,G6.1,aW h9,aQ,aW h9];rfl)
   have O4:Hid (bH gv.1 gv.2=true):=ae G6.2.1;have G7:=ae G6;have VP:Hid (m1.cs[16]?=some (.slice J.SA J.ns J.sc)):=ae (KR.out.cS true);have cw0:Cl wr g 0 (.slice J.A J.n J.c):=R.out.cl KR.out.c0;have cw2:Cl wr g 2 (.slice J.PA J.np J.cp):=R.out.cl KR.out.c2;have cw1:Cl wr g 1 (.slice J.B J.m J.d):=R.out.cl KR.out.c1;have avb:Cl wr g 18 (.slice GB J.np J.np):=R.out.cl ((HT1.out.sm 18 ah ah ah ah).trans HS.out.gr);clear hUV hfw hgv G6
   go_upto_region 15 with(go_at_call 148;refine(acw (p:=p) (vals:=ed N P x) hB R KR adQ hk HZ0 qD ary A8).mono ?_;rintro e2 u2 ⟨A2,c2',us,rfl,TU,LU,EJ,EK,ru⟩)
   go_upto_region 16 with(go_at_call 154;refine(arh (p:=p) (j:=k+1) om SH (ae (R.out.at (w':=u2))) adQ HTG VP HGS O4).mono ?_;rintro e3 u3 ⟨A3,c3',B3,d3,rfl,sA3,sX3,lA3,lX3,fA3,fX3,OG⟩)
   refine bI (fun u4 GJ k4=>?_)
   go_upto_region 18 with fail
   have aN:aX p J.A J.n J.B J.m N:=hB.out.net;have CB:=@bf;have FB:=@dV;have kD:Bx wr D 84 #[o.kd,o.k,o.wd,o.st,o.sd,o.fr,o.tt,.slice A1 n1 c1',.slice I i ci,.slice P' np cp]:=⟨by rw[<-adK.out];exact En.out⟩;obtain⟨ps,VQ,hpv,hpo⟩:=hB.out.ps;have TP:Ts p J.PA J.np ps:=VQ;have DC:=ae hpo;have Kz:=ae hpv;have O5:=ae hB.out.fits;have zu:=ae hB.out.small;have hlB:=hB.out.lB;have KA:=hB.out.lp;have J9:Hid (P.length=(iU N).length):=ae (by have:=eD List.length HC.out.hF.ps;simpa using this);have vJ:Hid (gJ N k+(aJ Q).length<=J.np):=ae (by
    have h9:J.np=(iU N).length:=by rw[<-J9.out,<-hpv,dF];exact VQ.len
    rw[h9,show(aJ Q).length=(⟨o,ins,aJ Q⟩:dJ).P.length from rfl,<-JV hk.out];unfold gJ iU;exact ade _ _)
   have hvp:(aJ Q).length<=1000000:=by have h8:=(O5.out.2.2 _ (aK hk.out)).2.2.1;have h9:(aJ Q).length<=100000:=h8;omega
   obtain⟨PV,ET⟩:=lh (oH N P k ⟨o,ins,aJ Q⟩);have VR:=ae ET;have KC:Hid (((ps.map Tn.tv).drop (gJ N k)).take (aJ Q).length=PV):=ae (by rw[Kz.out];exact ET);obtain⟨vv,e1,e2,e3,e4,e5⟩:=HC.out.hN.at (id:=(k:Int)+1) (dR.2 ⟨M.out.i1,M.out.i2⟩);have evv:vv=⟨o,ins,aJ Q⟩:=eP (e1.symm.trans M.out.hv);subst evv;have hpk:=rM.pick HC.out.hN HC.out.hF (Cr HC.out.hN HC.out.hF) (v:=⟨o,ins,aJ Q⟩) fun z hz=>(M.out.ins z hz).imp (fun h=>h) fun h=>HC.out.hN.mem.2 (dR.2 ⟨h.1,h.2.1⟩);have hp1:=(HC.out.hF.par hk.out).1;rw[ET]at hp1;have VS:=ae hpk.1;rw[A8.out]at VS;have HE:Hid (iw o (PV.map (·.1)) (UV.map (·.1))=0):=ae (by rw[hp1,VS.out];exact e2);have HV:Hid (dZ o (PV.map (·.1)) (UV.map (·.1))=gv.1):=ae (by rw[hp1,VS.out,G7.out.1,<-show((k:Int)+1).toNat=k+1 from om];exact e3.symm);have Ba:Hid (gF o):=ae (HC.out.hF.kk _ M.out.hm);obtain⟨GP,Jm⟩:=lh (zi o PV UV gv.1 gv.2);obtain⟨GX,Jn⟩:=lh (zk o PV UV gv.1 gv.2);have KS:=ae Jm;have KT:=ae Jn;have ig:dh gv.2:=⟨G7.out.2.2⟩;have hn1:n1<=1000000:=by have h8:=(O5.out.2.2 _ (aK hk.out)).2.1;have h9:o.S.length<=100000:=h8;rw[s1.len];omega
   have rF:UV.length<=1000000:=by rw[<-A8.out,jy,dF];show ins.length<=_;rw[<-OY.out];omega
   clear VQ hpv hpo ET e1 e2 e3 e4 e5 hpk hp1 Jm Jn
   go_cut [13,11] (fun q9 e9 wx=>∃G A' n' c' B' m' d',q9=.pointer (some ⟨G,0,none⟩)/\e9=.int .i64 0/\u4.heap.size<=G/\Bx wx G 151 #[.slice A' n' c',.slice B' m' d']/\fM wx u4.heap.size A' n' c' GP/\fM wx u4.heap.size B' m' d' GX/\ak wx u4)
   case first=>
    refine eU u4 aj (fun ux _=>?_);refine ag 0 82 ?_;refine ag 1 83 ?_;refine ag 2 84 ?_;refine ag 3 85 ?_;refine ag 4 86 ?_;refine ag 5 87 ?_;refine ag 6 88 ?_;refine ag 7 89 ?_;refine ag 8 90 ?_;refine ag 9 91 ?_;refine ag 10 92 ?_;refine ag 11 93 ?_;refine ag 12 94 ?_;refine ag 14 96 ?_;refine ag 15 97 ?_;refine il 13 20 (fun K hK=>?_) (fun K hK=>?_)
    ·go_simp
     (with_reducible refine(Ov hlB KA hvp DC O5 zu rfl hk vJ KC).mono ?_)
     rintro e ux ⟨A5,c5,qs,rfl,TQ,LQ,GI,Bc,pq⟩;dsimp only;refine av hK ?_;clear hK K;refine il 16 20 (fun K hK=>?_) (fun K hK=>?_)
     focus
      go_simp
      (with_reducible refine(VI hn1 rF GI EJ Bc EK HE Ba HV O4 KS KT).mono ?_)
      rintro e ux ⟨A',n',c',B',m',d',rfl,r1,r2,_⟩;dsimp only;refine av hK ?_;clear hK K;refine ag 17 81 ?_;refine ag 18 99 ?_;refine ag 19 100 ?_;refine ay 20 fun K hK=>?_;go_simp;refine av hK ?_;clear hK K;refine bY (fun ux _ _=>?_)
     rotate_left
     focus
      go_simp;refine av hK ?_;clear hK K;refine bY (fun ux _ _=>?_);refine ay 16 fun K hK=>?_;go_simp
      (with_reducible refine(VI hn1 rF GI EJ Bc EK HE Ba HV O4 KS KT).mono ?_)
      rintro e ux ⟨A',n',c',B',m',d',rfl,r1,r2,_⟩;dsimp only;refine av hK ?_;clear hK K;refine ag 17 81 ?_;refine ag 18 99 ?_;refine ag 19 100 ?_
     all_goals
      refine ay 21 fun K hK=>?_;rename World=>wN;go_simp;refine vS hK (fun _=>?_) ⟨gW (aL u4 wN) aH _ _⟩;clear hK K;refine ag 22 11 ?_;refine aO ?_
      go_wp2_with fail
      go_meet
      case rel=>
       refine⟨_,A',n',c',B',m',d',rfl,rfl,aH,⟨(Bx.blk (w:=wN)).set2 _ _⟩,?_,?_,⟨gW (aL u4 wN) aH _ _⟩⟩
       ·first|exact(r1.dY Bx.blk.lt _ _).less aH|exact(r1.vK (az _) _ _).less aH
       ·first|exact(r2.dY Bx.blk.lt _ _).less aH|exact(r2.vK (az _) _ _).less aH
    ·go_simp;refine av hK ?_;clear hK K;refine bY (fun ux _ _=>?_);refine ay 13 fun K hK=>?_;go_simp
     (with_reducible refine(Ov hlB KA hvp DC O5 zu rfl hk vJ KC).mono ?_)
     rintro e ux ⟨A5,c5,qs,rfl,TQ,LQ,GI,Bc,pq⟩;dsimp only;refine av hK ?_;clear hK K;refine ay 16 fun K hK=>?_;go_simp
     (with_reducible refine(VI hn1 rF GI EJ Bc EK HE Ba HV O4 KS KT).mono ?_)
     rintro e ux ⟨A',n',c',B',m',d',rfl,r1,r2,_⟩;dsimp only;refine av hK ?_;clear hK K;refine ag 17 81 ?_;refine ag 18 99 ?_;refine ag 19 100 ?_;refine ay 21 fun K hK=>?_;rename World=>wN;go_simp;refine vS hK (fun _=>?_) ⟨gW (aL u4 wN) aH _ _⟩;clear hK K;refine ag 22 11 ?_;refine aO ?_
     go_wp2_with fail
     go_meet
     case rel=>
      refine⟨_,A',n',c',B',m',d',rfl,rfl,aH,⟨(Bx.blk (w:=wN)).set2 _ _⟩,?_,?_,⟨gW (aL u4 wN) aH _ _⟩⟩
      ·first|exact(r1.dY Bx.blk.lt _ _).less aH|exact(r1.vK (az _) _ _).less aH
      ·first|exact(r2.dY Bx.blk.lt _ _).less aH|exact(r2.vK (az _) _ _).less aH
   case rest=>
    obtain⟨G,A',n',c',B',m',d',rfl,rfl,hgG,kG,q1,q2,pwx⟩:=hcut;rename World=>wx;have O6:=HC.out.hF.par hk.out;rw[VR.out]at O6;have O7:=(rM.pick HC.out.hN HC.out.hF (Cr HC.out.hN HC.out.hF) (v:=⟨o,ins,aJ Q⟩) fun z hz=>(M.out.ins z hz).imp (fun h=>h) fun h=>HC.out.hN.mem.2 (dR.2 ⟨h.1,h.2.1⟩)).2;rw[A8.out]at O7;have Ai:=aap HE.out Ba.out O6.2 O7 HV.out (show TV.ok (gv.1,gv.2)from G7.out.2);rw[KS.out]at Ai;have hgx:=aaq HE.out Ba.out O7 (HC.out.hF.k6 _ M.out.hm) HV.out (show TV.ok (gv.1,gv.2)from G7.out.2);rw[KT.out]at hgx;have O8:∀q,m1.U g r q->q<u4.heap.size:=fun q hq=>bV (R.out.lt q hq).2 aH;have O9:GB<u4.heap.size:=bV HS.out.bnd.2.1 (aZ HT1.out.kf.size aH);have VT:p.heap.size<=u4.heap.size:=aZ HS.out.bnd.1 (zR O9);obtain⟨us1,Gn,VU,-⟩:=qU.adI (g:=g) (r:=r) (GB:=GB) (m:=m1) (q:=p.heap.size) q1 Ai.2 O8 O9 VT;obtain⟨VV,VW,VX,adS⟩:=qU.adI (g:=g) (r:=r) (GB:=GB) (m:=m1) (q:=p.heap.size) q2 hgx.2 O8 O9 VT;have hn':n'=(aJ Q).length:=by
     have e1:=eD List.length Ai.1;have e2:=eD List.length VU;have e3:=eD List.length O6.1;simp only[dF]at e1 e2 e3;rw[Gn.rd.len,e2,e1,e3]
    have hm':i=m':=by
     have e1:=eD List.length hgx.1;have e2:=eD List.length VX;have e3:UV.length=ins.length:=by rw[<-A8.out];simp[jy]
     simp only[dF]at e1 e2;rw[VW.rd.len,e2,e1,e3,OY.out]
    subst hm';have VY:Hid (gN p wx J g r GB m1 {e with A:=v1,tb:=vL,T:=T1} gs X):=ae ((HS.out.step (T:=T1) R.out HT1.out).at (w':=wx));obtain⟨f,hF⟩:=lh (gJ N k);have HF:=ae hF;have hfk:f+n'<=J.np:=by rw[hn',<-hF];exact vJ.out
    obtain⟨A9,hsl,Ol⟩:=aq9 GB (n:=J.np) (f:=f) om;have HA9:=ae Ol;have HFK:=ae hfk;have HOP:=ae Gn;have HOX:=ae VW;have UH:=ae VU;have yT:=ae VX;have arO:=ae adS;have HGU:Hid (¬m1.U g r G):=ae fun hx=>by have:=O8 G hx;omega
    have Gd:Hid (G≠GB):=ae om;have HFG:Hid (F≠GB):=ae (by have:=HS.out.bnd.2.1;have:=BV.out;omega);have HDG:Hid (D≠GB):=ae (by have:=HS.out.bnd.2.1;have:=HDW.out;omega);have arS:Hid (qj N P (ed N P x) (fZ N O L l P x s.done.toNat).1 ((k:Int)+1) ⟨o,ins,aJ Q⟩=GX):=ae (by
     unfold qj;rw[show((k:Int)+1-1).toNat=k from om,VR.out,A8.out,HGV.out];exact KT.out)
    have arT:Hid (Cs N P (ed N P x) (fZ N O L l P x s.done.toNat).1 ((k:Int)+1) ⟨o,ins,aJ Q⟩=GP):=ae (by
     unfold Cs;rw[show((k:Int)+1-1).toNat=k from om,VR.out,A8.out,HGV.out];exact KS.out)
    clear O6 O7 Ai hgx O8 O9 VT Gn VW VU VX adS hF hfk Ol q1 q2 hn' hgG
    go_upto_region 21 with fail
    refine j6 p (fun w9=>Cl w9 g 18 (.slice GB J.np J.np)/\Bx w9 G 151 #[.slice A' n' c',.slice B' i d']) aj ⟨iin,iin⟩ (fun uz _=>?_);refine bu 0 104 ?_;refine bu 1 105 ?_;refine bu 2 106 ?_;refine bu 3 107 ?_;refine bu 4 108 ?_;refine bu 5 109 ?_;refine bu 6 110 ?_;refine bu 9 113 ?_;refine bu 10 114 ?_;refine ay 7 fun K hK=>?_;go_simp
    (with_reducible refine(aot hB (ae (VY.out.at (w':=uz)).ms) (ae VY.out.cs) hk HF).mono ?_)
    rintro e uz ⟨rfl,_⟩;dsimp only;refine av hK ?_ ⟨ai p _,⟨iin,iin⟩⟩;clear hK K;refine bu 8 112 ?_;refine ay 11 fun K hK=>?_;obtain⟨W6,hcp,KU,KV,Sy⟩:=gN.copied (f:=f) (VY.out.at (w':=uz)) (HOP.out.at (w':=uz)) HFK.out HA9.out;obtain⟨gs2,adU⟩:=lh (gs.take f++us1++gs.drop (f+n'));rw[adU]at KU;have arU:Hid (gN p W6 J g r GB m1 ⟨v1,vL,T1,AJ e.G GP f,e.X,e.lo⟩ gs2 X):=ae (by rw[<-UH.out];exact KU);have cw6:Cl W6 g 18 (.slice GB J.np J.np):=KU.ms.cl KU.gr;have Jk:Bx W6 G 151 #[.slice A' n' c',.slice B' i d']:=⟨KV.blk (Bx.blk (w:=uz)) Gd.out⟩;have arW:Hid (qU W6 p.heap.size g r GB m1 B' i VV):=ae ((HOX.out.at (w':=uz)).KP KV);have arX:Hid (aD W6 F 4 (dL (qp N s ((k:Int)+1) i i))):=ae (KV.blk (OZ.out.at (w':=uz)) HFG.out);have arY:Hid (aD W6 G 151 #[.slice A' n' c',.slice B' i d']):=ae Jk.blk;have cD6:Cl W6 D 8 (.slice I i ci):=⟨by rw[(KV.blk (En.out.at (w':=uz)) HDG.out).cell 8,adK.out];rfl⟩;refine Dx rfl _ _ 23 23 rfl _ _ rfl rfl (hcp _ _) ?_;refine av hK ?_ ⟨Sy,cw6,Jk⟩;clear hK K hcp KV KU adU;refine aO ?_
    skip
    clear hsl
    go_wp2_with fail
    go_loopw [119] (fun VZ wr=>∃(q:Nat) (m2:jB) (v2:bL) (wV:Bool->Tb) (T2:Bool->Int->Option (List Int)) (X2:Tn),q<=i/\VZ=.int .i64 (q:Int)/\Hid (gN p wr J g r GB m2 ⟨v2,wV,T2,AJ e.G GP f,X2.tv,e.lo⟩ gs2 X2)/\Hid (vF N O L l P x s e ((k:Int)+1) ⟨o,ins,aJ Q⟩ q v2 wV T2 X2.tv)/\Hid (qU wr p.heap.size g r GB m2 B' i VV)/\Hid (aD wr F 4 (dL (qp N s ((k:Int)+1) i i)))/\Hid (aD wr G 151 #[.slice A' n' c',.slice B' i d'])/\Hid (¬m2.U g r F/\¬m2.U g r G)/\Hid (v2.nx<=e.A.nx+i/\v2.mv<=e.A.mv+i)/\ak wr p) (fun VZ _=>i-(intOf VZ).toNat)
    case atStart=>
     have Q7:=qK.out;have V4:=HS.out.xv;refine⟨0,m1,v1,vL,T1,X,aS _,rfl,ae (by rw[V4];exact arU.out),ae ?_,arW,arX,arY,ae ⟨CO.out.1,HGU.out⟩,Bf,iin⟩;rw[V4];exact vF.start HC.out HI.out M.out (by rw[<-show i=ins.length from OY.out];exact Q7)
    case round=>
     obtain⟨q,m2,v2,wV,T2,⟨Pb,V5,um,Pd,V7,Y⟩,hq,rfl,E,Bi,Pe,Bh,G8,mP,EU,hp2⟩:=hrel;by_cases hlt:q<i
     ·obtain⟨bi,oi,z,rfl,obi,cz,hz⟩:=si.get hlt;obtain⟨t,ht,te,tok,tl⟩:=M.out.get hz.out;have htX:GX[q]?=some t:=by rw[<-arS.out];exact ht
      have tsx:Ts wr B' i VV:=Pe.out.rd;obtain⟨b2,o2,A3,n3,c3,z3,B3,k3,d3,x3,rfl,jT,e0,e1,s3,y3,l3,l3',i3,h4,h6,hr3,hg3⟩:=tsx.D7 arO hlt;have htt:t=(z3,x3):=by
       have h9:=hg3.out;rw[yT.out,aQ,htX]at h9;exact h9
      subst htt;obtain⟨fb,yu⟩:=lh (mr N s ((k:Int)+1) q);have hcF:wr.cell? ⟨F,q,none⟩=some (.bool fb):=(Bh.out.cell q).trans (iN (by rw[<-yu];exact ard hlt));have Na:Bx wr G 151 #[.slice A' n' c',.slice (some ⟨b2,o2,none⟩) i d']:=⟨G8.out⟩;have HFB:=ae yu;have HZ:=hz;have HTT:=ae ht;have IA:=ae te;have qh:=ae tok;have xK:=ae tl;have i1:(q:Int)<(i:Int):=by omega
      clear yu ht te tok tl htX tsx hg3 hz;by_cases hz0:z=0
      ·subst hz0;have g0:=((M.out.at (i:=q)).2.1 0 (jg _) (Int.natCast_nonneg _));have g1:=Bi.out.X;have g2:(um,Y)=T0\/((um,Y):TV).1=L.getD (0:Int).toNat []/\TV.ok (um,Y):=by
        have g3:(um,Y)=(nM N O L l P x s.done.toNat ((k:Int)+1) ⟨o,ins,aJ Q⟩ q).getD 0 T0:=g1;rw[g3];exact g0
       have hV:=aba g2 IA.out qh.out;obtain⟨V,V8⟩:=lh (mq (um,Y) (z3,x3));rw[V8]at hV;have Pf:=ae V8;have HVO:=ae hV;have V9:Hid (Y=[]\/nE um Y z3 x3=true):=ae (by
        rcases g2 with g2|g2
        ·exact .inl (eD Prod.snd g2)
        ·refine .inr ?_;have e1:um=z3:=g2.1.trans IA.out.symm;unfold nE;rw[g2.2.1,qh.out.1,e1];simp)
       have hx2:Y.length<=1000000:=by
        rcases g2 with g2|g2
        ·have:Y=[]:=eD Prod.snd g2;rw[this];simp
        ·have h9:Y.length<=65536:=(IK g2.2.1).1;omega
       have w1:Sl wr Pb um.length um:=⟨E.out.ax.te.1,rfl⟩;have w2:Sl wr Pd Y.length Y:=⟨E.out.ax.te.2.1,rfl⟩;have w3:dh Y:=⟨E.out.ax.te.2.2.2⟩;clear g0 g1 g2 hV V8
       go_upto_region 25 with fail
       refine wp_region_still_tail 11 aj aj ?_;change wpStill _ _ (wr).drew _ _ _;simp only[mH,jr,qw,pF]
       repeat still_step
       refine qY ?_
       go_wp2_with (go_at_call 157;refine(ap7 (p:=p) (x:=(um,Y)) (ae E.out.ms.at) (ae E.out.x0) (ae E.out.x1) hx2 om om V9 Pf).mono ?_;rintro e9 u9 ⟨rfl,A5,c5,B5,d5,uN,s5,y5,f5,f5',l5,tK⟩)
       go_roundw
       case rel=>
        have Wd:=HVO.out.2;refine⟨q+1,_,v2,wV,T2,⟨A5,c5,V.1,B5,d5,V.2⟩,om,by go_num,ae ((E.out.at (w':=wr.drew)).inp (X':=⟨A5,c5,V.1,B5,d5,V.2⟩) uN.out tK.out (TE.of s5 y5 l5 Wd.2) (zK s5 (JZ Wd.right)) (zK y5 Wd.ne) f5 f5'),ae ?_,ae ((Pe.out.at (w':=wr.drew)).step tK.out),ae (tK.out.blk (Bh.out.at (w':=wr.drew)) mP.out.1),ae (tK.out.blk (G8.out.at (w':=wr.drew)) mP.out.2),mP,EU,tK.out.prev fun b hb=>(E.out.ms.lt b hb).1⟩;have h9:=Bi.out.zero M.out HZ.out HTT.out;have h8:(⟨A5,c5,V.1,B5,d5,V.2⟩:Tn).tv=mq (um,Y) (z3,x3):=Pf.out.symm;rw[h8];exact h9
       case measure=>simp[intOf];omega
      ·obtain⟨⟨j1,j2,hy,hn⟩,hnext⟩:=Bi.out.node HC.out HI.out M.out HZ.out hz0 HTT.out;rw[HFB.out]at hy hn hnext;have adY:=ae hnext;clear hnext;cases fb
       case true=>
        have HY:=ae (hy rfl);have qD:Hid (x3.length=(List.replicate (eH L z) (0:Int)).length):=ae (by rw[lF];exact xK.out);clear hy hn
        go_upto_region 25 with fail
        refine wp_region_still_tail 11 aj aj ?_;change wpStill _ _ (wr).drew _ _ _;simp only[mH,jr,qw,pF]
        repeat still_step
        refine qY ?_
        go_wp2_with (go_at_call 157;refine(ap9 (p:=p) (ae E.out.ms.at) (ae Bi.out.mb) hz0 HY qD).mono ?_;rintro e9 u9 ⟨rfl,m5,v5,uN,KW,HV5,Z⟩)
        go_roundw
        case rel=>
         have e9:=E.out.at (w':=wr.drew);have hF2:=(Bh.out.at (w':=wr.drew)).lt;have hG2:=(G8.out.at (w':=wr.drew)).lt;have hnF:¬m5.U g r F:=fun hx=>(Z.out.kf.new F hx).elim mP.out.1 fun h9=>absurd hF2 (sM.2 h9);have We:¬m5.U g r G:=fun hx=>(Z.out.kf.new G hx).elim mP.out.2 fun h9=>absurd hG2 (sM.2 h9);exact⟨q+1,m5,v5,wV,_,⟨Pb,V5,um,Pd,V7,Y⟩,om,by go_num,ae (e9.step uN.out Z.out),ae (adY.out v5 wV x3 rfl KW.out HV5.out.1 HV5.out.2.1 HV5.out.2.2.1),ae ((Pe.out.at (w':=wr.drew)).step Z.out.kf),ae (Z.out.kf.blk (Bh.out.at (w':=wr.drew)) mP.out.1),ae (Z.out.kf.blk (G8.out.at (w':=wr.drew)) mP.out.2),ae ⟨hnF,We⟩,ae ⟨by rw[HV5.out.2.2.2.1];exact EU.out.1,by rw[HV5.out.2.2.2.2];exact EU.out.2⟩,Z.out.prev e9.ms⟩
        case measure=>simp[intOf];omega
       case false=>
        obtain⟨gg,hgg,hg1,hg2,hg3,hg4⟩:=hn rfl;obtain⟨jz,hjz⟩:∃jz:Nat,z=(jz:Int):=⟨z.toNat,om⟩;subst hjz;rw[dD]at hg1;have HY:=ae hg3;have JN:Hid (L[jz]?=some gg.1):=ae (by
         have h9:jz<L.length:=by rw[HC.out.len];omega
         rw[hg1,aQ,aW h9];rfl)
        have ar4:Hid (bH gg.1 gg.2=true):=ae hg2.1;have i6g:dh gg.2:=⟨hg2.2⟩;have hze:z3=gg.1:=by rw[hg1];exact IA.out
        have hjp:0<jz:=om;have V9:Hid (gg.2=[]\/nE gg.1 gg.2 gg.1 x3=true):=ae (.inr (by
         unfold nE;have:=qh.out.1;rw[hze]at this;rw[hg2.1,this];simp))
        have hadd:mq (gg.1,gg.2) (gg.1,x3)=(gg.1,gg.2.zipWith dQ x3):=by
         unfold mq;rw[if_neg hg2.ne]
        have Pf:=ae hadd;have qD:Hid ((gg.1,gg.2.zipWith dQ x3).2.length=gg.2.length):=ae (by
         have:=xK.out
         show(gg.2.zipWith dQ x3).length=_
         rw[PG,hg4];have h9:x3.length=eH L (jz:Int):=xK.out;omega)
        have ar5:Hid (((nM N O L l P x s.done.toNat ((k:Int)+1) ⟨o,ins,aJ Q⟩ q).getD jz T0).2=gg.2):=ae (by rw[dD]at hgg;rw[hgg]);subst hze;clear hy hn hgg hg1 hg2 hg3 hg4 hadd
        go_upto_region 25 with fail
        refine wp_region_still_tail 11 aj aj ?_;change wpStill _ _ (wr).drew _ _ _;simp only[mH,jr,qw,pF]
        repeat still_step
        refine qY ?_
        go_wp2_with (go_at_call 157;refine(aqa (p:=p) hB (ae E.out.cs) (ae E.out.ms.at) (ae Bi.out.mb) hjp HY JN ar4 om om V9 Pf qD).mono ?_;rintro e9 u9 ⟨rfl,m5,v5,uN,KW,HV5,Z⟩)
        go_roundw
        case rel=>
         have e9:=E.out.at (w':=wr.drew);have hF2:=(Bh.out.at (w':=wr.drew)).lt;have hG2:=(G8.out.at (w':=wr.drew)).lt;have hnF:¬m5.U g r F:=fun hx=>(Z.out.kf.new F hx).elim mP.out.1 fun h9=>absurd hF2 (sM.2 h9);have We:¬m5.U g r G:=fun hx=>(Z.out.kf.new G hx).elim mP.out.2 fun h9=>absurd hG2 (sM.2 h9);exact⟨q+1,m5,v5,wV,_,⟨Pb,V5,um,Pd,V7,Y⟩,om,by go_num,ae (e9.step uN.out Z.out),ae (adY.out v5 wV _ (by rw[dD,ar5.out];rfl) KW.out HV5.out.1 HV5.out.2.1 HV5.out.2.2.1),ae ((Pe.out.at (w':=wr.drew)).step Z.out.kf),ae (Z.out.kf.blk (Bh.out.at (w':=wr.drew)) mP.out.1),ae (Z.out.kf.blk (G8.out.at (w':=wr.drew)) mP.out.2),ae ⟨hnF,We⟩,ae ⟨by rw[HV5.out.2.2.2.1];exact EU.out.1,by rw[HV5.out.2.2.2.2];exact EU.out.2⟩,Z.out.prev e9.ms⟩
        case measure=>simp[intOf];omega
     ·obtain rfl:q=i:=om;have Wh:=Bi.out;rw[show q=(⟨o,ins,aJ Q⟩:dJ).ins.length from OY.out]at Wh;obtain⟨⟨gg,hg1,hg2⟩,hdone⟩:=vF.done HC.out HI.out M.out Wh;have Jy:=ae hdone;have HG2:=ae hg2;have hfr:Calls Tryz.prog 98 #[.pointer (some ⟨g,13,none⟩),.int .i64 ((k:Int)+1)] wr _:=acp (p:=p) (s:=true) (ae E.out.ms) (ae Bi.out.mb) (ae hg1);clear hdone hg1 hg2 Wh
      go_wp2_with (go_at_call 98;refine hfr.mono ?_;rintro e9 u9 ⟨rfl,m5,v5,tb5,uN,KW,HV5,Z⟩)
      go_ret;obtain⟨f1,f2,f3,f4,f5⟩:=HV5.out;have hd:=Jy.out v5 tb5 KW.out (by rw[<-HG2.out];exact f1) f2 f3;rw[arT.out,show((k:Int)+1-1).toNat=k from om,HF.out]at hd;exact⟨rfl,m5,_,gs2,⟨Pb,V5,um,Pd,V7,Y⟩,ae (E.out.step uN.out Z.out),ae hd,ae ⟨by show v5.nx<=_;have:=EU.out.1;omega,by show v5.mv<=_;have:=EU.out.2;omega⟩,Z.out.prev E.out.ms⟩
end
end
end Go.Proofs.YtmkjnlifimffkaaGreat
