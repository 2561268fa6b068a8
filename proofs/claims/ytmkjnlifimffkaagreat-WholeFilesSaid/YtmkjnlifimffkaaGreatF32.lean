/- Lemmas. -/
import Derived.Test.YtmkjnlifimffkaaGreatF31
namespace Go.Proofs.YtmkjnlifimffkaaGreat
open Go.RowKit Tryz
set_option linter.all false
set_option maxRecDepth 100000
set_option maxHeartbeats 0
section
variable{p u w':World}{GB b c cx d f g gd j l q r:Nat}{m':jl}{A A' A2 C K:Option Addr}{ts us:List Tn}{t:Tn}{J:Jk}{F':Nat->Prop}{GP GX U1:List TV}
section
set_option linter.unusedVariables false
structure kb(w:World)(q g r GB:Nat)(m:jl)(A:Option Addr)(n:Nat)(ts:List Tn):Prop where
 rd:Ts w A n ts
 row:ts≠[]->∀b,AF A b->b<w.heap.size/\¬m.U g r b/\b≠GB
 el:∀t∈ts,qK w q g r GB m t
section
variable{w:World}{n k B:Nat}{m:jl}{e:qw}{gs Td:List Tn}{X:Tn}{L G':List TV}{F:Nat->Prop}
def fv.jn{u w:World}[l:aF u w]{A:Option Addr}{n c b:Nat}{L:List TV}(h:fv u b A n c L){p:Nat}(hp:u.heap.size<=p)(v0 j:Value):fv ((w.setCell ⟨p,0,none⟩ v0).setCell ⟨p,1,none⟩ j) b A n c L:=
 h.at (l:=⟨cM l.st hp v0 j⟩)
def ud{A C E F:Option Addr}{n m nx ng c:Nat}{o:gj}{ts us:List Tn}{g V:List Int}{y:List TV}[Sl w A n o.S][I6 o.k](M:n<=1000000)[Ts w K m ts][Ts w C nx us][Le nx cx](N:nx<=1000000)(O:Hx (fo ts))(P:Hx (fo us))(hP:Hx (ts.map Tn.tv=y))(I:Hx (us.map Tn.tv=U1))(hE:Hx (da o (y.map (·.1)) (U1.map (·.1))=0))(hq:Hx (f7 o))
  (hV:Hx (cy o (y.map (·.1)) (U1.map (·.1))=V)) [Sl w E ng V] [Sl w F j g] [dp g] [Le j gd] (hg:Hx (aJ V g=true))  (z:Hx (Ak o y U1 V g=GP)) (G:Hx (qF o y U1 V g=GX)):
  () 64 #[.agg (fL o.kd o.k o.wd o.st o.sd o.fr o.tt (.slice A n d)),.slice K m c,.slice C nx cx,.agg #[.slice E ng l,.slice F j gd]] w (Dr w GP GX):=by
 rw[<-hP.o,<-I.o]at hE hV z G;exact QL M N O P (by rw[mi,mi];exact hE.o) hq (ae (by rw[mi,mi];exact hV.o)) hg z G
theorem Kf.JF(y:Kf F F' w w')(h:Ts w A n ts)(hr:ts≠[]->∀b,AF A b->¬F b)(ht:∀t∈ts,(∀b,AF t.A b->¬F b)/\∀b,AF t.B b->¬F b):Ts w' A n ts:=
 ⟨λj t z=>by
  obtain⟨b,o,rfl,l⟩:=h.rd j t z;have hm:=aC z;have hb:=y.keep b l.old (hr (List.ne_nil_of_mem hm) b ⟨_,rfl,rfl⟩);have D:∀i,w'.cell? ⟨b,i,none⟩=w.cell? ⟨b,i,none⟩:=λi=>dY hb;exact⟨b,o,rfl,⟨bu l.old y.size,(D _).trans l.c0,(D _).trans l.c1,y.rd l.s (ht t hm).1,y.rd l.x (ht t hm).2,l.le,l.bd⟩⟩,h.len⟩
def kb.step(h:kb w q g r GB m A n ts)(j:Kf (m.U g r) (m'.U g r) w w'):kb w' q g r GB m' A n ts:=
 ⟨j.JF h.rd (λl b hb=>(h.row l b hb).2.1) λt ht=>⟨λb hb=>((h.el t ht).oa b hb).2.1,λb hb=>((h.el t ht).ob b hb).2.1⟩,λl b hb=>by
  obtain⟨y,z,D⟩:=h.row l b hb;exact⟨bu y j.size,λE=>(j.new b E).elim z λG=>absurd y (gw.2 G),D⟩,λt ht=>(h.el t ht).step j⟩
def kb.at(h:kb w q g r GB m A n ts)[aF w w']:kb w' q g r GB m A n ts:=h.step (Kf.later _)
def qK.Te(h:qK w q g r GB m t)(j:Kf (λb=>b=GB) (λb=>b=GB) w w'):qK w' q g r GB m t:=
 ⟨⟨j.rd h.te.1 λb hb=>(h.oa b hb).2.2.1,j.rd h.te.2.1 λb hb=>(h.ob b hb).2.2.1,h.te.2.2⟩,λb hb=>⟨bu (h.oa b hb).1 j.size,(h.oa b hb).2⟩,λb hb=>⟨bu (h.ob b hb).1 j.size,(h.ob b hb).2⟩⟩
def kb.Te(h:kb w q g r GB m A n ts)(l:Kf (λb=>b=GB) (λb=>b=GB) w w'):kb w' q g r GB m A n ts:=
 ⟨l.JF h.rd (λj b hb=>(h.row j b hb).2.2) λt ht=>⟨λb hb=>((h.el t ht).oa b hb).2.2.1,λb hb=>((h.el t ht).ob b hb).2.2.1⟩,λj b hb=>⟨bu (h.row j b hb).1 l.size,(h.row j b hb).2⟩,λt ht=>(h.el t ht).Te l⟩
def kb.Tf(h:fv w b A n c L)(hL:∀t∈L,TV.ok t)(N:∀z,m.U g r z->z<b)(S:GB<b)(hb:q<=b):∃ts,kb w q g r GB m A n ts/\ts.map Tn.tv=L/\fo ts:=by
 obtain⟨ts,E,T,I,G,K⟩:=h;have l:∀t∈ts,TV.ok t.tv:=λt ht=>hL _ (by rw[<-K];exact List.mem_map_of_mem ht);have key:∀{C:Option Addr},bV b C->∀z,AF C z->¬m.U g r z/\z≠GB/\q<=z:=λ{C} O z ⟨M,e,hq⟩=>by
  have V:=O.o M e;subst hq;exact⟨λP=>by have:=N _ P;omega,om,om⟩
 have y:=E.rd.elems;refine⟨ts,⟨E,λQ z j=>⟨?_,(key I z j).1,(key I z j).2.1⟩,λt ht=>⟨y t ht,λz j=>⟨?_,key (G t ht).1 z j⟩,λz j=>⟨?_,key (G t ht).2.1 z j⟩⟩⟩,K,λt ht=>⟨(l t ht).1,(G t ht).2.2⟩⟩
 .cases ts with
  |nil=>exact absurd rfl Q
  |cons t tt=>
   obtain⟨Y,o,e,R⟩:=E.rd 0 t rfl;obtain⟨M,D,rfl⟩:=j;rw[e]at D;injection D with D;subst D
   exact R.old
 .exact mE (w:=w) (n:=t.zs.length) (zs:=t.zs) ⟨(y t ht).1,rfl⟩ (lu (l t ht).right) z j
 .exact mE (w:=w) (n:=t.xs.length) (zs:=t.xs) ⟨(y t ht).2.1,rfl⟩ (l t ht).ne z j
def MS.yN{v:cB}{y:Nat}{j:Bool->Tb}(h:MS w y g r m v j)(l:∀b,m.U g r b->w'.heap[b]?=w.heap[b]?):MS w' y g r m v j:=
 ⟨h.ar.keep λb hb=>l b (.inr (.inl hb)),λs=>(h.t s).yN λb hb=>by
  rcases hb with hb|rfl
  .cases s
   .exact l b (.inr (.inr (.inl hb)))
   .exact l b (.inr (.inr (.inr hb)))
  .exact l b (.inl rfl),h.ca,h.gB,h.gA,h.FA,h.FF⟩
def gu.aan(h:gu p w J g r GB m e gs X)(l:Kf (λb=>b=GB) (λb=>b=GB) w w')(j:aI w' p.heap.size 28 2 (some ⟨GB,0,none⟩) J.np J.np (tc Td))(y:Td.length=J.np)(hv:Td.map Tn.tv=G')(z:∀t∈Td,qK w p g r GB m t):gu p w' J g r GB m {e with G:=G'} Td X:=
 ⟨h.ms.yN λb hb=>l.keep b (h.ms.lt b hb).2 λD=>h.GU (D▸hb),h.cs,h.lo,h.gr,j,y,hv,h.x0,h.x1,h.xv,h.mI.Te l,λt ht=>(z t ht).Te l,h.GU⟩
def GZ(w:World)(A A2:Option Addr)(n c k d:Nat)(j:TypeId)(l:Nat.min k n=0):(Builtin.copy_ #[23,23] j #[.slice A n c,.slice A2 k d]).run prog w=.ok (goInt 0) w:=by
 obtain⟨i,hi,-⟩:=bD.1 (show(prog.info? 28).map (·.size)=some 2 from by kernel_rfl);have y:∀(x:Addr),(loadCells x 0).run prog w=.ok #[] w:=λx=>by simpa using run_loadCells_list (P:=prog) w x [] aG
 cases A<;>cases A2<;>simp[Builtin.copy_,dU underlying23,Builtin.lenOf,Builtin.firstCells,sizeOf,typeInfo,hi,l,storeCells,y]
def Ea(g:Nat){n f:Nat}(z:f<=n):∃A',(∀W,(Instr.slice 23 (.slice g n n) (some (.int .i64 (f:Int))) none none).run prog W=.ok (.slice A' (n-f) (n-f)) W)/\(f<n->A'=some ⟨g,f*2,none⟩):=by
 have j:∀W,(sizeOf (prog.elem 23)).run prog W=.ok 2 W:=λW=>by
  obtain⟨D,l,y⟩:=bD.1 (show(prog.info? (prog.elem 23)).map (·.size)=some 2 from by kernel_rfl);simp[sizeOf,typeInfo,l,y]
 refine⟨if n=f then some ⟨g,0,none⟩else(⟨g,0,none⟩:Addr).add (f*2),λW=>?_,λh=>?_⟩
 .rw[dk W 23 (some ⟨g,0,none⟩) n n aq .i64 (f:Int) om om,j];simp[Result.andThen,sliced]
 .rw[ag om,bQ,bX]
def G0(h:aI w B 28 2 (some ⟨GB,0,none⟩) n n (tc gs))(l:gs.length=n)(hu:Ts w A2 k us)(y:f+k<=n)(z:f<n->A'=some ⟨GB,f*2,none⟩):
  ∃w',(∀j d,(Builtin.copy_ #[23,23] j #[.slice A' (n-f) (n-f),.slice A2 k d]).run prog w=.ok (goInt (k:Int)) w')/\aI w' B 28 2 (some ⟨GB,0,none⟩) n n (tc (gs.take f++us++gs.drop (f+k)))/\Kf (λb=>b=GB) (λb=>b=GB) w w':=by
 by_cases D:k=0
 .subst D;obtain rfl:us=[]:=jY hu.len.symm;refine⟨w,λj d=>GZ w _ _ _ _ _ _ j (Nat.zero_min _),?_,Kf.refl _ _⟩;rw[fG,gE,de];exact h
 .obtain⟨I,Y,rfl,E,G⟩:=Tc h l hu om y;rw[z om];exact⟨_,λj d=>E j (n-f) (n-f) d om,G,nM (F:=λb=>b=GB) rfl Y⟩
def gu.copied[aF p w](h:gu p w J g r GB m e gs X)(hP:kb w p g r GB m A2 k us)(l:f+k<=J.np)(y:f<J.np->A'=some ⟨GB,f*2,none⟩):
  ∃w',(∀z d,(Builtin.copy_ #[23,23] z #[.slice A' (J.np-f) (J.np-f),.slice A2 k d]).run prog w=.ok (goInt (k:Int)) w')/\gu p w' J g r GB m {e with G:=sO e.G (us.map Tn.tv) f} (gs.take f++us++gs.drop (f+k)) X/\Kf (λb=>b=GB) (λb=>b=GB) w w'/\aj w' p:=by
 obtain⟨w',D,E,j⟩:=G0 h.row h.gl hP.rd l y;have I:=hP.rd.len;have M:=h.gl;refine⟨w',D,h.aan j E bY ?_ λt ht=>?_,j,j.prev λb K=>by rw[K];exact h.D2.1⟩
 .unfold sO;rw[cJ,cJ,jw,nz,h.gv,br,<-I]
 .rcases bJ.1 ht with ht|ht
  .rcases bJ.1 ht with ht|ht
   .exact h.oP t (cG ht)
   .exact hP.el t ht
  .exact h.oP t (dC ht)
end
end
end
section
variable{p u w' w1:World}{GB c g i j l r:Nat}{m' m2:jl}{e':qw}{v':cB}{iw tb:Bool->Tb}{J:Jk}{C K:Option Addr}{O xs zs:List Int}{L:List (List Int)}{cap id kd z:Int}{s:iv}{F':Nat->Prop}{ss:List Sp}
section
set_option linter.unusedVariables false
section
variable{w:World}{B k n:Nat}{m:jl}{e:qw}{v:cB}{nd:dV}{t:Tb}{T:Bool->Int->Option (List Int)}{gs:List Tn}{X:Tn}{N:aU}{P:List TV}{x:TV}{lo:Int}{b:Bool}
def pO(N:aU)(s:iv)(id:Int)(n i:Nat):List Bool:=(List.range n).map λq=>if q<i then mD N s id q else false
def OI(N:aU)(s:iv)(id:Int)(n:Nat):pO N s id n 0=List.replicate n false:=by
 unfold pO;apply rZ
 .simp
 .intro q y D;simp
def BL(h:mD N s id i=false):pO N s id n (i+1)=pO N s id n i:=by
 unfold pO;refine fj λq _=>?_;by_cases hq:q<i
 .rw[ah hq,ah om]
 .by_cases y:q=i
  .subst y;rw[ah om,ag hq,h]
  .rw[ag om,ag hq]
def Th(h:mD N s id i=true):(pO N s id n i).set i true=pO N s id n (i+1):=by
 unfold pO;apply rZ
 .simp
 .intro q D E;rw[rU];simp only[List.getElem_map,List.getElem_range];by_cases hq:i=q
  .subst hq;rw[ah rfl,ah om,h]
  .rw[ag hq];by_cases y:q<i
   .rw[ah y,ah om]
   .rw[ag y,ag om]
def Wl(hi:i<n):(pO N s id n n)[i]?=some (mD N s id i):=by
 unfold pO;rw[bj,fI hi];simp[hi]
def Kf.Ti{F:Nat->Prop}(h:Kf F F' w w'){q:Addr}(hq:w.heap.size<=q.block)(y:Value):Kf F F' w (w'.setCell q y):=
 ⟨h.base.setCell (p:=q) (aT _) y,by have:=h.size;simpa using this,λb hb D=>by
  rw[bm w' q y b om];exact h.keep b hb D,h.new⟩
def MS.a9(h:MS w B g r m v tb){q:Addr}(hq:¬m.U g r q.block)(y:Value):MS (w.setCell q y) B g r m v tb:=h.yN λb hb=>bm w q y b λe=>hq (e▸hb)
def Eb{j n:Nat}[aF p w]{id:Int}(hid:id=(j:Int))(sh:Hx (du p K n ss))(h:Hx (MS w p g r m v tb))(ce:Hx (cr v tb T))(y:Hx (T true (j:Int)=some xs))(hs:Hx (m.cs[16]?=some (.slice K n c)))(D:Hx ((aW ss)[j]?=some zs))(hr:Hx (aJ zs xs=true)):
  () 154 #[.pointer (some ⟨g,13,none⟩),id] w (he w zs xs 0):=by
 subst hid;exact uQ sh h ce y hs D hr
def Tj[pw:aF p w](hB:Hx (vz p J N L P x))(c:gn N O L l P x)(hI:fT N O L l P x cap s e)(hS:gu p w J g r GB m e gs X)(hc:j3 (cX N cap) s 6 id=0)(hn:N.nodes.length<=200)(qo:e.A.nx<=100000000000)(sr:e.A.mv<=100000000000):
  () 101 #[.pointer g,id] w (ua p J g r GB N O L l P x cap (ga (cX N cap) s 6 id) e.A 1000):=by
 have CC:=@ct;have CP:=@bL;obtain⟨nd,b⟩:=hI.RL c hc;have HC:=ae c;have HI:=ae hI;have HS:=ae hS;have M:=ae b;obtain⟨k,zO⟩:=lh ((id-1).toNat);have hk:Hx (N.nodes[k]?=some nd):=ae (by rw[<-zO];exact b.hv);obtain rfl:id=(k:Int)+1:=by have:=b.i1;omega
 have pwp:aj w p:=⟨pw.st⟩;have a:aQ p J.A J.n J.B J.m N:=hB.o.RR;have HM:Hx (J.m=N.nodes.length):=ae a.len;have RV:k<J.m:=by rw[HM.o];exact(a5.1 hk.o).1
 have hm:J.m<=1000:=by rw[HM.o];exact hB.o.small.1
 have hwj:IntKind.i64.wrap (k:Int)=(k:Int):=by rw[aV];omega
 have c1:Cl w g 1 (.slice J.B J.m J.d):=hS.ms.cl hS.cs.c1;have og:Old g w:=hS.ms.old;generalize J.B=Bz at a c1;obtain⟨b0,q0,o,A1,n1,RW,I,ni,ci,ins,P',np,cp,Q,rfl,ob,⟨v0,v1,v2,v3,v4,v5,v6,v7,v8,v9⟩,s1,si,sp,l1,li,lp,ik,ro⟩:=a.node RV;obtain rfl:nd=⟨o,ins,aW Q⟩:=cn (hk.o.symm.trans ro.o);have vp:ni<=1000:=by have:=hB.o.small.2 _ (aC hk.o);rw[si.len];exact this
 have Aq:Hx (bG N ((k:Int)+1)=ins):=ae b.hi;have Wm:Hx (ni=ins.length):=ae si.len;have pt:∀W,_:=λW=>l7 ni om W;have ER:=ae qo;have tz:=ae sr;clear zO ro b c hI hS hc hm qo sr;go_enter func101,ntmps101
 go_upto_region 2 with fail
 refine aw (λu0 CX k0=>?_);obtain⟨D,hD⟩:=lg w.heap.size;rw[<-hD]at k0⊢;have HD:=ae hD;have cd8:Cl u0 D 8 (.slice I ni ci):=⟨k0.al.cell 8⟩;have od:Old D u0:=⟨k0.al.lt⟩;clear hD;obtain⟨Tk,Tl⟩:∃Tk:Array Value,Tk= #[.int .i64 o.kd,.int .i64 o.k,.int .i64 o.wd,.int .i64 o.st,.int .i64 o.sd,.int .i64 o.fr,.int .i64 o.tt,.slice A1 n1 RW,.slice I ni ci,.slice P' np cp]:=⟨_,rfl⟩;have abF:Hx (aB u0 D 84 Tk):=ae (by rw[Tl];exact k0.al);have Xi:=ae Tl;clear Tl k0
 go_wp2_with fail
 obtain⟨F,hF⟩:=lg u0.heap.size;obtain⟨W1,lE⟩:=lg (u0.alloc (.cells (d6 (List.replicate ni false)) 4));have pW1:aj W1 u0:=by rw[lE];exact ab _ _
 have abG:Hx (aB W1 F 4 (d6 (pO N s ((k:Int)+1) ni 0))):=ae (by rw[lE,hF,OI];exact aB.new _ _ _);rw[<-lE,<-hF];have HDW:Hx (w.heap.size<=D):=ae (dE HD.o.symm);have ES:Hx (w.heap.size<=F):=ae (by rw[hF];exact ai);have DZ:Hx (∀q,w.heap.size<=q->¬m.U g r q):=ae λq hq hx=>by have:=(HS.o.ms.lt q hx).2;omega
 have HDF:Hx (D≠F):=ae (by have:=od.lt;omega);obtain⟨ss,sh,yR⟩:=hB.o.sh;have SH:=ae sh;have N2:=ae yR;clear lE hF pt sh yR;go_loopw [34] (λs34 wr=>∃(i:Nat) (m1:jl) (v1:cB) (ue:Bool->Tb) (T1:Bool->Int->Option (List Int)),i<=ni/\s34=.int .i64 (i:Int)/\Hx (MS wr p g r m1 v1 ue)/\Hx (ry N L s e ((k:Int)+1) i v1 ue T1)/\Hx (dB w wr g r m m1)/\Hx (¬m1.U g r F/\¬m1.U g r D)/\Hx (aB wr D 84 Tk)/\Hx (aB wr F 4 (d6 (pO N s ((k:Int)+1) ni i)))/\Hx (v1.nx<=e.A.nx+i/\v1.mv<=e.A.mv+i)/\aj wr p) (λs34 _=>ni-(intOf s34).toNat)
 case atStart=>exact⟨0,m,e.A,e.tb,e.T,aT _,rfl,ae HS.o.ms.at,ae (ry.zero HI.o.mb HI.o.lp_),ae (dB.later g r m),ae ⟨DZ.o F ES.o,DZ.o D HDW.o⟩,ae abF.o.at,abG,ae ⟨an _,an _⟩,ab _ _⟩
 case round=>
  obtain⟨i,m1,v1,ue,T1,hi,rfl,R,qv,y2,G1,I7,Wn,Ec,hp⟩:=hrel;by_cases bK:i<ni
  .obtain⟨bi,oi,z,rfl,obi,cz,hz⟩:=si.get bK;have HZ:Hx ((bG N ((k:Int)+1))[i]?=some z):=ae (by rw[Aq.o];exact hz.o);have Lt:=qv.o.has HI.o M.o HZ.o;have i1:(i:Int)<(ni:Int):=by omega
   have HTB:Hx (jb wr p g 13 m1.cs (m1.F true) (ue true)):=ae (R.o.t true);rcases zi:mD N s ((k:Int)+1) i with _|_
   .have Wo:=ae zi;have iQ:=Lt.2.1 zi;clear Lt zi;by_cases fk:z=0
    .subst fk
     go_wp2_with fail
     go_roundw
     case rel=>exact⟨i+1,m1,v1,ue,T1,om,by go_num,R,ae (qv.o.skip HZ.o Wo.o),y2,G1,I7,ae (by rw[BL Wo.o];exact Wn.o),ae ⟨by have:=Ec.o.1;omega,by have:=Ec.o.2;omega⟩,hp⟩
     case measure=>exact e6
    .obtain⟨xs,Tm⟩:=iQ.resolve_left fk;have HTH:Hx (g9 (ue true) z=true):=ae (qv.o.mb.has.2 ⟨xs,Tm⟩);have lD:(z==0)=false:=by simp[fk]
     clear Tm fk iQ
     go_wp2_with (go_at_call 155;refine(KH HTB.o HTH).mono ?_;rintro e u1 ⟨rfl,_⟩)
     go_roundw
     case rel=>exact⟨i+1,m1,v1,ue,T1,om,by go_num,ae (R.o.at (w':=u1)),ae (qv.o.skip HZ.o Wo.o),ae (y2.o.trans (dB.later g r m1 (w:=wr) (w':=u1))),G1,ae (I7.o.at (w':=u1)),ae (by rw[BL Wo.o];exact Wn.o.at (w':=u1)),ae ⟨by have:=Ec.o.1;omega,by have:=Ec.o.2;omega⟩,ab p u1⟩
     case measure=>exact e6
   .have Jy:=ae zi;obtain⟨fk,hTn⟩:=Lt.1.1 zi;have HTN:=ae hTn;have vh:=M.o.yL z (aC hz.o);have HTH:Hx (g9 (ue true) z=false):=ae (by
     rw[Co];intro hx;obtain⟨xs,Tm⟩:=qv.o.mb.has.1 hx;rw[hTn]at Tm;cases Tm)
    have lD:(z==0)=false:=by simp[fk]
    obtain⟨jz,To⟩:∃jz:Nat,z=(jz:Int):=⟨z.toNat,om⟩;have HJZ:=ae To;have MI:(pO N s ((k:Int)+1) ni i)[i]?=some false:=by
     unfold pO;rw[bj,fI bK];simp
    have HGI:=ae MI;have Wp:=HC.o.hN.right HC.o.hF vh.1 vh.2;have HRT:Hx (aA (L.getD z.toNat [])=true):=ae Wp;obtain⟨w0,w1,w2⟩:=HC.o.word (cap:=cap) vh.1 vh.2;have vt:Hx (bt (L.getD z.toNat [])=((eW L z:Nat):Int)):=ae (by
     obtain⟨n9,g1,g2,g3⟩:=cV Wp;have e2:bt (L.getD z.toNat [])=(n9:Int):=by rw[bt,ah Wp,g1]
     rw[eW,e2];rfl)
    have HJJ:Hx ((aW ss)[jz]?=some (L.getD z.toNat [])):=ae (by
     have h9:jz<L.length:=by rw[HC.o.len];omega
     rw[N2.o,To,bI,aX,bc h9];rfl)
    have aao:=qv.o.room HI.o M.o HZ.o zi;have SO:v1.lv+eW L z<=v1.cap:=om;have oU:Hx ((ue true).length<=200):=ae (aO (qv.o.mb.SW (b:=true) (n:=N.nodes.length) λy xs hy=>by
     rw[qv.o.tg]at hy
     split at hy
     .rename_i hm;rw[lq,Aq.o]at hm;have h8:=M.o.yL y (cG hm.1);have h7:=hm.2.1;omega
     .exact HI.o.ids true y xs hy) hn)
    clear Lt zi hTn To MI Wp w0 aao fk
    go_upto_region 8 with(go_at_call 155;refine(KH HTB.o HTH).mono ?_;rintro e u1 ⟨rfl,_⟩;have Wq:=Wn.o.at (w':=u1);have MG:=Wq.frozen i;have hcF:=(Wq.cell i).trans (bO HGI.o);have abH:=ae Wq;clear Wq)
    obtain⟨W2,As⟩:=lg (u1.setCell ⟨F,i,none⟩ (.bool true));have GK:Hx (MS W2 p g r m1 v1 ue):=ae (by rw[As];exact(R.o.at (w':=u1)).a9 G1.o.1 _);have s7:Hx (aB W2 F 4 (d6 (pO N s ((k:Int)+1) ni (i+1)))):=ae (by rw[As,<-Th Jy.o,<-k5];exact abH.o.ax i _);have Xj:Hx (aB W2 D 84 Tk):=ae (by rw[As];exact(I7.o.at (w':=u1)).a9 HDF.o _);have ky:Hx (dB w W2 g r m m1):=ae (by
     have h9:=y2.o.trans (dB.later g r m1 (w:=wr) (w':=u1));rw[As];exact⟨h9.kf.Ti ES.o _,h9.sm⟩)
    have pW2:aj W2 p:=ky.o.prev HS.o.ms;have Tp:Hx (m1.cs[16]?=some (.slice J.SA J.ns J.sc)):=ae ((HS.o.cs.same y2.o.sm).cS true);have abI:v1.nx<=1000000000000:=by have:=Ec.o.1;have:=ER.o;omega
    have abJ:v1.mv<=1000000000000:=by have:=Ec.o.2;have:=tz.o;omega
    have aap:=oU.o;have abK:Hx (T1 true (jz:Int)=none):=ae (by rw[<-HJZ.o];exact HTN.o);rw[<-As];clear As MG hcF
    go_wp2_with (go_at_call 150;refine(BD (p:=p) (j:=jz) HJZ.o SH GK (ae qv.o.mb) abK Tp HJJ HRT vt w1 w2 SO abI abJ aap).mono ?_;rintro e u3 ⟨rfl,m3,v3,tb3,SR,GL,HG3,abL,BM⟩)
    go_roundw
    case rel=>
     have ce:=GL.o;rw[<-HJZ.o]at ce;have q1:=HG3.o;have Tq:=s7.o.lt;have hD2:=Xj.o.lt;have Tr:¬m3.U g r F:=λhx=>(BM.o.kf.new F hx).elim G1.o.1 λh9=>absurd Tq (gw.2 h9);have hnD:¬m3.U g r D:=λhx=>(BM.o.kf.new D hx).elim G1.o.2 λh9=>absurd hD2 (gw.2 h9);exact⟨i+1,m3,v3,tb3,_,om,by go_num,SR,ae (qv.o.Pg HZ.o Jy.o ce q1.lv q1.pe q1.cap),ae (ky.o.trans BM.o),ae ⟨Tr,hnD⟩,ae (BM.o.kf.al Xj.o G1.o.2),ae (BM.o.kf.al s7.o G1.o.1),ae ⟨by have:=Ec.o.1;have:=q1.nx;omega,by have:=Ec.o.2;have:=abL.o;omega⟩,BM.o.prev GK.o⟩
    case measure=>exact e6
  .obtain rfl:i=ni:=om;obtain⟨UV,hUV⟩:=lh (dQ (eI N P x) ins);have DX:Hx (dQ (eI N P x) (⟨o,ins,aW Q⟩:dV).ins=UV):=ae hUV;have hfw:=ma HC.o.hN HC.o.hF;have ri:Hx ((eI N P x).getD 0 T0=x):=ae hfw.zero;have oU:Hx (L.length=N.nodes.length+1):=ae HC.o.hN.len;have abM:Hx (∀z∈(⟨o,ins,aW Q⟩:dV).ins,RT L T1 (eI N P x) N.nodes.length z):=ae λz hz=>(M.o.ins z hz).imp (λh=>h) λ⟨a1,a2,a3⟩=>by
    obtain⟨b1,b2,_⟩:=HC.o.val a1 a2;exact⟨a1,a2,(qv.o.tf z).trans a3,b1,b2⟩
   have Xk:=ae qv.o.mb;have G2:Hx (me J r m1.cs):=ae (HS.o.cs.same y2.o.sm);obtain⟨gv,zS⟩:=lh ((dr N O L l P x s.done.toNat).1.getD ((k:Int)+1).toNat T0);have HGV:=ae zS;have BO:=M.o.Rk;rw[zS]at BO;have abN:((k:Int)+1).toNat=k+1:=by omega
   rw[abN]at BO;have HTG:Hx (T1 true ((k+1:Nat):Int)=some gv.2):=ae (by
    have e9:((k+1:Nat):Int)=(k:Int)+1:=by omega
    rw[e9,qv.o.tg,ag,M.o.tg,zS];rw[lq];intro hx;have:=hx.2.2;rw[M.o.gd]at this;cases this)
   have HGS:Hx ((aW ss)[k+1]?=some gv.1):=ae (by
    have h9:k+1<L.length:=by rw[HC.o.len];have:=M.o.i2;omega
    rw[N2.o,BO.1,bc h9,aX,bc h9];rfl)
   have Wr:Hx (aJ gv.1 gv.2=true):=ae BO.2.1;have OJ:=ae BO;have Tp:Hx (m1.cs[16]?=some (.slice J.SA J.ns J.sc)):=ae (G2.o.cS true);have cw0:Cl wr g 0 (.slice J.A J.n J.c):=R.o.cl G2.o.c0;have cw2:Cl wr g 2 (.slice J.PA J.np J.cp):=R.o.cl G2.o.c2;have cw1:Cl wr g 1 (.slice J.B J.m J.d):=R.o.cl G2.o.c1;have acE:Cl wr g 18 (.slice GB J.np J.np):=R.o.cl ((y2.o.sm 18 ak ak ak ak).trans HS.o.gr);clear hUV hfw zS BO
   go_upto_region 15 with(go_at_call 148;refine(yQ (p:=p) (vals:=eI N P x) hB R G2 Xk hk ri oU abM DX).mono ?_;rintro e2 u2 ⟨A2,c2',us,rfl,TU,LU,Jv,Jw,q8⟩)
   go_upto_region 16 with(go_at_call 154;refine(Eb (p:=p) (j:=k+1) om SH (ae (R.o.at (w':=u2))) Xk HTG Tp HGS Wr).mono ?_;rintro e3 u3 ⟨A3,VT,B3,d3,rfl,sA3,sX3,lA3,lX3,fA3,fX3,Sm⟩)
   refine aw (λu4 N5 k4=>?_)
   go_upto_region 18 with fail
   have aN:aQ p J.A J.n J.B J.m N:=hB.o.RR;have CB:=@aa;have FB:=@aP;have kD:Bx wr D 84 #[o.kd,o.k,o.wd,o.st,o.sd,o.fr,o.tt,.slice A1 n1 RW,.slice I i ci,.slice P' np cp]:=⟨by rw[<-Xi.o];exact I7.o⟩;obtain⟨ps,tps,Ar,SG⟩:=hB.o.ps;have TP:Ts p J.PA J.np ps:=tps;have HW:=ae SG;have HPV:=ae Ar;have Ws:=ae hB.o.fits;have vr:=ae hB.o.small;have SJ:=hB.o.lB;have SK:=hB.o.lp;have DR:Hx (P.length=(bS N).length):=ae (by have:=cv List.length HC.o.hF.ps;simpa using this);have t9:Hx (dH N k+(aW Q).length<=J.np):=ae (by
    have h9:J.np=(bS N).length:=by rw[<-DR.o,<-Ar,br];exact tps.len
    rw[h9,show(aW Q).length=(⟨o,ins,aW Q⟩:dV).P.length from rfl,<-lr hk.o];unfold dH bS;exact qJ _ _)
   have N3:(aW Q).length<=1000000:=by have h8:=(Ws.o.2.2 _ (aC hk.o)).2.2.1;have h9:(aW Q).length<=100000:=h8;omega
   obtain⟨PV,Wu⟩:=lh (iT N P k ⟨o,ins,aW Q⟩);have Tt:=ae Wu;have SL:Hx (((ps.map Tn.tv).drop (dH N k)).take (aW Q).length=PV):=ae (by rw[HPV.o];exact Wu);obtain⟨vv,e1,e2,e3,e4,e5⟩:=HC.o.hN.at (id:=(k:Int)+1) (bn.2 ⟨M.o.i1,M.o.i2⟩);have evv:vv=⟨o,ins,aW Q⟩:=cn (e1.symm.trans M.o.hv);subst evv;have EQ:=rr.pick HC.o.hN HC.o.hF (ma HC.o.hN HC.o.hF) (v:=⟨o,ins,aW Q⟩) λz hz=>(M.o.ins z hz).imp (λh=>h) λh=>HC.o.hN.mem.2 (bn.2 ⟨h.1,h.2.1⟩);have vC:=(HC.o.hF.par hk.o).1;rw[Wu]at vC;have Tu:=ae EQ.1;rw[DX.o]at Tu;have HE:Hx (da o (PV.map (·.1)) (UV.map (·.1))=0):=ae (by rw[vC,Tu.o];exact e2);have HV:Hx (cy o (PV.map (·.1)) (UV.map (·.1))=gv.1):=ae (by rw[vC,Tu.o,OJ.o.1,<-show((k:Int)+1).toNat=k+1 from om];exact e3.symm);have DY:Hx (f7 o):=ae (HC.o.hF.kk _ M.o.hm);obtain⟨GP,QM⟩:=lh (Ak o PV UV gv.1 gv.2);obtain⟨GX,QN⟩:=lh (qF o PV UV gv.1 gv.2);have Tv:=ae QM;have Tw:=ae QN;have ig:dp gv.2:=⟨OJ.o.2.2⟩;have oY:n1<=1000000:=by have h8:=(Ws.o.2.2 _ (aC hk.o)).2.1;have h9:o.S.length<=100000:=h8;rw[s1.len];omega
   have rg:UV.length<=1000000:=by rw[<-DX.o,dQ,br];show ins.length<=_;rw[<-Wm.o];omega
   clear tps Ar SG Wu e1 e2 e3 e4 e5 EQ vC QM QN
   go_cut [13,11] (λq9 e9 wx=>∃G A' n' c' B' m' d',q9=.pointer (some ⟨G,0,none⟩)/\e9=.int .i64 0/\u4.heap.size<=G/\Bx wx G 151 #[.slice A' n' c',.slice B' m' d']/\fv wx u4.heap.size A' n' c' GP/\fv wx u4.heap.size B' m' d' GX/\aj wx u4)
   case first=>
    refine aH u4 aq (λux _=>?_);refine ap 0 ?_;refine ap 1 ?_;refine ap 2 ?_;refine ap 3 ?_;refine ap 4 ?_;refine ap 5 ?_;refine ap 6 ?_;refine ap 7 ?_;refine ap 8 ?_;refine ap 9 ?_;refine ap 10 ?_;refine ap 11 ?_;refine ap 12 ?_;refine ap 14 ?_;refine ap 15 ?_;refine o7 13 20 (λK hK=>?_) (λK hK=>?_)
    .go_simp
     (with_reducible refine(DP SJ SK N3 HW Ws vr rfl hk t9 SL).mono ?_)
     rintro e ux ⟨A5,c5,qs,rfl,TQ,LQ,yS,D1,pq⟩;dsimp only;refine aL hK ?_;clear hK K;refine o7 16 20 (λK hK=>?_) (λK hK=>?_)
     focus
      go_simp
      (with_reducible refine(ud oY rg yS Jv D1 Jw HE DY HV Wr Tv Tw).mono ?_)
      rintro e ux ⟨A',n',c',B',m',d',rfl,r1,r2,_⟩;dsimp only;refine aL hK ?_;clear hK K;refine ap 17 ?_;refine ap 18 ?_;refine ap 19 ?_;refine aM 20 λK hK=>?_;go_simp;refine aL hK ?_;clear hK K;refine bh (λux _ _=>?_)
     rotate_left
     focus
      go_simp;refine aL hK ?_;clear hK K;refine bh (λux _ _=>?_);refine aM 16 λK hK=>?_;go_simp
      (with_reducible refine(ud oY rg yS Jv D1 Jw HE DY HV Wr Tv Tw).mono ?_)
      rintro e ux ⟨A',n',c',B',m',d',rfl,r1,r2,_⟩;dsimp only;refine aL hK ?_;clear hK K;refine ap 17 ?_;refine ap 18 ?_;refine ap 19 ?_
     all_goals
      refine aM 21 λK hK=>?_;rename World=>wN;go_simp;refine zF hK (λ_=>?_) ⟨cM (a7 u4 wN) ai _ _⟩;clear hK K;refine ap 22 ?_;refine aZ ?_
      go_wp2_with fail
      go_meet
      case rel=>
       refine⟨_,A',n',c',B',m',d',rfl,rfl,ai,⟨(Bx.al (w:=wN)).cY _ _⟩,?_,?_,⟨cM (a7 u4 wN) ai _ _⟩⟩
       .first|exact(r1.cU Bx.al.lt _ _).less ai|exact(r1.jn (an _) _ _).less ai
       .first|exact(r2.cU Bx.al.lt _ _).less ai|exact(r2.jn (an _) _ _).less ai
    .go_simp;refine aL hK ?_;clear hK K;refine bh (λux _ _=>?_);refine aM 13 λK hK=>?_;go_simp
     (with_reducible refine(DP SJ SK N3 HW Ws vr rfl hk t9 SL).mono ?_)
     rintro e ux ⟨A5,c5,qs,rfl,TQ,LQ,yS,D1,pq⟩;dsimp only;refine aL hK ?_;clear hK K;refine aM 16 λK hK=>?_;go_simp
     (with_reducible refine(ud oY rg yS Jv D1 Jw HE DY HV Wr Tv Tw).mono ?_)
     rintro e ux ⟨A',n',c',B',m',d',rfl,r1,r2,_⟩;dsimp only;refine aL hK ?_;clear hK K;refine ap 17 ?_;refine ap 18 ?_;refine ap 19 ?_;refine aM 21 λK hK=>?_;rename World=>wN;go_simp;refine zF hK (λ_=>?_) ⟨cM (a7 u4 wN) ai _ _⟩;clear hK K;refine ap 22 ?_;refine aZ ?_
     go_wp2_with fail
     go_meet
     case rel=>
      refine⟨_,A',n',c',B',m',d',rfl,rfl,ai,⟨(Bx.al (w:=wN)).cY _ _⟩,?_,?_,⟨cM (a7 u4 wN) ai _ _⟩⟩
      .first|exact(r1.cU Bx.al.lt _ _).less ai|exact(r1.jn (an _) _ _).less ai
      .first|exact(r2.cU Bx.al.lt _ _).less ai|exact(r2.jn (an _) _ _).less ai
   case rest=>
    obtain⟨G,A',n',c',B',m',d',rfl,rfl,hgG,kG,q1,q2,pwx⟩:=hcut;rename World=>wx;have Lu:=HC.o.hF.par hk.o;rw[Tt.o]at Lu;have Lv:=(rr.pick HC.o.hN HC.o.hF (ma HC.o.hN HC.o.hF) (v:=⟨o,ins,aW Q⟩) λz hz=>(M.o.ins z hz).imp (λh=>h) λh=>HC.o.hN.mem.2 (bn.2 ⟨h.1,h.2.1⟩)).2;rw[DX.o]at Lv;have CY:=K0 HE.o DY.o Lu.2 Lv HV.o (show TV.ok (gv.1,gv.2)from OJ.o.2);rw[Tv.o]at CY;have N0:=FE HE.o DY.o Lv (HC.o.hF.k6 _ M.o.hm) HV.o (show TV.ok (gv.1,gv.2)from OJ.o.2);rw[Tw.o]at N0;have Lw:∀q,m1.U g r q->q<u4.heap.size:=λq hq=>bu (R.o.lt q hq).2 ai;have Lx:GB<u4.heap.size:=bu HS.o.D2.2.1 (aO y2.o.kf.size ai);have Tx:p.heap.size<=u4.heap.size:=aO HS.o.D2.1 (gV Lx);obtain⟨us1,Ny,hmP,-⟩:=kb.Tf (g:=g) (r:=r) (GB:=GB) (m:=m1) (q:=p.heap.size) q1 CY.2 Lw Lx Tx;obtain⟨us2,hoX,hmX,Xl⟩:=kb.Tf (g:=g) (r:=r) (GB:=GB) (m:=m1) (q:=p.heap.size) q2 N0.2 Lw Lx Tx;have Y0:n'=(aW Q).length:=by
     have e1:=cv List.length CY.1;have e2:=cv List.length hmP;have e3:=cv List.length Lu.1;simp only[br]at e1 e2 e3;rw[Ny.rd.len,e2,e1,e3]
    have hm':i=m':=by
     have e1:=cv List.length N0.1;have e2:=cv List.length hmX;have e3:UV.length=ins.length:=by rw[<-DX.o];simp[dQ]
     simp only[br]at e1 e2;rw[hoX.rd.len,e2,e1,e3,Wm.o]
    subst hm';have HES:Hx (gu p wx J g r GB m1 {e with A:=v1,tb:=ue,T:=T1} gs X):=ae ((HS.o.step (T:=T1) R.o y2.o).at (w':=wx));obtain⟨f,hF⟩:=lh (dH N k);have HF:=ae hF;have hfk:f+n'<=J.np:=by rw[Y0,<-hF];exact t9.o
    obtain⟨A9,qZ,hA9⟩:=Ea GB (n:=J.np) (f:=f) om;have HA9:=ae hA9;have HFK:=ae hfk;have HOP:=ae Ny;have HOX:=ae hoX;have HMP:=ae hmP;have zT:=ae hmX;have abO:=ae Xl;have HGU:Hx (¬m1.U g r G):=ae λhx=>by have:=Lw G hx;omega
    have M8:Hx (G≠GB):=ae om;have HFG:Hx (F≠GB):=ae (by have:=HS.o.D2.2.1;have:=ES.o;omega);have HDG:Hx (D≠GB):=ae (by have:=HS.o.D2.2.1;have:=HDW.o;omega);have abP:Hx (pB N P (eI N P x) (dr N O L l P x s.done.toNat).1 ((k:Int)+1) ⟨o,ins,aW Q⟩=GX):=ae (by
     unfold pB;rw[show((k:Int)+1-1).toNat=k from om,Tt.o,DX.o,HGV.o];exact Tw.o)
    have abQ:Hx (FY N P (eI N P x) (dr N O L l P x s.done.toNat).1 ((k:Int)+1) ⟨o,ins,aW Q⟩=GP):=ae (by
     unfold FY;rw[show((k:Int)+1-1).toNat=k from om,Tt.o,DX.o,HGV.o];exact Tv.o)
    clear Lu Lv CY N0 Lw Lx Tx Ny hoX hmP hmX Xl hF hfk hA9 q1 q2 Y0 hgG
    go_upto_region 21 with fail
    refine aR p (λw9=>Cl w9 g 18 (.slice GB J.np J.np)/\Bx w9 G 151 #[.slice A' n' c',.slice B' i d']) aq ⟨ao,ao⟩ (λuz _=>?_);refine bp 0 ?_;refine bp 1 ?_;refine bp 2 ?_;refine bp 3 ?_;refine bp 4 ?_;refine bp 5 ?_;refine bp 6 ?_;refine bp 9 ?_;refine bp 10 ?_;refine aM 7 λK hK=>?_;go_simp
    (with_reducible refine(N1 hB (ae (HES.o.at (w':=uz)).ms) (ae HES.o.cs) hk HF).mono ?_)
    rintro e uz ⟨rfl,_⟩;dsimp only;refine aL hK ?_ ⟨ab p _,⟨ao,ao⟩⟩;clear hK K;refine bp 8 ?_;refine aM 11 λK hK=>?_;obtain⟨W6,C1,G3,G4,Zm⟩:=gu.copied (f:=f) (HES.o.at (w':=uz)) (HOP.o.at (w':=uz)) HFK.o HA9.o;obtain⟨gs2,Xm⟩:=lh (gs.take f++us1++gs.drop (f+n'));rw[Xm]at G3;have abR:Hx (gu p W6 J g r GB m1 ⟨v1,ue,T1,sO e.G GP f,e.X,e.lo⟩ gs2 X):=ae (by rw[<-HMP.o];exact G3);have cw6:Cl W6 g 18 (.slice GB J.np J.np):=G3.ms.cl G3.gr;have QI:Bx W6 G 151 #[.slice A' n' c',.slice B' i d']:=⟨G4.al (Bx.al (w:=uz)) M8.o⟩;have abS:Hx (kb W6 p g r GB m1 B' i us2):=ae ((HOX.o.at (w':=uz)).Te G4);have abT:Hx (aB W6 F 4 (d6 (pO N s ((k:Int)+1) i i))):=ae (G4.al (Wn.o.at (w':=uz)) HFG.o);have abU:Hx (aB W6 G 151 #[.slice A' n' c',.slice B' i d']):=ae QI.al;have cD6:Cl W6 D 8 (.slice I i ci):=⟨by rw[(G4.al (I7.o.at (w':=uz)) HDG.o).cell 8,Xi.o];rfl⟩;refine eg rfl _ _ 23 23 rfl _ _ rfl rfl (C1 _ _) ?_;refine aL hK ?_ ⟨Zm,cw6,QI⟩;clear hK K C1 G4 G3 Xm;refine aZ ?_
    skip
    clear qZ
    go_wp2_with fail
    go_loopw [119] (λTy wr=>∃(q:Nat) (m2:jl) (v2:cB) (vD:Bool->Tb) (T2:Bool->Int->Option (List Int)) (X2:Tn),q<=i/\Ty=.int .i64 (q:Int)/\Hx (gu p wr J g r GB m2 ⟨v2,vD,T2,sO e.G GP f,X2.tv,e.lo⟩ gs2 X2)/\Hx (tW N O L l P x s e ((k:Int)+1) ⟨o,ins,aW Q⟩ q v2 vD T2 X2.tv)/\Hx (kb wr p g r GB m2 B' i us2)/\Hx (aB wr F 4 (d6 (pO N s ((k:Int)+1) i i)))/\Hx (aB wr G 151 #[.slice A' n' c',.slice B' i d'])/\Hx (¬m2.U g r F/\¬m2.U g r G)/\Hx (v2.nx<=e.A.nx+i/\v2.mv<=e.A.mv+i)/\aj wr p) (λTy _=>i-(intOf Ty).toNat)
    case atStart=>
     have Yh:=qv.o;have hx9:=HS.o.xv;refine⟨0,m1,v1,ue,T1,X,aT _,rfl,ae (by rw[hx9];exact abR.o),ae ?_,abS,abT,abU,ae ⟨G1.o.1,HGU.o⟩,Ec,ao⟩;rw[hx9];exact tW.start HC.o HI.o M.o (by rw[<-show i=ins.length from Wm.o];exact Yh)
    case round=>
     obtain⟨q,m2,v2,vD,T2,⟨Wv,xc2,s8,Ww,xd2,Y⟩,hq,rfl,E,JG,Ly,s7,BP,jQ,zj,vq⟩:=hrel;by_cases bK:q<i
     .obtain⟨bi,oi,z,rfl,obi,cz,hz⟩:=si.get bK;obtain⟨t,ht,te,tok,tl⟩:=M.o.get hz.o;have htX:GX[q]?=some t:=by rw[<-abP.o];exact ht
      have tsx:Ts wr B' i us2:=Ly.o.rd;obtain⟨b2,o2,A3,n3,c3,z3,B3,k3,d3,x3,rfl,jf,e0,e1,s3,y3,l3,l3',i3,h4,h6,hr3,yx⟩:=tsx.xM abO bK;have htt:t=(z3,x3):=by
       have h9:=yx.o;rw[zT.o,aX,htX]at h9;exact h9
      subst htt;obtain⟨fb,zi⟩:=lh (mD N s ((k:Int)+1) q);have hcF:wr.cell? ⟨F,q,none⟩=some (.bool fb):=(s7.o.cell q).trans (bO (by rw[<-zi];exact Wl bK));have U6:Bx wr G 151 #[.slice A' n' c',.slice (some ⟨b2,o2,none⟩) i d']:=⟨BP.o⟩;have HFB:=ae zi;have HZ:=hz;have HTT:=ae ht;have PJ:=ae te;have pz:=ae tok;have xF:=ae tl;have i1:(q:Int)<(i:Int):=by omega
      clear zi ht te tok tl htX tsx yx hz;by_cases iQ:z=0
      .subst iQ;have g0:=((M.o.at (i:=q)).2.1 0 (dM _) (Int.natCast_nonneg _));have g1:=JG.o.X;have g2:(s8,Y)=T0\/((s8,Y):TV).1=L.getD (0:Int).toNat []/\TV.ok (s8,Y):=by
        have g3:(s8,Y)=(iK N O L l P x s.done.toNat ((k:Int)+1) ⟨o,ins,aW Q⟩ q).getD 0 T0:=g1;rw[g3];exact g0
       have hV:=FZ g2 PJ.o pz.o;obtain⟨V,hVV⟩:=lh (hJ (s8,Y) (z3,x3));rw[hVV]at hV;have G5:=ae hVV;have HVO:=ae hV;have JH:Hx (Y=[]\/ep s8 Y z3 x3=true):=ae (by
        rcases g2 with g2|g2
        .exact .inl (cv Prod.snd g2)
        .refine .inr ?_;have e1:s8=z3:=g2.1.trans PJ.o.symm;unfold ep;rw[g2.2.1,pz.o.1,e1];simp)
       have Tz:Y.length<=1000000:=by
        rcases g2 with g2|g2
        .have:Y=[]:=cv Prod.snd g2;rw[this];simp
        .have h9:Y.length<=65536:=(jO g2.2.1).1;omega
       have w1:Sl wr Wv s8 s8:=⟨E.o.mI.te.1,rfl⟩;have w2:Sl wr Ww Y Y:=⟨E.o.mI.te.2.1,rfl⟩;have w3:dp Y:=⟨E.o.mI.te.2.2.2⟩;clear g0 g1 g2 hV hVV
       go_upto_region 25 with fail
       refine wp_region_still_tail 11 aq aq ?_;change wpStill _ _ (wr).drew _ _ _;simp only[fh,dK,g4,eT]
       repeat still_step
       refine fJ ?_
       go_wp2_with (go_at_call 157;refine(Oo (p:=p) (x:=(s8,Y)) (ae E.o.ms.at) (ae E.o.x0) (ae E.o.x1) Tz om om JH G5).mono ?_;rintro e9 u9 ⟨rfl,A5,c5,B5,d5,ph,s5,y5,f5,f5',l5,oV⟩)
       go_roundw
       case rel=>
        have hn9:=HVO.o.2;refine⟨q+1,_,v2,vD,T2,⟨A5,c5,V.1,B5,d5,V.2⟩,om,by go_num,ae ((E.o.at (w':=wr.drew)).dd (X':=⟨A5,c5,V.1,B5,d5,V.2⟩) ph.o oV.o (TE.of s5 y5 l5 hn9.2) (mE s5 (lu hn9.right)) (mE y5 hn9.ne) f5 f5'),ae ?_,ae ((Ly.o.at (w':=wr.drew)).step oV.o),ae (oV.o.al (s7.o.at (w':=wr.drew)) jQ.o.1),ae (oV.o.al (BP.o.at (w':=wr.drew)) jQ.o.2),jQ,zj,oV.o.prev λb hb=>(E.o.ms.lt b hb).1⟩;have h9:=JG.o.zero M.o HZ.o HTT.o;have h8:(⟨A5,c5,V.1,B5,d5,V.2⟩:Tn).tv=hJ (s8,Y) (z3,x3):=G5.o.symm;rw[h8];exact h9
       case measure=>exact e6
      .obtain⟨⟨j1,j2,hy,hn⟩,JI⟩:=JG.o.node HC.o HI.o M.o HZ.o iQ HTT.o;rw[HFB.o]at hy hn JI;have Xn:=ae JI;clear JI;cases fb
       case true=>
        have HY:=ae (hy rfl);have oU:Hx (x3.length=(List.replicate (eW L z) (0:Int)).length):=ae (by rw[fg];exact xF.o);clear hy hn
        go_upto_region 25 with fail
        refine wp_region_still_tail 11 aq aq ?_;change wpStill _ _ (wr).drew _ _ _;simp only[fh,dK,g4,eT]
        repeat still_step
        refine fJ ?_
        go_wp2_with (go_at_call 157;refine(Oq (p:=p) (ae E.o.ms.at) (ae JG.o.mb) iQ HY oU).mono ?_;rintro e9 u9 ⟨rfl,m5,v5,ph,TA,qq,Z⟩)
        go_roundw
        case rel=>
         have e9:=E.o.at (w':=wr.drew);have Tq:=(s7.o.at (w':=wr.drew)).lt;have hG2:=(BP.o.at (w':=wr.drew)).lt;have Tr:¬m5.U g r F:=λhx=>(Z.o.kf.new F hx).elim jQ.o.1 λh9=>absurd Tq (gw.2 h9);have hnG:¬m5.U g r G:=λhx=>(Z.o.kf.new G hx).elim jQ.o.2 λh9=>absurd hG2 (gw.2 h9);exact⟨q+1,m5,v5,vD,_,⟨Wv,xc2,s8,Ww,xd2,Y⟩,om,by go_num,ae (e9.step ph.o Z.o),ae (Xn.o v5 vD x3 rfl TA.o qq.o.1 qq.o.2.1 qq.o.2.2.1),ae ((Ly.o.at (w':=wr.drew)).step Z.o.kf),ae (Z.o.kf.al (s7.o.at (w':=wr.drew)) jQ.o.1),ae (Z.o.kf.al (BP.o.at (w':=wr.drew)) jQ.o.2),ae ⟨Tr,hnG⟩,ae ⟨by rw[qq.o.2.2.2.1];exact zj.o.1,by rw[qq.o.2.2.2.2];exact zj.o.2⟩,Z.o.prev e9.ms⟩
        case measure=>exact e6
       case false=>
        obtain⟨gg,Cz,Ap,qt,yx,Jg⟩:=hn rfl;obtain⟨jz,To⟩:∃jz:Nat,z=(jz:Int):=⟨z.toNat,om⟩;subst To;rw[bI]at Ap;have HY:=ae yx;have Gd:Hx (L[jz]?=some gg.1):=ae (by
         have h9:jz<L.length:=by rw[HC.o.len];omega
         rw[Ap,aX,bc h9];rfl)
        have abV:Hx (aJ gg.1 gg.2=true):=ae qt.1;have i6g:dp gg.2:=⟨qt.2⟩;have hze:z3=gg.1:=by rw[Ap];exact PJ.o
        have hjp:0<jz:=om;have JH:Hx (gg.2=[]\/ep gg.1 gg.2 gg.1 x3=true):=ae (.inr (by
         unfold ep;have:=pz.o.1;rw[hze]at this;rw[qt.1,this];simp))
        have Xo:hJ (gg.1,gg.2) (gg.1,x3)=(gg.1,gg.2.zipWith cA x3):=by
         unfold hJ;rw[ag qt.ne]
        have G5:=ae Xo;have oU:Hx ((gg.1,gg.2.zipWith cA x3).2.length=gg.2.length):=ae (by
         have:=xF.o
         show(gg.2.zipWith cA x3).length=_
         rw[Cf,Jg];have h9:x3.length=eW L (jz:Int):=xF.o;omega)
        have abW:Hx (((iK N O L l P x s.done.toNat ((k:Int)+1) ⟨o,ins,aW Q⟩ q).getD jz T0).2=gg.2):=ae (by rw[bI]at Cz;rw[Cz]);subst hze;clear hy hn Cz Ap qt yx Jg Xo
        go_upto_region 25 with fail
        refine wp_region_still_tail 11 aq aq ?_;change wpStill _ _ (wr).drew _ _ _;simp only[fh,dK,g4,eT]
        repeat still_step
        refine fJ ?_
        go_wp2_with (go_at_call 157;refine(Ot (p:=p) hB (ae E.o.cs) (ae E.o.ms.at) (ae JG.o.mb) hjp HY Gd abV om om JH G5 oU).mono ?_;rintro e9 u9 ⟨rfl,m5,v5,ph,TA,qq,Z⟩)
        go_roundw
        case rel=>
         have e9:=E.o.at (w':=wr.drew);have Tq:=(s7.o.at (w':=wr.drew)).lt;have hG2:=(BP.o.at (w':=wr.drew)).lt;have Tr:¬m5.U g r F:=λhx=>(Z.o.kf.new F hx).elim jQ.o.1 λh9=>absurd Tq (gw.2 h9);have hnG:¬m5.U g r G:=λhx=>(Z.o.kf.new G hx).elim jQ.o.2 λh9=>absurd hG2 (gw.2 h9);exact⟨q+1,m5,v5,vD,_,⟨Wv,xc2,s8,Ww,xd2,Y⟩,om,by go_num,ae (e9.step ph.o Z.o),ae (Xn.o v5 vD _ (by rw[bI,abW.o];rfl) TA.o qq.o.1 qq.o.2.1 qq.o.2.2.1),ae ((Ly.o.at (w':=wr.drew)).step Z.o.kf),ae (Z.o.kf.al (s7.o.at (w':=wr.drew)) jQ.o.1),ae (Z.o.kf.al (BP.o.at (w':=wr.drew)) jQ.o.2),ae ⟨Tr,hnG⟩,ae ⟨by rw[qq.o.2.2.2.1];exact zj.o.1,by rw[qq.o.2.2.2.2];exact zj.o.2⟩,Z.o.prev e9.ms⟩
        case measure=>exact e6
     .obtain rfl:q=i:=om;have hP9:=JG.o;rw[show q=(⟨o,ins,aW Q⟩:dV).ins.length from Wm.o]at hP9;obtain⟨⟨gg,Ap,qt⟩,TB⟩:=tW.done HC.o HI.o M.o hP9;have Ra:=ae TB;have mZ:=ae qt;have Du:() 98 #[.pointer (some ⟨g,13,none⟩),.int .i64 ((k:Int)+1)] wr _:=Gi (p:=p) (s:=true) (ae E.o.ms) (ae JG.o.mb) (ae Ap);clear TB Ap qt hP9
      go_wp2_with (go_at_call 98;refine Du.mono ?_;rintro e9 u9 ⟨rfl,m5,v5,tb5,ph,TA,qq,Z⟩)
      go_ret;obtain⟨f1,f2,f3,f4,f5⟩:=qq.o;have hd:=Ra.o v5 tb5 TA.o (by rw[<-mZ.o];exact f1) f2 f3;rw[abQ.o,show((k:Int)+1-1).toNat=k from om,HF.o]at hd;exact⟨rfl,m5,_,gs2,⟨Wv,xc2,s8,Ww,xd2,Y⟩,ae (E.o.step ph.o Z.o),ae hd,ae ⟨by show v5.nx<=_;have:=zj.o.1;omega,by show v5.mv<=_;have:=zj.o.2;omega⟩,Z.o.prev E.o.ms⟩
end
end
end
