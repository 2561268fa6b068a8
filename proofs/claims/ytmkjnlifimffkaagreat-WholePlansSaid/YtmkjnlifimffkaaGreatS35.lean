/- Lemmas. -/
import Derived.Test.YtmkjnlifimffkaaGreatS34
namespace Go.Proofs.YtmkjnlifimffkaaGreat
open Go.RowKit Tryz
set_option linter.all false
set_option maxRecDepth 100000
set_option maxHeartbeats 0
variable{Γ:Prop}
attribute[local irreducible]Calls
section
variable{p u w w':World}{GB b c cx d f g gd j k l n nx q r:Nat}{A A' A2 C D:Option Addr}{us:List Tn}{t:Tn}{J:L3}{F':Nat->Prop}{V:List Int}{GP GX U1:List TV}{jw:Bool->Tb}
structure lJ(w:World)(q g r GB:Nat)(m:kE)(A:Option Addr)(n:Nat)(ts:List Tn):Prop where
 rd:Ts w A n ts
 row:ts≠[]->∀b,AF A b->b<w.1.size/\¬m.U g r b/\b≠GB
 el:∀t∈ts,sD w q g r GB m t
section
variable{B:Nat}{m m':kE}{e:si}{ts gs V8:List Tn}{X:Tn}{L G':List TV}{F:Nat->Prop}
def eK.kF{u w:aa}[l:aT u w]{A:bF}{n c b:Nat}{L:List TV}(h:eK u b A n c L){p:Nat}(hp:u<=p)(v0 j:Value):eK ((w.setCell (p,0) v0).setCell (p,1) j) b A n c L:=
 h.at (l:=⟨br l.st hp v0 j⟩)
def D7{A C E F:bF}{n m ng c:Nat}{o:ir}{ts us:List Tn}{g:au}{y:List TV}[Sl w A n o.S][I6 o.k](K:n<=1000000)[Ts w D m ts][Ts w C nx us][Le nx cx](M:nx<=1000000)(N:Hx (eB ts))(O:Hx (eB us))(hP:Hx (ts.map Tn.tv=y))(I:Hx (us.map Tn.tv=U1))(hE:Hx (dr o (y.map (·.1)) (U1.map (·.1))=0))
  (hV:Hx (cJ o (y.map (·.1)) (U1.map (·.1))=V)) [Sl w E ng V] [Sl w F j g] [cv g] [Le j gd] (hg:Hx (ap V g=true))  (z:Hx (ql o y U1 V g=GP)) (G:Hx (jZ o y U1 V g=GX)):
  () 64 #[.agg (gM o.kd o.k o.wd o.st o.sd o.fr o.tt (A,n,d)),(D,m,c),(C,nx,cx),.agg #[(E,ng,l),(F,j,gd)]] w (vN w GP GX):=by
 rw[<-hP.o,<-I.o]at hE hV z G;exact TX K M N O (by rw[nN,nN];exact hE) (ae (by rw[nN,nN];exact hV)) hg z G
theorem Kf.BK(y:Kf F F' w w')(h:Ts w A n ts)(hr:ts≠[]->∀b,AF A b->¬F b)(ht:∀t∈ts,(∀b,AF t.A b->¬F b)/\∀b,AF t.B b->¬F b):Ts w' A n ts:=
 ⟨λj t z=>by
  obtain⟨b,o,rfl,l⟩:=h.rd j t z;have hm:=aC z;have hb:=y.keep b l.old (hr (List.ne_nil_of_mem hm) b ⟨_,rfl,rfl⟩);have D:∀i,w'.cell? ⟨b,i,none⟩=w.cell? ⟨b,i,none⟩:=λi=>d9 hb;exact⟨b,o,rfl,⟨bu l.old y.size,(D _).trans l.c0,(D _).trans l.c1,y.rd l.s (ht t hm).1,y.rd l.x (ht t hm).2,l.le,l.bd⟩⟩,h.len⟩
def lJ.step(h:lJ w q g r GB m A n ts)(j:Kf (m.U g r) (m'.U g r) w w'):lJ w' q g r GB m' A n ts:=
 ⟨j.BK h.rd (λl b hb=>(h.row l b hb).2.1) λt ht=>⟨λb hb=>((h.el t ht).oa b hb).2.1,λb hb=>((h.el t ht).ob b hb).2.1⟩,λl b hb=>by
  obtain⟨y,z,D⟩:=h.row l b hb;exact⟨bu y j.size,λE=>(j.new b E).elim z λG=>absurd y (hC.2 G),D⟩,λt ht=>(h.el t ht).step j⟩
def lJ.at(h:lJ w q g r GB m A n ts)[aT w w']:lJ w' q g r GB m A n ts:=h.step (Kf.later _)
def sD.V9(h:sD w q g r GB m t)(j:Kf (λb=>b=GB) (λb=>b=GB) w w'):sD w' q g r GB m t:=
 ⟨⟨j.rd h.te.1 λb hb=>(h.oa b hb).2.2.1,j.rd h.te.2.1 λb hb=>(h.ob b hb).2.2.1,h.te.2.2⟩,λb hb=>⟨bu (h.oa b hb).1 j.size,(h.oa b hb).2⟩,λb hb=>⟨bu (h.ob b hb).1 j.size,(h.ob b hb).2⟩⟩
def lJ.V9(h:lJ w q g r GB m A n ts)(l:Kf (λb=>b=GB) (λb=>b=GB) w w'):lJ w' q g r GB m A n ts:=
 ⟨l.BK h.rd (λj b hb=>(h.row j b hb).2.2) λt ht=>⟨λb hb=>((h.el t ht).oa b hb).2.2.1,λb hb=>((h.el t ht).ob b hb).2.2.1⟩,λj b hb=>⟨bu (h.row j b hb).1 l.size,(h.row j b hb).2⟩,λt ht=>(h.el t ht).V9 l⟩
def lJ.Wa(h:eK w b A n c L)(hL:∀t∈L,TV.ok t)(N:∀z,m.U g r z->z<b)(S:GB<b)(hb:q<=b):∃ts,lJ w q g r GB m A n ts/\ts.map Tn.tv=L/\eB ts:=by
 obtain⟨ts,D,T,G,E,I⟩:=h;have l:∀t∈ts,TV.ok t.tv:=λt ht=>hL _ (by rw[<-I];exact List.mem_map_of_mem ht);have key:∀{C:bF},bG b C->∀z,AF C z->¬m.U g r z/\z≠GB/\q<=z:=λ{C} O z ⟨K,e,hq⟩=>by have V:=O.o K e;subst hq;exact⟨λP=>by have:=N _ P;omega,om,om⟩
 have y:=D.rd.elems;refine⟨ts,⟨D,λQ z j=>⟨?_,(key G z j).1,(key G z j).2.1⟩,λt ht=>⟨y t ht,λz j=>⟨?_,key (E t ht).1 z j⟩,λz j=>⟨?_,key (E t ht).2.1 z j⟩⟩⟩,I,λt ht=>⟨(l t ht).1,(E t ht).2.2⟩⟩
 .cases ts with
  |nil=>exact absurd rfl Q
  |cons t tt=>obtain⟨Y,o,e,R⟩:=D.rd 0 t rfl;obtain⟨K,M,rfl⟩:=j;rw[e]at M;cases M;exact R.old
 exact gh (w:=w) (n:=t.zs.length) (zs:=t.zs) ⟨(y t ht).1,rfl⟩ (fM (l t ht).right) z j;exact gh (w:=w) (n:=t.xs.length) (zs:=t.xs) ⟨(y t ht).2.1,rfl⟩ (l t ht).ne z j
def MS.Bf{v:da}(h:MS w j g r m v jw)(l:∀b,m.U g r b->w'.heap[b]?=w.heap[b]?):MS w' j g r m v jw:=
 ⟨h.ar.keep λb hb=>l b (.inr (.inl hb)),λs=>(h.t s).Bf λb hb=>by
  rcases hb with hb|rfl
  .cases s
   .exact l b (.inr (.inr (.inl hb)))
   .exact l b (.inr (.inr (.inr hb)))
  .exact l b (.inl rfl),h.ca,h.gB,h.gA,h.FA,h.FF⟩
def ho.abg(h:ho p w J g r GB m e gs X)(l:Kf (λb=>b=GB) (λb=>b=GB) w w')(j:aU w' p.1.size 28 2 (some ⟨GB,0,none⟩) J.np J.np (tc V8))(y:V8.length=J.np)(hv:V8.map Tn.tv=G')(z:∀t∈V8,sD w p.1.size g r GB m t):ho p w' J g r GB m {e with G:=G'} V8 X:=
 ⟨h.ms.Bf λb hb=>l.keep b (h.ms.lt b hb).2 λD=>h.GU (D▸hb),h.cs,h.lo,h.gr,j,y,hv,h.x0,h.x1,h.xv,h.ou.V9 l,λt ht=>(z t ht).V9 l,h.GU⟩
def JB(w:aa)(A A2:bF)(n c k d:Nat)(j:TypeId)(l:Nat.min k n=0):(Builtin.copy_ #[23,23] j #[(A,n,c),(A2,k,d)]).run prog w=.ok (goInt 0) w:=by
 obtain⟨i,hi,-⟩:=bt.1 (show(prog.info? 28).map (·.size)=some 2 from by kernel_rfl);have y:∀(x:Addr),(loadCells x 0).run prog w=.ok #[] w:=λx=>by simpa using run_loadCells_list (P:=prog) w x [] aD
 cases A<;>cases A2<;>simp[Builtin.copy_,gF underlying23,Builtin.lenOf,Builtin.firstCells,sizeOf,typeInfo,hi,l,storeCells,y]
def GV(g:Nat){n f:Nat}(z:f<=n):∃A',(∀W,(Instr.slice 23 (g,n,n) (some (.int .i64 (f:Int))) none none).run prog W=.ok (.slice A' (n-f) (n-f)) W)/\(f<n->A'=some ⟨g,f*2,none⟩):=by
 have j:∀W,(sizeOf (prog.elem 23)).run prog W=.ok 2 W:=λW=>by obtain⟨D,l,y⟩:=bt.1 (show(prog.info? (prog.elem 23)).map (·.size)=some 2 from by kernel_rfl);simp[sizeOf,typeInfo,l,y]
 refine⟨if n=f then some ⟨g,0,none⟩else(⟨g,0,none⟩:Addr).add (f*2),λW=>?_,λh=>?_⟩;rw[dN W 23 (some ⟨g,0,none⟩) n n ao .i64 (f:Int) om om,j];simp[Result.andThen,sliced];rw[ag om,cn,cf]
def JC(h:aU w B 28 2 (some ⟨GB,0,none⟩) n n (tc gs))(l:gs=n)(hu:Ts w A2 k us)(y:f+k<=n)(z:f<n->A'=some ⟨GB,f*2,none⟩):
  ∃w',(∀j d,(Builtin.copy_ #[23,23] j #[.slice A' (n-f) (n-f),.slice A2 k d]).run prog w=.ok (goInt (k:Int)) w')/\aU w' B 28 2 (some ⟨GB,0,none⟩) n n (tc (gs.take f++us++gs.drop (f+k)))/\Kf (λb=>b=GB) (λb=>b=GB) w w':=by
 by_cases D:k=0;subst D;obtain rfl:us=[]:=hB hu.len.symm;refine⟨w,λj d=>JB w _ _ _ _ _ _ j (Nat.zero_min _),?_,Kf.refl _ _⟩;rw[en,ef,dC];exact h;obtain⟨I,Y,rfl,E,G⟩:=JA h l hu om y;rw[z om];exact⟨_,λj d=>E j (n-f) (n-f) d om,G,mu (F:=λb=>b=GB) rfl Y⟩
def ho.copied[aT p w](h:ho p w J g r GB m e gs X)(hP:lJ w p.1.size g r GB m A2 k us)(l:f+k<=J.np)(y:f<J.np->A'=some ⟨GB,f*2,none⟩):
  ∃w',(∀z d,(Builtin.copy_ #[23,23] z #[.slice A' (J.np-f) (J.np-f),.slice A2 k d]).run prog w=.ok (goInt (k:Int)) w')/\ho p w' J g r GB m {e with G:=q8 e.G (us.map Tn.tv) f} (gs.take f++us++gs.drop (f+k)) X/\Kf (λb=>b=GB) (λb=>b=GB) w w'/\aj w' p:=by
 obtain⟨w',D,E,j⟩:=JC h.row h.gl hP.rd l y;have I:=hP.rd.len;have M:=h.gl;refine⟨w',D,h.abg j E cr ?_ λt ht=>?_,j,j.prev λb K=>by rw[K];exact h.lC.1⟩;unfold q8;rw[c9,c9,gI,kK,h.gv,bj,<-I];rcases bM.1 ht with ht|ht;rcases bM.1 ht with ht|ht;exact h.qd t (cE ht);exact hP.el t ht;exact h.qd t (dA ht)
end
end
section
variable{p u w w' w1:World}{GB c g i j k l n r:Nat}{m2:kE}{v':da}{nd:et}{jw tb:Bool->Tb}{J:L3}{C D:Option Addr}{O xs zs:List Int}{N:bm}{L:List (List Int)}{cap id kd lo z:Int}{s:jv}{F':Nat->Prop}{ss:List Sp}
variable{B:Nat}{m m':kE}{e e':si}{v:da}{t:Tb}{T:Bool->Int->Option (List Int)}{gs:List Tn}{X:Tn}{P:List TV}{x:TV}{b:Bool}
def ro(N:bm)(s:jv)(id:Int)(n i:Nat):List Bool:=(List.range n).map λq=>if q<i then oq N s id q else false
def Rn(N:bm)(s:jv)(id:Int)(n:Nat):ro N s id n 0=List.replicate n false:=by
 unfold ro;apply ye;simp;intro q y D;simp
def D8(h:oq N s id i=false):ro N s id n (i+1)=ro N s id n i:=by
 unfold ro;refine iA λq _=>?_;by_cases hq:q<i;rw[ah hq,ah om];by_cases y:q=i;subst y;rw[ah om,ag hq,h];rw[ag om,ag hq]
def Wb(h:oq N s id i=true):(ro N s id n i).set i true=ro N s id n (i+1):=by
 unfold ro;apply ye;simp;intro q D E;rw[tJ];simp only[List.getElem_map,List.getElem_range];by_cases hq:i=q;subst hq;rw[ah rfl,ah om,h];rw[ag hq];by_cases y:q<i;rw[ah y,ah om];rw[ag y,ag om]
def Zk(hi:i<n):(ro N s id n n)[i]?=some (oq N s id i):=by
 unfold ro;rw[bf,ih hi];simp[hi]
def Kf.Wc{F:Nat->Prop}(h:Kf F F' w w'){q:Addr}(hq:w.1.size<=q.block)(y:Value):Kf F F' w (w'.setCell q y):=
 ⟨h.base.setCell (p:=q) (aM _) y,by have:=h.size;simpa using this,λb hb D=>by
  rw[ba w' q y b om];exact h.keep b hb D,h.new⟩
def MS.aY(h:MS w B g r m v tb){q:Addr}(hq:¬m.U g r q.block)(y:Value):MS (w.setCell q y) B g r m v tb:=h.Bf λb hb=>ba w q y b λe=>hq (e▸hb)
def GW{j n:Nat}[aT p w]{id:Int}(hid:id=(j:Int))(sh:Hx (dZ p D n ss))(h:Hx (MS w p.1.size g r m v tb))(y:Hx (cV v tb T))(E:Hx (T true (j:Int)=some xs))(hs:Hx (m.cs[16]?=some (.slice D n c)))(F:Hx ((aS ss)[j]?=some zs))(hr:Hx (ap zs xs=true)):
  () 154 #[.pointer (some ⟨g,13,none⟩),id] w (dK w zs xs 0):=by
 subst hid;exact w7 sh h y E hs F hr
def xj0(h:Γ:=by simp[intOf];omega):=h
def Wd[pw:aT p w](hB:Hx (xH p J N L P x))(c:fQ N O L l P x)(hI:gU N O L l P x cap s e)(hS:ho p w J g r GB m e gs X)(hc:lG (dt N cap) s 6 id=0)(hn:N.nodes.length<=200)(qi:e.A.nx<=100000000000)(r9:e.A.mv<=100000000000):
  () 101 #[.pointer g,id] w (wy p J g r GB N O L l P x cap (g4 (dt N cap) s 6 id) e.A 1000):=by
 have CC:=@cQ;have CP:=@bW;obtain⟨nd,b⟩:=hI.UQ c hc;have HC:=ae c;have HI:=ae hI;have HS:=ae hS;have M:=ae b;obtain⟨k,WX⟩:=lh ((id-1).toNat);have hk:Hx (N.nodes[k]?=some nd):=ae (by rw[<-WX];exact b.hv);obtain rfl:id=(k:Int)+1:=by have:=b.i1;omega
 have pwp:aj w p:=⟨pw.st⟩;have a:aW p J.A J.n J.B J.m N:=hB.o.UW;have HM:Hx (J.m=N.nodes.length):=a.len;have GG:k<J.m:=by rw[HM.o];exact(a8.1 hk.o).1
 have hm:J.m<=1000:=by rw[HM.o];exact hB.o.small.1
 have hwj:IntKind.i64.wrap (k:Int)=(k:Int):=by rw[a7];omega
 have c1:Cl w g 1 (.slice J.B J.m J.d):=hS.ms.cl hS.cs.c1;have og:Old g w:=hS.ms.old;generalize J.B=Bz at a c1;obtain⟨b0,q0,o,A1,n1,F8,I,ni,ci,ins,P',np,cp,Q,rfl,ob,⟨v0,v1,v2,v3,v4,v5,v6,v7,v8,v9⟩,s1,si,sp,l1,li,lp,ik,oj⟩:=a.node GG;obtain rfl:nd=⟨o,ins,aS Q⟩:=cH (hk.o.symm.trans oj.o);have qm:ni<=1000:=by have:=hB.o.small.2 _ (aC hk.o);rw[si.len];exact this
 have CK:Hx (bS N ((k:Int)+1)=ins):=b.hi;have Zl:Hx (ni=ins):=si.len;have la:∀W,_:=λW=>nE ni om W;have vn:=ae qi;have vl:=ae r9;clear WX oj b c hI hS hc hm qi r9;go_in;go_upto_region 2 with fail;refine aE (λu0 Ff k0=>?_);obtain⟨D,hD⟩:=lg w.1.size;rw[<-hD]at k0⊢;have HD:=ae hD;have cd8:Cl u0 D 8 (I,ni,ci):=⟨k0.ak.cell 8⟩;have od:Old D u0:=⟨k0.ak.lt⟩;clear hD;obtain⟨We,Wf⟩:∃We:Array Value,We= #[.int .i64 o.kd,.int .i64 o.k,.int .i64 o.wd,.int .i64 o.st,.int .i64 o.sd,.int .i64 o.fr,.int .i64 o.tt,.slice A1 n1 F8,.slice I ni ci,.slice P' np cp]:=⟨_,rfl⟩;have acL:Hx (az u0 D 84 We):=ae (by rw[Wf];exact k0.ak);have aab:=ae Wf;clear Wf k0;go_wp2_with fail;obtain⟨F,hF⟩:=lg u0.1.size;obtain⟨W1,k5⟩:=lg (u0.alloc (.cells (eu (List.replicate ni false)) 4));have pW1:aj W1 u0:=by rw[k5];exact aF
 have acM:Hx (az W1 F 4 (eu (ro N s ((k:Int)+1) ni 0))):=ae (by rw[k5,hF,Rn];exact az.new _ _ _);rw[<-k5,<-hF];have HDW:Hx (w.1.size<=D):=ei HD.o.symm;have zm:Hx (w.1.size<=F):=ae (by rw[hF];exact ai);have GQ:Hx (∀q,w.1.size<=q->¬m.U g r q):=ae λq hq hx=>by have:=(HS.o.ms.lt q hx).2;omega
 have HDF:Hx (D≠F):=ae (by have:=od.lt;omega);obtain⟨ss,sh,Bk⟩:=hB.o.sh;have SH:=ae sh;have QG:=ae Bk;clear k5 hF la sh Bk;go_loopw [34] (λs34 wr=>∃(i:Nat) (m1:kE) (v1:da) (wz:Bool->Tb) (T1:Bool->Int->Option (List Int)),i<=ni/\s34=.int .i64 (i:Int)/\Hx (MS wr p.1.size g r m1 v1 wz)/\Hx (tn N L s e ((k:Int)+1) i v1 wz T1)/\Hx (d6 w wr g r m m1)/\Hx (¬m1.U g r F/\¬m1.U g r D)/\Hx (az wr D 84 We)/\Hx (az wr F 4 (eu (ro N s ((k:Int)+1) ni i)))/\Hx (v1.nx<=e.A.nx+i/\v1.mv<=e.A.mv+i)/\aj wr p) (λs34 _=>ni-(intOf s34).toNat);exact⟨0,m,e.A,e.tb,e.T,aM _,rfl,ae HS.o.ms.at,ae (tn.zero HI.o.mb HI.o.lp_),ae (d6.later g r m),ae ⟨GQ.o F zm.o,GQ.o D HDW.o⟩,ae acL.o.at,acM,ae ⟨al _,al _⟩,aF⟩;obtain⟨i,m1,v1,wz,T1,hi,rfl,R,qU,u6,JD,LR,Zm,GY,hp⟩:=hrel;by_cases bE:i<ni
 .obtain⟨bi,oi,z,rfl,obi,cz,hz⟩:=si.get bE;have HZ:Hx ((bS N ((k:Int)+1))[i]?=some z):=ae (by rw[CK.o];exact hz.o);have N4:=qU.o.has HI.o M.o HZ.o;(have i1:(i:Int)<(ni:Int):=by omega);have HTB:Hx (kq wr p.1.size g 13 m1.cs (m1.F true) (wz true)):=R.o.t true;rcases BL:oq N s ((k:Int)+1) i with _|_
  .have Zn:=ae BL;have hJ:=N4.2.1 BL;clear N4 BL;by_cases eZ:z=0
   .subst eZ;go_wp2_with fail;go_roundw;exact⟨i+1,m1,v1,wz,T1,om,by go_num,R,ae (qU.o.skip HZ.o Zn.o),u6,JD,LR,ae (by rw[D8 Zn.o];exact Zm.o),ae ⟨by have:=GY.o.1;omega,by have:=GY.o.2;omega⟩,hp⟩;exact xj0
   obtain⟨xs,Wg⟩:=hJ.resolve_left eZ;have HTH:Hx (iF (wz true) z=true):=qU.o.mb.has.2 ⟨xs,Wg⟩;(have hH:(z==0)=false:=by simp[eZ]);clear Wg eZ hJ;go_wp2_with (go_at_call 155;refine mv (M9 HTB.o HTH) λu1 _=>?_);go_roundw;exact⟨i+1,m1,v1,wz,T1,om,by go_num,ae (R.o.at (w':=u1)),ae (qU.o.skip HZ.o Zn.o),ae (u6.o.trans (d6.later g r m1 (w:=wr) (w':=u1))),JD,ae (LR.o.at (w':=u1)),ae (by rw[D8 Zn.o];exact Zm.o.at (w':=u1)),ae ⟨by have:=GY.o.1;omega,by have:=GY.o.2;omega⟩,aR p u1⟩;exact xj0
  have Mk:=ae BL;obtain⟨eZ,hTn⟩:=N4.1.1 BL;have HTN:=ae hTn;have t9:=M.o.Be z (aC hz.o);have HTH:Hx (iF (wz true) z=false):=ae (by
   rw[EH];intro hx;obtain⟨xs,Wg⟩:=qU.o.mb.has.1 hx;rw[hTn]at Wg;cases Wg)
  have hH:(z==0)=false:=by simp[eZ]
  obtain⟨jz,Wh⟩:∃jz:Nat,z=(jz:Int):=⟨z.toNat,om⟩;have VT:=ae Wh;have Pf:(ro N s ((k:Int)+1) ni i)[i]?=some false:=by unfold ro;rw[bf,ih bE];simp
  have HGI:=ae Pf;have PF:=HC.o.hN.right HC.o.hF t9.1 t9.2;have Zo:Hx (aA (L.getD z.toNat [])=true):=PF;obtain⟨w0,w1,w2⟩:=HC.o.word (cap:=cap) t9.1 t9.2;have uv:Hx (bz (L.getD z.toNat [])=((fD L z:Nat):Int)):=ae (by
   obtain⟨n9,g1,g2,g3⟩:=cP PF;have e2:bz (L.getD z.toNat [])=(n9:Int):=by rw[bz,ah PF,g1]
   rw[fD,e2];rfl)
  have HJJ:Hx ((aS ss)[jz]?=some (L.getD z.toNat [])):=ae (by
   have h9:jz<L:=by rw[HC.o.len];omega
   rw[QG.o,Wh,aZ,aQ,a5 h9];rfl)
  have abh:=qU.o.room HI.o M.o HZ.o BL;have VH:v1.lv+fD L z<=v1.cap:=om;have r8:Hx ((wz true).length<=200):=ae (aL (qU.o.mb.VN (b:=true) (n:=N.nodes.length) λy xs hy=>by
   rw[qU.o.tg]at hy
   split at hy
   .rename_i hm;rw[mW,CK.o]at hm;have h8:=M.o.Be y (cE hm.1);have h7:=hm.2.1;omega
   .exact HI.o.ids true y xs hy) hn)
  clear N4 BL hTn Wh Pf PF w0 abh eZ;go_upto_region 8 with(go_at_call 155;refine mv (M9 HTB.o HTH) λu1 _=>?_;have Zp:=Zm.o.at (w':=u1);have Pd:=Zp.frozen i;have hcF:=(Zp.cell i).trans (cj HGI.o);have acN:=ae Zp;clear Zp)
  obtain⟨W2,uA⟩:=lg (u1.setCell (F,i) (.bool true));have Jp:Hx (MS W2 p.1.size g r m1 v1 wz):=ae (by rw[uA];exact(R.o.at (w':=u1)).aY JD.o.1 _);have va:Hx (az W2 F 4 (eu (ro N s ((k:Int)+1) ni (i+1)))):=ae (by rw[uA,<-Wb Mk.o,<-mM];exact acN.o.av i _);have aac:Hx (az W2 D 84 We):=ae (by rw[uA];exact(LR.o.at (w':=u1)).aY HDF.o _);have l2:Hx (d6 w W2 g r m m1):=ae (by
   have h9:=u6.o.trans (d6.later g r m1 (w:=wr) (w':=u1));rw[uA];exact⟨h9.kf.Wc zm.o _,h9.sm⟩)
  have pW2:aj W2 p:=l2.o.prev HS.o.ms;have Wi:Hx (m1.cs[16]?=some (.slice J.SA J.ns J.sc)):=(HS.o.cs.same u6.o.sm).cS true;(have acO:v1.nx<=1000000000000:=by have:=GY.o.1;have:=vn.o;omega);(have acP:v1.mv<=1000000000000:=by have:=GY.o.2;have:=vl.o;omega);have abi:=r8.o;have acQ:Hx (T1 true (jz:Int)=none):=ae (by rw[<-VT.o];exact HTN.o);rw[<-uA];clear uA Pd hcF;go_wp2_with (go_at_call 150;refine(DZ (p:=p) (j:=jz) VT.o SH Jp (ae qU.o.mb) acQ Wi HJJ Zo uv w1 w2 VH acO acP abi).mono ?_;rintro e u3 ⟨rfl,m3,v3,tb3,VJ,Jq,HG3,acR,D9⟩);go_roundw;have GF:=Jq.o;rw[<-VT.o]at GF;have q1:=HG3.o;have Wj:=va.o.lt;have hD2:=aac.o.lt;have Wk:¬m3.U g r F:=λhx=>(D9.o.kf.new F hx).elim JD.o.1 λh9=>absurd Wj (hC.2 h9);have hnD:¬m3.U g r D:=λhx=>(D9.o.kf.new D hx).elim JD.o.2 λh9=>absurd hD2 (hC.2 h9);exact⟨i+1,m3,v3,tb3,_,om,by go_num,VJ,ae (qU.o.RK HZ.o Mk.o GF q1.lv q1.pe q1.cap),ae (l2.o.trans D9.o),ae ⟨Wk,hnD⟩,ae (D9.o.kf.ak aac.o JD.o.2),ae (D9.o.kf.ak va.o JD.o.1),ae ⟨by have:=GY.o.1;have:=q1.nx;omega,by have:=GY.o.2;have:=acR.o;omega⟩,D9.o.prev Jp.o⟩;exact xj0
 obtain rfl:i=ni:=om;obtain⟨UV,GZ⟩:=lh (cM (dU N P x) ins);have wv:Hx (cM (dU N P x) (⟨o,ins,aS Q⟩:et).ins=UV):=GZ;have hfw:=kQ HC.o.hN HC.o.hF;have xB:Hx ((dU N P x).getD 0 T0=x):=hfw.zero;have r8:Hx (L=N.nodes.length+1):=HC.o.hN.len;have acS:Hx (∀z∈(⟨o,ins,aS Q⟩:et).ins,UY L T1 (dU N P x) N.nodes.length z):=λz hz=>(M.o.ins z hz).imp (λh=>h) λ⟨a1,a2,a3⟩=>by obtain⟨b1,b2,_⟩:=HC.o.val a1 a2;exact⟨a1,a2,(qU.o.tf z).trans a3,b1,b2⟩
 have aad:=ae qU.o.mb;have JE:Hx (nK J r m1.cs):=HS.o.cs.same u6.o.sm;obtain⟨gv,B4⟩:=lh ((cD N O L l P x s.done.toNat).1.getD ((k:Int)+1).toNat T0);have HGV:=ae B4;have Ea:=M.o.Qi;rw[B4]at Ea;have acT:((k:Int)+1).toNat=k+1:=by omega
 rw[acT]at Ea;have HTG:Hx (T1 true ((k+1:Nat):Int)=some gv.2):=ae (by
  have e9:((k+1:Nat):Int)=(k:Int)+1:=by omega
  rw[e9,qU.o.tg,ag,M.o.tg,B4];rw[mW];intro hx;have:=hx.2.2;rw[M.o.gd]at this;cases this)
 have HGS:Hx ((aS ss)[k+1]?=some gv.1):=ae (by
  have h9:k+1<L.length:=by rw[HC.o.len];have:=M.o.i2;omega
  rw[QG.o,Ea.1,a5 h9,aQ,a5 h9];rfl)
 have HGR:Hx (ap gv.1 gv.2=true):=Ea.2.1;have JF:=ae Ea;have Wi:Hx (m1.cs[16]?=some (.slice J.SA J.ns J.sc)):=JE.o.cS true;have cw0:Cl wr g 0 (.slice J.A J.n J.c):=R.o.cl JE.o.c0;have cw2:Cl wr g 2 (.slice J.PA J.np J.cp):=R.o.cl JE.o.c2;have cw1:Cl wr g 1 (.slice J.B J.m J.d):=R.o.cl JE.o.c1;have adT:Cl wr g 18 (.slice GB J.np J.np):=R.o.cl ((u6.o.sm 18 am am am am).trans HS.o.gr);clear GZ hfw B4 Ea;go_upto_region 15 with(go_at_call 148;refine(Bj (p:=p) (vals:=dU N P x) hB R JE aad hk xB r8 acS wv).mono ?_;rintro e2 u2 ⟨A2,c2',us,rfl,TU,LU,Me,Mf,sO⟩);go_upto_region 16 with(go_at_call 154;refine(GW (p:=p) (j:=k+1) om SH (ae (R.o.at (w':=u2))) aad HTG Wi HGS HGR).mono ?_;rintro e3 u3 ⟨A3,PD,B3,d3,rfl,sA3,sX3,lA3,lX3,fA3,fX3,Vp⟩);refine aE (λu4 I5 k4=>?_);go_upto_region 18 with fail
 have aN:aW p J.A J.n J.B J.m N:=hB.o.UW;have CB:=@ay;have FB:=@aO;have kD:Bx wr D 84 #[o.kd,o.k,o.wd,o.st,o.sd,o.fr,o.tt,(A1,n1,F8),(I,i,ci),(P',np,cp)]:=⟨by rw[<-aab.o];exact LR.o⟩;obtain⟨ps,tps,CL,VE⟩:=hB.o.ps;have TP:Ts p J.PA J.np ps:=tps;have Ss:=ae VE;have Tt:=ae CL;have TZ:=ae hB.o.fits;have Ar:=ae hB.o.small;have hlB:=hB.o.lB;have hlP:=hB.o.lp;have FC:Hx (P=(bH N).length):=ae (by have:=cq List.length HC.o.hF.ps;simpa using this);have wq:Hx (dJ N k+(aS Q).length<=J.np):=ae (by
  have h9:J.np=(bH N).length:=by rw[<-FC.o,<-CL,bj];exact tps.len
  rw[h9,show(aS Q).length=(⟨o,ins,aS Q⟩:et).P.length from rfl,<-jf hk.o];unfold dJ bH;exact kR _ _)
 have YO:(aS Q).length<=1000000:=by have h8:=(TZ.o.2.2 _ (aC hk.o)).2.2.1;have h9:(aS Q).length<=100000:=h8;omega
 obtain⟨PV,CQ⟩:=lh (iy N P k ⟨o,ins,aS Q⟩);have Wl:=ae CQ;have HPX:Hx (((ps.map Tn.tv).drop (dJ N k)).take (aS Q).length=PV):=ae (by rw[Tt.o];exact CQ);obtain⟨vv,e1,e2,e3,e4,e5⟩:=HC.o.hN.at (id:=(k:Int)+1) (bn.2 ⟨M.o.i1,M.o.i2⟩);have evv:vv=⟨o,ins,aS Q⟩:=cH (e1.symm.trans M.o.hv);subst evv;have Hv:=tj.pick HC.o.hN HC.o.hF (kQ HC.o.hN HC.o.hF) (v:=⟨o,ins,aS Q⟩) λz hz=>(M.o.ins z hz).imp (λh=>h) λh=>HC.o.hN.mem.2 (bn.2 ⟨h.1,h.2.1⟩);have zR:=(HC.o.hF.par hk.o).1;rw[CQ]at zR;have Wm:=ae Hv.1;rw[wv.o]at Wm;have HE:Hx (dr o (PV.map (·.1)) (UV.map (·.1))=0):=ae (by rw[zR,Wm.o];exact e2);have HV:Hx (cJ o (PV.map (·.1)) (UV.map (·.1))=gv.1):=ae (by rw[zR,Wm.o,JF.o.1,<-show((k:Int)+1).toNat=k+1 from om];exact e3.symm);obtain⟨GP,Cw⟩:=lh (ql o PV UV gv.1 gv.2);obtain⟨GX,Cx⟩:=lh (jZ o PV UV gv.1 gv.2);have Wn:=ae Cw;have Lw:=ae Cx;have ig:cv gv.2:=⟨JF.o.2.2⟩;have qk:n1<=1000000:=by have h8:=(TZ.o.2.2 _ (aC hk.o)).2.1;have h9:o.S.length<=100000:=h8;rw[s1.len];omega
 have sW:UV.length<=1000000:=by rw[<-wv.o,cM,bj];show ins.length<=_;rw[<-Zl.o];omega
 clear tps CL VE CQ e1 e2 e3 e4 e5 Hv zR Cw Cx;go_cut [13,11] (λq9 e9 wx=>∃G A' n' c' B' m' d',q9=.pointer (some ⟨G,0,none⟩)/\e9=.int .i64 0/\u4.1.size<=G/\Bx wx G 151 #[.slice A' n' c',.slice B' m' d']/\eK wx u4.1.size A' n' c' GP/\eK wx u4.1.size B' m' d' GX/\aj wx u4);case first=>
  refine ab u4 ao (λux _=>?_)
  repeat' (first
   |(refine j8 0 ?_
     refine qL [0,1,2,3,4,5,6,7,8,9,10,11,12,14] ?_;refine jL 15 97 ?_)
   |(refine j8 17 ?_
     refine qL [17,18] ?_;refine jL 19 100 ?_)
   |(refine j8 22 ?_
     refine jL 22 11 ?_)
   |(intro (tg:Tg 13) K hK
     clear tg;go_simp
     refine(U3 hlB hlP YO Ss TZ Ar rfl hk wq HPX).mono ?_
     rintro e ux ⟨A5,c5,qs,rfl,TQ,LQ,GI,HQT,pq⟩;dsimp only;refine aG hK ?_;clear hK K)
   |(intro (tg:Tg 16) K hK
     clear tg;go_simp
     refine(D7 qk sW GI Me HQT Mf HE HV HGR Wn Lw).mono ?_
     rintro e ux ⟨A',n',c',B',m',d',rfl,r1,r2,_⟩;dsimp only;refine aG hK ?_;clear hK K)
   |(intro (tg:Tg 20) K hK
     clear tg;go_simp;refine aG hK ?_;refine bc (λux _ _=>?_))
   |(intro (tg:Tg 21) K hK
     clear tg;rename World=>wN;go_simp;refine qt hK (λ_=>?_) ⟨br (aP u4 wN) ai _ _⟩;clear hK K)
   |refine fg 13 ?_
   |refine fg 16 ?_
   |refine fg 21 ?_
   |refine fg 20 ?_
   |refine mf 13 20 ?_ ?_
   |refine mf 16 20 ?_ ?_
   |refine BU ?_)
  all_goals
   go_wp2_with fail;go_meet;refine⟨_,A',n',c',B',m',d',rfl,rfl,ai,⟨(Bx.ak (w:=wN)).bP _ _⟩,?_,?_,⟨br (aP u4 wN) ai _ _⟩⟩
   .first|exact(r1.bA Bx.ak.lt _ _).less ai|exact(r1.kF (al _) _ _).less ai
   first|exact(r2.bA Bx.ak.lt _ _).less ai|exact(r2.kF (al _) _ _).less ai
 obtain⟨G,A',n',c',B',m',d',rfl,rfl,hgG,kG,q1,q2,pwx⟩:=hcut;rename World=>wx;have N5:=HC.o.hF.par hk.o;rw[Wl.o]at N5;have N6:=(tj.pick HC.o.hN HC.o.hF (kQ HC.o.hN HC.o.hF) (v:=⟨o,ins,aS Q⟩) λz hz=>(M.o.ins z hz).imp (λh=>h) λh=>HC.o.hN.mem.2 (bn.2 ⟨h.1,h.2.1⟩)).2;rw[wv.o]at N6;have Fg:=NE HE.o N5.2 N6 HV.o (show TV.ok (gv.1,gv.2)from JF.o.2);rw[Wn.o]at Fg;have uC:=It HE.o N6 (HC.o.hF.k6 _ M.o.hm) HV.o (show TV.ok (gv.1,gv.2)from JF.o.2);rw[Lw.o]at uC;have N7:∀q,m1.U g r q->q<u4.1.size:=λq hq=>bu (R.o.lt q hq).2 ai;have N8:GB<u4.1.size:=bu HS.o.lC.2.1 (aL u6.o.kf.size ai);have Wo:p.1.size<=u4.1.size:=aL HS.o.lC.1 (fq N8);obtain⟨Zq,Qa,hmP,-⟩:=lJ.Wa (g:=g) (r:=r) (GB:=GB) (m:=m1) (q:=p.1.size) q1 Fg.2 N7 N8 Wo;obtain⟨JG,hoX,hmX,aae⟩:=lJ.Wa (g:=g) (r:=r) (GB:=GB) (m:=m1) (q:=p.1.size) q2 uC.2 N7 N8 Wo;have FR:n'=(aS Q).length:=by have e1:=cq List.length Fg.1;have e2:=cq List.length hmP;have e3:=cq List.length N5.1;simp only[bj]at e1 e2 e3;rw[Qa.rd.len,e2,e1,e3]
 have hm':i=m':=by have e1:=cq List.length uC.1;have e2:=cq List.length hmX;(have e3:UV.length=ins.length:=by rw[<-wv.o];simp[cM]);simp only[bj]at e1 e2;rw[hoX.rd.len,e2,e1,e3,Zl.o]
 subst hm';have HES:Hx (ho p wx J g r GB m1 {e with A:=v1,tb:=wz,T:=T1} gs X):=ae ((HS.o.step (T:=T1) R.o u6.o).at (w':=wx));obtain⟨f,hF⟩:=lh (dJ N k);have HF:=ae hF;have hfk:f+n'<=J.np:=by rw[FR,<-hF];exact wq.o
 obtain⟨A9,ko,Wp⟩:=GV GB (n:=J.np) (f:=f) om;have HA9:=ae Wp;have HFK:=ae hfk;have HOP:=ae Qa;have HOX:=ae hoX;have HMP:=ae hmP;have B6:=ae hmX;have Wq:=ae aae;have HGU:Hx (¬m1.U g r G):=ae λhx=>by have:=N7 G hx;omega
 have pL:Hx (G≠GB):=ae om;have HFG:Hx (F≠GB):=ae (by have:=HS.o.lC.2.1;have:=zm.o;omega);have HDG:Hx (D≠GB):=ae (by have:=HS.o.lC.2.1;have:=HDW.o;omega);have acU:Hx (oU N P (dU N P x) (cD N O L l P x s.done.toNat).1 ((k:Int)+1) ⟨o,ins,aS Q⟩=GX):=ae (by
  unfold oU;rw[show((k:Int)+1-1).toNat=k from om,Wl.o,wv.o,HGV.o];exact Lw.o)
 have acV:Hx (Az N P (dU N P x) (cD N O L l P x s.done.toNat).1 ((k:Int)+1) ⟨o,ins,aS Q⟩=GP):=ae (by
  unfold Az;rw[show((k:Int)+1-1).toNat=k from om,Wl.o,wv.o,HGV.o];exact Wn.o)
 clear N5 N6 Fg uC N7 N8 Wo Qa hoX hmP hmX aae hF hfk Wp q1 q2 FR hgG;go_upto_region 21 with fail;refine a6 p (λw9=>Cl w9 g 18 (.slice GB J.np J.np)/\Bx w9 G 151 #[.slice A' n' c',.slice B' i d']) ao ⟨aq,aq⟩ (λuz _=>?_);refine bT 0 ?_;refine bT 1 ?_;refine bT 2 ?_;refine bT 3 ?_;refine bT 4 ?_;refine bT 5 ?_;refine bT 6 ?_;refine bT 9 ?_;refine bT 10 ?_;refine aK 7 λK hK=>?_;go_simp;refine(QF hB (ae (HES.o.at (w':=uz)).ms) (ae HES.o.cs) hk HF).mono ?_;rintro e uz ⟨rfl,_⟩;dsimp only;refine aG hK ?_ ⟨aR p _,⟨aq,aq⟩⟩;refine bT 8 ?_;refine aK 11 λK hK=>?_;obtain⟨W6,pt,JH,JI,pw6⟩:=ho.copied (f:=f) (HES.o.at (w':=uz)) (HOP.o.at (w':=uz)) HFK.o HA9.o;obtain⟨G0,aaf⟩:=lh (gs.take f++Zq++gs.drop (f+n'));rw[aaf]at JH;have acW:Hx (ho p W6 J g r GB m1 ⟨v1,wz,T1,q8 e.G GP f,e.X,e.lo⟩ G0 X):=ae (by rw[<-HMP.o];exact JH);have cw6:Cl W6 g 18 (.slice GB J.np J.np):=JH.ms.cl JH.gr;have TR:Bx W6 G 151 #[.slice A' n' c',.slice B' i d']:=⟨JI.ak (Bx.ak (w:=uz)) pL.o⟩;have acX:Hx (lJ W6 p.1.size g r GB m1 B' i JG):=ae ((HOX.o.at (w':=uz)).V9 JI);have acY:Hx (az W6 F 4 (eu (ro N s ((k:Int)+1) i i))):=ae (JI.ak (Zm.o.at (w':=uz)) HFG.o);have acZ:Hx (az W6 G 151 #[.slice A' n' c',.slice B' i d']):=TR.ak;have cD6:Cl W6 D 8 (I,i,ci):=⟨by rw[(JI.ak (LR.o.at (w':=uz)) HDG.o).cell 8,aab.o];rfl⟩;refine d7 rfl _ _ 23 23 rfl _ _ rfl rfl (pt _ _)<|aG hK ?_ ⟨pw6,cw6,TR⟩;clear hK K pt JI JH aaf;refine a9 ?_;skip;clear ko;go_wp2_with fail;go_loopw [119] (λWr wr=>∃(q:Nat) (m2:kE) (v2:da) (xJ:Bool->Tb) (T2:Bool->Int->Option (List Int)) (X2:Tn),q<=i/\Wr=.int .i64 (q:Int)/\Hx (ho p wr J g r GB m2 ⟨v2,xJ,T2,q8 e.G GP f,X2.tv,e.lo⟩ G0 X2)/\Hx (wh N O L l P x s e ((k:Int)+1) ⟨o,ins,aS Q⟩ q v2 xJ T2 X2.tv)/\Hx (lJ wr p.1.size g r GB m2 B' i JG)/\Hx (az wr F 4 (eu (ro N s ((k:Int)+1) i i)))/\Hx (az wr G 151 #[.slice A' n' c',.slice B' i d'])/\Hx (¬m2.U g r F/\¬m2.U g r G)/\Hx (v2.nx<=e.A.nx+i/\v2.mv<=e.A.mv+i)/\aj wr p) (λWr _=>i-(intOf Wr).toNat);have pu:=qU.o;have hx9:=HS.o.xv;refine⟨0,m1,v1,wz,T1,X,aM _,rfl,ae (by rw[hx9];exact acW.o),ae ?_,acX,acY,acZ,ae ⟨JD.o.1,HGU.o⟩,GY,aq⟩;rw[hx9];exact wh.start HC.o HI.o M.o (by rw[<-show i=ins from Zl.o];exact pu);obtain⟨q,m2,v2,xJ,T2,⟨Zr,xc2,vc,Zs,xd2,Y⟩,hq,rfl,E,G1,N9,va,Eb,ll,BM,sZ⟩:=hrel;by_cases bE:q<i
 .obtain⟨bi,oi,z,rfl,obi,cz,hz⟩:=si.get bE;obtain⟨t,ht,te,tok,tl⟩:=M.o.get hz.o;(have htX:GX[q]?=some t:=by rw[<-acU.o];exact ht);have Ws:Ts wr B' i JG:=N9.o.rd;obtain⟨b2,o2,A3,n3,c3,z3,B3,k3,d3,x3,rfl,jU,e0,e1,s3,y3,l3,l3',i3,h4,h6,hr3,uO⟩:=Ws.wU Wq bE;(have htt:t=(z3,x3):=by have h9:=uO.o;rw[B6.o,aQ,htX]at h9;exact h9);subst htt;obtain⟨fb,BL⟩:=lh (oq N s ((k:Int)+1) q);have hcF:wr.cell? (F,q)=some (.bool fb):=(va.o.cell q).trans (cj (by rw[<-BL];exact Zk bE));have Ta:Bx wr G 151 #[.slice A' n' c',.slice (some ⟨b2,o2,none⟩) i d']:=⟨Eb.o⟩;have HFB:=ae BL;have HZ:=hz;have HTT:=ae ht;have Sh:=ae te;have pQ:=ae tok;have xq:=ae tl;(have i1:(q:Int)<(i:Int):=by omega);clear BL ht te tok tl htX Ws uO hz;by_cases hJ:z=0
  .subst hJ;have g0:=((M.o.at (i:=q)).2.1 0 (eI _) (Int.natCast_nonneg _));have g1:=G1.o.X;have g2:(vc,Y)=T0\/((vc,Y):TV).1=L.getD (0:Int).toNat []/\TV.ok (vc,Y):=by have g3:(vc,Y)=(j4 N O L l P x s.done.toNat ((k:Int)+1) ⟨o,ins,aS Q⟩ q).getD 0 T0:=g1;rw[g3];exact g0
   have hV:=AB g2 Sh.o pQ.o;obtain⟨V,xK⟩:=lh (iz (vc,Y) (z3,x3));rw[xK]at hV;have s7:=ae xK;have HVO:=ae hV;have BO:Hx (Y=[]\/cR vc Y z3 x3=true):=ae (by
    rcases g2 with g2|g2
    .exact .inl (cq Prod.snd g2)
    .refine .inr ?_;have e1:vc=z3:=g2.1.trans Sh.o.symm;unfold cR;rw[g2.2.1,pQ.o.1,e1];simp)
   have Cs:Y.length<=1000000:=by rcases g2 with g2|g2;have:Y=[]:=cq Prod.snd g2;rw[this];simp;have h9:Y.length<=65536:=(fu g2.2.1).1;omega
   have w1:Sl wr Zr vc vc:=⟨E.o.ou.te.1,rfl⟩;have w2:Sl wr Zs Y Y:=⟨E.o.ou.te.2.1,rfl⟩;have w3:cv Y:=⟨E.o.ou.te.2.2.2⟩;clear g0 g1 g2 hV xK;go_upto_region 25 with fail;refine wp_region_still_tail 11 ao ao ?_;change wpStill _ _ (wr).drew _ _ _;simp only[fX,dW,iB,fo];(repeat still_step);refine gG ?_;go_wp2_with (go_at_call 157;refine(Q0 (p:=p) (x:=(vc,Y)) (ae E.o.ms.at) (ae E.o.x0) (ae E.o.x1) Cs om om BO s7).mono ?_;rintro e9 u9 ⟨rfl,A5,c5,B5,d5,vo,s5,y5,f5,Zt,l5,uh⟩);go_roundw;have hn9:=HVO.o.2;refine⟨q+1,_,v2,xJ,T2,⟨A5,c5,V.1,B5,d5,V.2⟩,om,by go_num,ae ((E.o.at (w':=wr.drew)).dV (X':=⟨A5,c5,V.1,B5,d5,V.2⟩) vo.o uh.o (TE.of s5 y5 l5 hn9.2) (gh s5 (fM hn9.right)) (gh y5 hn9.ne) f5 Zt),ae ?_,ae ((N9.o.at (w':=wr.drew)).step uh.o),ae (uh.o.ak (va.o.at (w':=wr.drew)) ll.o.1),ae (uh.o.ak (Eb.o.at (w':=wr.drew)) ll.o.2),ll,BM,uh.o.prev λb hb=>(E.o.ms.lt b hb).1⟩;have h9:=G1.o.zero M.o HZ.o HTT.o;have h8:(⟨A5,c5,V.1,B5,d5,V.2⟩:Tn).tv=iz (vc,Y) (z3,x3):=s7.o.symm;rw[h8];exact h9;exact xj0
  obtain⟨⟨j1,j2,hy,hn⟩,Mr⟩:=G1.o.node HC.o HI.o M.o HZ.o hJ HTT.o;rw[HFB.o]at hy hn Mr;have aag:=ae Mr;clear Mr;cases fb;(case true=>have HY:=ae (hy rfl);have r8:Hx (x3.length=(List.replicate (fD L z) (0:Int)).length):=ae (by rw[eY];exact xq.o);clear hy hn;go_upto_region 25 with fail;refine wp_region_still_tail 11 ao ao ?_;change wpStill _ _ (wr).drew _ _ _;simp only[fX,dW,iB,fo];(repeat still_step);refine gG ?_;go_wp2_with (go_at_call 157;refine(Q5 (p:=p) (ae E.o.ms.at) (ae G1.o.mb) hJ HY r8).mono ?_;rintro e9 u9 ⟨rfl,m5,v5,vo,Wu,sb,Z⟩);go_roundw;have e9:=E.o.at (w':=wr.drew);have Wj:=(va.o.at (w':=wr.drew)).lt;have hG2:=(Eb.o.at (w':=wr.drew)).lt;have Wk:¬m5.U g r F:=λhx=>(Z.o.kf.new F hx).elim ll.o.1 λh9=>absurd Wj (hC.2 h9);have hnG:¬m5.U g r G:=λhx=>(Z.o.kf.new G hx).elim ll.o.2 λh9=>absurd hG2 (hC.2 h9);exact⟨q+1,m5,v5,xJ,_,⟨Zr,xc2,vc,Zs,xd2,Y⟩,om,by go_num,ae (e9.step vo.o Z.o),ae (aag.o v5 xJ x3 rfl Wu.o sb.o.1 sb.o.2.1 sb.o.2.2.1),ae ((N9.o.at (w':=wr.drew)).step Z.o.kf),ae (Z.o.kf.ak (va.o.at (w':=wr.drew)) ll.o.1),ae (Z.o.kf.ak (Eb.o.at (w':=wr.drew)) ll.o.2),ae ⟨Wk,hnG⟩,ae ⟨by rw[sb.o.2.2.2.1];exact BM.o.1,by rw[sb.o.2.2.2.2];exact BM.o.2⟩,Z.o.prev e9.ms⟩;exact xj0);case false=>
   obtain⟨gg,qp,CJ,vE,uO,YH⟩:=hn rfl;obtain⟨jz,Wh⟩:∃jz:Nat,z=(jz:Int):=⟨z.toNat,om⟩;subst Wh;rw[aZ]at CJ;have HY:=ae uO;have UJ:Hx (L[jz]?=some gg.1):=ae (by
    have h9:jz<L:=by rw[HC.o.len];omega
    rw[CJ,aQ,a5 h9];rfl)
   have ac0:Hx (ap gg.1 gg.2=true):=vE.1;have i6g:cv gg.2:=⟨vE.2⟩;have hze:z3=gg.1:=by rw[CJ];exact Sh.o
   have hjp:0<jz:=om;have BO:Hx (gg.2=[]\/cR gg.1 gg.2 gg.1 x3=true):=(.inr (by
    unfold cR;have:=pQ.o.1;rw[hze]at this;rw[vE.1,this];simp))
   have JJ:iz (gg.1,gg.2) (gg.1,x3)=(gg.1,gg.2.zipWith bQ x3):=by unfold iz;rw[ag vE.ne]
   have s7:=ae JJ;have r8:Hx ((gg.1,gg.2.zipWith bQ x3).2.length=gg.2):=ae (by
    have:=xq.o
    show(gg.2.zipWith bQ x3).length=_
    rw[yi,YH];have h9:x3=fD L (jz:Int):=xq.o;omega)
   have ac1:Hx (((j4 N O L l P x s.done.toNat ((k:Int)+1) ⟨o,ins,aS Q⟩ q).getD jz T0).2=gg.2):=ae (by rw[aZ]at qp;rw[qp]);subst hze;clear hy hn qp CJ vE uO YH JJ;go_upto_region 25 with fail;refine wp_region_still_tail 11 ao ao ?_;change wpStill _ _ (wr).drew _ _ _;simp only[fX,dW,iB,fo];(repeat still_step);refine gG ?_;go_wp2_with (go_at_call 157;refine(Q6 (p:=p) hB (ae E.o.cs) (ae E.o.ms.at) (ae G1.o.mb) hjp HY UJ ac0 om om BO s7 r8).mono ?_;rintro e9 u9 ⟨rfl,m5,v5,vo,Wu,sb,Z⟩);go_roundw;have e9:=E.o.at (w':=wr.drew);have Wj:=(va.o.at (w':=wr.drew)).lt;have hG2:=(Eb.o.at (w':=wr.drew)).lt;have Wk:¬m5.U g r F:=λhx=>(Z.o.kf.new F hx).elim ll.o.1 λh9=>absurd Wj (hC.2 h9);have hnG:¬m5.U g r G:=λhx=>(Z.o.kf.new G hx).elim ll.o.2 λh9=>absurd hG2 (hC.2 h9);exact⟨q+1,m5,v5,xJ,_,⟨Zr,xc2,vc,Zs,xd2,Y⟩,om,by go_num,ae (e9.step vo.o Z.o),ae (aag.o v5 xJ _ (by rw[aZ,ac1.o];rfl) Wu.o sb.o.1 sb.o.2.1 sb.o.2.2.1),ae ((N9.o.at (w':=wr.drew)).step Z.o.kf),ae (Z.o.kf.ak (va.o.at (w':=wr.drew)) ll.o.1),ae (Z.o.kf.ak (Eb.o.at (w':=wr.drew)) ll.o.2),ae ⟨Wk,hnG⟩,ae ⟨by rw[sb.o.2.2.2.1];exact BM.o.1,by rw[sb.o.2.2.2.2];exact BM.o.2⟩,Z.o.prev e9.ms⟩;exact xj0
 obtain rfl:q=i:=om;have hP9:=G1.o;rw[show q=(⟨o,ins,aS Q⟩:et).ins.length from Zl.o]at hP9;obtain⟨⟨gg,CJ,vE⟩,Wv⟩:=wh.done HC.o HI.o M.o hP9;have Uk:=ae Wv;have m7:=ae vE;have Gl:() 98 #[.pointer (some ⟨g,13,none⟩),.int .i64 ((k:Int)+1)] wr _:=IZ (p:=p) (s:=true) (ae E.o.ms) (ae G1.o.mb) (ae CJ);clear Wv CJ vE hP9;go_wp2_with (go_at_call 98;refine Gl.mono ?_;rintro e9 u9 ⟨rfl,m5,v5,tb5,vo,Wu,sb,Z⟩);go_ret;obtain⟨f1,f2,f3,f4,f5⟩:=sb.o;have hd:=Uk.o v5 tb5 Wu.o (by rw[<-m7.o];exact f1) f2 f3;rw[acV.o,show((k:Int)+1-1).toNat=k from om,HF.o]at hd;exact⟨rfl,m5,_,G0,⟨Zr,xc2,vc,Zs,xd2,Y⟩,ae (E.o.step vo.o Z.o),ae hd,ae ⟨by show v5.nx<=_;have:=BM.o.1;omega,by show v5.mv<=_;have:=BM.o.2;omega⟩,Z.o.prev E.o.ms⟩
end
end Go.Proofs.YtmkjnlifimffkaaGreat
