/- Lemmas. No condition. -/
import Derived.Test.YtmkjnlifimffkaaGreatS23
namespace Go.Proofs.YtmkjnlifimffkaaGreat
open Go.RowKit
set_option linter.all false
set_option maxRecDepth 100000
set_option maxHeartbeats 16000000
section
variable{w w':World}{A B:Option Addr}{n m c d:Nat}{N:aI}
theorem rH.far{w:World}{B g:Nat}{US:List Ur}(h:rH w B g US){p:Addr}(hp:p.block≠g)(j:p.block<B)(v:Value):rH (w.setCell p v) B g US:=
 ⟨h.blk.far (fun e=>hp e.symm) v,fun x b=>(h.own x b).mV (fun ad e=>by have:=(h.own x b).fresh ad e;omega) v,h.mU⟩
def aI.small(N:aI):Prop:=N.nodes.length<=1000/\∀v∈N.nodes,v.ins.length<=1000
theorem Tf(h:N.small)(i:Nat):(iT N i).length<=1000:=by
 unfold iT;rcases hv:N.nodes[i]? with _|v
 ·simp
 ·exact h.2 v (aK hv)
theorem aaG(h:N.small)(i j z:Nat):(uT N i j z).length<=i*1000+1000:=by
 unfold uT
 split
 ·simp
 ·have l:((iT N i).take j).count (z:Int)<=1000:=aZ List.count_le_length (by have:=Tf h i;simp;omega);have b:∀k,((List.range k).flatMap fun(q:Nat)=>List.replicate ((iT N q).count (z:Int)) ((q:Int)+1)).length<=k*1000:=fun k=>by
   induction k with
   |zero=>simp
   |succ k e=>
    rw[vM,Bq,cu];have:(iT N k).count (z:Int)<=1000:=aZ List.count_le_length (Tf h k);simp at e⊢;omega
  have:=b i;rw[cu,lF];omega
theorem al1(k:Nat)(j:k<=1000000)(W:World):(Instr.makeSlice 105 (.int .i64 (k:Int)) (.int .i64 (k:Int))).run Tryz.prog W=.ok (.slice W.heap.size k k) (W.alloc (.cells (ve (List.replicate k zt)) 24)):=by
 obtain⟨i,hi,b⟩:=bN.1 (show(Tryz.prog.info? 24).map (fun i=>(i.zero,i.size,i.bytes))=some (some (.slice none 0 0),1,24)from by kernel_rfl);simp only[jZ]at b;obtain⟨e,hs,hb⟩:=b;have:=zT (P:=Tryz.prog) W 105 24 i _ Tryz.underlying105 hi e .i64 .i64 k k om (jg _) (by rw[hs];simp;omega) (by rw[hb];simp;omega);rw[hs]at this;rw[<-alT];simpa[Value.cells]using this om
theorem Gl(k:Nat)(j:k<=1000000)(W:World):(Instr.makeSlice 24 (.int .i64 (k:Int)) (.int .i64 (k:Int))).run Tryz.prog W=.ok (.slice W.heap.size k k) (W.alloc (.cells (ints (List.replicate k 0)) 3)):=by
 obtain⟨i,hi,b⟩:=bN.1 (show(Tryz.prog.info? 3).map (fun i=>(i.zero,i.size,i.bytes))=some (some (.int .i64 0),1,8)from by kernel_rfl);simp only[jZ]at b;obtain⟨e,hs,hb⟩:=b;have:=zT (P:=Tryz.prog) W 24 3 i _ Tryz.underlying24 hi e .i64 .i64 k k om (jg _) (by rw[hs];simp;omega) (by rw[hb];simp;omega);rw[hs]at this;rw[<-EW];simpa[Value.cells]using this om
def vg(zs:List (List Int))(US:List Ur):Prop:=US.map Ur.zs=zs
theorem vg.len{i j:Nat}{US:List Ur}(h:vg (kI N i j) US):US.length=N.nodes.length+1:=by
 have:=eD List.length h;simpa[kI]using this
theorem vg.get{i j z:Nat}{US:List Ur}(h:vg (kI N i j) US)(b:z<N.nodes.length+1):∃x,US[z]?=some x/\x.zs=uT N i j z:=by
 have e:=h.len;refine⟨US[z]'om,aW _,?_⟩;have:=eD (·[z]?) h;simp only[dE,kI,xc b]at this;rw[aW om]at this;simpa using this
theorem vg.step{i j z:Nat}{US:List Ur}{A:Option Addr}{c:Nat}{zs:List Int}(h:vg (kI N i j) US)(b:z≠0)(l:(iT N i)[j]?=some (z:Int))(e:zs=uT N i j z++[(i:Int)+1]):vg (kI N i (j+1)) (US.set z ⟨A,c,zs⟩):=by
 unfold vg at h⊢;rw[Bw,h,alY b l,e]
def qf(N:aI)(D U:List Int):List Int:=(0:Int)::N.ids.map fun v=>((jk N D U v:Nat):Int)
theorem Tg{j:Nat}(h:j<N.nodes.length):N.ids[j]?=some ((j:Int)+1):=by
 rw[aI.ids,dE,xc h];rfl
theorem al2:wT N N.nodes.length 0=qf N [] []:=by
 unfold wT qf aI.ids;rw[Fh];congr 1;refine oZ fun q hq=>?_;rw[yF]at hq;rw[if_pos hq];simp only[Function.comp,jk,mR,bG,iT,LK,LP];rw[show((q:Int)+1-1).toNat=q from om];simp
theorem aaH{id:Nat}(h:id≠0):uT N N.nodes.length 0 id=uZ N id:=by
 unfold uT uZ aI.ids;rw[if_neg h,List.flatMap_map];simp only[jr,LK,List.replicate_zero,oV];unfold Gj bG iT;congr 1
 funext q
 rw[show((q:Int)+1-1).toNat=q from om]
theorem Gm{D U:List Int}{q:Nat}(b:1<=q)(h:q<=N.nodes.length):(qf N D U)[q]?=some ((jk N D U (q:Int):Nat):Int):=by
 obtain⟨j,rfl⟩:∃j,q=j+1:=⟨q-1,om⟩;rw[qf,CY,dE,Tg om];rfl
theorem al3{D U:List Int}{q:Nat}(l:1<=q)(h:q<=N.nodes.length)(b:U.count (q:Int)<mR N D q):(qf N D U).set q (((jk N D U (q:Int):Nat):Int)-1)=qf N D (U++[(q:Int)]):=by
 have hm:1<=jk N D U (q:Int):=by unfold jk;omega
 obtain⟨j,rfl⟩:∃j,q=j+1:=⟨q-1,om⟩;apply pE;intro i;have r:(qf N D U).length=N.nodes.length+1:=by simp[qf,aI.ids]
 have u:(qf N D (U++[((j+1:Nat):Int)])).length=N.nodes.length+1:=by simp[qf,aI.ids]
 rw[nQ,r];by_cases e:j+1=i
 ·subst e;rw[if_pos rfl,if_pos om,Gm l h,Jv b,if_pos rfl];congr 1;omega
 ·rw[if_neg e];rcases i with _|i
  ·rfl
  ·by_cases hi:i+1<=N.nodes.length
   ·rw[Gm om hi,Gm om hi,Jv b,if_neg om]
   ·rw[mE om,mE om]
theorem al4{j:Nat}{p:Int->Bool}(h:j<N.nodes.length):(N.ids.take (j+1)).filter p=(N.ids.take j).filter p++if p ((j:Int)+1)then[(j:Int)+1]else[]:=by
 rw[take_at (Tg h),Lx];congr 1;rw[List.filter_cons,List.filter_nil]
theorem aaI{f:Nat}{D:List Int}(h:qL N D=[]):tT N f D=D:=by
 cases f with
 |zero=>rfl
 |succ f=>rw[tT,h]
def slN:Value->Nat
 |.slice _ n _=>n
 |_=>0
structure ll(N:aI)(D:List Int):Prop where
 nd:D.Nodup
 ids:∀v∈D,v∈N.ids
 dep:∀v∈D,mR N D v=0
theorem ll.nil:ll N []:=⟨vN,au,au⟩
theorem Eh{D t:List Int}{id:Int}(h:qL N D=id::t):id∈N.ids/\id∉D/\mR N D id=0:=by
 have:=Da.1 (show id∈N.ids.filter (zo N D)from by rw[show N.ids.filter (zo N D)=id::t from h];exact dN);refine⟨this.1,?_⟩;have b:=this.2;unfold zo at b;simpa using b
theorem ll.aaK{D t:List Int}{id v:Int}(h:ll N D)(hr:qL N D=id::t)(hv:v∈D++[id]):mR N D v=0:=by
 rcases dP.1 hv with hv|hv
 ·exact h.dep v hv
 ·rw[gm.1 hv];exact(Eh hr).2.2
theorem ll.step{D t:List Int}{id:Int}(h:ll N D)(hr:qL N D=id::t):ll N (D++[id]):=by
 obtain⟨j,l,u⟩:=Eh hr;refine⟨?_,fun v hv=>?_,fun v hv=>?_⟩
 ·rw[Bv];exact⟨h.nd,au,fun a r b hb e=>l (by rw[gm.1 hb]at e;exact e▸r)⟩
 ·rcases dP.1 hv with hv|hv
  ·exact h.ids v hv
  ·rw[gm.1 hv];exact j
 ·have:=h.aaK hr hv;have:=Ta (N:=N) (v:=v) (D:=D) (id:=id) (by have:=dR.1 j;omega) l;omega
theorem ll.len{D:List Int}(h:ll N D):D.length<=N.nodes.length:=by
 have:=S9 h.nd h.ids;rwa[Eg]at this
theorem ll.user{D t:List Int}{id y:Int}{j:Nat}(h:ll N D)(hr:qL N D=id::t)(e:(uZ N id)[j]?=some y):y∈N.ids/\((uZ N id).take j).count y<mR N D y/\y∉D++[id]:=by
 obtain⟨r,u,C⟩:=Eh hr;have hm:=alM (aK e);have z:((uZ N id).take j).count y<mR N D y:=by
  have l:((uZ N id).take (j+1)).count y<=(uZ N id).count y:=(List.take_sublist _ _).count_le _;rw[take_at e,Hu,aaB hm.1]at l;have:=Ta (N:=N) (v:=y) (D:=D) (id:=id) (by have:=dR.1 r;omega) u;simp at l;omega
 exact⟨hm.1,z,fun b=>by have:=h.aaK hr b;omega⟩
theorem al5{D t:List Int}{id:Int}(hr:qL N D=id::t):qf N D (uZ N id)=qf N (D++[id]) []:=by
 obtain⟨b,e,j⟩:=Eh hr;unfold qf;congr 1;refine oZ fun v hv=>?_;rw[aaC (by have:=dR.1 b;omega) e hv];rfl
theorem aaL{f:Nat}{D t:List Int}{v:Int}(h:qL N D=v::t):tT N (f+1) D=tT N f (D++[v]):=by rw[tT,h]
theorem al6{D U:List Int}{id:Int}:(nK N D id U).length<=N.nodes.length:=by
 rw[<-Eg];exact List.length_filter_le _ _
structure qM(w p:World)(g:Nat)(wr:World)(A:Option Addr)(c:Nat)(L:List Int)(O:Option Addr)(co:Nat)(D wl:List Int):Prop where
 old:w.heap.size<=g
 gp:g<p.heap.size
 aside:Aside g p wr
 wait:Own wr g 3 wl
 qg:aG wr p.heap.size 3 A c L
 ord:aG wr p.heap.size 3 O co D
 mU:∀a b,A=some a->O=some b->a.block≠b.block
 prev:ak wr w
section
variable{p wr:World}{g co c':Nat}{O A':Option Addr}{L L' D wl:List Int}
theorem qM.aaM(h:qM w p g wr A c L O co D wl)(z:aG w' p.heap.size 3 A' c' L')(j:bS A A' wr w'):qM w p g w' A' c' L' O co D wl where
 old:=h.old
 gp:=h.gp
 aside:=⟨aZ h.aside.size j.size,fun k y l=>(j.off k (bV y h.aside.size) (fun ad e=>by have:=h.qg.fresh ad e;omega)).trans (h.aside.same k y l)⟩
 wait:=j.own h.wait (fun ad e=>by have:=h.qg.fresh ad e;have:=h.gp;omega)
 qg:=z
 ord:=h.ord.iq j (fun a a' r u=>h.mU a' a u r)
 mU a b r eb:=by
  rcases j.new a r with⟨a0,C,E⟩|F
  ·rw[E];exact h.mU a0 b C eb
  ·have:=h.ord.lt b eb;omega
 prev:=⟨h.prev.st.trans (j.below (fun ad e=>by have:=h.qg.fresh ad e;have:=h.gp;have:=h.old;omega) h.prev.st.size)⟩
theorem qM.al7(h:qM w p g wr A c L O co D wl)(z:aG w' p.heap.size 3 A' c' L')(j:bS O A' wr w'):qM w p g w' A c L A' c' L' wl where
 old:=h.old
 gp:=h.gp
 aside:=⟨aZ h.aside.size j.size,fun k y r=>(j.off k (bV y h.aside.size) (fun ad e=>by have:=h.ord.fresh ad e;omega)).trans (h.aside.same k y r)⟩
 wait:=j.own h.wait (fun ad e=>by have:=h.ord.fresh ad e;have:=h.gp;omega)
 qg:=h.qg.iq j (fun a a' l u=>(h.mU a a' l u).symm)
 ord:=z
 mU a b l eb:=by
  rcases j.new b eb with⟨a0,C,E⟩|F
  ·rw[E];exact h.mU a a0 l C
  ·have:=h.qg.lt a l;omega
 prev:=⟨h.prev.st.trans (j.below (fun ad e=>by have:=h.ord.fresh ad e;have:=h.gp;have:=h.old;omega) h.prev.st.size)⟩
theorem qM.aF(h:qM w p g wr A c L O co D wl)(i:Nat)(z:Int):qM w p g (wr.setCell ⟨g,i,none⟩ (.int .i64 z)) A c L O co D (wl.set i z) where
 old:=h.old
 gp:=h.gp
 aside:=h.aside.aF i _
 wait:=h.wait.aF i z
 qg:=h.qg.mV (fun ad e=>by have:=h.qg.fresh ad e;have:=h.gp;simp;omega) _
 ord:=h.ord.mV (fun ad e=>by have:=h.ord.fresh ad e;have:=h.gp;simp;omega) _
 mU:=h.mU
 prev:=⟨h.prev.st.setCell (p:=⟨g,i,none⟩) h.old _⟩
theorem qM.at(h:qM w p g wr A c L O co D wl)[l:Later wr w']:qM w p g w' A c L O co D wl:=
 ⟨h.old,h.gp,h.aside.below l.st,h.wait.at,h.qg.at,h.ord.at,h.mU,⟨dS h.prev.st l.st⟩⟩
end
theorem al8{w:World}{B c:Nat}{A:Option Addr}{v:Int}{t:List Int}(h:aG w B 3 A c (v::t)):
  Calls Tryz.prog 187 #[.slice A (t.length+1) c,(0:Int),(1:Int)] w fun e w'=>e=.returned (.slice A t.length c)/\aG w' B 3 A c t/\bS A A w w':=
 agQ h (i:=0) (j:=1) rfl rfl om au au
theorem al9[a:aX w A n B m N](hf:Hid N.fits)(hr:Hid N.iR)(hs:Hid N.small):Calls Tryz.prog 121 #[.agg #[.slice A n c,.slice B m d]] w (Iu w (iB N)):=by
 obtain⟨CB,CP,FB⟩:=iK;have E:Hid (m=N.nodes.length):=ae a.len;have hm:m<=100000:=by rw[E.out];exact hf.out.1
 have hmk:∀W:World,(Instr.makeSlice 24 (.int .i64 ((m:Int)+1)) (.int .i64 ((m:Int)+1))).run Tryz.prog W=.ok (.slice (some ⟨W.heap.size,0,none⟩) (m+1) (m+1)) (W.alloc (.cells (ints (List.replicate (m+1) 0)) 3)):=fun W=>by
  have h:=Gl (m+1) om W;rwa[mF]at h
 have hmr:∀W:World,(Instr.makeSlice 105 (.int .i64 ((m:Int)+1)) (.int .i64 ((m:Int)+1))).run Tryz.prog W=.ok (.slice (some ⟨W.heap.size,0,none⟩) (m+1) (m+1)) (W.alloc (.cells (ve (List.replicate (m+1) zt)) 24)):=fun W=>by
  have h:=al1 (m+1) om W;rwa[mF]at h
 go_enter Tryz.func121,Tryz.ntmps121
 go_wp2_with fail
 obtain⟨v,hv⟩:=lg (((w.alloc (.cells #[.slice A n c,.slice B m d] 33)).alloc (.cells (ints (List.replicate (m+1) 0)) 3)).alloc (.cells (ve (List.replicate (m+1) zt)) 24));have pv:ak v w:=hv▸ai _ _;have kN:Bx v w.heap.size 33 #[.slice A n c,.slice B m d]:=hv▸iin;have F:Own v (w.heap.size+1) 3 (wT N 0 0):=by rw[alU,<-E.out,hv];exact(iin:Bx _ (w.heap.size+1) _ _).blk
 have G:rH v (w.heap.size+3) (w.heap.size+1+1) (List.replicate (m+1) zt):=rH.new (by rw[hv];exact(iin:Bx _ (w.heap.size+1+1) _ _).blk);have hz0:vg (kI N 0 0) (List.replicate (m+1) zt):=by rw[vg,alV,<-E.out];simp[zt]
 have hvs:v.heap.size=w.heap.size+3:=by rw[hv];simp
 rw[<-hv];have HZ0:=ae hz0;clear hmk hmr hv hz0;go_loopw [30] (fun i wr=>∃(k:Nat) (US:List Ur),k<=m/\i=.int .i64 k/\Own wr (w.heap.size+1) 3 (wT N k 0)/\rH wr (w.heap.size+3) (w.heap.size+1+1) US/\Hid (vg (kI N k 0) US)/\ak wr w/\Bx wr w.heap.size 33 #[.slice A n c,.slice B m d]) (fun i _=>m-(intOf i).toNat)
 case atStart=>exact⟨0,_,aS _,rfl,F,G,HZ0,pv,kN⟩
 case round=>
  clear F G HZ0 kN pv hvs;obtain⟨k,US,hk,rfl,F,G,K,hp,kN⟩:=hrel;by_cases S:k<m
  ·obtain⟨b0,q0,o,A1,n1,c1,I,ni,ci,ins,P,np,cp,ps,rfl,ob,⟨v0,v1,v2,v3,v4,v5,v6,v7,v8,v9⟩,s1,si,sp,l1,li,lp,ik,hnd⟩:=a.node S;have hni:ni<=100000:=by have:=(hf.out.2.2 _ (aK hnd.out)).1;rw[si.len];exact this
   have HI:Hid (ni=ins.length):=ae si.len;have HA:Hid (iT N k=ins):=ae (by rw[iT,hnd.out];rfl)
   go_wp2_with fail
   obtain⟨x,hx⟩:=lg (wr.alloc (.cells #[o.kd,o.k,o.wd,o.st,o.sd,o.fr,o.tt,.slice A1 n1 c1,.slice I ni ci,.slice P np cp] 84));have px:ak x wr:=hx▸ak.alloc _ _;have kWx:=F.at (w':=x);have kUx:=G.at (w':=x);rw[<-hx];clear hx F G;go_loopw [38] (fun i wy=>∃(j:Nat) (US:List Ur),j<=ni/\i=.int .i64 j/\Own wy (w.heap.size+1) 3 (wT N k j)/\rH wy (w.heap.size+3) (w.heap.size+1+1) US/\Hid (vg (kI N k j) US)/\ak wy w/\Bx wy w.heap.size 33 #[.slice A n c,.slice (some ⟨b0,q0,none⟩) m d]) (fun i _=>ni-(intOf i).toNat)
   case atStart=>exact⟨0,US,aS _,rfl,kWx,kUx,K,ai _ _,iin⟩
   case round=>
    clear kWx kUx K kN;obtain⟨j,US,hj,rfl,F,G,K,hp2,kN⟩:=hrel;by_cases hjl:j<ni
    ·obtain⟨b2,q2,z,rfl,jT,vz,ez⟩:=si.get hjl;have hz:=hr.out _ (aK hnd.out) z (aK ez.out);rw[<-E.out]at hz;have NP:Hid ((iT N k)[j]?=some z):=ae (by rw[HA.out];exact ez.out);have Az:Hid (k<N.nodes.length):=ae (by rw[<-E.out];exact S);by_cases h0:z=0
     ·subst h0;have M:=F;rw[<-(aaF Az.out NP.out).trans (if_pos rfl)]at M;have X:=K;rw[<-alZ NP.out]at X
      go_wp2_with fail
      go_roundw
      case rel=>exact⟨j+1,US,om,by go_num,M,G,X,hp2,kN⟩
      case measure=>simp[intOf];omega
     ·obtain⟨z,rfl⟩:=eF hz.1;have hzm:z<=m:=om;have hz1:1<=z:=om;obtain⟨cw,Q⟩:=lh (((iT N k).take j).countP (· !=0));have hcl:cw<=100000:=by rw[<-Q];exact aZ Ho bD
      have Y:(wT N k j)[k+1]?=some (cw:Int):=by rw[NN Az.out,if_neg (Df _),if_pos rfl,Q]
      have hc:=F.cell Y;have hfr:=F.frozen (k+1);have M:=F.aF (k+1) ((cw:Int)+1);rw[<-Q,<-(aaF Az.out NP.out).trans (if_neg h0),Q]at M;have HW2:=ae M;have HF:=ae (G.far (p:=⟨w.heap.size+1,k+1,none⟩) au au (.int .i64 ((cw:Int)+1)));have Nt:ak (wr.setCell ⟨w.heap.size+1,k+1,none⟩ (.int .i64 ((cw:Int)+1))) w:=⟨(aL w wr).setCell (p:=⟨w.heap.size+1,k+1,none⟩) (fu _) _⟩;clear M F G Y Q
      go_upto_region 11 with fail
      obtain⟨y,hy⟩:=lg (wr.setCell ⟨w.heap.size+1,k+1,none⟩ (.int .i64 ((cw:Int)+1)));have kNy:Bx y w.heap.size 33 #[.slice A n c,.slice (some ⟨b0,q0,none⟩) m d]:=⟨by rw[hy];exact kN.blk.far au _⟩;rw[<-hy]at HW2 HF Nt⊢;have F:=HW2.out;have G:=HF.out;have hys:w.heap.size+1+1<y.heap.size:=G.blk.lt;clear hy HW2 HF hc hfr kN h0 hz hp2 vz;obtain⟨⟨A',c',us⟩,NQ,NR⟩:=K.out.get (z:=z) (by rw[<-E.out];omega);dsimp only at NR;have rF:us.length<=1001000:=by
       rw[NR];have:=aaG hs.out k j z;have:=hs.out.1;rw[<-E.out]at this;omega
      have Z:=(G.blk.cell z).trans (Tc NQ);have fru:=G.blk.frozen z;have hol:=G.own _ (aK NQ);have Cn:=ae hol.fresh;have HEU:=ae NQ;have HEZ:=ae NR;dsimp only at Z hol Cn;clear NQ NR
      go_wp2_with (at_builtin;refine Ij rfl _ _ _ rfl 3 Tryz.underlying24 aj (w.heap.size+3) A' c' us rfl hol ((k:Int)+1) rfl om om ?_;intro A3 c3 w3 T l amd;have kB3:=l.blk G.blk (fun ad e=>by have:=Cn.out ad e;omega);have fr3:=kB3.frozen z;have hc3:=(kB3.cell z).trans (Tc HEU.out);clear Z fru;dsimp only at hc3)
      go_roundw
      case rel=>
       have hwn:∀ad,A'=some ad->ad.block≠w.heap.size+1:=fun ad e=>by have:=Cn.out ad e;omega
       have hpp:=G.push HEU.out T l;rw[show(us++[(k:Int)+1]).length=us.length+1 from au]at hpp;have hb3:Below w.heap.size y w3:=l.below (fun ad e=>by have:=Cn.out ad e;omega) om;exact⟨j+1,_,om,by go_num,(l.own F hwn).far au _,hpp,ae (K.out.step om NP.out (by rw[HEZ.out])),⟨((aL w y).trans hb3).setCell bD _⟩,⟨(l.blk kNy.blk (fun ad e=>by have:=Cn.out ad e;omega)).far bD _⟩⟩
      case measure=>simp[intOf];omega
    ·obtain rfl:j=ni:=om;have M:=F;have X:=K;rw[HI.out,<-HA.out,alW]at M;rw[HI.out,<-HA.out,al0]at X;clear F
     go_wp2_with fail
     go_roundw
     case rel=>exact⟨k+1,US,om,by go_num,M,G,X,hp2,kN⟩
     case measure=>simp[intOf];omega
  ·obtain rfl:k=m:=om;rw[E.out,al2]at F;have ame:Hid (vg (kI N N.nodes.length 0) US):=ae (by rw[<-E.out];exact K.out);have zu:=hs.out.1;rw[<-E.out]at zu;clear K
   go_wp2_with fail
   obtain⟨p,pe⟩:=lg wr;have hp0:ak wr p:=⟨by rw[pe];exact bq _ _⟩;rw[<-pe]at G F hp kN;clear pe;have Ai:w.heap.size+1<p.heap.size:=F.lt;go_loopw [9,10] (fun s i wr=>∃(j:Nat) (A':Option Addr) (c':Nat) (L:List Int),j<=k/\i=.int .i64 ((j:Int)+1)/\s=.slice A' L.length c'/\aG wr p.heap.size 3 A' c' L/\Hid (L=(N.ids.take j).filter (zo N []))/\L.length<=j/\ak wr p) (fun _ i _=>k+1-(intOf i).toNat)
   case atStart=>exact⟨0,none,0,[],aS _,au,rfl,aG.nil _ _ _,ae au,au,hp0⟩
   case round=>
    clear hp0;obtain⟨j,A',c',L,hj,rfl,rfl,J,V,hll,C⟩:=hrel;have I9:=F.at (w':=wr);by_cases S:j<k
    ·have Y:=Gm (N:=N) (D:=[]) (U:=[]) (q:=j+1) om (by rw[<-E.out];omega);have hc:=I9.cell Y;have HT:=ae (al4 (N:=N) (j:=j) (p:=zo N []) (by rw[<-E.out];exact S));have he:((j+1:Nat):Int)=(j:Int)+1:=by simp
     rw[he]at hc;have HP:Hid (zo N [] ((j:Int)+1)=decide (jk N [] [] ((j:Int)+1)=0)):=ae (by unfold zo jk;rw[List.contains_nil,LK,LP];rfl);have hj2:((j:Int)+1<=(k:Int)):=by omega
     obtain⟨q0,hq0⟩:=lh (jk N [] [] ((j:Int)+1));rw[hq0]at hc HP;clear Y hq0 he;by_cases h0:q0=0
     ·subst h0;rw[HP.out]at HT
      go_wp2_with (at_builtin;refine Ie rfl _ _ _ rfl 3 Tryz.underlying24 aj p.heap.size A' c' L rfl J ((j:Int)+1) rfl om aH ?_;intro A3 c3 w3 T hb3 _ _)
      go_roundw
      case rel=>exact⟨j+1,A3,c3,_,om,by go_num,au,T,ae (by rw[HT.out,V.out];rfl),by simp;omega,⟨(aL p wr).trans hb3⟩⟩
      case measure=>simp[intOf];omega
     ·rw[HP.out,nC h0]at HT
      go_wp2_with fail
      go_roundw
      case rel=>exact⟨j+1,A',c',L,om,by go_num,rfl,J,ae (by rw[HT.out,V.out];simp),om,C⟩
      case measure=>simp[intOf];omega
    ·obtain rfl:j=k:=om;have hL:L=qL N []:=by rw[V.out,E.out,dB (lH Eg)];rfl
     have hmk:=ah9 (P:=Tryz.prog) 24 3 Tryz.underlying24 aj j om;have hj2:¬((j:Int)+1<=(j:Int)):=by omega
     rw[hL]at J⊢;clear hL V hll I9;have HG:Hid (∀z,z<j+1->z≠0->∃A c us,US[z]?=some ⟨A,c,us⟩/\us=uZ N z):=ae fun z hz h0=>by
      obtain⟨⟨A,c,us⟩,e1,e2⟩:=ame.out.get (z:=z) (by rw[<-E.out];exact hz);exact⟨A,c,us,e1,by rw[aaH h0]at e2;exact e2⟩
     go_wp2_with fail
     have hS:qM w p (w.heap.size+1) (wr.alloc (.cells (ints (List.replicate j 0)) 3)) A' c' (qL N []) (some ⟨wr.heap.size,0,none⟩) j [] (qf N [] []):=
      ⟨au,Ai,⟨by have:=C.st.size;simp;omega,fun k hk _=>by have:=C.st.size;exact(CZ wr _ k om).trans (C.st.block k hk)⟩,F.at,J.at,(aia wr 3 j om).more C.st.size,fun a b ea eb=>by injection eb with eb;subst eb;exact WR (J.lt a ea),ai _ _⟩
     have HK:Hid (tT N (N.nodes.length-0) []=iB N):=ae rfl;clear J F hmk hj2;go_loopw [9,11] (fun s t wr=>∃(A:Option Addr) (c:Nat) (L:List Int) (O:Option Addr) (co:Nat) (D:List Int),s=.slice A L.length c/\t=.slice O D.length co/\qM w p (w.heap.size+1) wr A c L O co D (qf N D [])/\Hid (L=qL N D)/\Hid (ll N D)/\Hid (tT N (N.nodes.length-D.length) D=iB N)) (fun _ t _=>j-slN t)
     case atStart=>exact⟨_,_,_,_,_,[],rfl,rfl,hS,ae rfl,ae ll.nil,HK⟩
     case round=>
      clear hS HK C;obtain⟨A',c',L,O,co,D,rfl,rfl,hS,V,HT,HK⟩:=hrel;have C:=hS.prev;rcases L with _|⟨id,t⟩
      ·have hD:D=iB N:=(aaI V.out.symm).symm.trans HK.out;subst hD
       go_wp2_with fail
       go_ret;exact⟨O,co,rfl,hS.ord.more (by have:=hS.gp;omega),C⟩
      ·have hid:=Eh V.out.symm;have hI:=dR.1 hid.1;rw[<-E.out]at hI;obtain⟨q,rfl⟩:=eF (show 0<=id by omega);have hq1:1<=q:=om;have hqj:q<j+1:=om;have hDl:=HT.out.len;rw[<-E.out]at hDl;obtain⟨gA,rfl,_,_⟩:=hS.qg.addr au;have hc0:=hS.qg.cell (k:=0) rfl;obtain⟨A5,c5,us,e5,e6⟩:=HG.out q hqj om;have Ti:=ae e5;have Jw:=ae e6;have HS:=ae hS;clear hS e5 e6 hid hI
       go_upto_region 25 with(first|(go_at_call 187;refine(al8 HS.out.qg).mono ?_;rintro e u ⟨rfl,Gn,hcP⟩;have r:=ae (HS.out.aaM Gn hcP);clear Gn hcP hc0)|(at_builtin;refine Ij rfl _ _ _ rfl 3 Tryz.underlying24 aj p.heap.size O co D rfl r.out.ord (q:Int) rfl om r.out.aside.size ?_;intro A3 c3 w3 T l amd;have wF:=ae (r.out.al7 T l);clear T l))
       have Ju:=wF.out;have kU3:=Ju.aside.blk G.blk om;have Z:=(kU3.cell q).trans (Tc Ti.out);dsimp only at Z;have rF:us.length<=1001000:=by
        have:=aaG hs.out N.nodes.length 0 q;rw[aaH om,<-Jw.out,<-E.out]at this;omega
       have HR0:Hid (t=nK N D q (us.take 0)):=ae (by rw[jr];exact(alO V.out.symm).symm);have hSI:qM w p (w.heap.size+1) w3 (some ⟨gA,0,none⟩) c' t A3 c3 (D++[(q:Int)]) (qf N D (us.take 0)):=by rw[jr];exact Ju
       clear HS r wF kU3 Ju
       go_wp2_with fail
       clear Z;go_loopw [9,101] (fun s i wr=>∃(x:Nat) (A:Option Addr) (c:Nat) (L:List Int),x<=us.length/\i=.int .i64 x/\s=.slice A L.length c/\qM w p (w.heap.size+1) wr A c L A3 c3 (D++[(q:Int)]) (qf N D (us.take x))/\Hid (L=nK N D q (us.take x))) (fun _ i _=>us.length-(intOf i).toNat)
       case atStart=>exact⟨0,_,_,_,aS _,rfl,rfl,hSI,HR0⟩
       case round=>
        clear hSI HR0;obtain⟨x,A',c',L,hx,rfl,rfl,hS,HR⟩:=hrel;have C:=hS.prev;by_cases S:x<us.length
        ·have sU:Sl wr A5 us.length us:=⟨hS.aside.rd (G.own _ (aK Ti.out)).rd (fun ad e=>by have:=(G.own _ (aK Ti.out)).fresh ad e;omega),rfl⟩;obtain⟨b2,q2,z,rfl,jT,vz,ez⟩:=sU.get S;have hY:=HT.out.user (t:=t) (id:=(q:Int)) (y:=z) (j:=x) V.out.symm (by rw[<-Jw.out];exact ez.out);rw[<-Jw.out]at hY;have hI:=dR.1 hY.1;rw[<-E.out]at hI;obtain⟨y,rfl⟩:=eF (show 0<=z by omega);have hy1:1<=y:=om;have hyj:y<j+1:=om;have HY:=ae hY;have Q:=Gm (N:=N) (D:=D) (U:=us.take x) hy1 (by rw[<-E.out];omega);have hst:=al3 (N:=N) (D:=D) (U:=us.take x) hy1 (by rw[<-E.out];omega) HY.out.2.1;have hsv:=Gm (N:=N) (D:=D) (U:=us.take x++[(y:Int)]) hy1 (by rw[<-E.out];omega);rw[Jv HY.out.2.1,if_pos rfl]at hsv;have hmw:1<=jk N D (us.take x) (y:Int):=by have:=HY.out.2.1;unfold jk;omega
         have hmx:jk N D (us.take x) (y:Int)<=1000:=by
          unfold jk mR bG;have:=Tf hs.out ((y:Int)-1).toNat;unfold iT at this;exact aZ (Nat.sub_le _ _) (aZ Ho this)
         have qh:=ae (take_at ez.out);rw[<-qh.out]at hst hsv;have R:Hid (jk N D (us.take x) (y:Int)=1->nK N D q (us.take (x+1))=L.take (L.countP (· <(y:Int)))++(y:Int)::L.drop (L.countP (· <(y:Int)))):=ae fun h=>by rw[qh.out,HR.out];exact alQ HY.out.2.1 h HY.out.1 HY.out.2.2
         have NS:Hid (jk N D (us.take x) (y:Int)≠1->nK N D q (us.take (x+1))=L):=ae fun h=>by rw[qh.out,HR.out];exact alP HY.out.2.1 h
         obtain⟨mw,aaU⟩:=lh (jk N D (us.take x) (y:Int));rw[aaU]at Q hst hsv hmw hmx R NS;have hc:=hS.wait.cell Q;have hfr:=hS.wait.frozen y;have hS2:=hS.aF y ((mw:Int)-1);rw[hst]at hS2;have r:=ae hS2;have wG:=ae hsv;clear hY hI Q hst hsv aaU hS2 hS
         go_upto_region 29 with fail
         obtain⟨v2,hv2⟩:=lg (wr.setCell ⟨w.heap.size+1,y,none⟩ (.int .i64 ((mw:Int)-1)));rw[<-hv2]at r⊢;have hS:=r.out;have hc2:=hS.wait.cell wG.out;clear hv2 C hc hfr wG vz jT sU;have C:=hS.prev;by_cases h1:mw=1
         ·subst h1;have hc2':v2.cell? ⟨w.heap.size+1,y,none⟩=some (.int .i64 0):=hc2;have y8:L.length<=1000:=by rw[HR.out];have:=al6 (N:=N) (D:=D) (id:=(q:Int)) (U:=us.take x);have:=hs.out.1;omega
          have HSO:Hid (L.Pairwise (· <= ·)):=ae (by rw[HR.out];exact alR);have HY1:=ae (R.out rfl);clear R NS hc2 hS
          go_wp2_with (first|(go_at_call 188;refine(agR (x:=(y:Int)) r.out.qg.rd om HSO.out).mono ?_;rintro e u ⟨rfl,pu⟩)|(go_at_call 189;(with_reducible refine qZ (fun u2 ru bu2=>?_));(with_reducible refine(agT (x:=(y:Int)) (vb:=u.heap.size) (r.out.at (w':=u2)).qg (fun ad e=>by have:=r.out.qg.lt ad e;have:=pu.st.size;omega) rfl Ho om (r.out.at (w':=u2)).aside.size).mono ?_);rintro e u3 ⟨A6,c6,rfl,Q6,amh⟩))
          go_roundw
          case rel=>exact⟨x+1,A6,c6,_,om,by go_num,au,(r.out.at (w':=u2)).aaM Q6 amh,ae HY1.out.symm⟩
          case measure=>simp[intOf];omega
         ·obtain⟨mv,rfl⟩:∃mv,mw=mv+1:=⟨mw-1,om⟩;have hc2':v2.cell? ⟨w.heap.size+1,y,none⟩=some (.int .i64 (mv:Int)):=hc2;have hmv:(mv:Int)≠0:=by omega
          have DJ:=ae (NS.out h1);clear R NS hc2 h1
          go_wp2_with fail
          go_roundw
          case rel=>exact⟨x+1,A',c',L,om,by go_num,rfl,hS,ae DJ.out.symm⟩
          case measure=>simp[intOf];omega
        ·obtain rfl:x=us.length:=om;rw[jq,Jw.out,al5 V.out.symm]at hS;have hid:=Eh V.out.symm;have HR2:Hid (L=qL N (D++[(q:Int)])):=ae (by rw[HR.out,jq,Jw.out,alN om hid.2.1]);have Co:=HT.out.step V.out.symm;have hl2:=Co.len;have hK2:tT N (N.nodes.length-(D++[(q:Int)]).length) (D++[(q:Int)])=iB N:=by
          rw[<-HK.out,<-aaL V.out.symm];congr 1;simp at hl2⊢;omega
         have lN:=ae hK2;have HT2:=ae Co;rw[<-E.out]at hl2;simp at hl2;clear hid Co hK2
         go_wp2_with fail
         go_roundw
         case rel=>exact⟨A',c',L,A3,c3,D++[(q:Int)],rfl,au,hS,HR2,HT2,lN⟩
         case measure=>simp[slN];omega
end
def zx(m:Nat)(v:dJ):Int:=if v.o.right then(if v.ins.all (fun z=>decide (0<=z)&&decide (z<=m))then 0 else 11)else 21
def qi(m:Nat):List dJ->Int
 |[]=>0
 |v::t=>if zx m v=0 then qi m t else zx m v
def NT(N:aI):List Int:=(jO N (iB N) (qc N)).2.getD (iH N).toNat []
def Ei(N:aI):Int:=if(iB N).length=N.nodes.length then(if(jO N (iB N) (qc N)).1=0 then(if zl N then(if eT (NT N)=0/\bJ (NT N)=1 then 0 else 23)else 23)else(jO N (iB N) (qc N)).1)else 22
def bU(N:aI):Int:=if 1<=N.nodes.length/\N.nodes.length<=512 then(if aU N.inp then(if qi N.nodes.length N.nodes=0 then Ei N else qi N.nodes.length N.nodes)else 20)else 12
def gZ(N:aI):List Int×List (List Int)×Int:=if bU N=0 then(iB N,(jO N (iB N) (qc N)).2,iH N)else([],[],0)
def aaV(w:World)(E:Int)(O:List Int)(L:List (List Int))(l:Int)(e:Ending)(w':World):Prop:=∃A c B d ss,e=.returned (.tuple #[.agg #[.slice A O.length c,.slice B L.length d,l],E])/\aG w' w.heap.size 3 A c O/\dA w' B L.length ss/\Le L.length d/\Hid (aJ ss=L)/\ak w' w/\uY w.heap.size B ss
section
variable{w w':World}{A B:Option Addr}{n m c d:Nat}{N:aI}{E l:Int}{O:List Int}{L:List (List Int)}
theorem AA(hE:bU N=E)(hV:gZ N=(O,L,l))(h:E≠0):[]=O/\[]=L/\0=l:=by
 rw[gZ,hE,if_neg h]at hV;simpa using hV
theorem AB(p:ak w' w):aaV w E [] [] 0 (.returned (.tuple #[.agg #[.slice none 0 0,.slice none 0 0,(0:Int)],E])) w':=
 ⟨none,0,none,0,[],rfl,aG.nil _ _ _,⟨fun j x b=>by simp at b,rfl⟩,Le.same _,ae rfl,p,uY.no⟩
theorem tV{u:World}{x y z:Value}[l:Later w u]:ak (((u.setCell ⟨w.heap.size+1,0,none⟩ x).setCell ⟨w.heap.size+1,1,none⟩ y).setCell ⟨w.heap.size+1,2,none⟩ z) w:=
 ⟨((l.st.setCell (p:=⟨w.heap.size+1,0,none⟩) (fu _) x).setCell (p:=⟨w.heap.size+1,1,none⟩) (fu _) y).setCell (p:=⟨w.heap.size+1,2,none⟩) (fu _) z⟩
theorem Tj{u:World}{x y z:Value}{B:Nat}(h:aG u B 3 A c O)(b:w.heap.size+1<B):aG (((u.setCell ⟨w.heap.size+1,0,none⟩ x).setCell ⟨w.heap.size+1,1,none⟩ y).setCell ⟨w.heap.size+1,2,none⟩ z) w.heap.size 3 A c O:=by
 have f:∀ad,A=some ad->ad.block≠w.heap.size+1:=fun ad e=>by have:=h.fresh ad e;omega
 exact(((h.mV (p:=⟨w.heap.size+1,0,none⟩) f x).mV (p:=⟨w.heap.size+1,1,none⟩) f y).mV (p:=⟨w.heap.size+1,2,none⟩) f z).more om
theorem ami{u:World}{x y z:Value}{B:Nat}{ss:List Sp}(h:dA u A n ss)(f:uY B A ss)(b:w.heap.size+1<B):dA (((u.setCell ⟨w.heap.size+1,0,none⟩ x).setCell ⟨w.heap.size+1,1,none⟩ y).setCell ⟨w.heap.size+1,2,none⟩ z) A n ss:=
 ((h.setCell f (p:=⟨w.heap.size+1,0,none⟩) b x).setCell f (p:=⟨w.heap.size+1,1,none⟩) b y).setCell f (p:=⟨w.heap.size+1,2,none⟩) b z
theorem aaW{o:gP}{b:Bool}[Sl w A n o.S](e:n<=1000000)(hb:Hid (o.right=b)):Calls Tryz.prog 120 #[.agg (opC o.kd o.k o.wd o.st o.sd o.fr o.tt (.slice A n c))] w (aM w (.bool b)):=
 ja (vY e) (by rw[<-hb.out];rfl)
theorem NU:∀(f:Nat) (D:List Int),ll N D->ll N (tT N f D)
 |0,_,h=>h
 |f+1,D,h=>by
  rw[tT]
  split
  ·exact h
  ·rename_i b;exact NU f _ (h.step b)
theorem Tk:∀(r:List Int) (L L':List (List Int)),jO N r L=(0,L')->(∀z∈L,z.length<=100000)->L'.length=L.length/\∀z∈L',z.length<=100000
 |[],L,L',h,j=>by
  rw[jO]at h;obtain rfl:=(nD h).2;exact⟨rfl,j⟩
 |id::r,L,L',h,j=>by
  rw[jO]at h
  split at h
  ·obtain rfl:=(nD h).2;exact⟨rfl,j⟩
  ·split at h
   ·rename_i u;obtain⟨a,b⟩:=Tk r _ L' h (fun z e=>by
     rcases Hd e with e|rfl
     ·exact j z e
     ·have:=ry (FW u);omega)
    exact⟨by rw[a,jQ],b⟩
   ·exact absurd (nD h).1 (by assumption)
theorem aaX:∃q:Nat,iH N=q/\q<=N.nodes.length:=by
 refine⟨_,rfl,?_⟩;rcases h:(uX N).getLast? with _|x
 ·rw[WG,h];simp
 ·rw[WG,h];have:=Da.1 (List.mem_of_getLast? h);have:=yF.1 this.1;simp;omega
theorem NV[aX w A n B m N](j:Hid N.fits)(hr:Hid N.iR)(hs:Hid N.small)(hO:Hid (iB N=O)){k:Nat}(r:Hid (O.length=k)):Calls Tryz.prog 121 #[.agg #[.slice A n c,.slice B m d]] w fun e w'=>∃A c,e=.returned (.slice A k c)/\Sl w' A k O/\aG w' w.heap.size 3 A c O/\ak w' w:=by
 obtain rfl:=hO.out;obtain rfl:=r.out;exact(al9 j hr hs).mono fun e w' ⟨A,c,u,b,y⟩=>⟨A,c,u,⟨b.rd,rfl⟩,b,y⟩
theorem Tm{C:Option Addr}{k g:Nat}{ord:List Int}[aX w A n B m N](b:Hid N.fits)(hr:Hid N.iR)[Sl w C k ord](j:k<=100000)(r:Hid (∀id∈ord,1<=id/\id<=m))(hL:Hid (jO N ord (qc N)=(E,L))){x:Nat}(u:Hid (L.length=x)):
  Calls Tryz.prog 122 #[.agg #[.slice A n c,.slice B m d],.slice C k g] w fun e w'=>∃A c ss,e=.returned (.tuple #[.slice A x c,E])/\dA w' A x ss/\Le x c/\Hid (aJ ss=L)/\ak w' w/\uY w.heap.size A ss:=by
 obtain rfl:=u.out;exact alH b hr j r hL
theorem Tp:∀{l:List dJ},qi m l=0->∀v∈l,zx m v=0
 |[],_,v,hv=>absurd hv au
 |x::t,h,v,hv=>by
  unfold qi at h
  split at h
  ·rename_i b;rcases dz.1 hv with rfl|hv
   ·exact b
   ·exact Tp h v hv
  ·exact absurd h (by assumption)
theorem Gp[a:aX w A n B m N](D:Hid N.fits)(hs:Hid N.small)(hE:Hid (bU N=E))(hV:Hid (gZ N=(O,L,l))):Calls Tryz.prog 72 #[.agg #[.slice A n c,.slice B m d]] w (aaV w E O L l):=by
 obtain⟨CB,CP,FB⟩:=iK;have Q:Hid (m=N.nodes.length):=ae a.len;have hm:m<=1000:=by rw[Q.out];exact hs.out.1
 have sI:=a.inp;have hn:n<=100000:=by rw[sI.len];exact D.out.2.1
 go_enter Tryz.func72,Tryz.ntmps72;by_cases c1:1<=m/\m<=512
 ·have Gq:=ae c1;have c2:¬(m:Int)<1:=by omega
  have c3:¬(m:Int)>512:=by omega
  have r:=hE.out;rw[bU,<-Q.out,if_pos c1]at r;clear c1;rcases hb:aU N.inp with _|_
  ·obtain rfl:E=20:=by rw[hb]at r;exact r.symm
   obtain⟨rfl,rfl,rfl⟩:=AA hE.out hV.out om;have HB:=ae hb;clear hb r
   go_wp2_with (go_at_call 119;(with_reducible refine Qo (fun u _ _ _=>?_));(with_reducible refine(pY om HB).mono ?_);rintro e u1 ⟨rfl,_⟩)
   refine bM (v:=.tuple #[.agg #[.slice none 0 0,.slice none 0 0,(0:Int)],(20:Int)]) ?_ rfl (AB tV);rw[eG rfl];go_simp
  ·rw[hb]at r;have HB:=ae hb;have R:Hid ((if qi m N.nodes=0 then Ei N else qi m N.nodes)=E):=ae r;clear hb r
   go_upto_region 5 with(go_at_call 119;(with_reducible refine Qo (fun u _ _ _=>?_));(with_reducible refine(pY om HB).mono ?_);rintro e u1 ⟨rfl,_⟩)
   go_wp2_with fail
   go_loopw [34] (fun i wr=>∃k:Nat,k<=m/\i=.int .i64 k/\Hid (qi m (N.nodes.drop k)=qi m N.nodes)/\ak wr u1) (fun i _=>m-(intOf i).toNat)
   case atStart=>exact⟨0,aS _,rfl,ae rfl,⟨bq _ _⟩⟩
   case round=>
    obtain⟨k,hk,rfl,HD,hp⟩:=hrel;by_cases hlt:k<m
    ·obtain⟨b0,q0,o,A1,n1,c1,I,ni,ci,ins,P,np,cp,ps,rfl,ob,⟨v0,v1,v2,v3,v4,v5,v6,v7,v8,v9⟩,s1,si,sp,l1,li,lp,ik,Y⟩:=a.node hlt;have hni:ni<=100000:=by have:=(D.out.2.2 _ (aK Y.out)).1;rw[si.len];exact this
     have hn1:n1<=100000:=by have:=(D.out.2.2 _ (aK Y.out)).2.1;rw[s1.len];exact this
     have HI:Hid (ni=ins.length):=ae si.len;have Z:Hid (qi m N.nodes=if zx m ⟨o,ins,aJ ps⟩=0 then qi m (N.nodes.drop (k+1))else zx m ⟨o,ins,aJ ps⟩):=ae (by
      obtain⟨h1,h2⟩:=aY.1 Y.out;rw[<-HD.out,jE h1,h2];rfl)
     obtain⟨Rv,G⟩:=jS o.right;rcases Rv with _|_
     ·have h1:qi m N.nodes=21:=by rw[Z.out,zx];simp[G.out]
      obtain rfl:E=21:=by rw[<-R.out,h1];rfl
      obtain⟨rfl,rfl,rfl⟩:=AA hE.out hV.out om;clear h1
      go_wp2_with (go_at_call 120;(with_reducible refine qZ (fun u2 _ _=>?_));(with_reducible refine(aaW om G).mono ?_);rintro e u3 ⟨rfl,_⟩)
      refine bM (v:=.tuple #[.agg #[.slice none 0 0,.slice none 0 0,(0:Int)],(21:Int)]) ?_ rfl (AB tV);rw[eG rfl];go_simp
     ·go_wp2_with (go_at_call 120;(with_reducible refine qZ (fun u2 _ _=>?_));(with_reducible refine(aaW om G).mono ?_);rintro e u3 ⟨rfl,_⟩)
      go_loopw [46] (fun i wr=>∃j:Nat,j<=ni/\i=.int .i64 j/\Hid (∀z∈ins.take j,0<=z/\z<=m)/\ak wr u3) (fun i _=>ni-(intOf i).toNat)
      case atStart=>exact⟨0,aS _,rfl,ae au,⟨bq _ _⟩⟩
      case round=>
       obtain⟨j,hj,rfl,HZ,hp2⟩:=hrel;by_cases hjl:j<ni
       ·obtain⟨b2,q2,z,rfl,jT,vz,ez⟩:=si.get hjl;by_cases S:0<=z/\z<=m
        ·have HT:Hid (∀y∈ins.take (j+1),0<=y/\y<=m):=ae fun y hy=>by
          rw[take_at ez.out]at hy;rcases dP.1 hy with h|h
          ·exact HZ.out y h
          ·rw[gm.1 h];exact S
         have z1:¬z<0:=om;have z2:¬z>(m:Int):=by omega
         clear S
         go_wp2_with fail
         go_roundw
         case rel=>exact⟨j+1,om,by go_num,HT,hp2⟩
         case measure=>simp[intOf];omega
        ·have h1:qi m N.nodes=11:=by
          have:ins.all (fun z=>decide (0<=z)&&decide (z<=m))=false:=by
           rw[Fe];exact⟨z,aK ez.out,by simp;omega⟩
          rw[Z.out,zx];simp[G.out,this]
         obtain rfl:E=11:=by rw[<-R.out,h1];rfl
         obtain⟨rfl,rfl,rfl⟩:=AA hE.out hV.out om;clear h1;by_cases z1:z<0;rotate_left
         focus
          have z2:z>(m:Int):=by omega
         all_goals
          clear S
          go_wp2_with fail
          refine bM (v:=.tuple #[.agg #[.slice none 0 0,.slice none 0 0,(0:Int)],(11:Int)]) ?_ rfl (AB tV);rw[eG rfl];go_simp
       ·obtain rfl:j=ni:=om;have Jy:Hid (qi m (N.nodes.drop (k+1))=qi m N.nodes):=ae (by
         have:ins.all (fun z=>decide (0<=z)&&decide (z<=m))=true:=by
          rw[fK];intro z S;have:=HZ.out z (by rw[HI.out,jq];exact S);simp[this]
         rw[Z.out,zx];simp[G.out,this])
        go_wp2_with fail
        go_roundw
        case rel=>exact⟨k+1,om,by go_num,Jy,ai _ _⟩
        case measure=>simp[intOf];omega
    ·obtain rfl:k=m:=om;have hN0:qi k N.nodes=0:=by rw[<-HD.out,kL (by rw[<-Q.out];exact az _)];rfl
     have b:Ei N=E:=by have:=R.out;rw[hN0,if_pos rfl]at this;exact this
     have T:Hid N.iR:=ae fun v hv id hid=>by
      have:=Tp hN0 v hv;unfold zx at this
      split at this
      ·split at this
       ·rename_i h;have:=fK.1 h id hid;rw[<-Q.out];simpa using this
       ·omega
      ·omega
     obtain⟨M,U⟩:∃M,iB N=M:=⟨_,rfl⟩;obtain⟨⟨LE,LL⟩,Jc⟩:=lh (jO N M (qc N));obtain⟨q,hq,hqm⟩:=aaX (N:=N);obtain⟨lb,hlb⟩:=lh (zl N);rw[Ei,NT,U,Jc,hq,hlb,<-Q.out]at b;have J:ll N M:=U▸NU _ _ ll.nil;have hLn:=J.len;rw[<-Q.out]at hLn hqm;have wH:Hid (∀id∈M,1<=id/\id<=k):=ae fun id hid=>by have:=dR.1 (J.ids id hid);rw[<-Q.out]at this;exact this
     have HO:=ae U;have K:=ae Jc;have HU:Hid (iH N=(q:Int)/\zl N=lb):=ae ⟨hq,hlb⟩;dsimp only at b;clear U Jc hq hlb J HD R hN0;by_cases hl:M.length=k
     ·rw[if_pos hl]at b;have F:=ae hl;clear hl hLn;by_cases h0:LE=0
      ·subst h0;rw[if_pos rfl]at b;have Tq:=Tk _ _ _ K.out (fun z S=>by
        rcases dz.1 S with rfl|S
        ·exact D.out.2.1
        ·rw[su S];simp)
       have C:Hid (LL.length=k+1):=ae (by rw[Tq.1,Q.out];simp[qc]);have Cm:=ae Tq.2;clear Tq;rcases lb with _|_
       ·obtain rfl:E=23:=b.symm;obtain⟨rfl,rfl,rfl⟩:=AA hE.out hV.out om;clear b
        go_wp2_with (first|(go_at_call 121;(with_reducible refine(NV D T hs HO F).mono ?_);rintro e u ⟨A4,c4,rfl,Tt,V,p4⟩)|(go_at_call 122;(with_reducible refine(Tm D T om wH K C).mono ?_);rintro e u ⟨A5,c5,ss,rfl,sh,Tu,X,p5,fS⟩)|(go_at_call 123;(with_reducible refine(aas D T HU).mono ?_);rintro e u ⟨rfl,_⟩))
        refine bM (v:=.tuple #[.agg #[.slice none 0 0,.slice none 0 0,(0:Int)],(23:Int)]) ?_ rfl (AB tV);rw[eG rfl];go_simp
       ·rw[if_pos rfl,dD]at b;obtain⟨zq,Tv⟩:=lh (LL.getD q []);rw[Tv]at b;have HZQ:=ae Tv;obtain⟨V6,Jf⟩:=lh (bJ zq);obtain⟨J6,Tw⟩:=lh (eT zq);rw[Jf,Tw]at b;have DK:=ae Jf;have Tx:=ae Tw;have HE2:=ae b;clear Tv Jf Tw b
        go_upto_region 26 with(first|(go_at_call 121;(with_reducible refine(NV D T hs HO F).mono ?_);rintro e u ⟨A4,c4,rfl,Tt,V,p4⟩)|(go_at_call 122;(with_reducible refine(Tm D T om wH K C).mono ?_);rintro e u ⟨A5,c5,ss,rfl,sh,Tu,X,p5,fS⟩)|(go_at_call 123;(with_reducible refine(aas D T HU).mono ?_);rintro e u ⟨rfl,_⟩))
        obtain⟨b5,o5,A6,m6,c6,z6,rfl,ob5,v5,s6,l6,e6⟩:=sh.get (k:=q) om;have Ty:LL[q]?=some z6:=by have:=e6.out;rwa[X.out]at this
        obtain rfl:z6=zq:=by rw[<-HZQ.out,aQ,Ty];rfl
        have QJ:m6<=100000:=by rw[s6.len];exact Cm.out _ (aK Ty)
        clear Ty;by_cases hj:J6=0
        ·by_cases hv:V6=1
         ·subst hj hv;obtain rfl:E=0:=by rw[<-HE2.out,if_pos ⟨rfl,rfl⟩]
          obtain⟨rfl,rfl,rfl⟩:M=O/\LL=L/\(q:Int)=l:=by
           have h:=hV.out;rw[gZ,hE.out,if_pos rfl,HO.out,K.out,HU.out.1]at h;simpa using h
          go_wp2_with (go_at_call 73;refine(yV om DK Tx).mono ?_;rintro e u7 ⟨rfl,_⟩)
          have hx:w.heap.size+1<wr.heap.size:=(iin:Bx wr (w.heap.size+1) _ _).blk.lt;refine bM (v:=.tuple #[.agg #[.slice A4 k c4,.slice (some ⟨b5,o5,none⟩) (k+1) c5,q],(0:Int)]) ?_ rfl ⟨A4,c4,some ⟨b5,o5,none⟩,c5,ss,by rw[F.out,C.out],Tj (V.at (w':=u7)) hx,by rw[C.out];exact ami iin fS (bV hx p4.st.size),by rw[C.out];exact Tu,X,tV,fS.less (by have:=p4.st.size;omega)⟩;rw[eG rfl];go_simp
         ·obtain rfl:E=23:=by rw[<-HE2.out,if_neg (fun h=>hv h.2)]
          obtain⟨rfl,rfl,rfl⟩:=AA hE.out hV.out om;subst hj;have b1:(V6 !=1)=true:=by simp[hv]
          clear hv
          go_wp2_with (go_at_call 73;refine(yV om DK Tx).mono ?_;rintro e u7 ⟨rfl,_⟩)
          refine bM (v:=.tuple #[.agg #[.slice none 0 0,.slice none 0 0,(0:Int)],(23:Int)]) ?_ rfl (AB tV);rw[eG rfl];go_simp
        ·obtain rfl:E=23:=by rw[<-HE2.out,if_neg (fun h=>hj h.1)]
         obtain⟨rfl,rfl,rfl⟩:=AA hE.out hV.out om;have b1:(J6 !=0)=true:=by simp[hj]
         clear hj
         go_wp2_with (go_at_call 73;refine(yV om DK Tx).mono ?_;rintro e u7 ⟨rfl,_⟩)
         refine bM (v:=.tuple #[.agg #[.slice none 0 0,.slice none 0 0,(0:Int)],(23:Int)]) ?_ rfl (AB tV);rw[eG rfl];go_simp
      ·rw[if_neg h0]at b;obtain rfl:E=LE:=b.symm;obtain⟨rfl,rfl,rfl⟩:=AA hE.out hV.out h0;have b0:(E !=0)=true:=by simp[h0]
       obtain⟨y,C⟩:=jS LL.length;clear b h0
       go_wp2_with (first|(go_at_call 121;(with_reducible refine(NV D T hs HO F).mono ?_);rintro e u ⟨A4,c4,rfl,Tt,V,p4⟩)|(go_at_call 122;(with_reducible refine(Tm D T om wH K C).mono ?_);rintro e u ⟨A5,c5,ss,rfl,sh,Tu,X,p5,fS⟩))
       refine bM (v:=.tuple #[.agg #[.slice none 0 0,.slice none 0 0,(0:Int)],E]) ?_ rfl (AB tV);rw[eG rfl];go_simp
     ·rw[if_neg hl]at b;obtain rfl:E=22:=b.symm;obtain⟨rfl,rfl,rfl⟩:=AA hE.out hV.out om;have F:Hid (M.length=M.length):=ae rfl;have b0:((M.length:Int) !=(k:Int))=true:=by simp;omega
      clear b hl
      go_wp2_with (first|(go_at_call 121;(with_reducible refine(NV D T hs HO F).mono ?_);rintro e u ⟨A4,c4,rfl,Tt,V,p4⟩))
      refine bM (v:=.tuple #[.agg #[.slice none 0 0,.slice none 0 0,(0:Int)],(22:Int)]) ?_ rfl (AB tV);rw[eG rfl];go_simp
 ·obtain rfl:E=12:=by rw[<-hE.out,bU,if_neg (by rw[<-Q.out];exact c1)]
  obtain⟨rfl,rfl,rfl⟩:=AA hE.out hV.out om;by_cases c2:1<=m
  focus
   have c3:(m:Int)>512:=by omega
  rotate_left
  focus
   obtain rfl:m=0:=om
  all_goals
   go_wp2_with fail
   refine bM (v:=.tuple #[.agg #[.slice none 0 0,.slice none 0 0,(0:Int)],(12:Int)]) ?_ rfl (AB ?_)
   ·rw[eG rfl];go_simp
   ·exact ai _ _
end
end Go.Proofs.YtmkjnlifimffkaaGreat
