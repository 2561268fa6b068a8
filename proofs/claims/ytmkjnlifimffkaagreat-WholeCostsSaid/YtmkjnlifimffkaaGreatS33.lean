/- Lemmas. No condition. -/
import Derived.Test.YtmkjnlifimffkaaGreatS32
namespace Go.Proofs.YtmkjnlifimffkaaGreat
open Go.RowKit
set_option linter.all false
set_option maxRecDepth 100000
set_option maxHeartbeats 16000000
structure rP(w:World)(g:Nat)(ss:List Sp):Prop where
 blk:aD w g 24 (fP ss)
 el:∀x∈ss,Rd w x.A x.zs/\x.m=x.zs.length/\x.m<=x.c/\bn (g+1) x.A
def aC(N:aI)(cap:Int):iQ:=⟨(fU N).1,(fU N).2.1,[]::N.nodes.map (·.ins),iB N,(iH N).toNat,cap⟩
def fG(m:Nat):di:=⟨(List.replicate (m+1) false).set 0 true,List.replicate (m+1) false,List.replicate (m+1) false,false,false,0,0,0⟩
def an0(w:World)(N:aI)(m:Nat)(cap:Int)(e:Ending)(w':World):Prop:=
 ∃(p:World) (a:mZ) (ss:List Sp),e=.returned (.tuple #[.pointer p.heap.size,(0:Int)])/\ak p w/\Hid (jV p a m (aC N cap) ss)/\Hid (dH p w' a m (aC N cap) (fG m))/\Hid (m+1<=a.cW)
section
variable{p w w' u w0:World}{A B:Option Addr}{n m c d t g k:Nat}{ss:List Sp}{x:Sp}{N:aI}{O:List Int}{L:List (List Int)}{l:Nat}{E T:Int}{W C:List Int}
theorem an1(k:Nat)(j:k<=1000000)(W:World):(Instr.makeSlice 105 (.int .i64 (k:Int)) (.int .i64 (k:Int))).run Tryz.prog W=.ok (.slice W.heap.size k k) (W.alloc (.cells (fP (List.replicate k fD)) 24)):=by
 obtain⟨i,hi,b⟩:=bN.1 (show(Tryz.prog.info? 24).map (fun i=>(i.zero,i.size,i.bytes))=some (some (.slice none 0 0),1,24)from by kernel_rfl);simp only[jZ]at b;obtain⟨e,hs,hb⟩:=b;have:=zT (P:=Tryz.prog) W 105 24 i _ Tryz.underlying105 hi e .i64 .i64 k k om (jg _) (by rw[hs];simp;omega) (by rw[hb];simp;omega);rw[hs]at this;rw[<-aav];simpa[Value.cells]using this om
theorem rP.at(h:rP w g ss)[l:Later w w']:rP w' g ss:=⟨h.blk.at,fun x b=>⟨(h.el x b).1.below l.st,(h.el x b).2⟩⟩
theorem rP.new(hg:aD w g 24 (fP (List.replicate k fD))):rP w g (List.replicate k fD):=⟨hg,fun x b=>by rw[su b];exact⟨Rd.nil _ _,rfl,az _,bn.none⟩⟩
theorem rP.aF(h:rP w g ss)(j:Nat)(hr:Rd w x.A x.zs)(hm:x.m=x.zs.length)(z:x.m<=x.c)(e:bn (g+1) x.A):rP (w.setCell ⟨g,j,none⟩ (.slice x.A x.m x.c)) g (ss.set j x):=by
 have far:∀{A:Option Addr} {zs:List Int},Rd w A zs->bn (g+1) A->Rd (w.setCell ⟨g,j,none⟩ (.slice x.A x.m x.c)) A zs:=fun{A zs} hr e=>
  ((⟨hr,rfl⟩:Sl w A zs.length zs).setCell (p:=⟨g,j,none⟩) e (Hy g) _).rd
 refine⟨by rw[<-SY];exact h.blk.aF _ _,fun y r=>?_⟩;rcases Hd r with r|rfl
 ·obtain⟨a,b,c,d⟩:=h.el y r;exact⟨far a d,b,c,d⟩
 ·exact⟨far hr e,hm,z,e⟩
theorem rP.Gh(h:rP w g ss):dA w (some ⟨g,0,none⟩) ss.length ss:=
 ⟨fun j x b=>⟨g,0,rfl,h.blk.lt,by rw[fo,h.blk.cell,zm b],(h.el x (aK b)).1,(h.el x (aK b)).2.1,(h.el x (aK b)).2.2.1⟩,rfl⟩
theorem an2(ts:List Sp){n j:Nat}(b:ts.length=j)(h:j<n):(fD::(ts++List.replicate (n-j) fD)).set (j+1) x=fD::((ts++[x])++List.replicate (n-(j+1)) fD):=by
 rw[WC,show n-j=(n-(j+1))+1 from om,uo,yA _ _ om,b,l9,yC];simp
theorem an3{z:List Int}(h:aU z=true):0<=bJ z/\bJ z<=1099511627776:=by
 obtain⟨e,j,b,r⟩:=(j5 z).1 h;rw[bJ,if_pos h];have:=(Xb z b).1;omega
theorem ab8:∀{L:List (List Int)},mi L=0->∀z∈L,aU z=true
 |[],_,_,h=>by cases h
 |z::t,h,y,e=>by
  rw[mi]at h;have b:eT z=0:=by
   by_cases j:eT z=0
   ·exact j
   ·rw[if_neg j]at h;exact h
  rw[if_pos b]at h;rcases dz.1 e with rfl|e
  ·unfold eT at b
   split at b
   ·rename_i r;exact r
   ·exact absurd b ah
  ·exact ab8 h y e
theorem Ex(h:fQ N=0):bU N=0:=by
 by_cases b:bU N=0
 ·exact b
 ·rw[fQ,if_neg b]at h;exact h
theorem JP(h:fQ N=0)(b:gZ N=(O,L,(l:Int)))(e:dX N O L l):
  (fU N).1=L.map bJ/\(fU N).1.length=N.nodes.length+1/\(fU N).2.1.length=N.nodes.length+1/\∀z∈L,aU z=true:=by
 have y:=Ex h;have hs:mi L=0:=by
  rw[fQ,if_pos y,b,Gv]at h;dsimp only at h;by_cases j:mi L=0
  ·exact j
  ·rw[if_neg j]at h;exact h
 have r:(fU N).1=L.map bJ:=by rw[fU,if_pos h,b];dsimp only;rw[xS,if_pos hs]
 exact⟨r,by rw[r,dF,e.len],by rw[fU,if_pos h];simp[iP],ab8 hs⟩
theorem an4{Q:World->Prop}{X:World}{T:TypeId}{cs:Array Value}(h:∀u,u.heap.size=X.heap.size+1->ak u X->Bx u X.heap.size T cs->Q u):Q (X.alloc (.cells cs T)):=h _ au (ai _ _) iin
theorem Ux{Q:World->Prop}{p X:World}{t i:Nat}{T U:TypeId}{cs b:Array Value}{gs:List (Nat×TypeId×Array Value)}{v:Value}(h:ql p X t T cs gs)
  (k:∀u,u.heap.size=X.heap.size+1->ql p u t T (cs.setIfInBounds i v) ((X.heap.size,U,b)::gs)->Q u):Q ((X.alloc (.cells b U)).setCell ⟨t,i,none⟩ v):=
 k _ au ((h.mk' (w':=X.alloc (.cells b U)) Bx.blk).set i v)
theorem ab9[aX w A n B m N](D:Hid N.fits)(hs:Hid N.small)(b:Hid (fQ N=E))(r:E≠0)(cap:Int):Calls Tryz.prog 34 #[.agg #[.slice A n c,.slice B m d],cap] w (aM w (.tuple #[.pointer none,E])):=by
 have F:=@bf;have G:=@dV;have y:Hid (fU N=([],[],0)):=ae (by rw[fU,b.out,if_neg r]);have j:Hid (([]:List Int).length=0):=ae rfl;have z:=j;have I:(E !=0)=true:=by simp[r]
 clear r;go_enter Tryz.func34,Tryz.ntmps34
 go_upto_region 1 with fail
 refine bI (fun J _ K=>?_)
 go_upto_region 2 with(first|(go_at_call 9;(with_reducible refine(xY D hs b y j z).mono ?_);rintro e u ⟨AW,cW,AC,cC,rfl,M,P,Q,R,S⟩))
 refine bI (fun U _ kp=>?_)
 go_wp2_with fail
 go_ret2;exact⟨rfl,ai _ _⟩
theorem aca[a:aX w A n B m N](hf:Hid N.fits)(hs:Hid N.small)(J:Hid (fQ N=0))(cap:Int):Calls Tryz.prog 34 #[.agg #[.slice A n c,.slice B m d],cap] w (an0 w N m cap):=by
 obtain⟨CB,CP,FB⟩:=iK;have Q:Hid (m=N.nodes.length):=ae a.len;have hm:m<=1000:=by rw[Q.out];exact hs.out.1
 obtain⟨O,L,l,R,D,X,-⟩:=look_ok (Ex J.out);obtain⟨o1,o2,o3,o4⟩:=JP J.out R D;obtain⟨⟨W,C,T⟩,K⟩:=lh (fU N);have JQ:=ae K;rw[K]at o1 o2 o3;have Y:Hid (W.length=m+1):=ae (by rw[Q.out];exact o2);have HCL:Hid (C.length=m+1):=ae (by rw[Q.out];exact o3);have Z:=ae (Ex J.out);have lS:=ae R;have pV:=ae D;have DI:Hid (O.length=m):=ae (by rw[D.zz,Q.out]);have Gy:Hid (aC N cap=⟨W,C,[]::N.nodes.map (·.ins),O,l,cap⟩):=ae (by rw[aC,K,D.ord,D.iH,dD]);have HW4:Hid (W=L.map bJ):=ae o1;have HR4:Hid (∀z∈L,aU z=true):=ae o4;have Uw:∀W:World,(Instr.makeSlice 105 (.int .i64 ((m:Int)+1)) (.int .i64 ((m:Int)+1))).run Tryz.prog W=.ok (.slice (some ⟨W.heap.size,0,none⟩) (m+1) (m+1)) (W.alloc (.cells (fP (List.replicate (m+1) fD)) 24)):=fun W=>by
  have h:=an1 (m+1) om W;rwa[mF]at h
 clear K o1 o2 o3 o4 R D X;go_enter Tryz.func34,Tryz.ntmps34
 go_upto_region 1 with fail
 refine bI (fun u0 _ kn=>?_)
 go_upto_region 2 with(first|(go_at_call 9;(with_reducible refine(xY hf hs J JQ Y HCL).mono ?_);rintro e u ⟨AW,cW,AC,cC,rfl,sW,sC,oW,oC,pP⟩))
 refine bI (fun u1 _ kp=>?_)
 go_upto_region 11 with(first|(go_at_call 60;(with_reducible refine(Eo hf hs Z lS DI).mono ?_);rintro e u ⟨AO,cO,rfl,sO,oO,pO⟩)|(go_at_call 61;(with_reducible refine(Tz hf hs Z lS).mono ?_);rintro e u ⟨rfl,_⟩))
 refine bI (fun v _ kv=>?_);obtain⟨g,hg⟩:=lg u.heap.size;have hgu:u.heap.size<=g:=lH hg.symm;have hI0:rP v g (fD::([]++List.replicate (m-0) fD)):=by rw[hg];exact rP.new (k:=m+1) kv.blk
 rw[<-hg];clear Uw hg kv
 go_wp2_with fail
 go_loopw [46] (fun i wr=>∃(j:Nat) (ts:List Sp),j<=m/\i=.int .i64 j/\Hid (ts.length=j/\aJ ts=(N.nodes.take j).map (·.ins))/\Hid (rP wr g (fD::(ts++List.replicate (m-j) fD)))/\ak wr u) (fun i _=>m-(intOf i).toNat)
 case atStart=>exact⟨0,[],aS _,rfl,ae ⟨rfl,rfl⟩,ae hI0,ai _ _⟩
 case round=>
  clear hI0;obtain⟨j,ts,hj,rfl,r,U,hp⟩:=hrel;by_cases hlt:j<m
  ·obtain⟨b0,q0,o,A1,n1,c1,I,ni,ci,ins,P,np,cp,ps,rfl,ob,⟨v0,v1,v2,v3,v4,v5,v6,v7,v8,Ed⟩,s1,si,sp,l1,li,lp,ik,hnd⟩:=a.node hlt;have hni:ni<=1000:=by have:=hs.out.2 _ (aK hnd.out);rw[si.len];exact this
   have HT:Hid ((fP (fD::(ts++List.replicate (m-j) fD)))[j+1]?=some (.slice none 0 0)):=ae (by
    rw[zm (x:=fD)]
    ·rfl
    ·rw[CY,lC (by rw[r.out.1];exact az _),r.out.1,l9,sj,if_pos om])
   have hgw:g<wr.heap.size:=U.out.blk.lt
   go_wp2_with (go_at_call 86;refine(agU om).mono ?_;rintro e V ⟨AK,cK,rfl,oK,pK⟩;obtain⟨hI9,hc9,hf9⟩:rP V g _/\V.cell? ⟨g,j+1,none⟩=some (.slice none 0 0)/\V.frozen? ⟨g,j+1,none⟩=false:=⟨U.out.at,(U.out.at (w':=V)).blk.cell (j+1)|>.trans HT.out,(U.out.at (w':=V)).blk.frozen (j+1)⟩)
   have S:=hI9.aF (x:=⟨AK,ins.length,cK,ins⟩) (j+1) oK.rd rfl oK.uB (oK.YF.less (aZ (Nat.succ_le_of_lt hgw) aH));rw[an2 _ r.out.1 hlt]at S;have rQ:=ae S;have HZ9:Hid ((ts++[(⟨AK,ins.length,cK,ins⟩:Sp)]).length=j+1/\aJ (ts++[(⟨AK,ins.length,cK,ins⟩:Sp)])=(N.nodes.take (j+1)).map (·.ins)):=ae (by
    refine⟨by simp[r.out.1],?_⟩;rw[vO,hnd.out,gV,<-r.out.2];simp[aJ])
   clear S;go_roundw
   case rel=>exact⟨j+1,_,om,by go_num,HZ9,rQ,⟨(aL u V).setCell (p:=⟨g,j+1,none⟩) hgu _⟩⟩
   case measure=>simp[intOf];omega
  ·obtain rfl:j=m:=om;have hS:rP wr g (fD::ts):=by have:=U.out;rwa[l9,List.replicate_zero,oV]at this
   have hP:jV wr ⟨AW,cW,AC,cC,some ⟨g,0,none⟩,j+1,AO,cO⟩ j ⟨W,C,[]::N.nodes.map (·.ins),O,l,cap⟩ (fD::ts):=by
    refine⟨iin,iin,⟨hS.Gh.rd,by simp[r.out.1]⟩,?_,iin,?_,?_,hm,?_⟩
    ·show[]::aJ ts=_
     rw[r.out.2,Q.out,jq]
    ·rw[Q.out];exact pV.out.vk
    ·intro z M;rcases dz.1 M with rfl|M
     ·simp
     ·obtain⟨v,hv,rfl⟩:=dG.1 M;exact⟨hs.out.2 v hv,fun y hy=>by rw[Q.out];exact pV.out.iR v hv y hy⟩
    ·intro z M;have M:z∈W:=M;rw[HW4.out]at M;obtain⟨y,hy,rfl⟩:=dG.1 M;exact an3 (HR4.out y hy)
   have HP:=ae hP;have Js:∀W:World,(Instr.makeSlice 106 (.int .i64 ((j:Int)+1)) (.int .i64 ((j:Int)+1))).run Tryz.prog W=.ok (.slice (some ⟨W.heap.size,0,none⟩) (j+1) (j+1)) (W.alloc (.cells (dL (List.replicate (j+1) false)) 4)):=fun W=>by
    have h:=NI (j+1) om W;rwa[mF]at h
   clear hP hS U r
   go_upto_region 17 with fail
   refine an4 (fun x0 z0 _ kb=>?_);have Z0:=ae z0;clear z0;have HW0:Hid (ql wr x0 wr.heap.size 108 _ []):=ae ⟨iin,kb.blk,au,au,au,az _⟩
   go_upto_region 18 with fail
   refine Ux HW0.out (fun x1 z1 F=>?_);have Z1:=ae z1;clear z1;obtain⟨p1,Oj⟩:ak x1 wr/\Bx x1 wr.heap.size 108 _:=⟨F.pr,F.bx⟩;have F:=ae F
   go_upto_region 19 with fail
   refine Ux F.out (fun x2 z2 G=>?_);have Z2:=ae z2;clear z2;obtain⟨p2,uJ⟩:ak x2 wr/\Bx x2 wr.heap.size 108 _:=⟨G.pr,G.bx⟩;have G:=ae G
   go_upto_region 20 with fail
   refine Ux G.out (fun x3 z3 b=>?_);clear z3;obtain⟨p3,Gz,kP⟩:ak x3 wr/\Bx x3 wr.heap.size 108 _/\Bx x3 x0.heap.size 4 (dL (List.replicate (j+1) false)):=⟨b.pr,b.bx,⟨b.bs (x0.heap.size,4,dL (List.replicate (j+1) false)) au⟩⟩;have b:=ae b;have e0:(dL (List.replicate (j+1) false))[0]?=some (.bool false):=iN (by rw[sj,if_pos om]);have hm0:(0:Int)<(j:Int)+1:=by omega
   go_wp2_with fail
   go_ret2;have q1:x1.heap.size=wr.heap.size+1+1:=by rw[Z1.out,Z0.out]
   have q2:x2.heap.size=wr.heap.size+1+1+1:=by rw[Z2.out,q1]
   have hb:=b.out.box;have hP1:=b.out.bs (x0.heap.size,4,dL (List.replicate (j+1) false)) au;have hP2:=b.out.bs (x1.heap.size,4,dL (List.replicate (j+1) false)) au;have hP3:=b.out.bs (x2.heap.size,4,dL (List.replicate (j+1) false)) au;rw[Z0.out,q1,q2]at hb;rw[Z0.out]at hP1;rw[q1]at hP2;rw[q2]at hP3;have hS:dH wr x3 ⟨AW,cW,AC,cC,some ⟨g,0,none⟩,j+1,AO,cO⟩ j ⟨W,C,[]::N.nodes.map (·.ins),O,l,cap⟩ ⟨List.replicate (j+1) false,List.replicate (j+1) false,List.replicate (j+1) false,false,false,0,0,0⟩:=
    ⟨b.out.pr,hb,hP1,hP2,hP3,lF,lF,lF⟩
   refine⟨wr,_,_,rfl,ai _ _,by rw[Gy.out];exact HP,?_,ae (by have:=oW.uB;rw[Y.out]at this;exact this)⟩;rw[Gy.out,Z0.out];exact ae (hS.Gw 0 true)
end
def ib(C:iQ):di->List (Int×Int)->Int×di
 |s,[]=>(0,s)
 |s,x::t=>if iV C s x.1 x.2=0 then ib C (bB C s x.1 x.2) t else(iV C s x.1 x.2,s)
def JR(C:iQ)(s:di)(ps:List (Int×Int)):Int:=
 if mY ps=0 then(if(ib C s ps).1=0 then(if wL C (ib C s ps).2=true then Es C.cost ps else 28)else(ib C s ps).1)else mY ps
def nk(N:aI)(cap:Int)(ps:List (Int×Int)):Int:=if fQ N=0 then JR (aC N cap) (fG N.nodes.length) ps else fQ N
def rR(N:aI)(cap:Int)(ps:List (Int×Int)):Int×Int×Int×Int:=
 if nk N cap ps=0 then((ib (aC N cap) (fG N.nodes.length) ps).2.fE,Cw (aC N cap).cost ps,(zF 2 ps:Int),max (ib (aC N cap) (fG N.nodes.length) ps).2.fE (xU ((aC N cap).words.drop 1)))else(0,0,0,0)
structure Ey(s:di)(j:Nat):Prop where
 d0:0<=s.done
 d1:s.done<=j
 n0: -((j:Int)*1099511627776)<=s.now
 n1:s.now<=144115188075855872
section
variable{p w w' u:World}{A B K:Option Addr}{n m c d k g j:Nat}{ps:List (Int×Int)}{a:mZ}{N:aI}{C:iQ}{s:di}{ss:List Sp}{E cap P1 P2 P3 P4 kd id:Int}
theorem aoa(hP:jV p a m C ss)(q:Nat):0<=C.words.getD q 0/\C.words.getD q 0<=1099511627776:=by
 rw[aQ];cases h:C.words[q]? with
 |none=>simp
 |some z=>exact hP.wb z (aK h)
theorem CE(h:iV C s kd id=0):gK kd id=true/\id<(C.words.length:Int)/\fV C s kd id.toNat=true/\s.now+bK C s kd id.toNat<=C.cap:=by
 unfold iV at h
 split at h
 ·rename_i b
  split at h
  ·rename_i e
   split at h
   ·rename_i l;exact⟨b.1,b.2,e,l⟩
   ·exact absurd h ah
  ·exact absurd h ah
 ·exact absurd h ah
theorem acb:Ey (fG m) 0:=⟨by simp[fG],by simp[fG],by simp[fG],by simp[fG]⟩
theorem acd(hP:jV p a m C ss)(hb:Ey s j)(h:iV C s kd id=0)(e:C.cap<=144115188075855872):Ey (bB C s kd id) (j+1):=by
 obtain⟨-,-,-,l⟩:=CE h;have r:=(Uh (s:=s) hP kd id.toNat).1;have y:=aoa hP id.toNat;obtain⟨d0,d1,n0,n1⟩:=hb;unfold bB;dsimp only;have b:((j+1:Nat):Int)*1099511627776=(j:Int)*1099511627776+1099511627776:=by rw[mF,xh];omega
 (repeat' split)<;>exact⟨by dsimp only;omega,by dsimp only;omega,by rw[b];dsimp only;omega,by dsimp only;omega⟩
theorem wP{x y z v:Value}{g:Nat}[l:Later w u](hg:w.heap.size<=g):ak ((((u.setCell ⟨g,0,none⟩ x).setCell ⟨g,1,none⟩ y).setCell ⟨g,2,none⟩ z).setCell ⟨g,3,none⟩ v) w:=
 ⟨(((l.st.setCell (p:=⟨g,0,none⟩) hg _).setCell (p:=⟨g,1,none⟩) hg _).setCell (p:=⟨g,2,none⟩) hg _).setCell (p:=⟨g,3,none⟩) hg _⟩
theorem Uy[a:aX w A n B m N](hf:Hid N.fits)(hs:Hid N.small)[i:Is w K k ps](hk:k<=65536)(hc:cap<=144115188075855872)(HE:Hid (nk N cap ps=E))(HV:Hid (rR N cap ps=(P1,P2,P3,P4))):
  Calls Tryz.prog 14 #[.agg #[.slice A n c,.slice B m d],.slice K k g,cap] w (aM w (.tuple #[.agg #[P1,P2,P3,P4],E])):=by
 obtain⟨CB,CP,FB⟩:=iK;have HM:Hid (m=N.nodes.length):=ae a.len;have hE:=HE.out;have hV:=HV.out;rw[nk]at hE;by_cases c1:fQ N=0;rotate_left
 ·rw[if_neg c1]at hE;rw[rR,nk,if_neg c1,if_neg c1]at hV;have M:=ae hE;have F:E≠0:=by rw[<-hE];exact c1
  have b0:(E !=0)=true:=by simp[F]
  injection hV with v1 hV;injection hV with v2 hV;injection hV with v3 v4
  subst v1 v2 v3 v4;clear hE c1;go_enter Tryz.func14,Tryz.ntmps14
  go_upto_region 1 with fail
  refine qd (fun u0 _ kn kr=>?_)
  go_wp2_with (go_at_call 34;refine(ab9 hf hs M F cap).mono ?_;rintro e u1 ⟨rfl,_⟩)
  refine bM (v:=.tuple #[.agg #[(0:Int),(0:Int),(0:Int),(0:Int)],E]) ?_ rfl ⟨rfl,wP (fu _)⟩;rw[eG rfl];go_simp
 rw[if_pos c1]at hE;have M:=ae c1;obtain⟨O,L,l,hlv,hok,Oo,-⟩:=look_ok (Ex c1);obtain⟨o1,o2,o3,o4⟩:=JP c1 hlv hok;obtain⟨C,hC⟩:=lh (aC N cap);have G:C.cap=cap:=by rw[<-hC];rfl
 have hWl:C.words.length=m+1:=by rw[<-hC,HM.out];exact o2
 have hCl:C.cost.length=m+1:=by rw[<-hC,HM.out];exact o3
 rw[rR,nk,if_pos c1]at hV;rw[hC,<-HM.out]at hE hV;obtain⟨s0,D⟩:=lh (fG m);have I:Ey s0 0:=by rw[<-D];exact acb
 rw[D]at hE hV;rw[hE]at hV;have HC:=ae hC;have vE:=ae D;have HCP:=ae G;have Q:Hid (C.words.length=m+1):=ae hWl;have Az:Hid (k=ps.length):=ae i.len;clear hlv hok Oo o1 o2 o3 o4 c1 D G hWl hCl hC HE HV;rw[JR]at hE;obtain⟨ce,R⟩:=lh (mY ps);rw[R]at hE;have Oq:=ae R;clear R;go_enter Tryz.func14,Tryz.ntmps14
 go_upto_region 1 with fail
 refine qd (fun u0 _ kn kr=>?_)
 go_upto_region 2 with(go_at_call 34;refine(aca hf hs M cap).mono ?_;rintro e u1 ⟨p,a,ss,rfl,pp,z,r,Ob⟩)
 rw[HC.out]at z r;rw[vE.out]at r;have pu:ak u1 p:=r.out.prev;have hwp:w.heap.size+1<p.heap.size:=(iin:Bx p (w.heap.size+1) _ _).blk.lt;by_cases F:ce=0;rotate_left
 ·rw[if_neg F]at hE;subst hE;rw[if_neg F]at hV;injection hV with v1 hV;injection hV with v2 hV;injection hV with v3 v4
  subst v1 v2 v3 v4;have b0:(ce !=0)=true:=by simp[F]
  clear F
  go_wp2_with (go_at_call 33;refine(Cx hk Oq).mono ?_;rintro e u2 ⟨rfl,_⟩)
  refine bM (v:=.tuple #[.agg #[(0:Int),(0:Int),(0:Int),(0:Int)],ce]) ?_ rfl ⟨rfl,wP (fu _)⟩;rw[eG rfl];go_simp
 subst F;rw[if_pos rfl]at hE;have S:=ae hE;have T:=ae hV;have HB0:=ae I;clear hE hV I
 go_wp2_with (go_at_call 33;refine(Cx hk Oq).mono ?_;rintro e u2 ⟨rfl,_⟩)
 have HS2:=ae (r.out.at (w':=u2));go_loopw [34] (fun t wr=>∃(j:Nat) (s:di),j<=k/\t=.int .i64 j/\Hid (dH p wr a m C s)/\Hid (Ey s j)/\Hid (ib C s (ps.drop j)=ib C s0 ps)) (fun t _=>k-(intOf t).toNat)
 case atStart=>exact⟨0,s0,aS _,rfl,HS2,HB0,ae rfl⟩
 case round=>
  clear r HS2 HB0 pu;obtain⟨j,s,hj,rfl,r,HB,HG⟩:=hrel;have pw:ak wr p:=r.out.prev;by_cases hlt:j<k
  ·obtain⟨b1,o1,kd,id,rfl,vX,v1,v2,e1⟩:=i.get hlt;have hdr:ps.drop j=(kd,id)::ps.drop (j+1):=by
    obtain⟨h1,h2⟩:=aY.1 e1.out;rw[jE h1,h2]
   obtain⟨de,U⟩:=lh (iV C s kd id);have hg:=HG.out;rw[hdr,ib,U]at hg;have V:=ae U;clear U hdr;by_cases d0:de=0
   ·subst d0;rw[if_pos rfl]at hg;have HG2:=ae hg;have HB2:=ae (acd z.out HB.out V.out (by rw[HCP.out];exact hc));obtain⟨q1,q2,q3,q4⟩:=CE V.out;have Uz:=ae q1;have JG:Hid (id<=(m:Int)):=ae (by rw[Q.out]at q2;omega);have JH:=ae q3;have UA:=ae q4;have J:Hid (-144115188075855872<=s.now/\s.now<=144115188075855872/\0<=s.done/\s.done<=1000000):=ae (by obtain⟨x1,x2,x3,x4⟩:=HB.out;omega);clear hg q1 q2 q3 q4
    go_wp2_with (go_at_call 35;refine(abK z.out r.out.at Uz.out JG.out JH J.out.2.2.1 J.out.2.2.2 J.out.1 J.out.2.1 UA.out (by rw[HCP.out];exact hc)).mono ?_;rintro e u5 ⟨rfl,rO⟩)
    go_roundw
    case rel=>exact⟨j+1,_,om,by go_num,ae rO,HB2,HG2⟩
    case measure=>simp[intOf];omega
   ·rw[if_neg d0]at hg;have hE:=S.out;have hV:=T.out;rw[<-hg,if_neg d0]at hE;subst hE;rw[if_neg d0]at hV;injection hV with v1 hV;injection hV with v2 hV;injection hV with v3 v4
    subst v1 v2 v3 v4;have b0:(de !=0)=true:=by simp[d0]
    have HD0:=ae d0;have J:Hid (-144115188075855872<=s.now/\s.now<=144115188075855872/\0<=s.done/\s.done<=1000000):=ae (by obtain⟨x1,x2,x3,x4⟩:=HB.out;omega);clear hg d0
    go_wp2_with (go_at_call 35;refine(abP z.out r.out.at V.out HD0.out J.out.2.2.1 J.out.1 J.out.2.1).mono ?_;rintro e u5 ⟨rfl,_⟩)
    refine bM (v:=.tuple #[.agg #[(0:Int),(0:Int),(0:Int),(0:Int)],de]) ?_ rfl ⟨rfl,wP (fu _)⟩;rw[eG rfl];go_simp
  ·obtain rfl:j=k:=om;have hg:=HG.out;rw[Az.out,Ff,ib]at hg;have hE:=S.out;have hV:=T.out;rw[<-hg]at hE hV;dsimp only at hE hV;rw[if_pos rfl]at hE;have kS:Bx wr p.heap.size 108 (jW p a m C s):=⟨r.out.st⟩;obtain⟨wb,X⟩:=lh (wL C s);rw[X]at hE;have Y:=ae X;clear hg S T X;cases wb
   case false=>
    rw[if_neg ah]at hE;subst hE;rw[if_neg ah]at hV;injection hV with v1 hV;injection hV with v2 hV;injection hV with v3 v4
    subst v1 v2 v3 v4
    go_wp2_with (go_at_call 36;refine(Ua z.out r.out Y).mono ?_;rintro e u5 ⟨rfl,_⟩)
    refine bM (v:=.tuple #[.agg #[(0:Int),(0:Int),(0:Int),(0:Int)],(28:Int)]) ?_ rfl ⟨rfl,wP (fu _)⟩;rw[eG rfl];go_simp
   case true=>
    rw[if_pos rfl]at hE;have HCO:=ae hE;obtain⟨cv,Z⟩:=lh (Cw C.cost ps);have JF:=ae Z;rw[Z]at hV;clear Z hE;have sC:Sl p a.AC (m+1) C.cost:=z.out.cost;have sWd:Sl p a.AW (m+1) C.words:=z.out.words;by_cases e0:E=0;rotate_left
    ·rw[if_neg e0]at hV;injection hV with v1 hV;injection hV with v2 hV;injection hV with v3 v4
     subst v1 v2 v3 v4;have b0:(E !=0)=true:=by simp[e0]
     clear e0
     go_wp2_with (first|(go_at_call 36;refine(Ua z.out r.out Y).mono ?_;rintro e u5 ⟨rfl,_⟩)|(go_at_call 37;refine(aby hk JF HCO).mono ?_;rintro e u6 ⟨rfl,_⟩))
     refine bM (v:=.tuple #[.agg #[(0:Int),(0:Int),(0:Int),(0:Int)],E]) ?_ rfl ⟨rfl,wP (fu _)⟩;rw[eG rfl];go_simp
    subst e0;rw[if_pos rfl]at hV;injection hV with v1 hV;injection hV with v2 hV;injection hV with v3 v4
    have HV4:=ae v4;obtain⟨q,hq⟩:=lh (zF 2 ps);rw[hq]at v3;have Ak:=ae hq;subst v1 v2 v3;clear v4 hq
    go_upto_region 19 with(first|(go_at_call 36;refine(Ua z.out r.out Y).mono ?_;rintro e u5 ⟨rfl,_⟩)|(go_at_call 37;refine(aby hk JF HCO).mono ?_;rintro e u6 ⟨rfl,_⟩))
    obtain⟨A',hsl,hrd⟩:=ahZ (P:=Tryz.prog) 24 aj aj a.AW (m+1) a.cW 1 1 rfl om Ob.out;rw[show m+1-1=m from rfl]at hsl;have sD:Sl u6 A' m (C.words.drop 1):=⟨hrd u6 C.words Q.out (sWd.rd.below (aL p u6)),by simp[Q.out]⟩;obtain⟨MV,UB⟩:=lh (xU (C.words.drop 1));have uL:=ae UB;have HP4:Hid (max s.fE MV=P4):=ae (by rw[<-UB];exact HV4.out);have QF:m<=1000:=z.out.hm;clear UB hrd;refine eU u6 aj (fun ux _=>?_);refine ag 0 63 ?_;refine ag 1 64 ?_;refine ag 2 65 ?_;refine ag 3 66 ?_;refine ag 4 67 ?_;refine ag 5 68 ?_;refine ag 6 69 ?_;refine ag 7 70 ?_;refine ag 8 71 ?_;refine ay 9 fun K hK=>?_;go_simp
    (with_reducible refine(amy om uL).mono ?_)
    rintro e ux ⟨rfl,_⟩;dsimp only;refine av hK ?_;clear hK K;refine ag 10 73 ?_;refine ag 11 15 ?_;refine aO ?_;rw[HP4.out];obtain⟨x1,rfl⟩:=lg ux
    go_upto_region 20 with fail
    have kS1:Bx x1 p.heap.size 108 (jW p a m C s):=iin;have kR1:Bx x1 (w.heap.size+1) 45 #[(0:Int),(0:Int),(0:Int),(0:Int)]:=iin;have hne:p.heap.size≠w.heap.size+1:=om;refine j6 w (fun w9=>Bx w9 p.heap.size 108 (jW p a m C s)) aj iin (fun uy _=>?_);refine bA 0 74 ?_;refine bA 1 75 ?_;refine bA 2 76 ?_;refine bA 3 77 ?_;refine bA 4 78 ?_;refine bA 5 79 ?_;refine bA 7 81 ?_;refine ay 6 fun K hK=>?_;go_simp
    (with_reducible refine(am2 hk Ak).mono ?_)
    rintro e uy ⟨rfl,_⟩;dsimp only;refine av hK ?_ ⟨ai w _,iin⟩;clear hK K;refine bA 8 82 ?_;refine ay 9 fun K hK=>?_;go_simp;obtain⟨u8,y⟩:=lg ((((uy.setCell ⟨w.heap.size+1,0,none⟩ (.int .i64 s.fE)).setCell ⟨w.heap.size+1,1,none⟩ (.int .i64 cv)).setCell ⟨w.heap.size+1,2,none⟩ (.int .i64 (q:Int))).setCell ⟨w.heap.size+1,3,none⟩ (.int .i64 P4));rw[<-y];have JS:ak u8 w:=by rw[y];exact wP (fu _)
    have Su8:∀b,b<uy.heap.size->b≠w.heap.size+1->(World.heap u8)[b]?=uy.heap[b]?:=fun b _ hb=>by rw[y];exact(((dM _ ⟨w.heap.size+1,3,none⟩ _ b hb).trans (dM _ ⟨w.heap.size+1,2,none⟩ _ b hb)).trans (dM _ ⟨w.heap.size+1,1,none⟩ _ b hb)).trans (dM _ ⟨w.heap.size+1,0,none⟩ _ b hb)
    have Ku8:Bx u8 (w.heap.size+1) _ #[s.fE,cv,q,P4]:=⟨by rw[y];exact((((Bx.blk (w:=uy) (g:=w.heap.size+1)).aF 0 _).aF 1 _).aF 2 _).aF 3 _⟩;have K7:Bx u8 p.heap.size 108 (jW p a m C s):=⟨(Su8 _ (Bx.blk (w:=uy) (g:=p.heap.size)).lt hne).trans (Bx.blk (w:=uy))⟩;refine av hK ?_ ⟨JS,K7⟩;clear hK K y;refine bA 10 7 ?_;refine aO ?_
    go_wp2_with fail
    refine bM (v:=.tuple #[.agg #[s.fE,cv,q,P4],(0:Int)]) ?_ rfl ⟨rfl,JS⟩;rw[eG rfl];go_simp
end
end Go.Proofs.YtmkjnlifimffkaaGreat
