/- Lemmas. -/
import Derived.Test.YtmkjnlifimffkaaGreatS24
namespace Go.Proofs.YtmkjnlifimffkaaGreat
open Go.RowKit Tryz
set_option linter.all false
set_option maxRecDepth 100000
set_option maxHeartbeats 0
variable{Γ:Prop}
attribute[local irreducible]Calls
variable{X p u w w' w0:World}{A B:Option Addr}{c d g i j k l m n:Nat}{ss:List Sp}{N:bm}{O:List Int}{L:List (List Int)}{E:Int}{cs ds:Array Value}{v:Value}
structure tm(w:World)(g:Nat)(ss:List Sp):Prop where
 ak:az w g 24 (gR ss)
 el:∀x∈ss,Rd w x.A x.zs/\x.m=x.zs.length/\x.m<=x.c/\bG (g+1) x.A
def dt(N:bm)(cap:Int):ju:=⟨(ly N).1,(ly N).2.1,[]::N.nodes.map (·.ins),eL N,(fj N).toNat,cap⟩
def l6(m:Nat):jv:=⟨(List.replicate (m+1) false).set 0 true,List.replicate (m+1) false,List.replicate (m+1) false,false,false,0,0,0⟩
def YJ(w:aa)(N:bm)(m:Nat)(cap:Int)(e:Ending)(w':aa):Prop:=
 ∃(p:aa) (a:oX) (b:List Sp),e=.returned (.tuple #[.pointer p.1.size,an])/\aj p w/\Hx (lF p a m (dt N cap) b)/\Hx (ec p w' a m (dt N cap) (l6 m))/\Hx (m+1<=a.cW)
variable{t:Nat}{x:Sp}{T:Int}{W C:List Int}
def IV(k:Nat)(j:k<=1000000)(W:aa):(Instr.makeSlice 105 (k:Int) (k:Int)).run prog W=.ok (W,k,k) (W.alloc (.cells (gR (List.replicate k dM)) 24)):=by
 obtain⟨i,hi,b⟩:=bt.1 (show(prog.info? 24).map (λi=>(i.zero,i.size,i.bytes))=some (some (.slice none 0 0),1,24)from by kernel_rfl);simp only[eP]at b;obtain⟨e,hs,hb⟩:=b;have:=lQ (P:=prog) W 105 24 i _ underlying105 hi e .i64 .i64 k k om (eI _) (by rw[hs];simp;omega) (by rw[hb];simp;omega);rw[hs]at this;rw[<-Du];simpa[Value.cells]using this om
def tm.at(h:tm w g ss)[l:aT w w']:tm w' g ss:=⟨h.ak.at,λx b=>⟨(h.el x b).1.below l.st,(h.el x b).2⟩⟩
def tm.new(hg:az w g 24 (gR (List.replicate k dM))):tm w g (List.replicate k dM):=⟨hg,λx b=>by rw[eH b];exact⟨Rd.nil _ _,rfl,al _,bG.none⟩⟩
def tm.av(h:tm w g ss)(j:Nat)(hr:Rd w x.A x.zs)(hm:x.m=x.zs.length)(z:x.m<=x.c)(e:bG (g+1) x.A):tm (w.setCell (g,j) (.slice x.A x.m x.c)) g (ss.set j x):=by
 have aY:∀{A:bF} {zs:au},Rd w A zs->bG (g+1) A->Rd (w.setCell (g,j) (.slice x.A x.m x.c)) A zs:=λ{A zs} hr e=>
  ((⟨hr,rfl⟩:Sl w A zs zs).setCell (p:=⟨g,j,none⟩) e (o9 g) _).rd
 refine⟨by rw[<-Ah];exact h.ak.av _ _,λy r=>?_⟩;rcases hA r with r|rfl;obtain⟨a,b,c,d⟩:=h.el y r;exact⟨aY a d,b,c,d⟩;exact⟨aY hr e,hm,z,e⟩
theorem tm.PT(h:tm w g ss):dZ w g ss.length ss:=
 ⟨λj x b=>⟨g,0,rfl,h.ak.lt,by rw[cf,h.ak.cell,iP b],(h.el x (aC b)).1,(h.el x (aC b)).2.1,(h.el x (aC b)).2.2.1⟩,rfl⟩
def YK(ts:List Sp){n:Nat}(b:ts=j)(h:j<n):(dM::(ts++List.replicate (n-j) dM)).set (j+1) x=dM::((ts++[x])++List.replicate (n-(j+1)) dM):=by
 rw[EC,show n-j=(n-(j+1))+1 from om,jA,lA _ _ om,b,fe,iS];simp
def QC{z:au}(h:aA z=true):0<=bz z/\bz z<=1099511627776:=by
 obtain⟨e,j,b,r⟩:=(a2 z).1 h;rw[bz,ah h];have:=(CP z b).1;omega
def w6:∀{L:f0},eV L=0->∀z∈L,aA z=true
 |[],_,_,h=>by cases h
 |z::t,h,y,hy=>
  by
   rw[eV]at h;(have b:cA z=0:=by by_cases e:cA z=0;exact e;rw[ag e]at h;exact h);rw[ah b]at h;rcases cw.1 hy with rfl|hy
   .unfold cA at b;split at b;rename_i j;exact j;exact absurd b am
   exact w6 h y hy
def mU(h:iR N=0):bo N=0:=by
 by_cases b:bo N=0;exact b;rw[iR,ag b]at h;exact h
def uV(h:iR N=0)(b:dB N=(O,L,(l:Int)))(e:dF N O L l):
  (ly N).1=L.map bz/\(ly N).1.length=N.nodes+1/\(ly N).2.1.length=N.nodes+1/\∀z∈L,aA z=true:=by
 have y:=mU h;have hs:eV L=0:=by rw[iR,ah y,b,IL]at h;dsimp only at h;by_cases j:eV L=0;exact j;rw[ag j]at h;exact h
 have r:(ly N).1=L.map bz:=by rw[ly,if_pos h,b];dsimp only;rw[kP,if_pos hs]
 exact⟨r,by rw[r,bj,e.len],by rw[ly,ah h];simp[j3],w6 hs⟩
def QD{Q:World->Prop}{T:TypeId}(h:∀u,u.1.size=X.1.size+1->aj u X->Bx u X.1.size T cs->Q u):Q (X.alloc (.cells cs T)):=h _ aD (aF) aq
def v9{Q:World->Prop}{p:aa}{t:Nat}{T U:TypeId}{gs:List (Nat×TypeId×Array Value)}(h:re p X t T cs gs)
  (k:∀u,u.1.size=X.1.size+1->re p u t T (cs.setIfInBounds i v) ((X.1.size,U,ds)::gs)->Q u):Q ((X.alloc (.cells ds U)).setCell (t,i) v):=
 k _ aD ((h.mk' (w':=X.alloc (.cells ds U)) Bx.ak).set i v)
def A6[aW w A n B m N](D:Hx N.fits)(hs:Hx N.small)(b:Hx (iR N=E))(r:E≠0)(cap:Int):() 34 #[.agg #[(A,n,c),(B,m,d)],cap] w (aJ w (.tuple #[.pointer none,E])):=by
 have F:=@ay;have G:=@aO;have y:Hx (ly N=([],[],0)):=ae (by rw[ly,b.o,ag r]);have j:Hx (([]:au).length=0):=rfl;have z:=j;have I:(E !=0)=true:=by simp[r]
 clear r;go_in;go_upto_region 1 with fail;refine aE (λJ _ K=>?_);go_upto_region 2 with(go_at_call 9;refine(rZ D hs b y j z).mono ?_;rintro e u ⟨AW,cW,AC,cC,rfl,M,P,Q,R,S⟩);refine aE (λU _ kp=>?_);go_wp2_with fail;go_ret2;exact bB
def NO[a:aW w A n B m N](hf:Hx N.fits)(hs:Hx N.small)(J:Hx (iR N=0))(cap:Int):() 34 #[.agg #[(A,n,c),(B,m,d)],cap] w (YJ w N m cap):=by
 obtain⟨CB,CP,FB⟩:=ia;have M:Hx (m=N.nodes):=a.len;have hm:m<=1000:=by rw[M.o];exact hs.o.1
 obtain⟨O,L,l,Q,D,V,-⟩:=look_ok (mU J);obtain⟨o1,o2,o3,o4⟩:=uV J Q D;obtain⟨⟨W,C,T⟩,K⟩:=lh (ly N);have XY:=ae K;rw[K]at o1 o2 o3;have X:Hx (W.length=m+1):=ae (by rw[M.o];exact o2);have HCL:Hx (C=m+1):=ae (by rw[M.o];exact o3);have Y:=ae (mU J);have Z:=ae Q;have lZ:=ae D;have Kr:Hx (O=m):=ae (by rw[D.sB,M.o]);have Qy:Hx (dt N cap=⟨W,C,[]::N.nodes.map (·.ins),O,l,cap⟩):=ae (by rw[dt,K,D.ord,D.fj,aZ]);have HW4:Hx (W=L.map bz):=o1;have HR4:Hx (∀z∈L,aA z=true):=o4;have UK:∀W:World,(Instr.makeSlice 105 ((m:Int)+1:Int) ((m:Int)+1:Int)).run prog W=.ok (.slice (some ⟨W.1.size,0,none⟩) (m+1) (m+1)) (W.alloc (.cells (gR (List.replicate (m+1) dM)) 24)):=λW=>by have h:=IV (m+1) om W;rwa[ee]at h
 clear K o1 o2 o3 o4 Q D V;go_in;go_upto_region 1 with fail;refine aE (λu0 _ kn=>?_);go_upto_region 2 with(go_at_call 9;refine(rZ hf hs J XY X HCL).mono ?_;rintro e u ⟨AW,cW,AC,cC,rfl,sW,sC,oW,oC,pP⟩);refine aE (λu1 _ kp=>?_);go_upto_region 11 with(first|(go_at_call 60;refine(kA hf hs Y Z Kr).mono ?_;rintro e u ⟨AO,cO,rfl,sO,oO,pO⟩)|(go_at_call 61;refine(yE hf hs Y Z).mono ?_;rintro e u ⟨rfl,_⟩));refine aE (λv _ kv=>?_);obtain⟨g,hg⟩:=lg u.1.size;have Uu:u.1.size<=g:=ei hg.symm;have hI0:tm v g (dM::([]++List.replicate (m-0) dM)):=by rw[hg];exact tm.new (k:=m+1) kv.ak
 rw[<-hg];clear UK hg kv;go_wp2_with fail;go_loopw [46] (λi wr=>∃(j:Nat) (ts:List Sp),j<=m/\i=.int .i64 j/\Hx (ts=j/\aS ts=(N.nodes.take j).map (·.ins))/\Hx (tm wr g (dM::(ts++List.replicate (m-j) dM)))/\aj wr u) (λi _=>m-(intOf i).toNat);exact⟨0,[],aM _,rfl,ae ⟨rfl,rfl⟩,ae hI0,aF⟩;clear hI0;obtain⟨j,ts,hj,rfl,r,S,hp⟩:=hrel;by_cases bE:j<m
 .obtain⟨b0,q0,o,A1,n1,c1,I,ni,ci,ins,P,np,cp,ps,rfl,ob,⟨v0,v1,v2,v3,v4,v5,v6,v7,v8,Lz⟩,s1,si,sp,l1,li,lp,ik,oj⟩:=a.node bE;have qm:ni<=1000:=by have:=hs.o.2 _ (aC oj.o);rw[si.len];exact this
  have HT:Hx ((gR (dM::(ts++List.replicate (m-j) dM)))[j+1]?=some (.slice none 0 0)):=ae (by
   rw[iP (x:=dM)]
   .rfl
   .rw[o5,eE (by rw[r.o.1];exact al _),r.o.1,fe,jy,ah om])
  have xj:g<wr.1.size:=S.o.ak.lt;go_wp2_with (go_at_call 86;refine(Kk om).mono ?_;rintro e U ⟨AK,cK,rfl,oK,pK⟩;obtain⟨hI9,hc9,hf9⟩:tm U g _/\U.cell? (g,j+1)=some (.slice none 0 0)/\U.frozen? ⟨g,j+1,none⟩=false:=⟨S.o.at,(S.o.at (w':=U)).ak.cell (j+1)|>.trans HT,(S.o.at (w':=U)).ak.frozen (j+1)⟩)
  have R:=hI9.av (x:=⟨AK,ins.length,cK,ins⟩) (j+1) oK.rd rfl oK.ii (oK.fre.less (aL (Nat.succ_le_of_lt xj) ai));rw[YK _ r.o.1 bE]at R;have Gy:=ae R;have HZ9:Hx ((ts++[(⟨AK,ins.length,cK,ins⟩:Sp)]).length=j+1/\aS (ts++[(⟨AK,ins.length,cK,ins⟩:Sp)])=(N.nodes.take (j+1)).map (·.ins)):=ae (by
   refine⟨by simp[r.o.1],?_⟩;rw[jC,oj.o,c9,<-r.o.2];simp[aS])
  clear R;go_roundw;exact⟨j+1,_,om,by go_num,HZ9,Gy,⟨(aP u U).setCell (p:=⟨g,j+1,none⟩) Uu _⟩⟩;simp[intOf];omega
 obtain rfl:j=m:=om;have hS:tm wr g (dM::ts):=by have:=S.o;rwa[fe,List.replicate_zero,en]at this
 have hP:lF wr ⟨AW,cW,AC,cC,some ⟨g,0,none⟩,j+1,AO,cO⟩ j ⟨W,C,[]::N.nodes.map (·.ins),O,l,cap⟩ (dM::ts):=by refine⟨aq,aq,⟨hS.PT.rd,by simp[r.o.1]⟩,?_,aq,?_,?_,hm,?_⟩;show[]::aS ts=_;rw[r.o.2,M.o,dR];rw[M.o];exact lZ.o.lE;intro z hz;rcases cw.1 hz with rfl|hz;simp;obtain⟨v,hv,rfl⟩:=bw.1 hz;exact⟨hs.o.2 v hv,λy hy=>by rw[M.o];exact lZ.o.kc v hv y hy⟩;intro z hz;have hz:z∈W:=hz;rw[HW4.o]at hz;obtain⟨y,hy,rfl⟩:=bw.1 hz;exact QC (HR4.o y hy)
 have HP:=ae hP;have Ak:∀W:World,(Instr.makeSlice 106 ((j:Int)+1:Int) ((j:Int)+1:Int)).run prog W=.ok (.slice (some ⟨W.1.size,0,none⟩) (j+1) (j+1)) (W.alloc (.cells (eu (List.replicate (j+1) false)) 4)):=λW=>by have h:=nE (j+1) om W;rwa[ee]at h
 clear hP hS S r;go_upto_region 17 with fail;refine QD (λx0 z0 _ kb=>?_);have Z0:=ae z0;clear z0;have HW0:Hx (re wr x0 wr.1.size 108 _ []):=ae ⟨aq,kb.ak,aD,aD,aD,al _⟩;go_upto_region 18 with fail;refine v9 HW0 (λx1 z1 F=>?_);have Z1:=ae z1;clear z1;obtain⟨p1,kb1⟩:aj x1 wr/\Bx x1 wr.1.size 108 _:=⟨F.pr,F.bx⟩;have F:=ae F;go_upto_region 19 with fail;refine v9 F (λx2 z2 G=>?_);have Z2:=ae z2;clear z2;obtain⟨p2,zh⟩:aj x2 wr/\Bx x2 wr.1.size 108 _:=⟨G.pr,G.bx⟩;have G:=ae G;go_upto_region 20 with fail;refine v9 G (λx3 z3 b=>?_);clear z3;obtain⟨p3,UL,kP⟩:aj x3 wr/\Bx x3 wr.1.size 108 _/\Bx x3 x0.1.size 4 (eu (List.replicate (j+1) false)):=⟨b.pr,b.bx,⟨b.bs (x0.1.size,4,eu (List.replicate (j+1) false)) aD⟩⟩;have b:=ae b;have e0:(eu (List.replicate (j+1) false))[0]?=some (.bool false):=cj (by rw[jy,ah om]);have hm0:(0:Int)<(j:Int)+1:=by omega
 go_wp2_with fail;go_ret2;have q1:x1.1.size=wr.1.size+1+1:=by rw[Z1.o,Z0.o]
 have q2:x2.1.size=wr.1.size+1+1+1:=by rw[Z2.o,q1]
 have hb:=b.o.box;have Ca:=b.o.bs (x0.1.size,4,eu (List.replicate (j+1) false)) aD;have hP2:=b.o.bs (x1.1.size,4,eu (List.replicate (j+1) false)) aD;have hP3:=b.o.bs (x2.1.size,4,eu (List.replicate (j+1) false)) aD;rw[Z0.o,q1,q2]at hb;rw[Z0.o]at Ca;rw[q1]at hP2;rw[q2]at hP3
 have hS:ec wr x3 ⟨AW,cW,AC,cC,some ⟨g,0,none⟩,j+1,AO,cO⟩ j ⟨W,C,[]::N.nodes.map (·.ins),O,l,cap⟩ ⟨List.replicate (j+1) false,List.replicate (j+1) false,List.replicate (j+1) false,false,false,0,0,0⟩:=
  ⟨b.o.pr,hb,Ca,hP2,hP3,eY,eY,eY⟩
 refine⟨wr,_,_,rfl,aF,by rw[Qy.o];exact HP,?_,ae (by have:=oW.ii;rw[X.o]at this;exact this)⟩;rw[Qy.o,Z0.o];exact ae (hS.DH 0 true)
variable{s:jv}{P1 P2 P3 P4 cap id kd:Int}
def gy(C:ju):jv->List (Int×Int)->Int×jv
 |s,[]=>(0,s)
 |s,x::t=>if lG C s x.1 x.2=0 then gy C (g4 C s x.1 x.2) t else(lG C s x.1 x.2,s)
def Gz(C:ju)(s:jv)(ps:List (Int×Int)):Int:=
 if e7 ps=0 then(if(gy C s ps).1=0 then(if nJ C (gy C s ps).2=true then AN C.cost ps else 28)else(gy C s ps).1)else e7 ps
def mV(N:bm)(cap:Int)(ps:List (Int×Int)):Int:=if iR N=0 then Gz (dt N cap) (l6 N.nodes.length) ps else iR N
def rf(N:bm)(cap:Int)(ps:List (Int×Int)):Int×Int×Int×Int:=
 if mV N cap ps=0 then((gy (dt N cap) (l6 N.nodes.length) ps).2.kb,uN (dt N cap).cost ps,(sA 2 ps:Int),max (gy (dt N cap) (l6 N.nodes.length) ps).2.kb (q6 ((dt N cap).words.drop 1)))else(0,0,0,0)
structure A7(s:jv)(j:Nat):Prop where
 d0:0<=s.done
 d1:s.done<=j
 n0: -((j:Int)*1099511627776)<=s.now
 n1:s.now<=144115188075855872
variable{K:Option Addr}{ps:List (Int×Int)}{a:oX}{C:ju}
def UM(hP:lF p a m C ss)(q:Nat):0<=C.words.getD q 0/\C.words.getD q 0<=1099511627776:=by
 rw[aQ];cases h:C.words[q]? with
 |none=>simp
 |some z=>exact hP.wb z (aC h)
def r4(h:lG C s kd id=0):fC kd id=true/\id<(C.words.length:Int)/\dY C s kd id.toNat=true/\s.now+ev C s kd id.toNat<=C.cap:=by
 unfold lG at h;split at h
 .rename_i b;split at h
  .rename_i e;split at h;rename_i l;exact⟨b.1,b.2,e,l⟩;exact absurd h am
  exact absurd h am
 exact absurd h am
def NP:A7 (l6 m) 0:=⟨by simp[l6],by simp[l6],by simp[l6],by simp[l6]⟩
def A8(hP:lF p a m C ss)(hb:A7 s j)(h:lG C s kd id=0)(e:C.cap<=144115188075855872):A7 (g4 C s kd id) (j+1):=by
 obtain⟨-,-,-,l⟩:=r4 h;have r:=(AX (s:=s) hP kd id.toNat).1;have y:=UM hP id.toNat;obtain⟨d0,d1,n0,n1⟩:=hb;unfold g4;dsimp only;have b:((j+1:Nat):Int)*1099511627776=(j:Int)*1099511627776+1099511627776:=by rw[ee,iV];omega
 (repeat' split)<;>exact⟨by dsimp only;omega,by dsimp only;omega,by rw[b];dsimp only;omega,by dsimp only;omega⟩
theorem jd{x y z:Value}{g:Nat}[l:aT w u](hg:w<=g):aj ((((u.setCell (g,0) x).setCell (g,1) y).setCell (g,2) z).setCell (g,3) v) w:=
 ⟨(((l.st.setCell (p:=⟨g,0,none⟩) hg _).setCell (p:=⟨g,1,none⟩) hg _).setCell (p:=⟨g,2,none⟩) hg _).setCell (p:=⟨g,3,none⟩) hg _⟩
def xZ0(h:Γ:=by refine aX (v:=.tuple #[.agg #[an,an,an,an],E]) ?_ rfl ⟨rfl,jd (cz _)⟩;rw[cF rfl];go_simp):=h
def xZ1(h:Γ:=by obtain⟨x1,x2,x3,x4⟩:=HB.o;omega):=h
def GA[a:aW w A n B m N](hf:Hx N.fits)(hs:Hx N.small)[i:Is w K k ps](hk:k<=65536)(hc:cap<=144115188075855872)(HE:Hx (mV N cap ps=E))(HV:Hx (rf N cap ps=(P1,P2,P3,P4))):
  () 14 #[.agg #[(A,n,c),(B,m,d)],.slice K k g,cap] w (aJ w (.tuple #[.agg #[P1,P2,P3,P4],E])):=by
 obtain⟨CB,CP,FB⟩:=ia;have HM:Hx (m=N.nodes):=a.len;have hE:=HE.o;have hV:=HV.o;rw[mV]at hE;by_cases c1:iR N=0;rotate_left
 .rw[ag c1]at hE;rw[rf,mV,ag c1,ag c1]at hV;have R:=ae hE;(have I:E≠0:=by rw[<-hE];exact c1);(have b0:(E !=0)=true:=by simp[I]);injection hV with y hV;injection hV with z hV;injection hV with v3 v4;subst y z v3 v4;clear hE c1;go_in;go_upto_region 1 with fail;refine dg (λu0 _ kn kr=>?_);go_wp2_with (go_at_call 34;refine mv (A6 hf hs R I cap) λu1 _=>?_);exact xZ0
 rw[ah c1]at hE;have R:=ae c1;obtain⟨O,L,l,qA,sP,NQ,-⟩:=look_ok (mU c1);obtain⟨o1,o2,o3,o4⟩:=uV c1 qA sP;obtain⟨C,hC⟩:=lh (dt N cap);have J:C.cap=cap:=by rw[<-hC];rfl
 have hWl:C.words=m+1:=by rw[<-hC,HM.o];exact o2
 have hCl:C.cost=m+1:=by rw[<-hC,HM.o];exact o3
 rw[rf,mV,ah c1]at hV;rw[hC,<-HM.o]at hE hV;obtain⟨s0,G⟩:=lh (l6 m);have M:A7 s0 0:=by rw[<-G];exact NP
 rw[G]at hE hV;rw[hE]at hV;have HC:=ae hC;have v8:=ae G;have HCP:=ae J;have S:Hx (C.words=m+1):=hWl;have zF:Hx (k=ps):=i.len;clear qA sP NQ o1 o2 o3 o4 c1 G J hWl hCl hC HE HV;rw[Gz]at hE;obtain⟨ce,T⟩:=lh (e7 ps);rw[T]at hE;have YL:=ae T;clear T;go_in;go_upto_region 1 with fail;refine dg (λu0 _ kn kr=>?_);go_upto_region 2 with(go_at_call 34;refine(NO hf hs R cap).mono ?_;rintro e u1 ⟨p,a,ss,rfl,pp,F,r,YD⟩);rw[HC.o]at F r;rw[v8.o]at r;have pu:aj u1 p:=r.o.prev;have hwp:w.1.size+1<p:=(aq:Bx p (w.1.size+1) _ _).ak.lt;by_cases I:ce=0;rotate_left
 .rw[ag I]at hE;subst hE;rw[ag I]at hV;injection hV with y hV;injection hV with z hV;injection hV with v3 v4;subst y z v3 v4;(have b0:(ce !=0)=true:=by simp[I]);clear I;go_wp2_with (go_at_call 33;refine mv (h9 hk YL) λu2 _=>?_);refine aX (v:=.tuple #[.agg #[an,an,an,an],ce]) ?_ rfl ⟨rfl,jd (cz _)⟩;rw[cF rfl];go_simp
 subst I;rw[ah rfl]at hE;have U:=ae hE;have V:=ae hV;have HB0:=ae M;clear hE hV M;go_wp2_with (go_at_call 33;refine mv (h9 hk YL) λu2 _=>?_);have Al:=ae (r.o.at (w':=u2));go_loopw [34] (λt wr=>∃(j:Nat) (s:jv),j<=k/\t=.int .i64 j/\Hx (ec p wr a m C s)/\Hx (A7 s j)/\Hx (gy C s (ps.drop j)=gy C s0 ps)) (λt _=>k-(intOf t).toNat);exact⟨0,s0,aM _,rfl,Al,HB0,ae rfl⟩;clear r Al HB0 pu;obtain⟨j,s,hj,rfl,r,HB,HG⟩:=hrel;have pw:aj wr p:=r.o.prev;by_cases bE:j<k
 .obtain⟨b1,o1,kd,id,rfl,pq,y,z,e1⟩:=i.get bE;(have UN:ps.drop j=(kd,id)::ps.drop (j+1):=by obtain⟨h1,h2⟩:=a8.1 e1.o;rw[ed h1,h2]);obtain⟨de,X⟩:=lh (lG C s kd id);have hg:=HG.o;rw[UN,gy,X]at hg;have Y:=ae X;clear X UN;by_cases d0:de=0
  .subst d0;rw[ah rfl]at hg;have m7:=ae hg;have Fj:=ae (A8 F HB Y (by rw[HCP.o];exact hc));obtain⟨q1,q2,q3,q4⟩:=r4 Y;have HQ1:=ae q1;have Uy:Hx (id<=(m:Int)):=ae (by rw[S.o]at q2;omega);have Uz:=ae q3;have HQ4:=ae q4;have Q:Hx (-144115188075855872<=s.now/\s.now<=144115188075855872/\0<=s.done/\s.done<=1000000):=ae xZ1;clear hg q1 q2 q3 q4;go_wp2_with (go_at_call 35;refine mv (AY F r.o.at HQ1 Uy Uz Q.o.2.2.1 Q.o.2.2.2 Q.o.1 Q.o.2.1 HQ4 (by rw[HCP.o];exact hc)) λu5 wg=>?_);go_roundw;exact⟨j+1,_,om,by go_num,ae wg,Fj,m7⟩;simp[intOf];omega
  rw[ag d0]at hg;have hE:=U.o;have hV:=V.o;rw[<-hg,ag d0]at hE;subst hE;rw[ag d0]at hV;injection hV with y hV;injection hV with z hV;injection hV with v3 v4;subst y z v3 v4;(have b0:(de !=0)=true:=by simp[d0]);have HD0:=ae d0;have Q:Hx (-144115188075855872<=s.now/\s.now<=144115188075855872/\0<=s.done/\s.done<=1000000):=ae xZ1;clear hg d0;go_wp2_with (go_at_call 35;refine mv (DK F r.o.at Y HD0 Q.o.2.2.1 Q.o.1 Q.o.2.1) λu5 _=>?_);refine aX (v:=.tuple #[.agg #[an,an,an,an],de]) ?_ rfl ⟨rfl,jd (cz _)⟩;rw[cF rfl];go_simp
 obtain rfl:j=k:=om;have hg:=HG.o;rw[zF.o,tF,gy]at hg;have hE:=U.o;have hV:=V.o;rw[<-hg]at hE hV;dsimp only at hE hV;rw[ah rfl]at hE;have kS:Bx wr p.1.size 108 (c6 p a m C s):=⟨r.o.st⟩;obtain⟨wb,Z⟩:=lh (nJ C s);rw[Z]at hE;have HWB:=ae Z;clear hg U V Z;cases wb;case false=>rw[ag am]at hE;subst hE;rw[ag am]at hV;injection hV with y hV;injection hV with z hV;injection hV with v3 v4;subst y z v3 v4;go_wp2_with (go_at_call 36;refine mv (vW F r HWB) λu5 _=>?_);refine aX (v:=.tuple #[.agg #[an,an,an,an],(28:Int)]) ?_ rfl ⟨rfl,jd (cz _)⟩;rw[cF rfl];go_simp
 case true=>
  rw[ah rfl]at hE;have HCO:=ae hE;obtain⟨cv,LO⟩:=lh (uN C.cost ps);have Ld:=ae LO;rw[LO]at hV;clear LO hE;have sC:Sl p a.AC (m+1) C.cost:=F.o.cost;have sWd:Sl p a.AW (m+1) C.words:=F.o.words;by_cases e0:E=0;rotate_left
  .rw[ag e0]at hV;injection hV with y hV;injection hV with z hV;injection hV with v3 v4;subst y z v3 v4;(have b0:(E !=0)=true:=by simp[e0]);clear e0;go_wp2_with (first|(go_at_call 36;refine mv (vW F r HWB) λu5 _=>?_)|(go_at_call 37;refine mv (IM hk Ld HCO) λu6 _=>?_));exact xZ0
  subst e0;rw[ah rfl]at hV;injection hV with y hV;injection hV with z hV;injection hV with v3 v4;have HV4:=ae v4;obtain⟨q,hq⟩:=lh (sA 2 ps);rw[hq]at v3;have Fq:=ae hq;subst y z v3;clear v4 hq;go_upto_region 19 with(first|(go_at_call 36;refine mv (vW F r HWB) λu5 _=>?_)|(go_at_call 37;refine mv (IM hk Ld HCO) λu6 _=>?_));obtain⟨A',ko,vi⟩:=qB (P:=prog) 24 ao ao a.AW (m+1) a.cW 1 1 rfl om YD;rw[show m+1-1=m from rfl]at ko;have sD:Sl u6 A' m (C.words.drop 1):=⟨vi u6 C.words S (sWd.rd.below (aP p u6)),by simp[S.o]⟩;obtain⟨MV,hMV⟩:=lh (q6 (C.words.drop 1));have vl:=ae hMV;have HP4:Hx (max s.kb MV=P4):=ae (by rw[<-hMV];exact HV4);have hm9:m<=1000:=F.o.hm;clear hMV vi;refine ab u6 ao (λux _=>?_);refine qL [0,1,2,3,4,5,6,7,8] ?_;refine aK 9 λK hK=>?_;go_simp;refine(Yz om vl).mono ?_;rintro e ux ⟨rfl,_⟩;dsimp only;refine aG hK ?_;refine qL [10,11] ?_;refine a9 ?_;rw[HP4.o];obtain⟨x1,rfl⟩:=lg ux;go_upto_region 20 with fail;have kS1:Bx x1 p.1.size 108 (c6 p a m C s):=aq;have kR1:Bx x1 (w.1.size+1) 45 #[an,an,an,an]:=aq;have js:p≠w.1.size+1:=om;refine a6 w (λw9=>Bx w9 p.1.size 108 (c6 p a m C s)) ao aq (λuy _=>?_);refine bR 0 ?_;refine bR 1 ?_;refine bR 2 ?_;refine bR 3 ?_;refine bR 4 ?_;refine bR 5 ?_;refine bR 7 ?_;refine aK 6 λK hK=>?_;go_simp;refine(Qp hk Fq).mono ?_;rintro e uy ⟨rfl,_⟩;dsimp only;refine aG hK ?_ ⟨aR w _,aq⟩;refine bR 8 ?_;refine aK 9 λK hK=>?_;go_simp;obtain⟨u8,D⟩:=lg ((((uy.setCell (w.1.size+1,0) (.int .i64 s.kb)).setCell (w.1.size+1,1) cv).setCell (w.1.size+1,2) (q:Int)).setCell (w.1.size+1,3) P4);rw[<-D];(have IW:aj u8 w:=by rw[D];exact jd (cz _));(have Su8:∀b,b<uy.1.size->b≠w.1.size+1->(World.heap u8)[b]?=uy.heap[b]?:=λb _ hb=>by rw[D];exact(((ba _ ⟨w.1.size+1,3,none⟩ _ b hb).trans (ba _ ⟨w.1.size+1,2,none⟩ _ b hb)).trans (ba _ ⟨w.1.size+1,1,none⟩ _ b hb)).trans (ba _ ⟨w.1.size+1,0,none⟩ _ b hb));have Ku8:Bx u8 (w.1.size+1) _ #[s.kb,cv,q,P4]:=⟨by rw[D];exact((((Bx.ak (w:=uy) (g:=w.1.size+1)).av 0 _).av 1 _).av 2 _).av 3 _⟩;have K7:Bx u8 p.1.size 108 (c6 p a m C s):=⟨(Su8 _ (Bx.ak (w:=uy) (g:=p.1.size)).lt js).trans (Bx.ak (w:=uy))⟩;refine aG hK ?_ ⟨IW,K7⟩;clear hK K D;refine bR 10 ?_;refine a9 ?_;go_wp2_with fail;refine aX (v:=.tuple #[.agg #[s.kb,cv,q,P4],an]) ?_ rfl ⟨rfl,IW⟩;rw[cF rfl];go_simp
end Go.Proofs.YtmkjnlifimffkaaGreat
