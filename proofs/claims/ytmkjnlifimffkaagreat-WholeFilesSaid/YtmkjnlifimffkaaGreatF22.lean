/- Lemmas. -/
import Derived.Test.YtmkjnlifimffkaaGreatF21
namespace Go.Proofs.YtmkjnlifimffkaaGreat
open Go.RowKit Tryz
set_option linter.all false
set_option maxRecDepth 100000
set_option maxHeartbeats 0
variable{X p u w' w0:World}{A B:Option Addr}{c d g i j l m:Nat}{ss:List Sp}{D O:List Int}{L:List (List Int)}{E:Int}{ds:Array Value}{v:Value}
structure rx(w:World)(g:Nat)(ss:List Sp):Prop where
 al:aB w g 24 (fP ss)
 el:∀x∈ss,Rd w x.A x.zs/\x.m=x.zs.length/\x.m<=x.c/\bV (g+1) x.A
def cX(N:aU)(cap:Int):iu:=⟨(it N).1,(it N).2.1,[]::N.nodes.map (·.ins),d7 N,(e1 N).toNat,cap⟩
def kB(m:Nat):iv:=⟨(List.replicate (m+1) false).set 0 true,List.replicate (m+1) false,List.replicate (m+1) false,false,false,0,0,0⟩
def VO(w:ay)(N:aU)(m:Nat)(cap:Int)(e:Ending)(w':ay):Prop:=
 ∃(p:ay) (a:m7) (b:List Sp),e=.returned (.tuple #[.pointer p.1.size,au])/\aj p w/\Hx (j2 p a m (cX N cap) b)/\Hx (dI p w' a m (cX N cap) (kB m))/\Hx (m+1<=a.cW)
section
variable{w:World}{n t k:Nat}{x:Sp}{N:aU}{T:Int}{W C:List Int}
def Ge(k:Nat)(j:k<=1000000)(W:ay):(Instr.makeSlice 105 (k:Int) (k:Int)).run prog W=.ok (W,k,k) (W.alloc (.cells (fP (List.replicate k dj)) 24)):=by
 obtain⟨i,hi,b⟩:=bD.1 (show(prog.info? 24).map (λi=>(i.zero,i.size,i.bytes))=some (some (.slice none 0 0),1,24)from by kernel_rfl);simp only[dL]at b;obtain⟨e,hs,hb⟩:=b;have:=lP (P:=prog) W 105 24 i _ underlying105 hi e .i64 .i64 k k om (dM _) (by rw[hs];simp;omega) (by rw[hb];simp;omega);rw[hs]at this;rw[<-A8];simpa[Value.cells]using this om
def rx.at(h:rx w g ss)[l:aF w w']:rx w' g ss:=⟨h.al.at,λx b=>⟨(h.el x b).1.below l.st,(h.el x b).2⟩⟩
def rx.new(hg:aB w g 24 (fP (List.replicate k dj))):rx w g (List.replicate k dj):=⟨hg,λx b=>by rw[iA b];exact⟨Rd.nil _ _,rfl,an _,bV.none⟩⟩
def rx.ax(h:rx w g ss)(j:Nat)(hr:Rd w x.A x.zs)(hm:x.m=x.zs.length)(z:x.m<=x.c)(e:bV (g+1) x.A):rx (w.setCell (g,j) (.slice x.A x.m x.c)) g (ss.set j x):=by
 have a9:∀{A:cD} {zs:av},Rd w A zs->bV (g+1) A->Rd (w.setCell (g,j) (.slice x.A x.m x.c)) A zs:=λ{A zs} hr e=>
  ((⟨hr,rfl⟩:Sl w A zs zs).setCell (p:=⟨g,j,none⟩) e (p5 g) _).rd
 refine⟨by rw[<-xP];exact h.al.ax _ _,λy r=>?_⟩;rcases rH r with r|rfl
 .obtain⟨a,b,c,d⟩:=h.el y r;exact⟨a9 a d,b,c,d⟩
 .exact⟨a9 hr e,hm,z,e⟩
theorem rx.Nj(h:rx w g ss):du w g ss.length ss:=
 ⟨λj x b=>⟨g,0,rfl,h.al.lt,by rw[bX,h.al.cell,hI b],(h.el x (aC b)).1,(h.el x (aC b)).2.1,(h.el x (aC b)).2.2.1⟩,rfl⟩
def VP(b:List Sp){n:Nat}(e:b=j)(h:j<n):(dj::(b++List.replicate (n-j) dj)).set (j+1) x=dj::((b++[x])++List.replicate (n-(j+1)) dj):=by
 rw[r5,show n-j=(n-(j+1))+1 from om,kI,kH _ _ om,e,eB,jq];simp
def NX(h:aA D=true):0<=bt D/\bt D<=1099511627776:=by
 obtain⟨e,j,b,r⟩:=(bE D).1 h;rw[bt,ah h];have:=(Ax D b).1;omega
def uP:∀{L:fV},er L=0->∀z∈L,aA z=true
 |[],_,_,h=>by cases h
 |z::t,h,y,hy=>by
  rw[er]at h;have b:cg z=0:=by
   by_cases e:cg z=0
   .exact e
   .rw[ag e]at h;exact h
  rw[ah b]at h;rcases bT.1 hy with rfl|hy
  .unfold cg at b
   split at b
   .rename_i j;exact j
   .exact absurd b ak
  .exact uP h y hy
def lm(h:hB N=0):a6 N=0:=by
 by_cases b:a6 N=0
 .exact b
 .rw[hB,ag b]at h;exact h
def sX(h:hB N=0)(b:dh N=(O,L,(l:Int)))(e:db N O L l):
  (it N).1=L.map bt/\(it N).1.length=N.nodes+1/\(it N).2.1.length=N.nodes+1/\∀z∈L,aA z=true:=by
 have y:=lm h;have hs:er L=0:=by
  rw[hB,ah y,b,F1]at h;dsimp only at h;by_cases j:er L=0
  .exact j
  .rw[ag j]at h;exact h
 have r:(it N).1=L.map bt:=by rw[it,if_pos h,b];dsimp only;rw[jE,if_pos hs]
 exact⟨r,by rw[r,br,e.len],by rw[it,ah h];simp[iJ],uP hs⟩
def NY{Q:World->Prop}{T:TypeId}{cs:eL}(h:∀u,u.1.size=X.1.size+1->aj u X->Bx u X.1.size T cs->Q u):Q (X.alloc (.cells cs T)):=h _ aG (aK) ao
def tV{Q:World->Prop}{p:ay}{t:Nat}{T U:TypeId}{cs:eL}{gs:List (Nat×TypeId×Array Value)}(h:pI p X t T cs gs)
  (k:∀u,u.1.size=X.1.size+1->pI p u t T (cs.setIfInBounds i v) ((X.1.size,U,ds)::gs)->Q u):Q ((X.alloc (.cells ds U)).setCell (t,i) v):=
 k _ aG ((h.mk' (w':=X.alloc (.cells ds U)) Bx.al).set i v)
def yD[aQ w A n B m N](D:Hx N.fits)(hs:Hx N.small)(b:Hx (hB N=E))(r:E≠0)(cap:Int):() 34 #[.agg #[(A,n,c),(B,m,d)],cap] w (aD w (.tuple #[.pointer none,E])):=by
 have F:=@aa;have G:=@aP;have y:Hx (it N=([],[],0)):=ae (by rw[it,b.o,ag r]);have j:Hx (([]:av).length=0):=rfl;have z:=j;have I:(E !=0)=true:=by simp[r]
 clear r
 go_in
 go_upto_region 1 with fail
 refine aw (λJ _ K=>?_)
 go_upto_region 2 with(go_at_call 9;(with_reducible refine(oc D hs b y j z).mono ?_);rintro e u ⟨AW,cW,AC,cC,rfl,M,P,Q,R,S⟩)
 refine aw (λU _ kp=>?_)
 go_wp2_with fail
 go_ret2;exact bq
def K9[a:aQ w A n B m N](hf:Hx N.fits)(hs:Hx N.small)(K:Hx (hB N=0))(cap:Int):() 34 #[.agg #[(A,n,c),(B,m,d)],cap] w (VO w N m cap):=by
 obtain⟨CB,CP,FB⟩:=ha;have Q:Hx (m=N.nodes):=a.len;have hm:m<=1000:=by rw[Q.o];exact hs.o.1
 obtain⟨O,L,l,R,D,X,-⟩:=look_ok (lm K);obtain⟨o1,o2,o3,o4⟩:=sX K R D;obtain⟨⟨W,C,T⟩,M⟩:=lh (it N);have HOV:=ae M;rw[M]at o1 o2 o3;have Y:Hx (W.length=m+1):=ae (by rw[Q.o];exact o2);have HCL:Hx (C=m+1):=ae (by rw[Q.o];exact o3);have Z:=ae (lm K);have nT:=ae R;have pg:=ae D;have xk:Hx (O=m):=ae (by rw[D.sM,Q.o]);have NU:Hx (cX N cap=⟨W,C,[]::N.nodes.map (·.ins),O,l,cap⟩):=ae (by rw[cX,M,D.ord,D.e1,bI]);have HW4:Hx (W=L.map bt):=o1;have HR4:Hx (∀z∈L,aA z=true):=o4;have RD:∀W:World,(Instr.makeSlice 105 ((m:Int)+1:Int) ((m:Int)+1:Int)).run prog W=.ok (.slice (some ⟨W.1.size,0,none⟩) (m+1) (m+1)) (W.alloc (.cells (fP (List.replicate (m+1) dj)) 24)):=λW=>by
  have h:=Ge (m+1) om W;rwa[fH]at h
 clear M o1 o2 o3 o4 R D X
 go_in
 go_upto_region 1 with fail
 refine aw (λu0 _ kn=>?_)
 go_upto_region 2 with(go_at_call 9;(with_reducible refine(oc hf hs K HOV Y HCL).mono ?_);rintro e u ⟨AW,cW,AC,cC,rfl,sW,sC,oW,oC,pP⟩)
 refine aw (λu1 _ kp=>?_)
 go_upto_region 11 with(first|(go_at_call 60;(with_reducible refine(io hf hs Z nT xk).mono ?_);rintro e u ⟨AO,cO,rfl,sO,oO,pO⟩)|(go_at_call 61;(with_reducible refine(DG hf hs Z nT).mono ?_);rintro e u ⟨rfl,_⟩))
 refine aw (λv _ kv=>?_);obtain⟨g,hg⟩:=lg u.1.size;have Rn:u.1.size<=g:=dE hg.symm;have RF:rx v g (dj::([]++List.replicate (m-0) dj)):=by rw[hg];exact rx.new (k:=m+1) kv.al
 rw[<-hg];clear RD hg kv
 go_wp2_with fail
 go_loopw [46] (λi wr=>∃(j:Nat) (J:List Sp),j<=m/\i=.int .i64 j/\Hx (J=j/\aW J=(N.nodes.take j).map (·.ins))/\Hx (rx wr g (dj::(J++List.replicate (m-j) dj)))/\aj wr u) (λi _=>m-(intOf i).toNat)
 .exact⟨0,[],aT _,rfl,ae ⟨rfl,rfl⟩,ae RF,aK⟩
 ·
  clear RF;obtain⟨j,J,hj,rfl,r,U,hp⟩:=hrel;by_cases bK:j<m
  .obtain⟨b0,q0,o,A1,n1,c1,I,ni,ci,ins,P,np,cp,ps,rfl,ob,⟨v0,v1,v2,v3,v4,v5,v6,v7,v8,IV⟩,s1,si,sp,l1,li,lp,ik,ro⟩:=a.node bK;have vp:ni<=1000:=by have:=hs.o.2 _ (aC ro.o);rw[si.len];exact this
   have HT:Hx ((fP (dj::(J++List.replicate (m-j) dj)))[j+1]?=some (.slice none 0 0)):=ae (by
    rw[hI (x:=dj)]
    .rfl
    .rw[nh,ew (by rw[r.o.1];exact an _),r.o.1,eB,ix,ah om])
   have MN:g<wr.1.size:=U.o.al.lt
   go_wp2_with (go_at_call 86;refine(HN om).mono ?_;rintro e V ⟨AK,cK,rfl,oK,pK⟩;obtain⟨hI9,hc9,hf9⟩:rx V g _/\V.cell? (g,j+1)=some (.slice none 0 0)/\V.frozen? ⟨g,j+1,none⟩=false:=⟨U.o.at,(U.o.at (w':=V)).al.cell (j+1)|>.trans HT,(U.o.at (w':=V)).al.frozen (j+1)⟩)
   have S:=hI9.ax (x:=⟨AK,ins.length,cK,ins⟩) (j+1) oK.rd rfl oK.gW (oK.fre.less (aO (Nat.succ_le_of_lt MN) ai));rw[VP _ r.o.1 bK]at S;have DL:=ae S;have HZ9:Hx ((J++[(⟨AK,ins.length,cK,ins⟩:Sp)]).length=j+1/\aW (J++[(⟨AK,ins.length,cK,ins⟩:Sp)])=(N.nodes.take (j+1)).map (·.ins)):=ae (by
    refine⟨by simp[r.o.1],?_⟩;rw[fb,ro.o,cJ,<-r.o.2];simp[aW])
   clear S;go_roundw
   .exact⟨j+1,_,om,by go_num,HZ9,DL,⟨(a7 u V).setCell (p:=⟨g,j+1,none⟩) Rn _⟩⟩
   .simp[intOf];omega
  .obtain rfl:j=m:=om;have hS:rx wr g (dj::J):=by have:=U.o;rwa[eB,List.replicate_zero,fG]at this
   have hP:j2 wr ⟨AW,cW,AC,cC,some ⟨g,0,none⟩,j+1,AO,cO⟩ j ⟨W,C,[]::N.nodes.map (·.ins),O,l,cap⟩ (dj::J):=by
    refine⟨ao,ao,⟨hS.Nj.rd,by simp[r.o.1]⟩,?_,ao,?_,?_,hm,?_⟩
    .show[]::aW J=_
     rw[r.o.2,Q.o,dJ]
    .rw[Q.o];exact pg.o.mB
    .intro z hz;rcases bT.1 hz with rfl|hz
     .simp
     .obtain⟨v,hv,rfl⟩:=bC.1 hz;exact⟨hs.o.2 v hv,λy hy=>by rw[Q.o];exact pg.o.jS v hv y hy⟩
    .intro z hz;have hz:z∈W:=hz;rw[HW4.o]at hz;obtain⟨y,hy,rfl⟩:=bC.1 hz;exact NX (HR4.o y hy)
   have HP:=ae hP;have FM:∀W:World,(Instr.makeSlice 106 ((j:Int)+1:Int) ((j:Int)+1:Int)).run prog W=.ok (.slice (some ⟨W.1.size,0,none⟩) (j+1) (j+1)) (W.alloc (.cells (d6 (List.replicate (j+1) false)) 4)):=λW=>by
    have h:=l7 (j+1) om W;rwa[fH]at h
   clear hP hS U r
   go_upto_region 17 with fail
   refine NY (λx0 z0 _ kb=>?_);have Z0:=ae z0;clear z0;have ZW:Hx (pI wr x0 wr.1.size 108 _ []):=ae ⟨ao,kb.al,aG,aG,aG,an _⟩
   go_upto_region 18 with fail
   refine tV ZW (λx1 z1 F=>?_);have Z1:=ae z1;clear z1;obtain⟨p1,VM⟩:aj x1 wr/\Bx x1 wr.1.size 108 _:=⟨F.pr,F.bx⟩;have F:=ae F
   go_upto_region 19 with fail
   refine tV F (λx2 z2 G=>?_);have Z2:=ae z2;clear z2;obtain⟨p2,ty⟩:aj x2 wr/\Bx x2 wr.1.size 108 _:=⟨G.pr,G.bx⟩;have G:=ae G
   go_upto_region 20 with fail
   refine tV G (λx3 z3 b=>?_);clear z3;obtain⟨p3,NZ,kP⟩:aj x3 wr/\Bx x3 wr.1.size 108 _/\Bx x3 x0.1.size 4 (d6 (List.replicate (j+1) false)):=⟨b.pr,b.bx,⟨b.bs (x0.1.size,4,d6 (List.replicate (j+1) false)) aG⟩⟩;have b:=ae b;have e0:(d6 (List.replicate (j+1) false))[0]?=some (.bool false):=bO (by rw[ix,ah om]);have hm0:(0:Int)<(j:Int)+1:=by omega
   go_wp2_with fail
   go_ret2;have q1:x1.1.size=wr.1.size+1+1:=by rw[Z1.o,Z0.o]
   have q2:x2.1.size=wr.1.size+1+1+1:=by rw[Z2.o,q1]
   have hb:=b.o.box;have UW:=b.o.bs (x0.1.size,4,d6 (List.replicate (j+1) false)) aG;have hP2:=b.o.bs (x1.1.size,4,d6 (List.replicate (j+1) false)) aG;have hP3:=b.o.bs (x2.1.size,4,d6 (List.replicate (j+1) false)) aG;rw[Z0.o,q1,q2]at hb;rw[Z0.o]at UW;rw[q1]at hP2;rw[q2]at hP3;have hS:dI wr x3 ⟨AW,cW,AC,cC,some ⟨g,0,none⟩,j+1,AO,cO⟩ j ⟨W,C,[]::N.nodes.map (·.ins),O,l,cap⟩ ⟨List.replicate (j+1) false,List.replicate (j+1) false,List.replicate (j+1) false,false,false,0,0,0⟩:=
    ⟨b.o.pr,hb,UW,hP2,hP3,fg,fg,fg⟩
   refine⟨wr,_,_,rfl,aK,by rw[NU.o];exact HP,?_,ae (by have:=oW.gW;rw[Y.o]at this;exact this)⟩;rw[NU.o,Z0.o];exact ae (hS.Bm 0 true)
end
variable{K:Option Addr}{ps:List (Int×Int)}{s:iv}{P1 P2 P3 P4 cap id kd:Int}
def fF(C:iu):iv->List (Int×Int)->Int×iv
 |s,[]=>(0,s)
 |s,x::t=>if j3 C s x.1 x.2=0 then fF C (ga C s x.1 x.2) t else(j3 C s x.1 x.2,s)
def DM(C:iu)(s:iv)(ps:List (Int×Int)):Int:=
 if fR ps=0 then(if(fF C s ps).1=0 then(if mc C (fF C s ps).2=true then ym C.cost ps else 28)else(fF C s ps).1)else fR ps
def j9(N:aU)(cap:Int)(ps:List (Int×Int)):Int:=if hB N=0 then DM (cX N cap) (kB N.nodes.length) ps else hB N
def oO(N:aU)(cap:Int)(ps:List (Int×Int)):Int×Int×Int×Int:=
 if j9 N cap ps=0 then((fF (cX N cap) (kB N.nodes.length) ps).2.iU,sR (cX N cap).cost ps,(qH 2 ps:Int),max (fF (cX N cap) (kB N.nodes.length) ps).2.iU (pA ((cX N cap).words.drop 1)))else(0,0,0,0)
structure yE(s:iv)(j:Nat):Prop where
 d0:0<=s.done
 d1:s.done<=j
 n0: -((j:Int)*1099511627776)<=s.now
 n1:s.now<=144115188075855872
section
variable{w:World}{n k:Nat}{a:m7}{N:aU}{C:iu}
def RG(hP:j2 p a m C ss)(q:Nat):0<=C.words.getD q 0/\C.words.getD q 0<=1099511627776:=by
 rw[aX];cases h:C.words[q]? with
 |none=>simp
 |some z=>exact hP.wb z (aC h)
def qg(h:j3 C s kd id=0):eV kd id=true/\id<(C.words.length:Int)/\dy C s kd id.toNat=true/\s.now+d8 C s kd id.toNat<=C.cap:=by
 unfold j3 at h
 split at h
 .rename_i b
  split at h
  .rename_i e
   split at h
   .rename_i l;exact⟨b.1,b.2,e,l⟩
   .exact absurd h ak
  .exact absurd h ak
 .exact absurd h ak
def Lb:yE (kB m) 0:=⟨by simp[kB],by simp[kB],by simp[kB],by simp[kB]⟩
def yF(hP:j2 p a m C ss)(hb:yE s j)(h:j3 C s kd id=0)(e:C.cap<=144115188075855872):yE (ga C s kd id) (j+1):=by
 obtain⟨-,-,-,l⟩:=qg h;have r:=(yv (s:=s) hP kd id.toNat).1;have y:=RG hP id.toNat;obtain⟨d0,d1,n0,n1⟩:=hb;unfold ga;dsimp only;have b:((j+1:Nat):Int)*1099511627776=(j:Int)*1099511627776+1099511627776:=by rw[fH,jv];omega
 (repeat' split)<;>exact⟨by dsimp only;omega,by dsimp only;omega,by rw[b];dsimp only;omega,by dsimp only;omega⟩
theorem jk{x y z:Value}{g:Nat}[l:aF w u](hg:w<=g):aj ((((u.setCell (g,0) x).setCell (g,1) y).setCell (g,2) z).setCell (g,3) v) w:=
 ⟨(((l.st.setCell (p:=⟨g,0,none⟩) hg _).setCell (p:=⟨g,1,none⟩) hg _).setCell (p:=⟨g,2,none⟩) hg _).setCell (p:=⟨g,3,none⟩) hg _⟩
def Lc[a:aQ w A n B m N](hf:Hx N.fits)(hs:Hx N.small)[i:Is w K k ps](hk:k<=65536)(hc:cap<=144115188075855872)(HE:Hx (j9 N cap ps=E))(HV:Hx (oO N cap ps=(P1,P2,P3,P4))):
  () 14 #[.agg #[(A,n,c),(B,m,d)],.slice K k g,cap] w (aD w (.tuple #[.agg #[P1,P2,P3,P4],E])):=by
 obtain⟨CB,CP,FB⟩:=ha;have HM:Hx (m=N.nodes):=a.len;have hE:=HE.o;have hV:=HV.o;rw[j9]at hE;by_cases c1:hB N=0;rotate_left
 .rw[ag c1]at hE;rw[oO,j9,ag c1,ag c1]at hV;have R:=ae hE;have I:E≠0:=by rw[<-hE];exact c1
  have b0:(E !=0)=true:=by simp[I]
  injection hV with y hV;injection hV with z hV;injection hV with v3 v4
  subst y z v3 v4;clear hE c1
  go_in
  go_upto_region 1 with fail
  refine cT (λu0 _ kn kr=>?_)
  go_wp2_with (go_at_call 34;refine mv (yD hf hs R I cap) λu1 _=>?_)
  refine a8 (v:=.tuple #[.agg #[au,au,au,au],E]) ?_ rfl ⟨rfl,jk (b9 _)⟩;rw[b8 rfl];go_simp
 rw[ah c1]at hE;have R:=ae c1;obtain⟨O,L,l,nN,sq,Ld,-⟩:=look_ok (lm c1);obtain⟨o1,o2,o3,o4⟩:=sX c1 nN sq;obtain⟨C,hC⟩:=lh (cX N cap);have J:C.cap=cap:=by rw[<-hC];rfl
 have hWl:C.words=m+1:=by rw[<-hC,HM.o];exact o2
 have hCl:C.cost=m+1:=by rw[<-hC,HM.o];exact o3
 rw[oO,j9,ah c1]at hV;rw[hC,<-HM.o]at hE hV;obtain⟨s0,G⟩:=lh (kB m);have M:yE s0 0:=by rw[<-G];exact Lb
 rw[G]at hE hV;rw[hE]at hV;have HC:=ae hC;have pJ:=ae G;have HCP:=ae J;have S:Hx (C.words=m+1):=hWl;have DD:Hx (k=ps):=i.len;clear nN sq Ld o1 o2 o3 o4 c1 G J hWl hCl hC HE HV;rw[DM]at hE;obtain⟨ce,T⟩:=lh (fR ps);rw[T]at hE;have VQ:=ae T;clear T
 go_in
 go_upto_region 1 with fail
 refine cT (λu0 _ kn kr=>?_)
 go_upto_region 2 with(go_at_call 34;refine(K9 hf hs R cap).mono ?_;rintro e u1 ⟨p,a,ss,rfl,pp,F,r,VK⟩)
 rw[HC.o]at F r;rw[pJ.o]at r;have pu:aj u1 p:=r.o.prev;have hwp:w.1.size+1<p:=(ao:Bx p (w.1.size+1) _ _).al.lt;by_cases I:ce=0;rotate_left
 .rw[ag I]at hE;subst hE;rw[ag I]at hV;injection hV with y hV;injection hV with z hV;injection hV with v3 v4
  subst y z v3 v4;have b0:(ce !=0)=true:=by simp[I]
  clear I
  go_wp2_with (go_at_call 33;refine mv (oe hk VQ) λu2 _=>?_)
  refine a8 (v:=.tuple #[.agg #[au,au,au,au],ce]) ?_ rfl ⟨rfl,jk (b9 _)⟩;rw[b8 rfl];go_simp
 subst I;rw[ah rfl]at hE;have U:=ae hE;have V:=ae hV;have HB0:=ae M;clear hE hV M
 go_wp2_with (go_at_call 33;refine mv (oe hk VQ) λu2 _=>?_)
 have xS:=ae (r.o.at (w':=u2));go_loopw [34] (λt wr=>∃(j:Nat) (s:iv),j<=k/\t=.int .i64 j/\Hx (dI p wr a m C s)/\Hx (yE s j)/\Hx (fF C s (ps.drop j)=fF C s0 ps)) (λt _=>k-(intOf t).toNat)
 .exact⟨0,s0,aT _,rfl,xS,HB0,ae rfl⟩
 ·
  clear r xS HB0 pu;obtain⟨j,s,hj,rfl,r,HB,HG⟩:=hrel;have pw:aj wr p:=r.o.prev;by_cases bK:j<k
  .obtain⟨b1,o1,kd,id,rfl,q6,y,z,e1⟩:=i.get bK;have RH:ps.drop j=(kd,id)::ps.drop (j+1):=by
    obtain⟨h1,h2⟩:=a5.1 e1.o;rw[ei h1,h2]
   obtain⟨de,X⟩:=lh (j3 C s kd id);have hg:=HG.o;rw[RH,fF,X]at hg;have Y:=ae X;clear X RH;by_cases d0:de=0
   .subst d0;rw[ah rfl]at hg;have mZ:=ae hg;have xh:=ae (yF F HB Y (by rw[HCP.o];exact hc));obtain⟨q1,q2,q3,q4⟩:=qg Y;have HQ1:=ae q1;have Rs:Hx (id<=(m:Int)):=ae (by rw[S.o]at q2;omega);have Rt:=ae q3;have HQ4:=ae q4;have Q:Hx (-144115188075855872<=s.now/\s.now<=144115188075855872/\0<=s.done/\s.done<=1000000):=ae (by obtain⟨x1,x2,x3,x4⟩:=HB.o;omega);clear hg q1 q2 q3 q4
    go_wp2_with (go_at_call 35;refine mv (yw F r.o.at HQ1 Rs Rt Q.o.2.2.1 Q.o.2.2.2 Q.o.1 Q.o.2.1 HQ4 (by rw[HCP.o];exact hc)) λu5 rv=>?_)
    go_roundw
    .exact⟨j+1,_,om,by go_num,ae rv,xh,mZ⟩
    .simp[intOf];omega
   .rw[ag d0]at hg;have hE:=U.o;have hV:=V.o;rw[<-hg,ag d0]at hE;subst hE;rw[ag d0]at hV;injection hV with y hV;injection hV with z hV;injection hV with v3 v4
    subst y z v3 v4;have b0:(de !=0)=true:=by simp[d0]
    have HD0:=ae d0;have Q:Hx (-144115188075855872<=s.now/\s.now<=144115188075855872/\0<=s.done/\s.done<=1000000):=ae (by obtain⟨x1,x2,x3,x4⟩:=HB.o;omega);clear hg d0
    go_wp2_with (go_at_call 35;refine mv (Bp F r.o.at Y HD0 Q.o.2.2.1 Q.o.1 Q.o.2.1) λu5 _=>?_)
    refine a8 (v:=.tuple #[.agg #[au,au,au,au],de]) ?_ rfl ⟨rfl,jk (b9 _)⟩;rw[b8 rfl];go_simp
  .obtain rfl:j=k:=om;have hg:=HG.o;rw[DD.o,rO,fF]at hg;have hE:=U.o;have hV:=V.o;rw[<-hg]at hE hV;dsimp only at hE hV;rw[ah rfl]at hE;have kS:Bx wr p.1.size 108 (cz p a m C s):=⟨r.o.st⟩;obtain⟨wb,vc⟩:=lh (mc C s);rw[vc]at hE;have Z:=ae vc;clear hg U V vc;cases wb
   case false=>
    rw[ag ak]at hE;subst hE;rw[ag ak]at hV;injection hV with y hV;injection hV with z hV;injection hV with v3 v4
    subst y z v3 v4
    go_wp2_with (go_at_call 36;refine mv (tQ F r Z) λu5 _=>?_)
    refine a8 (v:=.tuple #[.agg #[au,au,au,au],(28:Int)]) ?_ rfl ⟨rfl,jk (b9 _)⟩;rw[b8 rfl];go_simp
   case true=>
    rw[ah rfl]at hE;have HCO:=ae hE;obtain⟨cv,I5⟩:=lh (sR C.cost ps);have Ro:=ae I5;rw[I5]at hV;clear I5 hE;have sC:Sl p a.AC (m+1) C.cost:=F.o.cost;have sWd:Sl p a.AW (m+1) C.words:=F.o.words;by_cases e0:E=0;rotate_left
    .rw[ag e0]at hV;injection hV with y hV;injection hV with z hV;injection hV with v3 v4
     subst y z v3 v4;have b0:(E !=0)=true:=by simp[e0]
     clear e0
     go_wp2_with (first|(go_at_call 36;refine mv (tQ F r Z) λu5 _=>?_)|(go_at_call 37;refine mv (F4 hk Ro HCO) λu6 _=>?_))
     refine a8 (v:=.tuple #[.agg #[au,au,au,au],E]) ?_ rfl ⟨rfl,jk (b9 _)⟩;rw[b8 rfl];go_simp
    subst e0;rw[ah rfl]at hV;injection hV with y hV;injection hV with z hV;injection hV with v3 v4
    have HV4:=ae v4;obtain⟨q,hq⟩:=lh (qH 2 ps);rw[hq]at v3;have C3:=ae hq;subst y z v3;clear v4 hq
    go_upto_region 19 with(first|(go_at_call 36;refine mv (tQ F r Z) λu5 _=>?_)|(go_at_call 37;refine mv (F4 hk Ro HCO) λu6 _=>?_))
    obtain⟨A',qZ,LP⟩:=uv (P:=prog) 24 aq aq a.AW (m+1) a.cW 1 1 rfl om VK;rw[show m+1-1=m from rfl]at qZ;have sD:Sl u6 A' m (C.words.drop 1):=⟨LP u6 C.words S (sWd.rd.below (a7 p u6)),by simp[S.o]⟩;obtain⟨MV,hMV⟩:=lh (pA (C.words.drop 1));have tz:=ae hMV;have HP4:Hx (max s.iU MV=P4):=ae (by rw[<-hMV];exact HV4);have XN:m<=1000:=F.o.hm;clear hMV LP;refine aH u6 aq (λux _=>?_);refine qL [0,1,2,3,4,5,6,7,8] ?_;refine aM 9 λK hK=>?_;go_simp
    (with_reducible refine(VH om tz).mono ?_)
    rintro e ux ⟨rfl,_⟩;dsimp only;refine aL hK ?_;refine qL [10,11] ?_;refine aZ ?_;rw[HP4.o];obtain⟨x1,rfl⟩:=lg ux
    go_upto_region 20 with fail
    have kS1:Bx x1 p.1.size 108 (cz p a m C s):=ao;have kR1:Bx x1 (w.1.size+1) 45 #[au,au,au,au]:=ao;have lA:p≠w.1.size+1:=om;refine aR w (λw9=>Bx w9 p.1.size 108 (cz p a m C s)) aq ao (λuy _=>?_);refine bw 0 ?_;refine bw 1 ?_;refine bw 2 ?_;refine bw 3 ?_;refine bw 4 ?_;refine bw 5 ?_;refine bw 7 ?_;refine aM 6 λK hK=>?_;go_simp
    (with_reducible refine(NM hk C3).mono ?_)
    rintro e uy ⟨rfl,_⟩;dsimp only;refine aL hK ?_ ⟨ab w _,ao⟩;refine bw 8 ?_;refine aM 9 λK hK=>?_;go_simp;obtain⟨u8,D⟩:=lg ((((uy.setCell (w.1.size+1,0) (.int .i64 s.iU)).setCell (w.1.size+1,1) cv).setCell (w.1.size+1,2) (q:Int)).setCell (w.1.size+1,3) P4);rw[<-D];have RI:aj u8 w:=by rw[D];exact jk (b9 _)
    have Su8:∀b,b<uy.1.size->b≠w.1.size+1->(World.heap u8)[b]?=uy.heap[b]?:=λb _ hb=>by rw[D];exact(((bm _ ⟨w.1.size+1,3,none⟩ _ b hb).trans (bm _ ⟨w.1.size+1,2,none⟩ _ b hb)).trans (bm _ ⟨w.1.size+1,1,none⟩ _ b hb)).trans (bm _ ⟨w.1.size+1,0,none⟩ _ b hb)
    have Ku8:Bx u8 (w.1.size+1) _ #[s.iU,cv,q,P4]:=⟨by rw[D];exact((((Bx.al (w:=uy) (g:=w.1.size+1)).ax 0 _).ax 1 _).ax 2 _).ax 3 _⟩;have K7:Bx u8 p.1.size 108 (cz p a m C s):=⟨(Su8 _ (Bx.al (w:=uy) (g:=p.1.size)).lt lA).trans (Bx.al (w:=uy))⟩;refine aL hK ?_ ⟨RI,K7⟩;clear hK K D;refine bw 10 ?_;refine aZ ?_
    go_wp2_with fail
    refine a8 (v:=.tuple #[.agg #[s.iU,cv,q,P4],au]) ?_ rfl ⟨rfl,RI⟩;rw[b8 rfl];go_simp
end
