/- Lemmas. No condition. -/
import Derived.Test.YtmkjnlifimffkaaGreatS21
namespace Go.Proofs.YtmkjnlifimffkaaGreat
open Go.RowKit
set_option linter.all false
set_option maxRecDepth 100000
set_option maxHeartbeats 16000000
section
set_option linter.unusedVariables false
def Ny(b:Int)(x:TV)(V:List Int)(W S:Int)(g:List Int):List Int:=tab x.2.length (ji b x.2 g (lQ x.1).toNat (lQ V).toNat S.toNat W.toNat (aV V).toNat)
noncomputable def zi(o:gP)(ps xs:List TV)(V g:List Int):List TV:=
 if o.kd=8 then[((ps.getD 0 ([],[])).1,kY g (xs.getD 0 ([],[])).2),((ps.getD 1 ([],[])).1,g)]
 else if o.kd=9 then[(V,g)]
 else if o.kd=10 then[]
 else[]
noncomputable def zk(o:gP)(ps xs:List TV)(V g:List Int):List TV:=
 if o.kd=8 then[((xs.getD 0 ([],[])).1,wm (xs.getD 0 ([],[])).2.length (ps.getD 0 ([],[])).2 g)]
 else if o.kd=9 then[(V,g)]
 else if o.kd=10 then[]
 else if o.kd=11 then[((xs.getD 0 ([],[])).1,Ny 1 (xs.getD 0 ([],[])) V o.wd o.st g)]
 else if o.kd=12 then[((xs.getD 0 ([],[])).1,Ny 2 (xs.getD 0 ([],[])) V o.wd o.st g)]
 else if o.kd=13 then[]
 else if o.kd=14 then[]
 else if o.kd=15 then[((xs.getD 0 ([],[])).1,g)]
 else if o.kd<=5 then[((xs.getD 0 ([],[])).1,mh o.kd o.k (xs.map tQ) g (xs.getD 0 ([],[])).2.length)]
 else[((xs.getD 0 ([],[])).1,mh o.kd o.k (xs.map tQ) g (xs.getD 0 ([],[])).2.length),((xs.getD 0 ([],[])).1,mQ o.kd (xs.map tQ) g (xs.getD 0 ([],[])).2.length)]
structure TF(w:World)(b:Nat)(A:Option Addr)(c:Nat)(B:Option Addr)(d:Nat)(zs xs:List Int):Prop where
 s:Sl w A zs.length zs
 x:Sl w B xs.length xs
 lc:Le zs.length c
 ld:Le xs.length d
 fA:bn b A
 fB:bn b B
section
variable{w w':World}{A B C D E F:Option Addr}{n m n' m' n2 m2 c d c' d' c2 d2 p q e' f' b b' G i:Nat}{zs xs ts ys us vs gs V:List Int}{u5:List Tn}{T:TypeId}
theorem TF.below(h:TF w b A c B d zs xs)(hb:Below w.heap.size w w')(l:b'<=b):TF w' b' A c B d zs xs:=⟨⟨h.s.rd.below hb,rfl⟩,⟨h.x.rd.below hb,rfl⟩,h.lc,h.ld,h.fA.less l,h.fB.less l⟩
theorem TF.far(h:TF w b A c B d zs xs)(e:G<b)(v:Value):TF (w.setCell ⟨G,i,none⟩ v) b A c B d zs xs:=⟨h.s.setCell (p:=⟨G,i,none⟩) h.fA e v,h.x.setCell (p:=⟨G,i,none⟩) h.fB e v,h.lc,h.ld,h.fA,h.fB⟩
theorem TF.less(h:TF w b A c B d zs xs)(l:b'<=b):TF w b' A c B d zs xs:=⟨h.s,h.x,h.lc,h.ld,h.fA.less l,h.fB.less l⟩
theorem TF.one[Bx w G T #[.slice A zs.length c,.slice B xs.length d]](t:TF w b' A c B d zs xs)(i6:∀z∈xs,aR z)(e:b<=G)(l:b<=b'):fM w b (some ⟨G,0,none⟩) 1 1 [(zs,xs)]:=by
 have:=t.s;have:=t.x;have:=t.lc;have:=t.ld;have:dh xs:=⟨i6⟩;exact fM.one e (t.fA.less l) (t.fB.less l)
def alk(w:World)(z1 x1 j x2 z3 l:List Int)(e:Ending)(w':World):Prop:=
 ∃r c1 u d1 y c2 z d2 I c3 J K,e=.returned (.tuple #[.agg #[.slice r z1.length c1,.slice u x1.length d1,.slice y j.length c2,.slice z x2.length d2,.slice I z3.length c3,.slice J l.length K],(0:Int)])/\
  TF w' w.heap.size r c1 u d1 z1 x1/\TF w' w.heap.size y c2 z d2 j x2/\TF w' w.heap.size I c3 J K z3 l/\ak w' w
theorem aG.tf{l r:TypeId}(e:aG w b l A c zs)(j:aG w b r B d xs):TF w b A c B d zs xs:=⟨⟨e.rd,rfl⟩,⟨j.rd,rfl⟩,⟨e.uB⟩,⟨j.uB⟩,⟨e.fresh⟩,⟨j.fresh⟩⟩
theorem aad[a:Sl w A n zs][j:Sl w B m xs][l:Sl w C n' ts][I:Sl w D m' ys][r:Sl w E n2 us][u:Sl w F m2 vs]{P Q:Option Addr}[a3:Sl w P p ts][y:Sl w Q q gs][ld:Le m d][J:dh xs][K:dh vs][L:dh gs](z:n2<=1000000){X Y:List Int}(hr:Hid (I7 zs xs ts ys us vs ts gs=true))(M:Hid (X=kY gs vs))(N:Hid (Y=wm vs.length xs gs)):
  Calls Tryz.prog 105 #[.agg #[.slice A n c,.slice B m d],.agg #[.slice C n' c',.slice D m' d'],.agg #[.slice E n2 c2,.slice F m2 d2],.agg #[.slice P p e',.slice Q q f']] w (alk w zs X ts gs us Y):=by
 obtain⟨a,rfl⟩:=a;obtain⟨j,rfl⟩:=j;obtain⟨l,rfl⟩:=l;obtain⟨I,rfl⟩:=I;obtain⟨r,rfl⟩:=r;obtain⟨u,rfl⟩:=u;obtain⟨a3,rfl⟩:=a3;obtain⟨y,rfl⟩:=y;rw[M.out,N.out];exact(ajo A B C D E F P Q c d c' d' c2 d2 e' f' zs xs ts ys us vs ts gs w ld.le z a j l r u a3 y (ae J.bd) (ae K.bd) (ae L.bd) hr).mono fun _ _ ⟨O,c1,R,d1,S,c2,U,d2,Z,c3,B3,d3,e,o1,o2,o3,o4,o5,o6,hb⟩=>⟨O,c1,R,d1,S,c2,U,d2,Z,c3,B3,d3,e,o1.tf o2,o3.tf o4,o5.tf o6,⟨hb⟩⟩
theorem alm{e wd st:Int}{X:List Int}{R Z l W S:Nat}[Sl w A n zs][Sl w B m xs][Sl w C n' V][Sl w D m' ys][dh ys][Le m d](j:Hid (wd=(W:Int)/\st=(S:Int)))(y:n<=1000000)(r:n'<=1000000)(hr:bH zs xs=true)(z:e=1\/e=2)(I:Hid (PW zs V R Z l W S))(u:bH V ys=true)(J:Hid (X=tab (R*Z) (ji e xs ys Z l S W (R*l)))):
  Calls Tryz.prog 109 #[e,.agg #[.slice A n c,.slice B m d],.agg #[.slice C n' c',.slice D m' d'],wd,st] w (qE w zs X 0):=by
 rw[j.out.1,j.out.2];exact akf y r hr z I u J
def aln(w:World)(L:List TV)(e:Ending)(w':World):Prop:=∃A n c,e=.returned (.tuple #[.slice A n c,(0:Int)])/\fM w' w.heap.size A n c L/\ak w' w
end
theorem alo{zs xs:List Int}(h:bH zs xs=true):zs.length<=4/\xs.length<=65536:=⟨(IK h).2,(IK h).1⟩
theorem aae{g x:List Int}(hg:∀z∈g,aR z)(j:∀z∈x,aR z):∀z∈kY g x,aR z:=fun z e=>by
 rw[kY,CX]at e;obtain⟨a,l,h⟩:=e;obtain⟨b,hb,rfl⟩:=dG.1 h;exact xm (hg a l) (j b hb)
theorem TF.SG{w:World}{b G c d:Nat}{A B:Option Addr}{zs xs:List Int}(h:TF w b A c B d zs xs)(e:G<b)(v0 v1 v2 v3 v4 v5:Value):TF ((((((w.setCell ⟨G,0,none⟩ v0).setCell ⟨G,1,none⟩ v1).setCell ⟨G,2,none⟩ v2).setCell ⟨G,3,none⟩ v3).setCell ⟨G,4,none⟩ v4).setCell ⟨G,5,none⟩ v5) b A c B d zs xs:=
 (((((h.far e v0).far e v1).far e v2).far e v3).far e v4).far e v5
theorem aaf{n:Nat}{xs g:List Int}:∀z∈wm n xs g,aR z:=fun z b=>by
 rw[wm]at b;obtain⟨j,_,rfl⟩:=dG.1 b;exact Zi _ _ _ _ _
section
variable{w w':World}{A B C D E F:Option Addr}{n m n' m' c d c' d' p q e' f' b b' G:Nat}{zs xs ts ys S V g:List Int}{T:TypeId}{us ps:List Tn}{side:Int}
theorem TF.at(h:TF w b A c B d zs xs)[l:Later w w']:TF w' b A c B d zs xs:=h.below l.st (az _)
theorem TF.two[Bx w G T #[.slice A zs.length c,.slice B xs.length d,.slice C ts.length c',.slice D ys.length d']](t:TF w b' A c B d zs xs)(e:TF w b' C c' D d' ts ys)(i6:∀z∈xs,aR z)(j:∀z∈ys,aR z)(r:b<=G)(l:b<=b'):fM w b (some ⟨G,0,none⟩) 2 2 [(zs,xs),(ts,ys)]:=by
 have:=t.s;have:=t.x;have:=t.lc;have:=t.ld;have:dh xs:=⟨i6⟩;have:=e.s;have:=e.x;have:=e.lc;have:=e.ld;have:dh ys:=⟨j⟩;exact fM.two r (t.fA.less l) (t.fB.less l) (e.fA.less l) (e.fB.less l)
theorem aag{F:Func}{e:Act}{j:World}{gp r:List TV}{x0 x1:Value}[k:Bx j G T #[x0,x1]][Later w j](u:w.heap.size<=G)(hd:e.defers=[])
  (l:∀W:World,W.cell? ⟨G,0,none⟩=some (.slice A n c)->W.cell? ⟨G,1,none⟩=some (.slice B m d)->(results F e.tmps).run Tryz.prog W=.ok (.tuple #[.agg #[.slice A n c,.slice B m d],(0:Int)]) W)
  (y:fM j b A n c gp) (z:fM j b B m d r) (hb:G<b):bodyPost Tryz.prog F (Nw w gp r) .ret e ((j.setCell ⟨G,0,none⟩ (.slice A n c)).setCell ⟨G,1,none⟩ (.slice B m d)):=
 Z9 (T:=T) ⟨aD.set2 k.blk _ _⟩ u rfl hd l y z hb
theorem alp{e k:Int}{l:Nat}:mh e k ((us.map Tn.tv).map tQ) g l=mh e k us g l:=by
 unfold mh;rw[Si];exact oZ fun i _=>by rw[ZO]
theorem alq{e:Int}{l:Nat}:mQ e ((us.map Tn.tv).map tQ) g l=mQ e us g l:=by
 unfold mQ;rw[Si]
theorem Jl{L:List Int}(h:∀z∈L,aR z)(i:Nat):aR (L.getD i 0):=by
 rw[aQ];cases e:L[i]? with
 |none=>exact⟨ah,ah⟩
 |some z=>exact h z (aK e)
theorem aah{e k:Int}{l:Nat}(j:aR k)(hs:∀i,aR (sec us i))(hg:∀z∈g,aR z):∀z∈mh e k us g l,aR z:=fun z r=>by
 obtain⟨i,_,rfl⟩:=dG.1 r;exact akm j (hs i) (Jl hg i)
theorem aai{e:Int}{l:Nat}(hs:∀z∈iA us,aR z)(hg:∀z∈g,aR z):∀z∈mQ e us g l,aR z:=fun z j=>by
 obtain⟨i,_,rfl⟩:=dG.1 j;exact akn (Jl hs i) (Jl hg i)
theorem alr(h:mJ w A us):∀z∈iA us,aR z:=fun z j=>by
 unfold iA at j;cases e:us[0]? with
 |none=>rw[e]at j;simp at j
 |some t=>
  rw[e]at j;obtain⟨_,_,_,k⟩:=h 0 t e;exact k.bd z j
theorem als{j kk:Int}{Z X Y:List Int}[a:Ts w A 2 us][J:I6 kk][Sl w B p zs][Sl w C q xs][y:dh xs](hp:p<=1000000)(K:Hid (∀t∈us,t.zs.length<=1000000))(hE:Hid (qa j us=0))(hr:bH zs xs=true)(hs:Hid (zs=zs0 us))(L:Hid (Z=zs0 us))(z:Hid (X=mh j kk us xs (iA us).length))(I:Hid (Y=mQ j us xs (iA us).length)):
  Calls Tryz.prog 114 #[j,kk,.agg #[.slice B p d,.slice C q e'],.slice A 2 c] w (aln w [(Z,X),(Z,Y)]):=
 (ak6 hp K hE.out hr hs.out L z I).mono fun _ _ ⟨G,M,l,N,r,e,l1,O,P,Q,R,ne,kG,oS,U,u,oY,pw⟩=>⟨_,_,_,e,by
  have:Sl _ (some ⟨M,0,none⟩) Z.length Z:=⟨oS.rd,rfl⟩;have:Sl _ (some ⟨l,0,none⟩) X.length X:=⟨U.rd,rfl⟩;have:Sl _ (some ⟨N,0,none⟩) Z.length Z:=⟨u.rd,rfl⟩;have:Sl _ (some ⟨r,0,none⟩) Y.length Y:=⟨oY.rd,rfl⟩;have:dh X:=⟨by rw[z.out];exact aah J.bd (fun i=>(Sg a.rd i).bd) y.bd⟩;have:dh Y:=⟨by rw[I.out];exact aai (alr a.rd) y.bd⟩;exact fM.two l1 (zf O) (zf Q) (zf P) (zf R),pw⟩
end
section
variable{w w':World}{A B C E F:Option Addr}{n m c d e nx cx ng mg gc gd:Nat}{ts us:List Tn}{o:gP}{g:List Int}
theorem alu[Sl w A n o.S][I6 o.k](hn:n<=1000000)[a:Ts w B m ts][x:Ts w C nx us][Le nx cx](hx:nx<=1000000)(hT:Hid (jw ts))(hU:Hid (jw us))(hE:iw o (ts.map (·.zs)) (us.map (·.zs))=0)(hq:Hid (gF o)){V:List Int}
  (hV:Hid (dZ o (ts.map (·.zs)) (us.map (·.zs))=V)) [sg:Sl w E ng V] [Sl w F mg g] [ig:dh g] [Le mg gd] (hg:Hid (bH V g=true)) {GP GX:List TV} (Jm:Hid (zi o (ts.map Tn.tv) (us.map Tn.tv) V g=GP)) (Jn:Hid (zk o (ts.map Tn.tv) (us.map Tn.tv) V g=GX)):
  Calls Tryz.prog 64 #[.agg (opC o.kd o.k o.wd o.st o.sd o.fr o.tt (.slice A n d)),.slice B m e,.slice C nx cx,.agg #[.slice E ng gc,.slice F mg gd]] w (Nw w GP GX):=by
 obtain⟨CB,CP,FB⟩:=iK;obtain⟨hc,hP,Sj,hk⟩:=Ce hE;obtain⟨i0,i1,i2,i3⟩:=Ar hc;have HC:Hid (rA o.kd o.k o.wd o.st o.sd o.fr o.tt o.S m nx=0):=ae (by rw[<-hc,gP.cnt,a.len,x.len,dF,dF]);have IM:Hid ((m:Int)=ky o.kd):=ae (by rw[<-i3,a.len,dF]);have IX:Hid (0<nx):=ae (by rw[x.len];rw[dF]at i1;unfold nG at i1;split at i1<;>omega);have IN:Hid (¬o.kd=8/\¬o.kd=9/\¬o.kd=10/\¬o.kd=11/\¬o.kd=12/\¬o.kd=13/\¬o.kd=14/\¬o.kd=15->(nx:Int)=jU o.kd/\jU o.kd≠0/\(o.kd<=5↔nx=1)):=ae fun h=>by
  obtain⟨kl,kh⟩:=MR i0;rw[dF,<-x.len]at i1 i2;unfold nG at i1;unfold rz at i2;unfold jU;by_cases h6:o.kd=6\/o.kd=7
  ·rw[if_pos h6]at i1 i2⊢;rw[if_neg om];omega
  ·rw[if_neg h6]at i1 i2;rw[if_neg om]at i2;rw[if_pos om];omega
 have lS:Hid (jN o (ts.map (·.zs)) (us.map (·.zs))=V):=ae (by rw[<-hV.out,dZ,if_pos hE]);have HK:=ae hk;have HX:=Jn;have SI:=Jm;obtain⟨g4,g6⟩:=alo hg.out;have ng4:ng<=4:=by rw[sg.len];exact g4
 obtain⟨b0,q0,A0,n0,c0,z0,B0,m0,d0,x0,rfl,Rz,v0,v1,s0,t0,lc0,ld0,ZP,n04,m06,r0,e0⟩:=x.D7 hU (k:=0) IX.out;have D0:Hid ((us.map (·.zs)).getD 0 []=z0):=ae (Nq e0.out);simp only[yG,nA]at v0 v1;have x1:0<nx:=IX.out;have P1:∀k:Nat,k<m->∃b o O n1 c1 zs P m1 d1 xs,B=some ⟨b,o,none⟩/\Old b w/\w.cell? ⟨b,o+k*2,none⟩=some (.slice O n1 c1)/\w.cell? ⟨b,o+k*2+1,none⟩=some (.slice P m1 d1)/\Sl w O n1 zs/\Sl w P m1 xs/\Le n1 c1/\Le m1 d1/\dh xs/\n1<=4/\m1<=65536/\Hid (bH zs xs=true)/\Hid ((ts.map Tn.tv).getD k ([],[])=(zs,xs))/\Hid ((ts.map (·.zs)).getD k []=zs):=fun k hk=>by
  obtain⟨b,o,O,n1,c1,zs,P,m1,d1,xs,h1,h2,h3,h4,h5,h6,h7,h8,h9,h10,h11,h12,D8⟩:=a.D7 hT hk;exact⟨b,o,O,n1,c1,zs,P,m1,d1,xs,h1,h2,h3,h4,h5,h6,h7,h8,h9,h10,h11,h12,D8,ae (Nq D8.out)⟩
 have D9:=ae P1;clear hc hP Sj hk i0 i1 i2 i3 IX P1 hE hV Jm Jn g4 g6;go_enter Tryz.func64,Tryz.ntmps64
 go_upto_region 1 with fail
 refine alh (fun u0 u _ _ k0 kg hz k1=>?_);by_cases J:o.kd=8
 ·have hm2:m=2:=by have:=IM.out;rw[ky,if_pos J]at this;omega
  obtain⟨b1,q1,O,n1,c1,z1,P,m1,d1,Gc,U,vX,Sk,vb1,s1,t1,lc1,ld1,ZQ,n14,m16,r1,Sm,Sn⟩:=D9.out 0 om;obtain⟨b2,q2,A2,n2,c2,z2,B2,m2,d2,Jh,L,jT,Sq,Sr,s2,t2,lc2,ld2,ix2,n24,m26,r2,Su,Sv⟩:=D9.out 1 om;subst U;injection L with L;injection L with L Y;subst L Y
  simp only[yG,nA,De]at Sk vb1 Sq Sr;have hV:=lS.out;have N:=HX.out;have T:=SI.out;have hK:=HK.out;rw[jN,if_pos J]at hV;rw[zk,if_pos J]at N;rw[zi,if_pos J]at T;rw[jc,if_pos J]at hK;rw[Sn.out,Sv.out,D0.out]at hV hK;rw[Sm.out,e0.out]at N T;rw[Su.out]at T;have HG:Hid (I7 z1 Gc z2 Jh z0 x0 z2 g=true/\V=z2):=ae (by
   have hB:qH z1 z2 z0=true:=by
    unfold xE at hK
    split at hK
    ·assumption
    ·exact absurd hK ah
   rw[xD,if_pos hB]at hV;simp only[qH,dm,dU]at hB;obtain⟨⟨⟨⟨g1,g2⟩,g3⟩,g4⟩,g5⟩:=hB;have f0:=((jI _ _).1 r0.out).2;have e:z2=[z1.getD 0 0]:=by
    match z2,g2,g3 with
    |[y],_,g3=>rw[<-g3];rfl
   have eV:V=z2:=by rw[<-hV,e]
   refine⟨?_,eV⟩;simp only[I7,mM,xH,dm,dU];exact⟨⟨⟨⟨⟨⟨⟨r1.out,g1⟩,r2.out⟩,r0.out⟩,e⟩,by rw[f0,g5]⟩,by rw[<-eV];exact hg.out⟩,bO⟩)
  obtain rfl:=HG.out.2;have HW:Hid (∀z∈kY g x0,aR z):=ae (aae ig.bd ZP.bd);have HY:Hid (∀z∈wm x0.length Gc g,aR z):=ae (aaf);obtain⟨WW,SK⟩:=lg (kY g x0);obtain⟨YY,SL⟩:=lg (wm x0.length Gc g);rw[<-SL]at HY N;rw[<-SK]at HW T;have HWW:=ae SK;have Nz:=ae SL;have Gd:=ae (And.intro N.symm T.symm);have g1:0<m:=om;have g2:(1:Int)<(m:Int):=by omega
  have h8:(o.kd==8)=true:=by simpa using J
  clear J;clear hm2 hV N T hK SK SL
  go_upto_region 6 with(first|(go_at_call 104;(with_reducible refine(BX hn HC).mono ?_);rintro e u ⟨rfl,_⟩))
  obtain⟨v,rfl⟩:=lg u
  go_cut [11,12] (fun p e wx=>∃G O U P f1 A2 L B2 f2 A3 Y B3 f3,p=.pointer (some ⟨G,0,none⟩)/\e=.int .i64 0/\Bx wx G 201 #[.slice O z1.length U,.slice P WW.length f1,.slice A2 V.length L,.slice B2 g.length f2,.slice A3 z0.length Y,.slice B3 YY.length f3]/\TF wx v.heap.size O U P f1 z1 WW/\TF wx v.heap.size A2 L B2 f2 V g/\TF wx v.heap.size A3 Y B3 f3 z0 YY/\ak wx v)
  case first=>
   refine eU v aj (fun D _=>?_);refine ag 0 30 ?_;refine ag 1 31 ?_;refine ag 2 32 ?_;refine ag 3 33 ?_;refine ag 4 34 ?_;refine ag 5 35 ?_;refine ag 6 36 ?_;refine ag 7 37 ?_;refine ag 8 38 ?_;refine ag 9 39 ?_;refine il 10 14 (fun K hK=>?_) (fun K hK=>?_)
   focus
    go_simp
    (with_reducible refine(aad om (ae HG.out.1) HWW Nz).mono ?_)
    rintro e D ⟨O,U,P,f1,A2,L,B2,f2,A3,Y,B3,f3,rfl,t1',t2',Jo,_⟩;dsimp only;refine av hK ?_;clear hK K;refine ag 11 29 ?_;refine ag 12 41 ?_;refine ag 13 42 ?_;refine ay 14 fun K hK=>?_;go_simp;obtain⟨g9,Q⟩:=lh ((World.heap D).size);have Jp:(World.heap D).size<=g9:=by rw[<-Q];exact aH
    refine av hK ?_;clear hK K;refine bY (fun D _ SN=>?_);rw[Q]at SN⊢;clear Q
   rotate_left
   focus
    go_simp;obtain⟨g9,Q⟩:=lh ((World.heap D).size);have Jp:(World.heap D).size<=g9:=by rw[<-Q];exact aH
    refine av hK ?_;clear hK K;refine bY (fun D _ SN=>?_);rw[Q]at SN⊢;clear Q;refine ay 10 fun K hK=>?_;go_simp
    (with_reducible refine(aad om (ae HG.out.1) HWW Nz).mono ?_)
    rintro e D ⟨O,U,P,f1,A2,L,B2,f2,A3,Y,B3,f3,rfl,t1',t2',Jo,_⟩;dsimp only;refine av hK ?_;clear hK K;refine ag 11 29 ?_;refine ag 12 41 ?_;refine ag 13 42 ?_
   all_goals
    refine ay 15 fun K hK=>?_;go_simp;obtain⟨v9,j⟩:=lg (World.Cf D g9 (.slice O (List.length z1) U) (.slice P (List.length WW) f1) (.slice A2 (List.length V) L) (.slice B2 (List.length g) f2) (.slice A3 (List.length z0) Y) (.slice B3 (List.length YY) f3));unfold World.Cf at j;rw[<-j];have Ea:Bx v9 g9 _ #[.slice O (List.length z1) U,.slice P (List.length WW) f1,.slice A2 (List.length V) L,.slice B2 (List.length g) f2,.slice A3 (List.length z0) Y,.slice B3 (List.length YY) f3]:=⟨by rw[j];exact aD.Cf (Bx.blk (w:=D) (g:=g9)) _ _ _ _ _ _⟩;have Av:ak v9 v:=⟨by rw[j];exact xJ (aL v D) (aZ aH Jp) _ _ _ _ _ _⟩;have T1:TF v9 (World.heap v).size O U P f1 z1 WW:=by rw[j];first|exact t1'.below (xJ (aL _ D) Jp _ _ _ _ _ _) aH|exact(t1'.SG (Bx.blk (g:=g9)).lt _ _ _ _ _ _).less aH
    have T2:TF v9 (World.heap v).size A2 L B2 f2 V g:=by rw[j];first|exact t2'.below (xJ (aL _ D) Jp _ _ _ _ _ _) aH|exact(t2'.SG (Bx.blk (g:=g9)).lt _ _ _ _ _ _).less aH
    have T3:TF v9 (World.heap v).size A3 Y B3 f3 z0 YY:=by rw[j];first|exact Jo.below (xJ (aL _ D) Jp _ _ _ _ _ _) aH|exact(Jo.SG (Bx.blk (g:=g9)).lt _ _ _ _ _ _).less aH
    refine av hK ?_ Av;clear hK K j;refine ag 16 12 ?_;refine aO ?_
    go_wp2_with fail
    go_meet
    exact⟨g9,O,U,P,f1,A2,L,B2,f2,A3,Y,B3,f3,rfl,rfl,Ea,T1,T2,T3,Av⟩
  case rest=>
   obtain⟨G,O,U,P,f1,A2,L,B2,f2,A3,Y,B3,f3,rfl,rfl,kG,t1',t2',Jo,pv⟩:=hcut
   go_wp2_with fail
   rw[Gd.out.1,Gd.out.2];exact aag (b:=v.heap.size) (x0:=.slice none 0 0) (x1:=.slice none 0 0) om rfl (fun W r0 r1=>by simp[results,Tryz.results64,go_sem,r0,r1]) (TF.two t1'.at t2'.at HW.out ig.bd aH (az _)) (TF.one Jo.at HY.out (Nat.le_succ_of_le aH) (az _)) (Bx.blk (w:=v) (g:=w.heap.size+1+1)).lt
 have h8:(o.kd==8)=false:=by simpa using J
 have k9:¬o.kd=9:=by have:=hq.out;unfold gF at this;omega
 have h9:(o.kd==9)=false:=by simpa using k9
 have l:¬o.kd=10:=by have:=hq.out;unfold gF at this;omega
 have h10:(o.kd==10)=false:=by simpa using l
 have M:¬o.kd=11:=by have:=hq.out;unfold gF at this;omega
 have h11:(o.kd==11)=false:=by simpa using M
 by_cases I:o.kd=12
 ·have hV:=lS.out;have N:=HX.out;have T:=SI.out;have hK:=HK.out;rw[jN,if_neg J,if_neg k9,if_neg l,if_pos (.inr I)]at hV;rw[zk,if_neg J,if_neg k9,if_neg l,if_neg M,if_pos I]at N;rw[zi,if_neg J,if_neg k9,if_neg l]at T;rw[jc,if_neg J,if_neg k9,if_neg l,if_pos (.inr I)]at hK;rw[D0.out]at hV hK;rw[e0.out]at N;obtain⟨R,Z,nn,W',S',hW,hS,pw⟩:=PW.of hK;rw[hV]at pw;have Sw:=ae pw;obtain⟨X,NA⟩:=lg (tab (R*Z) (ji 2 x0 g Z nn S' W' (R*nn)));have zb:=ae NA;have HB:Hid (∀z∈X,aR z):=ae (by rw[NA];intro z hz;obtain⟨q,_,rfl⟩:=dG.1 hz;exact Nk _ _);have N:[(z0,X)]=GX:=by
   rw[<-N,NA,Ny,hW,hS];have U:lQ z0=(Z:Int):=by rw[lQ,aQ,pw.at_];rfl
   have L:lQ V=(nn:Int):=by
    rw[lQ,pw.v,jQ,aQ,qX (by have:=pw.len;omega)];rfl
   have Y:x0.length=R*Z:=by have:=((jI _ _).1 r0.out).2;rw[pw.size]at this;omega
   rw[U,L,pw.MX,Y];simp only[dD]
  have Ji:=ae (And.intro hW hS);clear pw hW hS NA;have Gd:=ae (And.intro N.symm T.symm);have h12:(o.kd==12)=true:=by simpa using I
  clear J k9 l M I;clear hV N T hK;obtain⟨rfl,rfl⟩:=Gd.out
  go_upto_region 20 with(first|(go_at_call 104;(with_reducible refine(BX hn HC).mono ?_);rintro e u ⟨rfl,_⟩))
  obtain⟨r,rfl⟩:=lg u;have le1:w.heap.size+1+1<(World.heap r).size:=(Bx.blk (w:=r) (g:=w.heap.size+1+1)).lt;have i6X:dh X:=⟨HB.out⟩;refine eU u0 aj (fun D _=>?_);refine ag 0 112 ?_;refine ag 1 113 ?_;refine ag 2 114 ?_;refine ag 3 115 ?_;refine ag 4 116 ?_;refine ag 5 117 ?_;refine ag 6 118 ?_;refine ag 7 119 ?_;refine ay 8 fun K hK=>?_;go_simp
  (with_reducible refine(alm Ji om om r0.out (.inr rfl) Sw hg.out zb).mono ?_)
  rintro e D ⟨A',c',B',d',rfl,sA,sX,lA,lX,fA,fX,_⟩;dsimp only;refine av hK ?_;clear hK K;refine ag 9 121 ?_;refine ag 10 122 ?_;refine ay 11 fun K hK=>?_;go_simp
  (with_reducible refine(ali aH fA fX).mono ?_)
  rintro e D ⟨GG,rfl,Jq,_⟩;dsimp only;refine av hK ?_;clear hK K;refine ag 12 124 ?_;refine ag 13 125 ?_;refine ay 14 fun K hK=>?_;go_simp;obtain⟨v9,j⟩:=lg ((D.setCell ⟨w.heap.size+1+1,0,none⟩ (.slice none 0 0)).setCell ⟨w.heap.size+1+1,1,none⟩ (.slice GG 1 1));rw[<-j];have Bv9:Below (World.heap u0).size u0 v9:=by rw[j];exact gW (aL u0 D) hz _ _
  have ZR:∀b,b<D.heap.size->b≠w.heap.size+1+1->(World.heap v9)[b]?=D.heap[b]?:=fun b _ hb=>by rw[j];exact(dM _ ⟨w.heap.size+1+1,1,none⟩ _ b hb).trans (dM _ ⟨w.heap.size+1+1,0,none⟩ _ b hb)
  have Ea:Bx v9 (w.heap.size+1+1) _ #[.slice none 0 0,.slice GG 1 1]:=⟨by rw[j];exact aD.set2 (Bx.blk (w:=D) (g:=w.heap.size+1+1)) _ _⟩;have Av:ak v9 u0:=⟨Bv9⟩;obtain⟨v8,rfl⟩:=lg D;have Hv9:=j;refine av hK ?_ ⟨Bv9⟩;clear hK K j;refine ag 15 9 ?_;refine aO ?_
  go_wp2_with fail
  exact Z9 (b:=r.heap.size) Ea om Hv9 rfl (fun W r0 r1=>by simp[results,Tryz.results64,go_sem,r0,r1]) fM.nil (Jq.less aH) om
 have h12:(o.kd==12)=false:=by simpa using I
 have k13:¬o.kd=13:=by have:=hq.out;unfold gF at this;omega
 have D8:(o.kd==13)=false:=by simpa using k13
 have k14:¬o.kd=14:=by have:=hq.out;unfold gF at this;omega
 have h14:(o.kd==14)=false:=by simpa using k14
 have k15:¬o.kd=15:=by have:=hq.out;unfold gF at this;omega
 have h15:(o.kd==15)=false:=by simpa using k15
 have hV:=lS.out;have N:=HX.out;have T:=SI.out;have hK:=HK.out;rw[jN,if_neg J,if_neg k9,if_neg l,if_neg (show¬(o.kd=11\/o.kd=12)from fun h=>h.elim M I),if_neg k13,if_neg k14,if_neg k15]at hV;rw[zi,if_neg J,if_neg k9,if_neg l]at T;rw[jc,if_neg J,if_neg k9,if_neg l,if_neg (show¬(o.kd=11\/o.kd=12)from fun h=>h.elim M I),if_neg k13,if_neg k14,if_neg k15]at hK;have NB:=IN.out ⟨J,k9,l,M,I,k13,k14,k15⟩;have ul:0<us.length:=by have:=x.len;omega
 have HG:Hid (qa o.kd us=0/\V=zs0 us/\z0=V/\x0=iA us):=ae (by
  have hn:(us.length:Int)=jU o.kd:=by rw[<-x.len];exact NB.1
  have e9:zs0 us=z0:=by rw[<-D0.out,zs0,aQ,dE]
  have hz0:z0=V:=by
   rw[<-hV];exact D6 hK z0 (by rw[<-D0.out,aQ,dE,aW ul];exact dG.2 ⟨_,uA ul,rfl⟩)
  refine⟨?_,by rw[e9,hz0],hz0,?_⟩
  ·unfold qa;rw[if_neg NB.2.1,if_pos hn,if_pos];rw[fK];intro t ht;unfold za;rw[(hU.out t ht).1,e9,hz0,<-hV];simpa using D6 hK t.zs (dG.2 ⟨t,ht,rfl⟩)
  ·have e:=e0.out;rw[aQ,dE,aW ul]at e;rw[iA,aW ul];exact(eD (·.2) e).symm)
 have HZ:Hid (∀t∈us,t.zs.length<=1000000):=ae fun t ht=>by have:=hU.out.len ht;omega
 have Q8:=ae T.symm;have qK:=ae HG.out.1;have HG2:=ae HG.out.2.1;obtain rfl:=Q8.out;have h5:¬o.kd<=5:=by have:=hq.out;unfold gF at this;omega
 have BU:Hid (nx=2):=ae (by have h1:=NB.1;unfold jU at h1;split at h1<;>(try split at h1)<;>omega);rw[zk,if_neg J,if_neg k9,if_neg l,if_neg M,if_neg I,if_neg k13,if_neg k14,if_neg k15,if_neg h5,e0.out,alp,alq,HG.out.2.2.1]at N;have zb:Hid (GX=[(V,mh o.kd o.k us g (iA us).length),(V,mQ o.kd us g (iA us).length)]):=ae (by rw[<-N,<-HG.out.2.2.2]);obtain rfl:=zb.out;clear J k9 l M I k13 k14 k15 hV N T hK NB h5 ul
 go_upto_region 27 with(first|(go_at_call 104;(with_reducible refine(BX hn HC).mono ?_);rintro e u ⟨rfl,_⟩))
 obtain rfl:=BU.out
 go_wp2_with (first|(go_at_call 114;refine(als om HZ qK hg.out HG2 HG2 (ae rfl) (ae rfl)).mono ?_;rintro e u ⟨PA,pn,pc,rfl,Jq,_⟩)|(go_at_call 110;refine(alj rfl).mono ?_;rintro e u ⟨rfl,_⟩))
 exact aag (x0:=.slice none 0 0) (x1:=.slice none 0 0) om rfl (fun W r0 r1=>by simp[results,Tryz.results64,go_sem,r0,r1]) fM.nil Jq.at (Bx.blk (g:=w.heap.size+1+1)).lt
end
end
section
set_option linter.unusedVariables false
def TV.ok(t:TV):Prop:=bH t.1 t.2=true/\∀z∈t.2,aR z
section
variable{o:gP}{ps xs:List TV}
theorem uV{L:List TV}{k:Nat}:(L.map (·.1)).getD k []=(L.getD k ([],[])).1:=by
 rw[aQ,aQ,dE];cases L[k]?<;>rfl
theorem Eb{L:List TV}{k:Nat}(h:k<L.length):L.getD k ([],[])∈L:=by
 rw[aQ,aW h];exact uA h
theorem TV.ok.len{t:TV}(h:TV.ok t):(t.2.length:Int)=aV t.1:=((jI _ _).1 h.1).2
theorem TV.ok.right{t:TV}(h:TV.ok t):aU t.1=true:=((jI _ _).1 h.1).1
theorem NC{α:Type}{f:α->Int}(b:∀x,aR (f x)){L:List α}:∀z∈L.map f,aR z:=fun z e=>by
 obtain⟨x,_,rfl⟩:=dG.1 e;exact b x
theorem alx{a b:List Int}:∀z∈a.zipWith dQ b,aR z:=fun z j=>by
 obtain⟨i,hi⟩:=jF j;rw[List.getElem?_zipWith]at hi;cases e:a[i]? with
 |none=>rw[e]at hi;simp at hi
 |some x=>
  cases hb:b[i]? with
  |none=>rw[e,hb]at hi;simp at hi
  |some y=>rw[e,hb]at hi;simp at hi;rw[<-hi];exact BG _ _
theorem aal:aR 0:=⟨ah,ah⟩
theorem aly{b:Int}{W:Nat}{l:List Int}(h:∀z∈l,aR z):aR (qG b W l):=by
 unfold qG
 split
 ·cases l with
  |nil=>exact aal
  |cons x t=>exact h _ (YV au).1
 ·exact Xl (Qq _) (Xp _)
theorem aam{xs:List Tn}(h:∀t∈xs,∀z∈t.xs,aR z)(i:Nat):aR (sec xs i):=by
 unfold sec;cases b:xs[1]? with
 |none=>exact aal
 |some t=>exact Jl (h t (aK b)) i
theorem aan{xs:List Tn}(h:∀t∈xs,∀z∈t.xs,aR z):∀z∈iA xs,aR z:=by
 unfold iA;cases b:xs[0]? with
 |none=>intro z e;simp at e
 |some t=>exact h t (aK b)
theorem NG(h:∀t∈xs,TV.ok t):∀t∈xs.map tQ,∀z∈t.xs,aR z:=fun t ht=>by
 obtain⟨v,hv,rfl⟩:=dG.1 ht;exact(h v hv).2
theorem alz(hE:iw o (ps.map (·.1)) (xs.map (·.1))=0)(hq:gF o)(hp:∀t∈ps,TV.ok t)(F:∀t∈xs,TV.ok t)(Q:aR o.k):TV.ok (dZ o (ps.map (·.1)) (xs.map (·.1)),xP o ps xs):=by
 obtain⟨R,-,-,hK⟩:=Ce hE;obtain⟨U,i1,i2,i3⟩:=Ar R;have G:=FW hE;rw[dF]at i1 i2 i3;obtain⟨V,hV⟩:=lh (dZ o (ps.map (·.1)) (xs.map (·.1)));rw[hV]at G⊢;have I:=hV;rw[dZ,if_pos hE]at hV;have J:0<xs.length:=by unfold nG at i1;split at i1<;>omega
 have C:=F _ (Eb J);have D:=C.len
 suffices h:((xP o ps xs).length:Int)=aV V/\∀z∈xP o ps xs,aR z from⟨(jI _ _).2 ⟨G,h.1⟩,h.2⟩
 unfold xP;rw[I];by_cases j:o.kd=8
 ·rw[ky,if_pos j]at i3;rw[if_pos j];rw[jc,if_pos j,uV,uV,uV]at hK;rw[jN,if_pos j,uV,uV,uV]at hV;have K:=hp _ (Eb (L:=ps) (k:=1) om);have M:qH (ps.getD 0 ([],[])).1 (ps.getD 1 ([],[])).1 (xs.getD 0 ([],[])).1=true:=by
   unfold xE at hK
   split at hK
   ·assumption
   ·exact absurd hK ah
  rw[xD,if_pos M]at hV;simp only[qH,dm,dU]at M;obtain⟨⟨⟨⟨X,S⟩,N⟩,Y⟩,Z⟩:=M;have e:(ps.getD 1 ([],[])).1=V:=by
   rw[<-hV]
   match(ps.getD 1 ([],[])).1,S,N with
   |[y],_,N=>rw[<-N];rfl
  refine⟨by rw[I4,K.len,e],NC fun i=>BG _ _⟩
 rw[if_neg j];have O:¬o.kd=9:=by have:=hq;unfold gF at this;omega
 rw[if_neg O];have l:¬o.kd=10:=by have:=hq;unfold gF at this;omega
 rw[if_neg l];have E:¬o.kd=11:=by have:=hq;unfold gF at this;omega
 rw[if_neg E];by_cases m:o.kd=12
 ·rw[if_pos m];exact⟨by rw[Np,MU];have:=(pQ G);obtain⟨n,K,h2,h3⟩:=this;rw[K];simp,NC fun i=>aly fun z T=>C.2 z (jo (gU T))⟩
 rw[if_neg m];have b:¬(o.kd=11\/o.kd=12):=fun h=>h.elim E m;have r:¬o.kd=13:=by have:=hq;unfold gF at this;omega
 rw[if_neg r];have u:¬o.kd=14:=by have:=hq;unfold gF at this;omega
 rw[if_neg u];have B:¬o.kd=15:=by have:=hq;unfold gF at this;omega
 rw[if_neg B];rw[jc,if_neg j,if_neg O,if_neg l,if_neg b,if_neg r,if_neg u,if_neg B]at hK;rw[jN,if_neg j,if_neg O,if_neg l,if_neg b,if_neg r,if_neg u,if_neg B]at hV;have P:=D6 hK (xs.getD 0 ([],[])).1 (by rw[<-uV,aQ,dE,aW J];exact dG.2 ⟨_,uA J,rfl⟩);rw[hV]at P;rw[P]at D;exact⟨by rw[Nn,D],NC fun i=>akl Q (Jl (aan (NG F)) i) (aam (NG F) i)⟩
end
end
section
set_option linter.unusedVariables false
section
variable{o:gP}{ps xs:List TV}{V g:List Int}
theorem alA{L:List TV}(h:L.length=1):L=[L.getD 0 ([],[])]:=by
 match L,h with
 |[x],_=>rfl
theorem aao{L:List TV}(h:L.length=2):L=[L.getD 0 ([],[]),L.getD 1 ([],[])]:=by
 match L,h with
 |[x,y],_=>rfl
theorem Gf{zs xs:List Int}(hr:aU zs=true)(b:(xs.length:Int)=aV zs)(hb:∀z∈xs,aR z):TV.ok (zs,xs):=⟨(jI _ _).2 ⟨hr,b⟩,hb⟩
theorem aap(hE:iw o (ps.map (·.1)) (xs.map (·.1))=0)(hq:gF o)(hp:∀t∈ps,TV.ok t)(C:∀t∈xs,TV.ok t)(hV:dZ o (ps.map (·.1)) (xs.map (·.1))=V)(hg:TV.ok (V,g)):
  (zi o ps xs V g).map (·.1)=ps.map (·.1)/\∀t∈zi o ps xs V g,TV.ok t:=by
 obtain⟨D,-,-,hK⟩:=Ce hE;obtain⟨K,i1,i2,i3⟩:=Ar D;rw[dF]at i1 i2 i3;rw[dZ,if_pos hE]at hV;have E:0<xs.length:=by unfold nG at i1;split at i1<;>omega
 have j:=C _ (Eb E);unfold zi;by_cases b:o.kd=8
 ·rw[ky,if_pos b]at i3;rw[if_pos b];rw[jc,if_pos b,uV,uV,uV]at hK;rw[jN,if_pos b,uV,uV,uV]at hV;have F:=hp _ (Eb (L:=ps) (k:=0) om);have m:qH (ps.getD 0 ([],[])).1 (ps.getD 1 ([],[])).1 (xs.getD 0 ([],[])).1=true:=by
   unfold xE at hK
   split at hK
   ·assumption
   ·exact absurd hK ah
  rw[xD,if_pos m]at hV;simp only[qH,dm,dU]at m;obtain⟨⟨⟨⟨G,I⟩,r⟩,M⟩,J⟩:=m;have e:(ps.getD 1 ([],[])).1=V:=by
   rw[<-hV]
   match(ps.getD 1 ([],[])).1,I,r with
   |[y],_,r=>rw[<-r];rfl
  have u:aV (ps.getD 0 ([],[])).1=aV V*aV (xs.getD 0 ([],[])).1:=by
   rw[J,<-hV]
   match(ps.getD 0 ([],[])).1,G with
   |[y,z],_=>simp[aV]
  refine⟨?_,fun t ht=>?_⟩
  ·conv=>rhs;rw[aao (L:=ps) om]
   rfl
  ·simp only[dz,mG,pI]at ht;rcases ht with rfl|rfl
   ·exact Gf F.right (by rw[Zh,yx,hg.len,j.len,u]) (aae hg.2 j.2)
   ·rw[e];exact hg
 rw[if_neg b];have B:¬o.kd=9:=by have:=hq;unfold gF at this;omega
 rw[if_neg B];have l:¬o.kd=10:=by have:=hq;unfold gF at this;omega
 rw[if_neg l];rw[ky,if_neg b,if_neg (fun h=>h.elim B l)]at i3;obtain rfl:ps=[]:=rZ om;exact⟨rfl,fun t ht=>by cases ht⟩
theorem aaq(hE:iw o (ps.map (·.1)) (xs.map (·.1))=0)(hq:gF o)(C:∀t∈xs,TV.ok t)(K:aR o.k)(hV:dZ o (ps.map (·.1)) (xs.map (·.1))=V)(hg:TV.ok (V,g)):
  (zk o ps xs V g).map (·.1)=xs.map (·.1)/\∀t∈zk o ps xs V g,TV.ok t:=by
 obtain⟨M,-,-,hK⟩:=Ce hE;obtain⟨N,i1,i2,i3⟩:=Ar M;rw[dF]at i1 i2 i3;rw[dZ,if_pos hE]at hV;have F:0<xs.length:=by unfold nG at i1;split at i1<;>omega
 have b:=C _ (Eb F);have one:¬(o.kd=6\/o.kd=7)->o.kd≠13->∀c:List Int,(c.length:Int)=aV (xs.getD 0 ([],[])).1->(∀z∈c,aR z)->[((xs.getD 0 ([],[])).1,c)].map (·.1)=xs.map (·.1)/\∀t∈[((xs.getD 0 ([],[])).1,c)],TV.ok t:=fun O D c P hb=>by
  rw[rz,if_neg O,if_neg D]at i2;refine⟨?_,fun t ht=>?_⟩
  ·conv=>rhs;rw[alA (L:=xs) om]
   rfl
  ·rw[gm.1 ht];exact Gf b.right P hb
 unfold zk;by_cases E:o.kd=8
 ·rw[if_pos E];exact one om om _ (by rw[<-b.len];simp[wm]) aaf
 rw[if_neg E];have G:¬o.kd=9:=by have:=hq;unfold gF at this;omega
 rw[if_neg G];have m:¬o.kd=10:=by have:=hq;unfold gF at this;omega
 rw[if_neg m];have r:¬o.kd=11:=by have:=hq;unfold gF at this;omega
 rw[if_neg r];by_cases e:o.kd=12
 ·rw[if_pos e];exact one om om _ (by rw[Ny,DN,b.len]) (NC fun i=>Nk _ _)
 rw[if_neg e];have j:¬(o.kd=11\/o.kd=12):=fun h=>h.elim r e;have l:¬o.kd=13:=by have:=hq;unfold gF at this;omega
 rw[if_neg l];have u:¬o.kd=14:=by have:=hq;unfold gF at this;omega
 rw[if_neg u];have y:¬o.kd=15:=by have:=hq;unfold gF at this;omega
 rw[if_neg y];rw[jc,if_neg E,if_neg G,if_neg m,if_neg j,if_neg l,if_neg u,if_neg y]at hK;have I:∀z∈mh o.kd o.k (xs.map tQ) g (xs.getD 0 ([],[])).2.length,aR z:=aah K (aam (NG C)) hg.2;have Q:∀z∈mQ o.kd (xs.map tQ) g (xs.getD 0 ([],[])).2.length,aR z:=aai (aan (NG C)) hg.2;obtain⟨T,U⟩:=MR N;by_cases J:o.kd<=5
 ·rw[if_pos J];exact one om l _ (by rw[Jj,b.len]) I
 ·rw[if_neg J];have B:o.kd=6\/o.kd=7:=om;rw[nG,if_pos B]at i1;rw[rz,if_pos B]at i2;have D:xs.length=2:=om;have R:=D6 hK (xs.getD 0 ([],[])).1 (dG.2 ⟨_,Eb F,rfl⟩);have S:=D6 hK (xs.getD 1 ([],[])).1 (dG.2 ⟨_,Eb om,rfl⟩);refine⟨?_,fun t ht=>?_⟩
  ·conv=>rhs;rw[aao D]
   simp only[fe,lG,R,S]
  ·simp only[dz,mG,pI]at ht;rcases ht with rfl|rfl
   ·exact Gf b.right (by rw[Jj,b.len]) I
   ·exact Gf b.right (by rw[Nr,b.len]) Q
end
end
end Go.Proofs.YtmkjnlifimffkaaGreat
