/- Lemmas. No condition. -/
import Derived.Test.YtmkjnlifimffkaaGreatS10
namespace Go.Proofs.YtmkjnlifimffkaaGreat
open Go.RowKit
set_option linter.all false
set_option maxRecDepth 100000
set_option maxHeartbeats 16000000
section
variable{p w w' w1:World}{B r g k n i j c wd c':Nat}{a a':oo}{v v':bL}{b:dW}{bs bs':List dW}{A A':Option Addr}{x:Value}{y z h:Int}{zs xs:List Int}
theorem bQ.ahn(l:bQ w B r a v)(C:bS a.Ac A' w w')(hr:aG w' B 65 A' c' zs):bQ (w'.setCell ⟨r,1,none⟩ (.slice A' zs.length c')) B r {a with Ac:=A',cc:=c'} {v with cs:=zs}/\Kf (a.F r) (({a with Ac:=A',cc:=c'}:oo).F r) w (w'.setCell ⟨r,1,none⟩ (.slice A' zs.length c')):=by
 obtain⟨p1,D,K⟩:=l.apart;have E:aD w' r 197 (jh a v):=C.blk l.hd fun ad e m=>(D r ⟨ad,e,m⟩).1 rfl;have G:aP w' B 311 3 a.Ab a.cb v.bs.length (gY v.bs):=l.bs.same fun ad e=>C.off _ (l.bs.lt ad e) fun tC L m=>(D ad.block ⟨tC,L,m⟩).2.2 ⟨ad,e,rfl⟩;have I:jL w' a.q v.mp:=l.mp.same (C.off _ l.mp.lt fun ad e m=>(D a.q ⟨ad,e,m⟩).2.1 rfl);have J:∀ad,A'=some ad->ad.block≠r:=fun ad e m=>by
  obtain⟨_,_,cur,u⟩:=hr.af ⟨ad,e,m⟩;unfold aD at E;rw[E]at u;injection u with u;injection u with _ u;exact absurd u ah
 refine⟨⟨?_,?_,?_,?_,l.hr,l.hq⟩,?_⟩
 ·exact E.aF 1 _
 ·exact hr.same fun ad e=>dM w' ⟨r,1,none⟩ _ _ (J ad e)
 ·exact G.same fun ad e=>dM w' ⟨r,1,none⟩ _ _ (K ad.block ⟨ad,e,rfl⟩).1
 ·exact I.same (dM w' ⟨r,1,none⟩ _ _ (lI p1))
 ·refine((Kf.iq C).more (fun b hb=>.inr (.inr (.inl hb))) (fun b hb=>?_)).aF (.inl rfl) _;rcases hb with hb|hb|hb|hb
  ·exact .inr (.inl (.inl hb))
  ·exact .inr (.inl (.inr (.inl hb)))
  ·exact .inl hb
  ·exact .inr (.inl (.inr (.inr (.inr hb))))
theorem dw.few(hv:dw v):v.bs.length<=16777216:=by
 have C:v.bs.length<=(v.bs.map (·.wd)).sum:=by
  have:∀L:List dW,(∀b∈L,1<=b.wd)->L.length<=(L.map (·.wd)).sum:=by
   intro L
   induction L with
   |nil=>intro _;simp
   |cons x t e=>
    intro hL;have l:=hL x dN;have m:=e fun y u=>hL y (fI _ u);simp only[fe,jR,iJ];omega
  exact this _ fun b hb=>(hv.lay.bd b hb).1
 have l:=hv.lv;have m:=hv.Il;have D:=hv.cl;have E:=hv.cap;omega
theorem aho(W:World){A:Option Addr}{L c e k:Nat}(C:A=some ⟨g,0,none⟩)(E:0<k)(F:e+k<=L)(G:L<=c):(Instr.slice 26 (.slice A L c) (some (.int .i64 (e:Int))) (some (.int .i64 ((e:Int)+(k:Int)))) none).run Tryz.prog W=.ok (.slice (some ⟨g,e,none⟩) k (c-e)) W:=by
 subst C;have l:∀W,(sizeOf (Tryz.prog.elem 26)).run Tryz.prog W=.ok 1 W:=fun W=>by
  obtain⟨I,m,u⟩:=bN.1 (show(Tryz.prog.info? (Tryz.prog.elem 26)).map (·.size)=some 1 from by kernel_rfl);simp[sizeOf,typeInfo,m,u]
 rw[BD W 26 (some ⟨g,0,none⟩) L c aj .i64 .i64 (e:Int) ((e:Int)+(k:Int)) om om om,l];have m:((e:Int)+(k:Int)).toNat=e+k:=by omega
 have u:¬c=e:=om;have D:e+k-e=k:=om;simp[Result.andThen,sliced,m,u,D,eu]
theorem ahp[pw:Later p w](hM:bQ w p.heap.size r a v)(hv:dw v)(h1:1<=wd)(h2:wd<=65536)(hl:v.lv+wd<=v.cap)(hnx:v.nx<=1000000000000)(hmv:v.mv<=1000000000000):
  Calls Tryz.prog 201 #[.pointer r,wd] w (fun e w'=>e=.returned (.tuple #[.int .i64 ((v.nx+1:Nat):Int),(0:Int)])/\∃a' v',Hid (bQ w' p.heap.size r a' v')/\Hid (BP v wd v')/\Hid (v'.mv<=v.mv+1)/\Hid (Kf (a.F r) (a'.F r) w w')):=by
 have CC:=@jK;have hlv:=hv.Il;have hcl:=hv.cl;have hcp:=hv.cap;have HV:=ae hv;have J:=ae hM;have c0:Cl w r 0 (.int .i64 (v.cap:Int)):=⟨hM.hd.cell 0⟩;have c6:Cl w r 6 (.int .i64 (v.lv:Int)):=⟨hM.hd.cell 6⟩;have QW:Old r w:=⟨hM.hd.lt⟩;have d1:decide ((wd:Int)<1)=false:=by simp;omega
 have d2:decide ((65536:Int)<(wd:Int))=false:=by simp;omega
 have hw0:IntKind.i64.wrap ((v.cap:Int)-(v.lv:Int))=(v.cap:Int)-(v.lv:Int):=by rw[bF];omega
 have d3:decide ((v.cap:Int)-(v.lv:Int)<(wd:Int))=false:=by simp;omega
 have IB:Hid (p.heap.size<=w.heap.size):=ae pw.st.size;clear hM hv;go_enter Tryz.func201,Tryz.ntmps201
 go_upto_region 3 with fail
 refine bZ aj (fun ux _=>?_);refine ag 0 17 ?_;refine ag 1 18 ?_;refine ag 2 19 ?_;refine ag 3 20 ?_;refine ag 4 21 ?_;refine ag 5 22 ?_;refine ag 6 23 ?_;refine ag 7 24 ?_;refine ag 8 25 ?_;refine ag 9 26 ?_;refine ag 10 27 ?_;refine aO ?_
 skip
 go_upto_if 35 with(go_at_call 244;refine(ag6 (p:=p) (wd:=wd) (J.out.at (w':=ux)) HV.out).mono ?_;rintro e u1 ⟨pk,i,ok,rfl,hM1,hpk,hK1,hG⟩;have MH:=ae hM1;have uM:Hid (Kf (a.F r) (a.F r) w u1):=ae ((Kf.later _ (w:=w)).trans hK1);have IC:=ae hpk;have ahq:(v.gI pk v.mv).mv<=1000000000000:=hmv;have DC:Hid (dw (v.gI pk v.mv)):=ae (mf.gI HV.out hpk).ok;have tJ:ak u1 p:=uM.out.prev fun b hb=>(J.out.lt b hb).1;clear hM1 hK1 hpk)
 go_cut [6,7] (fun s s7 Z=>∃(i:Nat) (v1:bL),s=.int .i64 (i:Int)/\Hid (bQ Z p.heap.size r a v1)/\Hid (mf v v1)/\Hid (v1.mv<=v.mv+1)/\Hid (i<=v1.bs.length)/\Hid (∀b,v1.bs[i]?=some b->gD v1.bs i+wd<=b.fr)/\Hid (gD v1.bs i+wd<=v1.cap)/\Hid (Kf (a.F r) (a.F r) w Z)/\ak Z p)
 case first=>
  cases ok
  ·go_upto_region 8 with(go_at_call 245;refine(ahc (p:=p) MH.out DC.out ahq).mono ?_;rintro e u2 ⟨rfl,v1,E,P,qD,HE2,uL,lN⟩;have ru:ak u2 p:=(uM.out.trans lN.out).prev fun b hb=>(J.out.lt b hb).1;obtain⟨m,hm⟩:∃m,v1.bs.length=m:=⟨_,rfl⟩;have pX:=ae hm;have c2:Cl u2 r 2 (.slice a.Ab m a.cb):=⟨by rw[E.out.hd.cell 2,<-hm];rfl⟩;clear hm)
   go_wp2_with fail
   go_meet
   case rel=>
    have hcap:v1.cap=v.cap:=P.out.cap;refine⟨m,v1,rfl,E,ae ((mf.gI HV.out IC.out).trans P.out),ae (lH uL.out),ae (lH pX.out.symm),ae fun b hb=>?_,ae ?_,ae (uM.out.trans lN.out),iin⟩
    ·have:=(aY.1 hb).1;rw[pX.out]at this;omega
    ·have:=HE2.out;rw[pX.out]at this;rw[this,hcap];exact hl
  ·go_wp2_with fail
   go_meet
   case rel=>
    obtain⟨g1,g2,g3⟩:=hG.out bO;exact⟨i,v.gI pk v.mv,rfl,MH,ae (mf.gI HV.out IC.out),ae (fu _),ae g1,ae g2,ae g3,uM,iin⟩
 case rest=>
  obtain⟨i,v1,rfl,yT,P,uL,M,HG,HE,HK,Yt⟩:=hcut;have C:Hid (dw v1):=ae P.out.ok;have BU:Hid (v1.nx=v.nx):=ae P.out.nx;have ahr:Hid (v1.lv=v.lv):=ae P.out.lv;have hcap1:v1.cap<=16777216:=C.out.cap;have Yu:v1.bs.length<=16777216:=C.out.few;have hcs1:v1.cs.length<=16777216:=aZ C.out.cl hcap1;have hin:=M.out;have ahs:Hid (i<=v1.bs.length):=M;obtain⟨e,he⟩:=lh (gD v1.bs i);have DD:=ae he;have hec:e+wd<=v1.cap:=by rw[<-he];exact HE.out
  have HEC:=ae hec;obtain⟨L,hL⟩:=lh v1.cs.length;have Q:=ae hL;have c1:Cl wc r 1 (.slice a.Ac L a.cc):=⟨by rw[yT.out.hd.cell 1,<-hL];rfl⟩;have orc:Old r wc:=⟨yT.out.hd.lt⟩;have Yp:IntKind.i64.wrap ((i:Int)-1)=(i:Int)-1:=by rw[bF];omega
  have hwe:IntKind.i64.wrap ((e:Int)+(wd:Int))=(e:Int)+(wd:Int):=by rw[bF];omega
  obtain⟨z,hz⟩:=lh ((e:Int)+(wd:Int)-(L:Int):Int);have hwz:IntKind.i64.wrap ((e:Int)+(wd:Int)-(L:Int))=z:=by rw[bF,<-hz];omega
  have HZ:=ae hz;have ahw:Hid (L<=16777216):=ae (by rw[<-hL];exact hcs1);have BV:=ae Yu;obtain⟨mo,hmo⟩:=lh (decide (0<z));clear he hz hL hcs1 Yu c0 c6 QW
  go_upto_if 58 with(go_at_call 246;refine(Af yT C M rfl DD).mono ?_;rintro e u3 ⟨rfl,_⟩)
  go_cut [] (fun Z=>∃G,Hid (bQ Z p.heap.size r G {v1 with cs:=v1.cs++List.replicate (e+wd-v1.cs.length) 0})/\Hid (Kf (a.F r) (G.F r) w Z)/\ak Z p)
  case first=>
   cases mo
   ·go_wp2_with fail
    go_meet
    case rel=>
     have h0:e+wd-v1.cs.length=0:=by
      have h3:=of_decide_eq_false hmo;have:=HZ.out;have:=Q.out;omega
     refine⟨a,ae ?_,ae (HK.out.trans (Kf.later _ (w:=wc))),ai _ _⟩;rw[h0];have U:bQ _ p.heap.size r a v1:=yT.out.at (w':=u3);have T:({v1 with cs:=v1.cs++List.replicate 0 0}:bL)=v1:=by obtain⟨f1,f2,f3,f4,f5,f6,f7,f8,f9,f10⟩:=v1;simp
     rw[T];exact U
   ·obtain⟨k,hk⟩:∃k:Nat,z=(k:Int):=⟨z.toNat,by have:=Bu hmo;omega⟩;subst hk;have hk0:0<k:=by have:=Bu hmo;omega
    have HKE:Hid (k=e+wd-L):=ae (by have:=HZ.out;omega);have hkL:L+k<=16777216:=by have:=HZ.out;omega
    have DF:p.heap.size<=u3.heap.size:=aZ Yt.st.size (aH (w:=wc) (w':=u3));have l:Hid (bQ u3 p.heap.size r a v1):=ae yT.out.at;obtain⟨A',c',W2,hap,ho,hch⟩:=ahl l.out.cs hk0 (by rw[Q.out];omega) DF;have hR:=l.out.ahn hch ho;have hlen:(v1.cs++List.replicate k 0).length=L+k:=by rw[cu,lF,Q.out]
    rw[hlen]at hR;rw[Q.out]at hap;have HR:=ae hR;have hb2:aD W2 r 197 (jh a v1):=hch.blk l.out.hd fun ad e hx=>(l.out.apart.2.1 r ⟨ad,e,hx⟩).1 rfl;have QS:∀i,W2.frozen? ⟨r,i,none⟩=false:=fun i=>hb2.frozen i;have Ym:Cl W2 r 1 (.slice a.Ac L a.cc):=⟨by rw[hb2.cell 1,<-Q.out];rfl⟩;have HHP:=ae hap;clear hR hlen hch ho hb2 hap
    go_wp2_with (at_builtin;refine Lib.wpList_append_run _ rfl _ _ 26 3 rfl _ _ rfl rfl _ _ (HHP.out _) ?_)
    go_meet
    case rel=>
     have k9:Kf (a.F r) (({a with Ac:=A',cc:=c'}:oo).F r) w (W2.setCell ⟨r,1,none⟩ (.slice A' (L+k) c')):=(HK.out.trans (Kf.later _ (w:=wc))).trans HR.out.2;refine⟨{a with Ac:=A',cc:=c'},ae ?_,ae k9,k9.prev fun b hb=>(J.out.lt b hb).1⟩;rw[Q.out,<-HKE.out];exact HR.out.1
  case rest=>
   obtain⟨G,E,lN,Yv⟩:=hcut;have DI:Hid (∀ad:Addr,True):=ae fun _=>bO;clear DI;have D:e+wd<=(v1.cs++List.replicate (e+wd-v1.cs.length) 0).length:=by simp;omega
   obtain⟨C2,hC2⟩:=lg (v1.cs++List.replicate (e+wd-v1.cs.length) (0:Int));rw[<-hC2]at D E;have ahz:C2.length<=16777216:=by have:=Q.out;have:=ahw.out;rw[hC2];simp;omega
   obtain⟨gc,hA2⟩:∃gc,G.Ac=some ⟨gc,0,none⟩:=by
    rcases E.out.cs.form with⟨_,h0,_⟩|⟨g,cur,hA,_⟩
    ·have h0':C2=[]:=h0;rw[h0']at D;simp at D;omega
    ·exact⟨g,hA⟩
   have hcc:C2.length<=G.cc:=E.out.cs.uB;obtain⟨L2,hL2⟩:=lh C2.length;have c12:Cl wc r 1 (.slice (some ⟨gc,0,none⟩) L2 G.cc):=⟨by rw[E.out.hd.cell 1,<-hA2,<-hL2];rfl⟩;rw[hL2]at D hcc ahz;have hsl:=fun W=>aho W (A:=some ⟨gc,0,none⟩) (e:=e) rfl h1 D hcc;have hrow:=E.out.cs;rw[hA2]at hrow;obtain⟨X,ahA,ho⟩:=ahm (t:=e) (k:=wd) (cap:=G.cc-e) hrow h1 (by show _<=C2.length;rw[hL2];exact D);have l:=ae (E.out.cells hA2 ho (BJ (by rw[lF];show _<=C2.length;rw[hL2];exact D)));have rf:Hid (Kf (a.F r) (G.F r) w (wc.setRow gc X)):=ae (lN.out.trans (MF (.inr (.inr (.inl ⟨_,hA2,rfl⟩))) X));have IE:=ae hC2;have or2:Old r wc:=⟨E.out.hd.lt⟩;clear hC2 hA2 hL2 hrow ho c1 orc
   go_upto_region 15 with fail
   obtain⟨W1,hW1⟩:=lg (wc.setRow gc X);rw[<-hW1]at l rf;have QX:∀k,W1.frozen? ⟨r,k,none⟩=false:=fun k=>l.out.hd.frozen k;have c51:Cl W1 r 5 (.int .i64 (v1.nx:Int)):=⟨l.out.hd.cell 5⟩;obtain⟨u,hN1⟩:=lh (v1.nx+1);have DJ:=ae hN1;have hw5:IntKind.i64.wrap ((v1.nx:Int)+1)=(u:Int):=by have U:=BU.out;rw[bF];omega
   clear hN1;have QY:Old r W1:=⟨l.out.hd.lt⟩;rw[<-hW1];clear hW1 c12 hsl ahA or2
   go_upto_region 16 with fail
   obtain⟨CS,hCS⟩:=lg (iM C2 e (List.replicate wd 0));rw[<-hCS]at l;have HCS:=ae hCS;obtain⟨v3,hv3⟩:=lg ({v1 with cs:=CS,nx:=u});have R:bQ (W1.setCell ⟨r,5,none⟩ (.int .i64 (u:Int))) p.heap.size r G v3:=by rw[hv3];exact l.out.setH (i:=5) (by rfl) rfl rfl rfl
   have hK3:Kf (a.F r) (G.F r) w (W1.setCell ⟨r,5,none⟩ (.int .i64 (u:Int))):=rf.out.aF (.inl rfl) _;obtain⟨W3,hW3⟩:=lg (W1.setCell ⟨r,5,none⟩ (.int .i64 (u:Int)));rw[<-hW3]at R hK3;have Yw:ak W3 p:=hK3.prev fun b hb=>(J.out.lt b hb).1;obtain⟨nb,V⟩:=lh v1.bs.length;have N:v3.bs=v1.bs:=by rw[hv3]
   have Yx:Hid (aP W3 p.heap.size 311 3 G.Ab G.cb nb (gY v3.bs)):=ae (by have U:=R.bs;rw[N,V]at U;rw[N];exact U);have c23:Cl W3 r 2 (.slice G.Ab nb G.cb):=⟨by rw[R.hd.cell 2,<-V,<-N];rfl⟩;have c53:Cl W3 r 5 (.int .i64 (u:Int)):=⟨by rw[R.hd.cell 5,hv3];rfl⟩;have or3:Old r W3:=⟨R.hd.lt⟩;have Yy:Hid (p.heap.size<=W3.heap.size):=ae Yw.st.size;have Ra:Hid (nb<=16777216):=ae (by rw[<-V];exact BV.out);have Yz:Hid (i<=nb):=ae (by rw[<-V];exact M.out);have Ak:=ae hv3;have YA:=ae R;have YB:=ae hK3;have xy:=ae V;have ahE:=ae N;rw[<-hW3];clear hCS hv3 R hK3 V N QX c51 QY;clear l rf IB M;have l:=YA;have rf:=YB;have IB:=Yy;have M:=Yz;clear hW3 YA YB Yy Yz;obtain⟨b4,hb4⟩:=lg (v1.bs.take i++⟨(u:Int),e,wd⟩::v1.bs.drop i);have hl4:b4.length=nb+1:=by rw[hb4];have:=xy.out;have:=M.out;simp;omega
   have YC:=ae hb4;have FN:=ae hl4;clear hb4 hl4
   go_cut [] (fun Z=>∃a4 v4,Hid (bQ Z p.heap.size r a4 v4)/\Hid (v4={v1 with cs:=CS,nx:=u,bs:=b4})/\Hid (Kf (a.F r) (a4.F r) w Z)/\ak Z p)
   case first=>
    refine j6 p (fun w9=>Cl w9 r 5 (.int .i64 (u:Int))) aj iin (fun S _=>?_);refine bA 0 82 ?_;refine bA 1 83 ?_;refine bA 2 84 ?_;refine bA 3 85 ?_;refine bA 5 87 ?_;refine bA 6 88 ?_;refine bA 7 89 ?_;refine bA 8 90 ?_;refine bA 9 91 ?_;refine bA 10 92 ?_;refine bA 11 93 ?_;refine bA 12 94 ?_;refine il 4 13 (fun K hK=>?_) (fun K hK=>?_)
    focus
     go_simp;refine av hK ?_ ⟨ai p S,iin⟩;clear hK K;refine ay 13 fun K hK=>?_;go_simp;refine av hK ?_ ⟨ai p _,iin⟩;clear hK K;refine bY (fun S _ _=>?_)
    rotate_left
    focus
     go_simp;refine av hK ?_ ⟨ai p _,iin⟩;clear hK K;refine bY (fun S _ _=>?_);refine ay 4 fun K hK=>?_;go_simp;refine av hK ?_ ⟨ai p S,iin⟩;clear hK K
    all_goals
     refine ay 14 fun K hK=>?_;go_simp;obtain⟨Rb,ahF⟩:aP S p.heap.size 311 3 G.Ab G.cb nb (gY v3.bs)/\True:=⟨Yx.out.at,bO⟩;refine(agm Rb (Yb _) (us:=[.int .i64 (u:Int),.int .i64 (e:Int),.int .i64 (wd:Int)]) Bx.blk rfl (by simp[Value.oneCell']) (fun ad T=>WR (bV (Yx.out.lt ad T) aH)) rfl M.out Ra.out (aZ IB.out aH)).mono ?_;rintro T u6 ⟨A6,c6,rfl,r6,I⟩;dsimp only;have MJ:∀i,u6.cell? ⟨r,i,none⟩=S.cell? ⟨r,i,none⟩:=fun i=>jG (I.off r (l.out.at (w':=S)).hd.lt fun ad T hx=>(l.out.apart.2.2 r ⟨ad,T,hx⟩).1 rfl);have p6:ak u6 p:=⟨(aL p S).trans ⟨I.base.os,I.base.tape,I.base.output,I.size,fun b hb=>I.off b (bV hb (aL p S).size) fun ad T hx=>absurd hb (sM.2 (by rw[<-hx];exact(Rb.af ⟨ad,T,rfl⟩).1))⟩⟩;refine hK.out _ _ ⟨p6,⟨(MJ 5).trans (Cl.eq (w:=S))⟩⟩ (fun hHeld=>?_);have CH6:=ae I;have R6:=ae r6;have KU6:Hid (Kf (a.F r) (G.F r) w S):=ae (rf.out.trans (Kf.later _ (w:=W3)));have MU6:Hid (bQ S p.heap.size r G v3):=ae l.out.at;have hc6:u6.cell? ⟨r,2,none⟩=some (.slice G.Ab nb G.cb):=(MJ 2).trans (Cl.eq (w:=S));have hf6:u6.frozen? ⟨r,2,none⟩=false:=(I.blk (l.out.at (w':=S)).hd (fun ad T hx=>(l.out.apart.2.2 r ⟨ad,T,hx⟩).1 rfl)).frozen 2;have c56:Cl u6 r 5 (.int .i64 (u:Int)):=⟨(MJ 5).trans (Cl.eq (w:=S))⟩;clear hHeld hK K I r6 Rb ahF MJ
     try dsimp only[Act.put,List.setIfInBounds_toArray,List.set_cons_zero,List.set_cons_succ]
     refine bA 15 97 ?_;refine bA 16 98 ?_;refine ay 17 fun K hK=>?_;go_simp;refine av hK ?_ ⟨⟨(aL p u6).setCell (p:=⟨r,2,none⟩) l.out.hr _⟩,Cl.far iin (.inr ah)⟩;clear hK K hc6 hf6;refine aO ?_
     go_wp2_with fail
     go_meet
     case rel=>
      have IG:=MU6.out.Yl (bs':=b4) (A':=A6) (c':=c6) CH6.out (by
       have U:=R6.out;rw[FN.out,YC.out];rw[ahE.out,<-Yc,<-Yd]at U;have T:gY (v1.bs.take i++⟨(u:Int),e,wd⟩::v1.bs.drop i)=gY (v1.bs.take i)++[.int .i64 (u:Int),.int .i64 (e:Int),.int .i64 (wd:Int)]++gY (v1.bs.drop i):=by
        rw[FI];simp[gY]
       rw[T];exact U)
      rw[FN.out]at IG;obtain⟨a4,ha4⟩:=lg ({G with Ab:=A6,cb:=c6});rw[<-ha4]at IG;obtain⟨v4,hv4⟩:=lg ({v3 with bs:=b4});rw[<-hv4]at IG;have Y:Hid (v4={v1 with cs:=CS,nx:=u,bs:=b4}):=ae (by rw[hv4,Ak.out]);have O:=ae IG.1;have FO:Hid (Kf (a.F r) (a4.F r) w (u6.setCell ⟨r,2,none⟩ (.slice A6 (nb+1) c6))):=ae (KU6.out.trans IG.2);exact⟨a4,v4,O,Y,FO,FO.out.prev fun b hb=>(J.out.lt b hb).1⟩
   case rest=>
   obtain⟨a4,v4,O,Y,FO,pW4⟩:=hcut;obtain⟨W4,rfl⟩:=lg wc;have c34:Cl W4 r 3 (.map (some a4.q)):=⟨O.out.hd.cell 3⟩;have c54:Cl W4 r 5 (.int .i64 (u:Int)):=⟨by rw[O.out.hd.cell 5,Y.out];rfl⟩;have or4:Old r W4:=⟨O.out.hd.lt⟩;have HNM:Hid ((u:Int)∉v4.mp.map (·.1)):=ae (by
    rw[Y.out]
    show(u:Int)∉v1.mp.map (·.1)
    intro hm;obtain⟨x,hx,hx1⟩:=dG.1 hm;obtain⟨b,hb,rfl⟩:=C.out.Du x hx;have h8:=C.out.hb b hb;have U:=DJ.out;dsimp only at hx1;omega)
   have ahP:Hid ((jh a4 {v4 with mp:=v4.mp++[((u:Int),(e:Int))]})[5]?=some (.int .i64 (u:Int))):=ae (by rw[Y.out];rfl);clear c23 c53 or3 Yw
   go_upto_region 17 with fail
   refine j6 p (fun w9=>Cl w9 r 3 (.map (some a4.q))/\Cl w9 r 5 (.int .i64 (u:Int))) aj ⟨iin,iin⟩ (fun uz _=>?_);refine bu 0 99 ?_;refine bu 1 100 ?_;refine bu 2 101 ?_;refine bu 3 102 ?_;refine bu 4 103 ?_;refine bu 5 104 ?_;refine bu 6 105 ?_;refine bu 7 106 ?_;refine bu 8 107 ?_;refine ay 9 fun K hK=>?_;obtain⟨W5,hput,YD,hk5,hs5,hb5⟩:=(O.out.at (w':=uz)).mp.agF (k:=(u:Int)) (z:=(e:Int)) HNM.out;have MK:=(O.out.at (w':=uz)).QO YD hk5;have uN:=ae MK;have tK:Hid (Kf (a.F r) (a4.F r) w W5):=ae ((FO.out.trans (Kf.later _ (w:=W4))).trans (QP (.inr (.inl rfl)) hk5 hs5 hb5));have hpq:p.heap.size<=a4.q:=O.out.hq;go_simp;refine av hK ?_ ⟨⟨⟨hb5.os.trans (aL p uz).os,hb5.tape.trans (aL p uz).tape,hb5.output.trans (aL p uz).output,by rw[hs5];exact(aL p uz).size,fun b hb=>by rw[hk5 b om];exact(aL p uz).block b hb⟩⟩,⟨MK.hd.cell 3⟩,⟨(MK.hd.cell 5).trans ahP.out⟩⟩;clear hK K hput YD hk5 hs5 hb5 MK;refine aO ?_
   skip
   obtain⟨v5,hv5⟩:=lg ({v4 with mp:=v4.mp++[((u:Int),(e:Int))]}:bL);have HV5:Hid (v5={v1 with cs:=CS,nx:=u,bs:=b4,mp:=v1.mp++[((u:Int),(e:Int))]}):=ae (by rw[hv5,Y.out]);rw[<-hv5]at uN;have pW5:ak W5 p:=tK.out.prev fun b hb=>(J.out.lt b hb).1;have c65:Cl W5 r 6 (.int .i64 (v1.lv:Int)):=⟨by rw[uN.out.hd.cell 6,HV5.out];rfl⟩;have fr5:∀k,W5.frozen? ⟨r,k,none⟩=false:=fun k=>uN.out.hd.frozen k;have QV:Old r W5:=⟨uN.out.hd.lt⟩;obtain⟨l2,hl2⟩:=lh (v1.lv+wd);have hw6:IntKind.i64.wrap ((v1.lv:Int)+(wd:Int))=(l2:Int):=by have U:=ahr.out;rw[bF];omega
   have HL2:=ae hl2;clear hl2 c34 c54 or4 pW4 hv5
   go_upto_region 19 with fail
   obtain⟨v6,hv6⟩:=lg ({v5 with lv:=l2});have DK:Hid (v6={v1 with cs:=CS,nx:=u,bs:=b4,mp:=v1.mp++[((u:Int),(e:Int))],lv:=l2}):=ae (by rw[hv6,HV5.out]);obtain⟨W6,xA⟩:=lg (W5.setCell ⟨r,6,none⟩ (.int .i64 (l2:Int)));have HM:Hid (bQ W6 p.heap.size r a4 v6):=ae (by rw[xA,hv6];exact uN.out.setH (i:=6) (by rfl) rfl rfl rfl);have ML:Hid (Kf (a.F r) (a4.F r) w W6):=ae (by rw[xA];exact tK.out.aF (.inl rfl) _);have pW6:ak W6 p:=ML.out.prev fun b hb=>(J.out.lt b hb).1;have c66:Cl W6 r 6 (.int .i64 (l2:Int)):=⟨by rw[HM.out.hd.cell 6,DK.out];rfl⟩;have c86:Cl W6 r 8 (.int .i64 (v6.pe:Int)):=⟨HM.out.hd.cell 8⟩;obtain⟨pe,hpe⟩:=lh (max v1.pe l2);have hmax:max (v6.pe:Int) (l2:Int)=(pe:Int):=by
    have U:v6.pe=v1.pe:=by rw[DK.out]
    omega
   have or6:Old r W6:=⟨HM.out.hd.lt⟩;have II:=ae hpe;rw[<-xA];clear xA hpe hv6 c65 fr5 QV pW5;refine j6 p (fun w9=>Cl w9 r 6 (.int .i64 (l2:Int))) aj iin (fun uq _=>?_);refine bA 0 116 ?_;refine bA 1 117 ?_;refine bA 2 118 ?_;refine bA 3 119 ?_;refine bA 5 121 ?_;refine bA 6 122 ?_;refine bA 7 123 ?_;refine bA 8 124 ?_;refine ay 4 fun K hK=>?_;go_simp;refine av hK ?_ ⟨ai p uq,iin⟩;clear hK K;refine bA 9 125 ?_;refine bA 10 126 ?_;refine bA 11 127 ?_;refine ay 12 fun K hK=>?_;have QQ:uq.cell? ⟨r,8,none⟩=some (.int .i64 (v6.pe:Int)):=(HM.out.at (w':=uq)).hd.cell 8;have QR:uq.frozen? ⟨r,8,none⟩=false:=(HM.out.at (w':=uq)).hd.frozen 8;go_simp;refine av hK ?_ ⟨⟨(aL p uq).setCell (p:=⟨r,8,none⟩) HM.out.hr _⟩,Cl.far iin (.inr ah)⟩;clear hK K QQ QR;refine aO ?_
   skip
   obtain⟨v7,hv7⟩:=lg ({v6 with pe:=pe});have Rc:Hid (v7={v1 with cs:=CS,nx:=u,bs:=b4,mp:=v1.mp++[((u:Int),(e:Int))],lv:=l2,pe:=pe}):=ae (by rw[hv7,DK.out]);obtain⟨W7,MM⟩:=lg (uq.setCell ⟨r,8,none⟩ (.int .i64 (pe:Int)));have MN:Hid (bQ W7 p.heap.size r a4 v7):=ae (by rw[MM,hv7];exact(HM.out.at (w':=uq)).setH (i:=8) (by rfl) rfl rfl rfl);have yU:Hid (Kf (a.F r) (a4.F r) w W7):=ae (by rw[MM];exact(ML.out.trans (Kf.later _ (w:=W6))).aF (.inl rfl) _);have c77:Cl W7 r 7 (.int .i64 (v1.hi:Int)):=⟨by rw[MN.out.hd.cell 7,Rc.out];rfl⟩;have c57:Cl W7 r 5 (.int .i64 (u:Int)):=⟨by rw[MN.out.hd.cell 5,Rc.out];rfl⟩;have fr7:∀k,W7.frozen? ⟨r,k,none⟩=false:=fun k=>MN.out.hd.frozen k;obtain⟨hh,YE⟩:=lh (max v1.hi (e+wd));have aty:max (v1.hi:Int) ((e:Int)+(wd:Int))=(hh:Int):=by omega
   have HHH:=ae YE;rw[<-MM];clear MM YE hv7 hmax c66 c86 or6 pW6
   go_wp2_with fail
   go_ret2;have hm8:bQ (W7.setCell ⟨r,7,none⟩ (.int .i64 (hh:Int))) p.heap.size r a4 {v7 with hi:=hh}:=MN.out.setH (i:=7) (by rfl) rfl rfl rfl;have U:u=v.nx+1:=by rw[<-DJ.out,BU.out]
   refine⟨by subst U;rfl,a4,v1.give i e wd v1.pk,ae ?_,ae ?_,uL,ae (yU.out.aF (.inl rfl) _)⟩
   ·have T:({v7 with hi:=hh}:bL)=v1.give i e wd v1.pk:=by
     rw[Rc.out,HCS.out,IE.out,YC.out,<-DJ.out,<-HL2.out,<-II.out,<-HHH.out,<-HL2.out];rfl
    rw[<-T];exact hm8
   ·refine BP.of P.out ahs.out (lH DD.out) (fun b hb=>?_) HEC.out h1 (Nat.le_succ_of_le C.out.pk);rw[<-DD.out];exact HG.out b hb
end
end Go.Proofs.YtmkjnlifimffkaaGreat
