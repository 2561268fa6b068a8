/- Lemmas. No condition. -/
import Derived.Test.YtmkjnlifimffkaaGreatS46
import Derived.Conc.LoneSelect
namespace Go.Proofs.YtmkjnlifimffkaaGreat
open Go.RowKit
set_option linter.all false
set_option maxRecDepth 100000
set_option maxHeartbeats 16000000
section
variable{p w w' u w1:World}{B r g k n i j GB l:Nat}{m m' m2:jB}{e e':qP}{gs:List Tn}{X:Tn}{J:qm}{N:aI}{O:List Int}{L:List (List Int)}{P:List TV}{x:TV}{cap kd id:Int}{s:di}
theorem ar7[Later p w](T:Hid (wQ p J N L P x))(c:gM N O L l P x)(hJ:J.l=l)(hI:gz N O L l P x cap s e)(hS:gN p w J g r GB m e gs X)(hc:iV (aC N cap) s kd id=0)(Z:N.nodes.length<=200)(hnx:e.A.nx<=100000000000)(hmv:e.A.mv<=100000000000):
  Calls Tryz.prog 55 #[.pointer g,.agg #[kd,id]] w (GV p J g r GB N O L l P x cap (bB (aC N cap) s kd id) e.A 1000):=by
 have CB:=@bf;have hr:=(CE hc).1;have z:e.A.nx<=1000000000000:=om;have C:e.A.mv<=1000000000000:=om;have M:=ae c;have Q:=ae hI;have R:=ae hS;have S:=ae hc;have HJ:=ae hJ;clear c hI hS hc hJ;rcases abI hr with rfl|rfl|rfl|rfl|rfl|rfl
 ·clear hr;go_enter Tryz.func55,Tryz.ntmps55
  go_upto_region 1 with fail
  refine bI (fun u U k0=>?_)
  go_wp2_with (go_at_call 97;refine(ads (p:=p) T M.out Q.out (R.out.at (w':=u)) S.out (.inl rfl) Z z C).mono ?_;rintro V Y ⟨rfl,D,E,b,F,G,I,y,K⟩)
  go_ret;exact⟨rfl,D,E,b,F,G,I,ae ⟨by have:=y.out.1;omega,by have:=y.out.2;omega⟩,K⟩
 ·clear hr;go_enter Tryz.func55,Tryz.ntmps55
  go_upto_region 1 with fail
  refine bI (fun u U k0=>?_)
  go_wp2_with (go_at_call 97;refine(ads (p:=p) T M.out Q.out (R.out.at (w':=u)) S.out (.inr rfl) Z z C).mono ?_;rintro V Y ⟨rfl,D,E,b,F,G,I,y,K⟩)
  go_ret;exact⟨rfl,D,E,b,F,G,I,ae ⟨by have:=y.out.1;omega,by have:=y.out.2;omega⟩,K⟩
 ·clear hr;go_enter Tryz.func55,Tryz.ntmps55
  go_upto_region 1 with fail
  refine bI (fun u U k0=>?_)
  go_upto_region 6 with fail
  refine wp_region_still_tail 5 aj aj ?_;change wpStill _ _ (u).drew _ _ _;simp only[mH,jr,qw,pF]
  repeat still_step
  refine qY ?_
  go_wp2_with (go_at_call 98;refine(aqd (p:=p) M.out Q.out (R.out.at (w':=u.drew)) S.out).mono ?_;rintro V Y ⟨rfl,D,E,b,F,G,I,y,K⟩)
  go_ret;exact⟨rfl,D,E,b,F,G,I,ae ⟨by have:=y.out.1;omega,by have:=y.out.2;omega⟩,K⟩
 ·clear hr;go_enter Tryz.func55,Tryz.ntmps55
  go_upto_region 1 with fail
  refine bI (fun u U k0=>?_)
  go_wp2_with (go_at_call 99;refine(aqe (p:=p) (id:=id) T M.out HJ.out Q.out (R.out.at (w':=u)) S.out).mono ?_;rintro V Y ⟨rfl,D,E,b,F,G,I,y,K⟩)
  go_ret;exact⟨rfl,D,E,b,F,G,I,ae ⟨by have:=y.out.1;omega,by have:=y.out.2;omega⟩,K⟩
 ·clear hr;go_enter Tryz.func55,Tryz.ntmps55
  go_upto_region 1 with fail
  refine bI (fun u U k0=>?_)
  go_wp2_with (go_at_call 100;refine(aqf (p:=p) (id:=id) T M.out HJ.out Q.out (R.out.at (w':=u)) S.out Z z C).mono ?_;rintro V Y ⟨rfl,D,E,b,F,G,I,y,K⟩)
  go_ret;exact⟨rfl,D,E,b,F,G,I,ae ⟨by have:=y.out.1;omega,by have:=y.out.2;omega⟩,K⟩
 ·clear hr;go_enter Tryz.func55,Tryz.ntmps55
  go_upto_region 1 with fail
  refine bI (fun u U k0=>?_)
  go_wp2_with (go_at_call 101;refine(ari (p:=p) T M.out Q.out (R.out.at (w':=u)) S.out Z hnx hmv).mono ?_;rintro V Y ⟨rfl,D,E,b,F,G,I,y,K⟩)
  go_ret;exact⟨rfl,D,E,b,F,G,I,y,K⟩
end
section
variable{w w':World}{A B PA XA XB K:Option Addr}{n m c d k np cp nx cx mx dx g cap:Nat}{N:aI}{ps:List Tn}{is:List (Int×Int)}{x:TV}{P1 P2 P3 P4 E:Int}
theorem ar8[aX w A n B m N][Ts w PA np ps][Sl w XA nx x.1][Sl w XB mx x.2][Is w K k is](l:Hid N.fits)(hs:Hid N.small)(u:Hid (bU N=0))(hP:Hid ((ps.map Tn.tv).map (·.1)=iU N))(hO:Hid (jw ps))(y:Hid (x.1=N.inp))(hr:bH x.1 x.2=true)(b:np<=100000000)(z:k<=65536)(r:cap<=16777216)
  (C:Hid (nk N (cap:Int) is=E)) (D:Hid (rR N (cap:Int) is=(P1,P2,P3,P4))):
  Calls Tryz.prog 52 #[.agg #[.slice A n c,.slice B m d,.slice PA np cp,.slice XA nx cx,.slice XB mx dx,.slice K k g,cap]] w (aM w (.tuple #[.agg #[P1,P2,P3,P4],E])):=by
 have G:=@bf;have I:=@dV;have j:=ae hr;have d1:decide ((cap:Int)<0)=false:=by simp
 have J:decide ((16777216:Int)<(cap:Int))=false:=by simp;omega
 clear hr;go_enter Tryz.func52,Tryz.ntmps52
 go_upto_region 1 with fail
 refine qd (fun L M k1 k2=>?_)
 go_wp2_with (first|(go_at_call 24;refine(acB l hs u hP hO y j.out b).mono ?_;rintro e O ⟨rfl,_⟩)|(go_at_call 14;refine(Uy l hs z om C D).mono ?_;rintro e F ⟨rfl,_⟩))
 refine bM (v:=.tuple #[.agg #[P1,P2,P3,P4],E]) ?_ rfl ?_
 ·rw[eG rfl];go_simp
 ·exact⟨rfl,⟨((((aL w F).setCell (p:=⟨w.heap.size+1,0,none⟩) (fu _) _).setCell (p:=⟨w.heap.size+1,1,none⟩) (fu _) _).setCell (p:=⟨w.heap.size+1,2,none⟩) (fu _) _).setCell (p:=⟨w.heap.size+1,3,none⟩) (fu _) _⟩⟩
end
section
open Go.Conc Go.RowKit
theorem ar9(w:World):Calls Tryz.prog 54 #[.chan none] w fun e w'=>e=.returned (.bool false)/\w'=w:=by
 refine calls_of_loneTo (fun cs=>?_) (fun w' h=>by cases h.1);have e:Frame.enter Tryz.prog 54 #[.chan none] .normal=(base 54).at ⟨#[.chan none,undef,undef,undef,undef,undef,undef],[]⟩ [.code (Tryz.f54.body.getD .skip)]:=by
  simp[Frame.enter,Frame.at,Tryz.func54,base,Tryz.f54]
 rw[e];refine LoneTo.goes (n:=12) ?_;simp only[Tryz.f54,E9]
 s_c stepG_seq
 s_reg
 s_op
 s_c stepG_region_end
 s_c stepG_seq
 s_reg
 s_op
 s_c stepG_region_end
 s_c stepG_seq
 s_reg
 s_stop
 refine LoneTo.step (step_lone_select_recv_nil (z:=.int .i64 0) (stepG_comm (cases:= #[rcaseNil (.int .i64 0)]) (blocking:=false) (shape:=.select) (w':=w) rfl rfl ah (by simp[go_sem,execOp,rcaseNil,Act.eval]))) ?_;rw[Frame.finish_at]
 walk_nrm
 refine LoneTo.goes (n:=11) ?_
 s_op
 s_op
 s_c stepG_region_end
 s_c stepG_block
 s_cond false
 s_c stepG_seq
 s_reg
 s_op
 s_c stepG_region_end
 s_c stepG_ret'
 s_stop
 exact LoneTo.done ⟨.returned (.bool false),_,rfl,⟨rfl,rfl⟩,rfl,rfl,rfl,rfl,_,Tryz.func54,by simp[results,Tryz.f54,Frame.at]⟩
theorem asa{w:World}:Calls Tryz.prog 54 #[.chan none] w (aM w (.bool false)):=(ar9 w).mono fun _ _ ⟨h,b⟩=>⟨h,by rw[b];exact⟨bq _ _⟩⟩
end
def ad1(w:World)(N:aI)(P:List TV)(x:TV)(cap np:Nat)(cost:Int)(e:Ending)(w':World):Prop:=
 ∃A c gs X pk hi mv,e=.returned (.tuple #[.agg #[.int .i64 (Ct N P x),.slice A np c,.slice X.A X.zs.length X.c,.slice X.B X.xs.length X.d,.int .i64 pk,.int .i64 hi,.int .i64 mv,cost],(0:Int)])/\Ts w' A np gs/\gs.map Tn.tv=(AP N P x).2/\TE w' X/\X.tv=(AP N P x).1.getD 0 T0/\hi<=cap/\ak w' w
section
variable{p w w' u w1:World}{A B PA XA XB K:Option Addr}{n m c d k np cp nx cx mx dx kc cap l g r GB:Nat}{N:aI}{ps gs:List Tn}{O:List Int}{L:List (List Int)}{P:List TV}{x:TV}{is:List (Int×Int)}{P1 P2 P3 P4 E:Int}{J:qm}{e:qP}{X:Tn}{M:jB}{C:iQ}{s:di}
theorem asb{cp:Int}(h:nk N cp is=0):fQ N=0/\(ib (aC N cp) (fG N.nodes.length) is).1=0/\wL (aC N cp) (ib (aC N cp) (fG N.nodes.length) is).2=true:=by
 unfold nk at h
 split at h
 ·rename_i j;unfold JR at h
  split at h
  ·split at h
   ·rename_i b
    split at h
    ·rename_i y;exact⟨j,b,y⟩
    ·cases h
   ·rename_i b;exact absurd h b
  ·rename_i b;exact absurd h b
 ·rename_i b;exact absurd h b
theorem asc{a:Int×Int}{t:List (Int×Int)}(h:(ib C s (a::t)).1=0):iV C s a.1 a.2=0/\ib C s (a::t)=ib C (bB C s a.1 a.2) t:=by
 unfold ib at h
 split at h
 ·rename_i b;exact⟨b,by rw[ib,if_pos b]⟩
 ·rename_i b;exact absurd h b
theorem gN.JY(h:gN p w J g r GB M e gs X):Ts w (some ⟨GB,0,none⟩) J.np gs:=by
 have y:oN w p.heap.size (some ⟨GB,0,none⟩) J.np gs:=⟨by rw[h.gl];exact h.row,fun t ht=>(h.wW t ht).te,fun t ht=>⟨fun b hb=>⟨((h.wW t ht).oa b hb).1,fun j=>((h.wW t ht).oa b hb).2.2.1 (pR.1 j).symm⟩,fun b hb=>⟨((h.wW t ht).ob b hb).1,fun j=>((h.wW t ht).ob b hb).2.2.1 (pR.1 j).symm⟩⟩⟩;have:=y.JY;rw[h.gl]at this;exact this
theorem gN.out(h:gN p w J g r GB M e gs X){ob:Nat}(y:ob<p.heap.size)(j:Kf (fun b=>b=ob) (fun b=>b=ob) w w'):Ts w' (some ⟨GB,0,none⟩) J.np gs/\TE w' X:=by
 have z:=h.bnd.1;refine⟨j.VJ h.JY (fun _ b hb=>by have:=pR.1 hb;omega) fun t ht=>⟨fun b hb=>?_,fun b hb=>?_⟩,j.rd h.ax.te.1 fun b hb=>?_,j.rd h.ax.te.2.1 fun b hb=>?_,h.ax.te.2.2⟩
 ·have:=((h.wW t ht).oa b hb).2.2.2;omega
 ·have:=((h.wW t ht).ob b hb).2.2.2;omega
 ·have:=(h.ax.oa b hb).2.2.2;omega
 ·have:=(h.ax.ob b hb).2.2.2;omega
theorem Wi{q:Nat}{z0 z1 j z3 z4 y z D:Value}:Kf (fun b=>b=q) (fun b=>b=q) u ((((((((u.setCell ⟨q,0,none⟩ z0).setCell ⟨q,1,none⟩ z1).setCell ⟨q,2,none⟩ j).setCell ⟨q,3,none⟩ z3).setCell ⟨q,4,none⟩ z4).setCell ⟨q,5,none⟩ y).setCell ⟨q,6,none⟩ z).setCell ⟨q,7,none⟩ D):=
 ((((((((Kf.refl (fun b=>b=q) u).aF (q:=⟨q,0,none⟩) rfl z0).aF (q:=⟨q,1,none⟩) rfl z1).aF (q:=⟨q,2,none⟩) rfl j).aF (q:=⟨q,3,none⟩) rfl z3).aF (q:=⟨q,4,none⟩) rfl z4).aF (q:=⟨q,5,none⟩) rfl y).aF (q:=⟨q,6,none⟩) rfl z).aF (q:=⟨q,7,none⟩) rfl D
theorem ase{q:Nat}{z0 z1 j z3 z4 y z D:Value}[Later w u](hq:w.heap.size<=q):ak ((((((((u.setCell ⟨q,0,none⟩ z0).setCell ⟨q,1,none⟩ z1).setCell ⟨q,2,none⟩ j).setCell ⟨q,3,none⟩ z3).setCell ⟨q,4,none⟩ z4).setCell ⟨q,5,none⟩ y).setCell ⟨q,6,none⟩ z).setCell ⟨q,7,none⟩ D) w:=
 Wi.prev fun b F=>by rw[F];exact hq
theorem asf[aX w A n B m N][Ts w PA np ps][Sl w XA nx x.1][Sl w XB mx x.2][ki:Is w K k is](hf:Hid N.fits)(hs:Hid N.small)(Y:Hid (gM N O L l P x))(hP:Hid (ps.map Tn.tv=P))(hO:Hid (jw ps))(NL:np<=1000000)(lx:nx<=cx)(JX:mx<=dx)(lp:np<=cp)(lB:m<=d)(hk:k<=65536)(T:cap<=16777216)(hn:N.nodes.length<=200)
  (HR:Hid (nk N (cap:Int) is=0)) (HV:Hid (rR N (cap:Int) is=(P1,P2,P3,P4))):
  Calls Tryz.prog 19 #[.agg #[.slice A n c,.slice B m d,.slice PA np cp,.slice XA nx cx,.slice XB mx dx,.slice K k kc,cap],.chan none] w (ad1 w N P x cap np P2):=by
 have CC:=@jK;obtain⟨CB,CP,FB⟩:=iK;have HE:Hid (bU N=0):=ae Y.out.hE;have D9:Hid ((ps.map Tn.tv).map (·.1)=iU N):=ae (by rw[hP.out];exact Y.out.hF.ps);have HX:Hid (x.1=N.inp):=ae Y.out.hF.xs;have HXO:Hid (bH x.1 x.2=true):=ae Y.out.hF.Cq.1;obtain⟨z1,z2,z3⟩:=asb HR.out;have HZ2:=ae z2;have HZ3:=ae z3;have Az:Hid (k=is.length):=ae ki.len;clear z1 z2 z3;go_enter Tryz.func19,Tryz.ntmps19
 go_upto_region 1 with fail
 refine qd (fun u0 p0 k1 k2=>?_)
 go_upto_region 2 with(go_at_call 52;refine(ar8 hf hs HE D9 hO HX HXO.out om hk T HR HV).mono ?_;rintro e u1 ⟨rfl,_⟩)
 refine bI (fun u2 ru k3=>?_);obtain⟨Z,hsb⟩:=lg u1.heap.size;rw[<-hsb]at k3⊢;have vI:Hid (w.heap.size+1<Z):=ae (by rw[hsb];exact(iin:Bx u1 (w.heap.size+1) _ _).blk.lt);clear hsb
 go_upto_region 5 with(go_at_call 53;refine(aqk hf hs Y hP hO NL lx JX lp lB T).mono ?_;rintro e u3 ⟨p,SA,ns,sc,g,r,GB,M0,gs0,X0,rfl,pp,HB,vE,p3⟩)
 obtain⟨J,hJ⟩:=lg (⟨A,n,c,B,m,d,PA,np,cp,XA,nx,cx,XB,mx,dx,K,k,kc,cap,l,SA,ns,sc⟩:qm);have hJl:J.l=l:=by rw[hJ]
 have HJN:Hid (J.np=np):=ae (by rw[hJ]);rw[<-hJ]at HB vE;have zM:Hid (w.heap.size+1<p.heap.size):=ae (iin:Bx p (w.heap.size+1) _ _).blk.lt;clear hJ
 go_wp2_with fail
 go_loopw [33] (fun Wj wr=>∃(j:Nat) (s:di) (M:jB) (e:qP) (gs:List Tn) (X:Tn),j<=k/\Wj=.int .i64 (j:Int)/\Hid (gN p wr J g r GB M e gs X)/\Hid (gz N O L l P x (cap:Int) s e)/\Hid (ib (aC N (cap:Int)) s (is.drop j)=ib (aC N (cap:Int)) (fG N.nodes.length) is)/\Hid (e.A.nx<=1000*j/\e.A.mv<=1000*j)/\ak wr p) (fun Wj _=>k-(intOf Wj).toNat)
 case atStart=>exact⟨0,fG N.nodes.length,M0,Vv cap P,gs0,X0,aS _,rfl,vE,ae (aqh Y.out T),ae rfl,ae ⟨az _,az _⟩,p3⟩
 case round=>
  obtain⟨j,s,M,e,gs,X,hj,rfl,z,HI,HG,V,hp⟩:=hrel;clear vE p3;by_cases hlt:j<k
  ·obtain⟨b1,o1,kd,id,rfl,vX,v1,v2,e1⟩:=ki.get hlt;have hdr:is.drop j=(kd,id)::is.drop (j+1):=by
    obtain⟨h1,h2⟩:=aY.1 e1.out;rw[jE h1,h2]
   have hg:=HG.out;rw[hdr]at hg;obtain⟨hce,hgo⟩:=asc (by rw[hg];exact HZ2.out);rw[hgo]at hg;have Oq:=ae hce;have G7:=ae hg;have hnx:e.A.nx<=100000000000:=by have:=V.out.1;omega
   have hmv:e.A.mv<=100000000000:=by have:=V.out.2;omega
   have i1:(j:Int)<(k:Int):=by omega
   clear hdr hg hce hgo
   go_upto_region 10 with fail
   refine bI (fun u4 GJ k4=>?_)
   go_wp2_with (first|(go_at_call 54;refine asa.mono ?_;rintro e9 u5 ⟨rfl,_⟩)|(go_at_call 55;refine(ar7 (p:=p) HB Y.out hJl HI.out (z.out.at (w':=u5)) Oq.out hn hnx hmv).mono ?_;rintro e9 u9 ⟨rfl,m5,e5,gs5,X5,H1,H2,H3,H4⟩))
   go_roundw
   case rel=>exact⟨j+1,_,m5,e5,gs5,X5,om,by go_num,H1,H2,G7,ae ⟨by have:=H3.out.1;have:=V.out.1;omega,by have:=H3.out.2;have:=V.out.2;omega⟩,H4⟩
   case measure=>simp[intOf];omega
  ·obtain rfl:j=k:=om;have hG:=HG.out;rw[kL (by rw[<-Az.out];exact az _),ib]at hG;have hw:wL (aC N (cap:Int)) s=true:=by have:=HZ3.out;rw[<-hG]at this;exact this
   obtain⟨f1,f2,f3⟩:=HI.out.whole Y.out hw;have EO:Hid (e.lo=Ct N P x):=ae f1;have zJ:=ae f2;have JO:=ae f3;have HHI:Hid ((e.A.hi:Int)<=(cap:Int)):=ae (by have:=HI.out.mb.ar.hi;have:=HI.out.cap;omega);clear hG hw f1 f2 f3;obtain⟨wx,rfl⟩:=lg wr;have c8:Cl wx g 8 (.pointer r):=z.out.ms.cl z.out.cs.c8;have c17:Cl wx g 17 (.int .i64 e.lo):=z.out.ms.cl z.out.lo;have c18:Cl wx g 18 (.slice GB J.np J.np):=z.out.ms.cl z.out.gr;have c19:Cl wx g 19 (.slice X.A X.zs.length X.c):=z.out.ms.cl z.out.x0;have c20:Cl wx g 20 (.slice X.B X.xs.length X.d):=z.out.ms.cl z.out.x1;have cs1:Cl wx Z 1 (.int .i64 P2):=⟨(k3.blk.at (w':=wx)).cell 1⟩
   go_upto_region 16 with fail
   refine j6 w (fun w9=>Cl w9 g 8 (.pointer r)/\Cl w9 g 17 (.int .i64 e.lo)/\Cl w9 g 18 (.slice GB J.np J.np)/\Cl w9 g 19 (.slice X.A X.zs.length X.c)/\Cl w9 g 20 (.slice X.B X.xs.length X.d)/\Cl w9 Z 1 (.int .i64 P2)) aj ⟨iin,iin,iin,iin,iin,iin⟩ (fun y _=>?_);refine lK (i:=0) (d:=48) (v:=?_) rfl rfl aj aj aj (fun _ _ _ h=>h) aj ⟨ai _ _,⟨iin,iin,iin,iin,iin,iin⟩⟩ ?_ ?_;rotate_left
   ·rintro D ⟨F,r1,r2,G,I,Q,R⟩;go_simp
    try(with_reducible rfl)
   try simp only[List.set]
   refine lK (i:=1) (d:=49) (v:=?_) rfl rfl aj aj aj (fun _ _ _ h=>h) aj ⟨ai _ _,⟨iin,iin,iin,iin,iin,iin⟩⟩ ?_ ?_;rotate_left
   ·rintro D ⟨F,r1,r2,G,I,Q,R⟩;go_simp
    try(with_reducible rfl)
   try simp only[List.set]
   refine lK (i:=2) (d:=50) (v:=?_) rfl rfl aj aj aj (fun _ _ _ h=>h) aj ⟨ai _ _,⟨iin,iin,iin,iin,iin,iin⟩⟩ ?_ ?_;rotate_left
   ·rintro D ⟨F,r1,r2,G,I,Q,R⟩;go_simp
    try(with_reducible rfl)
   try simp only[List.set]
   refine lK (i:=3) (d:=51) (v:=?_) rfl rfl aj aj aj (fun _ _ _ h=>h) aj ⟨ai _ _,⟨iin,iin,iin,iin,iin,iin⟩⟩ ?_ ?_;rotate_left
   ·rintro D ⟨F,r1,r2,G,I,Q,R⟩;go_simp
    try(with_reducible rfl)
   try simp only[List.set]
   refine lK (i:=4) (d:=52) (v:=?_) rfl rfl aj aj aj (fun _ _ _ h=>h) aj ⟨ai _ _,⟨iin,iin,iin,iin,iin,iin⟩⟩ ?_ ?_;rotate_left
   ·rintro D ⟨F,r1,r2,G,I,Q,R⟩;go_simp
    try(with_reducible rfl)
   try simp only[List.set]
   refine lK (i:=5) (d:=53) (v:=?_) rfl rfl aj aj aj (fun _ _ _ h=>h) aj ⟨ai _ _,⟨iin,iin,iin,iin,iin,iin⟩⟩ ?_ ?_;rotate_left
   ·rintro D ⟨F,r1,r2,G,I,Q,R⟩;go_simp
    try(with_reducible rfl)
   try simp only[List.set]
   refine lK (i:=6) (d:=54) (v:=?_) rfl rfl aj aj aj (fun _ _ _ h=>h) aj ⟨ai _ _,⟨iin,iin,iin,iin,iin,iin⟩⟩ ?_ ?_;rotate_left
   ·rintro D ⟨F,r1,r2,G,I,Q,R⟩;go_simp
    try(with_reducible rfl)
   try simp only[List.set]
   refine lK (i:=7) (d:=55) (v:=?_) rfl rfl aj aj aj (fun _ _ _ h=>h) aj ⟨ai _ _,⟨iin,iin,iin,iin,iin,iin⟩⟩ ?_ ?_;rotate_left
   ·rintro D ⟨F,r1,r2,G,I,Q,R⟩;go_simp
    try(with_reducible rfl)
   try simp only[List.set]
   refine lK (i:=9) (d:=57) (v:=?_) rfl rfl aj aj aj (fun _ _ _ h=>h) aj ⟨ai _ _,⟨iin,iin,iin,iin,iin,iin⟩⟩ ?_ ?_;rotate_left
   ·rintro D ⟨F,r1,r2,G,I,Q,R⟩;go_simp
    try(with_reducible rfl)
   try simp only[List.set]
   refine lK (i:=10) (d:=58) (v:=?_) rfl rfl aj aj aj (fun _ _ _ h=>h) aj ⟨ai _ _,⟨iin,iin,iin,iin,iin,iin⟩⟩ ?_ ?_;rotate_left
   ·rintro D ⟨F,r1,r2,G,I,Q,R⟩;go_simp
    try(with_reducible rfl)
   try simp only[List.set]
   refine lK (i:=11) (d:=59) (v:=?_) rfl rfl aj aj aj (fun _ _ _ h=>h) aj ⟨ai _ _,⟨iin,iin,iin,iin,iin,iin⟩⟩ ?_ ?_;rotate_left
   ·rintro D ⟨F,r1,r2,G,I,Q,R⟩;go_simp
    try(with_reducible rfl)
   try simp only[List.set]
   refine lK (i:=12) (d:=60) (v:=?_) rfl rfl aj aj aj (fun _ _ _ h=>h) aj ⟨ai _ _,⟨iin,iin,iin,iin,iin,iin⟩⟩ ?_ ?_;rotate_left
   ·rintro D ⟨F,r1,r2,G,I,Q,R⟩;go_simp
    try(with_reducible rfl)
   try simp only[List.set]
   refine lK (i:=14) (d:=62) (v:=?_) rfl rfl aj aj aj (fun _ _ _ h=>h) aj ⟨ai _ _,⟨iin,iin,iin,iin,iin,iin⟩⟩ ?_ ?_;rotate_left
   ·rintro D ⟨F,r1,r2,G,I,Q,R⟩;go_simp
    try(with_reducible rfl)
   try simp only[List.set]
   refine lK (i:=15) (d:=63) (v:=?_) rfl rfl aj aj aj (fun _ _ _ h=>h) aj ⟨ai _ _,⟨iin,iin,iin,iin,iin,iin⟩⟩ ?_ ?_;rotate_left
   ·rintro D ⟨F,r1,r2,G,I,Q,R⟩;go_simp
    try(with_reducible rfl)
   try simp only[List.set]
   refine lK (i:=16) (d:=64) (v:=?_) rfl rfl aj aj aj (fun _ _ _ h=>h) aj ⟨ai _ _,⟨iin,iin,iin,iin,iin,iin⟩⟩ ?_ ?_;rotate_left
   ·rintro D ⟨F,r1,r2,G,I,Q,R⟩;go_simp
    try(with_reducible rfl)
   try simp only[List.set]
   refine lK (i:=17) (d:=65) (v:=?_) rfl rfl aj aj aj (fun _ _ _ h=>h) aj ⟨ai _ _,⟨iin,iin,iin,iin,iin,iin⟩⟩ ?_ ?_;rotate_left
   ·rintro D ⟨F,r1,r2,G,I,Q,R⟩;go_simp
    try(with_reducible rfl)
   try simp only[List.set]
   refine lK (i:=19) (d:=67) (v:=?_) rfl rfl aj aj aj (fun _ _ _ h=>h) aj ⟨ai _ _,⟨iin,iin,iin,iin,iin,iin⟩⟩ ?_ ?_;rotate_left
   ·rintro D ⟨F,r1,r2,G,I,Q,R⟩;go_simp
    try(with_reducible rfl)
   try simp only[List.set]
   refine lK (i:=20) (d:=68) (v:=?_) rfl rfl aj aj aj (fun _ _ _ h=>h) aj ⟨ai _ _,⟨iin,iin,iin,iin,iin,iin⟩⟩ ?_ ?_;rotate_left
   ·rintro D ⟨F,r1,r2,G,I,Q,R⟩;go_simp
    try(with_reducible rfl)
   try simp only[List.set]
   refine ay 8 fun K hK=>?_;go_simp
   (with_reducible refine(agJ (z.out.at (w':=y)).ms.ar).mono ?_)
   rintro e y ⟨rfl,_⟩;dsimp only;refine av hK ?_ ⟨ai w _,⟨iin,iin,iin,iin,iin,iin⟩⟩;clear hK K;refine ay 13 fun K hK=>?_;go_simp
   (with_reducible refine(agK (z.out.at (w':=y)).ms.ar).mono ?_)
   rintro e y ⟨rfl,_⟩;dsimp only;refine av hK ?_ ⟨ai w _,⟨iin,iin,iin,iin,iin,iin⟩⟩;clear hK K;refine ay 18 fun K hK=>?_;go_simp
   (with_reducible refine(agL (z.out.at (w':=y)).ms.ar).mono ?_)
   rintro e y ⟨rfl,_⟩;dsimp only;refine av hK ?_ ⟨ai w _,⟨iin,iin,iin,iin,iin,iin⟩⟩;clear hK K;refine lK (i:=21) (d:=69) (v:=?_) rfl rfl aj aj aj (fun _ _ _ h=>h) aj ⟨ai _ _,⟨iin,iin,iin,iin,iin,iin⟩⟩ ?_ ?_;rotate_left
   ·rintro D ⟨F,r1,r2,G,I,Q,R⟩;go_simp
    try(with_reducible rfl)
   try simp only[List.set]
   refine ay 22 fun K hK=>?_;go_simp;obtain⟨u8,S⟩:=lg ((((((((y.setCell ⟨w.heap.size+1,0,none⟩ (.int .i64 e.lo)).setCell ⟨w.heap.size+1,1,none⟩ (.slice GB J.np J.np)).setCell ⟨w.heap.size+1,2,none⟩ (.slice X.A X.zs.length X.c)).setCell ⟨w.heap.size+1,3,none⟩ (.slice X.B X.xs.length X.d)).setCell ⟨w.heap.size+1,4,none⟩ (.int .i64 (e.A.pe:Int))).setCell ⟨w.heap.size+1,5,none⟩ (.int .i64 (e.A.hi:Int))).setCell ⟨w.heap.size+1,6,none⟩ (.int .i64 (e.A.mv:Int))).setCell ⟨w.heap.size+1,7,none⟩ (.int .i64 P2));rw[<-S];have HT:Hid (Ts u8 (some ⟨GB,0,none⟩) J.np gs/\TE u8 X):=ae ((z.out.at (w':=y)).out zM.out (by rw[S];exact Wi));have JS:ak u8 w:=by rw[S];exact ase (fu _)
   have K8:Bx u8 (w.heap.size+1) 69 _:=⟨by rw[S];exact((((((((Bx.blk (w:=y) (g:=w.heap.size+1)).aF 0 _).aF 1 _).aF 2 _).aF 3 _).aF 4 _).aF 5 _).aF 6 _).aF 7 _⟩;have S8:∀b,b<y.heap.size->b≠w.heap.size+1->u8.heap[b]?=y.heap[b]?:=(by rw[S];exact Wi:Kf (fun b=>b=w.heap.size+1) (fun b=>b=w.heap.size+1) y u8).keep;have U:u8.heap[g]?=y.heap[g]?:=S8 g (z.out.at (w':=y)).ms.old.lt (by have:=zM.out;have:=z.out.bnd.2.2.1;omega);have hs8:u8.heap[Z]?=y.heap[Z]?:=S8 Z (bV k3.blk.lt aH) (by have:=vI.out;omega);clear S S8;have e8:Cl u8 g 8 _:=⟨(jG U).trans (Cl.eq (w:=y))⟩;have e17:Cl u8 g 17 _:=⟨(jG U).trans (Cl.eq (w:=y))⟩;have e18:Cl u8 g 18 _:=⟨(jG U).trans (Cl.eq (w:=y))⟩;have e19:Cl u8 g 19 _:=⟨(jG U).trans (Cl.eq (w:=y))⟩;have e20:Cl u8 g 20 _:=⟨(jG U).trans (Cl.eq (w:=y))⟩;have e21:Cl u8 Z 1 _:=⟨(jG hs8).trans (Cl.eq (w:=y))⟩;refine av hK ?_ ⟨JS,e8,e17,e18,e19,e20,e21⟩;clear hK K;refine lK (i:=23) (d:=5) (v:=?_) rfl rfl aj aj aj (fun _ _ _ h=>h) aj ⟨ai _ _,⟨iin,iin,iin,iin,iin,iin⟩⟩ ?_ ?_;rotate_left
   ·rintro D ⟨F,r1,r2,G,I,Q,R⟩;go_simp
    try(with_reducible rfl)
   try simp only[List.set]
   refine aO ?_
   go_wp2_with fail
   obtain⟨t1,t2⟩:=HT.out;refine bM (v:=.tuple #[.agg #[.int .i64 (Ct N P x),.slice GB np np,.slice X.A X.zs.length X.c,.slice X.B X.xs.length X.d,e.A.pe,e.A.hi,e.A.mv,P2],(0:Int)]) ?_ rfl ⟨_,_,gs,X,_,_,_,rfl,by rw[<-HJN.out];exact t1,by rw[z.out.gv,zJ.out],t2,by rw[z.out.xv,JO.out],HHI.out,JS⟩;rw[eG rfl];go_simp;rw[EO.out,HJN.out];exact⟨rfl,rfl⟩
end
theorem asn{Q:World->Prop}{X:World}{T0 j l m r b y B C:TypeId}{c0 c1 c2 c3 c4 e z c7 c8:Array Value}
  (h:∀u,ak u X->Bx u X.heap.size T0 c0->Bx u (X.heap.size+1) j c1->Bx u (X.heap.size+1+1) l c2->Bx u (X.heap.size+1+1+1) m c3->Bx u (X.heap.size+1+1+1+1) r c4->Bx u (X.heap.size+1+1+1+1+1) b e->Bx u (X.heap.size+1+1+1+1+1+1) y z->Bx u (X.heap.size+1+1+1+1+1+1+1) B c7->Bx u (X.heap.size+1+1+1+1+1+1+1+1) C c8->Q u):
  Q (((((((((X.alloc (.cells c0 T0)).alloc (.cells c1 j)).alloc (.cells c2 l)).alloc (.cells c3 m)).alloc (.cells c4 r)).alloc (.cells e b)).alloc (.cells z y)).alloc (.cells c7 B)).alloc (.cells c8 C)):=by
 have D:Bx ((((((X.alloc (.cells c0 T0)).alloc (.cells c1 j)).alloc (.cells c2 l)).alloc (.cells c3 m)).alloc (.cells c4 r)).alloc (.cells e b)) (X.heap.size+1+1+1+1+1) b e:=⟨aD.new' _ _ _ au⟩;have i6:Bx (((((((X.alloc (.cells c0 T0)).alloc (.cells c1 j)).alloc (.cells c2 l)).alloc (.cells c3 m)).alloc (.cells c4 r)).alloc (.cells e b)).alloc (.cells z y)) (X.heap.size+1+1+1+1+1+1) y z:=⟨aD.new' _ _ _ au⟩;have E:Bx ((((((((X.alloc (.cells c0 T0)).alloc (.cells c1 j)).alloc (.cells c2 l)).alloc (.cells c3 m)).alloc (.cells c4 r)).alloc (.cells e b)).alloc (.cells z y)).alloc (.cells c7 B)) (X.heap.size+1+1+1+1+1+1+1) B c7:=⟨aD.new' _ _ _ au⟩;have F:Bx (((((((((X.alloc (.cells c0 T0)).alloc (.cells c1 j)).alloc (.cells c2 l)).alloc (.cells c3 m)).alloc (.cells c4 r)).alloc (.cells e b)).alloc (.cells z y)).alloc (.cells c7 B)).alloc (.cells c8 C)) (X.heap.size+1+1+1+1+1+1+1+1) C c8:=⟨aD.new' _ _ _ au⟩;exact h _ (ai _ _) iin iin iin iin iin iin iin iin iin
section
variable{w u:World}{b0 b1 b2 b3 b4 b5 b6 b7:Nat}{T:TypeId}
theorem aso(k0:Bx u b0 3 #[(2:Int)])(k1:Bx u b1 3 #[(0:Int)])(k2:Bx u b2 3 #[(2:Int),(2:Int)])(y:Bx u b3 3 #[(2:Int)])(l:Bx u b4 25 #[.slice b2 2 2,.slice b3 1 1])(z:Bx u b5 3 #[(1:Int),(1:Int)])(k6:Bx u b6 3 #[(2:Int)])
  (e:Bx u b7 84 #[(8:Int),(0:Int),(0:Int),(0:Int),(0:Int),(0:Int),(0:Int),.slice none 0 0,.slice b1 1 1,.slice b4 2 2,(7:Int),(0:Int),(0:Int),(0:Int),(0:Int),(0:Int),(0:Int),.slice none 0 0,.slice b5 2 2,.slice none 0 0,(12:Int),(0:Int),(2:Int),(1:Int),(0:Int),(0:Int),(0:Int),.slice none 0 0,.slice b6 1 1,.slice none 0 0]):
  aX u (some ⟨b0,0,none⟩) 1 (some ⟨b7,0,none⟩) 3 fH:=by
 have hs:dA u (some ⟨b4,0,none⟩) 2 [⟨some ⟨b2,0,none⟩,2,2,[2,2]⟩,⟨some ⟨b3,0,none⟩,1,1,[2]⟩]:=⟨fun j x b=>by
  rcases j with _|_|j
  ·obtain rfl:=eP b;exact⟨b4,0,rfl,l.blk.lt,l.blk.cell 0,(Sl.Md (h:=k2)).rd,rfl,az _⟩
  ·obtain rfl:=eP b;exact⟨b4,0,rfl,l.blk.lt,l.blk.cell 1,(Sl.Dn (h:=y)).rd,rfl,az _⟩
  ·simp at b,rfl⟩
 have r:dA u none 0 []:=⟨fun j x b=>by simp at b,rfl⟩;refine⟨Sl.Dn (h:=k0),⟨[⟨⟨8,0,0,0,0,0,0,[]⟩,none,0,0,some ⟨b1,0,none⟩,1,1,[0],some ⟨b4,0,none⟩,2,2,[⟨some ⟨b2,0,none⟩,2,2,[2,2]⟩,⟨some ⟨b3,0,none⟩,1,1,[2]⟩]⟩,⟨⟨7,0,0,0,0,0,0,[]⟩,none,0,0,some ⟨b5,0,none⟩,2,2,[1,1],none,0,0,[]⟩,⟨⟨12,0,2,1,0,0,0,[]⟩,none,0,0,some ⟨b6,0,none⟩,1,1,[2],none,0,0,[]⟩],fun j x b=>?_,rfl⟩,rfl⟩;have m:aR 0:=⟨ah,ah⟩;rcases j with _|_|_|j
 ·obtain rfl:=eP b;refine⟨b7,0,rfl,e.blk.lt,fun j v b=>?_,Sl.empty,Sl.Dn (h:=k1),hs,az _,az _,az _,m⟩;rcases j with _|_|_|_|_|_|_|_|_|_|j<;>first|(exact(e.blk.cell _).trans b)|simp[Gg]at b
 ·obtain rfl:=eP b;refine⟨b7,0,rfl,e.blk.lt,fun j v b=>?_,Sl.empty,Sl.Md (h:=z),r,az _,az _,az _,m⟩;rcases j with _|_|_|_|_|_|_|_|_|_|j<;>first|(exact(e.blk.cell _).trans b)|simp[Gg]at b
 ·obtain rfl:=eP b;refine⟨b7,0,rfl,e.blk.lt,fun j v b=>?_,Sl.empty,Sl.Dn (h:=k6),r,az _,az _,az _,m⟩;rcases j with _|_|_|_|_|_|_|_|_|_|j<;>first|(exact(e.blk.cell _).trans b)|simp[Gg]at b
 ·simp at b
theorem G9:Calls Tryz.prog 8 #[] w (aM w (.bool true)):=by
 obtain⟨CB,CP,FB⟩:=iK;go_enter Tryz.func8,Tryz.ntmps8
 go_upto_region 2 with fail
 refine asn (fun u0 p0 k0 k1 k2 k3 k4 k5 k6 k7 k8=>?_);have a0:=aso k0 k1 k2 k3 k4 k5 k6 k7;have l:Hid fH.fits:=ae aqV;have r:Hid fH.small:=ae aqW;have b:Hid (bU fH=0):=ae VH;have F1:∀W:World,Calls Tryz.prog 26 #[(1:Int)] W (fun e w'=>e=.returned (.int .i64 4294967296)/\W=w'):=fun W=>Fw 1 W;have F2:∀W:World,Calls Tryz.prog 26 #[(2:Int)] W (fun e w'=>e=.returned (.int .i64 8589934592)/\W=w'):=fun W=>Fw 2 W;have F3:∀W:World,Calls Tryz.prog 26 #[(3:Int)] W (fun e w'=>e=.returned (.int .i64 12884901888)/\W=w'):=fun W=>Fw 3 W;have F4:∀W:World,Calls Tryz.prog 26 #[(4:Int)] W (fun e w'=>e=.returned (.int .i64 17179869184)/\W=w'):=fun W=>Fw 4 W;have F5:∀W:World,Calls Tryz.prog 26 #[.int .i64 (-1)] W (fun e w'=>e=.returned (.int .i64 (-4294967296))/\W=w'):=fun W=>Fw (-1) W;have f1:=ae F1;have f2:=ae F2;have f3:=ae F3;have f4:=ae F4;have f5:=ae F5;clear F1 F2 F3 F4 F5;have i1:dh [4294967296,8589934592,12884901888,17179869184]:=⟨by unfold aR;decide⟩;have i2:dh [0,4294967296]:=⟨by unfold aR;decide⟩
 go_upto_region 3 with(first|(go_at_call 26;first|((with_reducible refine(f1.out _).mono ?_);rintro e z ⟨rfl,rfl⟩)|((with_reducible refine(f2.out _).mono ?_);rintro e z ⟨rfl,rfl⟩)|((with_reducible refine(f3.out _).mono ?_);rintro e z ⟨rfl,rfl⟩)|((with_reducible refine(f4.out _).mono ?_);rintro e z ⟨rfl,rfl⟩))|(go_at_call 25;refine(MO (zs:=[2,2]) (xs:=[4294967296,8589934592,12884901888,17179869184]) om om (by decide+kernel)).mono ?_;rintro e u1 ⟨A1,c1,B1,d1,rfl,UN,UO,M,lX1,fA1,fX1,tJ⟩))
 refine bI (fun v1 pv1 kw=>?_)
 go_upto_region 4 with(first|(go_at_call 26;refine(f1.out _).mono ?_;rintro e z ⟨rfl,rfl⟩)|(go_at_call 25;refine(MO (zs:=[2]) (xs:=[0,4294967296]) om om (by decide+kernel)).mono ?_;rintro e u2 ⟨A2,c2,B2,d2,rfl,sA2,sX2,N,lX2,fA2,fX2,ru⟩))
 refine bI (fun v2 Nt kb=>?_)
 go_upto_region 5 with(first|(go_at_call 26;first|((with_reducible refine(f1.out _).mono ?_);rintro e z ⟨rfl,rfl⟩)|((with_reducible refine(f5.out _).mono ?_);rintro e z ⟨rfl,rfl⟩))|(go_at_call 25;refine(MO (zs:=[2]) (xs:=[4294967296,-4294967296]) om om (by decide+kernel)).mono ?_;rintro e u3 ⟨A3,c3,B3,d3,rfl,sA3,sX3,O,P,fA3,fX3,OG⟩))
 refine bI (fun v3 pv3 kx=>?_);obtain⟨y,Q⟩:=lh uj.length;have R:y<=65536:=by rw[<-Q];decide
 have L:=ae Q;clear Q;have M1:∀(u:World) (A B:Option Addr) (n m c d:Nat) [aX u A n B m fH],m<=12->Calls Tryz.prog 17 #[.agg #[.slice A n c,.slice B m d],(1:Int),(100:Int)] u (Be u 1 uj 7 8 0 7 0):=fun u A B n m c d _ j=>
  VG l r ah (ae fun u _=>aqP l r j (ae adE.1) (ae adE.2)) ah b (ae rfl) (ae CK.1) (ae CK.2)
 have M2:∀(u:World) (A B:Option Addr) (n m c d:Nat) [aX u A n B m fH],m<=12->Calls Tryz.prog 17 #[.agg #[.slice A n c,.slice B m d],(2:Int),(100:Int)] u (Be u 2 uj 7 8 0 7 0):=fun u A B n m c d _ j=>
  VG l r ah (ae fun u _=>aqQ l r b j (ae adF.1) (ae adF.2)) ah b (ae rfl) (ae CK.1) (ae CK.2)
 have M3:∀(u:World) (A B:Option Addr) (n m c d:Nat) [aX u A n B m fH],m<=12->Calls Tryz.prog 17 #[.agg #[.slice A n c,.slice B m d],(3:Int),(100:Int)] u (Be u 3 uj 7 8 0 7 0):=fun u A B n m c d _ _=>
  VG l r ah (ae fun u _=>aqS l r b (ae adG.1) (ae adG.2)) ah b (ae rfl) (ae CK.1) (ae CK.2)
 have M4:∀(u:World) (A B:Option Addr) (n m c d:Nat) [aX u A n B m fH],Calls Tryz.prog 17 #[.agg #[.slice A n c,.slice B m d],(4:Int),(100:Int)] u (aM u (KO 27)):=fun u A B n m c d _=>
  aqT l r (ae fun u _=>aq4 l r (ae aqX) ah) b ah
 have C:∀(u:World) (A B:Option Addr) (n m c d:Nat) [aX u A n B m fH],m<=12->Calls Tryz.prog 27 #[.agg #[.slice A n c,.slice B m d],(100:Int)] u (Be u 1 uj 7 8 0 7 0):=fun u A B n m c d _ j=>
  aq5 l r b (ae fun u _=>M1 u A B n m c d j) (ae fun u _=>M2 u A B n m c d j) ah (ae fun u _=>M3 u A B n m c d j) ah (ae fun u _=>M4 u A B n m c d) ah L L
 have D:=ae C;clear M1 M2 M3 M4 C
 go_upto_region 6 with(go_at_call 27;refine(D.out _ _ _ _ _ _ _ om).mono ?_;rintro e u4 ⟨AC,cC,rfl,oC,GJ⟩;rw[L.out])
 refine bI (fun v4 pv4 kp=>?_);have iC:Is v4 AC y uj:=⟨(bX.at (w':=v4) oC).rd,L.out.symm⟩;have HC:Hid (gM fH [1,2,3] [[2],[2],[2],[1]] 3 yt wZ):=ae aq0;have S:Hid (nk fH ((100:Nat):Int) uj=0):=ae CK.1;have U:Hid (rR fH ((100:Nat):Int) uj=(7,8,0,7)):=ae CK.2;have E:∀(u:World) (A B PA XA XB K:Option Addr) (n m c d np cp nx cx mx dx kc:Nat) (ps:List Tn) [aX u A n B m fH] [Ts u PA np ps] [Sl u XA nx wZ.1] [Sl u XB mx wZ.2] [Is u K y uj],ps.map Tn.tv=yt->jw ps->np<=1000000->nx<=cx->mx<=dx->np<=cp->m<=d->
   Calls Tryz.prog 19 #[.agg #[.slice A n c,.slice B m d,.slice PA np cp,.slice XA nx cx,.slice XB mx dx,.slice K y kc,(100:Int)],.chan none] u (ad1 u fH yt wZ 100 np 8):=fun u A B PA XA XB K n m c d np cp nx cx mx dx kc ps _ _ _ _ _ h1 h2 h3 h4 h5 V Y=>
  asf (cap:=100) l r HC (ae h1) (ae h2) h3 h4 h5 V Y R ah ah S U
 have F:=ae E;have sx3:Sl v4 A3 1 wZ.1:=(iin:Sl v4 A3 1 [2]);have sy3:Sl v4 B3 2 wZ.2:=(iin:Sl v4 B3 2 [4294967296,-4294967296]);have Z:Hid (([⟨A1,c1,[2,2],B1,d1,[4294967296,8589934592,12884901888,17179869184]⟩,⟨A2,c2,[2],B2,d2,[0,4294967296]⟩]:List Tn).map Tn.tv=yt):=ae rfl;have pV:Hid (jw [⟨A1,c1,[2,2],B1,d1,[4294967296,8589934592,12884901888,17179869184]⟩,⟨A2,c2,[2],B2,d2,[0,4294967296]⟩]):=ae fun t ht=>by
  simp only[dz,mG,pI]at ht;rcases ht with rfl|rfl
  ·exact⟨show bH [2,2] [4294967296,8589934592,12884901888,17179869184]=true from by decide+kernel,M.le⟩
  ·exact⟨show bH [2] [0,4294967296]=true from by decide+kernel,N.le⟩
 have hx3:1<=c3:=O.le;have hy3:2<=d3:=P.le;clear E
 go_upto_region 7 with(go_at_call 19;refine(F.out _ _ _ _ _ _ _ _ _ _ _ _ _ _ _ _ _ _ _ Z.out pV.out om hx3 hy3 om om).mono ?_;rintro e u6 ⟨AG,cG,gs,X,pk,hi,mv,rfl,tG,hG,-,-,-,pu6⟩;rw[aq1])
 obtain⟨tg0,z0,G⟩:=aq2;rw[G]at hG;obtain⟨bg,og,Ag,cg,zg,Bg,dg,xg,rfl,obg,cg0,cg1,sg1,sg2,-,-,I⟩:=tG.get (k:=1) om;have hxg:zg=[2]/\xg=[-4294967296,z0]:=by
  have h9:(gs.map Tn.tv)[1]?=some (zg,xg):=by rw[dE,I.out];rfl
  rw[hG]at h9;have h8:(([2],[-4294967296,z0]):TV)=(zg,xg):=eP h9;injection h8 with V Y
  exact⟨V.symm,Y.symm⟩
 obtain⟨rfl,rfl⟩:=hxg;obtain⟨bh,oh,zh,rfl,obh,ch0,J⟩:=sg2.get (k:=0) au;obtain rfl:(-4294967296:Int)=zh:=eP J.out;rw[nA]at ch0;have G1:Hid (∀W:World,Calls Tryz.prog 26 #[(1:Int)] W (aM W (.int .i64 4294967296))):=ae fun W=>(f1.out W).mono fun _ w' ⟨h,e⟩=>⟨h,by rw[e];exact⟨bq _ _⟩⟩;have G5:Hid (∀W:World,Calls Tryz.prog 26 #[.int .i64 (-1)] W (aM W (.int .i64 (-4294967296)))):=ae fun W=>(f5.out W).mono fun _ w' ⟨h,e⟩=>⟨h,by rw[e];exact⟨bq _ _⟩⟩;clear hG G I J tG;refine bI (fun v6 pv6 ko=>?_);have hw9:IntKind.i64.wrap 2147483648=2147483648:=by rw[bF];omega
 go_upto_region 7 with fail
 refine eU v6 aj (fun ux _=>?_);refine ag 0 69 ?_;refine ag 1 70 ?_;refine ag 2 71 ?_;refine ag 3 72 ?_;refine ag 4 73 ?_;refine ag 5 74 ?_;refine ag 6 75 ?_;refine ag 7 76 ?_;refine ag 8 77 ?_;refine ag 9 78 ?_;refine ay 10 fun K hK=>?_;go_simp
 (with_reducible refine(G1.out _).mono ?_)
 rintro e ux ⟨rfl,_⟩;dsimp only;refine av hK ?_;clear hK K;refine ag 11 80 ?_;refine ag 12 81 ?_;refine ag 13 82 ?_;refine ag 14 83 ?_;refine ag 15 84 ?_;refine ag 16 85 ?_;refine ag 17 86 ?_;refine ag 18 87 ?_;refine ag 19 88 ?_;refine ag 20 89 ?_;refine ag 21 90 ?_;refine ag 22 91 ?_;refine ag 23 92 ?_;refine ag 24 93 ?_;refine ag 25 94 ?_;refine ag 26 95 ?_;refine ag 27 96 ?_;refine ag 28 97 ?_;refine ag 29 98 ?_;refine ag 30 99 ?_;refine ag 31 100 ?_;refine ag 32 101 ?_;refine ag 33 102 ?_;refine ag 34 103 ?_;refine ag 35 104 ?_;refine ag 36 105 ?_;refine ag 37 106 ?_;refine ag 38 107 ?_;refine ag 39 108 ?_;refine ay 40 fun K hK=>?_;go_simp
 (with_reducible refine(G5.out _).mono ?_)
 rintro e ux ⟨rfl,_⟩;dsimp only;refine av hK ?_;clear hK K;refine ag 41 110 ?_;refine ag 42 111 ?_;refine ag 43 0 ?_;refine aO ?_
 go_wp2_with fail
 go_ret;exact⟨rfl,ai w _⟩
end
end Go.Proofs.YtmkjnlifimffkaaGreat
