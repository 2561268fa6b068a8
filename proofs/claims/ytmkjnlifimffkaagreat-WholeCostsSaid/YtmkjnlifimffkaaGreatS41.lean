/- Lemmas. No condition. -/
import Derived.Test.YtmkjnlifimffkaaGreatS36
namespace Go.Proofs.YtmkjnlifimffkaaGreat
open Go.RowKit
set_option linter.all false
set_option maxRecDepth 100000
set_option maxHeartbeats 16000000
section
set_option linter.unusedVariables false
section
variable{p w w' u w1:World}{B r g k n i j c c' d wd o nx cx e:Nat}{m m' m2:jB}{v v':bL}{tb:Bool->Tb}{T:Bool->Int->Option (List Int)}{s:Bool}{A A' C nu D:Option Addr}{id z h:Int}{zs xs ys:List Int}{ss:List Sp}{ts us:List Tn}{t:Tn}{J:qm}{N:aI}{L:List (List Int)}{P vals:List TV}{x:TV}{nd:dJ}{cs cs':Array Value}
theorem ade(l:List dJ)(k:Nat):((l.take k).flatMap (·.P)).length<=(l.flatMap (·.P)).length:=by
 conv=>rhs;rw[<-iX k l]
 rw[Bq,cu];omega
theorem Sl.vK{u w:World}[l:Later u w]{A:Option Addr}{n:Nat}{zs:List Int}(h:Sl u A n zs){p:Nat}(hp:u.heap.size<=p)(v0 v1:Value):Sl ((w.setCell ⟨p,0,none⟩ v0).setCell ⟨p,1,none⟩ v1) A n zs:=
 ⟨h.rd.below (gW l.st hp v0 v1),h.len⟩
theorem CJ(ts:List Tn):ts.map (·.zs)=(ts.map Tn.tv).map (·.1):=by rw[Fh];rfl
theorem Vk{o:gP}{b l:List TV}{m:Nat}[Sl w A n o.S][I6 o.k](F:n<=1000000)[Ts w D m ts][Ts w C nx us][Le nx cx](G:nx<=1000000)(I:Hid (jw ts))(K:Hid (jw us))(hP:Hid (ts.map Tn.tv=b))(y:Hid (us.map Tn.tv=l))(hE:Hid (iw o (b.map (·.1)) (l.map (·.1))=0))(hq:Hid (gF o)){V X:List Int}
  (hV:Hid (dZ o (b.map (·.1)) (l.map (·.1))=V)) (E:Hid (xP o b l=X)):
  Calls Tryz.prog 102 #[.agg (opC o.kd o.k o.wd o.st o.sd o.fr o.tt (.slice A n d)),.slice D m e,.slice C nx cx] w (qE w V X 0):=by
 rw[<-hP.out,<-y.out]at hE hV E;exact akM F G I K (by rw[CJ,CJ];exact hE.out) hq (ae (by rw[CJ,CJ];exact hV.out)) E
theorem gH.Vl{K:Nat}(h:gH w w' g r m m')(l:∀b,m.U g r b->b<K)(hs:Sl w A n zs)(y:bn K A):Sl w' A n zs:=
 h.kf.sl hs fun b hb E=>by
  obtain⟨ad,e,rfl⟩:=hb;have F:=y.out ad e;have G:=l _ E;omega
theorem apX[Later p w]{id:Int}(hid:id=(j:Int))(sh:Hid (dA p nu n ss))(h:Hid (MS w p.heap.size g r m v tb))(y:Hid (dK v tb T))(I:Hid (T false (j:Int)=none))(hs:Hid (m.cs[12]?=some (.slice nu n c)))(K:Hid ((aJ ss)[j]?=some zs))(hr:Hid (aU zs=true))(E:Hid (bJ zs=(wd:Int)))
  (M:1<=wd) (O:wd<=65536) (Q:v.lv+wd<=v.cap) (F:v.nx<=1000000000000) (G:v.mv<=1000000000000) (b:(tb false).length<=200):
  Calls Tryz.prog 150 #[.pointer (some ⟨g,9,none⟩),id] w (fun e w'=>e=.returned (.int .i64 0)/\∃m' v' l,Hid (MS w' p.heap.size g r m' v' l)/\Hid (dK v' l (iG T false (j:Int) (some (List.replicate wd 0))))/\Hid (BP v wd v')/\Hid (v'.mv<=v.mv+1)/\Hid (gH w w' g r m m')):=by
 subst hid;exact acn (s:=false) sh h y I hs K hr E M O Q F G b
theorem adf[Later p w]{id:Int}(hid:id=(j:Int))(sh:Hid (dA p nu n ss))(h:Hid (MS w p.heap.size g r m v tb))(y:Hid (dK v tb T))(I:Hid (T true (j:Int)=none))(hs:Hid (m.cs[16]?=some (.slice nu n c)))(K:Hid ((aJ ss)[j]?=some zs))(hr:Hid (aU zs=true))(E:Hid (bJ zs=(wd:Int)))
  (M:1<=wd) (O:wd<=65536) (Q:v.lv+wd<=v.cap) (F:v.nx<=1000000000000) (G:v.mv<=1000000000000) (b:(tb true).length<=200):
  Calls Tryz.prog 150 #[.pointer (some ⟨g,13,none⟩),id] w (fun e w'=>e=.returned (.int .i64 0)/\∃m' v' l,Hid (MS w' p.heap.size g r m' v' l)/\Hid (dK v' l (iG T true (j:Int) (some (List.replicate wd 0))))/\Hid (BP v wd v')/\Hid (v'.mv<=v.mv+1)/\Hid (gH w w' g r m m')):=by
 subst hid;exact acn (s:=true) sh h y I hs K hr E M O Q F G b
theorem apY[Later p w](h:Hid (MS w p.heap.size g r m v tb))(b:Hid (dK v tb T))(l:Hid (T false id=some ys))[Sl w C k xs](y:Hid (xs.length=ys.length)):
  Calls Tryz.prog 151 #[.pointer (some ⟨g,9,none⟩),id,.agg #[.slice A n c,.slice C k d]] w (fun e w'=>e=.returned (.int .i64 0)/\∃m' v',Hid (MS w' p.heap.size g r m' v' tb)/\Hid (dK v' tb (iG T false id (some xs)))/\Hid (v'.lv=v.lv/\v'.pe=v.pe/\v'.cap=v.cap/\v'.nx=v.nx/\v'.mv=v.mv)/\Hid (gH w w' g r m m')):=
 aco (s:=false) h b l y
theorem Vm[Later p w](h:Hid (MS w p.heap.size g r m v tb))(b:Hid (dK v tb T))(l:Hid (T true id=some ys))[Sl w C k xs](y:Hid (xs.length=ys.length)):
  Calls Tryz.prog 151 #[.pointer (some ⟨g,13,none⟩),id,.agg #[.slice A n c,.slice C k d]] w (fun e w'=>e=.returned (.int .i64 0)/\∃m' v',Hid (MS w' p.heap.size g r m' v' tb)/\Hid (dK v' tb (iG T true id (some xs)))/\Hid (v'.lv=v.lv/\v'.pe=v.pe/\v'.cap=v.cap/\v'.nx=v.nx/\v'.mv=v.mv)/\Hid (gH w w' g r m m')):=
 aco (s:=true) h b l y
theorem adg{a b:Option (List Int)}:iG (iG T s id a) s id b=iG T s id b:=by
 funext s' i'
 unfold iG
 split<;>rfl
def adh(p w:World)(g r:Nat)(m:jB)(v:bL)(T:Bool->Int->Option (List Int))(s:Bool)(id:Int)(xs:List Int)(e:Ending)(w':World):Prop:=
 e=.returned (.int .i64 0)/\∃m' v' b,Hid (MS w' p.heap.size g r m' v' b)/\Hid (dK v' b (iG T s id (some xs)))/\Hid (v'.lv=v.lv+xs.length/\v'.pe=max v.pe (v.lv+xs.length)/\v'.cap=v.cap/\v'.nx=v.nx+1/\v'.mv<=v.mv+1)/\Hid (gH w w' g r m m')
theorem apZ[pw:Later p w](hb:Hid (wQ p J N L P x))(h:Hid (MS w p.heap.size g r m v tb))(hc:Hid (tZ J r m.cs))(hmb:Hid (dK v tb T))(V:Hid (N.nodes[k]?=some nd))(h0:Hid (vals.getD 0 T0=x))(hLn:Hid (L.length=N.nodes.length+1))(hin:Hid (∀z∈nd.ins,InT L T vals N.nodes.length z))
  (hps:Hid (P.length=(iU N).length)) (hp1:Hid ((oH N P k nd).map (·.1)=nd.P)) (hx1:Hid ((jy vals nd.ins).map (·.1)=iO nd L)) (hE:Hid (iw nd.o nd.P (iO nd L)=0)) (hq:Hid (gF nd.o)) (hS:Hid (dZ nd.o nd.P (iO nd L)=zs)) (hSL:Hid (L[k+1]?=some zs)) (hX:Hid (xP nd.o (oH N P k nd) (jy vals nd.ins)=xs))
  (hok:Hid (bH zs xs=true)) (hT:Hid (T false ((k+1:Nat):Int)=none)) (hl:v.lv+xs.length<=v.cap) (hnx:v.nx<=1000000000000) (hmv:v.mv<=1000000000000) (hlen:(tb false).length<=200):
  Calls Tryz.prog 97 #[.pointer g,.int .i64 ((k:Int)+1)] w (adh p w g r m v T false ((k+1:Nat):Int) xs):=by
 have CC:=@jK;obtain⟨CB,CP,FB⟩:=iK;have a:aX w J.A J.n J.B J.m N:=hb.out.net.at;have HM:Hid (J.m=N.nodes.length):=ae a.len;have J7:k<J.m:=by rw[HM.out];exact(aY.1 V.out).1
 have hm:J.m<=1000:=by rw[HM.out];exact hb.out.small.1
 have hwj:IntKind.i64.wrap (k:Int)=(k:Int):=by rw[bF];omega
 have c0:Cl w g 0 (.slice J.A J.n J.c):=h.out.cl hc.out.c0;have c1:Cl w g 1 (.slice J.B J.m J.d):=h.out.cl hc.out.c1;have c2:Cl w g 2 (.slice J.PA J.np J.cp):=h.out.cl hc.out.c2;obtain⟨ss,sh,hsp⟩:=hb.out.sh;have SH:=ae sh;have GH:=ae hsp;obtain⟨ps,X,hpv,hpo⟩:=hb.out.ps;have TP:Ts w J.PA J.np ps:=⟨X.rd.below pw.st,X.len⟩;have DC:=ae hpo;have Kz:=ae hpv;have O:=ae hb.out.fits;have zu:=ae hb.out.small;have hlB:=hb.out.lB;have KA:=hb.out.lp;have OQ:Hid (J.np=(iU N).length):=ae (by rw[<-hps.out,<-hpv,dF];exact X.len);have vJ:Hid (gJ N k+nd.P.length<=J.np):=ae (by
  rw[OQ.out,<-JV V.out];unfold gJ iU;exact(ade _ _))
 have hvp:nd.P.length<=1000000:=by have:=(O.out.2.2 _ (aK V.out)).2.2.1;omega
 clear sh hsp X hpv hpo;generalize hBz:J.B=Bz at a c1;have HBz:=ae hBz;clear hBz;obtain⟨b0,q0,o,A1,n1,c1',I,ni,ci,ins,P',np,cp,Y,rfl,ob,⟨v0,v1,v2,v3,v4,v5,v6,v7,v8,v9⟩,s1,si,sp,l1,li,lp,ik,hnd⟩:=a.node J7;obtain rfl:nd=⟨o,ins,aJ Y⟩:=eP (V.out.symm.trans hnd.out);have hn1:n1<=1000000:=by have:=(O.out.2.2 _ (aK V.out)).2.1;rw[s1.len];show o.S.length<=_;have h9:o.S.length<=100000:=this;omega
 obtain⟨PV,E⟩:=lh (oH N P k ⟨o,ins,aJ Y⟩);obtain⟨UV,l⟩:=lh (jy vals ins);have A8:Hid (jy vals (⟨o,ins,aJ Y⟩:dJ).ins=UV):=ae l;have KC:Hid (((ps.map Tn.tv).drop (gJ N k)).take (aJ Y).length=PV):=ae (by rw[Kz.out];exact E);have Ba:Hid (gF o):=ae hq.out;have HE:Hid (iw o (PV.map (·.1)) (UV.map (·.1))=0):=ae (by rw[<-E,hp1.out,<-l];have h9:=hx1.out;rw[h9];exact hE.out);have HS:Hid (dZ o (PV.map (·.1)) (UV.map (·.1))=zs):=ae (by rw[<-E,hp1.out,<-l];have h9:=hx1.out;rw[h9];exact hS.out);have HX:Hid (xP o PV UV=xs):=ae (by rw[<-E,<-l];exact hX.out);have Bb:Hid (∀b,m.U g r b->b<w.heap.size):=ae fun b Q=>(h.out.lt b Q).2;have HUL:Hid (UV.length=ins.length):=ae (by rw[<-l,jy,dF]);have rF:UV.length<=1000000:=by
  have:=(O.out.2.2 _ (aK V.out)).1;rw[HUL.out];have h9:ins.length<=100000:=this;omega
 clear E l hnd v8 v9 si sp li lp;go_enter Tryz.func97,Tryz.ntmps97
 go_upto_region 4 with(go_at_call 148;refine(acw (p:=p) hb (ae h.out.at) hc hmb V h0 hLn hin A8).mono ?_;rintro e u1 ⟨A2,c2',us,rfl,TU,LU,EJ,EK,tJ⟩)
 obtain⟨v1,rfl⟩:=lg u1
 go_cut [7,6] (fun q e wx=>∃G A' c' B' d',q=.pointer (some ⟨G,0,none⟩)/\e=.int .i64 0/\v1.heap.size<=G/\Bx wx G 28 #[.slice A' zs.length c',.slice B' xs.length d']/\Sl wx A' zs.length zs/\Sl wx B' xs.length xs/\Le zs.length c'/\Le xs.length d'/\bn v1.heap.size A'/\bn v1.heap.size B'/\ak wx v1)
 case first=>
  refine eU v1 aj (fun ux _=>?_);refine ag 0 19 ?_;refine ag 1 20 ?_;refine ag 2 21 ?_;refine ag 3 22 ?_;refine ag 4 23 ?_;refine ag 5 24 ?_;refine ag 6 25 ?_;refine ag 7 26 ?_;refine ag 8 27 ?_;refine ag 9 28 ?_;refine ag 10 29 ?_;refine ag 11 30 ?_;refine ag 12 31 ?_;refine ag 13 32 ?_;refine ag 14 33 ?_;refine ag 15 34 ?_;refine ag 16 35 ?_;refine ag 17 36 ?_;refine ag 18 37 ?_;refine ag 19 38 ?_;refine ag 20 39 ?_;refine ag 21 40 ?_;refine ag 23 42 ?_;refine il 22 28 (fun K hK=>?_) (fun K hK=>?_)
  ·go_simp
   (with_reducible refine(Ov hlB KA hvp DC O zu rfl V vJ KC).mono ?_)
   rintro e ux ⟨A3,c3,qs,rfl,TQ,LQ,Z,Bc,pq⟩;dsimp only;refine av hK ?_;clear hK K;refine il 24 28 (fun K hK=>?_) (fun K hK=>?_)
   focus
    go_simp
    (with_reducible refine(Vk hn1 rF Z EJ Bc EK HE Ba HS HX).mono ?_)
    rintro e ux ⟨A',c',B',d',rfl,sA,sX,lA,lX,fA,fX,_⟩;dsimp only;refine av hK ?_;clear hK K;refine ag 25 18 ?_;refine ag 26 44 ?_;refine ag 27 45 ?_;refine ay 28 fun K hK=>?_;go_simp;refine av hK ?_;clear hK K;refine bY (fun ux _ _=>?_)
   rotate_left
   focus
    go_simp;refine av hK ?_;clear hK K;refine bY (fun ux _ _=>?_);refine ay 24 fun K hK=>?_;go_simp
    (with_reducible refine(Vk hn1 rF Z EJ Bc EK HE Ba HS HX).mono ?_)
    rintro e ux ⟨A',c',B',d',rfl,sA,sX,lA,lX,fA,fX,_⟩;dsimp only;refine av hK ?_;clear hK K;refine ag 25 18 ?_;refine ag 26 44 ?_;refine ag 27 45 ?_
   all_goals
    refine ay 29 fun K hK=>?_;rename World=>wN;go_simp;refine vS hK (fun _=>?_) ⟨gW (aL v1 wN) aH _ _⟩;clear hK K;refine ag 30 6 ?_;refine aO ?_
    go_wp2_with fail
    go_meet
    case rel=>
     refine⟨_,A',_,B',_,rfl,rfl,aH,⟨(Bx.blk (w:=wN)).set2 _ _⟩,?_,?_,lA,lX,fA.less aH,fX.less aH,⟨gW (aL v1 wN) aH _ _⟩⟩
     ·first|exact sA.dY fA Bx.blk.lt _ _|exact sA.vK (az _) _ _
     ·first|exact sX.dY fX Bx.blk.lt _ _|exact sX.vK (az _) _ _
  ·go_simp;refine av hK ?_;clear hK K;refine bY (fun ux _ _=>?_);refine ay 22 fun K hK=>?_;go_simp
   (with_reducible refine(Ov hlB KA hvp DC O zu rfl V vJ KC).mono ?_)
   rintro e ux ⟨A3,c3,qs,rfl,TQ,LQ,Z,Bc,pq⟩;dsimp only;refine av hK ?_;clear hK K;refine ay 24 fun K hK=>?_;go_simp
   (with_reducible refine(Vk hn1 rF Z EJ Bc EK HE Ba HS HX).mono ?_)
   rintro e ux ⟨A',c',B',d',rfl,sA,sX,lA,lX,fA,fX,_⟩;dsimp only;refine av hK ?_;clear hK K;refine ag 25 18 ?_;refine ag 26 44 ?_;refine ag 27 45 ?_;refine ay 29 fun K hK=>?_;rename World=>wN;go_simp;refine vS hK (fun _=>?_) ⟨gW (aL v1 wN) aH _ _⟩;clear hK K;refine ag 30 6 ?_;refine aO ?_
   go_wp2_with fail
   go_meet
   case rel=>
    refine⟨_,A',_,B',_,rfl,rfl,aH,⟨(Bx.blk (w:=wN)).set2 _ _⟩,?_,?_,lA,lX,fA.less aH,fX.less aH,⟨gW (aL v1 wN) aH _ _⟩⟩
    ·first|exact sA.dY fA Bx.blk.lt _ _|exact sA.vK (az _) _ _
    ·first|exact sX.dY fX Bx.blk.lt _ _|exact sX.vK (az _) _ _
 case rest=>
  obtain⟨G,A4,c4,B4,d4,rfl,rfl,hvG,kG,sA,sX,lA,lX,fA,fX,pv⟩:=hcut;obtain⟨W1,rfl⟩:=lg wc;have F:=(jI zs xs).1 hok.out;have hrz:Hid (aU zs=true):=ae F.1;obtain⟨wd,M⟩:=lh xs.length;have Vn:=ae M;have wG:Hid (bJ zs=(wd:Int)):=ae (by rw[bJ,if_pos F.1,<-F.2,M]);obtain⟨n9,g1,g2,g3⟩:=pQ F.1;have Vo:1<=wd:=by rw[<-M];have:=F.2;omega
  have hwd2:wd<=65536:=by rw[<-M];have:=F.2;omega
  have hl':v.lv+wd<=v.cap:=by rw[<-M];exact hl
  have adk:Hid (MS W1 p.heap.size g r m v tb):=ae h.out.at;have UL:Hid (m.cs[12]?=some (.slice J.SA J.ns J.sc)):=ae (hc.out.cS false);have HJ:Hid ((aJ ss)[k+1]?=some zs):=ae (by rw[GH.out];exact hSL.out);have GU:Hid (¬m.U g r G/\G<W1.heap.size):=ae ⟨fun hx=>by have:=Bb.out G hx;have:=aH (w:=w) (w':=v1);omega,kG.blk.lt⟩;clear F g1 g2 g3 M
  go_upto_region 10 with(go_at_call 150;refine(apX (p:=p) (j:=k+1) om SH adk hmb hT UL HJ hrz wG Vo hwd2 hl' hnx hmv hlen).mono ?_;rintro e u2 ⟨rfl,m2,v2,wV,KD,Vp,HG2,Vq,y⟩;have ru:ak u2 p:=y.out.prev adk.out;have sA2:Sl u2 A4 zs.length zs:=y.out.Vl (K:=v1.heap.size) (fun b Q=>bV (Bb.out b Q) aH) sA fA;have sX2:Sl u2 B4 xs.length xs:=y.out.Vl (K:=v1.heap.size) (fun b Q=>bV (Bb.out b Q) aH) sX fX;have Na:Bx u2 G 28 #[.slice A4 zs.length c4,.slice B4 xs.length d4]:=⟨y.out.kf.blk kG.blk GU.out.1⟩)
  have HT2:Hid (iG T false ((k+1:Nat):Int) (some (List.replicate wd 0)) false ((k:Int)+1)=some (List.replicate wd 0)):=ae (by rw[show(k:Int)+1=((k+1:Nat):Int)from om];exact xq);have qD:Hid (xs.length=(List.replicate wd (0:Int)).length):=ae (by rw[Vn.out,lF]);have EC:Hid (¬m2.U g r G):=ae fun hx=>(y.out.kf.new G hx).elim GU.out.1 fun h9=>absurd GU.out.2 (sM.2 h9);refine j6 p (fun w9=>Bx w9 G 28 #[.slice A4 zs.length c4,.slice B4 xs.length d4]) aj iin (fun uz _=>?_);refine bA 0 57 ?_;refine bA 1 58 ?_;refine bA 2 59 ?_;refine bA 3 60 ?_;refine bA 4 61 ?_;refine ay 5 fun K hK=>?_;go_simp;refine(apY (p:=p) (ae ((KD).out.at (w':=uz))) Vp HT2 qD).mono ?_;rintro e9 u9 ⟨rfl,m3,v3,Vr,KE,Ak,R⟩;dsimp only;have p9:ak u9 p:=R.out.prev ((KD).out.at (w':=uz));have KG:Bx u9 G _ _:=⟨R.out.kf.blk (Bx.blk (w:=uz)) EC.out⟩;refine av hK ?_ ⟨p9,KG⟩;clear hK K;refine bA 6 4 ?_;refine aO ?_
  go_wp2_with fail
  go_ret;have adm:=KE.out;rw[show(k:Int)+1=((k+1:Nat):Int)from om,adg]at adm;obtain⟨f1,f2,f3,f4,f5⟩:=Ak.out;have q1:=HG2.out;refine⟨rfl,m3,v3,wV,Vr,ae adm,ae ⟨?_,?_,?_,?_,?_⟩,ae (((gH.later g r m).trans y.out).trans ((gH.later g r m2).trans R.out))⟩
  ·rw[f1,q1.lv,Vn.out]
  ·rw[f2,q1.pe,Vn.out]
  ·rw[f3,q1.cap]
  ·rw[f4,q1.nx]
  ·rw[f5];exact Vq.out
end
end
section
variable{p w w' u w1:World}{B r g k n i j c c' d wd o nx cx e:Nat}{m m' m2:jB}{v v':bL}{tb:Bool->Tb}{T:Bool->Int->Option (List Int)}{s:Bool}{A A' C nu D:Option Addr}{id z h lo:Int}{zs xs ys:List Int}{ss:List Sp}{ts us:List Tn}{t:Tn}{J:qm}{N:aI}{L:List (List Int)}{P vals:List TV}{x:TV}{nd:dJ}{cs cs':Array Value}
theorem MS.EL(h:MS w B g r m v tb)(hi:i≠9/\i≠10/\i≠11/\i≠13/\i≠14/\i≠15)(y:Value):MS (w.setCell ⟨g,i,none⟩ y) B g r {m with cs:=m.cs.setIfInBounds i y} v tb:=by
 have l:∀b,b≠g->(w.setCell ⟨g,i,none⟩ y).heap[b]?=w.heap[b]?:=fun b hb=>dM w ⟨g,i,none⟩ y b hb;refine⟨h.ar.keep fun b hb=>l b fun e=>h.gA (e▸hb),fun s=>?_,fun s=>?_,h.gB,h.gA,h.FA,h.FF⟩
 ·obtain⟨A,n,c,sz,E,F,G⟩:=(h.t s).tb;refine⟨(h.t s).blk.aF i y,⟨A,n,c,sz,?_,?_,G.keep fun b hb=>l b fun e=>(h.t s).ng (e▸hb)⟩,(h.t s).rise,(h.t s).len⟩
  ·rw[kJ (by cases s<;>simp[oS]<;>omega)];exact E
  ·rw[kJ (by cases s<;>simp[oS]<;>omega)];exact F
 ·show(m.cs.setIfInBounds i y)[oS s+2]?=_
  rw[kJ (by cases s<;>simp[oS]<;>omega)];exact h.ca s
theorem Vs(w:World)(g r i:Nat)(m:jB)(y:Value):Kf (m.U g r) (m.U g r) w (w.setCell ⟨g,i,none⟩ y):=(Kf.refl _ w).aF (q:=⟨g,i,none⟩) (.inl rfl) y
theorem tZ.EL(h:tZ J r cs)(hi:17<=i)(y:Value):tZ J r (cs.setIfInBounds i y):=
 ⟨by rw[kJ om];exact h.c0,by rw[kJ om];exact h.c1,by rw[kJ om];exact h.c2,
  by rw[kJ om];exact h.c3,by rw[kJ om];exact h.c4,by rw[kJ om];exact h.c7,
  by rw[kJ om];exact h.c8,fun s=>by rw[kJ (by cases s<;>simp[oS]<;>omega)];exact h.cS s⟩
theorem ap3[Later p w](hb:Hid (wQ p J N L P x))(h:Hid (MS w p.heap.size g r m v tb))(hc:Hid (tZ J r m.cs))(F:Hid (dK v tb T))(hT:Hid (T false (J.l:Int)=some xs))(hL:Hid (L[J.l]?=some zs))(I:Hid (bH zs xs=true))(V:Hid (m.cs[17]?=some (.int .i64 lo))){y:Int}(hy:Hid (xs[0]?=some y)):
  Calls Tryz.prog 99 #[.pointer g] w (fun e w'=>e=.returned (.int .i64 0)/\Hid (MS w' p.heap.size g r {m with cs:=m.cs.setIfInBounds 17 (.int .i64 y)} v tb)/\Hid (Kf (m.U g r) (m.U g r) w w')):=by
 have CC:=@jK;have CB:=@bf;have FB:=@dV;have c7:Cl w g 7 (.int .i64 (J.l:Int)):=h.out.cl hc.out.c7;have c17:Cl w g 17 (.int .i64 lo):=h.out.cl V.out;obtain⟨ss,sh,M⟩:=hb.out.sh;have SH:=ae sh;have HJ:Hid ((aJ ss)[J.l]?=some zs):=ae (by rw[M];exact hL.out);have b:Hid (m.cs[12]?=some (.slice J.SA J.ns J.sc)):=ae (hc.out.cS false);clear sh M;go_enter Tryz.func99,Tryz.ntmps99
 go_upto_region 1 with fail
 go_cut [3,4] (fun q e Q=>∃G A' c' B' d',q=.pointer (some ⟨G,0,none⟩)/\e=.int .i64 0/\w.heap.size<=G/\Bx Q G 28 #[.slice A' zs.length c',.slice B' xs.length d']/\Sl Q A' zs.length zs/\Sl Q B' xs.length xs/\Le zs.length c'/\Le xs.length d'/\bn w.heap.size A'/\bn w.heap.size B'/\ak Q w)
 case first=>
  refine eU w aj (fun E _=>?_);refine ag 0 6 ?_;refine ag 1 7 ?_;refine ag 2 8 ?_;refine ag 3 9 ?_;refine ag 4 10 ?_;refine ag 5 11 ?_;refine ag 6 12 ?_;refine il 7 11 (fun K hK=>?_) (fun K hK=>?_)
  focus
   go_simp
   (with_reducible refine(UJ (p:=p) SH (ae (h.out.at (w':=E))) F hT b HJ I).mono ?_)
   rintro e E ⟨A',c',B',d',rfl,R,O,X,Y,fA,S,_⟩;dsimp only;refine av hK ?_;clear hK K;refine ag 8 5 ?_;refine ag 9 14 ?_;refine ag 10 15 ?_;refine ay 11 fun K hK=>?_;go_simp;refine av hK ?_;clear hK K;refine bY (fun E _ _=>?_)
  rotate_left
  focus
   go_simp;refine av hK ?_;clear hK K;refine bY (fun E _ _=>?_);refine ay 7 fun K hK=>?_;go_simp
   (with_reducible refine(UJ (p:=p) SH (ae (h.out.at (w':=E))) F hT b HJ I).mono ?_)
   rintro e E ⟨A',c',B',d',rfl,R,O,X,Y,fA,S,_⟩;dsimp only;refine av hK ?_;clear hK K;refine ag 8 5 ?_;refine ag 9 14 ?_;refine ag 10 15 ?_
  all_goals
   refine ay 12 fun K hK=>?_;rename World=>wN;go_simp;refine vS hK (fun _=>?_) ⟨gW (aL w wN) aH _ _⟩;clear hK K;refine ag 13 4 ?_;refine aO ?_
   go_wp2_with fail
   go_meet
   case rel=>
    refine⟨_,A',_,B',_,rfl,rfl,aH,⟨(Bx.blk (w:=wN)).set2 _ _⟩,?_,?_,X,Y,fA.less aH,S.less aH,⟨gW (aL w wN) aH _ _⟩⟩
    ·first|exact R.dY fA Bx.blk.lt _ _|exact R.vK (az _) _ _
    ·first|exact O.dY S Bx.blk.lt _ _|exact O.vK (az _) _ _
 case rest=>
  obtain⟨G,A4,c4,B4,d4,rfl,rfl,hvG,kG,R,O,X,Y,fA,S,pv⟩:=hcut;have Z:0<xs.length:=by have:=(aY.1 hy.out).1;exact this
  obtain⟨b4,o4,z4,rfl,Uu,cz,hz⟩:=O.get Z;rw[nA]at cz;obtain rfl:y=z4:=eP (hy.out.symm.trans hz.out);have QS:∀k,wc.frozen? ⟨g,k,none⟩=false:=fun k=>((h.out.at (w':=wc)).t false).blk.frozen k;have auO:Cl wc g 17 (.int .i64 lo):=iin
  go_wp2_with fail
  go_ret;exact⟨rfl,ae ((h.out.at (w':=wc)).EL ah _),ae ((Kf.later _ (w:=w)).trans (Vs wc g r 17 m _))⟩
theorem adn{A:Option Addr}{n c k:Nat}[a:Sl w A n zs](y:n<=1000000){b:Int}(hr:Hid (aU zs=true))(hp:Hid (aV zs=(k:Int))){X:List Int}(E:Hid (List.replicate k b=X)):Calls Tryz.prog 62 #[.slice A n c,b] w (qE w zs X 0):=by
 obtain⟨a,rfl⟩:=a;have l:=E.out;subst l;exact(Xz A c zs b k w y a hr hp).mono fun _ _ ⟨g,M,F,G,I,o1,K,hb⟩=>⟨_,_,_,_,F,⟨o1.rd,rfl⟩,⟨K.rd,rfl⟩,⟨az _⟩,⟨az _⟩,zf G,zf I,⟨hb⟩⟩
theorem ap4[Later p w](hb:Hid (wQ p J N L P x))(h:Hid (MS w p.heap.size g r m v tb))(hc:Hid (tZ J r m.cs))(hmb:Hid (dK v tb T))(hT:Hid (T true (J.l:Int)=none))(hL:Hid (L[J.l]?=some zs))(hX:Hid ((wJ zs).2=xs))(hok:Hid (bH zs xs=true))(hl:v.lv+xs.length<=v.cap)(hnx:v.nx<=1000000000000)(hmv:v.mv<=1000000000000)(hlen:(tb true).length<=200):
  Calls Tryz.prog 100 #[.pointer g] w (adh p w g r m v T true (J.l:Int) xs):=by
 have CC:=@jK;obtain⟨CB,CP,FB⟩:=iK;have c7:Cl w g 7 (.int .i64 (J.l:Int)):=h.out.cl hc.out.c7;obtain⟨ss,sh,hsp⟩:=hb.out.sh;have SH:=ae sh;have HJ:Hid ((aJ ss)[J.l]?=some zs):=ae (by rw[hsp];exact hL.out);have S:Hid (m.cs[16]?=some (.slice J.SA J.ns J.sc)):=ae (hc.out.cS true);have c16:Cl w g 16 (.slice J.SA J.ns J.sc):=h.out.cl S.out;have sw:dA w J.SA J.ns ss:=dA.at sh;have hjn:J.l<J.ns:=by rw[sw.len,<-jM];exact(aY.1 HJ.out).1
 have y:=(jI zs xs).1 hok.out;have R:Hid (aU zs=true):=ae y.1;obtain⟨wd,E⟩:=lh xs.length;have Z:=ae E;have wG:Hid (bJ zs=(wd:Int)):=ae (by rw[bJ,if_pos y.1,<-y.2,E]);obtain⟨n9,g1,g2,g3⟩:=pQ y.1;have Vo:1<=wd:=by rw[<-E];have:=y.2;omega
 have hwd2:wd<=65536:=by rw[<-E];have:=y.2;omega
 have hl':v.lv+wd<=v.cap:=by rw[<-E];exact hl
 have Vt:Hid (aV zs=(wd:Int)):=ae (by rw[<-E,y.2]);have zb:Hid (List.replicate wd (4294967296:Int)=xs):=ae (by rw[<-hX.out,wJ];dsimp only;rw[Vt.out];rfl);have Bb:Hid (∀b,m.U g r b->b<w.heap.size):=ae fun b hb9=>(h.out.lt b hb9).2;generalize J.SA=SA at*;obtain⟨b0,q0,A1,m1,c1,F,rfl,ob,v0,s1,l1,e1⟩:=sw.get hjn;obtain rfl:F=zs:=eP (e1.out.symm.trans HJ.out);have hm1:m1<=1000000:=by have:=ry R.out;rw[s1.len];omega
 have i1:(J.l:Int)<(J.ns:Int):=om;clear sh hsp y g1 g2 g3 E;go_enter Tryz.func100,Tryz.ntmps100
 go_upto_region 1 with fail
 go_cut [3,4] (fun q e wx=>∃G A' c' B' d',q=.pointer (some ⟨G,0,none⟩)/\e=.int .i64 0/\w.heap.size<=G/\Bx wx G 28 #[.slice A' F.length c',.slice B' xs.length d']/\Sl wx A' F.length F/\Sl wx B' xs.length xs/\Le F.length c'/\Le xs.length d'/\bn w.heap.size A'/\bn w.heap.size B'/\ak wx w)
 case first=>
  refine eU w aj (fun ux _=>?_);refine ag 0 7 ?_;refine ag 1 8 ?_;refine ag 2 9 ?_;refine ag 3 10 ?_;refine ag 4 11 ?_;refine ag 5 12 ?_;refine ag 6 13 ?_;refine ag 7 14 ?_;refine ag 8 15 ?_;refine ag 9 16 ?_;refine ag 10 17 ?_;refine il 11 15 (fun K hK=>?_) (fun K hK=>?_)
  focus
   go_simp
   (with_reducible refine(adn hm1 R Vt zb).mono ?_)
   rintro e ux ⟨A',c',B',d',rfl,sA,sX,lA,lX,fA,fX,_⟩;dsimp only;refine av hK ?_;clear hK K;refine ag 12 6 ?_;refine ag 13 19 ?_;refine ag 14 20 ?_;refine ay 15 fun K hK=>?_;go_simp;refine av hK ?_;clear hK K;refine bY (fun ux _ _=>?_)
  rotate_left
  focus
   go_simp;refine av hK ?_;clear hK K;refine bY (fun ux _ _=>?_);refine ay 11 fun K hK=>?_;go_simp
   (with_reducible refine(adn hm1 R Vt zb).mono ?_)
   rintro e ux ⟨A',c',B',d',rfl,sA,sX,lA,lX,fA,fX,_⟩;dsimp only;refine av hK ?_;clear hK K;refine ag 12 6 ?_;refine ag 13 19 ?_;refine ag 14 20 ?_
  all_goals
   refine ay 16 fun K hK=>?_;rename World=>wN;go_simp;refine vS hK (fun _=>?_) ⟨gW (aL w wN) aH _ _⟩;clear hK K;refine ag 17 4 ?_;refine aO ?_
   go_wp2_with fail
   go_meet
   case rel=>
    refine⟨_,A',_,B',_,rfl,rfl,aH,⟨(Bx.blk (w:=wN)).set2 _ _⟩,?_,?_,lA,lX,fA.less aH,fX.less aH,⟨gW (aL w wN) aH _ _⟩⟩
    ·first|exact sA.dY fA Bx.blk.lt _ _|exact sA.vK (az _) _ _
    ·first|exact sX.dY fX Bx.blk.lt _ _|exact sX.vK (az _) _ _
 case rest=>
  obtain⟨G,A4,c4,B4,d4,rfl,rfl,hvG,kG,sA,sX,lA,lX,fA,fX,pv⟩:=hcut;obtain⟨W1,rfl⟩:=lg wc;have V:Hid (MS W1 p.heap.size g r m v tb):=ae h.out.at;have GU:Hid (¬m.U g r G/\G<W1.heap.size):=ae ⟨fun hx=>by have:=Bb.out G hx;omega,kG.blk.lt⟩
  go_upto_region 4 with fail
  refine j6 p (fun w9=>Cl w9 g 7 (.int .i64 (J.l:Int))) aj iin (fun uy _=>?_);refine bA 0 24 ?_;refine bA 1 25 ?_;refine bA 2 26 ?_;refine bA 3 27 ?_;refine bA 4 28 ?_;refine bA 5 29 ?_;refine bA 6 30 ?_;refine ay 7 fun K hK=>?_;go_simp;refine(adf (p:=p) (j:=J.l) rfl SH (ae (V.out.at (w':=uy))) hmb hT S HJ R wG Vo hwd2 hl' hnx hmv hlen).mono ?_;rintro e9 u2 ⟨rfl,m2,v2,wV,M,Vp,HG2,Vq,O⟩;dsimp only;have ru:ak u2 p:=O.out.prev (V.out.at (w':=uy));have c72:Cl u2 g 7 (.int .i64 (J.l:Int)):=M.out.cl (hc.out.same O.out.sm).c7;have Q:Hid (gH W1 u2 g r m m2):=ae ((gH.later g r m (w:=W1)).trans O.out);refine av hK ?_ ⟨ru,c72⟩;clear hK K;refine bA 8 5 ?_;refine aO ?_
  skip
  have sX2:Sl u2 B4 xs.length xs:=Q.out.Vl Bb.out sX fX;have Na:Bx u2 G 28 #[.slice A4 F.length c4,.slice B4 xs.length d4]:=⟨Q.out.kf.blk kG.blk GU.out.1⟩;have HT2:Hid (iG T true (J.l:Int) (some (List.replicate wd 0)) true (J.l:Int)=some (List.replicate wd 0)):=ae xq;have qD:Hid (xs.length=(List.replicate wd (0:Int)).length):=ae (by rw[Z.out,lF]);have EC:Hid (¬m2.U g r G):=ae fun hx=>(Q.out.kf.new G hx).elim GU.out.1 fun h9=>absurd GU.out.2 (sM.2 h9)
  go_upto_region 7 with fail
  refine j6 p (fun w9=>Cl w9 g 7 (.int .i64 (J.l:Int))/\Bx w9 G 28 #[.slice A4 F.length c4,.slice B4 xs.length d4]) aj ⟨iin,iin⟩ (fun uz _=>?_);refine bu 0 35 ?_;refine bu 1 36 ?_;refine bu 2 37 ?_;refine bu 3 38 ?_;refine bu 4 39 ?_;refine bu 5 40 ?_;refine bu 6 41 ?_;refine bu 7 42 ?_;refine ay 8 fun K hK=>?_;go_simp;refine(Vm (p:=p) (ae (M.out.at (w':=uz))) Vp HT2 qD).mono ?_;rintro e9 u9 ⟨rfl,m3,v3,X,KE,Ak,I⟩;dsimp only;have p9:ak u9 p:=I.out.prev (M.out.at (w':=uz));have KG:Bx u9 G _ _:=⟨I.out.kf.blk (Bx.blk (w:=uz)) EC.out⟩;have c79:Cl u9 g 7 (.int .i64 (J.l:Int)):=X.out.cl ((hc.out.same Q.out.sm).same I.out.sm).c7;refine av hK ?_ ⟨p9,c79,KG⟩;clear hK K;refine bu 9 2 ?_;refine aO ?_
  go_wp2_with fail
  go_ret;have Y:=KE.out;rw[adg]at Y;obtain⟨f1,f2,f3,f4,f5⟩:=Ak.out;have q1:=HG2.out;refine⟨rfl,m3,v3,wV,X,ae Y,ae ⟨?_,?_,?_,?_,?_⟩,ae (((gH.later g r m).trans Q.out).trans ((gH.later g r m2).trans I.out))⟩
  ·rw[f1,q1.lv,Z.out]
  ·rw[f2,q1.pe,Z.out]
  ·rw[f3,q1.cap]
  ·rw[f4,q1.nx]
  ·rw[f5];exact Vq.out
end
section
variable{p w w' u w1:World}{B r g k n i j c c' d wd o nx cx' dx' e:Nat}{m m' m2:jB}{v v':bL}{tb:Bool->Tb}{T:Bool->Int->Option (List Int)}{s:Bool}{A A' C nu D XA XB:Option Addr}{id z h lo:Int}{zs xs ys:List Int}{ss:List Sp}{ts us:List Tn}{t:Tn}{J:qm}{N:aI}{L:List (List Int)}{P vals:List TV}{x:TV}{nd:dJ}{cs cs':Array Value}{b:Bool}
theorem ap7[Later p w](h:Hid (MS w p.heap.size g r m v tb))(Q:Hid (m.cs[19]?=some (.slice XA x.1.length cx')))(R:Hid (m.cs[20]?=some (.slice XB x.2.length dx')))[Sl w XA x.1.length x.1][Sl w XB x.2.length x.2][dh x.2][Sl w A n zs][Sl w C k xs][dh xs]
  (S:x.2.length<=1000000) (hn:n<=1000000) (X:k<=1000000) (G:Hid (x.2=[]\/nE x.1 x.2 zs xs=true)) {V:TV} (hV:Hid (mq (x.1,x.2) (zs,xs)=V)):
  Calls Tryz.prog 157 #[.pointer g,(0:Int),.agg #[.slice A n c,.slice C k d],.bool b] w (fun e w'=>e=.returned (.int .i64 0)/\∃A' c' B' d',Hid (MS w' p.heap.size g r {m with cs:=(m.cs.setIfInBounds 19 (.slice A' V.1.length c')).setIfInBounds 20 (.slice B' V.2.length d')} v tb)/\Sl w' A' V.1.length V.1/\Sl w' B' V.2.length V.2/\bn w.heap.size A'/\bn w.heap.size B'/\V.2.length<=d'/\Hid (Kf (m.U g r) (m.U g r) w w')):=by
 have CC:=@jK;have CB:=@bf;have c19:Cl w g 19 (.slice XA x.1.length cx'):=h.out.cl Q.out;have c20:Cl w g 20 (.slice XB x.2.length dx'):=h.out.cl R.out;go_enter Tryz.func157,Tryz.ntmps157
 go_upto_region 1 with fail
 refine bI (fun u0 Ah k0=>?_)
 go_upto_region 2 with fail
 refine j6 p (fun w9=>Bx w9 w.heap.size 28 #[.slice A n c,.slice C k d]) aj iin (fun Y _=>?_);refine bA 0 13 ?_;refine bA 1 14 ?_;refine bA 2 15 ?_;refine bA 3 16 ?_;refine bA 4 17 ?_;refine bA 6 19 ?_;refine ay 5 fun K hK=>?_;go_simp;refine av hK ?_ ⟨ai p Y,iin⟩;clear hK K;refine ay 7 fun K hK=>?_;go_simp;have sx6:Sl Y XA x.1.length x.1:=iin;have sy6:Sl Y XB x.2.length x.2:=iin;refine(acu S hn X G hV).mono ?_;rintro e9 y ⟨A',c',B',d',rfl,sA,sX,lA,lX,fA,Z,_⟩;dsimp only;refine av hK ?_ ⟨ai p _,iin⟩;clear hK K;refine bA 8 21 ?_;refine bA 9 22 ?_;refine bA 10 23 ?_;refine ay 11 fun K hK=>?_;have I:=h.out.at (w':=y);have hf9:∀k,y.frozen? ⟨g,k,none⟩=false:=fun k=>(I.t false).blk.frozen k;have E:p.heap.size<=g:=h.out.gB;have F:w.heap.size≠g:=by have:=h.out.old.lt;omega
 have kb9:Bx y w.heap.size 28 #[.slice A n c,.slice C k d]:=iin;have M:ak ((y.setCell ⟨g,19,none⟩ (.slice A' V.1.length c')).setCell ⟨g,20,none⟩ (.slice B' V.2.length d')) p:=⟨((aL p y).setCell (p:=⟨g,19,none⟩) E _).setCell (p:=⟨g,20,none⟩) E _⟩;have O:Bx ((y.setCell ⟨g,19,none⟩ (.slice A' V.1.length c')).setCell ⟨g,20,none⟩ (.slice B' V.2.length d')) w.heap.size 28 #[.slice A n c,.slice C k d]:=⟨(kb9.blk.far (p:=⟨g,19,none⟩) F _).far (p:=⟨g,20,none⟩) F _⟩;go_simp;refine av hK ?_ ⟨M,O⟩;clear hK K;refine aO ?_
 go_wp2_with fail
 go_ret;have I:=h.out.at (w':=y);have hm1:=(I.EL (i:=19) ah (.slice A' V.1.length c')).EL (i:=20) ah (.slice B' V.2.length d');have l:g<w.heap.size:=h.out.old.lt;refine⟨rfl,A',c',B',d',ae hm1,?_,?_,fA.less aH,Z.less aH,lX.le,ae ?_⟩
 ·exact(sA.setCell (p:=⟨g,19,none⟩) (fA.less (b':=w.heap.size) aH) l _).setCell (p:=⟨g,20,none⟩) (fA.less (b':=w.heap.size) aH) l _
 ·exact(sX.setCell (p:=⟨g,19,none⟩) (Z.less (b':=w.heap.size) aH) l _).setCell (p:=⟨g,20,none⟩) (Z.less (b':=w.heap.size) aH) l _
 ·exact(((Kf.later _ (w:=w)).trans (Vs y g r 19 m _)).trans (Vs _ g r 20 m _))
def adq(p w:World)(g r:Nat)(m:jB)(v:bL)(tb:Bool->Tb)(T:Bool->Int->Option (List Int))(id:Int)(xs:List Int)(e:Ending)(w':World):Prop:=
 e=.returned (.int .i64 0)/\∃m' v',Hid (MS w' p.heap.size g r m' v' tb)/\Hid (dK v' tb (iG T true id (some xs)))/\Hid (v'.lv=v.lv/\v'.pe=v.pe/\v'.cap=v.cap/\v'.nx=v.nx/\v'.mv=v.mv)/\Hid (gH w w' g r m m')
theorem ap9[Later p w](h:Hid (MS w p.heap.size g r m v tb))(I:Hid (dK v tb T))(hi:id≠0)(Y:Hid (T true id=some ys))[Sl w C k xs](M:Hid (xs.length=ys.length)):
  Calls Tryz.prog 157 #[.pointer g,id,.agg #[.slice A n c,.slice C k d],.bool true] w (adq p w g r m v tb T id xs):=by
 have CB:=@bf;have Z:(id==0)=false:=by simp[hi]
 clear hi;go_enter Tryz.func157,Tryz.ntmps157
 go_upto_region 1 with fail
 refine bI (fun u0 Ah k0=>?_);obtain⟨G,V⟩:=lg w.heap.size;have O:Hid (¬m.U g r G):=ae fun hx=>by have:=(h.out.lt G hx).2;omega
 have y:Hid (MS u0 p.heap.size g r m v tb):=ae h.out.at;rw[<-V]at k0⊢;clear V
 go_upto_region 5 with fail
 refine j6 p (fun w9=>Bx w9 G 28 #[.slice A n c,.slice C k d]) aj iin (fun Q _=>?_);refine bA 0 25 ?_;refine bA 1 26 ?_;refine bA 2 27 ?_;refine bA 3 28 ?_;refine bA 4 29 ?_;refine ay 5 fun K hK=>?_;go_simp;refine(Vm (p:=p) (ae ((y).out.at (w':=Q))) I Y M).mono ?_;rintro e9 X ⟨rfl,m3,v3,E,F,R,l⟩;dsimp only;have p9:ak X p:=l.out.prev ((y).out.at (w':=Q));have S:Bx X G _ _:=⟨l.out.kf.blk (Bx.blk (w:=Q)) O.out⟩;refine av hK ?_ ⟨p9,S⟩;clear hK K;refine bA 6 8 ?_;refine aO ?_
 go_wp2_with fail
 go_ret;exact⟨rfl,m3,v3,E,F,R,ae ((gH.later g r m).trans l.out)⟩
theorem aqa[Later p w](hb:Hid (wQ p J N L P x))(hc:Hid (tZ J r m.cs))(h:Hid (MS w p.heap.size g r m v tb))(E:Hid (dK v tb T))(hi:0<j)(hT:Hid (T true (j:Int)=some ys))(hL:Hid (L[j]?=some zs))(F:Hid (bH zs ys=true))[dh ys][Sl w A n zs][Sl w C k xs][dh xs]
  (hn:n<=1000000) (hk2:k<=1000000) (y:Hid (ys=[]\/nE zs ys zs xs=true)) {V:TV} (hV:Hid (mq (zs,ys) (zs,xs)=V)) (qD:Hid (V.2.length=ys.length)):
  Calls Tryz.prog 157 #[.pointer g,j,.agg #[.slice A n c,.slice C k d],.bool false] w (adq p w g r m v tb T (j:Int) V.2):=by
 have CB:=@bf;have FB:=@dV;have hi0:((j:Int)==0)=false:=by simp;omega
 obtain⟨ss,sh,I⟩:=hb.out.sh;have SH:=ae sh;have HJ:Hid ((aJ ss)[j]?=some zs):=ae (by rw[I];exact hL.out);have M:Hid (m.cs[16]?=some (.slice J.SA J.ns J.sc)):=ae (hc.out.cS true);have hy6:ys.length<=1000000:=by
  have h1:=(jI zs ys).1 F.out;obtain⟨n9,g1,g2,g3⟩:=pQ h1.1;omega
 clear sh I hi;go_enter Tryz.func157,Tryz.ntmps157
 go_upto_region 1 with fail
 refine bI (fun u0 Ah k0=>?_);obtain⟨G,hG⟩:=lg w.heap.size;have EC:Hid (¬m.U g r G):=ae fun hx=>by have:=(h.out.lt G hx).2;omega
 rw[<-hG]at k0⊢;clear hG
 go_upto_region 7 with(go_at_call 154;refine(acv (p:=p) SH (ae h.out.at) E hT M HJ F).mono ?_;rintro e u ⟨A4,c4,B4,d4,rfl,sA,sX,lA,lX,fA,fX,pu⟩)
 refine bI (fun u1 tJ k1=>?_);obtain⟨Y,O⟩:=lg u.heap.size;have Q:Hid (¬m.U g r Y):=ae fun hx=>by have:=(h.out.lt Y hx).2;have:=aH (w:=w) (w':=u);omega
 rw[<-O]at k1⊢;clear O
 go_upto_region 9 with fail
 refine j6 p (fun w9=>Bx w9 G 28 #[.slice A n c,.slice C k d]/\Bx w9 Y 28 #[.slice A4 zs.length c4,.slice B4 ys.length d4]) aj ⟨iin,iin⟩ (fun R _=>?_);refine bu 0 42 ?_;refine bu 1 43 ?_;refine bu 2 44 ?_;refine bu 3 45 ?_;refine bu 4 46 ?_;refine bu 5 47 ?_;refine ay 6 fun K hK=>?_;go_simp
 (with_reducible refine(acu hy6 hn hk2 y hV).mono ?_)
 rintro e R ⟨A5,c5,B5,d5,rfl,sA5,sX5,lA5,lX5,fA5,fX5,_⟩;dsimp only;refine av hK ?_ ⟨ai p _,⟨iin,iin⟩⟩;clear hK K;refine ay 7 fun K hK=>?_;go_simp;refine(Vm (p:=p) (ae (h.out.at (w':=R))) E hT qD).mono ?_;rintro e9 Z ⟨rfl,m3,v3,S,X,Ak,l⟩;dsimp only;have p9:ak Z p:=l.out.prev (h.out.at (w':=R));have KG:Bx Z G _ _:=⟨l.out.kf.blk (Bx.blk (w:=R)) EC.out⟩;have kH9:Bx Z Y _ _:=⟨l.out.kf.blk (Bx.blk (w:=R)) Q.out⟩;have HTW:Hid (gH w Z g r m m3):=ae ((gH.later g r m (w:=w)).trans l.out);refine av hK ?_ ⟨p9,KG,kH9⟩;clear hK K;refine bu 8 8 ?_;refine aO ?_
 go_wp2_with fail
 go_ret;exact⟨rfl,m3,v3,S,X,Ak,HTW⟩
end
structure zN(w:World)(q g r GB:Nat)(m:jB)(t:Tn):Prop where
 te:TE w t
 oa:∀b,AF t.A b->b<w.heap.size/\¬m.U g r b/\b≠GB/\q<=b
 ob:∀b,AF t.B b->b<w.heap.size/\¬m.U g r b/\b≠GB/\q<=b
structure gN(p w:World)(J:qm)(g r GB:Nat)(m:jB)(e:qP)(gs:List Tn)(X:Tn):Prop where
 ms:MS w p.heap.size g r m e.A e.tb
 cs:tZ J r m.cs
 lo:m.cs[17]?=some (.int .i64 e.lo)
 gr:m.cs[18]?=some (.slice GB J.np J.np)
 row:aP w p.heap.size 28 2 (some ⟨GB,0,none⟩) J.np J.np (tc gs)
 gl:gs.length=J.np
 gv:gs.map Tn.tv=e.G
 x0:m.cs[19]?=some (.slice X.A X.zs.length X.c)
 x1:m.cs[20]?=some (.slice X.B X.xs.length X.d)
 xv:X.tv=e.X
 ax:zN w p.heap.size g r GB m X
 wW:∀t∈gs,zN w p.heap.size g r GB m t
 GU:¬m.U g r GB
section
variable{p w w' u w1:World}{B r g k n i j GB:Nat}{m m' m2:jB}{e e':qP}{v v':bL}{tb iE:Bool->Tb}{T:Bool->Int->Option (List Int)}{gs:List Tn}{X t:Tn}{J:qm}{C:Option Addr}{zs:List Int}
theorem zN.step{q:Nat}(h:zN w q g r GB m t)(l:Kf (m.U g r) (m'.U g r) w w'):zN w' q g r GB m' t:=by
 have key:∀b,(b<w.heap.size/\¬m.U g r b/\b≠GB/\q<=b)->(b<w'.heap.size/\¬m'.U g r b/\b≠GB/\q<=b):=fun b ⟨y,z,D⟩=>⟨bV y l.size,fun E=>(l.new b E).elim z fun F=>absurd y (sM.2 F),D⟩;exact⟨⟨l.rd h.te.1 fun b hb=>(h.oa b hb).2.1,l.rd h.te.2.1 fun b hb=>(h.ob b hb).2.1,h.te.2.2⟩,fun b hb=>key b (h.oa b hb),fun b hb=>key b (h.ob b hb)⟩
theorem gN.step(h:gN p w J g r GB m e gs X)(hm:MS w' p.heap.size g r m' v tb)(ht:gH w w' g r m m'):gN p w' J g r GB m' {e with A:=v,tb:=tb,T:=T} gs X:=by
 have hs:=ht.sm;refine⟨hm,h.cs.same hs,(hs 17 ah ah ah ah).trans h.lo,(hs 18 ah ah ah ah).trans h.gr,?_,h.gl,h.gv,
  (hs 19 ah ah ah ah).trans h.x0,(hs 20 ah ah ah ah).trans h.x1,h.xv,h.ax.step ht.kf,fun t l=>(h.wW t l).step ht.kf,fun z=>?_⟩
 ·exact ht.kf.row h.row fun b hb=>by rw[<-pR.1 hb];exact h.GU
 ·rcases ht.kf.new GB z with y|y
  ·exact h.GU y
  ·have:=(h.row.af (pR.2 rfl)).2.1;omega
theorem gN.at(h:gN p w J g r GB m e gs X)[Later w w']:gN p w' J g r GB m e gs X:=
 h.step (T:=e.T) h.ms.at (gH.later g r m)
theorem gN.bnd(h:gN p w J g r GB m e gs X):p.heap.size<=GB/\GB<w.heap.size/\p.heap.size<=g/\g<w.heap.size:=⟨(h.row.af (pR.2 rfl)).1,(h.row.af (pR.2 rfl)).2.1,h.ms.gB,h.ms.old.lt⟩
theorem gN.emit(h:gN p w J g r GB m e gs X){y:Int}(hm:MS w' p.heap.size g r {m with cs:=m.cs.setIfInBounds 17 (.int .i64 y)} e.A e.tb)(l:Kf (m.U g r) (m.U g r) w w'):gN p w' J g r GB {m with cs:=m.cs.setIfInBounds 17 (.int .i64 y)} {e with lo:=y} gs X:=by
 have z:=(nz.1 h.lo).1;refine⟨hm,h.cs.EL ah _,?_,?_,?_,h.gl,h.gv,?_,?_,h.xv,h.ax.step l,fun t D=>(h.wW t D).step l,h.GU⟩
 ·exact He z
 ·exact(kJ ah).trans h.gr
 ·exact l.row h.row fun b hb=>by rw[<-pR.1 hb];exact h.GU
 ·exact(kJ ah).trans h.x0
 ·exact(kJ ah).trans h.x1
theorem gN.inp(h:gN p w J g r GB m e gs X){X':Tn}(hm:MS w' p.heap.size g r {m with cs:=(m.cs.setIfInBounds 19 (.slice X'.A X'.zs.length X'.c)).setIfInBounds 20 (.slice X'.B X'.xs.length X'.d)} e.A e.tb)(F:Kf (m.U g r) (m.U g r) w w')(y:TE w' X')
  (G:∀b,AF X'.A b->b<w'.heap.size) (hb:∀b,AF X'.B b->b<w'.heap.size) (I:bn w.heap.size X'.A) (K:bn w.heap.size X'.B):
  gN p w' J g r GB {m with cs:=(m.cs.setIfInBounds 19 (.slice X'.A X'.zs.length X'.c)).setIfInBounds 20 (.slice X'.B X'.xs.length X'.d)} {e with X:=X'.tv} gs X':=by
 have z:=(nz.1 h.x0).1;have D:=(nz.1 h.x1).1;have L:=h.bnd.2.1;have key:∀{C:Option Addr},bn w.heap.size C->(∀b,AF C b->b<w'.heap.size)->∀b,AF C b->b<w'.heap.size/\¬m.U g r b/\b≠GB/\p.heap.size<=b:=fun{C} M N b l=>by
  have O:=N b l;obtain⟨ad,P,rfl⟩:=l;have Q:=M.out ad P;exact⟨O,fun l=>by have:=(h.ms.lt _ l).2;omega,om,by have:=h.bnd.1;omega⟩
 refine⟨hm,(h.cs.EL ah _).EL ah _,?_,?_,?_,h.gl,h.gv,?_,?_,rfl,⟨y,key I G,key K hb⟩,fun t E=>(h.wW t E).step F,h.GU⟩
 ·exact((kJ ah).trans (kJ ah)).trans h.lo
 ·exact((kJ ah).trans (kJ ah)).trans h.gr
 ·exact F.row h.row fun b hb=>by rw[<-pR.1 hb];exact h.GU
 ·rw[kJ ah];exact He z
 ·exact He (by simpa using D)
end
section
set_option linter.unusedVariables false
section
variable{p w w' u w1:World}{B r g k n i j GB l:Nat}{m m' m2:jB}{e e':qP}{v v':bL}{t:Tb}{tb iE:Bool->Tb}{T:Bool->Int->Option (List Int)}{gs:List Tn}{X:Tn}{J:qm}{C:Option Addr}{zs:List Int}{N:aI}{O:List Int}{L:List (List Int)}{P:List TV}{x:TV}{cap kd id z lo:Int}{s:di}{b:Bool}
theorem adr:∀{t:Tb} {lo:Int},kT t->(∀y∈t,lo<y.1/\y.1<=n)->(t.length:Int)<=max 0 (n-lo)
 |[],lo,_,_=>by simp;omega
 |y::t,lo,hr,h=>by
  have D:=h y dN;have E:=adr (t:=t) (lo:=y.1) (qy.1 hr).2 fun q hq=>⟨(qy.1 hr).1 q hq,(h q (fI _ hq)).2⟩;simp only[iJ];omega
theorem dK.Vu(h:dK v tb T)(D:∀id xs,T b id=some xs->1<=id/\id<=(n:Int)):(tb b).length<=n:=by
 have:=adr (n:=n) (lo:=0) (h.so b) fun y E=>by
  obtain⟨xs,F,_⟩:=h.hs b y E;have:=D _ _ F;omega
 omega
theorem gz.ids(h:gz N O L l P x cap s e):∀b id xs,e.T b id=some xs->1<=id/\id<=(N.nodes.length:Int):=fun b id xs y=>by
 cases b
 ·rw[h.tt]at y
  split at y
  ·rename_i D;exact⟨D.1,D.2.1⟩
  ·cases y
 ·rw[h.gg]at y
  split at y
  ·rename_i D;exact⟨D.1,D.2.1⟩
  ·cases y
def GV(p:World)(J:qm)(g r GB:Nat)(N:aI)(O:List Int)(L:List (List Int))(l:Nat)(P:List TV)(x:TV)(cap:Int)(s':di)(a:bL)(k:Nat)(D:Ending)(w':World):Prop:=
 D=.returned (.int .i64 0)/\∃m' e' y X',Hid (gN p w' J g r GB m' e' y X')/\Hid (gz N O L l P x cap s' e')/\Hid (e'.A.nx<=a.nx+k/\e'.A.mv<=a.mv+k)/\ak w' p
theorem ads[Later p w](hB:Hid (wQ p J N L P x))(c:gM N O L l P x)(Q:gz N O L l P x cap s e)(hS:gN p w J g r GB m e gs X)(hc:iV (aC N cap) s kd id=0)(hk:kd=1\/kd=2)(hn:N.nodes.length<=200)(R:e.A.nx<=1000000000000)(S:e.A.mv<=1000000000000):
  Calls Tryz.prog 97 #[.pointer g,id] w (GV p J g r GB N O L l P x cap (bB (aC N cap) s kd id) e.A 1):=by
 obtain⟨⟨U,V,h3,Y,h5⟩,D⟩:=Q.comp c hc hk;obtain⟨q1,q2,q3⟩:=c.val U V;obtain⟨v,hv,hE,Z,hi,hm⟩:=c.hN.at (dR.2 ⟨U,V⟩);have E:=Cr c.hN c.hF;obtain⟨k,F⟩:=lh ((id-1).toNat);have hid:id=(k:Int)+1:=by omega
 have y:id=((k+1:Nat):Int):=om;have G:id.toNat=k+1:=om;rw[F]at hv;rw[hi]at Y;have hin:∀z∈v.ins,InT L e.T (ed N P x) N.nodes.length z:=fun z hz=>(Y z hz).imp (fun h=>h) fun⟨a1,a2,a3⟩=>by
  obtain⟨b1,b2,_⟩:=c.val a1 a2;exact⟨a1,a2,a3,b1,b2⟩
 have hpk:=rM.pick c.hN c.hF E (v:=v) fun z hz=>(Y z hz).imp (fun h=>h) fun h=>c.hN.mem.2 (dR.2 ⟨h.1,h.2.1⟩);have I:=E.eq id (c.hN.mem.2 (dR.2 ⟨U,V⟩)) v (by rw[F];exact hv);rw[F]at I;have K:((ed N P x).getD id.toNat T0).2.length=eH L id:=q3;have:=apZ (p:=p) (w:=w) (g:=g) (r:=r) (m:=m) (v:=e.A) (tb:=e.tb) (T:=e.T) (k:=k) (nd:=v) (vals:=ed N P x) (zs:=L.getD id.toNat []) (xs:=((ed N P x).getD id.toNat T0).2) hB (ae hS.ms) (ae hS.cs) (ae Q.mb) (ae hv) (ae E.zero) (ae c.hN.len) (ae hin)
  (ae (by have:=eD List.length c.hF.ps;simpa using this)) (ae (c.hF.par hv).1) (ae hpk.1) (ae hE) (ae (c.hF.kk v hm)) (ae Z.symm) (ae (by
   have h9:k+1<L.length:=by rw[c.len];omega
   rw[G,aQ,aW h9];rfl)) (ae (by rw[I];rfl)) (ae (by rw[<-q1];exact q2.1)) (ae (by rw[<-y];exact h3)) (by rw[K];omega) R S (aZ (Q.mb.Vu (Q.ids false)) hn)
 rw[<-hid]at this;refine this.mono ?_;rintro e9 w' ⟨rfl,m',v',iE,HM,HB,HV,HT⟩;obtain⟨f1,f2,f3,f4,f5⟩:=HV.out;rw[K]at f1 f2;have M:=HB.out;rw[<-y]at M;exact⟨rfl,m',_,gs,X,ae (hS.step HM.out HT.out),ae (D v' iE M f1 f2 f3),ae ⟨lH f4,f5⟩,HT.out.prev hS.ms⟩
theorem aqd[Later p w](c:gM N O L l P x)(D:gz N O L l P x cap s e)(hS:gN p w J g r GB m e gs X)(F:iV (aC N cap) s 3 id=0):
  Calls Tryz.prog 98 #[.pointer (some ⟨g,9,none⟩),id] w (GV p J g r GB N O L l P x cap (bB (aC N cap) s 3 id) e.A 1):=by
 obtain⟨⟨Q,R,G⟩,y⟩:=D.freed c F;refine(acp (p:=p) (s:=false) (ae hS.ms) (ae D.mb) (ae G)).mono ?_;rintro S w' ⟨rfl,m',v',iE,I,K,M,E⟩;obtain⟨f1,f2,f3,f4,f5⟩:=M.out;exact⟨rfl,m',_,gs,X,ae (hS.step I.out E.out),ae (y v' iE K.out f1 f2 f3),ae ⟨by show v'.nx<=_;omega,by show v'.mv<=_;omega⟩,E.out.prev hS.ms⟩
theorem aqe[Later p w](R:Hid (wQ p J N L P x))(c:gM N O L l P x)(I:J.l=l)(K:gz N O L l P x cap s e)(hS:gN p w J g r GB m e gs X)(S:iV (aC N cap) s 4 id=0):
  Calls Tryz.prog 99 #[.pointer g] w (GV p J g r GB N O L l P x cap (bB (aC N cap) s 4 id) e.A 1):=by
 obtain⟨U,D⟩:=K.emit c S;have l1:=c.hN.xV;have l2:=c.hN.vk;obtain⟨M,F,V⟩:=c.val (z:=(l:Int)) om om;rw[dD]at M F V;have E:=F.ne;have G:((ed N P x).getD l T0).2[0]?=some (((ed N P x).getD l T0).2.getD 0 0):=by
  generalize((ed N P x).getD l T0).2=ys at E;cases ys with
  |nil=>exact absurd rfl E
  |cons y t=>rfl
 refine(ap3 (p:=p) (zs:=L.getD l []) (lo:=e.lo) R (ae hS.ms) (ae hS.cs) (ae K.mb) (ae (by rw[I];exact U)) (ae (by
  have Y:l<L.length:=by rw[c.len];omega
  rw[I,aQ,aW Y];rfl)) (ae (by rw[<-M];exact F.1)) (ae hS.lo) (ae G)).mono ?_
 rintro e9 w' ⟨rfl,Z,Q⟩;exact⟨rfl,_,_,gs,X,ae (hS.emit Z.out Q.out),ae D,ae ⟨fu _,fu _⟩,Q.out.prev fun b hb=>(hS.ms.lt b hb).1⟩
theorem aqf[Later p w](R:Hid (wQ p J N L P x))(c:gM N O L l P x)(G:J.l=l)(F:gz N O L l P x cap s e)(hS:gN p w J g r GB m e gs X)(S:iV (aC N cap) s 5 id=0)(U:N.nodes.length<=200)(I:e.A.nx<=1000000000000)(K:e.A.mv<=1000000000000):
  Calls Tryz.prog 100 #[.pointer g] w (GV p J g r GB N O L l P x cap (bB (aC N cap) s 5 id) e.A 1):=by
 obtain⟨⟨V,h2,M⟩,D⟩:=F.seed c S;have l1:=c.hN.xV;have l2:=c.hN.vk;have y:=TJ (c.hN.right c.hF (z:=(l:Int)) om om);rw[dD]at y;refine(ap4 (p:=p) (zs:=L.getD l []) (xs:=(wJ (L.getD l [])).2) R (ae hS.ms) (ae hS.cs) (ae F.mb) (ae (by rw[G];exact V)) (ae (by
  have Y:l<L.length:=by rw[c.len];omega
  rw[G,aQ,aW Y];rfl)) (ae rfl) (ae y.1) (by rw[M];omega) I K (aZ (F.mb.Vu (F.ids true)) U)).mono ?_
 rintro e9 w' ⟨rfl,m',v',iE,Z,HB,HV,Q⟩;obtain⟨f1,f2,f3,f4,f5⟩:=HV.out;rw[M]at f1 f2;have E:=HB.out;rw[G]at E;exact⟨rfl,m',_,gs,X,ae (hS.step Z.out Q.out),ae (D v' iE E f1 f2 f3),ae ⟨lH f4,f5⟩,Q.out.prev hS.ms⟩
end
end
end Go.Proofs.YtmkjnlifimffkaaGreat
