/- Lemmas. -/
import Derived.Test.YtmkjnlifimffkaaGreatF25
namespace Go.Proofs.YtmkjnlifimffkaaGreat
open Go.RowKit Tryz
set_option linter.all false
set_option maxRecDepth 100000
set_option maxHeartbeats 0
variable{p u w' w1:World}{c c' cx d e g i j r wd:Nat}{m' m2:jl}{v':cB}{tb:Bool->Tb}{A A' C tZ:Option Addr}{h id z:Int}{xs ys zs:List Int}{ss:List Sp}{ts us:List Tn}{t:Tn}{J:Jk}{L:List (List Int)}{U1 vals:List TV}{i4:Array Value}
section
set_option linter.unusedVariables false
section
variable{w:World}{B k n o nx:Nat}{m:jl}{v:cB}{T:Bool->Int->Option (List Int)}{s:Bool}{D:Option Addr}{N:aU}{P:List TV}{x:TV}{nd:dV}{cs:Array Value}
def qJ(l:List dV)(k:Nat):((l.take k).flatMap (·.P)).length<=(l.flatMap (·.P)).length:=by
 conv=>rhs;rw[<-de k l]
 rw[jr,a1];omega
theorem Sl.jn{u w:World}[l:aF u w]{A:Option Addr}{n:Nat}{zs:List Int}(h:Sl u A n zs){p:Nat}(hp:u.heap.size<=p)(v0 b:Value):Sl ((w.setCell ⟨p,0,none⟩ v0).setCell ⟨p,1,none⟩ b) A n zs:=
 ⟨h.rd.below (cM l.st hp v0 b),h.len⟩
def mi(ts:List Tn):ts.map (·.zs)=(ts.map Tn.tv).map (·.1):=by rw[p4];rfl
def DW{o:gj}{b:List TV}{m:Nat}[Sl w A n o.S][I6 o.k](E:n<=1000000)[Ts w D m ts][Ts w C nx us][Le nx cx](F:nx<=1000000)(G:Hx (fo ts))(I:Hx (fo us))(hP:Hx (ts.map Tn.tv=b))(l:Hx (us.map Tn.tv=U1))(hE:Hx (da o (b.map (·.1)) (U1.map (·.1))=0))(hq:Hx (f7 o)){V X:List Int}
  (hV:Hx (cy o (b.map (·.1)) (U1.map (·.1))=V)) (y:Hx (xL o b U1=X)):
  () 102 #[.agg (fL o.kd o.k o.wd o.st o.sd o.fr o.tt (.slice A n d)),.slice D m e,.slice C nx cx] w (he w V X 0):=by
 rw[<-hP.o,<-l.o]at hE hV y;exact Y7 E F G I (by rw[mi,mi];exact hE.o) hq (ae (by rw[mi,mi];exact hV.o)) y
theorem dB.slk{K:Nat}(h:dB w w' g r m m')(l:∀b,m.U g r b->b<K)(hs:Sl w A n zs)(y:bV K A):Sl w' A n zs:=
 h.kf.sl hs λb hb E=>by
  obtain⟨F,e,rfl⟩:=hb;have G:=y.o F e;have I:=l _ E;omega
def On[aF p w]{id:Int}(hid:id=(j:Int))(sh:Hx (du p tZ n ss))(h:Hx (MS w p g r m v tb))(ce:Hx (cr v tb T))(G:Hx (T false (j:Int)=none))(hs:Hx (m.cs[12]?=some (.slice tZ n c)))(I:Hx ((aW ss)[j]?=some zs))(hr:Hx (aA zs=true))(y:Hx (bt zs=(wd:Int)))
  (K:1<=wd) (M:wd<=65536) (O:v.lv+wd<=v.cap) (E:v.nx<=1000000000000) (F:v.mv<=1000000000000) (b:(tb false).length<=200):
  () 150 #[.pointer (some ⟨g,9,none⟩),id] w (λe w'=>e=.returned (.int .i64 0)/\∃m' v' l,Hx (MS w' p g r m' v' l)/\Hx (cr v' l (et T false (j:Int) (some (List.replicate wd 0))))/\Hx (ur v wd v')/\Hx (v'.mv<=v.mv+1)/\Hx (dB w w' g r m m')):=by
 subst hid;exact Gh (s:=false) sh h ce G hs I hr y K M O E F b
def BD[aF p w]{id:Int}(hid:id=(j:Int))(sh:Hx (du p tZ n ss))(h:Hx (MS w p g r m v tb))(ce:Hx (cr v tb T))(G:Hx (T true (j:Int)=none))(hs:Hx (m.cs[16]?=some (.slice tZ n c)))(I:Hx ((aW ss)[j]?=some zs))(hr:Hx (aA zs=true))(y:Hx (bt zs=(wd:Int)))
  (K:1<=wd) (M:wd<=65536) (O:v.lv+wd<=v.cap) (E:v.nx<=1000000000000) (F:v.mv<=1000000000000) (b:(tb true).length<=200):
  () 150 #[.pointer (some ⟨g,13,none⟩),id] w (λe w'=>e=.returned (.int .i64 0)/\∃m' v' l,Hx (MS w' p g r m' v' l)/\Hx (cr v' l (et T true (j:Int) (some (List.replicate wd 0))))/\Hx (ur v wd v')/\Hx (v'.mv<=v.mv+1)/\Hx (dB w w' g r m m')):=by
 subst hid;exact Gh (s:=true) sh h ce G hs I hr y K M O E F b
def SF[aF p w](h:Hx (MS w p g r m v tb))(ce:Hx (cr v tb T))(b:Hx (T false id=some ys))[Sl w C k xs](l:Hx (xs.length=ys.length)):
  () 151 #[.pointer (some ⟨g,9,none⟩),id,.agg #[.slice A n c,.slice C k d]] w (λe w'=>e=.returned (.int .i64 0)/\∃m' v',Hx (MS w' p g r m' v' tb)/\Hx (cr v' tb (et T false id (some xs)))/\Hx (v'.lv=v.lv/\v'.pe=v.pe/\v'.cap=v.cap/\v'.nx=v.nx/\v'.mv=v.mv)/\Hx (dB w w' g r m m')):=
 Lf (s:=false) h ce b l
def y5[aF p w](h:Hx (MS w p g r m v tb))(ce:Hx (cr v tb T))(b:Hx (T true id=some ys))[Sl w C k xs](l:Hx (xs.length=ys.length)):
  () 151 #[.pointer (some ⟨g,13,none⟩),id,.agg #[.slice A n c,.slice C k d]] w (λe w'=>e=.returned (.int .i64 0)/\∃m' v',Hx (MS w' p g r m' v' tb)/\Hx (cr v' tb (et T true id (some xs)))/\Hx (v'.lv=v.lv/\v'.pe=v.pe/\v'.cap=v.cap/\v'.nx=v.nx/\v'.mv=v.mv)/\Hx (dB w w' g r m m')):=
 Lf (s:=true) h ce b l
def BE{a b:Option (List Int)}:et (et T s id a) s id b=et T s id b:=by
 funext s' i'
 unfold et
 split<;>rfl
def GI(p w:World)(g r:Nat)(m:jl)(v:cB)(T:Bool->Int->Option (List Int))(s:Bool)(id:Int)(xs:List Int)(e:Ending)(w':World):Prop:=
 e=.returned (.int .i64 0)/\∃m' v' b,Hx (MS w' p g r m' v' b)/\Hx (cr v' b (et T s id (some xs)))/\Hx (v'.lv=v.lv+xs.length/\v'.pe=max v.pe (v.lv+xs.length)/\v'.cap=v.cap/\v'.nx=v.nx+1/\v'.mv<=v.mv+1)/\Hx (dB w w' g r m m')
def GJ[pw:aF p w](hb:Hx (vz p J N L P x))(h:Hx (MS w p g r m v tb))(hc:Hx (me J r m.cs))(ce:Hx (cr v tb T))(X:Hx (N.nodes[k]?=some nd))(h0:Hx (vals.getD 0 T0=x))(NA:Hx (L.length=N.nodes.length+1))(tu:Hx (∀z∈nd.ins,RT L T vals N.nodes.length z))
  (Gs:Hx (P.length=(bS N).length)) (vC:Hx ((iT N P k nd).map (·.1)=nd.P)) (EW:Hx ((dQ vals nd.ins).map (·.1)=eD nd L)) (hE:Hx (da nd.o nd.P (eD nd L)=0)) (hq:Hx (f7 nd.o)) (hS:Hx (cy nd.o nd.P (eD nd L)=zs)) (hSL:Hx (L[k+1]?=some zs)) (hX:Hx (xL nd.o (iT N P k nd) (dQ vals nd.ins)=xs))
  (sq:Hx (aJ zs xs=true)) (hT:Hx (T false ((k+1:Nat):Int)=none)) (hl:v.lv+xs.length<=v.cap) (qo:v.nx<=1000000000000) (sr:v.mv<=1000000000000) (hlen:(tb false).length<=200):
  () 97 #[.pointer g,.int .i64 ((k:Int)+1)] w (GI p w g r m v T false ((k+1:Nat):Int) xs):=by
 have CC:=@ct;obtain⟨CB,CP,FB⟩:=ha;have a:aQ w J.A J.n J.B J.m N:=hb.o.RR.at;have HM:Hx (J.m=N.nodes.length):=ae a.len;have RV:k<J.m:=by rw[HM.o];exact(a5.1 X.o).1
 have hm:J.m<=1000:=by rw[HM.o];exact hb.o.small.1
 have hwj:IntKind.i64.wrap (k:Int)=(k:Int):=by rw[aV];omega
 have c0:Cl w g 0 (.slice J.A J.n J.c):=h.o.cl hc.o.c0;have c1:Cl w g 1 (.slice J.B J.m J.d):=h.o.cl hc.o.c1;have c2:Cl w g 2 (.slice J.PA J.np J.cp):=h.o.cl hc.o.c2;obtain⟨ss,sh,yR⟩:=hb.o.sh;have SH:=ae sh;have N2:=ae yR;obtain⟨ps,Y,Ar,SG⟩:=hb.o.ps;have TP:Ts w J.PA J.np ps:=⟨Y.rd.below pw.st,Y.len⟩;have HW:=ae SG;have HPV:=ae Ar;have Q:=ae hb.o.fits;have vr:=ae hb.o.small;have SJ:=hb.o.lB;have SK:=hb.o.lp;have Wd:Hx (J.np=(bS N).length):=ae (by rw[<-Gs.o,<-Ar,br];exact Y.len);have t9:Hx (dH N k+nd.P.length<=J.np):=ae (by
  rw[Wd.o,<-lr X.o];unfold dH bS;exact(qJ _ _))
 have N3:nd.P.length<=1000000:=by have:=(Q.o.2.2 _ (aC X.o)).2.2.1;omega
 clear sh yR Y Ar SG;generalize hBz:J.B=Bz at a c1;have HBz:=ae hBz;clear hBz;obtain⟨b0,q0,o,A1,n1,RW,I,ni,ci,ins,P',np,cp,Z,rfl,ob,⟨v0,M,v2,v3,v4,v5,v6,v7,v8,v9⟩,s1,si,sp,l1,li,lp,ik,ro⟩:=a.node RV;obtain rfl:nd=⟨o,ins,aW Z⟩:=cn (X.o.symm.trans ro.o);have oY:n1<=1000000:=by have:=(Q.o.2.2 _ (aC X.o)).2.1;rw[s1.len];show o.S.length<=_;have h9:o.S.length<=100000:=this;omega
 obtain⟨PV,E⟩:=lh (iT N P k ⟨o,ins,aW Z⟩);obtain⟨UV,l⟩:=lh (dQ vals ins);have DX:Hx (dQ vals (⟨o,ins,aW Z⟩:dV).ins=UV):=ae l;have SL:Hx (((ps.map Tn.tv).drop (dH N k)).take (aW Z).length=PV):=ae (by rw[HPV.o];exact E);have DY:Hx (f7 o):=ae hq.o;have HE:Hx (da o (PV.map (·.1)) (UV.map (·.1))=0):=ae (by rw[<-E,vC.o,<-l];have h9:=EW.o;rw[h9];exact hE.o);have HS:Hx (cy o (PV.map (·.1)) (UV.map (·.1))=zs):=ae (by rw[<-E,vC.o,<-l];have h9:=EW.o;rw[h9];exact hS.o);have HX:Hx (xL o PV UV=xs):=ae (by rw[<-E,<-l];exact hX.o);have DZ:Hx (∀b,m.U g r b->b<w.heap.size):=ae λb R=>(h.o.lt b R).2;have HUL:Hx (UV.length=ins.length):=ae (by rw[<-l,dQ,br]);have rg:UV.length<=1000000:=by
  have:=(Q.o.2.2 _ (aC X.o)).1;rw[HUL.o];have h9:ins.length<=100000:=this;omega
 clear E l ro v8 v9 si sp li lp;go_enter func97,ntmps97
 go_upto_region 4 with(go_at_call 148;refine(yQ (p:=p) hb (ae h.o.at) hc ce X h0 NA tu DX).mono ?_;rintro e u1 ⟨A2,c2',us,rfl,TU,LU,Jv,Jw,su⟩)
 obtain⟨M,rfl⟩:=lg u1
 go_cut [7,6] (λq e wx=>∃G A' c' B' d',q=.pointer (some ⟨G,0,none⟩)/\e=.int .i64 0/\M.heap.size<=G/\Bx wx G 28 #[.slice A' zs c',.slice B' xs d']/\Sl wx A' zs zs/\Sl wx B' xs xs/\Le zs.length c'/\Le xs.length d'/\bV M A'/\bV M B'/\aj wx M)
 case first=>
  refine aH M aq (λux _=>?_);refine ap 0 ?_;refine ap 1 ?_;refine ap 2 ?_;refine ap 3 ?_;refine ap 4 ?_;refine ap 5 ?_;refine ap 6 ?_;refine ap 7 ?_;refine ap 8 ?_;refine ap 9 ?_;refine ap 10 ?_;refine ap 11 ?_;refine ap 12 ?_;refine ap 13 ?_;refine ap 14 ?_;refine ap 15 ?_;refine ap 16 ?_;refine ap 17 ?_;refine ap 18 ?_;refine ap 19 ?_;refine ap 20 ?_;refine ap 21 ?_;refine ap 23 ?_;refine o7 22 28 (λK hK=>?_) (λK hK=>?_)
  .go_simp
   (with_reducible refine(DP SJ SK N3 HW Q vr rfl X t9 SL).mono ?_)
   rintro e ux ⟨A3,c3,qs,rfl,TQ,LQ,yS,D1,pq⟩;dsimp only;refine aL hK ?_;clear hK K;refine o7 24 28 (λK hK=>?_) (λK hK=>?_)
   focus
    go_simp
    (with_reducible refine(DW oY rg yS Jv D1 Jw HE DY HS HX).mono ?_)
    rintro e ux ⟨A',c',B',d',rfl,sA,sX,lA,lX,fA,fX,_⟩;dsimp only;refine aL hK ?_;clear hK K;refine ap 25 ?_;refine ap 26 ?_;refine ap 27 ?_;refine aM 28 λK hK=>?_;go_simp;refine aL hK ?_;clear hK K;refine bh (λux _ _=>?_)
   rotate_left
   focus
    go_simp;refine aL hK ?_;clear hK K;refine bh (λux _ _=>?_);refine aM 24 λK hK=>?_;go_simp
    (with_reducible refine(DW oY rg yS Jv D1 Jw HE DY HS HX).mono ?_)
    rintro e ux ⟨A',c',B',d',rfl,sA,sX,lA,lX,fA,fX,_⟩;dsimp only;refine aL hK ?_;clear hK K;refine ap 25 ?_;refine ap 26 ?_;refine ap 27 ?_
   all_goals
    refine aM 29 λK hK=>?_;rename World=>wN;go_simp;refine zF hK (λ_=>?_) ⟨cM (a7 M wN) ai _ _⟩;clear hK K;refine ap 30 ?_;refine aZ ?_
    go_wp2_with fail
    go_meet
    case rel=>
     refine⟨_,A',_,B',_,rfl,rfl,ai,⟨(Bx.al (w:=wN)).cY _ _⟩,?_,?_,lA,lX,fA.less ai,fX.less ai,⟨cM (a7 M wN) ai _ _⟩⟩
     .first|exact sA.cU fA Bx.al.lt _ _|exact sA.jn (an _) _ _
     .first|exact sX.cU fX Bx.al.lt _ _|exact sX.jn (an _) _ _
  .go_simp;refine aL hK ?_;clear hK K;refine bh (λux _ _=>?_);refine aM 22 λK hK=>?_;go_simp
   (with_reducible refine(DP SJ SK N3 HW Q vr rfl X t9 SL).mono ?_)
   rintro e ux ⟨A3,c3,qs,rfl,TQ,LQ,yS,D1,pq⟩;dsimp only;refine aL hK ?_;clear hK K;refine aM 24 λK hK=>?_;go_simp
   (with_reducible refine(DW oY rg yS Jv D1 Jw HE DY HS HX).mono ?_)
   rintro e ux ⟨A',c',B',d',rfl,sA,sX,lA,lX,fA,fX,_⟩;dsimp only;refine aL hK ?_;clear hK K;refine ap 25 ?_;refine ap 26 ?_;refine ap 27 ?_;refine aM 29 λK hK=>?_;rename World=>wN;go_simp;refine zF hK (λ_=>?_) ⟨cM (a7 M wN) ai _ _⟩;clear hK K;refine ap 30 ?_;refine aZ ?_
   go_wp2_with fail
   go_meet
   case rel=>
    refine⟨_,A',_,B',_,rfl,rfl,ai,⟨(Bx.al (w:=wN)).cY _ _⟩,?_,?_,lA,lX,fA.less ai,fX.less ai,⟨cM (a7 M wN) ai _ _⟩⟩
    .first|exact sA.cU fA Bx.al.lt _ _|exact sA.jn (an _) _ _
    .first|exact sX.cU fX Bx.al.lt _ _|exact sX.jn (an _) _ _
 case rest=>
  obtain⟨G,A4,c4,B4,d4,rfl,rfl,hvG,kG,sA,sX,lA,lX,fA,fX,pv⟩:=hcut;obtain⟨W1,rfl⟩:=lg wc;have F:=(bf zs xs).1 sq.o;have vh:Hx (aA zs=true):=ae F.1;obtain⟨wd,O⟩:=lh xs.length;have HWD:=ae O;have vt:Hx (bt zs=(wd:Int)):=ae (by rw[bt,ah F.1,<-F.2,O]);obtain⟨n9,g1,g2,g3⟩:=cV F.1;have SM:1<=wd:=by rw[<-O];have:=F.2;omega
  have SN:wd<=65536:=by rw[<-O];have:=F.2;omega
  have SO:v.lv+wd<=v.cap:=by rw[<-O];exact hl
  have Xd:Hx (MS W1 p g r m v tb):=ae h.o.at;have RX:Hx (m.cs[12]?=some (.slice J.SA J.ns J.sc)):=ae (hc.o.cS false);have HJ:Hx ((aW ss)[k+1]?=some zs):=ae (by rw[N2.o];exact hSL.o);have GU:Hx (¬m.U g r G/\G<W1.heap.size):=ae ⟨λhx=>by have:=DZ.o G hx;have:=ai (w:=w) (w':=M);omega,kG.al.lt⟩;clear F g1 g2 g3 O
  go_upto_region 10 with(go_at_call 150;refine(On (p:=p) (j:=k+1) om SH Xd ce hT RX HJ vh vt SM SN SO qo sr hlen).mono ?_;rintro e u2 ⟨rfl,m2,v2,vD,GK,SP,mZ,SQ,y⟩;have q8:aj u2 p:=y.o.prev Xd.o;have sA2:Sl u2 A4 zs zs:=y.o.slk (K:=M.heap.size) (λb R=>bu (DZ.o b R) ai) sA fA;have sX2:Sl u2 B4 xs xs:=y.o.slk (K:=M.heap.size) (λb R=>bu (DZ.o b R) ai) sX fX;have U6:Bx u2 G 28 #[.slice A4 zs c4,.slice B4 xs d4]:=⟨y.o.kf.al kG.al GU.o.1⟩)
  have ky:Hx (et T false ((k+1:Nat):Int) (some (List.replicate wd 0)) false ((k:Int)+1)=some (List.replicate wd 0)):=ae (by rw[show(k:Int)+1=((k+1:Nat):Int)from om];exact gM);have oU:Hx (xs.length=(List.replicate wd (0:Int)).length):=ae (by rw[HWD.o,fg]);have DQ:Hx (¬m2.U g r G):=ae λhx=>(y.o.kf.new G hx).elim GU.o.1 λh9=>absurd GU.o.2 (gw.2 h9);refine aR p (λw9=>Bx w9 G 28 #[.slice A4 zs c4,.slice B4 xs d4]) aq ao (λuz _=>?_);refine bw 0 ?_;refine bw 1 ?_;refine bw 2 ?_;refine bw 3 ?_;refine bw 4 ?_;refine aM 5 λK hK=>?_;go_simp;refine(SF (p:=p) (ae ((GK).o.at (w':=uz))) SP ky oU).mono ?_;rintro e9 u9 ⟨rfl,m3,v3,SR,GL,C3,V⟩;dsimp only;have p9:aj u9 p:=V.o.prev ((GK).o.at (w':=uz));have SS:Bx u9 G _ _:=⟨V.o.kf.al (Bx.al (w:=uz)) DQ.o⟩;refine aL hK ?_ ⟨p9,SS⟩;clear hK K;refine bw 6 ?_;refine aZ ?_
  go_wp2_with fail
  go_ret;have Xe:=GL.o;rw[show(k:Int)+1=((k+1:Nat):Int)from om,BE]at Xe;obtain⟨f1,f2,f3,f4,f5⟩:=C3.o;have q1:=mZ.o;refine⟨rfl,m3,v3,vD,SR,ae Xe,ae ⟨?_,?_,?_,?_,?_⟩,ae (((dB.later g r m).trans y.o).trans ((dB.later g r m2).trans V.o))⟩
  .rw[f1,q1.lv,HWD.o]
  .rw[f2,q1.pe,HWD.o]
  .rw[f3,q1.cap]
  .rw[f4,q1.nx]
  .rw[f5];exact SQ.o
end
end
variable{y:Int}
section
variable{w:World}{B k n o nx:Nat}{m:jl}{v:cB}{T:Bool->Int->Option (List Int)}{s:Bool}{D:Option Addr}{lo:Int}{N:aU}{P:List TV}{x:TV}{nd:dV}{cs:Array Value}
def MS.y6(h:MS w B g r m v tb)(hi:i≠9/\i≠10/\i≠11/\i≠13/\i≠14/\i≠15)(y:Value):MS (w.setCell (g,i) y) B g r {m with cs:=m.cs.setIfInBounds i y} v tb:=by
 have l:∀b,b≠g->(w.setCell (g,i) y).heap[b]?=w.heap[b]?:=λb hb=>bm w ⟨g,i,none⟩ y b hb;refine⟨h.ar.keep λb hb=>l b λe=>h.gA (e▸hb),λs=>?_,λs=>?_,h.gB,h.gA,h.FA,h.FF⟩
 .obtain⟨A,n,c,E,F,G,I⟩:=(h.t s).tb;refine⟨(h.t s).al.ax i y,⟨A,n,c,E,?_,?_,I.keep λb hb=>l b λe=>(h.t s).ng (e▸hb)⟩,(h.t s).oK,(h.t s).len⟩
  .rw[ev (by cases s<;>simp[oS]<;>omega)];exact F
  .rw[ev (by cases s<;>simp[oS]<;>omega)];exact G
 .show(m.cs.setIfInBounds i y)[oS s+2]?=_
  rw[ev (by cases s<;>simp[oS]<;>omega)];exact h.ca s
def kfM(w:ay)(g r i:Nat)(m:jl)(y:Value):Kf (m.U g r) (m.U g r) w (w.setCell (g,i) y):=(Kf.refl _ w).ax (q:=⟨g,i,none⟩) (.inl rfl) y
def me.y6(h:me J r cs)(hi:17<=i)(y:Value):me J r (cs.setIfInBounds i y):=
 ⟨by rw[ev om];exact h.c0,by rw[ev om];exact h.c1,by rw[ev om];exact h.c2,
  by rw[ev om];exact h.c3,by rw[ev om];exact h.c4,by rw[ev om];exact h.c7,
  by rw[ev om];exact h.c8,λs=>by rw[ev (by cases s<;>simp[oS]<;>omega)];exact h.cS s⟩
def SU[aF p w](hb:Hx (vz p J N L P x))(h:Hx (MS w p.1.size g r m v tb))(hc:Hx (me J r m.cs))(ce:Hx (cr v tb T))(hT:Hx (T false (J.l:Int)=some xs))(hL:Hx (L[J.l]?=some zs))(I:Hx (aJ zs xs=true))(V:Hx (m.cs[17]?=some (.int .i64 lo)))(hy:Hx (xs[0]?=some y)):
  () 99 #[.pointer g] w (λe w'=>e=.returned au/\Hx (MS w' p.1.size g r {m with cs:=m.cs.setIfInBounds 17 y} v tb)/\Hx (Kf (m.U g r) (m.U g r) w w')):=by
 have CC:=@ct;have CB:=@aa;have FB:=@aP;have c7:Cl w g 7 (J.l:Int):=h.o.cl hc.o.c7;have c17:Cl w g 17 lo:=h.o.cl V;obtain⟨ss,sh,M⟩:=hb.o.sh;have SH:=ae sh;have HJ:Hx ((aW ss)[J.l]?=some zs):=ae (by rw[M];exact hL);have b:Hx (m.cs[12]?=some (.slice J.SA J.ns J.sc)):=hc.o.cS false;clear sh M
 go_in
 go_upto_region 1 with fail
 go_cut [3,4] (λq e Q=>∃G A' c' E d',q=.pointer (some ⟨G,0,none⟩)/\e=.int .i64 0/\w.1.size<=G/\Bx Q G 28 #[.slice A' zs c',.slice E xs d']/\Sl Q A' zs zs/\Sl Q E xs xs/\Le zs.length c'/\Le xs.length d'/\bV w.1.size A'/\bV w.1.size E/\aj Q w)
 case first=>
  refine aH w aq (λF _=>?_);refine qL [0,1,2,3,4,5,6] ?_;refine o7 7 11 (λK hK=>?_) (λK hK=>?_)
  focus
   go_simp
   (with_reducible refine(pL (p:=p) SH (ae (h.o.at (w':=F))) ce hT b HJ I).mono ?_)
   rintro e F ⟨A',c',E,d',rfl,R,O,X,Y,fA,S,_⟩;dsimp only;refine aL hK ?_;refine qL [8,9,10] ?_;refine aM 11 λK hK=>?_;go_simp;refine aL hK ?_;refine bh (λF _ _=>?_)
  rotate_left
  focus
   go_simp;refine aL hK ?_;refine bh (λF _ _=>?_);refine aM 7 λK hK=>?_;go_simp
   (with_reducible refine(pL (p:=p) SH (ae (h.o.at (w':=F))) ce hT b HJ I).mono ?_)
   rintro e F ⟨A',c',E,d',rfl,R,O,X,Y,fA,S,_⟩;dsimp only;refine aL hK ?_;refine qL [8,9,10] ?_
  all_goals
   refine aM 12 λK hK=>?_;rename World=>wN;go_simp;refine zF hK (λ_=>?_) ⟨cM (a7 w wN) ai _ _⟩;refine ap 13 ?_;refine aZ ?_
   go_wp2_with fail
   go_meet
   ·
    refine⟨_,A',_,E,_,rfl,rfl,ai,⟨(Bx.al (w:=wN)).cY _ _⟩,?_,?_,X,Y,fA.less ai,S.less ai,⟨cM (a7 w wN) ai _ _⟩⟩
    .first|exact R.cU fA Bx.al.lt _ _|exact R.jn (an _) _ _
    .first|exact O.cU S Bx.al.lt _ _|exact O.jn (an _) _ _
 ·
  obtain⟨G,A4,c4,B4,d4,rfl,rfl,hvG,kG,R,O,X,Y,fA,S,pv⟩:=hcut;have Z:0<xs.length:=by have:=(a5.1 hy).1;exact this
  obtain⟨b4,o4,z4,rfl,Z8,cz,hz⟩:=O.get Z;rw[gE]at cz;obtain rfl:y=z4:=cn (hy.o.symm.trans hz.o);have X4:∀k,wc.frozen? ⟨g,k,none⟩=false:=λk=>((h.o.at (w':=wc)).t false).al.frozen k;have acD:Cl wc g 17 lo:=ao
  go_wp2_with fail
  go_ret;exact⟨rfl,ae ((h.o.at (w':=wc)).y6 ak _),ae ((Kf.later _ (w:=w)).trans (kfM wc g r 17 m _))⟩
def BF{A:cD}{n c k:Nat}[a:Sl w A n zs](l:n<=1000000)(hr:Hx (aA zs=true))(hp:Hx (aN zs=(k:Int))){X:av}(E:Hx (List.replicate k y=X)):() 62 #[(A,n,c),y] w (he w zs X 0):=by
 obtain⟨a,rfl⟩:=a;have b:=E.o;subst b;exact(up A c zs y k w l a hr hp).mono λ_ _ ⟨g,M,F,G,I,o1,K,hb⟩=>⟨_,_,_,_,F,⟨o1.rd,rfl⟩,⟨K.rd,rfl⟩,⟨an _⟩,⟨an _⟩,jC G,jC I,⟨hb⟩⟩
def SV[aF p w](hb:Hx (vz p J N L P x))(h:Hx (MS w p.1.size g r m v tb))(hc:Hx (me J r m.cs))(ce:Hx (cr v tb T))(hT:Hx (T true (J.l:Int)=none))(hL:Hx (L[J.l]?=some zs))(hX:Hx ((oM zs).2=xs))(sq:Hx (aJ zs xs=true))(hl:v.lv+xs.length<=v.cap)(qo:v.nx<=1000000000000)(sr:v.mv<=1000000000000)(hlen:(tb true).length<=200):
  () 100 #[.pointer g] w (GI p w g r m v T true (J.l:Int) xs):=by
 have CC:=@ct;obtain⟨CB,CP,FB⟩:=ha;have c7:Cl w g 7 (J.l:Int):=h.o.cl hc.o.c7;obtain⟨ss,sh,yR⟩:=hb.o.sh;have SH:=ae sh;have HJ:Hx ((aW ss)[J.l]?=some zs):=ae (by rw[yR];exact hL);have S:Hx (m.cs[16]?=some (.slice J.SA J.ns J.sc)):=hc.o.cS true;have c16:Cl w g 16 (.slice J.SA J.ns J.sc):=h.o.cl S;have sw:du w J.SA J.ns ss:=du.at sh;have hjn:J.l<J.ns:=by rw[sw.len,<-cj];exact(a5.1 HJ).1
 have y:=(bf zs xs).1 sq;have R:Hx (aA zs=true):=y.1;obtain⟨wd,E⟩:=lh xs.length;have Z:=ae E;have vt:Hx (bt zs=(wd:Int)):=ae (by rw[bt,ah y.1,<-y.2,E]);obtain⟨n9,g1,g2,g3⟩:=cV y.1;have SM:1<=wd:=by rw[<-E];have:=y.2;omega
 have SN:wd<=65536:=by rw[<-E];have:=y.2;omega
 have SO:v.lv+wd<=v.cap:=by rw[<-E];exact hl
 have HPZ:Hx (aN zs=(wd:Int)):=ae (by rw[<-E,y.2]);have Ai:Hx (List.replicate wd (4294967296:Int)=xs):=ae (by rw[<-hX.o,oM];dsimp only;rw[HPZ.o];rfl);have DZ:Hx (∀b,m.U g r b->b<w.1.size):=λb hb9=>(h.o.lt b hb9).2;generalize J.SA=SA at*;obtain⟨b0,q0,A1,m1,c1,F,rfl,ob,v0,s1,l1,e1⟩:=sw.get hjn;obtain rfl:F=zs:=cn (e1.o.symm.trans HJ);have pm:m1<=1000000:=by have:=cw R;rw[s1.len];omega
 have i1:(J.l:Int)<(J.ns:Int):=om;clear sh yR y g1 g2 g3 E
 go_in
 go_upto_region 1 with fail
 go_cut [3,4] (λq e wx=>∃G A' c' B' d',q=.pointer (some ⟨G,0,none⟩)/\e=.int .i64 0/\w.1.size<=G/\Bx wx G 28 #[.slice A' F c',.slice B' xs d']/\Sl wx A' F F/\Sl wx B' xs xs/\Le F.length c'/\Le xs.length d'/\bV w.1.size A'/\bV w.1.size B'/\aj wx w)
 case first=>
  refine aH w aq (λux _=>?_);refine qL [0,1,2,3,4,5,6,7,8,9,10] ?_;refine o7 11 15 (λK hK=>?_) (λK hK=>?_)
  focus
   go_simp
   (with_reducible refine(BF pm R HPZ Ai).mono ?_)
   rintro e ux ⟨A',c',B',d',rfl,sA,sX,lA,lX,fA,fX,_⟩;dsimp only;refine aL hK ?_;refine qL [12,13,14] ?_;refine aM 15 λK hK=>?_;go_simp;refine aL hK ?_;refine bh (λux _ _=>?_)
  rotate_left
  focus
   go_simp;refine aL hK ?_;refine bh (λux _ _=>?_);refine aM 11 λK hK=>?_;go_simp
   (with_reducible refine(BF pm R HPZ Ai).mono ?_)
   rintro e ux ⟨A',c',B',d',rfl,sA,sX,lA,lX,fA,fX,_⟩;dsimp only;refine aL hK ?_;refine qL [12,13,14] ?_
  all_goals
   refine aM 16 λK hK=>?_;rename World=>wN;go_simp;refine zF hK (λ_=>?_) ⟨cM (a7 w wN) ai _ _⟩;refine ap 17 ?_;refine aZ ?_
   go_wp2_with fail
   go_meet
   ·
    refine⟨_,A',_,B',_,rfl,rfl,ai,⟨(Bx.al (w:=wN)).cY _ _⟩,?_,?_,lA,lX,fA.less ai,fX.less ai,⟨cM (a7 w wN) ai _ _⟩⟩
    .first|exact sA.cU fA Bx.al.lt _ _|exact sA.jn (an _) _ _
    .first|exact sX.cU fX Bx.al.lt _ _|exact sX.jn (an _) _ _
 ·
  obtain⟨G,A4,c4,B4,d4,rfl,rfl,hvG,kG,sA,sX,lA,lX,fA,fX,pv⟩:=hcut;obtain⟨W1,rfl⟩:=lg wc;have V:Hx (MS W1 p.1.size g r m v tb):=h.o.at;have GU:Hx (¬m.U g r G/\G<W1.1.size):=ae ⟨λhx=>by have:=DZ.o G hx;omega,kG.al.lt⟩
  go_upto_region 4 with fail
  refine aR p (λw9=>Cl w9 g 7 (J.l:Int)) aq ao (λuy _=>?_);refine bw 0 ?_;refine bw 1 ?_;refine bw 2 ?_;refine bw 3 ?_;refine bw 4 ?_;refine bw 5 ?_;refine bw 6 ?_;refine aM 7 λK hK=>?_;go_simp;refine(BD (p:=p) (j:=J.l) rfl SH (ae (V.o.at (w':=uy))) ce hT S HJ R vt SM SN SO qo sr hlen).mono ?_;rintro e9 u2 ⟨rfl,m2,v2,vD,M,SP,mZ,SQ,O⟩;dsimp only;have q8:aj u2 p:=O.o.prev (V.o.at (w':=uy));have c72:Cl u2 g 7 (J.l:Int):=M.o.cl (hc.o.same O.o.sm).c7;have Q:Hx (dB W1 u2 g r m m2):=ae ((dB.later g r m (w:=W1)).trans O);refine aL hK ?_ ⟨q8,c72⟩;refine bw 8 ?_;refine aZ ?_
  skip
  have sX2:Sl u2 B4 xs xs:=Q.o.slk DZ sX fX;have U6:Bx u2 G 28 #[.slice A4 F c4,.slice B4 xs d4]:=⟨Q.o.kf.al kG.al GU.o.1⟩;have ky:Hx (et T true (J.l:Int) (some (List.replicate wd 0)) true (J.l:Int)=some (List.replicate wd 0)):=gM;have oU:Hx (xs.length=(List.replicate wd (0:Int)).length):=ae (by rw[Z.o,fg]);have DQ:Hx (¬m2.U g r G):=λhx=>(Q.o.kf.new G hx).elim GU.o.1 λh9=>absurd GU.o.2 (gw.2 h9)
  go_upto_region 7 with fail
  refine aR p (λw9=>Cl w9 g 7 (J.l:Int)/\Bx w9 G 28 #[.slice A4 F c4,.slice B4 xs d4]) aq ⟨ao,ao⟩ (λuz _=>?_);refine bp 0 ?_;refine bp 1 ?_;refine bp 2 ?_;refine bp 3 ?_;refine bp 4 ?_;refine bp 5 ?_;refine bp 6 ?_;refine bp 7 ?_;refine aM 8 λK hK=>?_;go_simp;refine(y5 (p:=p) (ae (M.o.at (w':=uz))) SP ky oU).mono ?_;rintro e9 u9 ⟨rfl,m3,v3,X,GL,C3,I⟩;dsimp only;have p9:aj u9 p:=I.o.prev (M.o.at (w':=uz));have SS:Bx u9 G _ _:=⟨I.o.kf.al (Bx.al (w:=uz)) DQ⟩;have c79:Cl u9 g 7 (J.l:Int):=X.o.cl ((hc.o.same Q.o.sm).same I.o.sm).c7;refine aL hK ?_ ⟨p9,c79,SS⟩;refine bp 9 ?_;refine aZ ?_
  go_wp2_with fail
  go_ret;have Y:=GL.o;rw[BE]at Y;obtain⟨f1,f2,f3,f4,f5⟩:=C3.o;have q1:=mZ.o;refine⟨rfl,m3,v3,vD,X,ae Y,ae ⟨?_,?_,?_,?_,?_⟩,ae (((dB.later g r m).trans Q).trans ((dB.later g r m2).trans I))⟩
  .rw[f1,q1.lv,Z.o]
  .rw[f2,q1.pe,Z.o]
  .rw[f3,q1.cap]
  .rw[f4,q1.nx]
  .rw[f5];exact SQ
end
variable{R:Nat}{XA XB:Option Addr}
section
variable{w:World}{B k n o nx dx':Nat}{m:jl}{v:cB}{T:Bool->Int->Option (List Int)}{s:Bool}{D:Option Addr}{lo:Int}{N:aU}{P:List TV}{x:TV}{nd:dV}{cs:Array Value}{b:Bool}
def Oo[aF p w](h:Hx (MS w p.1.size g r m v tb))(S:Hx (m.cs[19]?=some (.slice XA x.1.length R)))(X:Hx (m.cs[20]?=some (.slice XB x.2.length dx')))[Sl w XA x.1.length x.1][Sl w XB x.2.length x.2][dp x.2][Sl w A n zs][Sl w C k xs][dp xs]
  (Y:x.2.length<=1000000) (hn:n<=1000000) (Z:k<=1000000) (I:Hx (x.2=[]\/ep x.1 x.2 zs xs=true)) {V:TV} (hV:Hx (hJ (x.1,x.2) (zs,xs)=V)):
  () 157 #[.pointer g,au,.agg #[(A,n,c),.slice C k d],.bool b] w (λe w'=>e=.returned au/\∃A' c' y d',Hx (MS w' p.1.size g r {m with cs:=(m.cs.setIfInBounds 19 (.slice A' V.1.length c')).setIfInBounds 20 (.slice y V.2.length d')} v tb)/\Sl w' A' V.1.length V.1/\Sl w' y V.2.length V.2/\bV w.1.size A'/\bV w.1.size y/\V.2.length<=d'/\Hx (Kf (m.U g r) (m.U g r) w w')):=by
 have CC:=@ct;have CB:=@aa;have c19:Cl w g 19 (.slice XA x.1.length R):=h.o.cl S;have c20:Cl w g 20 (.slice XB x.2.length dx'):=h.o.cl X
 go_in
 go_upto_region 1 with fail
 refine aw (λu0 CX k0=>?_)
 go_upto_region 2 with fail
 refine aR p (λw9=>Bx w9 w.1.size 28 #[(A,n,c),.slice C k d]) aq ao (λux _=>?_);refine bw 0 ?_;refine bw 1 ?_;refine bw 2 ?_;refine bw 3 ?_;refine bw 4 ?_;refine bw 6 ?_;refine aM 5 λK hK=>?_;go_simp;refine aL hK ?_ ⟨ab p ux,ao⟩;refine aM 7 λK hK=>?_;go_simp;have sx6:Sl ux XA x.1.length x.1:=ao;have sy6:Sl ux XB x.2.length x.2:=ao;refine(Lg Y hn Z I hV).mono ?_;rintro e9 E ⟨A',c',y,d',rfl,sA,sX,lA,lX,fA,fX,_⟩;dsimp only;refine aL hK ?_ ⟨ab p _,ao⟩;refine bw 8 ?_;refine bw 9 ?_;refine bw 10 ?_;refine aM 11 λK hK=>?_;have M:=h.o.at (w':=E);have hf9:∀k,E.frozen? ⟨g,k,none⟩=false:=λk=>(M.t false).al.frozen k;have F:p<=g:=h.o.gB;have G:w≠g:=by have:=h.o.old.lt;omega
 have kb9:Bx E w.1.size 28 #[(A,n,c),.slice C k d]:=ao;have O:aj ((E.setCell (g,19) (.slice A' V.1.length c')).setCell (g,20) (.slice y V.2.length d')) p:=⟨((a7 p E).setCell (p:=⟨g,19,none⟩) F _).setCell (p:=⟨g,20,none⟩) F _⟩;have Q:Bx ((E.setCell (g,19) (.slice A' V.1.length c')).setCell (g,20) (.slice y V.2.length d')) w.1.size 28 #[(A,n,c),.slice C k d]:=⟨(kb9.al.a9 (p:=⟨g,19,none⟩) G _).a9 (p:=⟨g,20,none⟩) G _⟩;go_simp;refine aL hK ?_ ⟨O,Q⟩;refine aZ ?_
 go_wp2_with fail
 go_ret;have M:=h.o.at (w':=E);have pm:=(M.y6 (i:=19) ak (.slice A' V.1.length c')).y6 (i:=20) ak (.slice y V.2.length d');have l:g<w:=h.o.old.lt;refine⟨rfl,A',c',y,d',ae pm,?_,?_,fA.less ai,fX.less ai,lX.le,ae ?_⟩
 .exact(sA.setCell (p:=⟨g,19,none⟩) (fA.less (b':=w.1.size) ai) l _).setCell (p:=⟨g,20,none⟩) (fA.less (b':=w.1.size) ai) l _
 .exact(sX.setCell (p:=⟨g,19,none⟩) (fX.less (b':=w.1.size) ai) l _).setCell (p:=⟨g,20,none⟩) (fX.less (b':=w.1.size) ai) l _
 .exact(((Kf.later _ (w:=w)).trans (kfM E g r 19 m _)).trans (kfM _ g r 20 m _))
def GM(p w:ay)(g r:Nat)(m:jl)(v:cB)(tb:Bool->Tb)(T:Bool->Int->Option (List Int))(id:Int)(xs:av)(e:Ending)(w':ay):Prop:=
 e=.returned au/\∃m' v',Hx (MS w' p.1.size g r m' v' tb)/\Hx (cr v' tb (et T true id (some xs)))/\Hx (v'.lv=v.lv/\v'.pe=v.pe/\v'.cap=v.cap/\v'.nx=v.nx/\v'.mv=v.mv)/\Hx (dB w w' g r m m')
def Oq[aF p w](h:Hx (MS w p.1.size g r m v tb))(ce:Hx (cr v tb T))(hi:id≠0)(Y:Hx (T true id=some ys))[Sl w C k xs](I:Hx (xs.length=ys.length)):
  () 157 #[.pointer g,id,.agg #[(A,n,c),(C,k,d)],.bool true] w (GM p w g r m v tb T id xs):=by
 have CB:=@aa;have Z:(id==0)=false:=by simp[hi]
 clear hi
 go_in
 go_upto_region 1 with fail
 refine aw (λu0 CX k0=>?_);obtain⟨G,V⟩:=lg w.1.size;have M:Hx (¬m.U g r G):=ae λhx=>by have:=(h.o.lt G hx).2;omega
 have y:Hx (MS u0 p.1.size g r m v tb):=h.o.at;rw[<-V]at k0⊢;clear V
 go_upto_region 5 with fail
 refine aR p (λw9=>Bx w9 G 28 #[(A,n,c),(C,k,d)]) aq ao (λO _=>?_);refine bw 0 ?_;refine bw 1 ?_;refine bw 2 ?_;refine bw 3 ?_;refine bw 4 ?_;refine aM 5 λK hK=>?_;go_simp;refine(y5 (p:=p) (ae ((y).o.at (w':=O))) ce Y I).mono ?_;rintro e9 X ⟨rfl,m3,v3,E,F,Q,l⟩;dsimp only;have p9:aj X p:=l.o.prev ((y).o.at (w':=O));have S:Bx X G _ _:=⟨l.o.kf.al (Bx.al (w:=O)) M⟩;refine aL hK ?_ ⟨p9,S⟩;refine bw 6 ?_;refine aZ ?_
 go_wp2_with fail
 go_ret;exact⟨rfl,m3,v3,E,F,Q,ae ((dB.later g r m).trans l)⟩
def Ot[aF p w](hb:Hx (vz p J N L P x))(hc:Hx (me J r m.cs))(h:Hx (MS w p.1.size g r m v tb))(ce:Hx (cr v tb T))(hi:0<j)(hT:Hx (T true (j:Int)=some ys))(hL:Hx (L[j]?=some zs))(E:Hx (aJ zs ys=true))[dp ys][Sl w A n zs][Sl w C k xs][dp xs]
  (hn:n<=1000000) (Mv:k<=1000000) (y:Hx (ys=[]\/ep zs ys zs xs=true)) {V:TV} (hV:Hx (hJ (zs,ys) (zs,xs)=V)) (oU:Hx (V.2.length=ys.length)):
  () 157 #[.pointer g,j,.agg #[(A,n,c),(C,k,d)],.bool false] w (GM p w g r m v tb T (j:Int) V.2):=by
 have CB:=@aa;have FB:=@aP;have L0:((j:Int)==0)=false:=by simp;omega
 obtain⟨ss,sh,F⟩:=hb.o.sh;have SH:=ae sh;have HJ:Hx ((aW ss)[j]?=some zs):=ae (by rw[F];exact hL);have I:Hx (m.cs[16]?=some (.slice J.SA J.ns J.sc)):=hc.o.cS true;have hy6:ys.length<=1000000:=by
  have h1:=(bf zs ys).1 E;obtain⟨n9,g1,g2,g3⟩:=cV h1.1;omega
 clear sh F hi
 go_in
 go_upto_region 1 with fail
 refine aw (λu0 CX k0=>?_);obtain⟨G,hG⟩:=lg w.1.size;have DQ:Hx (¬m.U g r G):=ae λhx=>by have:=(h.o.lt G hx).2;omega
 rw[<-hG]at k0⊢;clear hG
 go_upto_region 7 with(go_at_call 154;refine(uQ (p:=p) SH (ae h.o.at) ce hT I HJ E).mono ?_;rintro e u ⟨A4,c4,B4,d4,rfl,sA,sX,lA,lX,fA,fX,pu⟩)
 refine aw (λu1 su k1=>?_);obtain⟨Y,M⟩:=lg u.1.size;have O:Hx (¬m.U g r Y):=ae λhx=>by have:=(h.o.lt Y hx).2;have:=ai (w:=w) (w':=u);omega
 rw[<-M]at k1⊢;clear M
 go_upto_region 9 with fail
 refine aR p (λw9=>Bx w9 G 28 #[(A,n,c),(C,k,d)]/\Bx w9 Y 28 #[.slice A4 zs c4,.slice B4 ys d4]) aq ⟨ao,ao⟩ (λQ _=>?_);refine bp 0 ?_;refine bp 1 ?_;refine bp 2 ?_;refine bp 3 ?_;refine bp 4 ?_;refine bp 5 ?_;refine aM 6 λK hK=>?_;go_simp
 (with_reducible refine(Lg hy6 hn Mv y hV).mono ?_)
 rintro e Q ⟨A5,c5,B5,d5,rfl,sA5,sX5,lA5,lX5,fA5,fX5,_⟩;dsimp only;refine aL hK ?_ ⟨ab p _,⟨ao,ao⟩⟩;refine aM 7 λK hK=>?_;go_simp;refine(y5 (p:=p) (ae (h.o.at (w':=Q))) ce hT oU).mono ?_;rintro e9 Z ⟨rfl,m3,v3,S,X,C3,l⟩;dsimp only;have p9:aj Z p:=l.o.prev (h.o.at (w':=Q));have SS:Bx Z G _ _:=⟨l.o.kf.al (Bx.al (w:=Q)) DQ⟩;have kH9:Bx Z Y _ _:=⟨l.o.kf.al (Bx.al (w:=Q)) O⟩;have HTW:Hx (dB w Z g r m m3):=ae ((dB.later g r m (w:=w)).trans l);refine aL hK ?_ ⟨p9,SS,kH9⟩;refine bp 8 ?_;refine aZ ?_
 go_wp2_with fail
 go_ret;exact⟨rfl,m3,v3,S,X,C3,HTW⟩
end
variable{GB q:Nat}{e':qw}{iw:Bool->Tb}
structure qK(w:World)(q g r GB:Nat)(m:jl)(t:Tn):Prop where
 te:TE w t
 oa:∀b,AF t.A b->b<w.1.size/\¬m.U g r b/\b≠GB/\q<=b
 ob:∀b,AF t.B b->b<w.1.size/\¬m.U g r b/\b≠GB/\q<=b
structure gu(p w:World)(J:Jk)(g r GB:Nat)(m:jl)(e:qw)(gs:List Tn)(X:Tn):Prop where
 ms:MS w p.1.size g r m e.A e.tb
 cs:me J r m.cs
 lo:m.cs[17]?=some (.int .i64 e.lo)
 gr:m.cs[18]?=some (.slice GB J.np J.np)
 row:aI w p.1.size 28 2 (some ⟨GB,0,none⟩) J.np J.np (tc gs)
 gl:gs.length=J.np
 gv:gs.map Tn.tv=e.G
 x0:m.cs[19]?=some (.slice X.A X.zs.length X.c)
 x1:m.cs[20]?=some (.slice X.B X.xs.length X.d)
 xv:X.tv=e.X
 mI:qK w p.1.size g r GB m X
 oP:∀t∈gs,qK w p.1.size g r GB m t
 GU:¬m.U g r GB
section
variable{w:World}{B k n:Nat}{m:jl}{e:qw}{v:cB}{T:Bool->Int->Option (List Int)}{gs:List Tn}{X:Tn}
def qK.step(h:qK w q g r GB m t)(l:Kf (m.U g r) (m'.U g r) w w'):qK w' q g r GB m' t:=by
 have key:∀b,(b<w.1.size/\¬m.U g r b/\b≠GB/\q<=b)->(b<w'.1.size/\¬m'.U g r b/\b≠GB/\q<=b):=λb ⟨y,z,D⟩=>⟨bu y l.size,λE=>(l.new b E).elim z λF=>absurd y (gw.2 F),D⟩;exact⟨⟨l.rd h.te.1 λb hb=>(h.oa b hb).2.1,l.rd h.te.2.1 λb hb=>(h.ob b hb).2.1,h.te.2.2⟩,λb hb=>key b (h.oa b hb),λb hb=>key b (h.ob b hb)⟩
def gu.step(h:gu p w J g r GB m e gs X)(hm:MS w' p.1.size g r m' v tb)(ht:dB w w' g r m m'):gu p w' J g r GB m' {e with A:=v,tb:=tb,T:=T} gs X:=by
 have hs:=ht.sm;refine⟨hm,h.cs.same hs,(hs 17 ak ak ak ak).trans h.lo,(hs 18 ak ak ak ak).trans h.gr,?_,h.gl,h.gv,
  (hs 19 ak ak ak ak).trans h.x0,(hs 20 ak ak ak ak).trans h.x1,h.xv,h.mI.step ht.kf,λt l=>(h.oP t l).step ht.kf,λy=>?_⟩
 .exact ht.kf.row h.row λb hb=>by rw[<-d4.1 hb];exact h.GU
 .rcases ht.kf.new GB y with h9|h9
  .exact h.GU h9
  .have:=(h.row.af (d4.2 rfl)).2.1;omega
def gu.at(h:gu p w J g r GB m e gs X)[aF w w']:gu p w' J g r GB m e gs X:=
 h.step (T:=e.T) h.ms.at (dB.later g r m)
def gu.D2(h:gu p w J g r GB m e gs X):p<=GB/\GB<w/\p<=g/\g<w:=⟨(h.row.af (d4.2 rfl)).1,(h.row.af (d4.2 rfl)).2.1,h.ms.gB,h.ms.old.lt⟩
def gu.emit(h:gu p w J g r GB m e gs X)(hm:MS w' p.1.size g r {m with cs:=m.cs.setIfInBounds 17 y} e.A e.tb)(l:Kf (m.U g r) (m.U g r) w w'):gu p w' J g r GB {m with cs:=m.cs.setIfInBounds 17 y} {e with lo:=y} gs X:=by
 have z:=(eX.1 h.lo).1;refine⟨hm,h.cs.y6 ak _,?_,?_,?_,h.gl,h.gv,?_,?_,h.xv,h.mI.step l,λt D=>(h.oP t D).step l,h.GU⟩
 .exact rJ z
 .exact(ev ak).trans h.gr
 .exact l.row h.row λb hb=>by rw[<-d4.1 hb];exact h.GU
 .exact(ev ak).trans h.x0
 .exact(ev ak).trans h.x1
def gu.dd(h:gu p w J g r GB m e gs X){X':Tn}(hm:MS w' p.1.size g r {m with cs:=(m.cs.setIfInBounds 19 (.slice X'.A X'.zs.length X'.c)).setIfInBounds 20 (.slice X'.B X'.xs.length X'.d)} e.A e.tb)(F:Kf (m.U g r) (m.U g r) w w')(y:TE w' X')
  (G:∀b,AF X'.A b->b<w'.1.size) (hb:∀b,AF X'.B b->b<w'.1.size) (I:bV w.1.size X'.A) (K:bV w.1.size X'.B):
  gu p w' J g r GB {m with cs:=(m.cs.setIfInBounds 19 (.slice X'.A X'.zs.length X'.c)).setIfInBounds 20 (.slice X'.B X'.xs.length X'.d)} {e with X:=X'.tv} gs X':=by
 have z:=(eX.1 h.x0).1;have D:=(eX.1 h.x1).1;have L:=h.D2.2.1;have key:∀{C:cD},bV w.1.size C->(∀b,AF C b->b<w'.1.size)->∀b,AF C b->b<w'.1.size/\¬m.U g r b/\b≠GB/\p.1.size<=b:=λ{C} M N b l=>by
  have O:=N b l;obtain⟨P,Q,rfl⟩:=l;have R:=M.o P Q;exact⟨O,λl=>by have:=(h.ms.lt _ l).2;omega,om,by have:=h.D2.1;omega⟩
 refine⟨hm,(h.cs.y6 ak _).y6 ak _,?_,?_,?_,h.gl,h.gv,?_,?_,rfl,⟨y,key I G,key K hb⟩,λt E=>(h.oP t E).step F,h.GU⟩
 .exact((ev ak).trans (ev ak)).trans h.lo
 .exact((ev ak).trans (ev ak)).trans h.gr
 .exact F.row h.row λb hb=>by rw[<-d4.1 hb];exact h.GU
 .rw[ev ak];exact rJ z
 .exact rJ (by simpa using D)
end
variable{l:Nat}{O:List Int}{cap kd:Int}{s:iv}
section
set_option linter.unusedVariables false
section
variable{w:World}{B k n:Nat}{m:jl}{e:qw}{v:cB}{t:Tb}{T:Bool->Int->Option (List Int)}{gs:List Tn}{X:Tn}{N:aU}{P:List TV}{x:TV}{lo:Int}{b:Bool}
def BG:∀{t:Tb} {lo:Int},gK t->(∀y∈t,lo<y.1/\y.1<=n)->(t.length:Int)<=max 0 (n-lo)
 |[],lo,_,_=>by simp;omega
 |y::t,lo,hr,h=>by
  have D:=h y cm;have E:=BG (t:=t) (lo:=y.1) (g6.1 hr).2 λq hq=>⟨(g6.1 hr).1 q hq,(h q (dl _ hq)).2⟩;simp only[dm];omega
def cr.SW(h:cr v tb T)(D:∀id xs,T b id=some xs->1<=id/\id<=(n:Int)):(tb b).length<=n:=by
 have:=BG (n:=n) (lo:=0) (h.so b) λy E=>by
  obtain⟨xs,F,_⟩:=h.hs b y E;have:=D _ _ F;omega
 omega
def fT.ids(h:fT N O L l P x cap s e):∀b id xs,e.T b id=some xs->1<=id/\id<=(N.nodes.length:Int):=λb id xs y=>by
 cases b
 .rw[h.tt]at y
  split at y
  .rename_i D;exact⟨D.1,D.2.1⟩
  .cases y
 .rw[h.gg]at y
  split at y
  .rename_i D;exact⟨D.1,D.2.1⟩
  .cases y
def ua(p:World)(J:Jk)(g r GB:Nat)(N:aU)(O:List Int)(L:List (List Int))(l:Nat)(P:List TV)(x:TV)(cap:Int)(D:iv)(a:cB)(k:Nat)(E:Ending)(w':World):Prop:=
 E=.returned (.int .i64 0)/\∃m' e' y F,Hx (gu p w' J g r GB m' e' y F)/\Hx (fT N O L l P x cap D e')/\Hx (e'.A.nx<=a.nx+k/\e'.A.mv<=a.mv+k)/\aj w' p
def BH[aF p w](hB:Hx (vz p J N L P x))(c:gn N O L l P x)(M:fT N O L l P x cap s e)(hS:gu p w J g r GB m e gs X)(hc:j3 (cX N cap) s kd id=0)(hk:kd=1\/kd=2)(hn:N.nodes.length<=200)(Q:e.A.nx<=1000000000000)(R:e.A.mv<=1000000000000):
  () 97 #[.pointer g,id] w (ua p J g r GB N O L l P x cap (ga (cX N cap) s kd id) e.A 1):=by
 obtain⟨⟨S,U,h3,V,h5⟩,D⟩:=M.comp c hc hk;obtain⟨q1,q2,q3⟩:=c.val S U;obtain⟨v,hv,hE,Y,hi,hm⟩:=c.hN.at (bn.2 ⟨S,U⟩);have E:=ma c.hN c.hF;obtain⟨k,F⟩:=lh ((id-1).toNat);have hid:id=(k:Int)+1:=by omega
 have y:id=((k+1:Nat):Int):=om;have G:id.toNat=k+1:=om;rw[F]at hv;rw[hi]at V;have Z:∀z∈v.ins,RT L e.T (eI N P x) N.nodes.length z:=λz hz=>(V z hz).imp (λh=>h) λ⟨a1,a2,a3⟩=>by
  obtain⟨b1,b2,_⟩:=c.val a1 a2;exact⟨a1,a2,a3,b1,b2⟩
 have EQ:=rr.pick c.hN c.hF E (v:=v) λz hz=>(V z hz).imp (λh=>h) λh=>c.hN.mem.2 (bn.2 ⟨h.1,h.2.1⟩);have I:=E.eq id (c.hN.mem.2 (bn.2 ⟨S,U⟩)) v (by rw[F];exact hv);rw[F]at I;have K:((eI N P x).getD id.toNat T0).2.length=eW L id:=q3;have:=GJ (p:=p) (w:=w) (g:=g) (r:=r) (m:=m) (v:=e.A) (tb:=e.tb) (T:=e.T) (k:=k) (nd:=v) (vals:=eI N P x) (zs:=L.getD id.toNat []) (xs:=((eI N P x).getD id.toNat T0).2) hB (ae hS.ms) (ae hS.cs) (ae M.mb) (ae hv) (ae E.zero) (ae c.hN.len) (ae Z)
  (ae (by have:=cv List.length c.hF.ps;simpa using this)) (ae (c.hF.par hv).1) (ae EQ.1) (ae hE) (ae (c.hF.kk v hm)) (ae Y.symm) (ae (by
   have h9:k+1<L.length:=by rw[c.len];omega
   rw[G,aX,bc h9];rfl)) (ae (by rw[I];rfl)) (ae (by rw[<-q1];exact q2.1)) (ae (by rw[<-y];exact h3)) (by rw[K];omega) Q R (aO (M.mb.SW (M.ids false)) hn)
 rw[<-hid]at this;refine this.mono ?_;rintro e9 w' ⟨rfl,m',v',iw,HM,HB,HV,HT⟩;obtain⟨f1,f2,f3,f4,f5⟩:=HV.o;rw[K]at f1 f2;have ce:=HB.o;rw[<-y]at ce;exact⟨rfl,m',_,gs,X,ae (hS.step HM.o HT.o),ae (D v' iw ce f1 f2 f3),ae ⟨dE f4,f5⟩,HT.o.prev hS.ms⟩
def Ou[aF p w](c:gn N O L l P x)(D:fT N O L l P x cap s e)(hS:gu p w J g r GB m e gs X)(F:j3 (cX N cap) s 3 id=0):
  () 98 #[.pointer (some ⟨g,9,none⟩),id] w (ua p J g r GB N O L l P x cap (ga (cX N cap) s 3 id) e.A 1):=by
 obtain⟨⟨Q,R,G⟩,y⟩:=D.aaa c F;refine(Gi (p:=p) (s:=false) (ae hS.ms) (ae D.mb) (ae G)).mono ?_;rintro S w' ⟨rfl,m',v',iw,I,K,M,E⟩;obtain⟨f1,f2,f3,f4,f5⟩:=M.o;exact⟨rfl,m',_,gs,X,ae (hS.step I.o E.o),ae (y v' iw K.o f1 f2 f3),ae ⟨by show v'.nx<=_;omega,by show v'.mv<=_;omega⟩,E.o.prev hS.ms⟩
def Ov[aF p w](R:Hx (vz p J N L P x))(c:gn N O L l P x)(I:J.l=l)(K:fT N O L l P x cap s e)(hS:gu p w J g r GB m e gs X)(S:j3 (cX N cap) s 4 id=0):
  () 99 #[.pointer g] w (ua p J g r GB N O L l P x cap (ga (cX N cap) s 4 id) e.A 1):=by
 obtain⟨U,D⟩:=K.emit c S;have l1:=c.hN.n9;have l2:=c.hN.mB;obtain⟨M,F,V⟩:=c.val (z:=(l:Int)) om om;rw[bI]at M F V;have E:=F.ne;have G:((eI N P x).getD l T0).2[0]?=some (((eI N P x).getD l T0).2.getD 0 0):=by
  generalize((eI N P x).getD l T0).2=ys at E;cases ys with
  |nil=>exact absurd rfl E
  |cons y t=>rfl
 refine(SU (p:=p) (zs:=L.getD l []) (lo:=e.lo) R (ae hS.ms) (ae hS.cs) (ae K.mb) (ae (by rw[I];exact U)) (ae (by
  have Y:l<L.length:=by rw[c.len];omega
  rw[I,aX,bc Y];rfl)) (ae (by rw[<-M];exact F.1)) (ae hS.lo) (ae G)).mono ?_
 rintro e9 w' ⟨rfl,Z,Q⟩;exact⟨rfl,_,_,gs,X,ae (hS.emit Z.o Q.o),ae D,ae ⟨b9 _,b9 _⟩,Q.o.prev λb hb=>(hS.ms.lt b hb).1⟩
def Ow[aF p w](Q:Hx (vz p J N L P x))(c:gn N O L l P x)(F:J.l=l)(E:fT N O L l P x cap s e)(hS:gu p w J g r GB m e gs X)(R:j3 (cX N cap) s 5 id=0)(S:N.nodes.length<=200)(G:e.A.nx<=1000000000000)(I:e.A.mv<=1000000000000):
  () 100 #[.pointer g] w (ua p J g r GB N O L l P x cap (ga (cX N cap) s 5 id) e.A 1):=by
 obtain⟨⟨U,h2,K⟩,D⟩:=E.abp c R;have l1:=c.hN.n9;have l2:=c.hN.mB;have y:=ye (c.hN.right c.hF (z:=(l:Int)) om om);rw[bI]at y;refine(SV (p:=p) (zs:=L.getD l []) (xs:=(oM (L.getD l [])).2) Q (ae hS.ms) (ae hS.cs) (ae E.mb) (ae (by rw[F];exact U)) (ae (by
  have V:l<L.length:=by rw[c.len];omega
  rw[F,aX,bc V];rfl)) (ae rfl) (ae y.1) (by rw[K];omega) G I (aO (E.mb.SW (E.ids true)) S)).mono ?_
 rintro e9 w' ⟨rfl,m',v',iw,Y,Z,HV,M⟩;obtain⟨f1,f2,f3,f4,f5⟩:=HV.o;rw[K]at f1 f2;have ce:=Z.o;rw[F]at ce;exact⟨rfl,m',_,gs,X,ae (hS.step Y.o M.o),ae (D v' iw ce f1 f2 f3),ae ⟨dE f4,f5⟩,M.o.prev hS.ms⟩
end
end
variable{cp:Nat}
def ex0(cap:Nat)(P:List TV):qw:=⟨X1 cap,λ_=>[],λ_ _=>none,List.replicate P.length T0,T0,0⟩
section
variable{N:aU}{P:List TV}{x:TV}{e:qw}
def Xf(n i:Nat):(List.replicate n false).getD i false=false:=by
 rw[aX];by_cases h:i<n
 .simp[h]
 .simp[h]
def aai(h:1<=l):(vy N L l P).1.getD 0 T0=T0:=by
 unfold vy;dsimp only;rw[aX,lJ om];rfl
def abB(c:gn N O L l P x)(h:cp<=16777216):fT N O L l P x (cp:Int) (kB N.nodes.length) (ex0 cp P):=by
 have hb:dr N O L l P x (kB N.nodes.length).done.toNat=vy N L l P:=rfl;have hp:∀id:Nat,1<=id->(kB N.nodes.length).bb.getD id false=false:=λid j=>by
  show((List.replicate (N.nodes.length+1) false).set 0 true).getD id false=false
  rw[dS aG,ag om];exact Xf _ _
 have hg:∀id:Nat,(kB N.nodes.length).aE.getD id false=false:=λid=>Xf _ _;refine⟨⟨UI h,λ_=>List.Pairwise.nil,λ_ e r=>(by cases r),λ_ _ _ b=>(by cases b),λ_ _ e f r=>(by cases r)⟩,rfl,rfl,dM _,rfl,λid=>?_,λid=>?_,λid j u=>?_,λ_=>rfl,dM _,Int.natCast_nonneg _,rfl,?_,λb=>(by cases b),λid j b=>?_,by simp[kB],by simp[kB],by simp[kB]⟩
 .rw[ag]
  .rfl
  .rintro⟨j,u,m⟩;rw[hp _ om]at m;cases m
 .rw[ag]
  .rfl
  .rintro⟨j,u,m⟩;rw[hg]at m;cases m
 .rw[hg];exact⟨λb=>(by cases b),λb=>(by cases b.1)⟩
 .rw[hb,aai c.hN.n9];rfl
 .rw[hp _ j]at b;cases b
def fT.whole(c:gn N O L l P x)(h:fT N O L l P x cap s e)(b:mc (cX N cap) s=true):e.lo=uJ N P x/\e.G=(sP N P x).2/\e.X=(sP N P x).1.getD 0 T0:=by
 unfold mc at b;rw[bW,cu]at b;have j:(cX N cap).order=O:=c.hN.ord;rw[j]at b;have hr:sP N P x=dr N O L l P x s.done.toNat:=by
  unfold sP dr;rw[c.hN.ord,c.hL,b.2];dsimp only;rw[bI,bI,bR aG]
 exact⟨h.em b.1,by rw[hr];exact h.G,by rw[hr];exact h.X⟩
end
variable{B K PA:Option Addr}{dx m mx np:Nat}{v:Value}
def vE:Tn:=⟨none,0,[],none,0,[]⟩
def Ox(w:ay)(F:Option Addr->Nat->Nat->Jk)(N:aU)(L:fV)(P:List TV)(x:TV)(cap:Nat)(e:Ending)(w':ay):Prop:=
 ∃p SA ns sc g r b m gs X,e=.returned (.tuple #[.pointer (some ⟨g,0,none⟩),au])/\aj p w/\Hx (vz p (F SA ns sc) N L P x)/\Hx (gu p w' (F SA ns sc) g r b m (ex0 cap P) gs X)/\aj w' p
section
variable{w:World}{n k nx cap:Nat}{N:aU}{ps:List Tn}{P:List TV}{x:TV}
def GN:∀n,tc (List.replicate n vE)=List.replicate (n*2) (.slice none 0 0)
 |0=>rfl
 |n+1=>by
  rw[kI,show(n+1)*2=n*2+1+1 from om,kI,kI,<-GN n];rfl
def row_zero(w:ay){n B:Nat}(e:n<=1000000)(b:B<=w):aI (w.alloc (.cells (Aj [] n) 28)) B 28 2 (some ⟨w.1.size,0,none⟩) n n (tc (List.replicate n vE)):=
 .mk' (cur:=Aj [] n) b (hx w _) (an _) (by unfold maxLen;omega) (AY [] (aT _)) (by
  rw[GN];simp[Aj,tc])
def abC{x y z:Value}{g:Nat}[l:aF w u](hg:w<=g):Below w.1.size w ((((u.setCell (g,11) x).setCell (g,12) y).setCell (g,15) z).setCell (g,16) v):=
 (((l.st.setCell (p:=⟨g,11,none⟩) hg _).setCell (p:=⟨g,12,none⟩) hg _).setCell (p:=⟨g,15,none⟩) hg _).setCell (p:=⟨g,16,none⟩) hg _
def Oy[aQ w A n B m N][tp:Ts w PA np ps][Sl w XA nx x.1][Sl w XB mx x.2](hf:Hx N.fits)(hs:Hx N.small)(hc:Hx (gn N O L l P x))(hP:Hx (ps.map Tn.tv=P))(hO:Hx (fo ps))(Q:np<=1000000)(lx:nx<=cx)(RS:mx<=dx)(lp:np<=cp)(lB:m<=d)(S:cap<=16777216):
  () 53 #[.agg #[(A,n,c),(B,m,d),(PA,np,cp),(XA,nx,cx),(XB,mx,dx),(K,k,R),cap]] w (Ox w (λSA ns sc=>⟨A,n,c,B,m,d,PA,np,cp,XA,nx,cx,XB,mx,dx,K,k,R,cap,l,SA,ns,sc⟩) N L P x cap):=by
 have CB:=@aa;have FB:=@aP;have HE:Hx (a6 N=0):=hc.o.hE;have HV:Hx (dh N=(O,L,(l:Int))):=hc.o.hL;have pt:=Fy np Q;have DR:Hx (np=P):=ae (by rw[<-hP.o,br,<-tp.len])
 go_in
 go_upto_region 1 with fail
 refine aw (λu0 CX k0=>?_);obtain⟨jb,T⟩:=lg w.1.size;rw[<-T]at k0⊢;clear T
 go_upto_region 4 with(go_at_call 61;refine mv (DG hf hs HE HV) λu1 _=>?_)
 go_upto_region 7 with(go_at_call 28;refine(Bc hf hs HE HV).mono ?_;rintro e u2 ⟨SA,sc,ss,rfl,sh,lsh,Dt,q8,fsh⟩)
 obtain⟨p,hp⟩:=lg u2;subst hp
 go_upto_region 10 with(go_at_call 96;refine(UJ (w:=p) S).mono ?_;rintro e J ⟨r,ra,rfl,D,Sm⟩)
 have U:=ae D;clear D
 go_upto_region 11 with fail
 refine aw (λu4 N5 k4=>?_);obtain⟨g,hg⟩:=lg J.1.size;rw[<-hg]at k4⊢;have HG:=ae hg;clear hg
 go_upto_region 13 with fail
 obtain⟨y,E⟩:=lg ((((u4.setCell (g,11) (.pointer r)).setCell (g,12) (.slice SA L sc)).setCell (g,15) (.pointer r)).setCell (g,16) (.slice SA L sc));rw[<-E];have p5:aj y J:=by rw[E];exact⟨abC (w:=J) (u:=u4) (dE HG.o.symm)⟩
 have k5:Bx y g 141 #[(A,n,c),(B,m,d),(PA,np,cp),(XA,nx,cx),(XB,mx,dx),(K,k,R),cap,l,.pointer r,(),au,.pointer r,.slice SA L sc,(),au,.pointer r,.slice SA L sc,au,(),(),()]:=⟨by rw[E];exact(((k4.al.ax 11 _).ax 12 _).ax 15 _).ax 16 _⟩;have V:=ae k5.al;clear E k4 N5
 go_upto_region 14 with fail
 obtain⟨X,C⟩:=lg ((y.alloc (.cells (Aj [] np) 28)).setCell (g,18) (y,np,np));rw[<-C];have Z6:=V.o.lt;have p7:aj X J:=by rw[C];exact⟨((a7 J y).alloc p5.st.size _).setCell (p:=⟨g,18,none⟩) (dE HG.o.symm) _⟩
 have Y:aB X g 141 #[(A,n,c),(B,m,d),(PA,np,cp),(XA,nx,cx),(XB,mx,dx),(K,k,R),cap,l,.pointer r,(),au,.pointer r,.slice SA L sc,(),au,.pointer r,.slice SA L sc,au,(y,np,np),(),()]:=by rw[C];exact(V.o.at (w':=y.alloc (.cells (Aj [] np) 28))).ax 18 _
 have I:aI X p.1.size 28 2 (some ⟨y.1.size,0,none⟩) np np (tc (List.replicate np vE)):=by
  have h9:=row_zero y (B:=p.1.size) Q ai;refine h9.same λad G=>?_;rw[<-cn G,C];exact bm _ ⟨g,18,none⟩ _ _ (by show y.1.size≠g;omega)
 have xj:=ae Y;have Z:=ae I;clear C Y I pt
 go_wp2_with fail
 go_ret2;have D:=U.o.at (w':=X);have hgn:g=J:=HG.o;have hU:∀b,ra.F r b->b<J.1.size:=λb hb=>(U.o.lt b hb).2;refine⟨p,SA,L.length,sc,g,r,y.1.size,⟨_,ra,λ_ _=>False⟩,List.replicate np vE,vE,rfl,ab w p,ae ⟨ao,⟨ps,ao,hP,hO⟩,ao,ao,lx,RS,lp,lB,⟨ss,sh,Dt⟩,hf,hs,hc.o.hF.FX⟩,ae ⟨⟨D,λs=>⟨xj,⟨none,0,0,0,by cases s<;>rfl,by cases s<;>rfl,.inl ⟨rfl,rfl,λ_ h=>h⟩⟩,List.Pairwise.nil,by show 0<=1000;omega⟩,λs=>by cases s<;>rfl,by rw[hgn];exact ai,λhx=>by have:=hU _ hx;omega,λ_ _ h=>h.elim,λ_ _ h=>h.elim⟩,⟨rfl,rfl,rfl,rfl,rfl,rfl,rfl,λs=>by cases s<;>rfl⟩,rfl,rfl,Z,fg ..,?_,rfl,rfl,rfl,?_,?_,?_⟩,ab p X⟩
 .show(List.replicate np vE).map Tn.tv=List.replicate P.length T0
  rw[List.map_replicate,DR.o];rfl
 .exact⟨⟨λj z M=>by simp[vE]at M,λj z M=>by simp[vE]at M,an _,λz hz=>by simp[vE]at hz⟩,λb ⟨ad,G,_⟩=>(by cases G),λb ⟨ad,G,_⟩=>(by cases G)⟩
 .intro t ht;rw[iA ht];exact⟨⟨λj z M=>by simp[vE]at M,λj z M=>by simp[vE]at M,an _,λz hz=>by simp[vE]at hz⟩,λb ⟨ad,G,_⟩=>(by cases G),λb ⟨ad,G,_⟩=>(by cases G)⟩
 .rintro(h9|h9|h9|h9)
  .omega
  .have:=hU _ h9;omega
  .exact h9
  .exact h9
end
section
variable{b:Nat}{F':Nat->Prop}

end
