/- Lemmas. -/
import Derived.Test.YtmkjnlifimffkaaGreatS28
namespace Go.Proofs.YtmkjnlifimffkaaGreat
open Go.RowKit Tryz
set_option linter.all false
set_option maxRecDepth 100000
set_option maxHeartbeats 0
variable{Γ:Prop}
attribute[local irreducible]Calls
variable{p u w w' w1:World}{c c' cx d e g i j k n nx r wd:Nat}{m2:kE}{v':da}{tb:Bool->Tb}{A A' C D wm:Option Addr}{h id z:Int}{V xs ys zs:List Int}{ss:List Sp}{us:List Tn}{t:Tn}{J:L3}{N:bm}{L:List (List Int)}{U1 vals:List TV}{nd:et}{cs lW:Array Value}
section
variable{B o:Nat}{m m':kE}{v:da}{T:Bool->Int->Option (List Int)}{s:Bool}{ts:List Tn}{P:List TV}{x:TV}
def kR(l:List et)(k:Nat):((l.take k).flatMap (·.P)).length<=(l.flatMap (·.P)).length:=by
 conv=>rhs;rw[<-dC k l]
 rw[jG,bh];omega
theorem Sl.kF{u w:aa}[l:aT u w]{A:bF}{n:Nat}{zs:au}(h:Sl u A n zs){p:Nat}(hp:u<=p)(v0 b:Value):Sl ((w.setCell (p,0) v0).setCell (p,1) b) A n zs:=
 ⟨h.rd.below (br l.st hp v0 b),h.len⟩
def nN(ts:List Tn):ts.map (·.zs)=(ts.map Tn.tv).map (·.1):=by rw[lT];rfl
def NY{o:ir}{b:List TV}{m:Nat}[Sl w A n o.S][I6 o.k](E:n<=1000000)[Ts w D m ts][Ts w C nx us][Le nx cx](F:nx<=1000000)(G:Hx (eB ts))(I:Hx (eB us))(hP:Hx (ts.map Tn.tv=b))(l:Hx (us.map Tn.tv=U1))(hE:Hx (dr o (b.map (·.1)) (U1.map (·.1))=0)){X:au}
  (hV:Hx (cJ o (b.map (·.1)) (U1.map (·.1))=V)) (y:Hx (vL o b U1=X)):
  () 102 #[.agg (gM o.kd o.k o.wd o.st o.sd o.fr o.tt (A,n,d)),(D,m,e),(C,nx,cx)] w (dK w V X 0):=by
 rw[<-hP.o,<-l.o]at hE hV y;exact aaJ E F G I (by rw[nN,nN];exact hE) (ae (by rw[nN,nN];exact hV)) y
theorem d6.slk{K:Nat}(h:d6 w w' g r m m')(l:∀b,m.U g r b->b<K)(hs:Sl w A n zs)(y:bG K A):Sl w' A n zs:=
 h.kf.sl hs λb hb E=>by
 obtain⟨F,e,rfl⟩:=hb;have G:=y.o F e;have I:=l _ E;omega
def QZ[aT p w]{id:Int}(hid:id=(j:Int))(sh:Hx (dZ p wm n ss))(h:Hx (MS w p.1.size g r m v tb))(y:Hx (cV v tb T))(I:Hx (T false (j:Int)=none))(hs:Hx (m.cs[12]?=some (.slice wm n c)))(K:Hx ((aS ss)[j]?=some zs))(hr:Hx (aA zs=true))(E:Hx (bz zs=(wd:Int)))
  (M:1<=wd) (O:wd<=65536) (Q:v.lv+wd<=v.cap) (F:v.nx<=1000000000000) (G:v.mv<=1000000000000) (b:(tb false).length<=200):
  () 150 #[.pointer (some ⟨g,9,none⟩),id] w (λe w'=>e=.returned an/\∃m' v' l,Hx (MS w' p.1.size g r m' v' l)/\Hx (cV v' l (eW T false (j:Int) (some (List.replicate wd 0))))/\Hx (wG v wd v')/\Hx (v'.mv<=v.mv+1)/\Hx (d6 w w' g r m m')):=by
 subst hid;exact IY (s:=false) sh h y I hs K hr E M O Q F G b
def DZ[aT p w]{id:Int}(hid:id=(j:Int))(sh:Hx (dZ p wm n ss))(h:Hx (MS w p.1.size g r m v tb))(y:Hx (cV v tb T))(I:Hx (T true (j:Int)=none))(hs:Hx (m.cs[16]?=some (.slice wm n c)))(K:Hx ((aS ss)[j]?=some zs))(hr:Hx (aA zs=true))(E:Hx (bz zs=(wd:Int)))
  (M:1<=wd) (O:wd<=65536) (Q:v.lv+wd<=v.cap) (F:v.nx<=1000000000000) (G:v.mv<=1000000000000) (b:(tb true).length<=200):
  () 150 #[.pointer (some ⟨g,13,none⟩),id] w (λe w'=>e=.returned an/\∃m' v' l,Hx (MS w' p.1.size g r m' v' l)/\Hx (cV v' l (eW T true (j:Int) (some (List.replicate wd 0))))/\Hx (wG v wd v')/\Hx (v'.mv<=v.mv+1)/\Hx (d6 w w' g r m m')):=by
 subst hid;exact IY (s:=true) sh h y I hs K hr E M O Q F G b
def VD[aT p w](h:Hx (MS w p.1.size g r m v tb))(b:Hx (cV v tb T))(l:Hx (T false id=some ys))[Sl w C k xs](y:Hx (xs.length=ys.length)):
  () 151 #[.pointer (some ⟨g,9,none⟩),id,.agg #[(A,n,c),(C,k,d)]] w (λe w'=>e=.returned an/\∃m' v',Hx (MS w' p.1.size g r m' v' tb)/\Hx (cV v' tb (eW T false id (some xs)))/\Hx (v'.lv=v.lv/\v'.pe=v.pe/\v'.cap=v.cap/\v'.nx=v.nx/\v'.mv=v.mv)/\Hx (d6 w w' g r m m')):=
 NR (s:=false) h b l y
def BB[aT p w](h:Hx (MS w p.1.size g r m v tb))(b:Hx (cV v tb T))(l:Hx (T true id=some ys))[Sl w C k xs](y:Hx (xs.length=ys.length)):
  () 151 #[.pointer (some ⟨g,13,none⟩),id,.agg #[(A,n,c),(C,k,d)]] w (λe w'=>e=.returned an/\∃m' v',Hx (MS w' p.1.size g r m' v' tb)/\Hx (cV v' tb (eW T true id (some xs)))/\Hx (v'.lv=v.lv/\v'.pe=v.pe/\v'.cap=v.cap/\v'.nx=v.nx/\v'.mv=v.mv)/\Hx (d6 w w' g r m m')):=
 NR (s:=true) h b l y
def D1{a b:Option (List Int)}:eW (eW T s id a) s id b=eW T s id b:=by
 funext s' i';unfold eW;split<;>rfl
def Jn(p w:aa)(g r:Nat)(m:kE)(v:da)(T:Bool->Int->Option (List Int))(s:Bool)(id:Int)(xs:au)(e:Ending)(w':aa):Prop:=
 e=.returned an/\∃m' v' b,Hx (MS w' p.1.size g r m' v' b)/\Hx (cV v' b (eW T s id (some xs)))/\Hx (v'.lv=v.lv+xs.length/\v'.pe=max v.pe (v.lv+xs.length)/\v'.cap=v.cap/\v'.nx=v.nx+1/\v'.mv<=v.mv+1)/\Hx (d6 w w' g r m m')
def xf1(h:Γ:=by first|exact sA.bA fA Bx.ak.lt _ _|exact sA.kF (al _) _ _):=h
def xf2(h:Γ:=by first|exact sX.bA fX Bx.ak.lt _ _|exact sX.kF (al _) _ _):=h
def Jo[pw:aT p w](hb:Hx (xH p J N L P x))(h:Hx (MS w p.1.size g r m v tb))(hc:Hx (nK J r m.cs))(GF:Hx (cV v tb T))(Z:Hx (N.nodes[k]?=some nd))(h0:Hx (vals.getD 0 T0=x))(Qc:Hx (L=N.nodes.length+1))(sI:Hx (∀z∈nd.ins,UY L T vals N.nodes.length z))
  (xp:Hx (P=(bH N).length)) (zR:Hx ((iy N P k nd).map (·.1)=nd.P)) (ug:Hx ((cM vals nd.ins).map (·.1)=d8 nd L)) (hE:Hx (dr nd.o nd.P (d8 nd L)=0)) (hS:Hx (cJ nd.o nd.P (d8 nd L)=zs)) (hSL:Hx (L[k+1]?=some zs)) (hX:Hx (vL nd.o (iy N P k nd) (cM vals nd.ins)=xs))
  (sP:Hx (ap zs xs=true)) (hT:Hx (T false ((k+1:Nat):Int)=none)) (hl:v.lv+xs.length<=v.cap) (qi:v.nx<=1000000000000) (r9:v.mv<=1000000000000) (hlen:(tb false).length<=200):
  () 97 #[.pointer g,.int .i64 ((k:Int)+1)] w (Jn p w g r m v T false ((k+1:Nat):Int) xs):=by
 have CC:=@cQ;obtain⟨CB,CP,FB⟩:=ia;have a:aW w J.A J.n J.B J.m N:=hb.o.UW.at;have HM:Hx (J.m=N.nodes.length):=a.len;have GG:k<J.m:=by rw[HM.o];exact(a8.1 Z).1
 have hm:J.m<=1000:=by rw[HM.o];exact hb.o.small.1
 have hwj:IntKind.i64.wrap (k:Int)=(k:Int):=by rw[a7];omega
 have c0:Cl w g 0 (.slice J.A J.n J.c):=h.o.cl hc.o.c0;have c1:Cl w g 1 (.slice J.B J.m J.d):=h.o.cl hc.o.c1;have c2:Cl w g 2 (.slice J.PA J.np J.cp):=h.o.cl hc.o.c2;obtain⟨ss,sh,Bk⟩:=hb.o.sh;have SH:=ae sh;have QG:=ae Bk;obtain⟨ps,V,CL,VE⟩:=hb.o.ps;have TP:Ts w J.PA J.np ps:=⟨V.rd.below pw.st,V.len⟩;have Ss:=ae VE;have Tt:=ae CL;have X:=ae hb.o.fits;have Ar:=ae hb.o.small;have hlB:=hb.o.lB;have hlP:=hb.o.lp;have Jm:Hx (J.np=(bH N).length):=ae (by rw[<-xp.o,<-CL,bj];exact V.len);have wq:Hx (dJ N k+nd.P.length<=J.np):=ae (by
  rw[Jm.o,<-jf Z.o];unfold dJ bH;exact(kR _ _))
 have YO:nd.P.length<=1000000:=by have:=(X.o.2.2 _ (aC Z)).2.2.1;omega
 clear sh Bk V CL VE;generalize hBz:J.B=Bz at a c1;have HBz:=ae hBz;clear hBz;obtain⟨b0,q0,o,A1,n1,F8,I,ni,ci,ins,P',np,cp,Y,rfl,ob,⟨v0,O,v2,v3,v4,v5,v6,v7,v8,v9⟩,s1,si,sp,l1,li,lp,ik,oj⟩:=a.node GG;obtain rfl:nd=⟨o,ins,aS Y⟩:=cH (Z.o.symm.trans oj.o);have qk:n1<=1000000:=by have:=(X.o.2.2 _ (aC Z)).2.1;rw[s1.len];show o.S.length<=_;have h9:o.S.length<=100000:=this;omega
 obtain⟨PV,E⟩:=lh (iy N P k ⟨o,ins,aS Y⟩);obtain⟨UV,l⟩:=lh (cM vals ins);have wv:Hx (cM vals (⟨o,ins,aS Y⟩:et).ins=UV):=l;have HPX:Hx (((ps.map Tn.tv).drop (dJ N k)).take (aS Y).length=PV):=ae (by rw[Tt.o];exact E);have HE:Hx (dr o (PV.map (·.1)) (UV.map (·.1))=0):=ae (by rw[<-E,zR.o,<-l];have h9:=ug.o;rw[h9];exact hE);have HS:Hx (cJ o (PV.map (·.1)) (UV.map (·.1))=zs):=ae (by rw[<-E,zR.o,<-l];have h9:=ug.o;rw[h9];exact hS);have HX:Hx (vL o PV UV=xs):=ae (by rw[<-E,<-l];exact hX);have GQ:Hx (∀b,m.U g r b->b<w.1.size):=λb Q=>(h.o.lt b Q).2;have HUL:Hx (UV.length=ins.length):=ae (by rw[<-l,cM,bj]);have sW:UV.length<=1000000:=by have:=(X.o.2.2 _ (aC Z)).1;rw[HUL.o];have h9:ins.length<=100000:=this;omega
 clear E l oj v8 v9 si sp li lp;go_in;go_upto_region 4 with(go_at_call 148;refine(Bj (p:=p) hb (ae h.o.at) hc GF Z h0 Qc sI wv).mono ?_;rintro e u1 ⟨A2,c2',us,rfl,TU,LU,Me,Mf,sQ⟩);obtain⟨O,rfl⟩:=lg u1;go_cut [7,6] (λq e wx=>∃G A' c' B' d',q=.pointer (some ⟨G,0,none⟩)/\e=.int .i64 0/\O.1.size<=G/\Bx wx G 28 #[.slice A' zs c',.slice B' xs d']/\Sl wx A' zs zs/\Sl wx B' xs xs/\Le zs.length c'/\Le xs.length d'/\bG O.1.size A'/\bG O.1.size B'/\aj wx O);case first=>
  refine ab O ao (λux _=>?_)
  repeat' (first
   |(refine j8 0 ?_
     refine qL [0,1,2,3,4,5,6,7,8,9,10,11,12,13,14,15,16,17,18,19,20,21] ?_;refine jL 23 42 ?_)
   |(refine j8 25 ?_
     refine qL [25,26] ?_;refine jL 27 45 ?_)
   |(refine j8 30 ?_
     refine jL 30 6 ?_)
   |(intro (tg:Tg 22) K hK
     clear tg;go_simp
     refine(U3 hlB hlP YO Ss X Ar rfl Z wq HPX).mono ?_
     rintro e ux ⟨A3,c3,qs,rfl,TQ,LQ,GI,HQT,pq⟩;dsimp only;refine aG hK ?_;clear hK K)
   |(intro (tg:Tg 24) K hK
     clear tg;go_simp
     refine(NY qk sW GI Me HQT Mf HE HS HX).mono ?_
     rintro e ux ⟨A',c',B',d',rfl,sA,sX,lA,lX,fA,fX,_⟩;dsimp only;refine aG hK ?_;clear hK K)
   |(intro (tg:Tg 28) K hK
     clear tg;go_simp;refine aG hK ?_;refine bc (λux _ _=>?_))
   |(intro (tg:Tg 29) K hK
     clear tg;rename World=>wN;go_simp;refine qt hK (λ_=>?_) ⟨br (aP O wN) ai _ _⟩;clear hK K)
   |refine fg 22 ?_
   |refine fg 24 ?_
   |refine fg 29 ?_
   |refine fg 28 ?_
   |refine mf 22 28 ?_ ?_
   |refine mf 24 28 ?_ ?_
   |refine BU ?_)
  all_goals go_wp2_with fail;go_meet;refine⟨_,A',_,B',_,rfl,rfl,ai,⟨(Bx.ak (w:=wN)).bP _ _⟩,?_,?_,lA,lX,fA.less ai,fX.less ai,⟨br (aP O wN) ai _ _⟩⟩;exact xf1;exact xf2
 obtain⟨G,A4,c4,B4,d4,rfl,rfl,hvG,kG,sA,sX,lA,lX,fA,fX,pv⟩:=hcut;obtain⟨W1,rfl⟩:=lg wc;have F:=(aN zs xs).1 sP;have t9:Hx (aA zs=true):=F.1;obtain⟨wd,M⟩:=lh xs.length;have HWD:=ae M;have uv:Hx (bz zs=(wd:Int)):=ae (by rw[bz,ah F.1,<-F.2,M]);obtain⟨n9,g1,g2,g3⟩:=cP F.1;have VF:1<=wd:=by rw[<-M];have:=F.2;omega
 have VG:wd<=65536:=by rw[<-M];have:=F.2;omega
 have VH:v.lv+wd<=v.cap:=by rw[<-M];exact hl
 have Z7:Hx (MS W1 p.1.size g r m v tb):=h.o.at;have U0:Hx (m.cs[12]?=some (.slice J.SA J.ns J.sc)):=hc.o.cS false;have HJ:Hx ((aS ss)[k+1]?=some zs):=ae (by rw[QG.o];exact hSL);have GU:Hx (¬m.U g r G/\G<W1.1.size):=ae ⟨λhx=>by have:=GQ.o G hx;have:=ai (w:=w) (w':=O);omega,kG.ak.lt⟩;clear F g1 g2 g3 M;go_upto_region 10 with(go_at_call 150;refine(QZ (p:=p) (j:=k+1) om SH Z7 GF hT U0 HJ t9 uv VF VG VH qi r9 hlen).mono ?_;rintro e u2 ⟨rfl,m2,v2,xJ,Jp,VI,m7,D2,y⟩;have sO:aj u2 p:=y.o.prev Z7;have pJ:Sl u2 A4 zs zs:=y.o.slk (K:=O.1.size) (λb Q=>bu (GQ.o b Q) ai) sA fA;have l4:Sl u2 B4 xs xs:=y.o.slk (K:=O.1.size) (λb Q=>bu (GQ.o b Q) ai) sX fX;have Ta:Bx u2 G 28 #[.slice A4 zs c4,.slice B4 xs d4]:=⟨y.o.kf.ak kG.ak GU.o.1⟩);have l2:Hx (eW T false ((k+1:Nat):Int) (some (List.replicate wd 0)) false ((k:Int)+1)=some (List.replicate wd 0)):=ae (by rw[show(k:Int)+1=((k+1:Nat):Int)from om];exact h6);have r8:Hx (xs.length=(List.replicate wd (0:Int)).length):=ae (by rw[HWD.o,eY]);have Bo:Hx (¬m2.U g r G):=λhx=>(y.o.kf.new G hx).elim GU.o.1 λh9=>absurd GU.o.2 (hC.2 h9);refine a6 p (λw9=>Bx w9 G 28 #[.slice A4 zs c4,.slice B4 xs d4]) ao aq (λuz _=>?_);refine bR 0 ?_;refine bR 1 ?_;refine bR 2 ?_;refine bR 3 ?_;refine bR 4 ?_;refine aK 5 λK hK=>?_;go_simp;refine(VD (p:=p) (ae ((Jp).o.at (w':=uz))) VI l2 r8).mono ?_;rintro e9 u9 ⟨rfl,m3,v3,VJ,Jq,Fq,R⟩;dsimp only;have p9:aj u9 p:=R.o.prev ((Jp).o.at (w':=uz));have Mg:Bx u9 G _ _:=⟨R.o.kf.ak (Bx.ak (w:=uz)) Bo⟩;refine aG hK ?_ ⟨p9,Mg⟩;refine bR 6 ?_;refine a9 ?_;go_wp2_with fail;go_ret;have Z8:=Jq.o;rw[show(k:Int)+1=((k+1:Nat):Int)from om,D1]at Z8;obtain⟨f1,f2,f3,f4,f5⟩:=Fq.o;have q1:=m7.o;refine⟨rfl,m3,v3,xJ,VJ,ae Z8,ae ⟨?_,?_,?_,?_,?_⟩,ae (((d6.later g r m).trans y).trans ((d6.later g r m2).trans R))⟩;rw[f1,q1.lv,HWD.o];rw[f2,q1.pe,HWD.o];rw[f3,q1.cap];rw[f4,q1.nx];rw[f5];exact D2
end
variable{lo y:Int}
section
variable{B o:Nat}{m m':kE}{v:da}{T:Bool->Int->Option (List Int)}{s:Bool}{ts:List Tn}{P:List TV}{x:TV}
def xf4(h:Γ:=by cases s<;>simp[oS]<;>omega):=h
def MS.BC(h:MS w B g r m v tb)(hi:i≠9/\i≠10/\i≠11/\i≠13/\i≠14/\i≠15)(y:Value):MS (w.setCell (g,i) y) B g r {m with cs:=m.cs.setIfInBounds i y} v tb:=by
 have l:∀b,b≠g->(w.setCell (g,i) y).heap[b]?=w.heap[b]?:=λb hb=>ba w ⟨g,i,none⟩ y b hb;refine⟨h.ar.keep λb hb=>l b λe=>h.gA (e▸hb),λs=>?_,λs=>?_,h.gB,h.gA,h.FA,h.FF⟩;obtain⟨A,n,c,E,F,G,I⟩:=(h.t s).tb;refine⟨(h.t s).ak.av i y,⟨A,n,c,E,?_,?_,I.keep λb hb=>l b λe=>(h.t s).ng (e▸hb)⟩,(h.t s).p9,(h.t s).len⟩;rw[eX xf4];exact F;rw[eX xf4];exact G;show(m.cs.setIfInBounds i y)[oS s+2]?=_;rw[eX xf4];exact h.ca s
def kfM(w:aa)(g r i:Nat)(m:kE)(y:Value):Kf (m.U g r) (m.U g r) w (w.setCell (g,i) y):=(Kf.refl _ w).av (q:=⟨g,i,none⟩) (.inl rfl) y
def nK.BC(h:nK J r cs)(hi:17<=i)(y:Value):nK J r (cs.setIfInBounds i y):=
 ⟨by rw[eX om];exact h.c0,by rw[eX om];exact h.c1,by rw[eX om];exact h.c2,
  by rw[eX om];exact h.c3,by rw[eX om];exact h.c4,by rw[eX om];exact h.c7,
  by rw[eX om];exact h.c8,λs=>by rw[eX xf4];exact h.cS s⟩
def VK[aT p w](hb:Hx (xH p J N L P x))(h:Hx (MS w p.1.size g r m v tb))(hc:Hx (nK J r m.cs))(I:Hx (cV v tb T))(hT:Hx (T false (J.l:Int)=some xs))(hL:Hx (L[J.l]?=some zs))(M:Hx (ap zs xs=true))(X:Hx (m.cs[17]?=some (.int .i64 lo)))(hy:Hx (xs[0]?=some y)):
  () 99 #[.pointer g] w (λe w'=>e=.returned an/\Hx (MS w' p.1.size g r {m with cs:=m.cs.setIfInBounds 17 y} v tb)/\Hx (Kf (m.U g r) (m.U g r) w w')):=by
 have CC:=@cQ;have CB:=@ay;have FB:=@aO;have c7:Cl w g 7 (J.l:Int):=h.o.cl hc.o.c7;have c17:Cl w g 17 lo:=h.o.cl X;obtain⟨ss,sh,O⟩:=hb.o.sh;have SH:=ae sh;have HJ:Hx ((aS ss)[J.l]?=some zs):=ae (by rw[O];exact hL);have b:Hx (m.cs[12]?=some (.slice J.SA J.ns J.sc)):=hc.o.cS false;clear sh O;go_in;go_upto_region 1 with fail;go_cut [3,4] (λq e R=>∃G A' c' E d',q=.pointer (some ⟨G,0,none⟩)/\e=.int .i64 0/\w.1.size<=G/\Bx R G 28 #[.slice A' zs c',.slice E xs d']/\Sl R A' zs zs/\Sl R E xs xs/\Le zs.length c'/\Le xs.length d'/\bG w.1.size A'/\bG w.1.size E/\aj R w);case first=>
  refine ab w ao (λF _=>?_);refine qL [0,1,2,3,4,5,6] ?_;refine qr 7 11 (λK hK=>?_) (λK hK=>?_);(focus go_simp;refine(ri (p:=p) SH (ae (h.o.at (w':=F))) I hT b HJ M).mono ?_;rintro e F ⟨A',c',E,d',rfl,S,Q,Y,Z,fA,V,_⟩;dsimp only;refine aG hK ?_;refine qL [8,9,10] ?_;refine aK 11 λK hK=>?_;go_simp;refine aG hK<|bc (λF _ _=>?_));rotate_left;(focus go_simp;refine aG hK<|bc (λF _ _=>?_);refine aK 7 λK hK=>?_;go_simp;refine(ri (p:=p) SH (ae (h.o.at (w':=F))) I hT b HJ M).mono ?_;rintro e F ⟨A',c',E,d',rfl,S,Q,Y,Z,fA,V,_⟩;dsimp only;refine aG hK ?_;refine qL [8,9,10] ?_);all_goals
   refine aK 12 λK hK=>?_;rename World=>wN;go_simp;refine qt hK (λ_=>?_) ⟨br (aP w wN) ai _ _⟩;refine ff 13 ?_;refine a9 ?_;go_wp2_with fail;go_meet;refine⟨_,A',_,E,_,rfl,rfl,ai,⟨(Bx.ak (w:=wN)).bP _ _⟩,?_,?_,Y,Z,fA.less ai,V.less ai,⟨br (aP w wN) ai _ _⟩⟩
   .first|exact S.bA fA Bx.ak.lt _ _|exact S.kF (al _) _ _
   first|exact Q.bA V Bx.ak.lt _ _|exact Q.kF (al _) _ _
 obtain⟨G,A4,c4,B4,d4,rfl,rfl,hvG,kG,S,Q,Y,Z,fA,V,pv⟩:=hcut;have Cr:0<xs.length:=by have:=(a8.1 hy).1;exact this
 obtain⟨b4,o4,z4,rfl,ob4,cz,hz⟩:=Q.get Cr;rw[ef]at cz;obtain rfl:y=z4:=cH (hy.o.symm.trans hz.o);have fr2:∀k,wc.frozen? ⟨g,k,none⟩=false:=λk=>((h.o.at (w':=wc)).t false).ak.frozen k;have adR:Cl wc g 17 lo:=aq;go_wp2_with fail;go_ret;exact⟨rfl,ae ((h.o.at (w':=wc)).BC am _),ae ((Kf.later _ (w:=w)).trans (kfM wc g r 17 m _))⟩
def ww{A:bF}{n c k:Nat}[a:Sl w A n zs](l:n<=1000000)(hr:Hx (aA zs=true))(hp:Hx (ax zs=(k:Int))){X:au}(E:Hx (List.replicate k y=X)):() 62 #[(A,n,c),y] w (dK w zs X 0):=by
 obtain⟨a,rfl⟩:=a;have b:=E.o;subst b;exact(wE A c zs y k w l a hr hp).mono λ_ _ ⟨g,M,F,G,I,o1,K,hb⟩=>⟨_,_,_,_,F,⟨o1.rd,rfl⟩,⟨K.rd,rfl⟩,⟨al _⟩,⟨al _⟩,fy G,fy I,⟨hb⟩⟩
def VL[aT p w](hb:Hx (xH p J N L P x))(h:Hx (MS w p.1.size g r m v tb))(hc:Hx (nK J r m.cs))(GF:Hx (cV v tb T))(hT:Hx (T true (J.l:Int)=none))(hL:Hx (L[J.l]?=some zs))(hX:Hx ((nH zs).2=xs))(sP:Hx (ap zs xs=true))(hl:v.lv+xs.length<=v.cap)(qi:v.nx<=1000000000000)(r9:v.mv<=1000000000000)(hlen:(tb true).length<=200):
  () 100 #[.pointer g] w (Jn p w g r m v T true (J.l:Int) xs):=by
 have CC:=@cQ;obtain⟨CB,CP,FB⟩:=ia;have c7:Cl w g 7 (J.l:Int):=h.o.cl hc.o.c7;obtain⟨ss,sh,Bk⟩:=hb.o.sh;have SH:=ae sh;have HJ:Hx ((aS ss)[J.l]?=some zs):=ae (by rw[Bk];exact hL);have S:Hx (m.cs[16]?=some (.slice J.SA J.ns J.sc)):=hc.o.cS true;have c16:Cl w g 16 (.slice J.SA J.ns J.sc):=h.o.cl S;have sw:dZ w J.SA J.ns ss:=dZ.at sh;have hjn:J.l<J.ns:=by rw[sw.len,<-cX];exact(a8.1 HJ).1
 have y:=(aN zs xs).1 sP;have R:Hx (aA zs=true):=y.1;obtain⟨wd,E⟩:=lh xs.length;have Z:=ae E;have uv:Hx (bz zs=(wd:Int)):=ae (by rw[bz,ah y.1,<-y.2,E]);obtain⟨n9,g1,g2,g3⟩:=cP y.1;have VF:1<=wd:=by rw[<-E];have:=y.2;omega
 have VG:wd<=65536:=by rw[<-E];have:=y.2;omega
 have VH:v.lv+wd<=v.cap:=by rw[<-E];exact hl
 have VM:Hx (ax zs=(wd:Int)):=ae (by rw[<-E,y.2]);have iH:Hx (List.replicate wd (4294967296:Int)=xs):=ae (by rw[<-hX.o,nH];dsimp only;rw[VM.o];rfl);have GQ:Hx (∀b,m.U g r b->b<w.1.size):=λb hb9=>(h.o.lt b hb9).2;generalize J.SA=SA at*;obtain⟨b0,q0,A1,m1,c1,F,rfl,ob,v0,s1,l1,e1⟩:=sw.get hjn;obtain rfl:F=zs:=cH (e1.o.symm.trans HJ);have k8:m1<=1000000:=by have:=cG R;rw[s1.len];omega
 have i1:(J.l:Int)<(J.ns:Int):=om;clear sh Bk y g1 g2 g3 E;go_in;go_upto_region 1 with fail;go_cut [3,4] (λq e wx=>∃G A' c' B' d',q=.pointer (some ⟨G,0,none⟩)/\e=.int .i64 0/\w.1.size<=G/\Bx wx G 28 #[.slice A' F c',.slice B' xs d']/\Sl wx A' F F/\Sl wx B' xs xs/\Le F.length c'/\Le xs.length d'/\bG w.1.size A'/\bG w.1.size B'/\aj wx w);case first=>refine ab w ao (λux _=>?_);refine qL [0,1,2,3,4,5,6,7,8,9,10] ?_;refine qr 11 15 (λK hK=>?_) (λK hK=>?_);(focus go_simp;refine(ww k8 R VM iH).mono ?_;rintro e ux ⟨A',c',B',d',rfl,sA,sX,lA,lX,fA,fX,_⟩;dsimp only;refine aG hK ?_;refine qL [12,13,14] ?_;refine aK 15 λK hK=>?_;go_simp;refine aG hK<|bc (λux _ _=>?_));rotate_left;(focus go_simp;refine aG hK<|bc (λux _ _=>?_);refine aK 11 λK hK=>?_;go_simp;refine(ww k8 R VM iH).mono ?_;rintro e ux ⟨A',c',B',d',rfl,sA,sX,lA,lX,fA,fX,_⟩;dsimp only;refine aG hK ?_;refine qL [12,13,14] ?_);all_goals refine aK 16 λK hK=>?_;rename World=>wN;go_simp;refine qt hK (λ_=>?_) ⟨br (aP w wN) ai _ _⟩;refine ff 17 ?_;refine a9 ?_;go_wp2_with fail;go_meet;refine⟨_,A',_,B',_,rfl,rfl,ai,⟨(Bx.ak (w:=wN)).bP _ _⟩,?_,?_,lA,lX,fA.less ai,fX.less ai,⟨br (aP w wN) ai _ _⟩⟩;exact xf1;exact xf2
 obtain⟨G,A4,c4,B4,d4,rfl,rfl,hvG,kG,sA,sX,lA,lX,fA,fX,pv⟩:=hcut;obtain⟨W1,rfl⟩:=lg wc;have V:Hx (MS W1 p.1.size g r m v tb):=h.o.at;have GU:Hx (¬m.U g r G/\G<W1.1.size):=ae ⟨λhx=>by have:=GQ.o G hx;omega,kG.ak.lt⟩;go_upto_region 4 with fail;refine a6 p (λw9=>Cl w9 g 7 (J.l:Int)) ao aq (λuy _=>?_);refine bR 0 ?_;refine bR 1 ?_;refine bR 2 ?_;refine bR 3 ?_;refine bR 4 ?_;refine bR 5 ?_;refine bR 6 ?_;refine aK 7 λK hK=>?_;go_simp;refine(DZ (p:=p) (j:=J.l) rfl SH (ae (V.o.at (w':=uy))) GF hT S HJ R uv VF VG VH qi r9 hlen).mono ?_;rintro e9 u2 ⟨rfl,m2,v2,xJ,M,VI,m7,D2,O⟩;dsimp only;have sO:aj u2 p:=O.o.prev (V.o.at (w':=uy));have c72:Cl u2 g 7 (J.l:Int):=M.o.cl (hc.o.same O.o.sm).c7;have Q:Hx (d6 W1 u2 g r m m2):=ae ((d6.later g r m (w:=W1)).trans O);refine aG hK ?_ ⟨sO,c72⟩;refine bR 8 ?_;refine a9 ?_;skip;have l4:Sl u2 B4 xs xs:=Q.o.slk GQ sX fX;have Ta:Bx u2 G 28 #[.slice A4 F c4,.slice B4 xs d4]:=⟨Q.o.kf.ak kG.ak GU.o.1⟩;have l2:Hx (eW T true (J.l:Int) (some (List.replicate wd 0)) true (J.l:Int)=some (List.replicate wd 0)):=h6;have r8:Hx (xs.length=(List.replicate wd (0:Int)).length):=ae (by rw[Z.o,eY]);have Bo:Hx (¬m2.U g r G):=λhx=>(Q.o.kf.new G hx).elim GU.o.1 λh9=>absurd GU.o.2 (hC.2 h9);go_upto_region 7 with fail;refine a6 p (λw9=>Cl w9 g 7 (J.l:Int)/\Bx w9 G 28 #[.slice A4 F c4,.slice B4 xs d4]) ao ⟨aq,aq⟩ (λuz _=>?_);refine bT 0 ?_;refine bT 1 ?_;refine bT 2 ?_;refine bT 3 ?_;refine bT 4 ?_;refine bT 5 ?_;refine bT 6 ?_;refine bT 7 ?_;refine aK 8 λK hK=>?_;go_simp;refine(BB (p:=p) (ae (M.o.at (w':=uz))) VI l2 r8).mono ?_;rintro e9 u9 ⟨rfl,m3,v3,X,Jq,Fq,I⟩;dsimp only;have p9:aj u9 p:=I.o.prev (M.o.at (w':=uz));have Mg:Bx u9 G _ _:=⟨I.o.kf.ak (Bx.ak (w:=uz)) Bo⟩;have c79:Cl u9 g 7 (J.l:Int):=X.o.cl ((hc.o.same Q.o.sm).same I.o.sm).c7;refine aG hK ?_ ⟨p9,c79,Mg⟩;refine bT 9 ?_;refine a9 ?_;go_wp2_with fail;go_ret;have Y:=Jq.o;rw[D1]at Y;obtain⟨f1,f2,f3,f4,f5⟩:=Fq.o;have q1:=m7.o;refine⟨rfl,m3,v3,xJ,X,ae Y,ae ⟨?_,?_,?_,?_,?_⟩,ae (((d6.later g r m).trans Q).trans ((d6.later g r m2).trans I))⟩;rw[f1,q1.lv,Z.o];rw[f2,q1.pe,Z.o];rw[f3,q1.cap];rw[f4,q1.nx];rw[f5];exact D2
end
variable{R:Nat}{XA XB:Option Addr}
section
variable{B o dx':Nat}{m m':kE}{v:da}{T:Bool->Int->Option (List Int)}{s:Bool}{ts:List Tn}{P:List TV}{x:TV}{b:Bool}
def Q0[aT p w](h:Hx (MS w p.1.size g r m v tb))(S:Hx (m.cs[19]?=some (.slice XA x.1.length R)))(X:Hx (m.cs[20]?=some (.slice XB x.2.length dx')))[Sl w XA x.1.length x.1][Sl w XB x.2.length x.2][cv x.2][Sl w A n zs][Sl w C k xs][cv xs]
  (Y:x.2.length<=1000000) (hn:n<=1000000) (Z:k<=1000000) (I:Hx (x.2=[]\/cR x.1 x.2 zs xs=true)) {V:TV} (hV:Hx (iz (x.1,x.2) (zs,xs)=V)):
  () 157 #[.pointer g,an,.agg #[(A,n,c),.slice C k d],.bool b] w (λe w'=>e=.returned an/\∃A' c' y d',Hx (MS w' p.1.size g r {m with cs:=(m.cs.setIfInBounds 19 (.slice A' V.1.length c')).setIfInBounds 20 (.slice y V.2.length d')} v tb)/\Sl w' A' V.1.length V.1/\Sl w' y V.2.length V.2/\bG w.1.size A'/\bG w.1.size y/\V.2.length<=d'/\Hx (Kf (m.U g r) (m.U g r) w w')):=by
 have CC:=@cQ;have CB:=@ay;have c19:Cl w g 19 (.slice XA x.1.length R):=h.o.cl S;have c20:Cl w g 20 (.slice XB x.2.length dx'):=h.o.cl X;go_in;go_upto_region 1 with fail;refine aE (λu0 Ff k0=>?_);go_upto_region 2 with fail;refine a6 p (λw9=>Bx w9 w.1.size 28 #[(A,n,c),.slice C k d]) ao aq (λux _=>?_);refine bR 0 ?_;refine bR 1 ?_;refine bR 2 ?_;refine bR 3 ?_;refine bR 4 ?_;refine bR 6 ?_;refine aK 5 λK hK=>?_;go_simp;refine aG hK ?_ ⟨aR p ux,aq⟩;refine aK 7 λK hK=>?_;go_simp;have sx6:Sl ux XA x.1.length x.1:=aq;have sy6:Sl ux XB x.2.length x.2:=aq;refine(GD Y hn Z I hV).mono ?_;rintro e9 E ⟨A',c',y,d',rfl,sA,sX,lA,lX,fA,fX,_⟩;dsimp only;refine aG hK ?_ ⟨aR p _,aq⟩;refine bR 8 ?_;refine bR 9 ?_;refine bR 10 ?_;refine aK 11 λK hK=>?_;have M:=h.o.at (w':=E);have hf9:∀k,E.frozen? ⟨g,k,none⟩=false:=λk=>(M.t false).ak.frozen k;have F:p<=g:=h.o.gB;have G:w≠g:=by have:=h.o.old.lt;omega
 have kb9:Bx E w.1.size 28 #[(A,n,c),.slice C k d]:=aq;have O:aj ((E.setCell (g,19) (.slice A' V.1.length c')).setCell (g,20) (.slice y V.2.length d')) p:=⟨((aP p E).setCell (p:=⟨g,19,none⟩) F _).setCell (p:=⟨g,20,none⟩) F _⟩;have Q:Bx ((E.setCell (g,19) (.slice A' V.1.length c')).setCell (g,20) (.slice y V.2.length d')) w.1.size 28 #[(A,n,c),.slice C k d]:=⟨(kb9.ak.aY (p:=⟨g,19,none⟩) G _).aY (p:=⟨g,20,none⟩) G _⟩;go_simp;refine aG hK ?_ ⟨O,Q⟩;refine a9 ?_;go_wp2_with fail;go_ret;have M:=h.o.at (w':=E);have k8:=(M.BC (i:=19) am (.slice A' V.1.length c')).BC (i:=20) am (.slice y V.2.length d');have l:g<w:=h.o.old.lt;refine⟨rfl,A',c',y,d',ae k8,?_,?_,fA.less ai,fX.less ai,lX.le,ae ?_⟩;exact(sA.setCell (p:=⟨g,19,none⟩) (fA.less (b':=w.1.size) ai) l _).setCell (p:=⟨g,20,none⟩) (fA.less (b':=w.1.size) ai) l _;exact(sX.setCell (p:=⟨g,19,none⟩) (fX.less (b':=w.1.size) ai) l _).setCell (p:=⟨g,20,none⟩) (fX.less (b':=w.1.size) ai) l _;exact(((Kf.later _ (w:=w)).trans (kfM E g r 19 m _)).trans (kfM _ g r 20 m _))
def Jr(p w:aa)(g r:Nat)(m:kE)(v:da)(tb:Bool->Tb)(T:Bool->Int->Option (List Int))(id:Int)(xs:au)(e:Ending)(w':aa):Prop:=
 e=.returned an/\∃m' v',Hx (MS w' p.1.size g r m' v' tb)/\Hx (cV v' tb (eW T true id (some xs)))/\Hx (v'.lv=v.lv/\v'.pe=v.pe/\v'.cap=v.cap/\v'.nx=v.nx/\v'.mv=v.mv)/\Hx (d6 w w' g r m m')
def Q5[aT p w](h:Hx (MS w p.1.size g r m v tb))(I:Hx (cV v tb T))(hi:id≠0)(Z:Hx (T true id=some ys))[Sl w C k xs](M:Hx (xs.length=ys.length)):
  () 157 #[.pointer g,id,.agg #[(A,n,c),(C,k,d)],.bool true] w (Jr p w g r m v tb T id xs):=by
 have CB:=@ay;have E6:(id==0)=false:=by simp[hi]
 clear hi;go_in;go_upto_region 1 with fail;refine aE (λu0 Ff k0=>?_);obtain⟨G,X⟩:=lg w.1.size;have O:Hx (¬m.U g r G):=ae λhx=>by have:=(h.o.lt G hx).2;omega
 have y:Hx (MS u0 p.1.size g r m v tb):=h.o.at;rw[<-X]at k0⊢;clear X;go_upto_region 5 with fail;refine a6 p (λw9=>Bx w9 G 28 #[(A,n,c),(C,k,d)]) ao aq (λQ _=>?_);refine bR 0 ?_;refine bR 1 ?_;refine bR 2 ?_;refine bR 3 ?_;refine bR 4 ?_;refine aK 5 λK hK=>?_;go_simp;refine(BB (p:=p) (ae ((y).o.at (w':=Q))) I Z M).mono ?_;rintro e9 Y ⟨rfl,m3,v3,E,F,S,l⟩;dsimp only;have p9:aj Y p:=l.o.prev ((y).o.at (w':=Q));have V:Bx Y G _ _:=⟨l.o.kf.ak (Bx.ak (w:=Q)) O⟩;refine aG hK ?_ ⟨p9,V⟩;refine bR 6 ?_;refine a9 ?_;go_wp2_with fail;go_ret;exact⟨rfl,m3,v3,E,F,S,ae ((d6.later g r m).trans l)⟩
def Q6[aT p w](hb:Hx (xH p J N L P x))(hc:Hx (nK J r m.cs))(h:Hx (MS w p.1.size g r m v tb))(E:Hx (cV v tb T))(hi:0<j)(hT:Hx (T true (j:Int)=some ys))(hL:Hx (L[j]?=some zs))(F:Hx (ap zs ys=true))[cv ys][Sl w A n zs][Sl w C k xs][cv xs]
  (hn:n<=1000000) (XE:k<=1000000) (y:Hx (ys=[]\/cR zs ys zs xs=true)) {V:TV} (hV:Hx (iz (zs,ys) (zs,xs)=V)) (r8:Hx (V.2.length=ys.length)):
  () 157 #[.pointer g,j,.agg #[(A,n,c),(C,k,d)],.bool false] w (Jr p w g r m v tb T (j:Int) V.2):=by
 have CB:=@ay;have FB:=@aO;have E6:((j:Int)==0)=false:=by simp;omega
 obtain⟨ss,sh,I⟩:=hb.o.sh;have SH:=ae sh;have HJ:Hx ((aS ss)[j]?=some zs):=ae (by rw[I];exact hL);have M:Hx (m.cs[16]?=some (.slice J.SA J.ns J.sc)):=hc.o.cS true;have hy6:ys.length<=1000000:=by have h1:=(aN zs ys).1 F;obtain⟨n9,g1,g2,g3⟩:=cP h1.1;omega
 clear sh I hi;go_in;go_upto_region 1 with fail;refine aE (λu0 Ff k0=>?_);obtain⟨G,hG⟩:=lg w.1.size;have Bo:Hx (¬m.U g r G):=ae λhx=>by have:=(h.o.lt G hx).2;omega
 rw[<-hG]at k0⊢;clear hG;go_upto_region 7 with(go_at_call 154;refine(w7 (p:=p) SH (ae h.o.at) E hT M HJ F).mono ?_;rintro e u ⟨A4,c4,B4,d4,rfl,sA,sX,lA,lX,fA,fX,pu⟩);refine aE (λu1 sQ k1=>?_);obtain⟨Z,O⟩:=lg u.1.size;have Q:Hx (¬m.U g r Z):=ae λhx=>by have:=(h.o.lt Z hx).2;have:=ai (w:=w) (w':=u);omega
 rw[<-O]at k1⊢;clear O;go_upto_region 9 with fail;refine a6 p (λw9=>Bx w9 G 28 #[(A,n,c),(C,k,d)]/\Bx w9 Z 28 #[.slice A4 zs c4,.slice B4 ys d4]) ao ⟨aq,aq⟩ (λS _=>?_);refine bT 0 ?_;refine bT 1 ?_;refine bT 2 ?_;refine bT 3 ?_;refine bT 4 ?_;refine bT 5 ?_;refine aK 6 λK hK=>?_;go_simp;refine(GD hy6 hn XE y hV).mono ?_;rintro e S ⟨A5,c5,B5,d5,rfl,sA5,sX5,lA5,lX5,fA5,fX5,_⟩;dsimp only;refine aG hK ?_ ⟨aR p _,⟨aq,aq⟩⟩;refine aK 7 λK hK=>?_;go_simp;refine(BB (p:=p) (ae (h.o.at (w':=S))) E hT r8).mono ?_;rintro e9 u9 ⟨rfl,m3,v3,X,Y,Fq,l⟩;dsimp only;have p9:aj u9 p:=l.o.prev (h.o.at (w':=S));have Mg:Bx u9 G _ _:=⟨l.o.kf.ak (Bx.ak (w:=S)) Bo⟩;have kH9:Bx u9 Z _ _:=⟨l.o.kf.ak (Bx.ak (w:=S)) Q⟩;have HTW:Hx (d6 w u9 g r m m3):=ae ((d6.later g r m (w:=w)).trans l);refine aG hK ?_ ⟨p9,Mg,kH9⟩;refine bT 8 ?_;refine a9 ?_;go_wp2_with fail;go_ret;exact⟨rfl,m3,v3,X,Y,Fq,HTW⟩
end
variable{GB q:Nat}{jw:Bool->Tb}
structure sD(w:World)(q g r GB:Nat)(m:kE)(t:Tn):Prop where
 te:TE w t
 oa:∀b,AF t.A b->b<w.1.size/\¬m.U g r b/\b≠GB/\q<=b
 ob:∀b,AF t.B b->b<w.1.size/\¬m.U g r b/\b≠GB/\q<=b
structure ho(p w:World)(J:L3)(g r GB:Nat)(m:kE)(e:si)(gs:List Tn)(X:Tn):Prop where
 ms:MS w p.1.size g r m e.A e.tb
 cs:nK J r m.cs
 lo:m.cs[17]?=some (.int .i64 e.lo)
 gr:m.cs[18]?=some (.slice GB J.np J.np)
 row:aU w p.1.size 28 2 (some ⟨GB,0,none⟩) J.np J.np (tc gs)
 gl:gs.length=J.np
 gv:gs.map Tn.tv=e.G
 x0:m.cs[19]?=some (.slice X.A X.zs.length X.c)
 x1:m.cs[20]?=some (.slice X.B X.xs.length X.d)
 xv:X.tv=e.X
 ou:sD w p.1.size g r GB m X
 qd:∀t∈gs,sD w p.1.size g r GB m t
 GU:¬m.U g r GB
variable{B:Nat}{m m':kE}{e e':si}{v:da}{T:Bool->Int->Option (List Int)}{gs:List Tn}{X:Tn}
def sD.step(h:sD w q g r GB m t)(l:Kf (m.U g r) (m'.U g r) w w'):sD w' q g r GB m' t:=by
 have key:∀b,(b<w.1.size/\¬m.U g r b/\b≠GB/\q<=b)->(b<w'.1.size/\¬m'.U g r b/\b≠GB/\q<=b):=λb ⟨y,z,D⟩=>⟨bu y l.size,λE=>(l.new b E).elim z λF=>absurd y (hC.2 F),D⟩;exact⟨⟨l.rd h.te.1 λb hb=>(h.oa b hb).2.1,l.rd h.te.2.1 λb hb=>(h.ob b hb).2.1,h.te.2.2⟩,λb hb=>key b (h.oa b hb),λb hb=>key b (h.ob b hb)⟩
def ho.step(h:ho p w J g r GB m e gs X)(hm:MS w' p.1.size g r m' v tb)(ht:d6 w w' g r m m'):ho p w' J g r GB m' {e with A:=v,tb:=tb,T:=T} gs X:=by
 have hs:=ht.sm;refine⟨hm,h.cs.same hs,(hs 17 am am am am).trans h.lo,(hs 18 am am am am).trans h.gr,?_,h.gl,h.gv,
  (hs 19 am am am am).trans h.x0,(hs 20 am am am am).trans h.x1,h.xv,h.ou.step ht.kf,λt l=>(h.qd t l).step ht.kf,λy=>?_⟩
 exact ht.kf.row h.row λb hb=>by rw[<-dw.1 hb];exact h.GU
 rcases ht.kf.new GB y with h9|h9;exact h.GU h9;have:=(h.row.af (dw.2 rfl)).2.1;omega
def ho.at(h:ho p w J g r GB m e gs X)[aT w w']:ho p w' J g r GB m e gs X:=
 h.step (T:=e.T) h.ms.at (d6.later g r m)
def ho.lC(h:ho p w J g r GB m e gs X):p<=GB/\GB<w/\p<=g/\g<w:=⟨(h.row.af (dw.2 rfl)).1,(h.row.af (dw.2 rfl)).2.1,h.ms.gB,h.ms.old.lt⟩
def ho.emit(h:ho p w J g r GB m e gs X)(hm:MS w' p.1.size g r {m with cs:=m.cs.setIfInBounds 17 y} e.A e.tb)(l:Kf (m.U g r) (m.U g r) w w'):ho p w' J g r GB {m with cs:=m.cs.setIfInBounds 17 y} {e with lo:=y} gs X:=by
 have z:=(dP.1 h.lo).1;refine⟨hm,h.cs.BC am _,?_,?_,?_,h.gl,h.gv,?_,?_,h.xv,h.ou.step l,λt D=>(h.qd t D).step l,h.GU⟩;exact ty z;exact(eX am).trans h.gr;exact l.row h.row λb hb=>by rw[<-dw.1 hb];exact h.GU
 exact(eX am).trans h.x0;exact(eX am).trans h.x1
def ho.dV(h:ho p w J g r GB m e gs X){X':Tn}(hm:MS w' p.1.size g r {m with cs:=(m.cs.setIfInBounds 19 (.slice X'.A X'.zs.length X'.c)).setIfInBounds 20 (.slice X'.B X'.xs.length X'.d)} e.A e.tb)(F:Kf (m.U g r) (m.U g r) w w')(y:TE w' X')
  (G:∀b,AF X'.A b->b<w'.1.size) (hb:∀b,AF X'.B b->b<w'.1.size) (I:bG w.1.size X'.A) (K:bG w.1.size X'.B):
  ho p w' J g r GB {m with cs:=(m.cs.setIfInBounds 19 (.slice X'.A X'.zs.length X'.c)).setIfInBounds 20 (.slice X'.B X'.xs.length X'.d)} {e with X:=X'.tv} gs X':=by
 have z:=(dP.1 h.x0).1;have D:=(dP.1 h.x1).1;have L:=h.lC.2.1;have key:∀{C:bF},bG w.1.size C->(∀b,AF C b->b<w'.1.size)->∀b,AF C b->b<w'.1.size/\¬m.U g r b/\b≠GB/\p.1.size<=b:=λ{C} M N b l=>by have O:=N b l;obtain⟨P,Q,rfl⟩:=l;have R:=M.o P Q;exact⟨O,λl=>by have:=(h.ms.lt _ l).2;omega,om,by have:=h.lC.1;omega⟩
 refine⟨hm,(h.cs.BC am _).BC am _,?_,?_,?_,h.gl,h.gv,?_,?_,rfl,⟨y,key I G,key K hb⟩,λt E=>(h.qd t E).step F,h.GU⟩;exact((eX am).trans (eX am)).trans h.lo;exact((eX am).trans (eX am)).trans h.gr;exact F.row h.row λb hb=>by rw[<-dw.1 hb];exact h.GU
 rw[eX am];exact ty z;exact ty (by simpa using D)
variable{l:Nat}{O:List Int}{cap kd:Int}{s:jv}
variable{t:Tb}{P:List TV}{x:TV}{b:Bool}
def D3:∀{t:Tb} {lo:Int},hZ t->(∀y∈t,lo<y.1/\y.1<=n)->(t.length:Int)<=max 0 (n-lo)
 |[],lo,_,_=>by simp;omega
 |y::t,lo,hr,h=>by have D:=h y cm;have E:=D3 (t:=t) (lo:=y.1) (iE.1 hr).2 λq hq=>⟨(iE.1 hr).1 q hq,(h q (dp _ hq)).2⟩;simp only[dj];omega
def cV.VN(h:cV v tb T)(D:∀id xs,T b id=some xs->1<=id/\id<=(n:Int)):(tb b).length<=n:=by
 have:=D3 (n:=n) (lo:=0) (h.so b) λy E=>by obtain⟨xs,F,_⟩:=h.hs b y E;have:=D _ _ F;omega
 omega
def xf3(h:Γ:=by split at y;rename_i D;exact⟨D.1,D.2.1⟩;cases y):=h
def gU.ids(h:gU N O L l P x cap s e):∀b id xs,e.T b id=some xs->1<=id/\id<=(N.nodes.length:Int):=λb id xs y=>by
 cases b;rw[h.tt]at y;exact xf3;rw[h.gg]at y;exact xf3
def wy(p:aa)(J:L3)(g r GB:Nat)(N:bm)(O:au)(L:f0)(l:Nat)(P:List TV)(x:TV)(cap:Int)(D:jv)(a:da)(k:Nat)(E:Ending)(w':aa):Prop:=
 E=.returned an/\∃m' e' y F,Hx (ho p w' J g r GB m' e' y F)/\Hx (gU N O L l P x cap D e')/\Hx (e'.A.nx<=a.nx+k/\e'.A.mv<=a.mv+k)/\aj w' p
def D4[aT p w](hB:Hx (xH p J N L P x))(c:fQ N O L l P x)(Q:gU N O L l P x cap s e)(hS:ho p w J g r GB m e gs X)(hc:lG (dt N cap) s kd id=0)(hk:kd=1\/kd=2)(hn:N.nodes.length<=200)(R:e.A.nx<=1000000000000)(S:e.A.mv<=1000000000000):
  () 97 #[.pointer g,id] w (wy p J g r GB N O L l P x cap (g4 (dt N cap) s kd id) e.A 1):=by
 obtain⟨⟨U,V,h3,Y,h5⟩,D⟩:=Q.comp c hc hk;obtain⟨q1,q2,q3⟩:=c.val U V;obtain⟨v,hv,hE,Z,hi,hm⟩:=c.hN.at (bn.2 ⟨U,V⟩);have E:=kQ c.hN c.hF;obtain⟨k,F⟩:=lh ((id-1).toNat);have hid:id=(k:Int)+1:=by omega
 have y:id=((k+1:Nat):Int):=om;have G:id.toNat=k+1:=om;rw[F]at hv;rw[hi]at Y;have sI:∀z∈v.ins,UY L e.T (dU N P x) N.nodes.length z:=λz hz=>(Y z hz).imp (λh=>h) λ⟨a1,a2,a3⟩=>by obtain⟨b1,b2,_⟩:=c.val a1 a2;exact⟨a1,a2,a3,b1,b2⟩
 have Hv:=tj.pick c.hN c.hF E (v:=v) λz hz=>(Y z hz).imp (λh=>h) λh=>c.hN.mem.2 (bn.2 ⟨h.1,h.2.1⟩);have I:=E.eq id (c.hN.mem.2 (bn.2 ⟨U,V⟩)) v (by rw[F];exact hv);rw[F]at I;have K:((dU N P x).getD id.toNat T0).2.length=fD L id:=q3
 have:=Jo (p:=p) (w:=w) (g:=g) (r:=r) (m:=m) (v:=e.A) (tb:=e.tb) (T:=e.T) (k:=k) (nd:=v) (vals:=dU N P x) (zs:=L.getD id.toNat []) (xs:=((dU N P x).getD id.toNat T0).2) hB (ae hS.ms) (ae hS.cs) (ae Q.mb) hv (ae E.zero) (ae c.hN.len) sI
  (ae (by have:=cq List.length c.hF.ps;simpa using this)) (ae (c.hF.par hv).1) (ae Hv.1) hE (ae Z.symm) (ae (by
   have h9:k+1<L.length:=by rw[c.len];omega
   rw[G,aQ,a5 h9];rfl)) (ae (by rw[I];rfl)) (ae (by rw[<-q1];exact q2.1)) (ae (by rw[<-y];exact h3)) (by rw[K];omega) R S (aL (Q.mb.VN (Q.ids false)) hn)
 rw[<-hid]at this;refine this.mono ?_;rintro e9 w' ⟨rfl,m',v',jw,HM,HB,HV,HT⟩;obtain⟨f1,f2,f3,f4,f5⟩:=HV.o;rw[K]at f1 f2;have M:=HB.o;rw[<-y]at M;exact⟨rfl,m',_,gs,X,ae (hS.step HM HT),ae (D v' jw M f1 f2 f3),ae ⟨ei f4,f5⟩,HT.o.prev hS.ms⟩
def Q7[aT p w](c:fQ N O L l P x)(D:gU N O L l P x cap s e)(hS:ho p w J g r GB m e gs X)(F:lG (dt N cap) s 3 id=0):
  () 98 #[.pointer (some ⟨g,9,none⟩),id] w (wy p J g r GB N O L l P x cap (g4 (dt N cap) s 3 id) e.A 1):=by
 obtain⟨⟨Q,R,G⟩,y⟩:=D.aa4 c F;refine(IZ (p:=p) (s:=false) (ae hS.ms) (ae D.mb) G).mono ?_;rintro S w' ⟨rfl,m',v',jw,I,K,M,E⟩;obtain⟨f1,f2,f3,f4,f5⟩:=M.o;exact⟨rfl,m',_,gs,X,ae (hS.step I E),ae (y v' jw K f1 f2 f3),ae ⟨by show v'.nx<=_;omega,by show v'.mv<=_;omega⟩,E.o.prev hS.ms⟩
def Q8[aT p w](R:Hx (xH p J N L P x))(c:fQ N O L l P x)(I:J.l=l)(K:gU N O L l P x cap s e)(hS:ho p w J g r GB m e gs X)(S:lG (dt N cap) s 4 id=0):
  () 99 #[.pointer g] w (wy p J g r GB N O L l P x cap (g4 (dt N cap) s 4 id) e.A 1):=by
 obtain⟨U,D⟩:=K.emit c S;have l1:=c.hN.oo;have l2:=c.hN.lE;obtain⟨M,F,V⟩:=c.val (z:=(l:Int)) om om;rw[aZ]at M F V;have E:=F.ne;have G:((dU N P x).getD l T0).2[0]?=some (((dU N P x).getD l T0).2.getD 0 0):=by
  generalize((dU N P x).getD l T0).2=ys at E;cases ys with
  |nil=>exact absurd rfl E
  |cons y t=>rfl
 refine(VK (p:=p) (zs:=L.getD l []) (lo:=e.lo) R (ae hS.ms) (ae hS.cs) (ae K.mb) (ae (by rw[I];exact U)) (ae (by
  have Y:l<L:=by rw[c.len];omega
  rw[I,aQ,a5 Y];rfl)) (ae (by rw[<-M];exact F.1)) (ae hS.lo) G).mono ?_
 rintro e9 w' ⟨rfl,Z,Q⟩;exact⟨rfl,_,_,gs,X,ae (hS.emit Z Q),ae D,ae ⟨cz _,cz _⟩,Q.o.prev λb hb=>(hS.ms.lt b hb).1⟩
def Q9[aT p w](R:Hx (xH p J N L P x))(c:fQ N O L l P x)(G:J.l=l)(F:gU N O L l P x cap s e)(hS:ho p w J g r GB m e gs X)(S:lG (dt N cap) s 5 id=0)(U:N.nodes.length<=200)(I:e.A.nx<=1000000000000)(K:e.A.mv<=1000000000000):
  () 100 #[.pointer g] w (wy p J g r GB N O L l P x cap (g4 (dt N cap) s 5 id) e.A 1):=by
 obtain⟨⟨V,h2,M⟩,D⟩:=F.acs c S;have l1:=c.hN.oo;have l2:=c.hN.lE;have y:=uL (c.hN.right c.hF (z:=(l:Int)) om om);rw[aZ]at y;refine(VL (p:=p) (zs:=L.getD l []) (xs:=(nH (L.getD l [])).2) R (ae hS.ms) (ae hS.cs) (ae F.mb) (ae (by rw[G];exact V)) (ae (by
  have Y:l<L:=by rw[c.len];omega
  rw[G,aQ,a5 Y];rfl)) rfl (ae y.1) (by rw[M];omega) I K (aL (F.mb.VN (F.ids true)) U)).mono ?_
 rintro e9 w' ⟨rfl,m',v',jw,Z,HB,HV,Q⟩;obtain⟨f1,f2,f3,f4,f5⟩:=HV.o;rw[M]at f1 f2;have E:=HB.o;rw[G]at E;exact⟨rfl,m',_,gs,X,ae (hS.step Z Q),ae (D v' jw E f1 f2 f3),ae ⟨ei f4,f5⟩,Q.o.prev hS.ms⟩
variable{cp:Nat}
def ex0(cap:Nat)(P:List TV):si:=⟨ar0 cap,λ_=>[],λ_ _=>none,List.replicate P.length T0,T0,0⟩
def Z9(n i:Nat):(List.replicate n false).getD i false=false:=by
 rw[aQ];by_cases h:i<n;simp[h];simp[h]
def abb(h:1<=l):(q2 N L l P).1.getD 0 T0=T0:=by
 unfold q2;dsimp only;rw[aQ,kH om];rfl
def acD(c:fQ N O L l P x)(h:cp<=16777216):gU N O L l P x (cp:Int) (l6 N.nodes.length) (ex0 cp P):=by
 have hb:cD N O L l P x (l6 N.nodes.length).done.toNat=q2 N L l P:=rfl;have hp:∀id:Nat,1<=id->(l6 N.nodes.length).bl.getD id false=false:=λid j=>by show((List.replicate (N.nodes.length+1) false).set 0 true).getD id false=false;rw[ej aD,ag om];exact Z9 _ _
 have hg:∀id:Nat,(l6 N.nodes.length).aI.getD id false=false:=λid=>Z9 _ _;refine⟨⟨Xh h,λ_=>List.Pairwise.nil,λ_ e r=>(by cases r),λ_ _ _ b=>(by cases b),λ_ _ e f r=>(by cases r)⟩,rfl,rfl,eI _,rfl,λid=>?_,λid=>?_,λid j u=>?_,λ_=>rfl,eI _,Int.natCast_nonneg _,rfl,?_,λb=>(by cases b),λid j b=>?_,by simp[l6],by simp[l6],by simp[l6]⟩;rw[ag];rfl;rintro⟨j,u,m⟩;rw[hp _ om]at m;cases m;rw[ag];rfl;rintro⟨j,u,m⟩;rw[hg]at m;cases m;rw[hg];exact⟨λb=>(by cases b),λb=>(by cases b.1)⟩;rw[hb,abb c.hN.oo];rfl;rw[hp _ j]at b;cases b
def gU.whole(c:fQ N O L l P x)(h:gU N O L l P x cap s e)(b:nJ (dt N cap) s=true):e.lo=ra N P x/\e.G=(lw N P x).2/\e.X=(lw N P x).1.getD 0 T0:=by
 unfold nJ at b;rw[bK,bZ]at b;have j:(dt N cap).order=O:=c.hN.ord;rw[j]at b;have hr:lw N P x=cD N O L l P x s.done.toNat:=by unfold lw cD;rw[c.hN.ord,c.hL,b.2];dsimp only;rw[aZ,aZ,bY aD]
 exact⟨h.em b.1,by rw[hr];exact h.G,by rw[hr];exact h.X⟩
variable{B PA:Option Addr}{dx m mx np:Nat}{ps:List Tn}{v:Value}
def j6:Tn:=⟨none,0,[],none,0,[]⟩
def Ra(w:aa)(F:Option Addr->Nat->Nat->L3)(N:bm)(L:f0)(P:List TV)(x:TV)(cap:Nat)(e:Ending)(w':aa):Prop:=
 ∃p SA ns sc g r b m gs X,e=.returned (.tuple #[.pointer (some ⟨g,0,none⟩),an])/\aj p w/\Hx (xH p (F SA ns sc) N L P x)/\Hx (ho p w' (F SA ns sc) g r b m (ex0 cap P) gs X)/\aj w' p
variable{K:Option Addr}{cap:Nat}
def BD:∀n,tc (List.replicate n j6)=List.replicate (n*2) (.slice none 0 0)
 |0=>rfl
 |n+1=>by rw[jA,show(n+1)*2=n*2+1+1 from om,jA,jA,<-BD n];rfl
def row_zero(w:aa){n B:Nat}(e:n<=1000000)(b:B<=w):aU (w.alloc (.cells (iu [] n) 28)) B 28 2 (some ⟨w.1.size,0,none⟩) n n (tc (List.replicate n j6)):=
 .mk' (cur:=iu [] n) b (jH w _) (al _) (by unfold maxLen;omega) (rS [] (aM _)) (by
  rw[BD];simp[iu,tc])
def acE{x y z:Value}{g:Nat}[l:aT w u](hg:w<=g):Below w.1.size w ((((u.setCell (g,11) x).setCell (g,12) y).setCell (g,15) z).setCell (g,16) v):=
 (((l.st.setCell (p:=⟨g,11,none⟩) hg _).setCell (p:=⟨g,12,none⟩) hg _).setCell (p:=⟨g,15,none⟩) hg _).setCell (p:=⟨g,16,none⟩) hg _
def xf0(h:Γ:=by exact⟨⟨λj z M=>by simp[j6]at M,λj z M=>by simp[j6]at M,al _,λz hz=>by simp[j6]at hz⟩,λb ⟨ad,G,_⟩=>(by cases G),λb ⟨ad,G,_⟩=>(by cases G)⟩):=h
def Rb[aW w A n B m N][tp:Ts w PA np ps][Sl w XA nx x.1][Sl w XB mx x.2](hf:Hx N.fits)(hs:Hx N.small)(hc:Hx (fQ N O L l P x))(hP:Hx (ps.map Tn.tv=P))(hO:Hx (eB ps))(Q:np<=1000000)(lx:nx<=cx)(UX:mx<=dx)(lp:np<=cp)(lB:m<=d)(S:cap<=16777216):
  () 53 #[.agg #[(A,n,c),(B,m,d),(PA,np,cp),(XA,nx,cx),(XB,mx,dx),(K,k,R),cap]] w (Ra w (λSA ns sc=>⟨A,n,c,B,m,d,PA,np,cp,XA,nx,cx,XB,mx,dx,K,k,R,cap,l,SA,ns,sc⟩) N L P x cap):=by
 have CB:=@ay;have FB:=@aO;have HE:Hx (bo N=0):=hc.o.hE;have HV:Hx (dB N=(O,L,(l:Int))):=hc.o.hL;have la:=jp np Q;have FC:Hx (np=P):=ae (by rw[<-hP.o,bj,<-tp.len]);go_in;go_upto_region 1 with fail;refine aE (λu0 Ff k0=>?_);obtain⟨jb,T⟩:=lg w.1.size;rw[<-T]at k0⊢;clear T;go_upto_region 4 with(go_at_call 61;refine mv (yE hf hs HE HV) λu1 _=>?_);go_upto_region 7 with(go_at_call 28;refine(Dy hf hs HE HV).mono ?_;rintro e u2 ⟨SA,sc,ss,rfl,sh,lsh,xC,sO,fsh⟩);obtain⟨p,hp⟩:=lg u2;subst hp;go_upto_region 10 with(go_at_call 96;refine(Xi (w:=p) S).mono ?_;rintro e J ⟨r,ra,rfl,D,Vp⟩);have U:=ae D;clear D;go_upto_region 11 with fail;refine aE (λu4 I5 k4=>?_);obtain⟨g,hg⟩:=lg J.1.size;rw[<-hg]at k4⊢;have HG:=ae hg;clear hg;go_upto_region 13 with fail;obtain⟨y,E⟩:=lg ((((u4.setCell (g,11) (.pointer r)).setCell (g,12) (.slice SA L sc)).setCell (g,15) (.pointer r)).setCell (g,16) (.slice SA L sc));rw[<-E];have p5:aj y J:=by rw[E];exact⟨acE (w:=J) (u:=u4) (ei HG.o.symm)⟩
 have k5:Bx y g 141 #[(A,n,c),(B,m,d),(PA,np,cp),(XA,nx,cx),(XB,mx,dx),(K,k,R),cap,l,.pointer r,(),an,.pointer r,.slice SA L sc,(),an,.pointer r,.slice SA L sc,an,(),(),()]:=⟨by rw[E];exact(((k4.ak.av 11 _).av 12 _).av 15 _).av 16 _⟩;have V:=ae k5.ak;clear E k4 I5;go_upto_region 14 with fail;obtain⟨X,C⟩:=lg ((y.alloc (.cells (iu [] np) 28)).setCell (g,18) (y,np,np));rw[<-C];have hg5:=V.o.lt;have p7:aj X J:=by rw[C];exact⟨((aP J y).alloc p5.st.size _).setCell (p:=⟨g,18,none⟩) (ei HG.o.symm) _⟩
 have Y:az X g 141 #[(A,n,c),(B,m,d),(PA,np,cp),(XA,nx,cx),(XB,mx,dx),(K,k,R),cap,l,.pointer r,(),an,.pointer r,.slice SA L sc,(),an,.pointer r,.slice SA L sc,an,(y,np,np),(),()]:=by rw[C];exact(V.o.at (w':=y.alloc (.cells (iu [] np) 28))).av 18 _
 have I:aU X p.1.size 28 2 (some ⟨y.1.size,0,none⟩) np np (tc (List.replicate np j6)):=by have h9:=row_zero y (B:=p.1.size) Q ai;refine h9.same λad G=>?_;rw[<-cH G,C];exact ba _ ⟨g,18,none⟩ _ _ (by show y.1.size≠g;omega)
 have B5:=ae Y;have Z:=ae I;clear C Y I la;go_wp2_with fail;go_ret2;have D:=U.o.at (w':=X);have hgn:g=J:=HG.o;have hU:∀b,ra.F r b->b<J.1.size:=λb hb=>(U.o.lt b hb).2;refine⟨p,SA,L.length,sc,g,r,y.1.size,⟨_,ra,λ_ _=>False⟩,List.replicate np j6,j6,rfl,aR w p,ae ⟨aq,⟨ps,aq,hP,hO⟩,aq,aq,lx,UX,lp,lB,⟨ss,sh,xC⟩,hf,hs,hc.o.hF.CI⟩,ae ⟨⟨D,λs=>⟨B5,⟨none,0,0,0,by cases s<;>rfl,by cases s<;>rfl,.inl ⟨rfl,rfl,λ_ h=>h⟩⟩,List.Pairwise.nil,by show 0<=1000;omega⟩,λs=>by cases s<;>rfl,by rw[hgn];exact ai,λhx=>by have:=hU _ hx;omega,λ_ _ h=>h.elim,λ_ _ h=>h.elim⟩,⟨rfl,rfl,rfl,rfl,rfl,rfl,rfl,λs=>by cases s<;>rfl⟩,rfl,rfl,Z,eY ..,?_,rfl,rfl,rfl,?_,?_,?_⟩,aR p X⟩;show(List.replicate np j6).map Tn.tv=List.replicate P.length T0;rw[List.map_replicate,FC.o];rfl;exact xf0;intro t ht;rw[eH ht];exact xf0;rintro(h9|h9|h9|h9);omega;have:=hU _ h9;omega;exact h9;exact h9
section
variable{b:Nat}{t:Tn}{F':Nat->Prop}
structure jx(w:World)(B vg n:Nat)(ts:List Tn):Prop where
 row:aU w B 28 2 (some ⟨vg,0,none⟩) n n (tc ts)
 len:ts=n
 el:∀t∈ts,TE w t
 off:∀t∈ts,(∀b,AF t.A b->b<w.1.size/\b≠vg)/\∀b,AF t.B b->b<w.1.size/\b≠vg
section
variable{B:Nat}{ts:List Tn}{F:Nat->Prop}
def NZ:∀(ts:List Tn) (i:Nat),i<ts->tc (ts.set i t)=((tc ts).set (i*2) (.slice t.A t.zs.length t.c)).set (i*2+1) (.slice t.B t.xs.length t.d)
 |_::us,0,_=>rfl
 |u::us,i+1,h=>by have e:=NZ us i (by simpa using h);rw[show(i+1)*2=i*2+1+1 from om];show _::_::tc (us.set i t)=_;rw[e];rfl
theorem jx.nL(h:jx w B R n ts):Ts w R n ts:=by
 have j:pX w B R n ts:=⟨by rw[h.len];exact h.row,h.el,λt ht=>⟨λb hb=>⟨((h.off t ht).1 b hb).1,λe=>((h.off t ht).1 b hb).2 (dw.1 e).symm⟩,λb hb=>⟨((h.off t ht).2 b hb).1,λe=>((h.off t ht).2 b hb).2 (dw.1 e).symm⟩⟩⟩;have:=j.nL;rw[h.len]at this;exact this
def jx.kf(h:jx w B R n ts)(e:Kf F F' w w')(hv:¬F R)(hF:∀t∈ts,(∀b,AF t.A b->¬F b)/\∀b,AF t.B b->¬F b):jx w' B R n ts:=
 ⟨e.row h.row λb hb=>by rw[<-dw.1 hb];exact hv,h.len,λt ht=>⟨e.rd (h.el t ht).1 (hF t ht).1,e.rd (h.el t ht).2.1 (hF t ht).2,(h.el t ht).2.2⟩,λt ht=>⟨λb hb=>⟨bu ((h.off t ht).1 b hb).1 e.size,((h.off t ht).1 b hb).2⟩,λb hb=>⟨bu ((h.off t ht).2 b hb).1 e.size,((h.off t ht).2 b hb).2⟩⟩⟩
def jx.at(h:jx w B R n ts)[aT w w']:jx w' B R n ts:=h.kf (F:=λ_=>False) (Kf.later _) (λh=>h) λ_ _=>⟨λ_ _ h=>h,λ_ _ h=>h⟩
def jx.lC(h:jx w B R n ts):B<=R/\R<w:=⟨(h.row.af (dw.2 rfl)).1,(h.row.af (dw.2 rfl)).2.1⟩
def jx.cells(h:jx w B R n ts)(hi:i<n):(∃v,w.cell? (R,i*2)=some v)/\(∃v,w.cell? (R,i*2+1)=some v)/\∀k,w.frozen? ⟨R,k,none⟩=false:=by
 obtain⟨e,hg,l,m,hm,r,ht,-⟩:=h.row.whole;have j:az w R 28 e:=hg;exact⟨⟨_,(j.cell (i*2)).trans (MM om)⟩,⟨_,(j.cell (i*2+1)).trans (MM om)⟩,j.frozen⟩
def jx.av(h:jx w B R n ts)(hi:i<n)(ht:TE w t)(f1:∀b,AF t.A b->b<w.1.size/\b≠R)(f2:∀b,AF t.B b->b<w.1.size/\b≠R):
  jx ((w.setCell (R,i*2) (.slice t.A t.zs.length t.c)).setCell (R,i*2+1) (.slice t.B t.xs.length t.d)) B R n (ts.set i t):=by
 have m:Kf (λb=>b=R) (λb=>b=R) w ((w.setCell (R,i*2) (.slice t.A t.zs.length t.c)).setCell (R,i*2+1) (.slice t.B t.xs.length t.d)):=((Kf.refl (λb=>b=R) w).av (q:=⟨R,i*2,none⟩) rfl _).av (q:=⟨R,i*2+1,none⟩) rfl _;have e:∀y∈ts.set i t,(∀b,AF y.A b->b<w.1.size/\b≠R)/\∀b,AF y.B b->b<w.1.size/\b≠R:=λy j=>by rcases hA j with j|rfl;exact h.off y j;exact⟨f1,f2⟩
 have l:∀y∈ts.set i t,TE w y:=λy j=>by rcases hA j with j|rfl;exact h.el y j;exact ht
 refine⟨?_,by rw[d3];exact h.len,λy j=>⟨m.rd (l y j).1 λb hb=>((e y j).1 b hb).2,m.rd (l y j).2.1 λb hb=>((e y j).2 b hb).2,(l y j).2.2⟩,λy j=>⟨λb hb=>⟨bu ((e y j).1 b hb).1 m.size,((e y j).1 b hb).2⟩,λb hb=>⟨bu ((e y j).2 b hb).1 m.size,((e y j).2 b hb).2⟩⟩⟩;rw[NZ ts i (by rw[h.len];exact hi)];exact(h.row.zd (i:=i*2) _).zd (i:=i*2+1) _
end
end
variable{z0 z1:Value}
def abc(w:aa)(N:bm)(P:List TV)(x:TV)(m:Nat)(e:Ending)(w':aa):Prop:=
 ∃b ts,e=.returned (.tuple #[.slice (some ⟨b,0,none⟩) m m,an])/\jx w' w.1.size b m ts/\Hx (ts.map Tn.tv=dU N P x)/\Hx (∀t∈ts,t.zs.length<=t.c)/\aj w' w
def N0(w:aa):TE w j6:=⟨λj z b=>by simp[j6]at b,λj z b=>by simp[j6]at b,al _,λz e=>by simp[j6]at e⟩
def jx.new(w:aa){n B:Nat}(j:n<=1000000)(r:B<=w):jx (w.alloc (.cells (iu [] n) 28)) B w.1.size n (List.replicate n j6):=
 ⟨row_zero w j r,eY ..,λt ht=>by rw[eH ht];exact N0 _,λt ht=>by
  rw[eH ht];exact⟨λb ⟨y,e,_⟩=>(by cases e),λb ⟨y,e,_⟩=>(by cases e)⟩⟩
theorem Js{w u:aa}[aT w u](hq:w<=q):aj ((u.setCell (q,i) z0).setCell (q,j) z1) w:=
 (((Kf.refl (λb=>b=q) u).av (q:=⟨q,i,none⟩) rfl z0).av (q:=⟨q,j,none⟩) rfl z1).prev λb e=>by rw[e];exact hq
def Zb[a:aW w A n B m N][tp:Ts w PA np ps][sx:Sl w XA nx x.1][xx:Sl w XB mx x.2](hf:Hx N.fits)(hs:Hx N.small)(y:Hx (fQ N O L l P x))(hP:Hx (ps.map Tn.tv=P))(hO:Hx (eB ps))(CD:np<=1000000)(lp:np<=cp)(lB:m<=d)(hM:Hx (R=m+1)):
  () 59 #[.agg #[(A,n,c),(B,m,d)],(PA,np,cp),.agg #[(XA,nx,cx),(XB,mx,dx)]] w (abc w N P x R):=by
 obtain⟨CB,CP,FB⟩:=ia;have HE:Hx (bo N=0):=y.o.hE;have HV:Hx (dB N=(O,L,(l:Int))):=y.o.hL;have uz:Hx ((ps.map Tn.tv).map (·.1)=bH N):=ae (by rw[hP.o];exact y.o.hF.ps);have HX:Hx (x.1=N.dV):=y.o.hF.xs;have F:Hx (TV.ok x):=y.o.hF.CI;have FU:Hx (ap x.1 x.2=true):=y.o.hF.CI.1;have hm:m<=1000:=by rw[a.len];exact hs.o.1
 have B7:R<=1001:=by rw[hM.o];omega
 have hMm:m<R:=by rw[hM.o];omega
 have la:=jp R om;have RR:IntKind.i64.wrap ((m:Int)+1)=(R:Int):=by rw[hM.o,a7];omega
 have J:Hx (m=N.nodes):=a.len;have Ug:O.length<=1000:=by rw[y.o.hN.sB,<-J.o];exact hm
 have Jm:Hx (np=(bH N).length):=ae (by rw[<-uz.o,bj,bj];exact tp.len);have hx4:nx<=1000000:=by rw[sx.len];have:=cG F.o.right;omega
 have hx5:mx<=1000000:=by rw[xx.len];have:=(fu FU).1;omega
 go_in;go_upto_region 1 with fail;refine dg (λu0 p0 k1 k2=>?_);obtain⟨r1,e1⟩:=lg w.1.size;go_upto_region 4 with(go_at_call 24;refine mv (Bl hf hs HE uz hO HX FU om) λu1 _=>?_);go_upto_region 7 with(go_at_call 60;refine(Av hf hs HE HV).mono ?_;rintro e u2 ⟨AO,cO,rfl,VO,pO⟩);have sO:Sl u2 AO O O:=⟨VO.rd,rfl⟩;clear VO e1 r1;go_upto_region 8 with fail;obtain⟨W,hW⟩:=lg (u2.alloc (.cells (iu [] R) 28));obtain⟨vg,M⟩:=lg u2.1.size;have Q:Hx (jx W w.1.size vg R (List.replicate R j6)):=ae (by rw[hW,M];exact jx.new u2 om ai);have pW:aj W u2:=by rw[hW];exact aF
 have HVG:Hx (u2<=vg):=ei M.symm;rw[<-hW,<-M];clear hW M la;go_upto_region 9 with(go_at_call 71;refine(oP hx4 hx5).mono ?_;rintro e u3 ⟨G,G',rfl,sA,sX,fA,fX,Vp⟩;obtain⟨⟨y0,qf⟩,⟨y1,xD⟩,C⟩:=(Q.o.at (w':=u3)).cells (i:=0) om;have I2:=C (0*2);have sf:=C (0*2+1);clear C;rw[e6]at qf xD I2 sf)
 obtain⟨W4,T⟩:=lg ((u3.setCell (vg,0) (.slice (some ⟨G,0,none⟩) x.1.length x.1.length)).setCell (vg,1) (.slice G' x.2.length x.2.length));have hvW:=(Q.o.at (w':=W)).lC.2;have Ko:Hx (jx W4 w.1.size vg R ((List.replicate R j6).set 0 ⟨some ⟨G,0,none⟩,x.1.length,x.1,some ⟨G',0,none⟩,x.2.length,x.2⟩)):=ae (by
  rw[T];exact(Q.o.at (w':=u3)).av (i:=0) (t:=⟨some ⟨G,0,none⟩,x.1.length,x.1,some ⟨G',0,none⟩,x.2.length,x.2⟩) om (TE.of sA sX (al _) F.o.2) (λb hb=>⟨gh sA (fM F.o.right) b hb,by obtain⟨ad,U,rfl⟩:=hb;have:=fA.o ad U;omega⟩) (λb hb=>⟨gh sX F.o.ne b hb,by obtain⟨ad,U,rfl⟩:=hb;have:=fX.o ad U;omega⟩))
 have p4:aj W4 u2:=by rw[T];exact Js HVG
 have uA:Hx (((List.replicate R j6).set 0 ⟨some ⟨G,0,none⟩,x.1.length,x.1,some ⟨G',0,none⟩,x.2.length,x.2⟩).map Tn.tv=Qg N x):=ae (by
  obtain⟨q,hq⟩:∃q,R=q+1:=⟨R-1,om⟩;have hqm:q=N.nodes.length:=by have:=hM.o;have:=J.o;omega
  rw[hq,jA,iS,di,List.map_replicate,hqm];rfl)
 have Gt:Hx (∀t∈(List.replicate R j6).set 0 ⟨some ⟨G,0,none⟩,x.1.length,x.1,some ⟨G',0,none⟩,x.2.length,x.2⟩,t.zs.length<=t.c):=λt ht=>by rcases hA ht with ht|rfl;rw[eH ht];exact al _;exact al _
 rw[<-T];clear T qf xD I2 sf;go_wp2_with fail;go_loopw [45] (λs45 wr=>∃(j:Nat) (ts:List Tn),j<=O/\s45=.int .i64 (j:Int)/\Hx (jx wr w.1.size vg R ts)/\Hx (ts.map Tn.tv=LI N P (Qg N x) (O.take j))/\Hx (∀t∈ts,t.zs.length<=t.c)/\aj wr u2) (λs45 _=>O.length-(intOf s45).toNat);exact⟨0,_,aM _,rfl,Ko,uA,Gt,p4⟩;clear Q Ko uA Gt;obtain⟨j,ts,hj,rfl,Y,HTR,HCR,hp⟩:=hrel;have sO2:Sl wr AO O O:=aq;by_cases bE:j<O
 .obtain⟨b1,o1,z,rfl,pq,cz,hz⟩:=sO2.get bE;have hid:=y.o.hN.kh.ids z (aC hz.o);have aaa:=y.o.hN.rW hz.o;have VA:=vU y.o.hN y.o.hF j (fq bE);obtain⟨v,hv,VP,Td,f1,f2,f3,f4,f5,f6,f7⟩:=VA.node y.o.hN y.o.hF hid aaa;obtain⟨h1,h2⟩:=bn.1 hid;obtain⟨q,rfl⟩:∃q:Nat,z=(q:Int):=⟨z.toNat,om⟩;obtain⟨k,hk⟩:∃k,q=k+1:=⟨q-1,om⟩;(have sY:((q:Int)-1).toNat=k:=by omega);rw[sY]at hv f3 f4 f6 f7;have HK:=ae hv;(have GG:k<m:=by rw[J.o];exact(a8.1 hv).1);have Zc:q<R:=om;rw[<-HTR.o]at f1 f2 f6 f7;obtain⟨b0,q0,o,A1,n1,F8,I,ni,ci,ins,P',np',cp',r,rfl,ob,⟨v0,v1,v2,v3,v4,v5,v6,v7,v8,v9⟩,s1,si,sp,l1,li,lp',ik,oj⟩:=a.node GG;obtain rfl:v=⟨o,ins,aS r⟩:=cH (hv.symm.trans oj.o);have GH:=hf.o.2.2 _ (aC hv);(have qk:n1<=1000000:=by rw[s1.len];have h9:o.S.length<=100000:=GH.2.1;omega);have qm:ni<=1000000:=by rw[si.len];have h9:ins.length<=100000:=GH.1;omega
  obtain⟨UV,D⟩:=lh (cM (ts.map Tn.tv) ins);have Jt:(cM (ts.map Tn.tv) ins).map (·.1)=d8 ⟨o,ins,aS r⟩ L:=f1;have Mh:∀t∈cM (ts.map Tn.tv) ins,TV.ok t:=f2;have VQ:Hx (∀z∈ins,∀t,ts[z.toNat]?=some t->ap t.zs t.xs=true/\t.zs.length<=t.c):=λz hz t ht=>⟨by
   have h9:=Mh ((ts.map Tn.tv).getD z.toNat T0) (bw.2 ⟨z,hz,rfl⟩);rw[aQ,bf,ht]at h9;exact h9.1,HCR.o t (aC ht)⟩
  have VR:Hx (∀z∈ins,0<=z/\z<(R:Int)):=λz hz=>by have h9:=y.o.hN.kc ⟨o,ins,aS r⟩ VP z hz;have:=hM.o;have:=J.o;omega
  rw[D]at Jt Mh;have wv:=ae D;(have sW:UV.length<=1000000:=by rw[<-D,cM,bj,<-si.len];exact qm);obtain⟨PV,Z⟩:=lh (iy N P k ⟨o,ins,aS r⟩);rw[Z]at f3 f4;obtain⟨V,xK⟩:=lh (cJ o (PV.map (·.1)) (UV.map (·.1)));obtain⟨X,oe⟩:=lh (vL o PV UV);(have hfv:uI N P (ts.map Tn.tv) k ⟨o,ins,aS r⟩=(V,X):=by unfold uI;rw[Z];show(cJ o (aS r) ((cM (ts.map Tn.tv) ins).map (·.1)),vL o PV (cM (ts.map Tn.tv) ins))=_;rw[D,<-xK,oe,f3]);rw[hfv]at f7;have HFV:=ae hfv;have lZ:=ae f7;have zk:Hx (dr o (PV.map (·.1)) (UV.map (·.1))=0):=ae (by rw[f3,Jt];exact f5);have s7:=ae xK;have iH:=ae oe;obtain⟨f,hF⟩:=lh (dJ N k);obtain⟨t,hT⟩:=lh (f+(aS r).length);have HF:=ae hF;have HT:=ae hT;(have QI:t<=np:=by rw[Jm.o,<-hT,<-hF,show(aS r).length=(⟨o,ins,aS r⟩:et).P.length from rfl,<-jf hv];unfold dJ bH;exact kR _ _);obtain⟨A2,ko,vi⟩:=pY PA (show f<=t by omega) QI lp;obtain⟨qn,Mi⟩:=lh (t-f);have tq:Ts wr A2 qn ((ps.drop f).take qn):=by rw[<-Mi];exact vi wr ps aq
  rw[Mi]at ko;obtain⟨qs,GR⟩:=lh ((ps.drop f).take qn);rw[GR]at tq;have HQP:Hx (qs.map Tn.tv=PV):=ae (by
   rw[<-GR,<-Z,gI,kK,hP.o,<-hF];unfold iy;rw[show(⟨o,ins,aS r⟩:et).P.length=qn from by show(aS r).length=qn;omega])
  have GI:Hx (eB qs):=λt ht=>hO.o t (by rw[<-GR]at ht;exact dA (cE ht));(have hwk:IntKind.i64.wrap ((q:Int)-1)=(k:Int):=by rw[a7];omega);(have VS:(q:Int)=(k:Int)+1:=by omega);have HQK:=ae VS;have HKQ:=ae hk;have VT:=hz;(have i1:(j:Int)<(O.length:Int):=by omega);(have acF:(k:Int)<(m:Int):=by omega);(have acG:(q:Int)<(R:Int):=by omega);have acH:Hx (∀z∈X,bb z):=f7.2;clear hid aaa VA hv VP Td f1 f2 f3 f4 f5 f6 f7 h1 h2 sY oj GH D Jt Mh Z xK oe hfv hF hT vi Mi GR VS hk hz;go_upto_region 13 with fail;refine aE (λu4 I5 k4=>?_);go_upto_region 14 with(go_at_call 63;refine mv (Bi lB hf hs HQK HK HF HT) λE _=>?_);go_cut [17,18] (λq9 U wx=>∃G A' c' B' d',q9=.pointer (some ⟨G,0,none⟩)/\U=.int .i64 0/\E.1.size<=G/\Bx wx G 28 #[.slice A' V c',.slice B' X d']/\Sl wx A' V V/\Sl wx B' X X/\Le V.length c'/\Le X.length d'/\bG E.1.size A'/\bG E.1.size B'/\aj wx E);case first=>
   have tv5:Ts E vg R ts:=(Y.o.at (w':=E)).nL;refine ab E ao (λux _=>?_)
   repeat' (first
    |(refine j8 0 ?_
      refine qL [0,1,2,3,4,5,6,7] ?_;refine jL 8 70 ?_)
    |(refine j8 11 ?_
      refine qL [11,12] ?_;refine jL 13 74 ?_)
    |(refine j8 16 ?_
      refine jL 16 18 ?_)
    |(intro (tg:Tg 9) K hK
      clear tg;go_simp
      refine(I1 qm VQ VR wv).mono ?_
      rintro e ux ⟨A3,c3,us,rfl,TU,LU,Me,Mf,_⟩;dsimp only;refine aG hK ?_;clear hK K)
    |(intro (tg:Tg 10) K hK
      clear tg;go_simp
      refine(NY qk sW GI Me HQP Mf zk s7 iH).mono ?_
      rintro e ux ⟨A',c',B',d',rfl,sA,sX,lA,lX,fA,fX,_⟩;dsimp only;refine aG hK ?_;clear hK K)
    |(intro (tg:Tg 14) K hK
      clear tg;go_simp;refine aG hK ?_;refine bc (λux _ _=>?_))
    |(intro (tg:Tg 15) K hK
      clear tg;rename World=>wN;go_simp;refine qt hK (λ_=>?_) ⟨br (aP E wN) ai _ _⟩;clear hK K)
    |refine fg 9 ?_
    |refine fg 10 ?_
    |refine fg 15 ?_
    |refine fg 14 ?_
    |refine mf 9 14 ?_ ?_
    |refine mf 10 14 ?_ ?_
    |refine BU ?_)
   all_goals go_wp2_with fail;go_meet;refine⟨_,A',_,B',_,rfl,rfl,ai,⟨(Bx.ak (w:=wN)).bP _ _⟩,?_,?_,lA,lX,fA.less ai,fX.less ai,⟨br (aP E wN) ai _ _⟩⟩;exact xf1;exact xf2
  obtain⟨G4,A4,c4,B4,d4,rfl,rfl,hvG,kG,sA4,sX4,lA4,lX4,fA4,fX4,pv⟩:=hcut;obtain⟨W9,rfl⟩:=lg wc;have YN:=ae (Y.o.at (w':=W9));obtain⟨⟨y0,qf⟩,⟨y1,xD⟩,C⟩:=YN.o.cells (i:=q) Zc;have I2:=C (q*2);have sf:=C (q*2+1);clear C ko;go_wp2_with fail;go_roundw;have hvr:=Y.o.lC.2;have hru:wr.1.size<=E.1.size:=ai;have acI:=YN.o.av (i:=q) (t:=⟨A4,c4,V,B4,d4,X⟩) Zc (TE.of sA4 sX4 lX4.le acH) (λb hb=>⟨gh sA4 (fM lZ.o.right) b hb,by obtain⟨ad,U,rfl⟩:=hb;have:=fA4.o ad U;omega⟩) (λb hb=>⟨gh sX4 lZ.o.ne b hb,by obtain⟨ad,U,rfl⟩:=hb;have:=fX4.o ad U;omega⟩);refine⟨j+1,_,om,by go_num,ae acI,ae ?_,ae λt ht=>?_,Js HVG⟩;rw[take_at VT.o];unfold LI;rw[lN];show _=Uq N P (LI N P (Qg N x) (O.take j)) (q:Int);unfold Uq;rw[show((q:Int)-1).toNat=k from by have:=HKQ.o;omega,HK.o];dsimp only;rw[<-HTR.o,HFV.o,jJ,aZ];rfl;rcases hA ht with ht|rfl;exact HCR.o t ht;exact lA4.le;simp[intOf];omega
 obtain rfl:j=O:=om;go_wp2_with fail;go_ret2;refine⟨vg,ts,rfl,Y,ae ?_,HCR,aR w wr⟩;rw[HTR.o,dR,dU,y.o.hN.ord]
end Go.Proofs.YtmkjnlifimffkaaGreat
