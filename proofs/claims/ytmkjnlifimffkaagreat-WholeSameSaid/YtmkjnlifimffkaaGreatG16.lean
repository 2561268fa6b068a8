/- Lemmas. -/
import Derived.Test.YtmkjnlifimffkaaGreatG14
namespace Go.Proofs.YtmkjnlifimffkaaGreat
open Go.RowKit Tryz
set_option linter.all false
set_option maxRecDepth 100000
set_option maxHeartbeats 0
variable{Γ:Prop}
attribute[local irreducible]Calls
variable{p u w' w1:World}{c c' cx d e g i j r wd:Nat}{m2:kP}{v':da}{tb:Bool->Tb}{A A' C D xW:Option Addr}{h id z:Int}{xs ys zs:List Int}{ss:List Sp}{us:List Tn}{t:Tn}{J:OR}{L:List (List Int)}{U1 vals:List TV}{kx:Array Value}
section
variable{w:World}{B k n o nx:Nat}{m m':kP}{v:da}{T:Bool->Int->Option (List Int)}{s:Bool}{ts:List Tn}{N:a6}{P:List TV}{x:TV}{nd:dV}{cs:Array Value}
def la(l:List dV)(k:Nat):((l.take k).flatMap (·.P)).length<=(l.flatMap (·.P)).length:=by
 conv=>rhs;rw[<-d3 k l]
 rw[nK,bh];omega
theorem Sl.kR{u w:ab}[l:aM u w]{A:bz}{n:Nat}{zs:au}(h:Sl u A n zs){p:Nat}(hp:u<=p)(v0 b:Value):Sl ((w.setCell (p,0) v0).setCell (p,1) b) A n zs:=
 ⟨h.rd.below (bA l.st hp v0 b),h.len⟩
def ol(ts:List Tn):ts.map (·.zs)=(ts.map Tn.tv).map (·.1):=by rw[nO];rfl
def Rj{o:ir}{b:List TV}{m:Nat}[Sl w A n o.S][I6 o.k](E:n<=1000000)[Ts w D m ts][Ts w C nx us][Le nx cx](F:nx<=1000000)(G:Z (eP ts))(I:Z (eP us))(hP:Z (ts.map Tn.tv=b))(l:Z (us.map Tn.tv=U1))(hE:Z (dr o (b.map (·.1)) (U1.map (·.1))=0)){V X:au}
  (hV:Z (cy o (b.map (·.1)) (U1.map (·.1))=V)) (y:Z (xA o b U1=X)):
  () 102 #[.agg (gM o.kd o.k o.wd o.st o.sd o.fr o.tt (A,n,d)),(D,m,e),(C,nx,cx)] w (dM w V X 0):=by
 rw[<-hP.o,<-l.o]at hE hV y;exact adb E F G I (by rwa[ol,ol]) (U (by rw[ol,ol];exact hV)) y
theorem d6.slk{K:Nat}(h:d6 w w' g r m m')(l:∀b,m.qaa g r b->b<K)(hs:Sl w A n zs)(y:bL K A):Sl w' A n zs:=
 h.kf.sl hs λb hb E=>by
 obtain⟨F,e,rfl⟩:=hb;have G:=y.o F e;have I:=l _ E;omega
def UJ[aM p w]{id:Int}(hid:id=(j:Int))(sh:Z (dX p xW n ss))(h:Z (MS w p.1.size g r m v tb))(cA:Z (cM v tb T))(G:Z (T false (j:Int)=none))(hs:Z (m.cs[12]?=some (.slice xW n c)))(I:Z ((aX ss)[j]?=some zs))(hr:Z (aH zs=true))(y:Z (bG zs=(wd:Int)))
  (K:1<=wd) (M:wd<=65536) (O:v.lv+wd<=v.cap) (E:v.nx<=1000000000000) (F:v.mv<=1000000000000) (b:(tb false).length<=200):
  () 150 #[.pointer (some ⟨g,9,none⟩),id] w (λe w'=>e=.returned an/\∃m' v' l,Z (MS w' p.1.size g r m' v' l)/\Z (cM v' l (e0 T false (j:Int) (some (List.replicate wd 0))))/\Z (vm v wd v')/\Z (v'.mv<=v.mv+1)/\Z (d6 w w' g r m m')):=by
 subst hid;exact K8 (s:=false) sh h cA G hs I hr y K M O E F b
def F9[aM p w]{id:Int}(hid:id=(j:Int))(sh:Z (dX p xW n ss))(h:Z (MS w p.1.size g r m v tb))(cA:Z (cM v tb T))(G:Z (T true (j:Int)=none))(hs:Z (m.cs[16]?=some (.slice xW n c)))(I:Z ((aX ss)[j]?=some zs))(hr:Z (aH zs=true))(y:Z (bG zs=(wd:Int)))
  (K:1<=wd) (M:wd<=65536) (O:v.lv+wd<=v.cap) (E:v.nx<=1000000000000) (F:v.mv<=1000000000000) (b:(tb true).length<=200):
  () 150 #[.pointer (some ⟨g,13,none⟩),id] w (λe w'=>e=.returned an/\∃m' v' l,Z (MS w' p.1.size g r m' v' l)/\Z (cM v' l (e0 T true (j:Int) (some (List.replicate wd 0))))/\Z (vm v wd v')/\Z (v'.mv<=v.mv+1)/\Z (d6 w w' g r m m')):=by
 subst hid;exact K8 (s:=true) sh h cA G hs I hr y K M O E F b
def Za[aM p w](h:Z (MS w p.1.size g r m v tb))(cA:Z (cM v tb T))(b:Z (T false id=some ys))[Sl w C k xs](l:Z (xs.length=ys.length)):
  () 151 #[.pointer (some ⟨g,9,none⟩),id,.agg #[(A,n,c),(C,k,d)]] w (λe w'=>e=.returned an/\∃m' v',Z (MS w' p.1.size g r m' v' tb)/\Z (cM v' tb (e0 T false id (some xs)))/\Z (v'.lv=v.lv/\v'.pe=v.pe/\v'.cap=v.cap/\v'.nx=v.nx/\v'.mv=v.mv)/\Z (d6 w w' g r m m')):=
 Rb (s:=false) h cA b l
def Dj[aM p w](h:Z (MS w p.1.size g r m v tb))(cA:Z (cM v tb T))(b:Z (T true id=some ys))[Sl w C k xs](l:Z (xs.length=ys.length)):
  () 151 #[.pointer (some ⟨g,13,none⟩),id,.agg #[(A,n,c),(C,k,d)]] w (λe w'=>e=.returned an/\∃m' v',Z (MS w' p.1.size g r m' v' tb)/\Z (cM v' tb (e0 T true id (some xs)))/\Z (v'.lv=v.lv/\v'.pe=v.pe/\v'.cap=v.cap/\v'.nx=v.nx/\v'.mv=v.mv)/\Z (d6 w w' g r m m')):=
 Rb (s:=true) h cA b l
def Ga{a b:Option (List Int)}:e0 (e0 T s id a) s id b=e0 T s id b:=by
 funext s' i';unfold e0;split<;>rfl
def LC(p w:ab)(g r:Nat)(m:kP)(v:da)(T:Bool->Int->Option (List Int))(s:Bool)(id:Int)(xs:au)(e:Ending)(w':ab):Prop:=
 e=.returned an/\∃m' v' b,Z (MS w' p.1.size g r m' v' b)/\Z (cM v' b (e0 T s id (some xs)))/\Z (v'.lv=v.lv+xs.length/\v'.pe=max v.pe (v.lv+xs.length)/\v'.cap=v.cap/\v'.nx=v.nx+1/\v'.mv<=v.mv+1)/\Z (d6 w w' g r m m')
def zP1(h:Γ:=by first|exact sA.bH fA Bx.ak.lt _ _|exact sA.kR (al _) _ _):=h
def zP2(h:Γ:=by first|exact sX.bH fX Bx.ak.lt _ _|exact sX.kR (al _) _ _):=h
def LD[pw:aM p w](hb:Z (zu p J N L P x))(h:Z (MS w p.1.size g r m v tb))(hc:Z (oe J r m.cs))(cA:Z (cM v tb T))(hk:Z (N.nodes[k]?=some nd))(h0:Z (vals.getD 0 T0=x))(TS:Z (L=N.nodes.length+1))(tU:Z (∀z∈nd.ins,Yt L T vals N.nodes.length z))
  (Eh:Z (P=(bQ N).length)) (qX:Z ((iB N P k nd).map (·.1)=nd.P)) (qU:Z ((cE vals nd.ins).map (·.1)=d7 nd L)) (hE:Z (dr nd.o nd.P (d7 nd L)=0)) (hS:Z (cy nd.o nd.P (d7 nd L)=zs)) (hSL:Z (L[k+1]?=some zs)) (hX:Z (xA nd.o (iB N P k nd) (cE vals nd.ins)=xs))
  (nA:Z (aw zs xs=true)) (hT:Z (T false ((k+1:Nat):Int)=none)) (hl:v.lv+xs.length<=v.cap) (oJ:v.nx<=1000000000000) (td:v.mv<=1000000000000) (hlen:(tb false).length<=200):
  () 97 #[.pointer g,.int .i64 ((k:Int)+1)] w (LC p w g r m v T false ((k+1:Nat):Int) xs):=by
 have CC:=@cJ;obtain⟨CB,CP,FB⟩:=gW;have a:aW w J.A J.n J.B J.m N:=hb.o.Yr.at;have HM:Z (J.m=N.nodes.length):=a.len;have IB:k<J.m:=by rw[HM.o];exact(bj.1 hk).1
 have hm:J.m<=1000:=by rw[HM.o];exact hb.o.small.1
 have hwj:IntKind.i64.wrap (k:Int)=(k:Int):=by rw[a7];omega
 have c0:Cl w g 0 (.slice J.A J.n J.c):=h.o.cl hc.o.c0;have c1:Cl w g 1 (.slice J.B J.m J.d):=h.o.cl hc.o.c1;have c2:Cl w g 2 (.slice J.PA J.np J.cp):=h.o.cl hc.o.c2;obtain⟨ss,sh,C6⟩:=hb.o.sh;have SH:=U sh;have Um:=U C6;obtain⟨ps,V,EP,Zb⟩:=hb.o.ps;have TP:Ts w J.PA J.np ps:=⟨V.rd.below pw.st,V.len⟩;have Wf:=U Zb;have W8:=U EP;have X:=U hb.o.fits;have Cf:=U hb.o.small;have hlB:=hb.o.lB;have hlP:=hb.o.lp;have Lz:Z (J.np=(bQ N).length):=U (by rw[<-Eh.o,<-EP,bn];exact V.len);have sg:Z (dK N k+nd.P.length<=J.np):=U (by
  rw[Lz.o,<-jq hk.o];unfold dK bQ;exact(la _ _))
 have hvp:nd.P.length<=1000000:=by have:=(X.o.2.2 _ (aK hk)).2.2.1;omega
 clear sh C6 V EP Zb;generalize hBz:J.B=Bz at a c1;have HBz:=U hBz;clear hBz;obtain⟨b0,q0,o,A1,n1,BY,I,ni,ci,ins,P',np,cp,pps,rfl,ob,⟨v0,O,v2,v3,v4,v5,v6,v7,v8,v9⟩,s1,si,sp,l1,li,lp,ik,lP⟩:=a.node IB;obtain rfl:nd=⟨o,ins,aX pps⟩:=cU (hk.o.symm.trans lP.o);have qW:n1<=1000000:=by have:=(X.o.2.2 _ (aK hk)).2.1;rw[s1.len];show o.S.length<=_;have h9:o.S.length<=100000:=this;omega
 obtain⟨PV,E⟩:=lh (iB N P k ⟨o,ins,aX pps⟩);obtain⟨UV,l⟩:=lh (cE vals ins);have x9:Z (cE vals (⟨o,ins,aX pps⟩:dV).ins=UV):=l;have HPX:Z (((ps.map Tn.tv).drop (dK N k)).take (aX pps).length=PV):=U (by rwa[W8.o]);have HE:Z (dr o (PV.map (·.1)) (UV.map (·.1))=0):=U (by rw[<-E,qX.o,<-l];have h9:=qU.o;rw[h9];exact hE);have HS:Z (cy o (PV.map (·.1)) (UV.map (·.1))=zs):=U (by rw[<-E,qX.o,<-l];have h9:=qU.o;rw[h9];exact hS);have HX:Z (xA o PV UV=xs):=U (by rw[<-E,<-l];exact hX);have IK:Z (∀b,m.qaa g r b->b<w.1.size):=λb Q=>(h.o.lt b Q).2;have HUL:Z (UV.length=ins.length):=U (by rw[<-l,cE,bn]);have ud:UV.length<=1000000:=by have:=(X.o.2.2 _ (aK hk)).1;rw[HUL.o];have h9:ins.length<=100000:=this;omega
 clear E l lP v8 v9 si sp li lp;go_in;go_upto_region 4 with(go_at_call 148;refine(C5 (p:=p) hb (U h.o.at) hc cA hk h0 TS tU x9).mono ?_;rintro e u1 ⟨A2,c2',us,rfl,TU,LU,wz,O1,t7⟩);obtain⟨O,rfl⟩:=lg u1;go_cut [7,6] (λq e wx=>∃G A' c' B' d',q=.pointer (some ⟨G,0,none⟩)/\e=.int .i64 0/\O.1.size<=G/\Bx wx G 28 #[.slice A' zs c',.slice B' xs d']/\Sl wx A' zs zs/\Sl wx B' xs xs/\Le zs.length c'/\Le xs.length d'/\bL O.1.size A'/\bL O.1.size B'/\aj wx O);case first=>
  refine ax O ap (λux _=>?_)
  repeat' (first
   |(refine kj 0 ?_
     refine qL [0,1,2,3,4,5,6,7,8,9,10,11,12,13,14,15,16,17,18,19,20,21] ?_;refine jQ 23 42 ?_)
   |(refine kj 25 ?_
     refine qL [25,26] ?_;refine jQ 27 45 ?_)
   |(refine kj 30 ?_
     refine jQ 30 6 ?_)
   |(intro (tg:Tg 22) K hK
     clear tg;go_simp
     refine(Yx hlB hlP hvp Wf X Cf rfl hk sg HPX).mono ?_
     rintro e ux ⟨A3,c3,qs,rfl,TQ,LQ,ID,HQT,pq⟩;dsimp only;refine aE hK ?_;clear hK K)
   |(intro (tg:Tg 24) K hK
     clear tg;go_simp
     refine(Rj qW ud ID wz HQT O1 HE HS HX).mono ?_
     rintro e ux ⟨A',c',B',d',rfl,sA,sX,lA,lX,fA,fX,_⟩;dsimp only;refine aE hK ?_;clear hK K)
   |(intro (tg:Tg 28) K hK
     clear tg;go_simp;refine aE hK ?_;refine bc (λux _ _=>?_))
   |(intro (tg:Tg 29) K hK
     clear tg;rename World=>wN;go_simp;refine q8 hK (λ_=>?_) ⟨bA (aO O wN) ai _ _⟩;clear hK K)
   |refine ff 22 ?_
   |refine ff 24 ?_
   |refine ff 29 ?_
   |refine ff 28 ?_
   |refine my 22 28 ?_ ?_
   |refine my 24 28 ?_ ?_
   |refine DW ?_)
  all_goals go_wp2_with fail;go_meet;refine⟨_,A',_,B',_,rfl,rfl,ai,⟨(Bx.ak (w:=wN)).bP _ _⟩,?_,?_,lA,lX,fA.less ai,fX.less ai,⟨bA (aO O wN) ai _ _⟩⟩;exact zP1;exact zP2
 obtain⟨G,A4,c4,B4,d4,rfl,rfl,hvG,kG,sA,sX,lA,lX,fA,fX,pv⟩:=hcut;obtain⟨W1,rfl⟩:=lg wc;have F:=(aS zs xs).1 nA;have LF:Z (aH zs=true):=F.1;obtain⟨wd,M⟩:=lh xs.length;have O2:=U M;have vM:Z (bG zs=(wd:Int)):=U (by rw[bG,ah F.1,<-F.2,M]);obtain⟨n9,g1,g2,g3⟩:=cG F.1;have Zc:1<=wd:=by rw[<-M];have:=F.2;omega
 have Zd:wd<=65536:=by rw[<-M];have:=F.2;omega
 have Ze:v.lv+wd<=v.cap:=by rwa[<-M]
 have acx:Z (MS W1 p.1.size g r m v tb):=h.o.at;have Yv:Z (m.cs[12]?=some (.slice J.SA J.ns J.sc)):=hc.o.cS false;have HJ:Z ((aX ss)[k+1]?=some zs):=U (by rwa[Um.o]);have GU:Z (¬m.qaa g r G/\G<W1.1.size):=U ⟨λhx=>by have:=IK.o G hx;have:=ai (w:=w) (w':=O);omega,kG.ak.lt⟩;clear F g1 g2 g3 M;go_upto_region 10 with(go_at_call 150;refine(UJ (p:=p) (j:=k+1) Y SH acx cA hT Yv HJ LF vM Zc Zd Ze oJ td hlen).mono ?_;rintro e u2 ⟨rfl,m2,v2,zy,LG,Zf,nF,Gb,y⟩;have t8:aj u2 p:=y.o.prev acx;have oQ:Sl u2 A4 zs zs:=y.o.slk (K:=O.1.size) (λb Q=>bN (IK.o b Q) ai) sA fA;have mg:Sl u2 B4 xs xs:=y.o.slk (K:=O.1.size) (λb Q=>bN (IK.o b Q) ai) sX fX;have WR:Bx u2 G 28 #[.slice A4 zs c4,.slice B4 xs d4]:=⟨y.o.kf.ak kG.ak GU.o.1⟩);have mf:Z (e0 T false ((k+1:Nat):Int) (some (List.replicate wd 0)) false ((k:Int)+1)=some (List.replicate wd 0)):=U (by rw[show(k:Int)+1=((k+1:Nat):Int)from Y];exact h6);have qS:Z (xs.length=(List.replicate wd (0:Int)).length):=U (by rw[O2.o,fe]);have Da:Z (¬m2.qaa g r G):=λhx=>(y.o.kf.new G hx).elim GU.o.1 λh9=>absurd GU.o.2 (l4.2 h9);refine aU p (λw9=>Bx w9 G 28 #[.slice A4 zs c4,.slice B4 xs d4]) ap am (λuz _=>?_);refine br 0 ?_;refine br 1 ?_;refine br 2 ?_;refine br 3 ?_;refine br 4 ?_;refine aJ 5 λK hK=>?_;go_simp;refine(Za (p:=p) (U ((LG).o.at (w':=uz))) Zf mf qS).mono ?_;rintro e9 u9 ⟨rfl,m3,v3,Zg,LH,Hp,R⟩;dsimp only;have p9:aj u9 p:=R.o.prev ((LG).o.at (w':=uz));have O3:Bx u9 G _ _:=⟨R.o.kf.ak (Bx.ak (w:=uz)) Da⟩;refine aE hK ?_ ⟨p9,O3⟩;refine br 6 ?_;refine a8 ?_;go_wp2_with fail;go_ret;have LI:=LH.o;rw[show(k:Int)+1=((k+1:Nat):Int)from Y,Ga]at LI;obtain⟨f1,f2,f3,f4,f5⟩:=Hp.o;have q1:=nF.o;refine⟨rfl,m3,v3,zy,Zg,U LI,U ⟨?_,?_,?_,?_,?_⟩,U (((d6.later g r m).trans y).trans ((d6.later g r m2).trans R))⟩;rw[f1,q1.lv,O2.o];rw[f2,q1.pe,O2.o];rw[f3,q1.cap];rw[f4,q1.nx];rwa[f5]
end
variable{y:Int}
section
variable{w:World}{B k n o nx:Nat}{m m':kP}{v:da}{T:Bool->Int->Option (List Int)}{s:Bool}{lo:Int}{ts:List Tn}{N:a6}{P:List TV}{x:TV}{nd:dV}{cs:Array Value}
def zP3(h:Γ:=by cases s<;>simp[oS]<;>omega):=h
def MS.Dk(h:MS w B g r m v tb)(hi:i≠9/\i≠10/\i≠11/\i≠13/\i≠14/\i≠15)(y:Value):MS (w.setCell (g,i) y) B g r {m with cs:=m.cs.setIfInBounds i y} v tb:=by
 have l:∀b,b≠g->(w.setCell (g,i) y).heap[b]?=w.heap[b]?:=λb hb=>bb w ⟨g,i,none⟩ y b hb;refine⟨h.ar.keep λb hb=>l b λe=>h.gA (e▸hb),λs=>?_,λs=>?_,h.gB,h.gA,h.FA,h.FF⟩;obtain⟨A,n,c,E,F,G,I⟩:=(h.t s).tb;refine⟨(h.t s).ak.av i y,⟨A,n,c,E,?_,?_,I.keep λb hb=>l b λe=>(h.t s).ng (e▸hb)⟩,(h.t s).qK,(h.t s).len⟩;rw[iE zP3];exact F;rw[iE zP3];exact G;show(m.cs.setIfInBounds i y)[oS s+2]?=_;rw[iE zP3];exact h.ca s
def kfM(w:ab)(g r i:Nat)(m:kP)(y:Value):Kf (m.qaa g r) (m.qaa g r) w (w.setCell (g,i) y):=(Kf.refl _ w).av (q:=⟨g,i,none⟩) (.inl rfl) y
def oe.Dk(h:oe J r cs)(hi:17<=i)(y:Value):oe J r (cs.setIfInBounds i y):=
 ⟨by rw[iE Y];exact h.c0,by rw[iE Y];exact h.c1,by rw[iE Y];exact h.c2,
  by rw[iE Y];exact h.c3,by rw[iE Y];exact h.c4,by rw[iE Y];exact h.c7,
  by rw[iE Y];exact h.c8,λs=>by rw[iE zP3];exact h.cS s⟩
def Zh[aM p w](hb:Z (zu p J N L P x))(h:Z (MS w p.1.size g r m v tb))(hc:Z (oe J r m.cs))(cA:Z (cM v tb T))(hT:Z (T false (J.l:Int)=some xs))(hL:Z (L[J.l]?=some zs))(I:Z (aw zs xs=true))(V:Z (m.cs[17]?=some (.int .i64 lo)))(hy:Z (xs[0]?=some y)):
  () 99 #[.pointer g] w (λe w'=>e=.returned an/\Z (MS w' p.1.size g r {m with cs:=m.cs.setIfInBounds 17 y} v tb)/\Z (Kf (m.qaa g r) (m.qaa g r) w w')):=by
 have CC:=@cJ;have CB:=@az;have FB:=@aP;have c7:Cl w g 7 (J.l:Int):=h.o.cl hc.o.c7;have c17:Cl w g 17 lo:=h.o.cl V;obtain⟨ss,sh,M⟩:=hb.o.sh;have SH:=U sh;have HJ:Z ((aX ss)[J.l]?=some zs):=U (by rwa[M]);have b:Z (m.cs[12]?=some (.slice J.SA J.ns J.sc)):=hc.o.cS false;clear sh M;go_in;go_upto_region 1 with fail;go_cut [3,4] (λq e Q=>∃G A' c' E d',q=.pointer (some ⟨G,0,none⟩)/\e=.int .i64 0/\w.1.size<=G/\Bx Q G 28 #[.slice A' zs c',.slice E xs d']/\Sl Q A' zs zs/\Sl Q E xs xs/\Le zs.length c'/\Le xs.length d'/\bL w.1.size A'/\bL w.1.size E/\aj Q w);case first=>
  refine ax w ap (λF _=>?_);refine qL [0,1,2,3,4,5,6] ?_;refine pP 7 11 (λK hK=>?_) (λK hK=>?_);(focus go_simp;refine(r8 (p:=p) SH (U (h.o.at (w':=F))) cA hT b HJ I).mono ?_;rintro e F ⟨A',c',E,d',rfl,R,O,X,lX,fA,S,_⟩;dsimp only;refine aE hK ?_;refine qL [8,9,10] ?_;refine aJ 11 λK hK=>?_;go_simp;refine aE hK<|bc (λF _ _=>?_));rotate_left;(focus go_simp;refine aE hK<|bc (λF _ _=>?_);refine aJ 7 λK hK=>?_;go_simp;refine(r8 (p:=p) SH (U (h.o.at (w':=F))) cA hT b HJ I).mono ?_;rintro e F ⟨A',c',E,d',rfl,R,O,X,lX,fA,S,_⟩;dsimp only;refine aE hK ?_;refine qL [8,9,10] ?_);all_goals
   refine aJ 12 λK hK=>?_;rename World=>wN;go_simp;refine q8 hK (λ_=>?_) ⟨bA (aO w wN) ai _ _⟩;refine eE 13 ?_;refine a8 ?_;go_wp2_with fail;go_meet;refine⟨_,A',_,E,_,rfl,rfl,ai,⟨(Bx.ak (w:=wN)).bP _ _⟩,?_,?_,X,lX,fA.less ai,S.less ai,⟨bA (aO w wN) ai _ _⟩⟩
   .first|exact R.bH fA Bx.ak.lt _ _|exact R.kR (al _) _ _
   first|exact O.bH S Bx.ak.lt _ _|exact O.kR (al _) _ _
 obtain⟨G,A4,c4,B4,d4,rfl,rfl,hvG,kG,R,O,X,lX,fA,S,pv⟩:=hcut;have Ey:0<xs.length:=by have:=(bj.1 hy).1;exact this
 obtain⟨b4,o4,z4,rfl,ob4,cz,hz⟩:=O.get Ey;rw[d9]at cz;obtain rfl:y=z4:=cU (hy.o.symm.trans hz.o);have fr2:∀k,wc.frozen? ⟨g,k,none⟩=false:=λk=>((h.o.at (w':=wc)).t false).ak.frozen k;have agz:Cl wc g 17 lo:=am;go_wp2_with fail;go_ret;exact⟨rfl,U ((h.o.at (w':=wc)).Dk ao _),U ((Kf.later _ (w:=w)).trans (kfM wc g r 17 m _))⟩
def ya{A:bz}{n c k:Nat}[a:Sl w A n zs](l:n<=1000000)(hr:Z (aH zs=true))(hp:Z (aB zs=(k:Int))){X:au}(E:Z (List.replicate k y=X)):() 62 #[(A,n,c),y] w (dM w zs X 0):=by
 obtain⟨a,rfl⟩:=a;have b:=E.o;subst b;exact(yw A c zs y k w l a hr hp).mono λ_ _ ⟨g,M,F,G,I,o1,K,hb⟩=>⟨_,_,_,_,F,⟨o1.rd,rfl⟩,⟨K.rd,rfl⟩,⟨al _⟩,⟨al _⟩,fv G,fv I,⟨hb⟩⟩
def Zi[aM p w](hb:Z (zu p J N L P x))(h:Z (MS w p.1.size g r m v tb))(hc:Z (oe J r m.cs))(cA:Z (cM v tb T))(hT:Z (T true (J.l:Int)=none))(hL:Z (L[J.l]?=some zs))(hX:Z ((oc zs).2=xs))(nA:Z (aw zs xs=true))(hl:v.lv+xs.length<=v.cap)(oJ:v.nx<=1000000000000)(td:v.mv<=1000000000000)(hlen:(tb true).length<=200):
  () 100 #[.pointer g] w (LC p w g r m v T true (J.l:Int) xs):=by
 have CC:=@cJ;obtain⟨CB,CP,FB⟩:=gW;have c7:Cl w g 7 (J.l:Int):=h.o.cl hc.o.c7;obtain⟨ss,sh,C6⟩:=hb.o.sh;have SH:=U sh;have HJ:Z ((aX ss)[J.l]?=some zs):=U (by rwa[C6]);have S:Z (m.cs[16]?=some (.slice J.SA J.ns J.sc)):=hc.o.cS true;have c16:Cl w g 16 (.slice J.SA J.ns J.sc):=h.o.cl S;have sw:dX w J.SA J.ns ss:=dX.at sh;have Vs:J.l<J.ns:=by rw[sw.len,<-cR];exact(bj.1 HJ).1
 have y:=(aS zs xs).1 nA;have R:Z (aH zs=true):=y.1;obtain⟨wd,E⟩:=lh xs.length;have O2:=U E;have vM:Z (bG zs=(wd:Int)):=U (by rw[bG,ah y.1,<-y.2,E]);obtain⟨n9,g1,g2,g3⟩:=cG y.1;have Zc:1<=wd:=by rw[<-E];have:=y.2;omega
 have Zd:wd<=65536:=by rw[<-E];have:=y.2;omega
 have Ze:v.lv+wd<=v.cap:=by rwa[<-E]
 have Zj:Z (aB zs=(wd:Int)):=U (by rw[<-E,y.2]);have iP:Z (List.replicate wd (4294967296:Int)=xs):=U (by rw[<-hX.o,oc];dsimp only;rw[Zj.o];rfl);have IK:Z (∀b,m.qaa g r b->b<w.1.size):=λb hb9=>(h.o.lt b hb9).2;generalize J.SA=SA at*;obtain⟨b0,q0,A1,m1,c1,F,rfl,ob,v0,s1,l1,e1⟩:=sw.get Vs;obtain rfl:F=zs:=cU (e1.o.symm.trans HJ);have lz:m1<=1000000:=by have:=cv R;rw[s1.len];omega
 have i1:(J.l:Int)<(J.ns:Int):=Y;clear sh C6 y g1 g2 g3 E;go_in;go_upto_region 1 with fail;go_cut [3,4] (λq e wx=>∃G A' c' B' d',q=.pointer (some ⟨G,0,none⟩)/\e=.int .i64 0/\w.1.size<=G/\Bx wx G 28 #[.slice A' F c',.slice B' xs d']/\Sl wx A' F F/\Sl wx B' xs xs/\Le F.length c'/\Le xs.length d'/\bL w.1.size A'/\bL w.1.size B'/\aj wx w);case first=>refine ax w ap (λux _=>?_);refine qL [0,1,2,3,4,5,6,7,8,9,10] ?_;refine pP 11 15 (λK hK=>?_) (λK hK=>?_);(focus go_simp;refine(ya lz R Zj iP).mono ?_;rintro e ux ⟨A',c',B',d',rfl,sA,sX,lA,lX,fA,fX,_⟩;dsimp only;refine aE hK ?_;refine qL [12,13,14] ?_;refine aJ 15 λK hK=>?_;go_simp;refine aE hK<|bc (λux _ _=>?_));rotate_left;(focus go_simp;refine aE hK<|bc (λux _ _=>?_);refine aJ 11 λK hK=>?_;go_simp;refine(ya lz R Zj iP).mono ?_;rintro e ux ⟨A',c',B',d',rfl,sA,sX,lA,lX,fA,fX,_⟩;dsimp only;refine aE hK ?_;refine qL [12,13,14] ?_);all_goals refine aJ 16 λK hK=>?_;rename World=>wN;go_simp;refine q8 hK (λ_=>?_) ⟨bA (aO w wN) ai _ _⟩;refine eE 17 ?_;refine a8 ?_;go_wp2_with fail;go_meet;refine⟨_,A',_,B',_,rfl,rfl,ai,⟨(Bx.ak (w:=wN)).bP _ _⟩,?_,?_,lA,lX,fA.less ai,fX.less ai,⟨bA (aO w wN) ai _ _⟩⟩;exact zP1;exact zP2
 obtain⟨G,A4,c4,B4,d4,rfl,rfl,hvG,kG,sA,sX,lA,lX,fA,fX,pv⟩:=hcut;obtain⟨W1,rfl⟩:=lg wc;have V:Z (MS W1 p.1.size g r m v tb):=h.o.at;have GU:Z (¬m.qaa g r G/\G<W1.1.size):=U ⟨λhx=>by have:=IK.o G hx;omega,kG.ak.lt⟩;go_upto_region 4 with fail;refine aU p (λw9=>Cl w9 g 7 (J.l:Int)) ap am (λuy _=>?_);refine br 0 ?_;refine br 1 ?_;refine br 2 ?_;refine br 3 ?_;refine br 4 ?_;refine br 5 ?_;refine br 6 ?_;refine aJ 7 λK hK=>?_;go_simp;refine(F9 (p:=p) (j:=J.l) rfl SH (U (V.o.at (w':=uy))) cA hT S HJ R vM Zc Zd Ze oJ td hlen).mono ?_;rintro e9 u2 ⟨rfl,m2,v2,zy,M,Zf,nF,Gb,O⟩;dsimp only;have t8:aj u2 p:=O.o.prev (V.o.at (w':=uy));have c72:Cl u2 g 7 (J.l:Int):=M.o.cl (hc.o.same O.o.sm).c7;have Q:Z (d6 W1 u2 g r m m2):=U ((d6.later g r m (w:=W1)).trans O);refine aE hK ?_ ⟨t8,c72⟩;refine br 8 ?_;refine a8 ?_;skip;have mg:Sl u2 B4 xs xs:=Q.o.slk IK sX fX;have WR:Bx u2 G 28 #[.slice A4 F c4,.slice B4 xs d4]:=⟨Q.o.kf.ak kG.ak GU.o.1⟩;have mf:Z (e0 T true (J.l:Int) (some (List.replicate wd 0)) true (J.l:Int)=some (List.replicate wd 0)):=h6;have qS:Z (xs.length=(List.replicate wd (0:Int)).length):=U (by rw[O2.o,fe]);have Da:Z (¬m2.qaa g r G):=λhx=>(Q.o.kf.new G hx).elim GU.o.1 λh9=>absurd GU.o.2 (l4.2 h9);go_upto_region 7 with fail;refine aU p (λw9=>Cl w9 g 7 (J.l:Int)/\Bx w9 G 28 #[.slice A4 F c4,.slice B4 xs d4]) ap ⟨am,am⟩ (λuz _=>?_);refine bp 0 ?_;refine bp 1 ?_;refine bp 2 ?_;refine bp 3 ?_;refine bp 4 ?_;refine bp 5 ?_;refine bp 6 ?_;refine bp 7 ?_;refine aJ 8 λK hK=>?_;go_simp;refine(Dj (p:=p) (U (M.o.at (w':=uz))) Zf mf qS).mono ?_;rintro e9 u9 ⟨rfl,m3,v3,X,LH,Hp,I⟩;dsimp only;have p9:aj u9 p:=I.o.prev (M.o.at (w':=uz));have O3:Bx u9 G _ _:=⟨I.o.kf.ak (Bx.ak (w:=uz)) Da⟩;have c79:Cl u9 g 7 (J.l:Int):=X.o.cl ((hc.o.same Q.o.sm).same I.o.sm).c7;refine aE hK ?_ ⟨p9,c79,O3⟩;refine bp 9 ?_;refine a8 ?_;go_wp2_with fail;go_ret;have LI:=LH.o;rw[Ga]at LI;obtain⟨f1,f2,f3,f4,f5⟩:=Hp.o;have q1:=nF.o;refine⟨rfl,m3,v3,zy,X,U LI,U ⟨?_,?_,?_,?_,?_⟩,U (((d6.later g r m).trans Q).trans ((d6.later g r m2).trans I))⟩;rw[f1,q1.lv,O2.o];rw[f2,q1.pe,O2.o];rw[f3,q1.cap];rw[f4,q1.nx];rwa[f5]
end
variable{R:Nat}{XA XB:Option Addr}
section
variable{w:World}{B k n o nx dx':Nat}{m m':kP}{v:da}{T:Bool->Int->Option (List Int)}{s:Bool}{lo:Int}{ts:List Tn}{N:a6}{P:List TV}{x:TV}{nd:dV}{cs:Array Value}{b:Bool}
def UK[aM p w](h:Z (MS w p.1.size g r m v tb))(S:Z (m.cs[19]?=some (.slice XA x.1.length R)))(X:Z (m.cs[20]?=some (.slice XB x.2.length dx')))[Sl w XA x.1.length x.1][Sl w XB x.2.length x.2][cm x.2][Sl w A n zs][Sl w C k xs][cm xs]
  (tr:x.2.length<=1000000) (hn:n<=1000000) (HG:k<=1000000) (I:Z (x.2=[]\/cP x.1 x.2 zs xs=true)) {V:TV} (hV:Z (iC (x.1,x.2) (zs,xs)=V)):
  () 157 #[.pointer g,an,.agg #[(A,n,c),.slice C k d],.bool b] w (λe w'=>e=.returned an/\∃A' c' y d',Z (MS w' p.1.size g r {m with cs:=(m.cs.setIfInBounds 19 (.slice A' V.1.length c')).setIfInBounds 20 (.slice y V.2.length d')} v tb)/\Sl w' A' V.1.length V.1/\Sl w' y V.2.length V.2/\bL w.1.size A'/\bL w.1.size y/\V.2.length<=d'/\Z (Kf (m.qaa g r) (m.qaa g r) w w')):=by
 have CC:=@cJ;have CB:=@az;have c19:Cl w g 19 (.slice XA x.1.length R):=h.o.cl S;have c20:Cl w g 20 (.slice XB x.2.length dx'):=h.o.cl X;go_in;go_upto_region 1 with fail;refine aa (λu0 Bd k0=>?_);go_upto_region 2 with fail;refine aU p (λw9=>Bx w9 w.1.size 28 #[(A,n,c),.slice C k d]) ap am (λux _=>?_);refine br 0 ?_;refine br 1 ?_;refine br 2 ?_;refine br 3 ?_;refine br 4 ?_;refine br 6 ?_;refine aJ 5 λK hK=>?_;go_simp;refine aE hK ?_ ⟨aG p ux,am⟩;refine aJ 7 λK hK=>?_;go_simp;have sx6:Sl ux XA x.1.length x.1:=am;have sy6:Sl ux XB x.2.length x.2:=am;refine(IA tr hn HG I hV).mono ?_;rintro e9 E ⟨A',c',y,d',rfl,sA,sX,lA,lX,fA,fX,_⟩;dsimp only;refine aE hK ?_ ⟨aG p _,am⟩;refine br 8 ?_;refine br 9 ?_;refine br 10 ?_;refine aJ 11 λK hK=>?_;have M:=h.o.at (w':=E);have hf9:∀k,E.frozen? ⟨g,k,none⟩=false:=λk=>(M.t false).ak.frozen k;have F:p<=g:=h.o.gB;have G:w≠g:=by have:=h.o.old.lt;omega
 have kb9:Bx E w.1.size 28 #[(A,n,c),.slice C k d]:=am;have O:aj ((E.setCell (g,19) (.slice A' V.1.length c')).setCell (g,20) (.slice y V.2.length d')) p:=⟨((aO p E).setCell (p:=⟨g,19,none⟩) F _).setCell (p:=⟨g,20,none⟩) F _⟩;have Q:Bx ((E.setCell (g,19) (.slice A' V.1.length c')).setCell (g,20) (.slice y V.2.length d')) w.1.size 28 #[(A,n,c),.slice C k d]:=⟨(kb9.ak.aV (p:=⟨g,19,none⟩) G _).aV (p:=⟨g,20,none⟩) G _⟩;go_simp;refine aE hK ?_ ⟨O,Q⟩;refine a8 ?_;go_wp2_with fail;go_ret;have M:=h.o.at (w':=E);have lz:=(M.Dk (i:=19) ao (.slice A' V.1.length c')).Dk (i:=20) ao (.slice y V.2.length d');have l:g<w:=h.o.old.lt;refine⟨rfl,A',c',y,d',U lz,?_,?_,fA.less ai,fX.less ai,lX.le,U ?_⟩;exact(sA.setCell (p:=⟨g,19,none⟩) (fA.less (b':=w.1.size) ai) l _).setCell (p:=⟨g,20,none⟩) (fA.less (b':=w.1.size) ai) l _;exact(sX.setCell (p:=⟨g,19,none⟩) (fX.less (b':=w.1.size) ai) l _).setCell (p:=⟨g,20,none⟩) (fX.less (b':=w.1.size) ai) l _;exact(((Kf.later _ (w:=w)).trans (kfM E g r 19 m _)).trans (kfM _ g r 20 m _))
def LJ(p w:ab)(g r:Nat)(m:kP)(v:da)(tb:Bool->Tb)(T:Bool->Int->Option (List Int))(id:Int)(xs:au)(e:Ending)(w':ab):Prop:=
 e=.returned an/\∃m' v',Z (MS w' p.1.size g r m' v' tb)/\Z (cM v' tb (e0 T true id (some xs)))/\Z (v'.lv=v.lv/\v'.pe=v.pe/\v'.cap=v.cap/\v'.nx=v.nx/\v'.mv=v.mv)/\Z (d6 w w' g r m m')
def UL[aM p w](h:Z (MS w p.1.size g r m v tb))(cA:Z (cM v tb T))(hi:id≠0)(hT:Z (T true id=some ys))[Sl w C k xs](I:Z (xs.length=ys.length)):
  () 157 #[.pointer g,id,.agg #[(A,n,c),(C,k,d)],.bool true] w (LJ p w g r m v tb T id xs):=by
 have CB:=@az;have Hd:(id==0)=false:=by simp[hi]
 clear hi;go_in;go_upto_region 1 with fail;refine aa (λu0 Bd k0=>?_);obtain⟨G,V⟩:=lg w.1.size;have M:Z (¬m.qaa g r G):=U λhx=>by have:=(h.o.lt G hx).2;omega
 have y:Z (MS u0 p.1.size g r m v tb):=h.o.at;rw[<-V]at k0⊢;clear V;go_upto_region 5 with fail;refine aU p (λw9=>Bx w9 G 28 #[(A,n,c),(C,k,d)]) ap am (λO _=>?_);refine br 0 ?_;refine br 1 ?_;refine br 2 ?_;refine br 3 ?_;refine br 4 ?_;refine aJ 5 λK hK=>?_;go_simp;refine(Dj (p:=p) (U ((y).o.at (w':=O))) cA hT I).mono ?_;rintro e9 X ⟨rfl,m3,v3,E,F,Q,l⟩;dsimp only;have p9:aj X p:=l.o.prev ((y).o.at (w':=O));have S:Bx X G _ _:=⟨l.o.kf.ak (Bx.ak (w:=O)) M⟩;refine aE hK ?_ ⟨p9,S⟩;refine br 6 ?_;refine a8 ?_;go_wp2_with fail;go_ret;exact⟨rfl,m3,v3,E,F,Q,U ((d6.later g r m).trans l)⟩
def UM[aM p w](hb:Z (zu p J N L P x))(hc:Z (oe J r m.cs))(h:Z (MS w p.1.size g r m v tb))(cA:Z (cM v tb T))(hi:0<j)(hT:Z (T true (j:Int)=some ys))(hL:Z (L[j]?=some zs))(E:Z (aw zs ys=true))[cm ys][Sl w A n zs][Sl w C k xs][cm xs]
  (hn:n<=1000000) (HG:k<=1000000) (y:Z (ys=[]\/cP zs ys zs xs=true)) {V:TV} (hV:Z (iC (zs,ys) (zs,xs)=V)) (qS:Z (V.2.length=ys.length)):
  () 157 #[.pointer g,j,.agg #[(A,n,c),(C,k,d)],.bool false] w (LJ p w g r m v tb T (j:Int) V.2):=by
 have CB:=@az;have FB:=@aP;have Hd:((j:Int)==0)=false:=by simp;omega
 obtain⟨ss,sh,F⟩:=hb.o.sh;have SH:=U sh;have HJ:Z ((aX ss)[j]?=some zs):=U (by rwa[F]);have I:Z (m.cs[16]?=some (.slice J.SA J.ns J.sc)):=hc.o.cS true;have hy6:ys.length<=1000000:=by have h1:=(aS zs ys).1 E;obtain⟨n9,g1,g2,g3⟩:=cG h1.1;omega
 clear sh F hi;go_in;go_upto_region 1 with fail;refine aa (λu0 Bd k0=>?_);obtain⟨G,hG⟩:=lg w.1.size;have Da:Z (¬m.qaa g r G):=U λhx=>by have:=(h.o.lt G hx).2;omega
 rw[<-hG]at k0⊢;clear hG;go_upto_region 7 with(go_at_call 154;refine(yT (p:=p) SH (U h.o.at) cA hT I HJ E).mono ?_;rintro e u ⟨A4,c4,B4,d4,rfl,sA,sX,lA,lX,fA,fX,pu⟩);refine aa (λu1 t7 k1=>?_);obtain⟨G2,M⟩:=lg u.1.size;have O:Z (¬m.qaa g r G2):=U λhx=>by have:=(h.o.lt G2 hx).2;have:=ai (w:=w) (w':=u);omega
 rw[<-M]at k1⊢;clear M;go_upto_region 9 with fail;refine aU p (λw9=>Bx w9 G 28 #[(A,n,c),(C,k,d)]/\Bx w9 G2 28 #[.slice A4 zs c4,.slice B4 ys d4]) ap ⟨am,am⟩ (λQ _=>?_);refine bp 0 ?_;refine bp 1 ?_;refine bp 2 ?_;refine bp 3 ?_;refine bp 4 ?_;refine bp 5 ?_;refine aJ 6 λK hK=>?_;go_simp;refine(IA hy6 hn HG y hV).mono ?_;rintro e Q ⟨A5,c5,B5,d5,rfl,sA5,sX5,lA5,lX5,fA5,fX5,_⟩;dsimp only;refine aE hK ?_ ⟨aG p _,⟨am,am⟩⟩;refine aJ 7 λK hK=>?_;go_simp;refine(Dj (p:=p) (U (h.o.at (w':=Q))) cA hT qS).mono ?_;rintro e9 u9 ⟨rfl,m3,v3,S,X,Hp,l⟩;dsimp only;have p9:aj u9 p:=l.o.prev (h.o.at (w':=Q));have O3:Bx u9 G _ _:=⟨l.o.kf.ak (Bx.ak (w:=Q)) Da⟩;have kH9:Bx u9 G2 _ _:=⟨l.o.kf.ak (Bx.ak (w:=Q)) O⟩;have HTW:Z (d6 w u9 g r m m3):=U ((d6.later g r m (w:=w)).trans l);refine aE hK ?_ ⟨p9,O3,kH9⟩;refine bp 8 ?_;refine a8 ?_;go_wp2_with fail;go_ret;exact⟨rfl,m3,v3,S,X,Hp,HTW⟩
end
variable{GB q:Nat}{kn:Bool->Tb}
@[grind cases]structure si(w:World)(q g r GB:Nat)(m:kP)(t:Tn):Prop where
 te:TE w t
 oa:∀b,AF t.A b->b<w.1.size/\¬m.qaa g r b/\b≠GB/\q<=b
 ob:∀b,AF t.B b->b<w.1.size/\¬m.qaa g r b/\b≠GB/\q<=b
@[grind cases]structure g5(p w:World)(J:OR)(g r GB:Nat)(m:kP)(e:tu)(gs:List Tn)(X:Tn):Prop where
 ms:MS w p.1.size g r m e.A e.tb
 cs:oe J r m.cs
 lo:m.cs[17]?=some (.int .i64 e.lo)
 gr:m.cs[18]?=some (.slice GB J.np J.np)
 row:aT w p.1.size 28 2 (some ⟨GB,0,none⟩) J.np J.np (tc gs)
 gl:gs.length=J.np
 gv:gs.map Tn.tv=e.G
 x0:m.cs[19]?=some (.slice X.A X.zs.length X.c)
 x1:m.cs[20]?=some (.slice X.B X.xs.length X.d)
 xv:X.tv=e.X
 oZ:si w p.1.size g r GB m X
 tL:∀t∈gs,si w p.1.size g r GB m t
 GU:¬m.qaa g r GB
section
variable{w:World}{B k n:Nat}{m m':kP}{e e':tu}{v:da}{T:Bool->Int->Option (List Int)}{gs:List Tn}{X:Tn}
theorem si.step(h:si w q g r GB m t)(l:Kf (m.qaa g r) (m'.qaa g r) w w'):si w' q g r GB m' t:=by
 exact⟨⟨l.rd h.te.1 λb hb=>(h.oa b hb).2.1,l.rd h.te.2.1 λb hb=>(h.ob b hb).2.1,h.te.2.2⟩,ay,ay⟩
def g5.step(h:g5 p w J g r GB m e gs X)(hm:MS w' p.1.size g r m' v tb)(ht:d6 w w' g r m m'):g5 p w' J g r GB m' {e with A:=v,tb:=tb,T:=T} gs X:=by
 have hs:=ht.sm;refine⟨hm,h.cs.same hs,(hs 17 ao ao ao ao).trans h.lo,(hs 18 ao ao ao ao).trans h.gr,?_,h.gl,h.gv,
  (hs 19 ao ao ao ao).trans h.x0,(hs 20 ao ao ao ao).trans h.x1,h.xv,h.oZ.step ht.kf,λt l=>(h.tL t l).step ht.kf,λy=>?_⟩
 exact ht.kf.row h.row λb hb=>by rw[<-du.1 hb];exact h.GU
 rcases ht.kf.new GB y with h9|h9;exact h.GU h9;have:=(h.row.af (du.2 rfl)).2.1;omega
def g5.at(h:g5 p w J g r GB m e gs X)[l:aM w w']:g5 p w' J g r GB m e gs X:=
 h.step (T:=e.T) h.ms.at (d6.later g r m)
def g5.lK(h:g5 p w J g r GB m e gs X):p<=GB/\GB<w/\p<=g/\g<w:=⟨(h.row.af (du.2 rfl)).1,(h.row.af (du.2 rfl)).2.1,h.ms.gB,h.ms.old.lt⟩
theorem g5.emit(h:g5 p w J g r GB m e gs X)(hm:MS w' p.1.size g r {m with cs:=m.cs.setIfInBounds 17 y} e.A e.tb)(l:Kf (m.qaa g r) (m.qaa g r) w w'):g5 p w' J g r GB {m with cs:=m.cs.setIfInBounds 17 y} {e with lo:=y} gs X:=by
 have D:=(fY.1 h.lo).1;refine⟨hm,h.cs.Dk ao _,?_,?_,?_,h.gl,h.gv,?_,?_,h.xv,h.oZ.step l,λt z=>(h.tL t z).step l,h.GU⟩;grind;grind;exact l.row h.row λb hb=>by rw[<-du.1 hb];exact h.GU
 grind;grind
theorem g5.ed(h:g5 p w J g r GB m e gs X){X':Tn}(hm:MS w' p.1.size g r {m with cs:=(m.cs.setIfInBounds 19 (.slice X'.A X'.zs.length X'.c)).setIfInBounds 20 (.slice X'.B X'.xs.length X'.d)} e.A e.tb)(D:Kf (m.qaa g r) (m.qaa g r) w w')(y:TE w' X')
  (E:∀b,AF X'.A b->b<w'.1.size) (hb:∀b,AF X'.B b->b<w'.1.size) (F:bL w.1.size X'.A) (G:bL w.1.size X'.B):
  g5 p w' J g r GB {m with cs:=(m.cs.setIfInBounds 19 (.slice X'.A X'.zs.length X'.c)).setIfInBounds 20 (.slice X'.B X'.xs.length X'.d)} {e with X:=X'.tv} gs X':=by
 have I:=(fY.1 h.x0).1;have K:=(fY.1 h.x1).1;have L:=h.lK.2.1;have key:∀{C:bz},bL w.1.size C->(∀b,AF C b->b<w'.1.size)->∀b,AF C b->b<w'.1.size/\¬m.qaa g r b/\b≠GB/\p.1.size<=b:=λ{C} M N b l=>by have O:=N b l;obtain⟨P,Q,rfl⟩:=l;have R:=M.o P Q;exact⟨O,λl=>by have:=(h.ms.lt _ l).2;omega,Y,by have:=h.lK.1;omega⟩
 refine⟨hm,(h.cs.Dk ao _).Dk ao _,?_,?_,?_,h.gl,h.gv,?_,?_,rfl,⟨y,key F E,key G hb⟩,λt z=>(h.tL t z).step D,h.GU⟩;exact((iE ao).trans (iE ao)).trans h.lo;exact((iE ao).trans (iE ao)).trans h.gr;exact D.row h.row λb hb=>by rw[<-du.1 hb];exact h.GU
 grind;grind
end
variable{l:Nat}{O:List Int}{cap kd:Int}{s:jI}
section
variable{w:World}{B k n:Nat}{m m':kP}{e e':tu}{v:da}{t:Tb}{T:Bool->Int->Option (List Int)}{gs:List Tn}{X:Tn}{N:a6}{P:List TV}{x:TV}{lo:Int}{b:Bool}
theorem Gc:∀{t:Tb} {lo:Int},h4 t->(∀y∈t,lo<y.1/\y.1<=n)->(t.length:Int)<=max 0 (n-lo)
 |[],lo,_,_=>by simp;omega
 |y::t,lo,hr,h=>by have D:=h y dD;have E:=Gc (t:=t) (lo:=y.1) (iJ.1 hr).2 λq hq=>⟨(iJ.1 hr).1 q hq,ay⟩;grind
theorem cM.Zk(h:cM v tb T)(y:∀id xs,T b id=some xs->1<=id/\id<=(n:Int)):(tb b).length<=n:=by
 have:=Gc (n:=n) (lo:=0) (h.so b) ay;omega
theorem gw.ids(h:gw N O L l P x cap s e):∀b id xs,e.T b id=some xs->1<=id/\id<=(N.nodes.length:Int):=λb id xs y=>by
 cases b
 .rw[h.tt]at y;split at y;grind;cases y
 rw[h.gg]at y;split at y;grind;cases y
def yb(p:ab)(J:OR)(g r GB:Nat)(N:a6)(O:au)(L:f0)(l:Nat)(P:List TV)(x:TV)(cap:Int)(D:jI)(a:da)(k:Nat)(E:Ending)(w':ab):Prop:=
 E=.returned an/\∃m' e' y F,Z (g5 p w' J g r GB m' e' y F)/\Z (gw N O L l P x cap D e')/\Z (e'.A.nx<=a.nx+k/\e'.A.mv<=a.mv+k)/\aj w' p
theorem Gd[aM p w](hB:Z (zu p J N L P x))(c:fI N O L l P x)(K:gw N O L l P x cap s e)(hS:g5 p w J g r GB m e gs X)(hc:lS (dt N cap) s kd id=0)(hk:kd=1\/kd=2)(hn:N.nodes.length<=200)(M:e.A.nx<=1000000000000)(Q:e.A.mv<=1000000000000):
  () 97 #[.pointer g,id] w (yb p J g r GB N O L l P x cap (g4 (dt N cap) s kd id) e.A 1):=by
 obtain⟨⟨R,S,h3,V,h5⟩,y⟩:=K.comp c hc hk;obtain⟨q1,q2,q3⟩:=c.val R S;obtain⟨v,hv,hE,hSh,hi,hm⟩:=c.hN.at (bt.2 ⟨R,S⟩);have D:=k8 c.hN c.hF;obtain⟨k,E⟩:=lh ((id-1).toNat);have hid:id=(k:Int)+1:=by omega
 have F:id=((k+1:Nat):Int):=Y;have agA:id.toNat=k+1:=Y;rw[E]at hv;rw[hi]at V;have tU:∀z∈v.ins,Yt L e.T (dR N P x) N.nodes.length z:=λz hz=>(V z hz).imp (λh=>h) λ⟨a1,a2,a3⟩=>by obtain⟨b1,b2,_⟩:=c.val a1 a2;grind
 have JC:=tq.pick c.hN c.hF D (v:=v) λz hz=>(V z hz).imp (λh=>h) λh=>c.hN.mem.2 (bt.2 ⟨h.1,h.2.1⟩);have G:=D.eq id (c.hN.mem.2 (bt.2 ⟨R,S⟩)) v ay;rw[E]at G;have I:((dR N P x).getD id.toNat T0).2.length=fy L id:=q3
 have:=LD (p:=p) (w:=w) (g:=g) (r:=r) (m:=m) (v:=e.A) (tb:=e.tb) (T:=e.T) (k:=k) (nd:=v) (vals:=dR N P x) (zs:=L.getD id.toNat []) (xs:=((dR N P x).getD id.toNat T0).2) hB (U hS.ms) (U hS.cs) (U K.mb) hv (U D.zero) (U c.hN.len) tU
  (U (by have:=di List.length c.hF.ps;simpa using this)) (U (c.hF.par hv).1) (U JC.1) hE (U hSh.symm) (U (by
   have h9:k+1<L.length:=by rw[c.len];omega
   grind)) (U (by rw[G];rfl)) (U (by rw[<-q1];exact q2.1)) (U ay) (by rw[I];omega) M Q (aQ (K.mb.Zk (K.ids false)) hn)
 rw[<-hid]at this;refine this.mono ?_;rintro e9 w' ⟨rfl,m',v',kn,HM,HB,HV,HT⟩;obtain⟨f1,f2,f3,f4,f5⟩:=HV.o;rw[I]at f1 f2;have cA:=HB.o;rw[<-F]at cA;exact⟨rfl,m',_,gs,X,U (hS.step HM HT),U (y v' kn cA f1 f2 f3),U ⟨dT f4,f5⟩,HT.o.prev hS.ms⟩
theorem UN[aM p w](c:fI N O L l P x)(D:gw N O L l P x cap s e)(hS:g5 p w J g r GB m e gs X)(F:lS (dt N cap) s 3 id=0):
  () 98 #[.pointer (some ⟨g,9,none⟩),id] w (yb p J g r GB N O L l P x cap (g4 (dt N cap) s 3 id) e.A 1):=by
 obtain⟨⟨Q,R,G⟩,y⟩:=D.ady c F;refine(Lc (p:=p) (s:=false) (U hS.ms) (U D.mb) G).mono ?_;rintro S w' ⟨rfl,m',v',kn,I,K,M,E⟩;obtain⟨f1,f2,f3,f4,f5⟩:=M.o;exact⟨rfl,m',_,gs,X,U (hS.step I E),U (y v' kn K f1 f2 f3),ay,E.o.prev hS.ms⟩
theorem UO[aM p w](Q:Z (zu p J N L P x))(c:fI N O L l P x)(hJ:J.l=l)(I:gw N O L l P x cap s e)(hS:g5 p w J g r GB m e gs X)(R:lS (dt N cap) s 4 id=0):
  () 99 #[.pointer g] w (yb p J g r GB N O L l P x cap (g4 (dt N cap) s 4 id) e.A 1):=by
 obtain⟨h3,D⟩:=I.emit c R;have l1:=c.hN.oT;have l2:=c.hN.lQ;obtain⟨K,E,S⟩:=c.val (z:=(l:Int)) Y Y;rw[a9]at K E S;have F:=E.ne;have G:((dR N P x).getD l T0).2[0]?=some (((dR N P x).getD l T0).2.getD 0 0):=by
  generalize((dR N P x).getD l T0).2=ys at F;cases ys with
  |nil=>grind
  |cons y t=>rfl
 refine(Zh (p:=p) (zs:=L.getD l []) (lo:=e.lo) Q (U hS.ms) (U hS.cs) (U I.mb) (U ay) (U (by
  have h9:l<L:=by rw[c.len];omega
  grind)) (U (by rw[<-K];exact E.1)) (U hS.lo) G).mono ?_
 rintro e9 w' ⟨rfl,V,M⟩;exact⟨rfl,_,_,gs,X,U (hS.emit V M),U D,U ay,M.o.prev λb hb=>(hS.ms.lt b hb).1⟩
theorem UP[aM p w](M:Z (zu p J N L P x))(c:fI N O L l P x)(Q:J.l=l)(E:gw N O L l P x cap s e)(hS:g5 p w J g r GB m e gs X)(R:lS (dt N cap) s 5 id=0)(S:N.nodes.length<=200)(F:e.A.nx<=1000000000000)(G:e.A.mv<=1000000000000):
  () 100 #[.pointer g] w (yb p J g r GB N O L l P x cap (g4 (dt N cap) s 5 id) e.A 1):=by
 obtain⟨⟨h1,h2,I⟩,D⟩:=E.ae5 c R;have l1:=c.hN.oT;have l2:=c.hN.lQ;have y:=wk (c.hN.right c.hF (z:=(l:Int)) Y Y);rw[a9]at y;refine(Zi (p:=p) (zs:=L.getD l []) (xs:=(oc (L.getD l [])).2) M (U hS.ms) (U hS.cs) (U E.mb) (U ay) (U (by
  have h9:l<L:=by rw[c.len];omega
  grind)) rfl (U y.1) (by rw[I];omega) F G (aQ (E.mb.Zk (E.ids true)) S)).mono ?_
 rintro e9 w' ⟨rfl,m',v',kn,V,HB,HV,K⟩;obtain⟨f1,f2,f3,f4,f5⟩:=HV.o;rw[I]at f1 f2;have cA:=HB.o;rw[Q]at cA;exact⟨rfl,m',_,gs,X,U (hS.step V K),U (D v' kn cA f1 f2 f3),ay,K.o.prev hS.ms⟩
end
variable{cp:Nat}
def ex0(cap:Nat)(P:List TV):tu:=⟨ar0 cap,λ_=>[],λ_ _=>none,List.replicate P.length T0,T0,0⟩
section
variable{N:a6}{P:List TV}{x:TV}{e:tu}
theorem aff(n i:Nat):(List.replicate n false).getD i false=false:=by
 grind
theorem adG(h:1<=l):(rV N L l P).1.getD 0 T0=T0:=by
 grind [rV,List.getElem?_set_ne]
theorem afg(c:fI N O L l P x)(h:cp<=16777216):gw N O L l P x (cp:Int) (mi N.nodes.length) (ex0 cp P):=by
 have hb:cD N O L l P x (mi N.nodes.length).done.toNat=rV N L l P:=rfl;have hp:∀id:Nat,1<=id->(mi N.nodes.length).bu.getD id false=false:=λid m=>by show((List.replicate (N.nodes.length+1) false).set 0 true).getD id false=false;grind
 have hg:∀id:Nat,(mi N.nodes.length).aN.getD id false=false:=λid=>aff _ _;refine⟨⟨aaZ h,λ_=>List.Pairwise.nil,λ_ e j=>(by cases j),λ_ _ _ b=>(by cases b),λ_ _ e f j=>(by cases j)⟩,rfl,rfl,eb _,rfl,λid=>?_,λid=>?_,λid m r=>?_,λ_=>rfl,eb _,Int.natCast_nonneg _,rfl,?_,λb=>(by cases b),λid m b=>?_,by simp[mi],by simp[mi],by simp[mi]⟩;rw[ag];rfl;grind;rw[ag];rfl;grind;rw[hg];exact⟨λb=>(by cases b),λb=>(by cases b.1)⟩;rw[hb,adG c.hN.oT];rfl;grind
theorem gw.whole(c:fI N O L l P x)(h:gw N O L l P x cap s e)(b:od (dt N cap) s=true):e.lo=rW N P x/\e.G=(lH N P x).2/\e.X=(lH N P x).1.getD 0 T0:=by
 unfold od at b;rw[bU,b9]at b;have j:(dt N cap).order=O:=c.hN.ord;rw[j]at b;have hr:lH N P x=cD N O L l P x s.done.toNat:=by unfold lH cD;rw[c.hN.ord,c.hL,b.2];dsimp only;rw[a9,a9,bV aI]
 grind
end
variable{B PA:Option Addr}{dx m mx np:Nat}{ps:List Tn}{v:Value}
def kc:Tn:=⟨none,0,[],none,0,[]⟩
def UQ(w:ab)(F:Option Addr->Nat->Nat->OR)(N:a6)(L:f0)(P:List TV)(x:TV)(cap:Nat)(e:Ending)(w':ab):Prop:=
 ∃p SA ns sc g r b m gs X,e=.returned (.tuple #[.pointer (some ⟨g,0,none⟩),an])/\aj p w/\Z (zu p (F SA ns sc) N L P x)/\Z (g5 p w' (F SA ns sc) g r b m (ex0 cap P) gs X)/\aj w' p
section
variable{w:World}{K:Option Addr}{n k nx cap:Nat}{N:a6}{P:List TV}{x:TV}
def Dl:∀n,tc (List.replicate n kc)=List.replicate (n*2) (.slice none 0 0)
 |0=>rfl
 |n+1=>by rw[jM,show(n+1)*2=n*2+1+1 from Y,jM,jM,<-Dl n];rfl
def row_zero(w:ab){n B:Nat}(e:n<=1000000)(b:B<=w):aT (w.alloc (.cells (iv [] n) 28)) B 28 2 (some ⟨w.1.size,0,none⟩) n n (tc (List.replicate n kc)):=
 .mk' (cur:=iv [] n) b (jP w _) (al _) (by unfold maxLen;omega) (sV [] (aR _)) (by
  rw[Dl];simp[iv,tc])
def afh{x y z:Value}{g:Nat}[l:aM w u](hg:w<=g):Below w.1.size w ((((u.setCell (g,11) x).setCell (g,12) y).setCell (g,15) z).setCell (g,16) v):=
 (((l.st.setCell (p:=⟨g,11,none⟩) hg _).setCell (p:=⟨g,12,none⟩) hg _).setCell (p:=⟨g,15,none⟩) hg _).setCell (p:=⟨g,16,none⟩) hg _
def zP0(h:Γ:=by exact⟨⟨λj z M=>by simp[kc]at M,λj z M=>by simp[kc]at M,al _,λz hz=>by simp[kc]at hz⟩,λb ⟨ad,G,_⟩=>(by cases G),λb ⟨ad,G,_⟩=>(by cases G)⟩):=h
def UR[aW w A n B m N][tp:Ts w PA np ps][Sl w XA nx x.1][Sl w XB mx x.2](hf:Z N.fits)(hs:Z N.small)(hc:Z (fI N O L l P x))(hP:Z (ps.map Tn.tv=P))(hO:Z (eP ps))(Q:np<=1000000)(lx:nx<=cx)(Ys:mx<=dx)(lp:np<=cp)(lB:m<=d)(S:cap<=16777216):
  () 53 #[.agg #[(A,n,c),(B,m,d),(PA,np,cp),(XA,nx,cx),(XB,mx,dx),(K,k,R),cap]] w (UQ w (λSA ns sc=>⟨A,n,c,B,m,d,PA,np,cp,XA,nx,cx,XB,mx,dx,K,k,R,cap,l,SA,ns,sc⟩) N L P x cap):=by
 have CB:=@az;have FB:=@aP;have HE:Z (bm N=0):=hc.o.hE;have HV:Z (dz N=(O,L,(l:Int))):=hc.o.hL;have jF:=jA np Q;have xk:Z (np=P):=U (by rw[<-hP.o,bn,<-tp.len]);go_in;go_upto_region 1 with fail;refine aa (λu0 Bd k0=>?_);obtain⟨jb,T⟩:=lg w.1.size;rw[<-T]at k0⊢;clear T;go_upto_region 4 with(go_at_call 61;refine mv (Ao hf hs HE HV) λu1 _=>?_);go_upto_region 7 with(go_at_call 28;refine(FI hf hs HE HV).mono ?_;rintro e u2 ⟨SA,sc,ss,rfl,sh,lsh,vW,t8,fsh⟩);obtain⟨p,hp⟩:=lg u2;subst hp;go_upto_region 10 with(go_at_call 96;refine(aa0 (w:=p) S).mono ?_;rintro e J ⟨r,ra,rfl,D,YU⟩);have V:=U D;clear D;go_upto_region 11 with fail;refine aa (λu4 Lj k4=>?_);obtain⟨g,hg⟩:=lg J.1.size;rw[<-hg]at k4⊢;have HG:=U hg;clear hg;go_upto_region 13 with fail;obtain⟨y,E⟩:=lg ((((u4.setCell (g,11) (.pointer r)).setCell (g,12) (.slice SA L sc)).setCell (g,15) (.pointer r)).setCell (g,16) (.slice SA L sc));rw[<-E];have p5:aj y J:=by rw[E];exact⟨afh (w:=J) (u:=u4) (dT HG.o.symm)⟩
 have k5:Bx y g 141 #[(A,n,c),(B,m,d),(PA,np,cp),(XA,nx,cx),(XB,mx,dx),(K,k,R),cap,l,.pointer r,(),an,.pointer r,.slice SA L sc,(),an,.pointer r,.slice SA L sc,an,(),(),()]:=⟨by rw[E];exact(((k4.ak.av 11 _).av 12 _).av 15 _).av 16 _⟩;have X:=U k5.ak;clear E k4 Lj;go_upto_region 14 with fail;obtain⟨W7,C⟩:=lg ((y.alloc (.cells (iv [] np) 28)).setCell (g,18) (y,np,np));rw[<-C];have hg5:=X.o.lt;have p7:aj W7 J:=by rw[C];exact⟨((aO J y).alloc p5.st.size _).setCell (p:=⟨g,18,none⟩) (dT HG.o.symm) _⟩
 have hk7:aA W7 g 141 #[(A,n,c),(B,m,d),(PA,np,cp),(XA,nx,cx),(XB,mx,dx),(K,k,R),cap,l,.pointer r,(),an,.pointer r,.slice SA L sc,(),an,.pointer r,.slice SA L sc,an,(y,np,np),(),()]:=by rw[C];exact(X.o.at (w':=y.alloc (.cells (iv [] np) 28))).av 18 _
 have I:aT W7 p.1.size 28 2 (some ⟨y.1.size,0,none⟩) np np (tc (List.replicate np kc)):=by have h9:=row_zero y (B:=p.1.size) Q ai;refine h9.same λad G=>?_;rw[<-cU G,C];exact bb _ ⟨g,18,none⟩ _ _ (by show y.1.size≠g;omega)
 have y3:=U hk7;have Xb:=U I;clear C hk7 I jF;go_wp2_with fail;go_ret2;have D:=V.o.at (w':=W7);have hgn:g=J:=HG.o;have hU:∀b,ra.F r b->b<J.1.size:=λb hb=>(V.o.lt b hb).2;refine⟨p,SA,L.length,sc,g,r,y.1.size,⟨_,ra,λ_ _=>False⟩,List.replicate np kc,kc,rfl,aG w p,U ⟨am,⟨ps,am,hP,hO⟩,am,am,lx,Ys,lp,lB,⟨ss,sh,vW⟩,hf,hs,hc.o.hF.It⟩,U ⟨⟨D,λs=>⟨y3,⟨none,0,0,0,by cases s<;>rfl,by cases s<;>rfl,.inl ⟨rfl,rfl,λ_ h=>h⟩⟩,List.Pairwise.nil,by show 0<=1000;omega⟩,λs=>by cases s<;>rfl,by rw[hgn];exact ai,λhx=>by have:=hU _ hx;omega,λ_ _ h=>h.elim,λ_ _ h=>h.elim⟩,⟨rfl,rfl,rfl,rfl,rfl,rfl,rfl,λs=>by cases s<;>rfl⟩,rfl,rfl,Xb,fe ..,?_,rfl,rfl,rfl,?_,?_,?_⟩,aG p W7⟩;show(List.replicate np kc).map Tn.tv=List.replicate P.length T0;rw[List.map_replicate,xk.o];rfl;exact zP0;intro t ht;rw[e3 ht];exact zP0;rintro(h9|h9|h9|h9);omega;have:=hU _ h9;omega;exact h9;exact h9
end
section
variable{b:Nat}{F':Nat->Prop}
structure jJ(w:World)(B vg n:Nat)(ts:List Tn):Prop where
 row:aT w B 28 2 (some ⟨vg,0,none⟩) n n (tc ts)
 len:ts=n
 el:∀t∈ts,TE w t
 off:∀t∈ts,(∀b,AF t.A b->b<w.1.size/\b≠vg)/\∀b,AF t.B b->b<w.1.size/\b≠vg
section
variable{w:World}{B n:Nat}{ts:List Tn}{F:Nat->Prop}
def Rk:∀(ts:List Tn) (i:Nat),i<ts->tc (ts.set i t)=((tc ts).set (i*2) (.slice t.A t.zs.length t.c)).set (i*2+1) (.slice t.B t.xs.length t.d)
 |_::us,0,_=>rfl
 |u::us,i+1,h=>by have e:=Rk us i (by simpa using h);rw[show(i+1)*2=i*2+1+1 from Y];show _::_::tc (us.set i t)=_;rw[e];rfl
theorem jJ.oj(h:jJ w B R n ts):Ts w R n ts:=by
 have j:qw w B R n ts:=⟨by rw[h.len];exact h.row,h.el,λt ht=>⟨λb hb=>⟨((h.off t ht).1 b hb).1,λe=>((h.off t ht).1 b hb).2 (du.1 e).symm⟩,λb hb=>⟨((h.off t ht).2 b hb).1,λe=>((h.off t ht).2 b hb).2 (du.1 e).symm⟩⟩⟩;have:=j.oj;rw[h.len]at this;exact this
def jJ.kf(h:jJ w B R n ts)(e:Kf F F' w w')(hv:¬F R)(hF:∀t∈ts,(∀b,AF t.A b->¬F b)/\∀b,AF t.B b->¬F b):jJ w' B R n ts:=
 ⟨e.row h.row λb hb=>by rw[<-du.1 hb];exact hv,h.len,λt ht=>⟨e.rd (h.el t ht).1 (hF t ht).1,e.rd (h.el t ht).2.1 (hF t ht).2,(h.el t ht).2.2⟩,λt ht=>⟨λb hb=>⟨bN ((h.off t ht).1 b hb).1 e.size,((h.off t ht).1 b hb).2⟩,λb hb=>⟨bN ((h.off t ht).2 b hb).1 e.size,((h.off t ht).2 b hb).2⟩⟩⟩
def jJ.at(h:jJ w B R n ts)[l:aM w w']:jJ w' B R n ts:=h.kf (F:=λ_=>False) (Kf.later _) (λh=>h) λ_ _=>⟨λ_ _ h=>h,λ_ _ h=>h⟩
def jJ.lK(h:jJ w B R n ts):B<=R/\R<w:=⟨(h.row.af (du.2 rfl)).1,(h.row.af (du.2 rfl)).2.1⟩
def jJ.cells(h:jJ w B R n ts)(hi:i<n):(∃v,w.cell? (R,i*2)=some v)/\(∃v,w.cell? (R,i*2+1)=some v)/\∀k,w.frozen? ⟨R,k,none⟩=false:=by
 obtain⟨e,hg,l,m,hm,r,ht,-⟩:=h.row.whole;have j:aA w R 28 e:=hg;exact⟨⟨_,(j.cell (i*2)).trans (PZ Y)⟩,⟨_,(j.cell (i*2+1)).trans (PZ Y)⟩,j.frozen⟩
def jJ.av(h:jJ w B R n ts)(hi:i<n)(ht:TE w t)(f1:∀b,AF t.A b->b<w.1.size/\b≠R)(f2:∀b,AF t.B b->b<w.1.size/\b≠R):
  jJ ((w.setCell (R,i*2) (.slice t.A t.zs.length t.c)).setCell (R,i*2+1) (.slice t.B t.xs.length t.d)) B R n (ts.set i t):=by
 have m:Kf (λb=>b=R) (λb=>b=R) w ((w.setCell (R,i*2) (.slice t.A t.zs.length t.c)).setCell (R,i*2+1) (.slice t.B t.xs.length t.d)):=((Kf.refl (λb=>b=R) w).av (q:=⟨R,i*2,none⟩) rfl _).av (q:=⟨R,i*2+1,none⟩) rfl _;have e:∀y∈ts.set i t,(∀b,AF y.A b->b<w.1.size/\b≠R)/\∀b,AF y.B b->b<w.1.size/\b≠R:=λy j=>by rcases ij j with j|rfl;exact h.off y j;exact⟨f1,f2⟩
 have l:∀y∈ts.set i t,TE w y:=λy j=>by rcases ij j with j|rfl;exact h.el y j;exact ht
 refine⟨?_,by rw[ei];exact h.len,λy j=>⟨m.rd (l y j).1 λb hb=>((e y j).1 b hb).2,m.rd (l y j).2.1 λb hb=>((e y j).2 b hb).2,(l y j).2.2⟩,λy j=>⟨λb hb=>⟨bN ((e y j).1 b hb).1 m.size,((e y j).1 b hb).2⟩,λb hb=>⟨bN ((e y j).2 b hb).1 m.size,((e y j).2 b hb).2⟩⟩⟩;rw[Rk ts i (by rwa[h.len])];exact(h.row.A9 (i:=i*2) _).A9 (i:=i*2+1) _
end
end
variable{z0 z1:Value}
def adH(w:ab)(N:a6)(P:List TV)(x:TV)(m:Nat)(e:Ending)(w':ab):Prop:=
 ∃b ts,e=.returned (.tuple #[.slice (some ⟨b,0,none⟩) m m,an])/\jJ w' w.1.size b m ts/\Z (ts.map Tn.tv=dR N P x)/\Z (∀t∈ts,t.zs.length<=t.c)/\aj w' w
section
variable{w:World}{n nx:Nat}{N:a6}{P:List TV}{x:TV}
def Rl(w:ab):TE w kc:=⟨λj z b=>by simp[kc]at b,λj z b=>by simp[kc]at b,al _,λz e=>by simp[kc]at e⟩
def jJ.new(w:ab){n B:Nat}(j:n<=1000000)(r:B<=w):jJ (w.alloc (.cells (iv [] n) 28)) B w.1.size n (List.replicate n kc):=
 ⟨row_zero w j r,fe ..,λt ht=>by rw[e3 ht];exact Rl _,λt ht=>by
  rw[e3 ht];exact⟨λb ⟨y,e,_⟩=>(by cases e),λb ⟨y,e,_⟩=>(by cases e)⟩⟩
theorem LK{w u:ab}[aM w u](hq:w<=q):aj ((u.setCell (q,i) z0).setCell (q,j) z1) w:=
 (((Kf.refl (λb=>b=q) u).av (q:=⟨q,i,none⟩) rfl z0).av (q:=⟨q,j,none⟩) rfl z1).prev λb e=>by rw[e];exact hq
def abH[a:aW w A n B m N][tp:Ts w PA np ps][sx:Sl w XA nx x.1][xx:Sl w XB mx x.2](hf:Z N.fits)(hs:Z N.small)(y:Z (fI N O L l P x))(hP:Z (ps.map Tn.tv=P))(hO:Z (eP ps))(EI:np<=1000000)(lp:np<=cp)(lB:m<=d)(hM:Z (R=m+1)):
  () 59 #[.agg #[(A,n,c),(B,m,d)],(PA,np,cp),.agg #[(XA,nx,cx),(XB,mx,dx)]] w (adH w N P x R):=by
 obtain⟨CB,CP,FB⟩:=gW;have HE:Z (bm N=0):=y.o.hE;have HV:Z (dz N=(O,L,(l:Int))):=y.o.hL;have vQ:Z ((ps.map Tn.tv).map (·.1)=bQ N):=U (by rw[hP.o];exact y.o.hF.ps);have HX:Z (x.1=N.ed):=y.o.hF.xs;have F:Z (TV.ok x):=y.o.hF.It;have HS:Z (aw x.1 x.2=true):=y.o.hF.It.1;have hm:m<=1000:=by rw[a.len];exact hs.o.1
 have Ea:R<=1001:=by rw[hM.o];omega
 have hMm:m<R:=by rw[hM.o];omega
 have jF:=jA R Y;have MQ:IntKind.i64.wrap ((m:Int)+1)=(R:Int):=by rw[hM.o,a7];omega
 have J:Z (m=N.nodes):=a.len;have XP:O.length<=1000:=by rwa[y.o.hN.tI,<-J.o]
 have Lz:Z (np=(bQ N).length):=U (by rw[<-vQ.o,bn,bn];exact tp.len);have hx4:nx<=1000000:=by rw[sx.len];have:=cv F.o.right;omega
 have hx5:mx<=1000000:=by rw[xx.len];have:=(fp HS).1;omega
 go_in;go_upto_region 1 with fail;refine dd (λu0 p0 k1 k2=>?_);obtain⟨r1,e1⟩:=lg w.1.size;go_upto_region 4 with(go_at_call 24;refine mv (C7 hf hs HE vQ hO HX HS Y) λu1 _=>?_);go_upto_region 7 with(go_at_call 60;refine(Ck hf hs HE HV).mono ?_;rintro e u2 ⟨AO,cO,rfl,Zl,pO⟩);have sO:Sl u2 AO O O:=⟨Zl.rd,rfl⟩;clear Zl e1 r1;go_upto_region 8 with fail;obtain⟨W,hW⟩:=lg (u2.alloc (.cells (iv [] R) 28));obtain⟨vg,M⟩:=lg u2.1.size;have Q:Z (jJ W w.1.size vg R (List.replicate R kc)):=U (by rw[hW,M];exact jJ.new u2 Y ai);have pW:aj W u2:=by rw[hW];exact aC
 have HVG:Z (u2<=vg):=dT M.symm;rw[<-hW,<-M];clear hW M jF;go_upto_region 9 with(go_at_call 71;refine(pm hx4 hx5).mono ?_;rintro e u3 ⟨G,G',rfl,sA,sX,fA,fX,YU⟩;obtain⟨⟨y0,mG⟩,⟨y1,EH⟩,C⟩:=(Q.o.at (w':=u3)).cells (i:=0) Y;have Lg:=C (0*2);have nC:=C (0*2+1);clear C;rw[fo]at mG EH Lg nC)
 obtain⟨W4,T⟩:=lg ((u3.setCell (vg,0) (.slice (some ⟨G,0,none⟩) x.1.length x.1.length)).setCell (vg,1) (.slice G' x.2.length x.2.length));have hvW:=(Q.o.at (w':=W)).lK.2;have M1:Z (jJ W4 w.1.size vg R ((List.replicate R kc).set 0 ⟨some ⟨G,0,none⟩,x.1.length,x.1,some ⟨G',0,none⟩,x.2.length,x.2⟩)):=U (by
  rw[T];exact(Q.o.at (w':=u3)).av (i:=0) (t:=⟨some ⟨G,0,none⟩,x.1.length,x.1,some ⟨G',0,none⟩,x.2.length,x.2⟩) Y (TE.of sA sX (al _) F.o.2) (λb hb=>⟨gn sA (fL F.o.right) b hb,by obtain⟨ad,e9,rfl⟩:=hb;have:=fA.o ad e9;omega⟩) (λb hb=>⟨gn sX F.o.ne b hb,by obtain⟨ad,e9,rfl⟩:=hb;have:=fX.o ad e9;omega⟩))
 have p4:aj W4 u2:=by rw[T];exact LK HVG
 have wE:Z (((List.replicate R kc).set 0 ⟨some ⟨G,0,none⟩,x.1.length,x.1,some ⟨G',0,none⟩,x.2.length,x.2⟩).map Tn.tv=TW N x):=U (by
  obtain⟨q,hq⟩:∃q,R=q+1:=⟨R-1,Y⟩;have hqm:q=N.nodes.length:=by have:=hM.o;have:=J.o;omega
  rw[hq,jM,i4,eh,List.map_replicate,hqm];rfl)
 have Iq:Z (∀t∈(List.replicate R kc).set 0 ⟨some ⟨G,0,none⟩,x.1.length,x.1,some ⟨G',0,none⟩,x.2.length,x.2⟩,t.zs.length<=t.c):=λt ht=>by rcases ij ht with ht|rfl;rw[e3 ht];exact al _;exact al _
 rw[<-T];clear T mG EH Lg nC;go_wp2_with fail;go_loopw [45] (λs45 wr=>∃(j:Nat) (ts:List Tn),j<=O/\s45=.int .i64 (j:Int)/\Z (jJ wr w.1.size vg R ts)/\Z (ts.map Tn.tv=Ow N P (TW N x) (O.take j))/\Z (∀t∈ts,t.zs.length<=t.c)/\aj wr u2) (λs45 _=>O.length-(intOf s45).toNat);exact⟨0,_,aR _,rfl,M1,wE,Iq,p4⟩;clear Q M1 wE Iq;obtain⟨j,ts,hj,rfl,HVR,HTR,HCR,hp⟩:=hrel;have Zm:Sl wr AO O O:=am;by_cases bD:j<O
 .obtain⟨b1,o1,z,rfl,mM,cz,hz⟩:=Zm.get bD;have hid:=y.o.hN.m8.ids z (aK hz.o);have acy:=y.o.hN.sZ hz.o;have Y7:=xK y.o.hN y.o.hF j (eW bD);obtain⟨v,hv,Zn,WT,f1,f2,f3,f4,f5,f6,f7⟩:=Y7.node y.o.hN y.o.hF hid acy;obtain⟨h1,h2⟩:=bt.1 hid;obtain⟨q,rfl⟩:∃q:Nat,z=(q:Int):=⟨z.toNat,Y⟩;obtain⟨k,hk⟩:∃k,q=k+1:=⟨q-1,Y⟩;(have oP:((q:Int)-1).toNat=k:=by omega);rw[oP]at hv f3 f4 f6 f7;have HK:=U hv;(have IB:k<m:=by rw[J.o];exact(bj.1 hv).1);have hqM:q<R:=Y;rw[<-HTR.o]at f1 f2 f6 f7;obtain⟨b0,q0,o,A1,n1,BY,I,ni,ci,ins,P',np',cp',r,rfl,ob,⟨v0,v1,v2,v3,v4,v5,v6,v7,v8,v9⟩,s1,si,sp,l1,li,lp',ik,lP⟩:=a.node IB;obtain rfl:v=⟨o,ins,aX r⟩:=cU (hv.symm.trans lP.o);have IC:=hf.o.2.2 _ (aK hv);(have qW:n1<=1000000:=by rw[s1.len];have h9:o.S.length<=100000:=IC.2.1;omega);have ra:ni<=1000000:=by rw[si.len];have h9:ins.length<=100000:=IC.1;omega
  obtain⟨UV,D⟩:=lh (cE (ts.map Tn.tv) ins);have LL:(cE (ts.map Tn.tv) ins).map (·.1)=d7 ⟨o,ins,aX r⟩ L:=f1;have O4:∀t∈cE (ts.map Tn.tv) ins,TV.ok t:=f2;have Zo:Z (∀z∈ins,∀t,ts[z.toNat]?=some t->aw t.zs t.xs=true/\t.zs.length<=t.c):=λz hz t ht=>⟨by
   have h9:=O4 ((ts.map Tn.tv).getD z.toNat T0) (cw.2 ⟨z,hz,rfl⟩);rw[a5,bo,ht]at h9;exact h9.1,HCR.o t (aK ht)⟩
  have Zp:Z (∀z∈ins,0<=z/\z<(R:Int)):=λz hz=>by have h9:=y.o.hN.ko ⟨o,ins,aX r⟩ Zn z hz;have:=hM.o;have:=J.o;omega
  rw[D]at LL O4;have x9:=U D;(have ud:UV.length<=1000000:=by rwa[<-D,cE,bn,<-si.len]);obtain⟨PV,uA⟩:=lh (iB N P k ⟨o,ins,aX r⟩);rw[uA]at f3 f4;obtain⟨V,zz⟩:=lh (cy o (PV.map (·.1)) (UV.map (·.1)));obtain⟨X,oR⟩:=lh (xA o PV UV);(have hfv:wg N P (ts.map Tn.tv) k ⟨o,ins,aX r⟩=(V,X):=by unfold wg;rw[uA];show(cy o (aX r) ((cE (ts.map Tn.tv) ins).map (·.1)),xA o PV (cE (ts.map Tn.tv) ins))=_;rw[D,<-zz,oR,f3]);rw[hfv]at f7;have HFV:=U hfv;have kH:=U f7;have Bi:Z (dr o (PV.map (·.1)) (UV.map (·.1))=0):=U (by rwa[f3,LL]);have qg:=U zz;have iP:=U oR;obtain⟨f,hF⟩:=lh (dK N k);obtain⟨t,hT⟩:=lh (f+(aX r).length);have HF:=U hF;have HT:=U hT;(have Uq:t<=np:=by rw[Lz.o,<-hT,<-hF,show(aX r).length=(⟨o,ins,aX r⟩:dV).P.length from rfl,<-jq hv];unfold dK bQ;exact la _ _);obtain⟨A2,kE,wW⟩:=qx PA (show f<=t by omega) Uq lp;obtain⟨qn,LM⟩:=lh (t-f);have tq:Ts wr A2 qn ((ps.drop f).take qn):=by rw[<-LM];exact wW wr ps am
  rw[LM]at kE;obtain⟨qs,IL⟩:=lh ((ps.drop f).take qn);rw[IL]at tq;have HQP:Z (qs.map Tn.tv=PV):=U (by
   rw[<-IL,<-uA,fT,kX,hP.o,<-hF];unfold iB;rw[show(⟨o,ins,aX r⟩:dV).P.length=qn from by show(aX r).length=qn;omega])
  have ID:Z (eP qs):=λt ht=>hO.o t (by rw[<-IL]at ht;exact hJ (eS ht));(have hwk:IntKind.i64.wrap ((q:Int)-1)=(k:Int):=by rw[a7];omega);(have Zq:(q:Int)=(k:Int)+1:=by omega);have HQK:=U Zq;have HKQ:=U hk;have Zr:=hz;(have i1:(j:Int)<(O.length:Int):=by omega);(have afi:(k:Int)<(m:Int):=by omega);(have afj:(q:Int)<(R:Int):=by omega);have afk:Z (∀z∈X,bf z):=f7.2;clear hid acy Y7 hv Zn WT f1 f2 f3 f4 f5 f6 f7 h1 h2 oP lP IC D LL O4 uA zz oR hfv hF hT wW LM IL Zq hk hz;go_upto_region 13 with fail;refine aa (λu4 Lj k4=>?_);go_upto_region 14 with(go_at_call 63;refine mv (C4 lB hf hs HQK HK HF HT) λE _=>?_);go_cut [17,18] (λq9 e9 wx=>∃G A' c' B' d',q9=.pointer (some ⟨G,0,none⟩)/\e9=.int .i64 0/\E.1.size<=G/\Bx wx G 28 #[.slice A' V c',.slice B' X d']/\Sl wx A' V V/\Sl wx B' X X/\Le V.length c'/\Le X.length d'/\bL E.1.size A'/\bL E.1.size B'/\aj wx E);case first=>
   have tv5:Ts E vg R ts:=(HVR.o.at (w':=E)).oj;refine ax E ap (λux _=>?_)
   repeat' (first
    |(refine kj 0 ?_
      refine qL [0,1,2,3,4,5,6,7] ?_;refine jQ 8 70 ?_)
    |(refine kj 11 ?_
      refine qL [11,12] ?_;refine jQ 13 74 ?_)
    |(refine kj 16 ?_
      refine jQ 16 18 ?_)
    |(intro (tg:Tg 9) K hK
      clear tg;go_simp
      refine(Lf ra Zo Zp x9).mono ?_
      rintro e ux ⟨A3,c3,us,rfl,TU,LU,wz,O1,_⟩;dsimp only;refine aE hK ?_;clear hK K)
    |(intro (tg:Tg 10) K hK
      clear tg;go_simp
      refine(Rj qW ud ID wz HQP O1 Bi qg iP).mono ?_
      rintro e ux ⟨A',c',B',d',rfl,sA,sX,lA,lX,fA,fX,_⟩;dsimp only;refine aE hK ?_;clear hK K)
    |(intro (tg:Tg 14) K hK
      clear tg;go_simp;refine aE hK ?_;refine bc (λux _ _=>?_))
    |(intro (tg:Tg 15) K hK
      clear tg;rename World=>wN;go_simp;refine q8 hK (λ_=>?_) ⟨bA (aO E wN) ai _ _⟩;clear hK K)
    |refine ff 9 ?_
    |refine ff 10 ?_
    |refine ff 15 ?_
    |refine ff 14 ?_
    |refine my 9 14 ?_ ?_
    |refine my 10 14 ?_ ?_
    |refine DW ?_)
   all_goals go_wp2_with fail;go_meet;refine⟨_,A',_,B',_,rfl,rfl,ai,⟨(Bx.ak (w:=wN)).bP _ _⟩,?_,?_,lA,lX,fA.less ai,fX.less ai,⟨bA (aO E wN) ai _ _⟩⟩;exact zP1;exact zP2
  obtain⟨G4,A4,c4,B4,d4,rfl,rfl,hvG,kG,sA4,sX4,lA4,lX4,fA4,fX4,pv⟩:=hcut;obtain⟨W9,rfl⟩:=lg wc;have HVX:=U (HVR.o.at (w':=W9));obtain⟨⟨y0,mG⟩,⟨y1,EH⟩,C⟩:=HVX.o.cells (i:=q) hqM;have Lg:=C (q*2);have nC:=C (q*2+1);clear C kE;go_wp2_with fail;go_roundw;have hvr:=HVR.o.lK.2;have hru:wr.1.size<=E.1.size:=ai;have afl:=HVX.o.av (i:=q) (t:=⟨A4,c4,V,B4,d4,X⟩) hqM (TE.of sA4 sX4 lX4.le afk) (λb hb=>⟨gn sA4 (fL kH.o.right) b hb,by obtain⟨ad,e9,rfl⟩:=hb;have:=fA4.o ad e9;omega⟩) (λb hb=>⟨gn sX4 kH.o.ne b hb,by obtain⟨ad,e9,rfl⟩:=hb;have:=fX4.o ad e9;omega⟩);refine⟨j+1,_,Y,by go_num,U afl,U ?_,U λt ht=>?_,LK HVG⟩;rw[take_at Zr.o];unfold Ow;rw[sB];show _=XY N P (Ow N P (TW N x) (O.take j)) (q:Int);unfold XY;rw[show((q:Int)-1).toNat=k from by have:=HKQ.o;omega,HK.o];dsimp only;rw[<-HTR.o,HFV.o,jb,a9];rfl;rcases ij ht with ht|rfl;exact HCR.o t ht;exact lA4.le;simp[intOf];omega
 obtain rfl:j=O:=Y;go_wp2_with fail;go_ret2;refine⟨vg,ts,rfl,HVR,U ?_,HCR,aG w wr⟩;rw[HTR.o,ek,dR,y.o.hN.ord]
end
