/- Lemmas. -/
import Derived.Test.YtmkjnlifimffkaaGreatG13
namespace Go.Proofs.YtmkjnlifimffkaaGreat
open Go.RowKit Tryz
set_option linter.all false
set_option maxRecDepth 100000
set_option maxHeartbeats 0
variable{Γ:Prop}
attribute[local irreducible]Calls
variable{w':World}{A B C D:Option Addr}{R c c' d d' f m m':Nat}{xs ys zs:List Int}{id:Int}
def adz(w:ab)(t:TV)(e:Ending)(w':ab):Prop:=
 ∃A c B d,e=.returned (.agg #[.slice A t.1.length c,.slice B t.2.length d])/\Sl w' A t.1.length t.1/\Sl w' B t.2.length t.2/\Le t.1.length c/\Le t.2.length d/\bL w.1.size A/\bL w.1.size B/\aj w' w
section
variable{w:World}{n k:Nat}{ts:List Int}{N:a6}{v:dV}
def jq(hv:N.nodes[k]?=some v):dK N (k+1)=dK N k+v.P.length:=by
 unfold dK;rw[take_at hv,nK,bh];simp
def r7(b:N.fits)(hs:N.small)(k:Nat):dK N k<=100000000:=by
 have e:=un b k;have j:(N.nodes.take k).length<=1000:=by have:=hs.1;simp;omega
 unfold dK;omega
def C3(r:k<=m)(e:m<=d)(W:ab):(Instr.slice 31 (B,m,d) none (some (.int .i64 (k:Int))) none).run prog W=.ok (B,k,d) W:=by
 have b:∀W,(sizeOf (prog.elem 31)).run prog W=.ok 10 W:=λW=>by obtain⟨u,j,l⟩:=bJ.1 (show(prog.info? (prog.elem 31)).map (·.size)=some 10 from by kernel_rfl);simp[sizeOf,typeInfo,j,l]
 rw[kV W 31 B m d ap .i64 (k:Int) Y Y,b];cases B<;>simp[Result.andThen,sliced,Addr.add]
def zN0(h:Γ:=by simp[intOf];omega):=h
def C4[a:aW w A n B m N](F:m<=d)(S:Z N.fits)(hs:Z N.small)(hid:id=(k:Int)+1)(G:Z (N.nodes[k]?=some v)){t:Nat}(hF:Z (dK N k=f))(T:Z (f+v.P.length=t)):
  () 63 #[.agg #[(A,n,c),(B,m,d)],id] w (aL w (.tuple #[f,t])):=by
 obtain⟨CB,CP,FB⟩:=gW;subst hid;have Q:Z (m=N.nodes):=a.len;have hm:m<=1000:=by rw[Q.o];exact hs.o.1
 have e:k<m:=by rw[Q.o];exact(bj.1 G).1
 have V:=λW=>C3 (B:=B) (eW e) F W;have u:∀j,dK N j<=100000000:=r7 S hs;have y:=U u;have X:IntKind.i64.wrap ((k:Int)+1-1)=(k:Int):=by rw[a7];omega
 have hwj:IntKind.i64.wrap (k:Int)=(k:Int):=by rw[a7];omega
 have d1:decide ((k:Int)+1<1)=false:=by simp;omega
 have d2:decide ((m:Int)<(k:Int)+1)=false:=by simp;omega
 have z:Z (f=dK N k):=hF.o.symm;clear u;go_in;go_upto_region 1 with fail;refine aa (λu0 _ _=>?_);go_wp2_with fail;go_loopw [4,23] (λs i wr=>∃(j:Nat),j<=k/\i=.int .i64 (j:Int)/\s=.int .i64 (dK N j:Int)/\aj wr u0) (λ_ i _=>k-(intOf i).toNat);exact⟨0,aR _,rfl,rfl,aC⟩;obtain⟨j,hj,rfl,rfl,hp⟩:=hrel;by_cases J:j<k
 .obtain⟨b0,q0,o,A1,n1,c1,I,ni,ci,ins,P,np,cp,ps,rfl,ob,⟨v0,v1,v2,v3,v4,v5,v6,v7,v8,v9⟩,s1,si,sp,l1,li,lp,ik,l⟩:=a.node (Nat.lt_trans J e);(have E:dK N (j+1)=dK N j+np:=by rw[jq l.o,sp.len,cR]);have b:=y.o (j+1);obtain⟨K,r⟩:=lh (dK N j);have L:Z (dK N (j+1)=K+np):=U (by rw[E,r]);(have M:IntKind.i64.wrap ((K:Int)+(np:Int))=(K:Int)+(np:Int):=by rw[a7];omega);rw[r];clear E b r;(have i1:(j:Int)<(k:Int):=by omega);go_wp2_with fail;go_roundw;exact⟨j+1,Y,by go_num,by rw[L.o];go_num,aC⟩;exact zN0
 obtain rfl:j=k:=Y;obtain⟨b0,q0,o,A1,n1,c1,I,ni,ci,ins,P,np,cp,ps,rfl,ob,⟨v0,v1,v2,v3,v4,v5,v6,v7,v8,v9⟩,s1,si,sp,l1,li,lp,ik,l⟩:=a.node e;have O:np=v.P:=by have h9:=cU (l.o.symm.trans G);rw[<-h9,sp.len,cR]
 have b:=y.o (j+1);rw[jq G.o,<-z.o]at b;have M:IntKind.i64.wrap ((f:Int)+(np:Int))=(t:Int):=by have:=T.o;rw[a7];omega
 rw[<-z.o];have i1:(j:Int)<(m:Int):=by omega
 clear b O;go_upto_region 8 with fail;refine aq ap (λux _=>?_);refine qL [0,1,2,3,4,5,6,7,8,9,10,11,12] ?_;refine a8 ?_;go_wp2_with fail;go_ret2;exact bF
def Yo[s:Sl w A n zs][x:Sl w B m xs][b:Sl w C R ts][e:Sl w D m' ys][i:cm xs][j:cm ys](h:Z (cP zs xs ts ys=true)):() 115 #[.agg #[(A,n,c),(B,m,d)],.agg #[(C,R,c'),(D,m',d')]] w (dM w zs (xs.zipWith bB ys) 0):=by
 obtain⟨s,rfl⟩:=s;obtain⟨x,rfl⟩:=x;obtain⟨b,rfl⟩:=b;obtain⟨e,rfl⟩:=e;exact t1 (Bl A B C D c d c' d' zs xs ts ys w s x b e (U i.bd) (U j.bd) h)
def zN4(h:Γ:=by simp[results,results66,go_sem,r0,r1]):=h
def IA[Sl w A n zs][x:Sl w B m xs][Sl w C R ts][Sl w D m' ys][cm xs][cm ys](hm:m<=1000000)(P:R<=1000000)(Q:m'<=1000000)(h:Z (xs=[]\/cP zs xs ts ys=true)){V:TV}(hV:Z (iC (zs,xs) (ts,ys)=V)):
  () 66 #[.agg #[(A,n,c),(B,m,d)],.agg #[(C,R,c'),(D,m',d')]] w (adz w V):=by
 have CB:=@az;have FB:=@aP;have I:=hV;clear hV;go_in;go_upto_region 1 with fail;refine uk (λu0 p0 k1 k2 S b=>?_);rcases Qb (xs=[])with hx|hx
 .obtain rfl:m=0:=by rw[x.len,hx];rfl
  have l:Z (V=(ts,ys)):=U (by rw[<-I.o,iC,ah hx]);have HS:=U b;clear hx h b;go_wp2_with (go_at_call 71;refine(pm P Q).mono ?_;rintro e u ⟨G,J,rfl,sA,T,fA,K,_⟩);have X:Bx u (w.1.size+1+1) 28 #[(),()]:=am;have k9:=X.ak.bP (.slice G ts ts.length) (.slice J ys ys.length);have B3:=bA (aO w u) (p:=w.1.size+1+1) Y (.slice G ts ts.length) (.slice J ys ys.length);have r:=sA.bH fA S.ak.lt (.slice G ts ts.length) (.slice J ys ys.length);have y:=T.bH K S.ak.lt (.slice G ts ts.length) (.slice J ys ys.length);obtain⟨r0,r1⟩:=bM k9;refine aZ (v:=.agg #[.slice G ts ts.length,.slice J ys ys.length]) zN4 rfl ?_;have j:=l.o;subst j;exact⟨_,_,_,_,rfl,r,y,⟨al _⟩,⟨al _⟩,fA.less ai,K.less ai,⟨B3⟩⟩
 have lz:0<m:=by rw[x.len];exact PT.2 hx
 have l:Z (V=(zs,xs.zipWith bB ys)):=U (by rw[<-I.o,iC,ag hx]);have Xo:Z (cP zs xs ts ys=true):=h.o.resolve_left hx;clear hx h;obtain⟨L,z⟩:=l8 (xs.zipWith bB ys);have HS:=U b;clear b;go_upto_region 4 with(go_at_call 115;refine(Yo Xo).mono ?_;rintro e u ⟨E,c',F,d',rfl,sA,T,lA,lX,fA,K,_⟩;rw[z.o]at T lX;rw[z.o]);refine Fu (λO _ _=>?_);go_wp2_with fail;have X:Bx O (w.1.size+1+1) 28 #[(),()]:=am;have k9:=X.ak.bP (.slice E zs c') (.slice F L d');have B3:=bA (aO w O) (p:=w.1.size+1+1) Y (.slice E zs c') (.slice F L d');have M:w.1.size+1+1<u0.1.size:=S.ak.lt;have Yp:Sl O E zs zs:=am;have Yq:Sl O F L L:=am;have r:=Yp.bH fA M (.slice E zs c') (.slice F L d');have y:=Yq.bH K M (.slice E zs c') (.slice F L d');obtain⟨r0,r1⟩:=bM k9;refine aZ (v:=.agg #[.slice E zs c',.slice F L d']) zN4 rfl ?_;have j:=l.o;rw[z.o]at j;subst j;exact⟨_,_,_,_,rfl,r,y,lA,lX,fA.less ai,K.less ai,⟨B3⟩⟩
end
variable{p u w1:World}{c1 g i j m1 r wd:Nat}{m2:kP}{v':da}{tb:Bool->Tb}{A' xW:Option Addr}{h z:Int}{ss:List Sp}{t:Tn}{L:List (List Int)}{vals:List TV}{kx:Array Value}
structure OR where
 A:Option Addr
 n:Nat
 c:Nat
 B:Option Addr
 m:Nat
 d:Nat
 PA:Option Addr
 np:Nat
 cp:Nat
 XA:Option Addr
 nx:Nat
 cx:Nat
 XB:Option Addr
 mx:Nat
 dx:Nat
 CA:Option Addr
 nc:Nat
 cc:Nat
 cap:Nat
 l:Nat
 SA:Option Addr
 ns:Nat
 sc:Nat
structure oe(J:OR)(r:Nat)(cs:Array Value):Prop where
 c0:cs[0]?=some (.slice J.A J.n J.c)
 c1:cs[1]?=some (.slice J.B J.m J.d)
 c2:cs[2]?=some (.slice J.PA J.np J.cp)
 c3:cs[3]?=some (.slice J.XA J.nx J.cx)
 c4:cs[4]?=some (.slice J.XB J.mx J.dx)
 c7:cs[7]?=some (.int .i64 (J.l:Int))
 c8:cs[8]?=some (.pointer r)
 cS:∀s,cs[oS s+3]?=some (.slice J.SA J.ns J.sc)
structure zu(p:World)(J:OR)(N:a6)(L:List (List Int))(P:List TV)(x:TV):Prop where
 Yr:aW p J.A J.n J.B J.m N
 ps:∃ps,Ts p J.PA J.np ps/\ps.map Tn.tv=P/\eP ps
 xs:Sl p J.XA J.nx x.1
 xx:Sl p J.XB J.mx x.2
 lx:J.nx<=J.cx
 Ys:J.mx<=J.dx
 lp:J.np<=J.cp
 lB:J.m<=J.d
 sh:∃ss,dX p J.SA J.ns ss/\aX ss=L
 fits:N.fits
 small:N.small
 It:TV.ok x
structure qw(w:World)(B:Nat)(A:Option Addr)(c:Nat)(ts:List Tn):Prop where
 row:aT w B 28 2 A c ts.length (tc ts)
 el:∀t∈ts,TE w t
 aV:∀t∈ts,(∀b,AF t.A b->b<w.1.size/\¬AF A b)/\∀b,AF t.B b->b<w.1.size/\¬AF A b
section
variable{w:World}{B k n o:Nat}{m m':kP}{v:da}{T:Bool->Int->Option (List Int)}{s:Bool}{ts:List Tn}{J:OR}{N:a6}{P:List TV}{x:TV}{nd:dV}{cs:Array Value}
def oe.same(h:oe J r cs)(hs:kQ cs kx):oe J r kx:=
 ⟨(hs 0 ao ao ao ao).trans h.c0,(hs 1 ao ao ao ao).trans h.c1,(hs 2 ao ao ao ao).trans h.c2,
  (hs 3 ao ao ao ao).trans h.c3,(hs 4 ao ao ao ao).trans h.c4,(hs 7 ao ao ao ao).trans h.c7,
  (hs 8 ao ao ao ao).trans h.c8,λs=>by cases s<;>exact(hs _ ao ao ao ao).trans (h.cS _)⟩
theorem MS.cl(h:MS w B g r m v tb){x:Value}(b:m.cs[i]?=some x):Cl w g i x:=⟨((h.t false).ak.cell i).trans b⟩
theorem MS.old(h:MS w B g r m v tb):Old g w:=⟨(h.t false).ak.lt⟩
def gn(h:Sl w A n zs)(l:zs≠[]):∀b,AF A b->b<w.1.size:=λb hb=>by
 obtain⟨F,e,rfl⟩:=hb;match zs,l,h with
 |y::t,_,h=>obtain⟨b,off,E,D,_⟩:=h.rd 0 y rfl;rw[e]at E;cases E;exact D
def zN3(h:Γ:=by cases ht):=h
def qw.nil(w:ab)(B:Nat):qw w B none 0 []:=⟨⟨rfl,.inl ⟨rfl,rfl⟩⟩,λt ht=>zN3,λt ht=>zN3⟩
def qw.at(h:qw w B A c ts)[l:aM w w']:qw w' B A c ts:=⟨h.row.at,λt ht=>(h.el t ht).below l.st,λt ht=>⟨λb hb=>⟨bN ((h.aV t ht).1 b hb).1 l.st.size,((h.aV t ht).1 b hb).2⟩,λb hb=>⟨bN ((h.aV t ht).2 b hb).1 l.st.size,((h.aV t ht).2 b hb).2⟩⟩⟩
theorem qw.oj(h:qw w B A c ts):Ts w A ts.length ts:=⟨QN.trd (B:=B) (c:=c) h.row h.el,rfl⟩
def TE.jE(h:TE w t)(l:dj A A' w w')(f1:∀b,AF t.A b->b<w.1.size/\¬AF A b)(f2:∀b,AF t.B b->b<w.1.size/\¬AF A b):TE w' t:=by
 have key:∀{C:bz} {zs:au},Rd w C zs->(∀b,AF C b->b<w.1.size/\¬AF A b)->Rd w' C zs:=λ{C zs} hr y j z D=>by obtain⟨b,off,e,hb,E⟩:=hr j z D;have F:=y b ⟨_,e,rfl⟩;refine⟨b,off,e,bN hb l.size,?_⟩;rw[<-E];exact d4 (l.off b hb λG I K=>F.2 ⟨G,I,K⟩)
 exact⟨key h.1 f1,key h.2.1 f2,h.2.2⟩
def qw.push(h:qw w B A c ts)(ht:TE w t)(f1:∀b,AF t.A b->b<w.1.size/\¬AF A b)(f2:∀b,AF t.B b->b<w.1.size/\¬AF A b)(hr:aT w' B 28 2 A' c' (ts.length+1) (tc ts++tc [t]))(l:dj A A' w w'):qw w' B A' c' (ts++[t]):=by
 have key:∀{C:bz},(∀b,AF C b->b<w.1.size/\¬AF A b)->∀b,AF C b->b<w'.1.size/\¬AF A' b:=λ{C} E b hb=>by obtain⟨F,G⟩:=E b hb;refine⟨bN F l.size,λhx=>?_⟩;obtain⟨D,I,rfl⟩:=hx;rcases l.new D I with⟨K,e,hx⟩|hx;exact G ⟨K,e,hx.symm⟩;omega
 refine⟨?_,λy hy=>?_,λy hy=>?_⟩;rw[bh,m0];exact hr;rcases cu.1 hy with hy|hy;exact(h.el y hy).jE l (h.aV y hy).1 (h.aV y hy).2;rw[de.1 hy];exact ht.jE l f1 f2;rcases cu.1 hy with hy|hy;exact⟨key (h.aV y hy).1,key (h.aV y hy).2⟩;rw[de.1 hy];exact⟨key f1,key f2⟩
def TE.of{e:bz}{d1 n1:Nat}(a:Sl w D n1 zs)(b:Sl w e m1 xs)(l:xs<=d1)(bd:∀z∈xs,bf z):TE w ⟨D,c1,zs,e,d1,xs⟩:=⟨a.rd,b.rd,l,bd⟩
def Yt(L:f0)(T:Bool->Int->Option (List Int))(vals:List TV)(n:Nat)(z:Int):Prop:=z=0\/(1<=z/\z<=n/\T false z=some (vals.getD z.toNat T0).2/\(vals.getD z.toNat T0).1=L.getD z.toNat []/\TV.ok (vals.getD z.toNat T0))
end
variable{J:OR}
section
variable{w:World}{B k n o:Nat}{m m':kP}{v:da}{T:Bool->Int->Option (List Int)}{s:Bool}{ts:List Tn}{N:a6}{P:List TV}{x:TV}{nd:dV}{cs:Array Value}
theorem aW.at{B:bz}[l:aM w w'](h:aW w A n B k N):aW w' A n B k N:=
 ⟨⟨h.ed.rd.below l.st,h.ed.len⟩,by
  obtain⟨xs,y,D⟩:=h.nds;exact⟨xs,λj x E=>by obtain⟨b,o,e,k⟩:=y j x E;exact⟨b,o,e,k.below l.st⟩,D⟩,h.len⟩
def Ul[aM p w](hb:Z (zu p J N L P x))(h:Z (MS w p.1.size g r m v tb))(V:Z (oe J r m.cs))(X:Z (N.nodes[k]?=some nd))(hF:Z (dK N k=f)):
  () 156 #[.pointer g,.int .i64 ((k:Int)+1)] w (aL w (f:Int)):=by
 have CC:=@cJ;have CP:=@bX;have a:aW w J.A J.n J.B J.m N:=hb.o.Yr.at;have R:=hb.o.fits;have hs:=hb.o.small;have S:Z (J.m=N.nodes.length):=a.len;have hm:J.m<=1000:=by rw[S.o];exact hs.1
 have e:k<J.m:=by rw[S.o];exact(bj.1 X).1
 have D:=λW=>C3 (B:=J.B) (m:=J.m) (d:=J.d) (eW e) hb.o.lB W;have l:∀j,dK N j<=100000000:=r7 R hs;have E:=U l;have hwj:IntKind.i64.wrap (k:Int)=(k:Int):=by rw[a7];omega
 have F:Z (f=dK N k):=hF.o.symm;have c1:Cl w g 1 (.slice J.B J.m J.d):=h.o.cl V.o.c1;clear l R hs;generalize J.B=Bz at a c1 D;go_in;go_wp2_with fail;go_loopw [5,18] (λs i wr=>∃(j:Nat),j<=k/\i=.int .i64 (j:Int)/\s=.int .i64 (dK N j:Int)/\aj wr w) (λ_ i _=>k-(intOf i).toNat);exact⟨0,aR _,rfl,rfl,aC⟩;obtain⟨j,hj,rfl,rfl,hp⟩:=hrel;by_cases G:j<k
 .obtain⟨b0,q0,o,A1,n1,BY,I,ni,ci,ins,P,np,cp,ps,rfl,ob,⟨v0,v1,v2,v3,v4,v5,v6,v7,v8,v9⟩,s1,si,sp,l1,li,lp,ik,K⟩:=a.node (Nat.lt_trans G e);(have y:dK N (j+1)=dK N j+np:=by rw[jq K.o,sp.len,cR]);have M:=E.o (j+1);obtain⟨O,b⟩:=lh (dK N j);have Q:Z (dK N (j+1)=O+np):=U (by rw[y,b]);(have MQ:IntKind.i64.wrap ((O:Int)+(np:Int))=(O:Int)+(np:Int):=by rw[a7];omega);rw[b];clear y M b;(have i1:(j:Int)<(k:Int):=by omega);go_wp2_with fail;go_roundw;exact⟨j+1,Y,by go_num,by rw[Q.o];go_num,aC⟩;exact zN0
 obtain rfl:j=k:=Y;go_wp2_with fail;go_ret;exact⟨by rw[F.o];rfl,aC⟩
def r8[aM p w](sh:Z (dX p xW n ss))(h:Z (MS w p.1.size g r m v tb))(cA:Z (cM v tb T))(b:Z (T false (j:Int)=some xs))(hs:Z (m.cs[12]?=some (.slice xW n c)))(e:Z ((aX ss)[j]?=some zs))(hr:Z (aw zs xs=true)):
  () 154 #[.pointer (some ⟨g,9,none⟩),j] w (dM w zs xs 0):=C2 (s:=false) sh h cA b hs e hr
def yT[aM p w](sh:Z (dX p xW n ss))(h:Z (MS w p.1.size g r m v tb))(cA:Z (cM v tb T))(b:Z (T true (j:Int)=some xs))(hs:Z (m.cs[16]?=some (.slice xW n c)))(e:Z ((aX ss)[j]?=some zs))(hr:Z (aw zs xs=true)):
  () 154 #[.pointer (some ⟨g,13,none⟩),j] w (dM w zs xs 0):=C2 (s:=true) sh h cA b hs e hr
def fL(h:aH zs=true):zs≠[]:=λe=>by rw[e]at h;exact absurd h ao
def Yu(w:ab)(b:List TV)(e:Ending)(w':ab):Prop:=∃A c ts,e=.returned (.tuple #[.slice A b c,an])/\Ts w' A b.length ts/\Le b.length c/\Z (eP ts)/\Z (ts.map Tn.tv=b)/\aj w' w
def zN2(h:Γ:=by intro u hu;simp at hu;rcases hu with rfl|rfl<;>rfl):=h
def C5[pw:aM p w](hb:Z (zu p J N L P x))(h:Z (MS w p.1.size g r m v tb))(hc:Z (oe J r m.cs))(cA:Z (cM v tb T))(hk:Z (N.nodes[k]?=some nd))(h0:Z (vals.getD 0 T0=x))(TS:Z (L=N.nodes.length+1))(tU:Z (∀z∈nd.ins,Yt L T vals N.nodes.length z))
  {pv:List TV} (V:Z (cE vals nd.ins=pv)):
  () 148 #[.pointer g,.int .i64 ((k:Int)+1)] w (Yu w pv):=by
 have CC:=@cJ;have CP:=@bX;have a:aW w J.A J.n J.B J.m N:=hb.o.Yr.at;have HM:Z (J.m=N.nodes.length):=a.len;have IB:k<J.m:=by rw[HM.o];exact(bj.1 hk).1
 have hm:J.m<=1000:=by rw[HM.o];exact hb.o.small.1
 have hwj:IntKind.i64.wrap (k:Int)=(k:Int):=by rw[a7];omega
 have c1:Cl w g 1 (.slice J.B J.m J.d):=h.o.cl hc.o.c1;have c3:Cl w g 3 (.slice J.XA J.nx J.cx):=h.o.cl hc.o.c3;have c4:Cl w g 4 (.slice J.XB J.mx J.dx):=h.o.cl hc.o.c4;obtain⟨ss,sh,C6⟩:=hb.o.sh;have SH:=U sh;have Um:=U C6;have hLX:x.2.length<=J.dx:=by have:=hb.o.Ys;rw[hb.o.xx.len]at this;exact this
 have TEX:Z (TE w ⟨J.XA,J.cx,x.1,J.XB,J.dx,x.2⟩):=U (TE.below (w:=p) (TE.of hb.o.xs hb.o.xx hLX hb.o.It.2) (pw.st));have HS:Z (aw x.1 x.2=true/\x.1.length<=J.cx):=U ⟨hb.o.It.1,by have:=hb.o.lx;rw[hb.o.xs.len]at this;exact this⟩;have O:Z ((∀b,AF J.XA b->b<p.1.size)/\∀b,AF J.XB b->b<p.1.size):=U ⟨gn hb.o.xs (fL hb.o.It.right),gn hb.o.xx hb.o.It.ne⟩;generalize J.B=Bz at a c1;obtain⟨b0,q0,o,A1,n1,BY,I,ni,ci,ins,P',np,cp,ps,rfl,ob,⟨v0,v1,v2,v3,v4,v5,v6,v7,v8,v9⟩,s1,si,sp,l1,li,lp,ik,lP⟩:=a.node IB;have Un:Z (nd=⟨o,ins,aX ps⟩):=cU (hk.o.symm.trans lP.o);obtain rfl:nd=⟨o,ins,aX ps⟩:=Un.o;have EN:Z (∀z∈ins,Yt L T vals N.nodes.length z):=tU;have ra:ni<=100000:=by have:=(hb.o.fits.2.2 _ (aK hk)).1;rwa[si.len]
 have Q:Z (pv=ni):=U (by rw[<-V.o];show(ins.map _).length=ni;rw[bn,si.len]);have HPA:Z (∀i,i<ni->∀z,ins[i]?=some z->pv[i]?=some (vals.getD z.toNat T0)):=(λi _ z hz=>by
  rw[<-V.o];show(ins.map _)[i]?=_;rw[bo,hz];rfl)
 clear lP Un V tU v0 v1 v2 v3 v4 v5 v6 v7 v9 s1 sp l1 lp ik hLX sh C6;go_in;go_wp2_with fail;go_loopw [6,23] (λs6 s23 wr=>∃(i:Nat) (A':bz) (c':Nat) (M:List Tn),i<=ni/\s23=.int .i64 (i:Int)/\s6=.slice A' i c'/\Z (qw wr w.1.size A' c' M)/\Z (M.length=i)/\Z (M.map Tn.tv=pv.take i)/\Z (eP M)/\aj wr w) (λ_ i _=>ni-(intOf i).toNat);exact⟨0,none,0,[],aR _,rfl,rfl,U (qw.nil _ _),U rfl,U rfl,U (λt ht=>zN3),aC⟩;obtain⟨i,A',c',M,hi,rfl,rfl,E,D,X,wz,hp⟩:=hrel;by_cases bD:i<ni
 .obtain⟨bi,oi,z,rfl,obi,cz,hz⟩:=si.get bD;have HZ:=hz;have Uo:=HPA.o i bD z hz.o;have HPI:=U Uo;have ae6:=EN.o z (aK hz.o);have ql:Z (pv.take (i+1)=pv.take i++[vals.getD z.toNat T0]):=take_at Uo;(have y:aT wr w.1.size 28 2 A' c' i (tc M):=by have:=E.o.row;rw[D.o]at this;exact this);clear Uo hz;rcases ae6 with fN|⟨gu,jR,MP,Up,R⟩
  .subst fN;have HVX:Z (vals.getD (0:Int).toNat T0=x):=h0;go_wp2_with (at_builtin;refine k4 rfl _ _ _ rfl 28 underlying23 2 48 (.agg #[(),()]) ap rfl ao ao w.1.size A' c' i (tc M) rfl y [.slice J.XA J.nx J.cx,.slice J.XB J.mx J.dx] rfl zN2 rfl Y ai ?_;intro A3 Oa w3 S F _);go_roundw;have G:∀b,b<p.1.size->¬AF A' b:=λb hb hx=>by have h9:=(y.af hx).1;have:=pw.st.size;omega
   have RY:p.1.size<=wr.1.size:=aQ pw.st.size (ai (w:=w) (w':=wr));have Ho:=E.o.push (t:=⟨J.XA,J.cx,x.1,J.XB,J.dx,x.2⟩) (TEX.o.below (aO w wr)) (λb l=>⟨bN (O.o.1 b l) RY,G b (O.o.1 b l)⟩) (λb l=>⟨bN (O.o.2 b l) RY,G b (O.o.2 b l)⟩) (by
    rw[D.o];have e1:=hb.o.xs.len;have e2:=hb.o.xx.len;rw[e1,e2]at S;exact S) F
   refine⟨i+1,A3,Oa,_,Y,by go_num,rfl,U Ho,U (by rw[bh,D.o];rfl),U ?_,U λt ht=>?_,⟨(aO w wr).trans (F.below (λad e9=>(y.af ⟨ad,e9,rfl⟩).1) ai)⟩⟩;rw[ql.o,c9,X.o,HVX.o];rfl;rcases cu.1 ht with ht|ht;exact wz.o t ht;rw[de.1 ht];exact HS;exact zN0
  obtain⟨j,rfl⟩:∃j:Nat,z=(j:Int):=⟨z.toNat,Y⟩;have hj0:((j:Int)==0)=false:=by simp;omega
  obtain⟨tv,htv⟩:=lh (vals.getD (j:Int).toNat T0);rw[htv]at MP Up R;have HTV:=U htv;have Ya:Z (T false (j:Int)=some tv.2):=MP;have HJ:Z ((aX ss)[j]?=some tv.1):=U (by
   have h9:j<L:=by rw[TS.o];omega
   rw[Um.o,bk h9,Up,a9,a5,bk h9];rfl)
  have HR:Z (aw tv.1 tv.2=true):=R.1;have kH:=U R;have HMS:Z (MS wr p.1.size g r m v tb):=h.o.at;have Yv:Z (m.cs[12]?=some (.slice J.SA J.ns J.sc)):=hc.o.cS false;clear gu jR MP Up R htv;go_upto_region 8 with(go_at_call 154;refine(r8 (p:=p) SH HMS cA Ya Yv HJ HR).mono ?_;rintro e u ⟨A4,c4',B4,d4,rfl,sA,sX,lA,lX,fA,fX,pu⟩);refine aa (λu1 t7 k1=>?_);have cb0:Cl u1 u.1.size 0 (.slice A4 tv.1.length c4'):=⟨k1.ak.cell 0⟩;have cb1:Cl u1 u.1.size 1 (.slice B4 tv.2.length d4):=⟨k1.ak.cell 1⟩;have K:aT u1 w.1.size 28 2 A' c' i (tc M):=y.at;go_wp2_with (at_builtin;refine k4 rfl _ _ _ rfl 28 underlying23 2 48 (.agg #[(),()]) ap rfl ao ao w.1.size A' c' i (tc M) rfl K [.slice A4 tv.1.length c4',.slice B4 tv.2.length d4] rfl zN2 rfl Y ai ?_;intro A3 Oa w3 S F _);go_roundw;have G:∀{C:bz},bL wr.1.size C->∀b,AF C b->¬AF A' b:=λ{C} hf b hx hy=>by obtain⟨ad,e9,rfl⟩:=hx;have h8:=hf.o ad e9;have h9:=(y.af hy).2.1;omega
  have Yp:Sl u1 A4 tv.1.length tv.1:=am;have Yq:Sl u1 B4 tv.2.length tv.2:=am;have Ho:=(E.o.at (w':=u1)).push (t:=⟨A4,c4',tv.1,B4,d4,tv.2⟩) (TE.of Yp Yq lX.le kH.o.2) (λb l=>⟨gn Yp (fL kH.o.right) b l,G fA b l⟩) (λb l=>⟨gn Yq kH.o.ne b l,G fX b l⟩) (by
   rw[D.o];exact S) F
  refine⟨i+1,A3,Oa,_,Y,by go_num,rfl,U Ho,U (by rw[bh,D.o];rfl),U ?_,U λt ht=>?_,⟨(aO w u1).trans (F.below (λad e9=>(K.af ⟨ad,e9,rfl⟩).1) ai)⟩⟩;rw[ql.o,c9,X.o,HTV.o];rfl;rcases cu.1 ht with ht|ht;exact wz.o t ht;rw[de.1 ht];exact⟨HR,lA.le⟩;exact zN0
 obtain rfl:i=ni:=Y;go_wp2_with fail;go_ret2;exact⟨A',c',M,by rw[Q.o];rfl,by rw[Q.o,<-D.o];exact E.o.oj,by rw[Q.o,<-D.o];exact⟨E.o.row.le⟩,wz,U (by rw[X.o,bV (dT Q.o)]),hp⟩
end
variable{PA:Option Addr}{cp l np:Nat}{ps:List Tn}
def Yw(w:ab)(b:List TV)(e:Ending)(w':ab):Prop:=∃A c ts,e=.returned (.slice A b c)/\Ts w' A b.length ts/\Le b.length c/\Z (eP ts)/\Z (ts.map Tn.tv=b)/\aj w' w
section
variable{w:World}{n k:Nat}{N:a6}{v:dV}{ts:List Tn}{P:List TV}
def qx(A:bz){l c k m:Nat}(F:k<=m)(hm:m<=l)(z:l<=c):
  ∃u,(∀W,(Instr.slice 23 (A,l,c) (some (.int .i64 (k:Int))) (some (.int .i64 (m:Int))) none).run prog W=.ok (.slice u (m-k) (c-k)) W)/\∀W ts,Ts W A l ts->Ts W u (m-k) ((ts.drop k).take (m-k)):=by
 have r:∀W,(sizeOf (prog.elem 23)).run prog W=.ok 2 W:=λW=>by obtain⟨G,y,E⟩:=bJ.1 (show(prog.info? (prog.elem 23)).map (·.size)=some 2 from by kernel_rfl);simp[sizeOf,typeInfo,y,E]
 refine⟨if c=k then A else A.map (·.add (k*2)),λW=>?_,λW ts h=>⟨λj t e=>?_,?_⟩⟩;rw[kW W 23 A l c ap .i64 .i64 (k:Int) (m:Int) Y Y Y,r];have y:(m:Int).toNat-(k:Int).toNat=m-k:=by omega
 cases A<;>simp[Result.andThen,sliced]
 .rw[ji]at e;split at e;rw[iF]at e;obtain⟨b,o,rfl,q⟩:=h.rd _ t e;rw[ag Y];exact⟨b,o+k*2,by simp[cf],by rw[show o+k*2+j*2=o+(k+j)*2 from Y];exact q⟩;cases e
 have:=h.len;simp;omega
def Ld(k:Nat)(j:k<=1000000)(W:ab):(Instr.makeSlice 23 an (k:Int)).run prog W=.ok (W,0,k) (W.alloc (.cells (madeCells #[(),()] (k*2)) 28)):=by
 obtain⟨i,hi,b⟩:=bJ.1 (show(prog.info? 28).map (λi=>(i.zero,i.size,i.bytes))=some (some (.agg #[(),()]),2,48)from by kernel_rfl);simp only[dS]at b;obtain⟨e,hs,hb⟩:=b;have:=nN (P:=prog) W 23 28 i _ underlying23 hi e .i64 .i64 0 k (eb _) Y (by rw[hs];simp;omega) (by rw[hb];simp;omega);rw[hs]at this;simpa[Value.cells]using this Y
def qw.make(w:ab){k:Nat}(b:k<=1000000):qw (w.alloc (.cells (madeCells #[(),()] (k*2)) 28)) w.1.size w k []:=by
 refine⟨⟨rfl,.inr ⟨w.1.size,k,_,rfl,al _,jP w _,aR _,by unfold maxLen;omega,?_,rfl⟩⟩,λt ht=>zN3,λt ht=>zN3⟩;rw[BZ];exact sV _ (aR _)
def Yx[aW w A n B m N][tp:Ts w PA np ps](Ki:m<=d)(hpc:np<=cp)(hvp:v.P.length<=1000000)(hO:Z (eP ps))(hf:Z N.fits)(hs:Z N.small)(hid:id=(k:Int)+1)(hk:Z (N.nodes[k]?=some v))(hle:Z (dK N k+v.P.length<=np)){pv:List TV}(EP:Z (((ps.map Tn.tv).drop (dK N k)).take v.P.length=pv)):
  () 149 #[.agg #[(A,n,c),(B,m,d)],(PA,np,cp),id] w (Yw w pv):=by
 obtain⟨CB,CP,FB⟩:=gW;subst hid;obtain⟨f,hF⟩:=lh (dK N k);obtain⟨t,hT⟩:=lh (f+v.P.length);have HF:=U hF;have HT:=U hT;have Uq:t<=np:=by rwa[<-hT,<-hF]
 have IC:f<=t:=Y;obtain⟨q,hq⟩:=lh (t-f);have S:q<=1000000:=Y;obtain⟨A2,kE,T⟩:=qx PA IC Uq hpc;have tq:Ts w A2 q ((ps.drop f).take q):=by rw[<-hq];exact T w ps tp
 rw[hq]at kE;have M:Z (((ps.drop f).take q).map Tn.tv=pv):=U (by
  rw[<-EP.o,hF,show v.P.length=q from Y,fT,kX])
 obtain⟨qs,O⟩:=lh ((ps.drop f).take q);rw[O]at tq M;have ID:Z (eP qs):=λt ht=>hO.o t (by rw[<-O]at ht;exact hJ (eS ht));have hwq:IntKind.i64.wrap ((t:Int)-(f:Int))=(q:Int):=by have:=r7 hf hs k;rw[hF]at this;rw[a7];omega
 have jF:=Ld q S;have d1:decide (np<t)=false:=by simp;omega
 have F:Z (pv.length=q):=U (by rw[<-M.o,bn,<-tq.len]);clear hF hT hq O T;go_in;go_upto_region 2 with(go_at_call 63;refine er (λu0 _ _=>?_);refine(C4 Ki hf hs rfl hk HF HT).mono ?_;rintro e u1 ⟨rfl,_⟩);go_upto_region 5 with fail
 obtain⟨W,hW⟩:=lg (u1.alloc (.cells (madeCells #[(),()] (q*2)) 28));have V:Z (qw W w.1.size u1 q []):=U (by
  have K:=qw.make u1 S;rw[<-hW]at K;exact⟨aT.less K.row ai,K.el,K.aV⟩)
 have pW:aj W w:=by rw[hW];exact aC
 rw[<-hW];clear hW jF;go_wp2_with fail;go_loopw [9,31] (λs9 s31 wr=>∃(i:Nat) (I:bz) (c':Nat) (E:List Tn),i<=q/\s31=.int .i64 (i:Int)/\s9=.slice I i c'/\Z (qw wr w.1.size I c' E)/\Z (E.length=i)/\Z (E.map Tn.tv=pv.take i)/\Z (eP E)/\aj wr w) (λ_ i _=>q-(intOf i).toNat);exact⟨0,_,q,[],aR _,rfl,rfl,V,U rfl,U rfl,U (λt ht=>zN3),pW⟩;obtain⟨i,I,c',E,hi,rfl,rfl,J,j,X,wz,hp⟩:=hrel;by_cases bD:i<q
 .obtain⟨b2,o2,A3,m3,c3,z3,B3,k3,d3,L,rfl,iM,e0,e1,s3,y3,l3,l3',i3,h4,h6,Vy,wo⟩:=tq.yK ID bD;(have Uo:pv[i]?=some (z3,L):=by (have K:i<(qs.map Tn.tv).length:=by rwa[bn,<-tq.len]);have h8:=wo.o;rw[a5,bk K]at h8;rw[<-M.o,bk K];exact di some h8);have ql:Z (pv.take (i+1)=pv.take i++[(z3,L)]):=take_at Uo;(have JD:aT wr w.1.size 28 2 I c' i (tc E):=by have:=J.o.row;rw[j.o]at this;exact this);clear Uo wo;go_upto_region 8 with fail;refine aa (λu2 t8 k2=>?_);have r:aT u2 w.1.size 28 2 I c' i (tc E):=JD.at;go_wp2_with (first|(go_at_call 71;refine(pm Y Y).mono ?_;rintro e u ⟨G,G',rfl,sA,sX,fA,fX,pu⟩;have y:aT u w.1.size 28 2 I c' i (tc E):=r.at)|(at_builtin;refine k4 rfl _ _ _ rfl 28 underlying23 2 48 (.agg #[(),()]) ap rfl ao ao w.1.size I c' i (tc E) rfl y [.slice G z3 z3.length,.slice G' L L.length] rfl zN2 rfl Y ai ?_;intro A4 c4 w4 ho4 Eu _));go_roundw;(have ia:∀{C:bz},bL u2.1.size C->∀b,AF C b->¬AF I b:=λ{C} hf b hx hy=>by obtain⟨ad,e9,rfl⟩:=hx;have h8:=hf.o ad e9;have K:=(r.af hy).2.1;omega);have Q:aH z3=true/\(L.length:Int)=aB z3:=(aS _ _).1 Vy.o;have Ey:L≠[]:=λe=>by obtain⟨n9,g1,g2,g3⟩:=cG Q.1;have:=Q.2;rw[e]at this;simp at this;omega
  have Ho:=(J.o.at (w':=u)).push (t:=⟨some ⟨G,0,none⟩,z3.length,z3,some ⟨G',0,none⟩,L.length,L⟩) (TE.of sA sX (al _) i3.bd) (λb z=>⟨gn sA (fL Q.1) b z,ia fA b z⟩) (λb z=>⟨gn sX Ey b z,ia fX b z⟩) (by
   rw[j.o];exact ho4) Eu
  refine⟨i+1,A4,c4,_,Y,by go_num,rfl,U Ho,U (by rw[bh,j.o];rfl),U ?_,U λt ht=>?_,⟨(aO w u).trans (Eu.below (λad e9=>(y.af ⟨ad,e9,rfl⟩).1) ai)⟩⟩;rw[ql.o,c9,X.o];rfl;rcases cu.1 ht with ht|ht;exact wz.o t ht;rw[de.1 ht];exact⟨Vy.o,al _⟩;exact zN0
 obtain rfl:i=q:=Y;go_wp2_with fail;go_ret;exact⟨I,c',E,by rw[F.o];rfl,by rw[F.o,<-j.o];exact J.o.oj,by rw[F.o,<-j.o];exact⟨J.o.row.le⟩,wz,U (by rw[X.o,bV (dT F.o)]),hp⟩
end
section
variable{w:World}{I:Option Addr}{n ni k:Nat}{ins:List Int}{vs:List Tn}
theorem Yy{B:Nat}{ts:List Tn}(hb:aA w g 28 (iv ts ts.length))(b:B<=g)(l:ts.length<=1000000)(j:∀t∈ts,TE w t):Ts w g ts.length ts:=by
 refine⟨QN.trd (B:=B) (c:=ts.length) ⟨dU ts,.inr ⟨g,ts.length,_,rfl,b,hb,al _,by unfold maxLen;omega,sV ts (al _),?_⟩⟩ j,rfl⟩;have e:iv ts ts.length=(tc ts).toArray:=by simp[iv]
 rw[e];exact bV (by rw[List.toList_toArray,dU];exact al _)
def Lf[tv:Ts w A n vs][T:Sl w I ni ins](C:ni<=1000000)(hO:Z (∀z∈ins,∀t,vs[z.toNat]?=some t->aw t.zs t.xs=true/\t.zs.length<=t.c))(O:Z (∀z∈ins,0<=z/\z<n)){pv:List TV}(D:Z (cE (vs.map Tn.tv) ins=pv)):
  () 65 #[(A,n,c),(I,ni,d)] w (Yw w pv):=by
 have CP:=@bX;have P:=jA ni C;have e:Z (pv=ni):=U (by rw[<-D.o,cE,bn,T.len]);go_in;go_wp2_with fail;obtain⟨W,K⟩:=lg (w.alloc (.cells (iv [] ni) 28));have V:aj W w:=by rw[K];exact aC
 have Q:Z (aA W w.1.size 28 (iv [] ni)):=U (by rw[K];exact aA.new _ _ _);rw[<-K];clear K P;go_loopw [13] (λl wr=>∃(i:Nat) (ts:List Tn),i<=ni/\l=.int .i64 (i:Int)/\Z (aA wr w.1.size 28 (iv ts ni))/\Z (ts=i)/\Z (ts.map Tn.tv=pv.take i)/\Z (∀t∈ts,t∈vs/\aw t.zs t.xs=true/\t.zs.length<=t.c)/\aj wr w) (λl _=>ni-(intOf l).toNat);exact⟨0,[],aR _,rfl,Q,U rfl,U rfl,U (λt ht=>zN3),V⟩;obtain⟨i,ts,hi,rfl,E,b,F,m,hp⟩:=hrel;by_cases G:i<ni
 .obtain⟨bi,oi,z,rfl,X,cz,L⟩:=T.get G;obtain⟨fN,gu⟩:=O.o z (aK L.o);obtain⟨j,rfl⟩:∃j:Nat,z=(j:Int):=⟨z.toNat,Y⟩;obtain⟨b2,o2,M,c1,zs,N,d1,xs,rfl,iM,e0,e1,s1,x1,l1,i6,hg⟩:=tv.get (k:=j) Y;(have J:pv[i]?=some (zs,xs):=by rw[<-D.o,cE,bo,L.o];show some ((vs.map Tn.tv).getD (j:Int).toNat T0)=_;rw[a9,a5,bo,hg.o];rfl);have R:Z (pv.take (i+1)=pv.take i++[(zs,xs)]):=take_at J;have S:Z ((⟨M,c1,zs,N,d1,xs⟩:Tn)∈vs/\aw zs xs=true/\zs<=c1):=U ⟨aK hg.o,hO.o _ (aK L.o) _ (by rw[a9];exact hg.o)⟩;have y:=E.o;(have r:∀q,(iv ts ni)[i*2+q]?=if q<(ni-i)*2 then some (.slice none 0 0)else none:=λq=>by unfold iv;rw[List.getElem?_toArray,eT (by rw[dU,b.o];omega),dU,b.o,kw];rw[show i*2+q-i*2=q from Y]);have mG:=(y.cell (i*2)).trans ((r 0).trans (ah Y));have EH:=(y.cell (i*2+1)).trans ((r 1).trans (ah Y));have Lg:=y.frozen (i*2);have nC:=y.frozen (i*2+1);have hK:=(y.av (i*2) (.slice M zs c1)).av (i*2+1) (.slice N xs d1);have u:=Kw ts (n:=ni) (by rwa[b.o]) ⟨M,c1,zs,N,d1,xs⟩;rw[b.o]at u;rw[u]at hK;have HK:=U hK;(have iI:(i:Int)<(ni:Int):=by omega);clear r y hK u hg L J;go_wp2_with fail;go_roundw;refine⟨i+1,ts++[⟨M,c1,zs,N,d1,xs⟩],Y,by go_num,HK,U (by rw[bh,b.o];rfl),U (by rw[R.o,c9,F.o];rfl),U λt ht=>?_,⟨((aO w wr).setCell (p:=⟨w.1.size,i*2,none⟩) (al _) _).setCell (p:=⟨w.1.size,i*2+1,none⟩) (al _) _⟩⟩;rcases cu.1 ht with ht|ht;exact m.o t ht;rw[de.1 ht];exact S;exact zN0
 obtain rfl:i=ni:=Y;go_wp2_with fail;go_ret;have hE:∀t∈ts,TE wr t:=λt ht=>(tv.rd.elems t (m.o t ht).1).below (aO w wr);have hb:=E.o;rw[<-b.o]at hb;have hr:=Yy (B:=w.1.size) hb (al _) (by rwa[b.o]) hE;refine⟨_,i,ts,by rw[e.o];rfl,by rw[e.o,<-b.o];exact hr,by rw[e.o];exact⟨al _⟩,U λt ht=>(m.o t ht).2,U (by rw[F.o,bV (dT e.o)]),hp⟩
end
variable{XA XB:Option Addr}{cx dx mx:Nat}
section
variable{w:World}{n k nx:Nat}{N:a6}{x:TV}
theorem kM.TA(h:kM w k A c ss):dX w A ss.length ss:=
 ⟨λj x b=>by
  obtain⟨g,e,l⟩:=h.row.cell (j:=j) (v:=.slice x.A x.m x.c) (by simp[gR,b]);obtain⟨r,u,y,_⟩:=h.el x (aK b);exact⟨g,0,e,h.row.lt _ e,by rw[cQ];exact l,r,u,y⟩,rfl⟩
def C7[a:aW w A n B m N][E:Ts w PA np ps][Q:Sl w XA nx x.1][Sl w XB mx x.2](J:Z N.fits)(hs:Z N.small)(R:Z (bm N=0))(hP:Z ((ps.map Tn.tv).map (·.1)=bQ N))(hO:Z (eP ps))(K:Z (x.1=N.ed))(hr:aw x.1 x.2=true)(S:np<=100000000):
  () 24 #[.agg #[(A,n,c),(B,m,d)],(PA,np,cp),.agg #[(XA,nx,cx),(XB,mx,dx)]] w (aL w an):=by
 obtain⟨CB,CP⟩:=hY;have l:Z ((bQ N).length=np):=U (by rw[<-hP.o,bn,bn];exact E.len.symm);have T:x.1.length<=4:=cv ((aS _ _).1 hr).1;have r:nx<=1000000:=by rw[Q.len];omega
 have V:n<=1000000:=by rw[a.ed.len,<-K.o];omega
 have sI:Sl w A n x.1:=by rw[K.o];exact a.ed
 have X:=U hr;go_in;go_upto_region 1 with fail;refine dd (λu0 p0 k1 k2=>?_);go_upto_region 7 with(first|(go_at_call 40;refine mv (ih J hs R) λu1 _=>?_)|(go_at_call 68;refine(FJ J hs).mono ?_;rintro e L ⟨A2,c2,ss,rfl,hS,y,_⟩;rw[l.o]));have F:Z (ss=np):=U (by rw[<-l.o,<-y.o,cR]);have sh:dX L A2 np ss:=by have z:=hS.TA;rw[F.o]at z;exact z
 have HS:=U hS;clear hS;go_wp2_with fail;go_loopw [25] (λb wr=>∃i:Nat,i<=np/\b=.int .i64 (i:Int)/\aj wr L) (λb _=>np-(intOf b).toNat);exact⟨0,aR _,rfl,aC⟩;obtain⟨i,hi,rfl,hp⟩:=hrel;by_cases j:i<np
 .obtain⟨b3,o3,A3,m3,c3,z3,rfl,SZ,v3,s3,l3,M⟩:=sh.get j;obtain⟨b2,o2,A4,n4,c4,z4,B4,m4,d4,x4,rfl,iM,e0,e1,s4,y4,l4,l4',i4,h4,h6,C,D⟩:=E.yK hO j;(have G:z4=z3:=by (have z:i<(ps.map Tn.tv).length:=by rwa[bn,<-E.len]);have O:=D.o;rw[a5,bk z]at O;(have P:((ps.map Tn.tv).map (·.1))[i]?=some z4:=by rw[bo,bk z];exact di (λq:TV=>some q.1) O);rw[hP.o,<-y.o,M.o]at P;exact(cU P).symm);subst G;have hr5:aw z4 x4=true:=C.o;(have i1:(i:Int)<(np:Int):=by omega);(have I:m3<=1000000:=by rw[s3.len,<-s4.len];omega);clear D C M;go_wp2_with (first|(go_at_call 69;refine mv (bK Y) λu _=>?_)|(go_at_call 70;refine mv (kI Y I) λu _=>?_));go_roundw;exact⟨i+1,Y,by go_num,aC⟩;exact zN0
 obtain rfl:i=np:=Y;go_wp2_with (first|(go_at_call 69;refine mv (bK r) λu _=>?_)|(go_at_call 70;refine mv (kI r V) λu _=>?_));go_ret;exact bF
end
def Yz(N:a6)(b:List TV)(x:TV):Prop:=b.map (·.1)=bQ N/\(∀t∈b,aw t.1 t.2=true)/\aw x.1 x.2=true/\x.1=N.ed
def r9(v:dV):Nat:=3+v.ins.length+v.o.S.length+(v.P.map λs=>1+s.length).sum
def C8(N:a6):Nat:=N.ed.length+(N.nodes.map r9).sum
def C9(N:a6):Bool:=decide (C8 N<=300)&&decide (N.nodes.length<=12)
def oh(t:Tn):Nat:=1+t.zs.length+t.xs.length
def oW(ts:List Tn):Nat:=(ts.map oh).sum
section
variable{w:World}{n k nx:Nat}{N:a6}{x:TV}
def zN1(h:Γ:=by go_wp2_with fail;go_ret;exact bF):=h
def Lh[a:aW w A n B m N][Q:Ts w PA np ps][Sl w XA nx x.1][Sl w XB mx x.2](J:Z N.fits)(hs:Z N.small)(HE:Z (bm N=0))(hO:Z (np=(bQ N).length->∀t∈ps,t.zs.length<=1000000))(D:np=(bQ N).length->nx<=1000000)(S:Z (¬Yz N (ps.map Tn.tv) x)):
  () 24 #[.agg #[(A,n,c),(B,m,d)],(PA,np,cp),.agg #[(XA,nx,cx),(XB,mx,dx)]] w (aL w (20:Int)):=by
 obtain⟨CB,CP⟩:=hY;have hn:n<=1000000:=by rw[a.ed.len];have:=J.o.2.1;omega
 have sI:Sl w A n N.ed:=a.ed;obtain⟨y,T⟩:=lh ((bQ N).length);have V:=U T;rw[T]at hO D;have K:=U D;clear T D;go_in;go_upto_region 1 with fail;refine dd (λu0 p0 k1 k2=>?_);go_upto_region 5 with(first|(go_at_call 40;refine mv (ih J hs HE) λu1 _=>?_)|(go_at_call 68;refine(FJ J hs).mono ?_;rintro e u2 ⟨A2,c2,ss,rfl,hS,E,_⟩;rw[V.o]));have L:Z (ss.length=y):=U (by rw[<-V.o,<-E.o,cR]);have sh:dX u2 A2 y ss:=by have b:=hS.TA;rw[L.o]at b;exact b
 clear hS;by_cases X:np=y;rotate_left;have b0:decide (np=y)=false:=by simp[X]
 have b1:((np:Int) !=(y:Int))=true:=by simp;omega
 clear X;exact zN1;subst X;have M:=hO.o rfl;have l:=K.o rfl;have HO2:=U M;have hy6:np<=1000000000000:=by have b:=un J N.nodes.length;rw[ek]at b;have h8:(bQ N).length=np:=V.o;have h7:=J.o.1;have h6:(bQ N).length<=N.nodes*100000:=b;omega
 clear hO M K;go_wp2_with fail;go_loopw [25] (λF wr=>∃i:Nat,i<=np/\F=.int .i64 (i:Int)/\Z (∀j,j<i->∀t,ps[j]?=some t->aw t.zs t.xs=true/\(aX ss)[j]?=some t.zs)/\aj wr u2) (λF _=>np-(intOf F).toNat);exact⟨0,aR _,rfl,U λj C=>absurd C (zE _),aC⟩;obtain⟨i,hi,rfl,HG,hp⟩:=hrel;by_cases O:i<np
 .obtain⟨b3,o3,A3,m3,c3,z3,rfl,SZ,v3,s3,l3,R⟩:=sh.get O;obtain⟨b2,o2,A4,c4,z4,B4,d4,x4,rfl,iM,e0,e1,s4,y4,l4,i4,r⟩:=Q.get (k:=i) O;(have i1:(i:Int)<(np:Int):=by omega);have Up:z4.length<=1000000:=HO2.o _ (aK r.o);(have P:m3<=1000000:=by rw[s3.len];(have b:z3∈bQ N:=by rw[<-E.o];exact aK R.o);obtain⟨v,hv,hz⟩:=pD.1 b;have:=(J.o.2.2 v hv).2.2.2 z3 hz;omega);obtain⟨rr,G⟩:=lh (aw z4 x4);cases rr with
  |false=>clear r;go_wp2_with (go_at_call 69;refine mv (bK Y) λu _=>?_);go_ret;exact bF
  |true=>
   by_cases I:z4=z3
   .subst I;(have Da:Z (∀j,j<i+1->∀t,ps[j]?=some t->aw t.zs t.xs=true/\(aX ss)[j]?=some t.zs):=λj C t ht=>by by_cases hji:j<i;exact HG.o j hji t ht;obtain rfl:j=i:=Y;rw[r.o]at ht;obtain rfl:=cU ht;exact⟨G,R.o⟩);clear r R;go_wp2_with (first|(go_at_call 69;refine mv (bK Y) λu _=>?_)|(go_at_call 70;refine mv (kI Y P) λu _=>?_));go_roundw;exact⟨i+1,Y,by go_num,Da,aC⟩;exact zN0
   (have b0:decide (z4=z3)=false:=by simp[I]);clear r R I;go_wp2_with (first|(go_at_call 69;refine mv (bK Y) λu _=>?_)|(go_at_call 70;refine mv (ga Y P) λu _=>?_));go_ret;exact bF
 .obtain rfl:i=np:=Y;have z:¬(aw x.1 x.2=true/\x.1=N.ed):=λ⟨h1,h2⟩=>S.o ⟨by
   rw[<-E.o];apply eo;intro j;rw[bo,bo];cases C:ps[j]? with
   |none=>
    have b:=GA.1 C;rw[GA.2 (by rwa[cR,L.o,Q.len])];rfl
   |some t=>
    have b:=(bj.1 C).1;rw[<-Q.len]at b;exact(HG.o j b t C).2.symm,λt ht=>by
   obtain⟨u,hu,rfl⟩:=cw.1 ht;obtain⟨j,C⟩:=fZ hu;have b:=(bj.1 C).1;rw[<-Q.len]at b;exact(HG.o j b u C).1,h1,h2⟩
  obtain⟨rr,G⟩:=lh (aw x.1 x.2);cases rr with
  |false=>clear z;go_wp2_with (go_at_call 69;refine mv (bK l) λu _=>?_);go_ret;exact bF
  |true=>(have b0:decide (x.1=N.ed)=false:=by have:¬x.1=N.ed:=λh=>z ⟨G,h⟩;simp[this]);clear z;go_wp2_with (first|(go_at_call 69;refine mv (bK l) λu _=>?_)|(go_at_call 70;refine mv (ga l hn) λu _=>?_));go_ret;exact bF
def YC{α:Type}(f:α->Nat)(l:List α)(k:Nat):((l.take k).map f).sum<=(l.map f).sum:=by
 conv=>rhs;rw[<-d3 k l,c9,sA]
 exact Nat.le_add_right _ _
def uw{α:Type}(f:α->Nat){l:List α}{k:Nat}{x:α}(h:l[k]?=some x):((l.take (k+1)).map f).sum=((l.take k).map f).sum+f x:=by
 rw[take_at h,c9,sA];simp
def Li(ps:List Tn):Int:=wrap64 (oW ps:Nat)
def fk[K:Ts w PA np ps](hb:Z (∀t∈ps,t.zs.length<=17592186043904/\t.xs.length<=17592186043904))(O:np<=140737488351232)(P:Z (Li ps=z)):() 22 #[(PA,np,cp)] w (aL w z):=by
 obtain⟨CB,CP,FB⟩:=gW;have Q:(np:Int)<=9223372036854775806:=by omega
 obtain⟨f,r⟩:∃f:Nat->Int,∀n:Nat,f n=wrap64 (n:Int):=⟨_,λ_=>rfl⟩;have R:=U r;have D:Z (0=f 0):=U (by rw[r];unfold wrap64;omega);have E:Z (∀a b:Nat,wrap64 (f a+(b:Int))=f (a+b)):=λa b=>by rw[r,r];unfold wrap64;omega
 clear O r;go_in;go_wp2_with fail;go_loopw [3,8] (λT F wr=>∃(i:Nat) (S:Int),i<=np/\F=.int .i64 (i:Int)/\T=.int .i64 S/\Z (S=f ((ps.take i).map oh).sum)/\aj wr w) (λ_ F _=>np-(intOf F).toNat);exact⟨0,0,aR _,rfl,rfl,D,aC⟩;obtain⟨i,S,hi,rfl,rfl,L,hp⟩:=hrel;by_cases G:i<np
 .obtain⟨b2,o2,V,c4,z4,X,d4,M,rfl,iM,e0,e1,s4,y4,l4,i4,l⟩:=K.get (k:=i) G;(have i1:(i:Int)<(np:Int):=by omega);have u:=hb.o _ (aK l.o);have I:=U (uw oh l.o);obtain⟨a4,e⟩:=lh z4.length;obtain⟨C,j⟩:=lh M.length;have J:Z (oh ⟨V,c4,z4,X,d4,M⟩=1+a4+C):=U (by unfold oh;rw[<-e,<-j]);(have y:a4<=17592186043904/\C<=17592186043904:=by rwa[<-e,<-j]);rw[e]at e0;rw[j]at e1;(have w1:IntKind.i64.wrap (1+(a4:Int))=1+(a4:Int):=by rw[a7];omega);(have w2:IntKind.i64.wrap (1+(a4:Int)+(C:Int))=1+(a4:Int)+(C:Int):=by rw[a7];omega);clear u y l e j s4 y4;go_upto_region 5 with fail;refine aa (λu4 Lj k4=>?_);go_wp2_with fail;go_roundw;refine⟨i+1,_,Y,by go_num,rfl,U ?_,aC⟩;rw[I.o,J.o,L.o,<-E.o];exact di wrap64 Y;exact zN0
 obtain rfl:i=np:=Y;have hS:S=z:=by rw[L.o,bV (by rw[<-K.len];exact al _),R.o,<-P.o];rfl
 subst hS;exact zN1
def YD(b:N.fits){v:dV}(hv:v∈N.nodes):r9 v<=20000000000:=by
 obtain⟨E,F,e,j⟩:=b.2.2 v hv;have r:∀l:List (List Int),(∀z∈l,z.length<=100000)->(l.map λs=>1+s.length).sum<=l.length*100001:=λl=>by
  induction l with
  |nil=>intro _;simp
  |cons a t u=>intro h;have y:=h a dD;have C:=u λz D=>h z (iD _ D);rw[eh,jL,fD];omega
 have y:=r v.P j;have C:v.P.length*100001<=100000*100001:=cV _ e;unfold r9;omega
def Db[a:aW w A n B m N](hf:Z N.fits)(hs:Z N.small):() 23 #[.agg #[(A,n,c),(B,m,d)]] w (aL w (.bool (C9 N))):=by
 obtain⟨CB,CP,FB⟩:=gW;have HM:Z (m=N.nodes):=a.len;have hm:m<=1000:=by rw[HM.o];exact hs.o.1
 obtain⟨y,hy⟩:=lh N.ed.length;have hny:n=y:=by rw[<-hy];exact a.ed.len
 have hyb:y<=100000:=by rw[<-hy];exact hf.o.2.1
 have KB:=U hy;subst hny;obtain⟨M,P⟩:∃q:Nat,q=20000000000:=⟨_,rfl⟩;have Q:=U P;clear P hy;go_in;go_upto_region 1 with fail;refine aa (λu0 p0 k0=>?_);go_wp2_with fail;go_loopw [3,14] (λR z wr=>∃(i K:Nat),i<=m/\z=.int .i64 (i:Int)/\R=.int .i64 (K:Int)/\Z (K=n+((N.nodes.take i).map r9).sum)/\Z (K<=100000+i*M)/\aj wr u0) (λ_ z _=>m-(intOf z).toNat);exact⟨0,n,aR _,rfl,rfl,U aI,U Y,aC⟩;obtain⟨i,K,hi,rfl,rfl,HK,HB,hp⟩:=hrel;by_cases bD:i<m
 .have i1:(i:Int)<(m:Int):=by omega
  obtain⟨b0,q0,o,A1,n1,BY,I,ni,ci,ins,P',e,cp',b,rfl,ob,⟨v0,v1,v2,v3,v4,v5,v6,v7,v8,v9⟩,s1,si,sp,l1,li,lp',ik,r⟩:=a.node bD;have S:=YD hf (aK r.o);have T:=uw r9 r.o;(have V:r9 ⟨o,ins,aX b⟩=3+ni+n1+((aX b).map λs=>1+s.length).sum:=by unfold r9;dsimp only;rw[<-si.len,<-s1.len]);have Kk:Z (K+r9 ⟨o,ins,aX b⟩=n+((N.nodes.take (i+1)).map r9).sum):=U (by rw[HK.o,T];omega);have X:=U V;have HBN:=U S;(have hKB:K<=100000+1000*20000000000:=by have C:=HB.o;have h2:i*M<=1000*M:=cV _ Y;have h3:=Q.o;omega);(have D:(aX b).length=e:=by rw[cR];exact sp.len.symm);have xk:=U D;have s9:ni+n1<=20000000000:=Y;(have EI:e<=100000:=by rw[<-D];have h8:=(hf.o.2.2 _ (aK r.o)).2.2.1;exact h8);(have w1:IntKind.i64.wrap (3+(ni:Int))=3+(ni:Int):=by rw[a7];omega);(have w2:IntKind.i64.wrap (3+(ni:Int)+(n1:Int))=3+(ni:Int)+(n1:Int):=by rw[a7];omega);obtain⟨K1,MY⟩:=lg (K+(3+ni+n1));(have w3:IntKind.i64.wrap ((K:Int)+(3+(ni:Int)+(n1:Int)))=(K1:Int):=by rw[a7];omega);have rk:=U MY;have EQ:=U hKB;clear S T V r D MY hKB s9;go_upto_region 5 with fail;refine aa (λu4 Lj k4=>?_);go_wp2_with fail;go_loopw [3,32] (λR E wr=>∃(j F:Nat),j<=e/\E=.int .i64 (j:Int)/\R=.int .i64 (F:Int)/\Z (F=K1+(((aX b).take j).map λs=>1+s.length).sum)/\aj wr u4) (λ_ E _=>e-(intOf E).toNat);exact⟨0,K1,aR _,rfl,rfl,U aI,aC⟩;obtain⟨j,F,hj,rfl,rfl,G,rE⟩:=hrel;by_cases Lk:j<e
  .obtain⟨b3,o3,A3,O,c3,z3,rfl,SZ,v3,R,l3,e3⟩:=sp.get Lk;(have i2:(j:Int)<(e:Int):=by omega);have l:=uw (λs:List Int=>1+s.length) e3.o;have hle:(((aX b).take (j+1)).map λs=>1+s.length).sum<=((aX b).map λs=>1+s.length).sum:=YC _ _ _;have J:z3=O:=R.len.symm;(have hKK:F+(1+O)<=100000+1000*20000000000+20000000000:=by have C:=G.o;have h2:=rk.o;have h3:=X.o;have h4:=HBN.o;have h5:=EQ.o;rw[J]at l;omega);(have w4:IntKind.i64.wrap (1+(O:Int))=1+(O:Int):=by rw[a7];omega);obtain⟨K3,vy⟩:=lg (F+(1+O));(have w5:IntKind.i64.wrap ((F:Int)+(1+(O:Int)))=(K3:Int):=by rw[a7];omega);have t5:Z (K3=K1+(((aX b).take (j+1)).map λs=>1+s.length).sum):=U (by have C:=G.o;rw[J]at l;omega);clear l hle J hKK vy e3;go_wp2_with fail;go_roundw;exact⟨j+1,K3,Y,by go_num,rfl,t5,aC⟩;exact zN0
  obtain rfl:j=e:=Y;go_wp2_with fail;go_roundw;have C:=G.o;rw[bV (by rw[xk.o];exact al _)]at C;have h2:=rk.o;have h3:=X.o;have h4:=Kk.o;have h5:=HB.o;have h6:=HBN.o;have h7:=Q.o;(have h8:(i+1)*M=i*M+M:=by rw[im];omega);exact⟨i+1,F,Y,by go_num,rfl,U Y,U Y,aC⟩;exact zN0
 obtain rfl:i=m:=Y;have oP:K=C8 N:=by have C:=HK.o;rw[bV (by rw[<-HM.o];exact al _)]at C;unfold C8;rwa[KB.o]
 obtain⟨f1,nC⟩:=lh (decide ((K:Int)<=300));have u:decide (K<=300)=f1:=by rw[<-nC];by_cases h:K<=300<;>simp[h]<;>omega
 obtain⟨f2,L⟩:=lh (decide (i<=12));have Bj:Z (C9 N=(f1&&f2)):=U (by unfold C9;rw[<-oP,<-HM.o,u,L]);have Us:=U L;clear oP L u;cases f1
 .go_wp2_with fail;go_ret;exact⟨by rw[Bj.o];rfl,aC⟩
 go_wp2_with fail;go_ret;refine⟨?_,aC⟩;rw[Bj.o,<-Us.o];have e9:decide ((i:Int)<=12)=decide (i<=12):=by by_cases h:i<=12<;>simp[h]<;>omega
 show Ending.returned (Value.bool (decide ((i:Int)<=12)))=_;rw[e9];simp
end
variable{c2:Nat}{zx:List Int}
section
variable{w:World}{us:List Int}
def IE{n:Nat}[Sl w A n zs][Sl w B m us][Sl w C R zs][Sl w D m' us](e:n<=1000000)(hm:m<=1000000)(b:R<=1000000):() 67 #[.agg #[(A,n,c),(B,m,d)],.agg #[(C,R,c'),(D,m',d')]] w (aL w (.bool true)):=
 cn (E1 e hm b) aI
end
section
variable{w:World}{QA YA YB:Option Addr}{n nx dy:Nat}{qs:List Tn}{l:Int}
def Ut[G:Ts w PA n ps][I:Ts w QA n qs][Sl w XA nx zx][Sl w XB mx xs][Sl w YA nx zx][Sl w YB mx xs](h:Z (ps.map Tn.tv=qs.map Tn.tv))(hO:Z (∀t∈ps,t.zs.length<=1000000/\t.xs.length<=1000000))(m:nx<=1000000)(y:mx<=1000000)(hn:n<=1000000000000):
  () 21 #[.agg #[l,(PA,n,c),(XA,nx,cx),(XB,mx,dx)],.agg #[l,(QA,n,c2),(YA,nx,R),(YB,mx,dy)]] w (aL w (.bool true)):=by
 obtain⟨CB,CP⟩:=hY;go_in;go_upto_region 1 with fail;refine dd (λu0 p0 k1 k2=>?_);have b2:((n:Int) !=(n:Int))=false:=by simp
 go_wp2_with (go_at_call 67;refine mv (E1 (A:=XA) (B:=XB) m y m) λD _=>?_);go_loopw [31] (λb wr=>∃i:Nat,i<=n/\b=.int .i64 (i:Int)/\aj wr D) (λb _=>n-(intOf b).toNat);exact⟨0,aR _,rfl,aC⟩;obtain⟨i,hi,rfl,hp⟩:=hrel;by_cases r:i<n
 .obtain⟨b3,o3,A3,c3,z3,B3,d3,z,rfl,J,L,M,s3,y3,l3,i3,j⟩:=G.get r;obtain⟨b4,o4,A4,c4,z4,B4,d4,N,rfl,O,P,Q,s4,y4,l4,i4,u⟩:=I.get r;(have e:(z3,z)=(z4,N):=by (have E:(ps.map Tn.tv)[i]?=some (z3,z):=by rw[bo,j.o];rfl);rw[h.o,bo,u.o]at E;exact(cU E).symm);injection e with S T;subst S T;have C:=hO.o _ (aK j.o);have F:z3.length<=1000000:=C.1;have V:z.length<=1000000:=C.2;(have i1:(i:Int)<(n:Int):=by omega);clear j u C;go_upto_region 6 with fail;refine ax D ap (λX _=>?_);refine qL [0,1,2,3,4,5,6,7,8,9] ?_;refine aJ 10 λK hK=>?_;go_simp;refine(IE F V F).mono ?_;rintro e X ⟨rfl,_⟩;dsimp only;refine aE hK ?_;refine eE 11 ?_;refine a8 ?_;go_wp2_with fail;exact⟨⟨i+1,Y,by go_num,aC⟩,by simp[intOf];omega⟩
 obtain rfl:i=n:=Y;exact zN1
end
