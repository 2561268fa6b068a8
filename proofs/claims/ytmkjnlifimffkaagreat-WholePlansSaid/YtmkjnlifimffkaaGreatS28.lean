/- Lemmas. -/
import Derived.Test.YtmkjnlifimffkaaGreatS27
namespace Go.Proofs.YtmkjnlifimffkaaGreat
open Go.RowKit Tryz
set_option linter.all false
set_option maxRecDepth 100000
set_option maxHeartbeats 0
variable{Γ:Prop}
attribute[local irreducible]Calls
variable{w w':World}{A B C D:Option Addr}{R c c' d d' f k m m' n:Nat}{xs ys zs:List Int}{N:bm}{id:Int}
def aa5(w:aa)(t:TV)(e:Ending)(w':aa):Prop:=
 ∃A c B d,e=.returned (.agg #[.slice A t.1.length c,.slice B t.2.length d])/\Sl w' A t.1.length t.1/\Sl w' B t.2.length t.2/\Le t.1.length c/\Le t.2.length d/\bG w.1.size A/\bG w.1.size B/\aj w' w
section
variable{ts:List Int}{v:et}
def jf(hv:N.nodes[k]?=some v):dJ N (k+1)=dJ N k+v.P.length:=by
 unfold dJ;rw[take_at hv,jG,bh];simp
def rh(b:N.fits)(hs:N.small)(k:Nat):dJ N k<=100000000:=by
 have e:=td b k;have j:(N.nodes.take k).length<=1000:=by have:=hs.1;simp;omega
 unfold dJ;omega
def Bh(r:k<=m)(e:m<=d)(W:aa):(Instr.slice 31 (B,m,d) none (some (.int .i64 (k:Int))) none).run prog W=.ok (B,k,d) W:=by
 have b:∀W,(sizeOf (prog.elem 31)).run prog W=.ok 10 W:=λW=>by obtain⟨u,j,l⟩:=bt.1 (show(prog.info? (prog.elem 31)).map (·.size)=some 10 from by kernel_rfl);simp[sizeOf,typeInfo,j,l]
 rw[lU W 31 B m d ao .i64 (k:Int) om om,b];cases B<;>simp[Result.andThen,sliced,Addr.add]
def xc0(h:Γ:=by simp[intOf];omega):=h
def Bi[a:aW w A n B m N](F:m<=d)(S:Hx N.fits)(hs:Hx N.small)(hid:id=(k:Int)+1)(G:Hx (N.nodes[k]?=some v)){t:Nat}(hF:Hx (dJ N k=f))(T:Hx (f+v.P.length=t)):
  () 63 #[.agg #[(A,n,c),(B,m,d)],id] w (aJ w (.tuple #[f,t])):=by
 obtain⟨CB,CP,FB⟩:=ia;subst hid;have Q:Hx (m=N.nodes):=a.len;have hm:m<=1000:=by rw[Q.o];exact hs.o.1
 have e:k<m:=by rw[Q.o];exact(a8.1 G).1
 have U:=λW=>Bh (B:=B) (fq e) F W;have u:∀j,dJ N j<=100000000:=rh S hs;have y:=ae u;have V:IntKind.i64.wrap ((k:Int)+1-1)=(k:Int):=by rw[a7];omega
 have X:IntKind.i64.wrap (k:Int)=(k:Int):=by rw[a7];omega
 have d1:decide ((k:Int)+1<1)=false:=by simp;omega
 have d2:decide ((m:Int)<(k:Int)+1)=false:=by simp;omega
 have z:Hx (f=dJ N k):=hF.o.symm;clear u;go_in;go_upto_region 1 with fail;refine aE (λY _ _=>?_);go_wp2_with fail;go_loopw [4,23] (λs i wr=>∃(j:Nat),j<=k/\i=.int .i64 (j:Int)/\s=.int .i64 (dJ N j:Int)/\aj wr Y) (λ_ i _=>k-(intOf i).toNat);exact⟨0,aM _,rfl,rfl,aF⟩;obtain⟨j,hj,rfl,rfl,hp⟩:=hrel;by_cases J:j<k
 .obtain⟨Z,q0,o,A1,n1,c1,I,ni,ci,ins,P,np,cp,ps,rfl,ob,⟨v0,v1,v2,v3,v4,v5,v6,v7,v8,v9⟩,s1,si,sp,l1,li,lp,ik,l⟩:=a.node (Nat.lt_trans J e);(have E:dJ N (j+1)=dJ N j+np:=by rw[jf l.o,sp.len,cX]);have b:=y.o (j+1);obtain⟨K,r⟩:=lh (dJ N j);have L:Hx (dJ N (j+1)=K+np):=ae (by rw[E,r]);(have M:IntKind.i64.wrap ((K:Int)+(np:Int))=(K:Int)+(np:Int):=by rw[a7];omega);rw[r];clear E b r;(have i1:(j:Int)<(k:Int):=by omega);go_wp2_with fail;go_roundw;exact⟨j+1,om,by go_num,by rw[L.o];go_num,aF⟩;exact xc0
 obtain rfl:j=k:=om;obtain⟨Z,q0,o,A1,n1,c1,I,ni,ci,ins,P,np,cp,ps,rfl,ob,⟨v0,v1,v2,v3,v4,v5,v6,v7,v8,v9⟩,s1,si,sp,l1,li,lp,ik,l⟩:=a.node e;have O:np=v.P:=by have h9:=cH (l.o.symm.trans G);rw[<-h9,sp.len,cX]
 have b:=y.o (j+1);rw[jf G.o,<-z.o]at b;have M:IntKind.i64.wrap ((f:Int)+(np:Int))=(t:Int):=by have:=T.o;rw[a7];omega
 rw[<-z.o];have i1:(j:Int)<(m:Int):=by omega
 clear b O;go_upto_region 8 with fail;refine aw ao (λux _=>?_);refine qL [0,1,2,3,4,5,6,7,8,9,10,11,12] ?_;refine a9 ?_;go_wp2_with fail;go_ret2;exact bB
def UT[s:Sl w A n zs][x:Sl w B m xs][b:Sl w C R ts][e:Sl w D m' ys][i:cv xs][j:cv ys](h:Hx (cR zs xs ts ys=true)):() 115 #[.agg #[(A,n,c),(B,m,d)],.agg #[(C,R,c'),(D,m',d')]] w (dK w zs (xs.zipWith bQ ys) 0):=by
 obtain⟨s,rfl⟩:=s;obtain⟨x,rfl⟩:=x;obtain⟨b,rfl⟩:=b;obtain⟨e,rfl⟩:=e;exact sR (zp A B C D c d c' d' zs xs ts ys w s x b e (ae i.bd) (ae j.bd) h)
def xc5(h:Γ:=by simp[results,results66,go_sem,r0,r1]):=h
def GD[Sl w A n zs][x:Sl w B m xs][Sl w C R ts][Sl w D m' ys][cv xs][cv ys](hm:m<=1000000)(P:R<=1000000)(Q:m'<=1000000)(h:Hx (xs=[]\/cR zs xs ts ys=true)){V:TV}(hV:Hx (iz (zs,xs) (ts,ys)=V)):
  () 66 #[.agg #[(A,n,c),(B,m,d)],.agg #[(C,R,c'),(D,m',d')]] w (aa5 w V):=by
 have CB:=@ay;have FB:=@aO;have I:=hV;clear hV;go_in;go_upto_region 1 with fail;refine s0 (λu0 p0 k1 k2 S b=>?_);rcases EP (xs=[])with hx|hx
 .obtain rfl:m=0:=by rw[x.len,hx];rfl
  have l:Hx (V=(ts,ys)):=ae (by rw[<-I.o,iz,ah hx]);have HS:=ae b;clear hx h b;go_wp2_with (go_at_call 71;refine(oP P Q).mono ?_;rintro e u ⟨G,J,rfl,sA,T,fA,K,_⟩);have U:Bx u (w.1.size+1+1) 28 #[(),()]:=aq;have X:=U.ak.bP (.slice G ts ts.length) (.slice J ys ys.length);have Y:=br (aP w u) (p:=w.1.size+1+1) om (.slice G ts ts.length) (.slice J ys ys.length);have r:=sA.bA fA S.ak.lt (.slice G ts ts.length) (.slice J ys ys.length);have y:=T.bA K S.ak.lt (.slice G ts ts.length) (.slice J ys ys.length);obtain⟨r0,r1⟩:=bI X;refine aX (v:=.agg #[.slice G ts ts.length,.slice J ys ys.length]) xc5 rfl ?_;have j:=l.o;subst j;exact⟨_,_,_,_,rfl,r,y,⟨al _⟩,⟨al _⟩,fA.less ai,K.less ai,⟨Y⟩⟩
 have k8:0<m:=by rw[x.len];exact MH.2 hx
 have l:Hx (V=(zs,xs.zipWith bQ ys)):=ae (by rw[<-I.o,iz,ag hx]);have Z:Hx (cR zs xs ts ys=true):=h.o.resolve_left hx;clear hx h;obtain⟨L,z⟩:=kS (xs.zipWith bQ ys);have HS:=ae b;clear b;go_upto_region 4 with(go_at_call 115;refine(UT Z).mono ?_;rintro e u ⟨E,c',F,d',rfl,sA,T,lA,lX,fA,K,_⟩;rw[z.o]at T lX;rw[z.o]);refine Dl (λO _ _=>?_);go_wp2_with fail;have U:Bx O (w.1.size+1+1) 28 #[(),()]:=aq;have X:=U.ak.bP (.slice E zs c') (.slice F L d');have Y:=br (aP w O) (p:=w.1.size+1+1) om (.slice E zs c') (.slice F L d');have M:w.1.size+1+1<u0.1.size:=S.ak.lt;have UU:Sl O E zs zs:=aq;have UV:Sl O F L L:=aq;have r:=UU.bA fA M (.slice E zs c') (.slice F L d');have y:=UV.bA K M (.slice E zs c') (.slice F L d');obtain⟨r0,r1⟩:=bI X;refine aX (v:=.agg #[.slice E zs c',.slice F L d']) xc5 rfl ?_;have j:=l.o;rw[z.o]at j;subst j;exact⟨_,_,_,_,rfl,r,y,lA,lX,fA.less ai,K.less ai,⟨Y⟩⟩
end
variable{p u w1:World}{c1 g i j m1 r wd:Nat}{m2:kE}{v':da}{tb:Bool->Tb}{A' wm:Option Addr}{h z:Int}{ss:List Sp}{t:Tn}{L:List (List Int)}{vals:List TV}{nd:et}{cs lW:Array Value}
structure L3 where
 A:Option Addr
 n:Nat
 c:Nat
 B:Option Addr
 m:Nat
 d:Nat
 PA:Option Addr
 np:Nat
 cp:Nat
 XA:Option Addr
 nx:Nat
 cx:Nat
 XB:Option Addr
 mx:Nat
 dx:Nat
 CA:Option Addr
 nc:Nat
 cc:Nat
 cap:Nat
 l:Nat
 SA:Option Addr
 ns:Nat
 sc:Nat
structure nK(J:L3)(r:Nat)(cs:Array Value):Prop where
 c0:cs[0]?=some (.slice J.A J.n J.c)
 c1:cs[1]?=some (.slice J.B J.m J.d)
 c2:cs[2]?=some (.slice J.PA J.np J.cp)
 c3:cs[3]?=some (.slice J.XA J.nx J.cx)
 c4:cs[4]?=some (.slice J.XB J.mx J.dx)
 c7:cs[7]?=some (.int .i64 (J.l:Int))
 c8:cs[8]?=some (.pointer r)
 cS:∀s,cs[oS s+3]?=some (.slice J.SA J.ns J.sc)
structure xH(p:World)(J:L3)(N:bm)(L:List (List Int))(P:List TV)(x:TV):Prop where
 UW:aW p J.A J.n J.B J.m N
 ps:∃ps,Ts p J.PA J.np ps/\ps.map Tn.tv=P/\eB ps
 xs:Sl p J.XA J.nx x.1
 xx:Sl p J.XB J.mx x.2
 lx:J.nx<=J.cx
 UX:J.mx<=J.dx
 lp:J.np<=J.cp
 lB:J.m<=J.d
 sh:∃ss,dZ p J.SA J.ns ss/\aS ss=L
 fits:N.fits
 small:N.small
 CI:TV.ok x
structure pX(w:World)(B:Nat)(A:Option Addr)(c:Nat)(ts:List Tn):Prop where
 row:aU w B 28 2 A c ts.length (tc ts)
 el:∀t∈ts,TE w t
 aY:∀t∈ts,(∀b,AF t.A b->b<w.1.size/\¬AF A b)/\∀b,AF t.B b->b<w.1.size/\¬AF A b
section
variable{B o:Nat}{m m':kE}{v:da}{T:Bool->Int->Option (List Int)}{s:Bool}{ts:List Tn}{J:L3}{P:List TV}{x:TV}
def nK.same(h:nK J r cs)(hs:kD cs lW):nK J r lW:=
 ⟨(hs 0 am am am am).trans h.c0,(hs 1 am am am am).trans h.c1,(hs 2 am am am am).trans h.c2,
  (hs 3 am am am am).trans h.c3,(hs 4 am am am am).trans h.c4,(hs 7 am am am am).trans h.c7,
  (hs 8 am am am am).trans h.c8,λs=>by cases s<;>exact(hs _ am am am am).trans (h.cS _)⟩
theorem MS.cl(h:MS w B g r m v tb){x:Value}(b:m.cs[i]?=some x):Cl w g i x:=⟨((h.t false).ak.cell i).trans b⟩
theorem MS.old(h:MS w B g r m v tb):Old g w:=⟨(h.t false).ak.lt⟩
def gh(h:Sl w A n zs)(l:zs≠[]):∀b,AF A b->b<w.1.size:=λb hb=>by
 obtain⟨F,e,rfl⟩:=hb;match zs,l,h with
 |y::t,_,h=>obtain⟨b,off,E,D,_⟩:=h.rd 0 y rfl;rw[e]at E;cases E;exact D
def xc4(h:Γ:=by cases ht):=h
def pX.nil(w:aa)(B:Nat):pX w B none 0 []:=⟨⟨rfl,.inl ⟨rfl,rfl⟩⟩,λt ht=>xc4,λt ht=>xc4⟩
def pX.at(h:pX w B A c ts)[l:aT w w']:pX w' B A c ts:=⟨h.row.at,λt ht=>(h.el t ht).below l.st,λt ht=>⟨λb hb=>⟨bu ((h.aY t ht).1 b hb).1 l.st.size,((h.aY t ht).1 b hb).2⟩,λb hb=>⟨bu ((h.aY t ht).2 b hb).1 l.st.size,((h.aY t ht).2 b hb).2⟩⟩⟩
theorem pX.nL(h:pX w B A c ts):Ts w A ts.length ts:=⟨Ny.trd (B:=B) (c:=c) h.row h.el,rfl⟩
def TE.jt(h:TE w t)(l:dm A A' w w')(f1:∀b,AF t.A b->b<w.1.size/\¬AF A b)(f2:∀b,AF t.B b->b<w.1.size/\¬AF A b):TE w' t:=by
 have key:∀{C:bF} {zs:au},Rd w C zs->(∀b,AF C b->b<w.1.size/\¬AF A b)->Rd w' C zs:=λ{C zs} hr y j z D=>by obtain⟨b,off,e,hb,E⟩:=hr j z D;have F:=y b ⟨_,e,rfl⟩;refine⟨b,off,e,bu hb l.size,?_⟩;rw[<-E];exact d9 (l.off b hb λG I K=>F.2 ⟨G,I,K⟩)
 exact⟨key h.1 f1,key h.2.1 f2,h.2.2⟩
def pX.push(h:pX w B A c ts)(ht:TE w t)(f1:∀b,AF t.A b->b<w.1.size/\¬AF A b)(f2:∀b,AF t.B b->b<w.1.size/\¬AF A b)(hr:aU w' B 28 2 A' c' (ts.length+1) (tc ts++tc [t]))(l:dm A A' w w'):pX w' B A' c' (ts++[t]):=by
 have key:∀{C:bF},(∀b,AF C b->b<w.1.size/\¬AF A b)->∀b,AF C b->b<w'.1.size/\¬AF A' b:=λ{C} E b hb=>by obtain⟨F,G⟩:=E b hb;refine⟨bu F l.size,λhx=>?_⟩;obtain⟨D,I,rfl⟩:=hx;rcases l.new D I with⟨K,e,hx⟩|hx;exact G ⟨K,e,hx.symm⟩;omega
 refine⟨?_,λy hy=>?_,λy hy=>?_⟩;rw[bh,mL];exact hr;rcases bM.1 hy with hy|hy;exact(h.el y hy).jt l (h.aY y hy).1 (h.aY y hy).2;rw[cZ.1 hy];exact ht.jt l f1 f2;rcases bM.1 hy with hy|hy;exact⟨key (h.aY y hy).1,key (h.aY y hy).2⟩;rw[cZ.1 hy];exact⟨key f1,key f2⟩
def TE.of{e:bF}{d1 n1:Nat}(a:Sl w D n1 zs)(b:Sl w e m1 xs)(l:xs<=d1)(bd:∀z∈xs,bb z):TE w ⟨D,c1,zs,e,d1,xs⟩:=⟨a.rd,b.rd,l,bd⟩
def UY(L:f0)(T:Bool->Int->Option (List Int))(vals:List TV)(n:Nat)(z:Int):Prop:=z=0\/(1<=z/\z<=n/\T false z=some (vals.getD z.toNat T0).2/\(vals.getD z.toNat T0).1=L.getD z.toNat []/\TV.ok (vals.getD z.toNat T0))
end
variable{J:L3}{pv:List TV}
section
variable{B o:Nat}{m m':kE}{v:da}{T:Bool->Int->Option (List Int)}{s:Bool}{ts:List Tn}{P:List TV}{x:TV}
theorem aW.at{B:bF}[l:aT w w'](h:aW w A n B k N):aW w' A n B k N:=
 ⟨⟨h.dV.rd.below l.st,h.dV.len⟩,by
  obtain⟨xs,y,D⟩:=h.nds;exact⟨xs,λj x E=>by obtain⟨b,o,e,k⟩:=y j x E;exact⟨b,o,e,k.below l.st⟩,D⟩,h.len⟩
def QF[aT p w](hb:Hx (xH p J N L P x))(h:Hx (MS w p.1.size g r m v tb))(U:Hx (nK J r m.cs))(V:Hx (N.nodes[k]?=some nd))(hF:Hx (dJ N k=f)):
  () 156 #[.pointer g,.int .i64 ((k:Int)+1)] w (aJ w (f:Int)):=by
 have CC:=@cQ;have CP:=@bW;have a:aW w J.A J.n J.B J.m N:=hb.o.UW.at;have R:=hb.o.fits;have hs:=hb.o.small;have S:Hx (J.m=N.nodes.length):=a.len;have hm:J.m<=1000:=by rw[S.o];exact hs.1
 have e:k<J.m:=by rw[S.o];exact(a8.1 V).1
 have D:=λW=>Bh (B:=J.B) (m:=J.m) (d:=J.d) (fq e) hb.o.lB W;have l:∀j,dJ N j<=100000000:=rh R hs;have E:=ae l;have X:IntKind.i64.wrap (k:Int)=(k:Int):=by rw[a7];omega
 have F:Hx (f=dJ N k):=hF.o.symm;have c1:Cl w g 1 (.slice J.B J.m J.d):=h.o.cl U.o.c1;clear l R hs;generalize J.B=Bz at a c1 D;go_in;go_wp2_with fail;go_loopw [5,18] (λs i wr=>∃(j:Nat),j<=k/\i=.int .i64 (j:Int)/\s=.int .i64 (dJ N j:Int)/\aj wr w) (λ_ i _=>k-(intOf i).toNat);exact⟨0,aM _,rfl,rfl,aF⟩;obtain⟨j,hj,rfl,rfl,hp⟩:=hrel;by_cases G:j<k
 .obtain⟨b0,q0,o,A1,n1,Y,I,ni,ci,ins,P,np,cp,ps,rfl,ob,⟨v0,v1,v2,v3,v4,v5,v6,v7,v8,v9⟩,s1,si,sp,l1,li,lp,ik,K⟩:=a.node (Nat.lt_trans G e);(have y:dJ N (j+1)=dJ N j+np:=by rw[jf K.o,sp.len,cX]);have M:=E.o (j+1);obtain⟨O,b⟩:=lh (dJ N j);have Q:Hx (dJ N (j+1)=O+np):=ae (by rw[y,b]);(have Z:IntKind.i64.wrap ((O:Int)+(np:Int))=(O:Int)+(np:Int):=by rw[a7];omega);rw[b];clear y M b;(have i1:(j:Int)<(k:Int):=by omega);go_wp2_with fail;go_roundw;exact⟨j+1,om,by go_num,by rw[Q.o];go_num,aF⟩;exact xc0
 obtain rfl:j=k:=om;go_wp2_with fail;go_ret;exact⟨by rw[F.o];rfl,aF⟩
def ri[aT p w](sh:Hx (dZ p wm n ss))(h:Hx (MS w p.1.size g r m v tb))(b:Hx (cV v tb T))(e:Hx (T false (j:Int)=some xs))(hs:Hx (m.cs[12]?=some (.slice wm n c)))(l:Hx ((aS ss)[j]?=some zs))(hr:Hx (ap zs xs=true)):
  () 154 #[.pointer (some ⟨g,9,none⟩),j] w (dK w zs xs 0):=Bg (s:=false) sh h b e hs l hr
def w7[aT p w](sh:Hx (dZ p wm n ss))(h:Hx (MS w p.1.size g r m v tb))(b:Hx (cV v tb T))(e:Hx (T true (j:Int)=some xs))(hs:Hx (m.cs[16]?=some (.slice wm n c)))(l:Hx ((aS ss)[j]?=some zs))(hr:Hx (ap zs xs=true)):
  () 154 #[.pointer (some ⟨g,13,none⟩),j] w (dK w zs xs 0):=Bg (s:=true) sh h b e hs l hr
def fM(h:aA zs=true):zs≠[]:=λe=>by rw[e]at h;exact absurd h am
def UZ(w:aa)(b:List TV)(e:Ending)(w':aa):Prop:=∃A c ts,e=.returned (.tuple #[.slice A b c,an])/\Ts w' A b.length ts/\Le b.length c/\Hx (eB ts)/\Hx (ts.map Tn.tv=b)/\aj w' w
def xc3(h:Γ:=by intro u hu;simp at hu;rcases hu with rfl|rfl<;>rfl):=h
def Bj[pw:aT p w](hb:Hx (xH p J N L P x))(h:Hx (MS w p.1.size g r m v tb))(hc:Hx (nK J r m.cs))(GF:Hx (cV v tb T))(hk:Hx (N.nodes[k]?=some nd))(h0:Hx (vals.getD 0 T0=x))(Qc:Hx (L=N.nodes.length+1))(sI:Hx (∀z∈nd.ins,UY L T vals N.nodes.length z))
   (U:Hx (cM vals nd.ins=pv)):
  () 148 #[.pointer g,.int .i64 ((k:Int)+1)] w (UZ w pv):=by
 have CC:=@cQ;have CP:=@bW;have a:aW w J.A J.n J.B J.m N:=hb.o.UW.at;have HM:Hx (J.m=N.nodes.length):=a.len;have GG:k<J.m:=by rw[HM.o];exact(a8.1 hk).1
 have hm:J.m<=1000:=by rw[HM.o];exact hb.o.small.1
 have hwj:IntKind.i64.wrap (k:Int)=(k:Int):=by rw[a7];omega
 have c1:Cl w g 1 (.slice J.B J.m J.d):=h.o.cl hc.o.c1;have c3:Cl w g 3 (.slice J.XA J.nx J.cx):=h.o.cl hc.o.c3;have c4:Cl w g 4 (.slice J.XB J.mx J.dx):=h.o.cl hc.o.c4;obtain⟨ss,sh,Bk⟩:=hb.o.sh;have SH:=ae sh;have QG:=ae Bk;have hLX:x.2.length<=J.dx:=by have:=hb.o.UX;rw[hb.o.xx.len]at this;exact this
 have TEX:Hx (TE w ⟨J.XA,J.cx,x.1,J.XB,J.dx,x.2⟩):=ae (TE.below (w:=p) (TE.of hb.o.xs hb.o.xx hLX hb.o.CI.2) (pw.st));have FU:Hx (ap x.1 x.2=true/\x.1.length<=J.cx):=ae ⟨hb.o.CI.1,by have:=hb.o.lx;rw[hb.o.xs.len]at this;exact this⟩;have O:Hx ((∀b,AF J.XA b->b<p.1.size)/\∀b,AF J.XB b->b<p.1.size):=ae ⟨gh hb.o.xs (fM hb.o.CI.right),gh hb.o.xx hb.o.CI.ne⟩;generalize J.B=Bz at a c1;obtain⟨b0,q0,o,A1,n1,F8,I,ni,ci,ins,P',np,cp,ps,rfl,ob,⟨v0,v1,v2,v3,v4,v5,v6,v7,v8,v9⟩,s1,si,sp,l1,li,lp,ik,oj⟩:=a.node GG;have HND:Hx (nd=⟨o,ins,aS ps⟩):=cH (hk.o.symm.trans oj.o);obtain rfl:nd=⟨o,ins,aS ps⟩:=HND.o;have CK:Hx (∀z∈ins,UY L T vals N.nodes.length z):=sI;have qm:ni<=100000:=by have:=(hb.o.fits.2.2 _ (aC hk)).1;rw[si.len];exact this
 have Q:Hx (pv=ni):=ae (by rw[<-U.o];show(ins.map _).length=ni;rw[bj,si.len]);have HPA:Hx (∀i,i<ni->∀z,ins[i]?=some z->pv[i]?=some (vals.getD z.toNat T0)):=(λi _ z hz=>by
  rw[<-U.o];show(ins.map _)[i]?=_;rw[bf,hz];rfl)
 clear oj HND U sI v0 v1 v2 v3 v4 v5 v6 v7 v9 s1 sp l1 lp ik hLX sh Bk;go_in;go_wp2_with fail;go_loopw [6,23] (λs6 s23 wr=>∃(i:Nat) (A':bF) (c':Nat) (M:List Tn),i<=ni/\s23=.int .i64 (i:Int)/\s6=.slice A' i c'/\Hx (pX wr w.1.size A' c' M)/\Hx (M.length=i)/\Hx (M.map Tn.tv=pv.take i)/\Hx (eB M)/\aj wr w) (λ_ i _=>ni-(intOf i).toNat);exact⟨0,none,0,[],aM _,rfl,rfl,ae (pX.nil _ _),ae rfl,ae rfl,ae (λt ht=>xc4),aF⟩;obtain⟨i,A',c',M,hi,rfl,rfl,E,D,V,X,hp⟩:=hrel;by_cases bE:i<ni
 .obtain⟨bi,oi,z,rfl,obi,cz,hz⟩:=si.get bE;have HZ:=hz;have Y:=HPA.o i bE z hz.o;have HPI:=ae Y;have acu:=CK.o z (aC hz.o);have pQ:Hx (pv.take (i+1)=pv.take i++[vals.getD z.toNat T0]):=take_at Y;(have y:aU wr w.1.size 28 2 A' c' i (tc M):=by have:=E.o.row;rw[D.o]at this;exact this);clear Y hz;rcases acu with hJ|⟨hH,jM,Z,QH,R⟩
  .subst hJ;have YN:Hx (vals.getD (0:Int).toNat T0=x):=h0;go_wp2_with (at_builtin;refine kM rfl _ _ _ rfl 28 underlying23 2 48 (.agg #[(),()]) ao rfl am am w.1.size A' c' i (tc M) rfl y [.slice J.XA J.nx J.cx,.slice J.XB J.mx J.dx] rfl xc3 rfl om ai ?_;intro A3 PD w3 S F _);go_roundw;have G:∀b,b<p.1.size->¬AF A' b:=λb hb hx=>by have h9:=(y.af hx).1;have:=pw.st.size;omega
   have Oz:p.1.size<=wr.1.size:=aL pw.st.size (ai (w:=w) (w':=wr));have Fp:=E.o.push (t:=⟨J.XA,J.cx,x.1,J.XB,J.dx,x.2⟩) (TEX.o.below (aP w wr)) (λb l=>⟨bu (O.o.1 b l) Oz,G b (O.o.1 b l)⟩) (λb l=>⟨bu (O.o.2 b l) Oz,G b (O.o.2 b l)⟩) (by
    rw[D.o];have e1:=hb.o.xs.len;have e2:=hb.o.xx.len;rw[e1,e2]at S;exact S) F
   refine⟨i+1,A3,PD,_,om,by go_num,rfl,ae Fp,ae (by rw[bh,D.o];rfl),ae ?_,ae λt ht=>?_,⟨(aP w wr).trans (F.below (λad e9=>(y.af ⟨ad,e9,rfl⟩).1) ai)⟩⟩;rw[pQ.o,c9,V.o,YN.o];rfl;rcases bM.1 ht with ht|ht;exact X.o t ht;rw[cZ.1 ht];exact FU;exact xc0
  obtain⟨j,rfl⟩:∃j:Nat,z=(j:Int):=⟨z.toNat,om⟩;have hj0:((j:Int)==0)=false:=by simp;omega
  obtain⟨tv,htv⟩:=lh (vals.getD (j:Int).toNat T0);rw[htv]at Z QH R;have HTV:=ae htv;have UE:Hx (T false (j:Int)=some tv.2):=Z;have HJ:Hx ((aS ss)[j]?=some tv.1):=ae (by
   have h9:j<L:=by rw[Qc.o];omega
   rw[QG.o,a5 h9,QH,aZ,aQ,a5 h9];rfl)
  have HR:Hx (ap tv.1 tv.2=true):=R.1;have lZ:=ae R;have HMS:Hx (MS wr p.1.size g r m v tb):=h.o.at;have U0:Hx (m.cs[12]?=some (.slice J.SA J.ns J.sc)):=hc.o.cS false;clear hH jM Z QH R htv;go_upto_region 8 with(go_at_call 154;refine(ri (p:=p) SH HMS GF UE U0 HJ HR).mono ?_;rintro e u ⟨A4,c4',B4,d4,rfl,sA,sX,lA,lX,fA,fX,pu⟩);refine aE (λu1 sQ k1=>?_);have cb0:Cl u1 u.1.size 0 (.slice A4 tv.1.length c4'):=⟨k1.ak.cell 0⟩;have cb1:Cl u1 u.1.size 1 (.slice B4 tv.2.length d4):=⟨k1.ak.cell 1⟩;have K:aU u1 w.1.size 28 2 A' c' i (tc M):=y.at;go_wp2_with (at_builtin;refine kM rfl _ _ _ rfl 28 underlying23 2 48 (.agg #[(),()]) ao rfl am am w.1.size A' c' i (tc M) rfl K [.slice A4 tv.1.length c4',.slice B4 tv.2.length d4] rfl xc3 rfl om ai ?_;intro A3 PD w3 S F _);go_roundw;have G:∀{C:bF},bG wr.1.size C->∀b,AF C b->¬AF A' b:=λ{C} hf b hx hy=>by obtain⟨ad,e9,rfl⟩:=hx;have h8:=hf.o ad e9;have h9:=(y.af hy).2.1;omega
  have UU:Sl u1 A4 tv.1.length tv.1:=aq;have UV:Sl u1 B4 tv.2.length tv.2:=aq;have Fp:=(E.o.at (w':=u1)).push (t:=⟨A4,c4',tv.1,B4,d4,tv.2⟩) (TE.of UU UV lX.le lZ.o.2) (λb l=>⟨gh UU (fM lZ.o.right) b l,G fA b l⟩) (λb l=>⟨gh UV lZ.o.ne b l,G fX b l⟩) (by
   rw[D.o];exact S) F
  refine⟨i+1,A3,PD,_,om,by go_num,rfl,ae Fp,ae (by rw[bh,D.o];rfl),ae ?_,ae λt ht=>?_,⟨(aP w u1).trans (F.below (λad e9=>(K.af ⟨ad,e9,rfl⟩).1) ai)⟩⟩;rw[pQ.o,c9,V.o,HTV.o];rfl;rcases bM.1 ht with ht|ht;exact X.o t ht;rw[cZ.1 ht];exact⟨HR,lA.le⟩;exact xc0
 obtain rfl:i=ni:=om;go_wp2_with fail;go_ret2;exact⟨A',c',M,by rw[Q.o];rfl,by rw[Q.o,<-D.o];exact E.o.nL,by rw[Q.o,<-D.o];exact⟨E.o.row.le⟩,X,ae (by rw[V.o,bY (ei Q.o)]),hp⟩
end
variable{PA:Option Addr}{cp l np:Nat}{ps:List Tn}
def U2(w:aa)(b:List TV)(e:Ending)(w':aa):Prop:=∃A c ts,e=.returned (.slice A b c)/\Ts w' A b.length ts/\Le b.length c/\Hx (eB ts)/\Hx (ts.map Tn.tv=b)/\aj w' w
section
variable{v:et}{ts:List Tn}{P:List TV}
def pY(A:bF){l c k m:Nat}(F:k<=m)(hm:m<=l)(z:l<=c):
  ∃u,(∀W,(Instr.slice 23 (A,l,c) (some (.int .i64 (k:Int))) (some (.int .i64 (m:Int))) none).run prog W=.ok (.slice u (m-k) (c-k)) W)/\∀W ts,Ts W A l ts->Ts W u (m-k) ((ts.drop k).take (m-k)):=by
 have r:∀W,(sizeOf (prog.elem 23)).run prog W=.ok 2 W:=λW=>by obtain⟨G,y,E⟩:=bt.1 (show(prog.info? (prog.elem 23)).map (·.size)=some 2 from by kernel_rfl);simp[sizeOf,typeInfo,y,E]
 refine⟨if c=k then A else A.map (·.add (k*2)),λW=>?_,λW ts h=>⟨λj t e=>?_,?_⟩⟩;rw[kJ W 23 A l c ao .i64 .i64 (k:Int) (m:Int) om om om,r];have y:(m:Int).toNat-(k:Int).toNat=m-k:=by omega
 cases A<;>simp[Result.andThen,sliced]
 .rw[eG]at e;split at e;rw[fb]at e;obtain⟨b,o,rfl,q⟩:=h.rd _ t e;rw[ag om];exact⟨b,o+k*2,by simp[cn],by rw[show o+k*2+j*2=o+(k+j)*2 from om];exact q⟩;cases e
 have:=h.len;simp;omega
def I0(k:Nat)(j:k<=1000000)(W:aa):(Instr.makeSlice 23 an (k:Int)).run prog W=.ok (W,0,k) (W.alloc (.cells (madeCells #[(),()] (k*2)) 28)):=by
 obtain⟨i,hi,b⟩:=bt.1 (show(prog.info? 28).map (λi=>(i.zero,i.size,i.bytes))=some (some (.agg #[(),()]),2,48)from by kernel_rfl);simp only[eP]at b;obtain⟨e,hs,hb⟩:=b;have:=lQ (P:=prog) W 23 28 i _ underlying23 hi e .i64 .i64 0 k (eI _) om (by rw[hs];simp;omega) (by rw[hb];simp;omega);rw[hs]at this;simpa[Value.cells]using this om
def pX.make(w:aa){k:Nat}(b:k<=1000000):pX (w.alloc (.cells (madeCells #[(),()] (k*2)) 28)) w.1.size w k []:=by
 refine⟨⟨rfl,.inr ⟨w.1.size,k,_,rfl,al _,jH w _,aM _,by unfold maxLen;omega,?_,rfl⟩⟩,λt ht=>xc4,λt ht=>xc4⟩;rw[z9];exact rS _ (aM _)
def U3[aW w A n B m N][tp:Ts w PA np ps](H7:m<=d)(hpc:np<=cp)(YO:v.P.length<=1000000)(hO:Hx (eB ps))(hf:Hx N.fits)(hs:Hx N.small)(hid:id=(k:Int)+1)(hk:Hx (N.nodes[k]?=some v))(hle:Hx (dJ N k+v.P.length<=np))(CL:Hx (((ps.map Tn.tv).drop (dJ N k)).take v.P.length=pv)):
  () 149 #[.agg #[(A,n,c),(B,m,d)],(PA,np,cp),id] w (U2 w pv):=by
 obtain⟨CB,CP,FB⟩:=ia;subst hid;obtain⟨f,hF⟩:=lh (dJ N k);obtain⟨t,hT⟩:=lh (f+v.P.length);have HF:=ae hF;have HT:=ae hT;have QI:t<=np:=by rw[<-hT,<-hF];exact hle
 have GH:f<=t:=om;obtain⟨q,hq⟩:=lh (t-f);have S:q<=1000000:=om;obtain⟨A2,ko,T⟩:=pY PA GH QI hpc;have tq:Ts w A2 q ((ps.drop f).take q):=by rw[<-hq];exact T w ps tp
 rw[hq]at ko;have M:Hx (((ps.drop f).take q).map Tn.tv=pv):=ae (by
  rw[<-CL.o,hF,show v.P.length=q from om,gI,kK])
 obtain⟨qs,O⟩:=lh ((ps.drop f).take q);rw[O]at tq M;have GI:Hx (eB qs):=λt ht=>hO.o t (by rw[<-O]at ht;exact dA (cE ht));have hwq:IntKind.i64.wrap ((t:Int)-(f:Int))=(q:Int):=by have:=rh hf hs k;rw[hF]at this;rw[a7];omega
 have la:=I0 q S;have d1:decide (np<t)=false:=by simp;omega
 have F:Hx (pv.length=q):=ae (by rw[<-M.o,bj,<-tq.len]);clear hF hT hq O T;go_in;go_upto_region 2 with(go_at_call 63;refine ey (λu0 _ _=>?_);refine(Bi H7 hf hs rfl hk HF HT).mono ?_;rintro e u1 ⟨rfl,_⟩);go_upto_region 5 with fail
 obtain⟨W,hW⟩:=lg (u1.alloc (.cells (madeCells #[(),()] (q*2)) 28));have U:Hx (pX W w.1.size u1 q []):=ae (by
  have K:=pX.make u1 S;rw[<-hW]at K;exact⟨aU.less K.row ai,K.el,K.aY⟩)
 have pW:aj W w:=by rw[hW];exact aF
 rw[<-hW];clear hW la;go_wp2_with fail;go_loopw [9,31] (λs9 s31 wr=>∃(i:Nat) (I:bF) (c':Nat) (E:List Tn),i<=q/\s31=.int .i64 (i:Int)/\s9=.slice I i c'/\Hx (pX wr w.1.size I c' E)/\Hx (E.length=i)/\Hx (E.map Tn.tv=pv.take i)/\Hx (eB E)/\aj wr w) (λ_ i _=>q-(intOf i).toNat);exact⟨0,_,q,[],aM _,rfl,rfl,U,ae rfl,ae rfl,ae (λt ht=>xc4),pW⟩;obtain⟨i,I,c',E,hi,rfl,rfl,J,j,V,X,hp⟩:=hrel;by_cases Y:i<q
 .obtain⟨b2,o2,A3,m3,c3,z3,B3,k3,d3,L,rfl,jU,e0,e1,s3,y3,l3,l3',i3,h4,h6,Z,uO⟩:=tq.wU GI Y;(have hzi:pv[i]?=some (z3,L):=by (have K:i<(qs.map Tn.tv).length:=by rw[bj,<-tq.len];exact Y);have h8:=uO.o;rw[aQ,a5 K]at h8;rw[<-M.o,a5 K];exact cq some h8);have pQ:Hx (pv.take (i+1)=pv.take i++[(z3,L)]):=take_at hzi;(have Hw:aU wr w.1.size 28 2 I c' i (tc E):=by have:=J.o.row;rw[j.o]at this;exact this);clear hzi uO;go_upto_region 8 with fail;refine aE (λu2 sO k2=>?_);have r:aU u2 w.1.size 28 2 I c' i (tc E):=Hw.at;go_wp2_with (first|(go_at_call 71;refine(oP om om).mono ?_;rintro e u ⟨G,G',rfl,sA,sX,fA,fX,pu⟩;have y:aU u w.1.size 28 2 I c' i (tc E):=r.at)|(at_builtin;refine kM rfl _ _ _ rfl 28 underlying23 2 48 (.agg #[(),()]) ao rfl am am w.1.size I c' i (tc E) rfl y [.slice G z3 z3.length,.slice G' L L.length] rfl xc3 rfl om ai ?_;intro A4 c4 w4 ho4 hc4 _));go_roundw;(have js:∀{C:bF},bG u2.1.size C->∀b,AF C b->¬AF I b:=λ{C} hf b hx hy=>by obtain⟨ad,e9,rfl⟩:=hx;have h8:=hf.o ad e9;have K:=(r.af hy).2.1;omega);have Q:aA z3=true/\(L.length:Int)=ax z3:=(aN _ _).1 Z.o;have Cr:L≠[]:=λe=>by obtain⟨n9,g1,g2,g3⟩:=cP Q.1;have:=Q.2;rw[e]at this;simp at this;omega
  have Fp:=(J.o.at (w':=u)).push (t:=⟨some ⟨G,0,none⟩,z3.length,z3,some ⟨G',0,none⟩,L.length,L⟩) (TE.of sA sX (al _) i3.bd) (λb z=>⟨gh sA (fM Q.1) b z,js fA b z⟩) (λb z=>⟨gh sX Cr b z,js fX b z⟩) (by
   rw[j.o];exact ho4) hc4
  refine⟨i+1,A4,c4,_,om,by go_num,rfl,ae Fp,ae (by rw[bh,j.o];rfl),ae ?_,ae λt ht=>?_,⟨(aP w u).trans (hc4.below (λad e9=>(y.af ⟨ad,e9,rfl⟩).1) ai)⟩⟩;rw[pQ.o,c9,V.o];rfl;rcases bM.1 ht with ht|ht;exact X.o t ht;rw[cZ.1 ht];exact⟨Z.o,al _⟩;exact xc0
 obtain rfl:i=q:=om;go_wp2_with fail;go_ret;exact⟨I,c',E,by rw[F.o];rfl,by rw[F.o,<-j.o];exact J.o.nL,by rw[F.o,<-j.o];exact⟨J.o.row.le⟩,X,ae (by rw[V.o,bY (ei F.o)]),hp⟩
end
section
variable{I:Option Addr}{ni:Nat}{ins:List Int}{vs:List Tn}
theorem U4{B:Nat}{ts:List Tn}(hb:az w g 28 (iu ts ts.length))(b:B<=g)(l:ts.length<=1000000)(j:∀t∈ts,TE w t):Ts w g ts.length ts:=by
 refine⟨Ny.trd (B:=B) (c:=ts.length) ⟨dX ts,.inr ⟨g,ts.length,_,rfl,b,hb,al _,by unfold maxLen;omega,rS ts (al _),?_⟩⟩ j,rfl⟩;have e:iu ts ts.length=(tc ts).toArray:=by simp[iu]
 rw[e];exact bY (by rw[List.toList_toArray,dX];exact al _)
def I1[tv:Ts w A n vs][T:Sl w I ni ins](C:ni<=1000000)(hO:Hx (∀z∈ins,∀t,vs[z.toNat]?=some t->ap t.zs t.xs=true/\t.zs.length<=t.c))(O:Hx (∀z∈ins,0<=z/\z<n))(D:Hx (cM (vs.map Tn.tv) ins=pv)):
  () 65 #[(A,n,c),(I,ni,d)] w (U2 w pv):=by
 have CP:=@bW;have P:=jp ni C;have e:Hx (pv=ni):=ae (by rw[<-D.o,cM,bj,T.len]);go_in;go_wp2_with fail;obtain⟨W,K⟩:=lg (w.alloc (.cells (iu [] ni) 28));have U:aj W w:=by rw[K];exact aF
 have Q:Hx (az W w.1.size 28 (iu [] ni)):=ae (by rw[K];exact az.new _ _ _);rw[<-K];clear K P;go_loopw [13] (λl wr=>∃(i:Nat) (ts:List Tn),i<=ni/\l=.int .i64 (i:Int)/\Hx (az wr w.1.size 28 (iu ts ni))/\Hx (ts=i)/\Hx (ts.map Tn.tv=pv.take i)/\Hx (∀t∈ts,t∈vs/\ap t.zs t.xs=true/\t.zs.length<=t.c)/\aj wr w) (λl _=>ni-(intOf l).toNat);exact⟨0,[],aM _,rfl,Q,ae rfl,ae rfl,ae (λt ht=>xc4),U⟩;obtain⟨i,ts,hi,rfl,E,b,F,m,hp⟩:=hrel;by_cases G:i<ni
 .obtain⟨bi,oi,z,rfl,V,cz,L⟩:=T.get G;obtain⟨X,Y⟩:=O.o z (aC L.o);obtain⟨j,rfl⟩:∃j:Nat,z=(j:Int):=⟨z.toNat,om⟩;obtain⟨b2,o2,M,c1,zs,N,d1,xs,rfl,Z,e0,e1,s1,x1,l1,i6,hg⟩:=tv.get (k:=j) om;(have J:pv[i]?=some (zs,xs):=by rw[<-D.o,cM,bf,L.o];show some ((vs.map Tn.tv).getD (j:Int).toNat T0)=_;rw[aZ,aQ,bf,hg.o];rfl);have R:Hx (pv.take (i+1)=pv.take i++[(zs,xs)]):=take_at J;have S:Hx ((⟨M,c1,zs,N,d1,xs⟩:Tn)∈vs/\ap zs xs=true/\zs<=c1):=ae ⟨aC hg.o,hO.o _ (aC L.o) _ (by rw[aZ];exact hg.o)⟩;have y:=E.o;(have r:∀q,(iu ts ni)[i*2+q]?=if q<(ni-i)*2 then some (.slice none 0 0)else none:=λq=>by unfold iu;rw[List.getElem?_toArray,eE (by rw[dX,b.o];omega),dX,b.o,jy];rw[show i*2+q-i*2=q from om]);have qf:=(y.cell (i*2)).trans ((r 0).trans (ah om));have xD:=(y.cell (i*2+1)).trans ((r 1).trans (ah om));have I2:=y.frozen (i*2);have sf:=y.frozen (i*2+1);have hK:=(y.av (i*2) (.slice M zs c1)).av (i*2+1) (.slice N xs d1);have u:=Ik ts (n:=ni) (by rw[b.o];exact G) ⟨M,c1,zs,N,d1,xs⟩;rw[b.o]at u;rw[u]at hK;have HK:=ae hK;(have iI:(i:Int)<(ni:Int):=by omega);clear r y hK u hg L J;go_wp2_with fail;go_roundw;refine⟨i+1,ts++[⟨M,c1,zs,N,d1,xs⟩],om,by go_num,HK,ae (by rw[bh,b.o];rfl),ae (by rw[R.o,c9,F.o];rfl),ae λt ht=>?_,⟨((aP w wr).setCell (p:=⟨w.1.size,i*2,none⟩) (al _) _).setCell (p:=⟨w.1.size,i*2+1,none⟩) (al _) _⟩⟩;rcases bM.1 ht with ht|ht;exact m.o t ht;rw[cZ.1 ht];exact S;exact xc0
 obtain rfl:i=ni:=om;go_wp2_with fail;go_ret;have hE:∀t∈ts,TE wr t:=λt ht=>(tv.rd.elems t (m.o t ht).1).below (aP w wr);have hb:=E.o;rw[<-b.o]at hb;have hr:=U4 (B:=w.1.size) hb (al _) (by rw[b.o];exact C) hE;refine⟨_,i,ts,by rw[e.o];rfl,by rw[e.o,<-b.o];exact hr,by rw[e.o];exact⟨al _⟩,ae λt ht=>(m.o t ht).2,ae (by rw[F.o,bY (ei e.o)]),hp⟩
end
variable{XA XB:Option Addr}{cx dx mx nx:Nat}
variable{x:TV}
theorem lu.PT(h:lu w k A c ss):dZ w A ss.length ss:=
 ⟨λj x b=>by
  obtain⟨g,e,l⟩:=h.row.cell (j:=j) (v:=.slice x.A x.m x.c) (by simp[gR,b]);obtain⟨r,u,y,_⟩:=h.el x (aC b);exact⟨g,0,e,h.row.lt _ e,by rw[cf];exact l,r,u,y⟩,rfl⟩
def Bl[a:aW w A n B m N][E:Ts w PA np ps][Q:Sl w XA nx x.1][Sl w XB mx x.2](J:Hx N.fits)(hs:Hx N.small)(R:Hx (bo N=0))(hP:Hx ((ps.map Tn.tv).map (·.1)=bH N))(hO:Hx (eB ps))(K:Hx (x.1=N.dV))(hr:ap x.1 x.2=true)(S:np<=100000000):
  () 24 #[.agg #[(A,n,c),(B,m,d)],(PA,np,cp),.agg #[(XA,nx,cx),(XB,mx,dx)]] w (aJ w an):=by
 obtain⟨CB,CP⟩:=kU;have l:Hx ((bH N).length=np):=ae (by rw[<-hP.o,bj,bj];exact E.len.symm);have T:x.1.length<=4:=cG ((aN _ _).1 hr).1;have r:nx<=1000000:=by rw[Q.len];omega
 have U:n<=1000000:=by rw[a.dV.len,<-K.o];omega
 have sI:Sl w A n x.1:=by rw[K.o];exact a.dV
 have V:=ae hr;go_in;go_upto_region 1 with fail;refine dg (λu0 p0 k1 k2=>?_);go_upto_region 7 with(first|(go_at_call 40;refine mv (j1 J hs R) λu1 _=>?_)|(go_at_call 68;refine(Dz J hs).mono ?_;rintro e L ⟨X,c2,ss,rfl,hS,y,_⟩;rw[l.o]));have F:Hx (ss=np):=ae (by rw[<-l.o,<-y.o,cX]);have sh:dZ L X np ss:=by have z:=hS.PT;rw[F.o]at z;exact z
 have HS:=ae hS;clear hS;go_wp2_with fail;go_loopw [25] (λb wr=>∃i:Nat,i<=np/\b=.int .i64 (i:Int)/\aj wr L) (λb _=>np-(intOf b).toNat);exact⟨0,aM _,rfl,aF⟩;obtain⟨i,hi,rfl,hp⟩:=hrel;by_cases j:i<np
 .obtain⟨b3,o3,A3,Y,c3,z3,rfl,Z,v3,s3,l3,M⟩:=sh.get j;obtain⟨b2,o2,A4,n4,c4,z4,B4,m4,d4,x4,rfl,jU,e0,e1,s4,y4,l4,l4',i4,h4,h6,C,D⟩:=E.wU hO j;(have G:z4=z3:=by (have z:i<(ps.map Tn.tv).length:=by rw[bj,<-E.len];exact j);have O:=D.o;rw[aQ,a5 z]at O;(have P:((ps.map Tn.tv).map (·.1))[i]?=some z4:=by rw[bf,a5 z];exact cq (λq:TV=>some q.1) O);rw[hP.o,<-y.o,M.o]at P;exact(cH P).symm);subst G;have hr5:ap z4 x4=true:=C.o;(have i1:(i:Int)<(np:Int):=by omega);(have I:Y<=1000000:=by rw[s3.len,<-s4.len];omega);clear D C M;go_wp2_with (first|(go_at_call 69;refine mv (bD om) λu _=>?_)|(go_at_call 70;refine mv (ku om I) λu _=>?_));go_roundw;exact⟨i+1,om,by go_num,aF⟩;exact xc0
 obtain rfl:i=np:=om;go_wp2_with (first|(go_at_call 69;refine mv (bD r) λu _=>?_)|(go_at_call 70;refine mv (ku r U) λu _=>?_));go_ret;exact bB
def U5(N:bm)(b:List TV)(x:TV):Prop:=b.map (·.1)=bH N/\(∀t∈b,ap t.1 t.2=true)/\ap x.1 x.2=true/\x.1=N.dV
def rj(v:et):Nat:=3+v.ins.length+v.o.S.length+(v.P.map λs=>1+s.length).sum
def Bm(N:bm):Nat:=N.dV.length+(N.nodes.map rj).sum
def Bn(N:bm):Bool:=decide (Bm N<=300)&&decide (N.nodes.length<=12)
def nM(t:Tn):Nat:=1+t.zs.length+t.xs.length
def ot(ts:List Tn):Nat:=(ts.map nM).sum
def xc1(h:Γ:=by go_wp2_with fail;go_ret;exact bB):=h
def I3[a:aW w A n B m N][Q:Ts w PA np ps][Sl w XA nx x.1][Sl w XB mx x.2](J:Hx N.fits)(hs:Hx N.small)(HE:Hx (bo N=0))(hO:Hx (np=(bH N).length->∀t∈ps,t.zs.length<=1000000))(D:np=(bH N).length->nx<=1000000)(S:Hx (¬U5 N (ps.map Tn.tv) x)):
  () 24 #[.agg #[(A,n,c),(B,m,d)],(PA,np,cp),.agg #[(XA,nx,cx),(XB,mx,dx)]] w (aJ w (20:Int)):=by
 obtain⟨CB,CP⟩:=kU;have hn:n<=1000000:=by rw[a.dV.len];have:=J.o.2.1;omega
 have sI:Sl w A n N.dV:=a.dV;obtain⟨y,T⟩:=lh ((bH N).length);have U:=ae T;rw[T]at hO D;have K:=ae D;clear T D;go_in;go_upto_region 1 with fail;refine dg (λu0 p0 k1 k2=>?_);go_upto_region 5 with(first|(go_at_call 40;refine mv (j1 J hs HE) λu1 _=>?_)|(go_at_call 68;refine(Dz J hs).mono ?_;rintro e u2 ⟨A2,c2,ss,rfl,hS,E,_⟩;rw[U.o]));have L:Hx (ss.length=y):=ae (by rw[<-U.o,<-E.o,cX]);have sh:dZ u2 A2 y ss:=by have b:=hS.PT;rw[L.o]at b;exact b
 clear hS;by_cases V:np=y;rotate_left;have b0:decide (np=y)=false:=by simp[V]
 have b1:((np:Int) !=(y:Int))=true:=by simp;omega
 clear V;exact xc1;subst V;have M:=hO.o rfl;have l:=K.o rfl;have X:=ae M;have hy6:np<=1000000000000:=by have b:=td J N.nodes.length;rw[dR]at b;have h8:(bH N).length=np:=U.o;have h7:=J.o.1;have h6:(bH N).length<=N.nodes*100000:=b;omega
 clear hO M K;go_wp2_with fail;go_loopw [25] (λF wr=>∃i:Nat,i<=np/\F=.int .i64 (i:Int)/\Hx (∀j,j<i->∀t,ps[j]?=some t->ap t.zs t.xs=true/\(aS ss)[j]?=some t.zs)/\aj wr u2) (λF _=>np-(intOf F).toNat);exact⟨0,aM _,rfl,ae λj C=>absurd C (lL _),aF⟩;obtain⟨i,hi,rfl,Y,hp⟩:=hrel;by_cases O:i<np
 .obtain⟨b3,o3,A3,m3,c3,z3,rfl,Tv,v3,s3,l3,R⟩:=sh.get O;obtain⟨b2,o2,A4,c4,z4,B4,d4,x4,rfl,jU,e0,e1,s4,y4,l4,i4,r⟩:=Q.get (k:=i) O;(have i1:(i:Int)<(np:Int):=by omega);have QH:z4.length<=1000000:=X.o _ (aC r.o);(have P:m3<=1000000:=by rw[s3.len];(have b:z3∈bH N:=by rw[<-E.o];exact aC R.o);obtain⟨v,hv,hz⟩:=jI.1 b;have:=(J.o.2.2 v hv).2.2.2 z3 hz;omega);obtain⟨Z,G⟩:=lh (ap z4 x4);cases Z with
  |false=>clear r;go_wp2_with (go_at_call 69;refine mv (bD om) λu _=>?_);go_ret;exact bB
  |true=>
   by_cases I:z4=z3
   .subst I;(have Bo:Hx (∀j,j<i+1->∀t,ps[j]?=some t->ap t.zs t.xs=true/\(aS ss)[j]?=some t.zs):=λj C t ht=>by by_cases hji:j<i;exact Y.o j hji t ht;obtain rfl:j=i:=om;rw[r.o]at ht;obtain rfl:=cH ht;exact⟨G,R.o⟩);clear r R;go_wp2_with (first|(go_at_call 69;refine mv (bD om) λu _=>?_)|(go_at_call 70;refine mv (ku om P) λu _=>?_));go_roundw;exact⟨i+1,om,by go_num,Bo,aF⟩;exact xc0
   (have b0:decide (z4=z3)=false:=by simp[I]);clear r R I;go_wp2_with (first|(go_at_call 69;refine mv (bD om) λu _=>?_)|(go_at_call 70;refine mv (f9 om P) λu _=>?_));go_ret;exact bB
 .obtain rfl:i=np:=om;have z:¬(ap x.1 x.2=true/\x.1=N.dV):=λ⟨h1,h2⟩=>S.o ⟨by
   rw[<-E.o];apply fZ;intro j;rw[bf,bf];cases C:ps[j]? with
   |none=>
    have b:=En.1 C;rw[En.2 (by rw[cX,L.o,Q.len];exact b)];rfl
   |some t=>
    have b:=(a8.1 C).1;rw[<-Q.len]at b;exact(Y.o j b t C).2.symm,λt ht=>by
   obtain⟨u,hu,rfl⟩:=bw.1 ht;obtain⟨j,C⟩:=eN hu;have b:=(a8.1 C).1;rw[<-Q.len]at b;exact(Y.o j b u C).1,h1,h2⟩
  obtain⟨Z,G⟩:=lh (ap x.1 x.2);cases Z with
  |false=>clear z;go_wp2_with (go_at_call 69;refine mv (bD l) λu _=>?_);go_ret;exact bB
  |true=>(have b0:decide (x.1=N.dV)=false:=by have:¬x.1=N.dV:=λh=>z ⟨G,h⟩;simp[this]);clear z;go_wp2_with (first|(go_at_call 69;refine mv (bD l) λu _=>?_)|(go_at_call 70;refine mv (f9 l hn) λu _=>?_));go_ret;exact bB
def U6{α:Type}(f:α->Nat)(l:List α)(k:Nat):((l.take k).map f).sum<=(l.map f).sum:=by
 conv=>rhs;rw[<-dC k l,c9,nk]
 exact Nat.le_add_right _ _
def tp{α:Type}(f:α->Nat){l:List α}{k:Nat}{x:α}(h:l[k]?=some x):((l.take (k+1)).map f).sum=((l.take k).map f).sum+f x:=by
 rw[take_at h,c9,nk];simp
def I4(ps:List Tn):Int:=wrap64 (ot ps:Nat)
def fm[K:Ts w PA np ps](hb:Hx (∀t∈ps,t.zs.length<=17592186043904/\t.xs.length<=17592186043904))(O:np<=140737488351232)(P:Hx (I4 ps=z)):() 22 #[(PA,np,cp)] w (aJ w z):=by
 obtain⟨CB,CP,FB⟩:=ia;have Q:(np:Int)<=9223372036854775806:=by omega
 obtain⟨f,r⟩:∃f:Nat->Int,∀n:Nat,f n=wrap64 (n:Int):=⟨_,λ_=>rfl⟩;have R:=ae r;have D:Hx (0=f 0):=ae (by rw[r];unfold wrap64;omega);have E:Hx (∀a b:Nat,wrap64 (f a+(b:Int))=f (a+b)):=λa b=>by rw[r,r];unfold wrap64;omega
 clear O r;go_in;go_wp2_with fail;go_loopw [3,8] (λT F wr=>∃(i:Nat) (S:Int),i<=np/\F=.int .i64 (i:Int)/\T=.int .i64 S/\Hx (S=f ((ps.take i).map nM).sum)/\aj wr w) (λ_ F _=>np-(intOf F).toNat);exact⟨0,0,aM _,rfl,rfl,D,aF⟩;obtain⟨i,S,hi,rfl,rfl,L,hp⟩:=hrel;by_cases G:i<np
 .obtain⟨b2,o2,U,c4,z4,V,X,M,rfl,Y,e0,e1,s4,y4,l4,i4,l⟩:=K.get (k:=i) G;(have i1:(i:Int)<(np:Int):=by omega);have u:=hb.o _ (aC l.o);have I:=ae (tp nM l.o);obtain⟨a4,e⟩:=lh z4.length;obtain⟨C,j⟩:=lh M.length;have J:Hx (nM ⟨U,c4,z4,V,X,M⟩=1+a4+C):=ae (by unfold nM;rw[<-e,<-j]);(have y:a4<=17592186043904/\C<=17592186043904:=by rw[<-e,<-j];exact u);rw[e]at e0;rw[j]at e1;(have w1:IntKind.i64.wrap (1+(a4:Int))=1+(a4:Int):=by rw[a7];omega);(have w2:IntKind.i64.wrap (1+(a4:Int)+(C:Int))=1+(a4:Int)+(C:Int):=by rw[a7];omega);clear u y l e j s4 y4;go_upto_region 5 with fail;refine aE (λu4 I5 k4=>?_);go_wp2_with fail;go_roundw;refine⟨i+1,_,om,by go_num,rfl,ae ?_,aF⟩;rw[I.o,J.o,L.o,<-E.o];exact cq wrap64 om;exact xc0
 obtain rfl:i=np:=om;have hS:S=z:=by rw[L.o,bY (by rw[<-K.len];exact al _),R.o,<-P.o];rfl
 subst hS;exact xc1
def U7(b:N.fits){v:et}(hv:v∈N.nodes):rj v<=20000000000:=by
 obtain⟨E,F,e,j⟩:=b.2.2 v hv;have r:∀l:List (List Int),(∀z∈l,z.length<=100000)->(l.map λs=>1+s.length).sum<=l.length*100001:=λl=>by
  induction l with
  |nil=>intro _;simp
  |cons a t u=>intro h;have y:=h a cm;have C:=u λz D=>h z (dp _ D);rw[di,fY,dj];omega
 have y:=r v.P j;have C:v.P.length*100001<=100000*100001:=cU _ e;unfold rj;omega
def Bp[a:aW w A n B m N](hf:Hx N.fits)(hs:Hx N.small):() 23 #[.agg #[(A,n,c),(B,m,d)]] w (aJ w (.bool (Bn N))):=by
 obtain⟨CB,CP,FB⟩:=ia;have HM:Hx (m=N.nodes):=a.len;have hm:m<=1000:=by rw[HM.o];exact hs.o.1
 obtain⟨y,hy⟩:=lh N.dV.length;have hny:n=y:=by rw[<-hy];exact a.dV.len
 have hyb:y<=100000:=by rw[<-hy];exact hf.o.2.1
 have Ip:=ae hy;subst hny;obtain⟨M,P⟩:∃q:Nat,q=20000000000:=⟨_,rfl⟩;have Q:=ae P;clear P hy;go_in;go_upto_region 1 with fail;refine aE (λu0 p0 k0=>?_);go_wp2_with fail;go_loopw [3,14] (λR z wr=>∃(i K:Nat),i<=m/\z=.int .i64 (i:Int)/\R=.int .i64 (K:Int)/\Hx (K=n+((N.nodes.take i).map rj).sum)/\Hx (K<=100000+i*M)/\aj wr u0) (λ_ z _=>m-(intOf z).toNat);exact⟨0,n,aM _,rfl,rfl,ae aD,ae om,aF⟩;obtain⟨i,K,hi,rfl,rfl,HK,HB,hp⟩:=hrel;by_cases bE:i<m
 .have i1:(i:Int)<(m:Int):=by omega
  obtain⟨b0,q0,o,A1,n1,F8,I,ni,ci,ins,P',e,cp',b,rfl,ob,⟨v0,v1,v2,v3,v4,v5,v6,v7,v8,v9⟩,s1,si,sp,l1,li,lp',ik,r⟩:=a.node bE;have S:=U7 hf (aC r.o);have T:=tp rj r.o;(have U:rj ⟨o,ins,aS b⟩=3+ni+n1+((aS b).map λs=>1+s.length).sum:=by unfold rj;dsimp only;rw[<-si.len,<-s1.len]);have K9:Hx (K+rj ⟨o,ins,aS b⟩=n+((N.nodes.take (i+1)).map rj).sum):=ae (by rw[HK.o,T];omega);have V:=ae U;have X:=ae S;(have Y:K<=100000+1000*20000000000:=by have C:=HB.o;have h2:i*M<=1000*M:=cU _ om;have h3:=Q.o;omega);(have D:(aS b).length=e:=by rw[cX];exact sp.len.symm);have FC:=ae D;have qv:ni+n1<=20000000000:=om;(have CD:e<=100000:=by rw[<-D];have h8:=(hf.o.2.2 _ (aC r.o)).2.2.1;exact h8);(have w1:IntKind.i64.wrap (3+(ni:Int))=3+(ni:Int):=by rw[a7];omega);(have w2:IntKind.i64.wrap (3+(ni:Int)+(n1:Int))=3+(ni:Int)+(n1:Int):=by rw[a7];omega);obtain⟨K1,Z⟩:=lg (K+(3+ni+n1));(have w3:IntKind.i64.wrap ((K:Int)+(3+(ni:Int)+(n1:Int)))=(K1:Int):=by rw[a7];omega);have vm:=ae Z;have CM:=ae Y;clear S T U r D Z Y qv;go_upto_region 5 with fail;refine aE (λu4 I5 k4=>?_);go_wp2_with fail;go_loopw [3,32] (λR E wr=>∃(j F:Nat),j<=e/\E=.int .i64 (j:Int)/\R=.int .i64 (F:Int)/\Hx (F=K1+(((aS b).take j).map λs=>1+s.length).sum)/\aj wr u4) (λ_ E _=>e-(intOf E).toNat);exact⟨0,K1,aM _,rfl,rfl,ae aD,aF⟩;obtain⟨j,F,hj,rfl,rfl,G,sZ⟩:=hrel;by_cases I7:j<e
  .obtain⟨b3,o3,A3,O,c3,z3,rfl,Tv,v3,R,l3,e3⟩:=sp.get I7;(have i2:(j:Int)<(e:Int):=by omega);have l:=tp (λs:List Int=>1+s.length) e3.o;have hle:(((aS b).take (j+1)).map λs=>1+s.length).sum<=((aS b).map λs=>1+s.length).sum:=U6 _ _ _;have J:z3=O:=R.len.symm;(have hKK:F+(1+O)<=100000+1000*20000000000+20000000000:=by have C:=G.o;have h2:=vm.o;have h3:=V.o;have h4:=X.o;have h5:=CM.o;rw[J]at l;omega);(have w4:IntKind.i64.wrap (1+(O:Int))=1+(O:Int):=by rw[a7];omega);obtain⟨K3,Fi⟩:=lg (F+(1+O));(have w5:IntKind.i64.wrap ((F:Int)+(1+(O:Int)))=(K3:Int):=by rw[a7];omega);have sN:Hx (K3=K1+(((aS b).take (j+1)).map λs=>1+s.length).sum):=ae (by have C:=G.o;rw[J]at l;omega);clear l hle J hKK Fi e3;go_wp2_with fail;go_roundw;exact⟨j+1,K3,om,by go_num,rfl,sN,aF⟩;exact xc0
  obtain rfl:j=e:=om;go_wp2_with fail;go_roundw;have C:=G.o;rw[bY (by rw[FC.o];exact al _)]at C;have h2:=vm.o;have h3:=V.o;have h4:=K9.o;have h5:=HB.o;have h6:=X.o;have h7:=Q.o;(have h8:(i+1)*M=i*M+M:=by rw[hx];omega);exact⟨i+1,F,om,by go_num,rfl,ae om,ae om,aF⟩;exact xc0
 obtain rfl:i=m:=om;have sY:K=Bm N:=by have C:=HK.o;rw[bY (by rw[<-HM.o];exact al _)]at C;unfold Bm;rw[Ip.o];exact C
 obtain⟨f1,sf⟩:=lh (decide ((K:Int)<=300));have u:decide (K<=300)=f1:=by rw[<-sf];by_cases h:K<=300<;>simp[h]<;>omega
 obtain⟨f2,L⟩:=lh (decide (i<=12));have zm:Hx (Bn N=(f1&&f2)):=ae (by unfold Bn;rw[<-sY,<-HM.o,u,L]);have QJ:=ae L;clear sY L u;cases f1
 .go_wp2_with fail;go_ret;exact⟨by rw[zm.o];rfl,aF⟩
 go_wp2_with fail;go_ret;refine⟨?_,aF⟩;rw[zm.o,<-QJ.o];have e9:decide ((i:Int)<=12)=decide (i<=12):=by by_cases h:i<=12<;>simp[h]<;>omega
 show Ending.returned (Value.bool (decide ((i:Int)<=12)))=_;rw[e9];simp
variable{c2:Nat}{zx:List Int}
variable{us:List Int}
def GJ[Sl w A n zs][Sl w B m us][Sl w C R zs][Sl w D m' us](e:n<=1000000)(hm:m<=1000000)(b:R<=1000000):() 67 #[.agg #[(A,n,c),(B,m,d)],.agg #[(C,R,c'),(D,m',d')]] w (aJ w (.bool true)):=
 cu (CU e hm b) aD
variable{QA YA YB:Option Addr}{dy:Nat}{qs:List Tn}{l:Int}
def QK[G:Ts w PA n ps][I:Ts w QA n qs][Sl w XA nx zx][Sl w XB mx xs][Sl w YA nx zx][Sl w YB mx xs](h:Hx (ps.map Tn.tv=qs.map Tn.tv))(hO:Hx (∀t∈ps,t.zs.length<=1000000/\t.xs.length<=1000000))(m:nx<=1000000)(y:mx<=1000000)(X:n<=1000000000000):
  () 21 #[.agg #[l,(PA,n,c),(XA,nx,cx),(XB,mx,dx)],.agg #[l,(QA,n,c2),(YA,nx,R),(YB,mx,dy)]] w (aJ w (.bool true)):=by
 obtain⟨Y,Z⟩:=kU;go_in;go_upto_region 1 with fail;refine dg (λu0 p0 k1 k2=>?_);have b2:((n:Int) !=(n:Int))=false:=by simp
 go_wp2_with (go_at_call 67;refine mv (CU (A:=XA) (B:=XB) m y m) λD _=>?_);go_loopw [31] (λb wr=>∃i:Nat,i<=n/\b=.int .i64 (i:Int)/\aj wr D) (λb _=>n-(intOf b).toNat);exact⟨0,aM _,rfl,aF⟩;obtain⟨i,hi,rfl,hp⟩:=hrel;by_cases r:i<n
 .obtain⟨b3,o3,A3,c3,z3,B3,d3,z,rfl,J,L,M,s3,y3,l3,i3,j⟩:=G.get r;obtain⟨b4,o4,A4,c4,z4,B4,d4,N,rfl,O,P,Q,s4,y4,l4,i4,u⟩:=I.get r;(have e:(z3,z)=(z4,N):=by (have E:(ps.map Tn.tv)[i]?=some (z3,z):=by rw[bf,j.o];rfl);rw[h.o,bf,u.o]at E;exact(cH E).symm);injection e with S T;subst S T;have C:=hO.o _ (aC j.o);have F:z3.length<=1000000:=C.1;have U:z.length<=1000000:=C.2;(have i1:(i:Int)<(n:Int):=by omega);clear j u C;go_upto_region 6 with fail;refine ab D ao (λV _=>?_);refine qL [0,1,2,3,4,5,6,7,8,9] ?_;refine aK 10 λK hK=>?_;go_simp;refine(GJ F U F).mono ?_;rintro e V ⟨rfl,_⟩;dsimp only;refine aG hK ?_;refine ff 11 ?_;refine a9 ?_;go_wp2_with fail;exact⟨⟨i+1,om,by go_num,aF⟩,by simp[intOf];omega⟩
 obtain rfl:i=n:=om;exact xc1
end Go.Proofs.YtmkjnlifimffkaaGreat
