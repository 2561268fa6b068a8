/- Lemmas. -/
import Derived.Test.YtmkjnlifimffkaaGreatF24
namespace Go.Proofs.YtmkjnlifimffkaaGreat
open Go.RowKit Tryz
set_option linter.all false
set_option maxRecDepth 100000
set_option maxHeartbeats 0
variable{w':World}{A B C:Option Addr}{R c c' d d' f m:Nat}{xs ys zs:List Int}{id:Int}
def aab(w:ay)(t:TV)(e:Ending)(w':ay):Prop:=
 ∃A c B d,e=.returned (.agg #[.slice A t.1.length c,.slice B t.2.length d])/\Sl w' A t.1.length t.1/\Sl w' B t.2.length t.2/\Le t.1.length c/\Le t.2.length d/\bV w.1.size A/\bV w.1.size B/\aj w' w
section
variable{w:World}{D:Option Addr}{n m' k:Nat}{ts:List Int}{N:aU}{v:dV}
def lr(hv:N.nodes[k]?=some v):dH N (k+1)=dH N k+v.P.length:=by
 unfold dH;rw[take_at hv,jr,a1];simp
def pK(b:N.fits)(hs:N.small)(k:Nat):dH N k<=100000000:=by
 have e:=rp b k;have j:(N.nodes.take k).length<=1000:=by have:=hs.1;simp;omega
 unfold dH;omega
def yP(r:k<=m)(e:m<=d)(W:ay):(Instr.slice 31 (B,m,d) none (some (.int .i64 (k:Int))) none).run prog W=.ok (B,k,d) W:=by
 have b:∀W,(sizeOf (prog.elem 31)).run prog W=.ok 10 W:=λW=>by
  obtain⟨u,j,l⟩:=bD.1 (show(prog.info? (prog.elem 31)).map (·.size)=some 10 from by kernel_rfl);simp[sizeOf,typeInfo,j,l]
 rw[kr W 31 B m d aq .i64 (k:Int) om om,b];cases B<;>simp[Result.andThen,sliced,Addr.add]
def RO[a:aQ w A n B m N](F:m<=d)(S:Hx N.fits)(hs:Hx N.small)(hid:id=(k:Int)+1)(G:Hx (N.nodes[k]?=some v)){t:Nat}(hF:Hx (dH N k=f))(T:Hx (f+v.P.length=t)):
  () 63 #[.agg #[(A,n,c),(B,m,d)],id] w (aD w (.tuple #[f,t])):=by
 obtain⟨CB,CP,FB⟩:=ha;subst hid;have Q:Hx (m=N.nodes):=a.len;have hm:m<=1000:=by rw[Q.o];exact hs.o.1
 have e:k<m:=by rw[Q.o];exact(a5.1 G).1
 have U:=λW=>yP (B:=B) (gV e) F W;have u:∀j,dH N j<=100000000:=pK S hs;have y:=ae u;have V:IntKind.i64.wrap ((k:Int)+1-1)=(k:Int):=by rw[aV];omega
 have X:IntKind.i64.wrap (k:Int)=(k:Int):=by rw[aV];omega
 have d1:decide ((k:Int)+1<1)=false:=by simp;omega
 have d2:decide ((m:Int)<(k:Int)+1)=false:=by simp;omega
 have z:Hx (f=dH N k):=hF.o.symm;clear u
 go_in
 go_upto_region 1 with fail
 refine aw (λY _ _=>?_)
 go_wp2_with fail
 go_loopw [4,23] (λs i wr=>∃(j:Nat),j<=k/\i=.int .i64 (j:Int)/\s=.int .i64 (dH N j:Int)/\aj wr Y) (λ_ i _=>k-(intOf i).toNat)
 .exact⟨0,aT _,rfl,rfl,aK⟩
 ·
  obtain⟨j,hj,rfl,rfl,hp⟩:=hrel;by_cases J:j<k
  .obtain⟨Z,q0,o,A1,n1,c1,I,ni,ci,ins,P,np,cp,ps,rfl,ob,⟨v0,v1,v2,v3,v4,v5,v6,v7,v8,v9⟩,s1,si,sp,l1,li,lp,ik,l⟩:=a.node (Nat.lt_trans J e);have E:dH N (j+1)=dH N j+np:=by rw[lr l.o,sp.len,cj]
   have b:=y.o (j+1);obtain⟨K,r⟩:=lh (dH N j);have L:Hx (dH N (j+1)=K+np):=ae (by rw[E,r]);have M:IntKind.i64.wrap ((K:Int)+(np:Int))=(K:Int)+(np:Int):=by rw[aV];omega
   rw[r];clear E b r;have i1:(j:Int)<(k:Int):=by omega
   go_wp2_with fail
   go_roundw
   .exact⟨j+1,om,by go_num,by rw[L.o];go_num,aK⟩
   .simp[intOf];omega
  .obtain rfl:j=k:=om;obtain⟨Z,q0,o,A1,n1,c1,I,ni,ci,ins,P,np,cp,ps,rfl,ob,⟨v0,v1,v2,v3,v4,v5,v6,v7,v8,v9⟩,s1,si,sp,l1,li,lp,ik,l⟩:=a.node e;have O:np=v.P:=by have h9:=cn (l.o.symm.trans G);rw[<-h9,sp.len,cj]
   have b:=y.o (j+1);rw[lr G.o,<-z.o]at b;have M:IntKind.i64.wrap ((f:Int)+(np:Int))=(t:Int):=by have:=T.o;rw[aV];omega
   rw[<-z.o];have i1:(j:Int)<(m:Int):=by omega
   clear b O
   go_upto_region 8 with fail
   refine am aq (λux _=>?_);refine qL [0,1,2,3,4,5,6,7,8,9,10,11,12] ?_;refine aZ ?_
   go_wp2_with fail
   go_ret2;exact bq
def RP[s:Sl w A n zs][x:Sl w B m xs][b:Sl w C R ts][e:Sl w D m' ys][i:dp xs][j:dp ys](h:Hx (ep zs xs ts ys=true)):() 115 #[.agg #[(A,n,c),(B,m,d)],.agg #[(C,R,c'),(D,m',d')]] w (he w zs (xs.zipWith cA ys) 0):=by
 obtain⟨s,rfl⟩:=s;obtain⟨x,rfl⟩:=x;obtain⟨b,rfl⟩:=b;obtain⟨e,rfl⟩:=e;exact HR (H7 A B C D c d c' d' zs xs ts ys w s x b e (ae i.bd) (ae j.bd) h)
def Lg[Sl w A n zs][x:Sl w B m xs][Sl w C R ts][Sl w D m' ys][dp xs][dp ys](hm:m<=1000000)(P:R<=1000000)(Q:m'<=1000000)(h:Hx (xs=[]\/ep zs xs ts ys=true)){V:TV}(hV:Hx (hJ (zs,xs) (ts,ys)=V)):
  () 66 #[.agg #[(A,n,c),(B,m,d)],.agg #[(C,R,c'),(D,m',d')]] w (aab w V):=by
 have CB:=@aa;have FB:=@aP;have I:=hV;clear hV
 go_in
 go_upto_region 1 with fail
 refine xO (λu0 p0 k1 k2 k3 b=>?_);rcases Cv (xs=[])with hx|hx
 .obtain rfl:m=0:=by rw[x.len,hx];rfl
  have l:Hx (V=(ts,ys)):=ae (by rw[<-I.o,hJ,ah hx]);have HS:=ae b;clear hx h b
  go_wp2_with (go_at_call 71;refine(A0 P Q).mono ?_;rintro e u ⟨G,J,rfl,sA,S,fA,K,_⟩)
  have T:Bx u (w.1.size+1+1) 28 #[(),()]:=ao;have U:=T.al.cY (.slice G ts ts.length) (.slice J ys ys.length);have X:=cM (a7 w u) (p:=w.1.size+1+1) om (.slice G ts ts.length) (.slice J ys ys.length);have r:=sA.cU fA k3.al.lt (.slice G ts ts.length) (.slice J ys ys.length);have y:=S.cU K k3.al.lt (.slice G ts ts.length) (.slice J ys ys.length);obtain⟨r0,r1⟩:=di U;refine a8 (v:=.agg #[.slice G ts ts.length,.slice J ys ys.length]) (by simp[results,results66,go_sem,r0,r1]) rfl ?_;have j:=l.o;subst j;exact⟨_,_,_,_,rfl,r,y,⟨an _⟩,⟨an _⟩,fA.less ai,K.less ai,⟨X⟩⟩
 .have pm:0<m:=by rw[x.len];exact Kd.2 hx
  have l:Hx (V=(zs,xs.zipWith cA ys)):=ae (by rw[<-I.o,hJ,ag hx]);have Y:Hx (ep zs xs ts ys=true):=h.o.resolve_left hx;clear hx h;obtain⟨L,z⟩:=lC (xs.zipWith cA ys);have HS:=ae b;clear b
  go_upto_region 4 with(go_at_call 115;refine(RP Y).mono ?_;rintro e u ⟨E,c',F,d',rfl,sA,S,lA,lX,fA,K,_⟩;rw[z.o]at S lX;rw[z.o])
  refine AZ (λO _ _=>?_)
  go_wp2_with fail
  have T:Bx O (w.1.size+1+1) 28 #[(),()]:=ao;have U:=T.al.cY (.slice E zs c') (.slice F L d');have X:=cM (a7 w O) (p:=w.1.size+1+1) om (.slice E zs c') (.slice F L d');have M:w.1.size+1+1<u0.1.size:=k3.al.lt;have Z:Sl O E zs zs:=ao;have RQ:Sl O F L L:=ao;have r:=Z.cU fA M (.slice E zs c') (.slice F L d');have y:=RQ.cU K M (.slice E zs c') (.slice F L d');obtain⟨r0,r1⟩:=di U;refine a8 (v:=.agg #[.slice E zs c',.slice F L d']) (by simp[results,results66,go_sem,r0,r1]) rfl ?_;have j:=l.o;rw[z.o]at j;subst j;exact⟨_,_,_,_,rfl,r,y,lA,lX,fA.less ai,K.less ai,⟨X⟩⟩
end
variable{p u w1:World}{c1 g i j m1 r wd:Nat}{m' m2:jl}{v':cB}{tb:Bool->Tb}{A' K tZ:Option Addr}{h z:Int}{ss:List Sp}{ts:List Tn}{t:Tn}{L:List (List Int)}{vals:List TV}{i4:Array Value}
structure Jk where
 A:Option Addr
 n:Nat
 c:Nat
 B:Option Addr
 m:Nat
 d:Nat
 PA:Option Addr
 np:Nat
 cp:Nat
 XA:Option Addr
 nx:Nat
 cx:Nat
 XB:Option Addr
 mx:Nat
 dx:Nat
 CA:Option Addr
 nc:Nat
 cc:Nat
 cap:Nat
 l:Nat
 SA:Option Addr
 ns:Nat
 sc:Nat
structure me(J:Jk)(r:Nat)(cs:Array Value):Prop where
 c0:cs[0]?=some (.slice J.A J.n J.c)
 c1:cs[1]?=some (.slice J.B J.m J.d)
 c2:cs[2]?=some (.slice J.PA J.np J.cp)
 c3:cs[3]?=some (.slice J.XA J.nx J.cx)
 c4:cs[4]?=some (.slice J.XB J.mx J.dx)
 c7:cs[7]?=some (.int .i64 (J.l:Int))
 c8:cs[8]?=some (.pointer r)
 cS:∀s,cs[oS s+3]?=some (.slice J.SA J.ns J.sc)
structure vz(p:World)(J:Jk)(N:aU)(L:List (List Int))(P:List TV)(x:TV):Prop where
 RR:aQ p J.A J.n J.B J.m N
 ps:∃ps,Ts p J.PA J.np ps/\ps.map Tn.tv=P/\fo ps
 xs:Sl p J.XA J.nx x.1
 xx:Sl p J.XB J.mx x.2
 lx:J.nx<=J.cx
 RS:J.mx<=J.dx
 lp:J.np<=J.cp
 lB:J.m<=J.d
 sh:∃ss,du p J.SA J.ns ss/\aW ss=L
 fits:N.fits
 small:N.small
 FX:TV.ok x
structure oW(w:World)(B:Nat)(A:Option Addr)(c:Nat)(ts:List Tn):Prop where
 row:aI w B 28 2 A c ts.length (tc ts)
 el:∀t∈ts,TE w t
 a9:∀t∈ts,(∀b,AF t.A b->b<w.1.size/\¬AF A b)/\∀b,AF t.B b->b<w.1.size/\¬AF A b
section
variable{w:World}{B k n o:Nat}{m:jl}{v:cB}{T:Bool->Int->Option (List Int)}{s:Bool}{J:Jk}{N:aU}{P:List TV}{x:TV}{nd:dV}{cs:Array Value}
def me.same(h:me J r cs)(hs:jm cs i4):me J r i4:=
 ⟨(hs 0 ak ak ak ak).trans h.c0,(hs 1 ak ak ak ak).trans h.c1,(hs 2 ak ak ak ak).trans h.c2,
  (hs 3 ak ak ak ak).trans h.c3,(hs 4 ak ak ak ak).trans h.c4,(hs 7 ak ak ak ak).trans h.c7,
  (hs 8 ak ak ak ak).trans h.c8,λs=>by cases s<;>exact(hs _ ak ak ak ak).trans (h.cS _)⟩
theorem MS.cl(h:MS w B g r m v tb){x:Value}(b:m.cs[i]?=some x):Cl w g i x:=⟨((h.t false).al.cell i).trans b⟩
theorem MS.old(h:MS w B g r m v tb):Old g w:=⟨(h.t false).al.lt⟩
def mE(h:Sl w A n zs)(l:zs≠[]):∀b,AF A b->b<w.1.size:=λb hb=>by
 obtain⟨F,e,rfl⟩:=hb
 match zs,l,h with
 |y::t,_,h=>
  obtain⟨b,off,E,D,_⟩:=h.rd 0 y rfl;rw[e]at E;cases E;exact D
def oW.nil(w:ay)(B:Nat):oW w B none 0 []:=⟨⟨rfl,.inl ⟨rfl,rfl⟩⟩,λt ht=>(by cases ht),λt ht=>(by cases ht)⟩
def oW.at(h:oW w B A c ts)[l:aF w w']:oW w' B A c ts:=⟨h.row.at,λt ht=>(h.el t ht).below l.st,λt ht=>⟨λb hb=>⟨bu ((h.a9 t ht).1 b hb).1 l.st.size,((h.a9 t ht).1 b hb).2⟩,λb hb=>⟨bu ((h.a9 t ht).2 b hb).1 l.st.size,((h.a9 t ht).2 b hb).2⟩⟩⟩
theorem oW.Gj(h:oW w B A c ts):Ts w A ts.length ts:=⟨QJ.trd (B:=B) (c:=c) h.row h.el,rfl⟩
def TE.hD(h:TE w t)(l:cP A A' w w')(f1:∀b,AF t.A b->b<w.1.size/\¬AF A b)(f2:∀b,AF t.B b->b<w.1.size/\¬AF A b):TE w' t:=by
 have key:∀{C:cD} {zs:av},Rd w C zs->(∀b,AF C b->b<w.1.size/\¬AF A b)->Rd w' C zs:=λ{C zs} hr y j z D=>by
  obtain⟨b,off,e,hb,E⟩:=hr j z D;have F:=y b ⟨_,e,rfl⟩;refine⟨b,off,e,bu hb l.size,?_⟩;rw[<-E];exact dY (l.off b hb λG I K=>F.2 ⟨G,I,K⟩)
 exact⟨key h.1 f1,key h.2.1 f2,h.2.2⟩
def oW.push(h:oW w B A c ts)(ht:TE w t)(f1:∀b,AF t.A b->b<w.1.size/\¬AF A b)(f2:∀b,AF t.B b->b<w.1.size/\¬AF A b)(hr:aI w' B 28 2 A' c' (ts.length+1) (tc ts++tc [t]))(l:cP A A' w w'):oW w' B A' c' (ts++[t]):=by
 have key:∀{C:cD},(∀b,AF C b->b<w.1.size/\¬AF A b)->∀b,AF C b->b<w'.1.size/\¬AF A' b:=λ{C} E b hb=>by
  obtain⟨F,G⟩:=E b hb;refine⟨bu F l.size,λhx=>?_⟩;obtain⟨D,I,rfl⟩:=hx;rcases l.new D I with⟨K,e,hx⟩|hx
  .exact G ⟨K,e,hx.symm⟩
  .omega
 refine⟨?_,λy hy=>?_,λy hy=>?_⟩
 .rw[a1,nX];exact hr
 .rcases bJ.1 hy with hy|hy
  .exact(h.el y hy).hD l (h.a9 y hy).1 (h.a9 y hy).2
  .rw[cF.1 hy];exact ht.hD l f1 f2
 .rcases bJ.1 hy with hy|hy
  .exact⟨key (h.a9 y hy).1,key (h.a9 y hy).2⟩
  .rw[cF.1 hy];exact⟨key f1,key f2⟩
def TE.of{e:cD}{d1 n1:Nat}(a:Sl w K n1 zs)(b:Sl w e m1 xs)(l:xs<=d1)(bd:∀z∈xs,bo z):TE w ⟨K,c1,zs,e,d1,xs⟩:=⟨a.rd,b.rd,l,bd⟩
def RT(L:fV)(T:Bool->Int->Option (List Int))(vals:List TV)(n:Nat)(z:Int):Prop:=z=0\/(1<=z/\z<=n/\T false z=some (vals.getD z.toNat T0).2/\(vals.getD z.toNat T0).1=L.getD z.toNat []/\TV.ok (vals.getD z.toNat T0))
end
variable{J:Jk}
section
variable{w:World}{B k n o:Nat}{m:jl}{v:cB}{T:Bool->Int->Option (List Int)}{s:Bool}{N:aU}{P:List TV}{x:TV}{nd:dV}{cs:Array Value}
theorem aQ.at{B:cD}[l:aF w w'](h:aQ w A n B k N):aQ w' A n B k N:=
 ⟨⟨h.dd.rd.below l.st,h.dd.len⟩,by
  obtain⟨xs,y,D⟩:=h.Zu;exact⟨xs,λj x E=>by obtain⟨b,o,e,k⟩:=y j x E;exact⟨b,o,e,k.below l.st⟩,D⟩,h.len⟩
def N1[aF p w](hb:Hx (vz p J N L P x))(h:Hx (MS w p.1.size g r m v tb))(U:Hx (me J r m.cs))(V:Hx (N.nodes[k]?=some nd))(hF:Hx (dH N k=f)):
  () 156 #[.pointer g,.int .i64 ((k:Int)+1)] w (aD w (f:Int)):=by
 have CC:=@ct;have CP:=@bL;have a:aQ w J.A J.n J.B J.m N:=hb.o.RR.at;have R:=hb.o.fits;have hs:=hb.o.small;have S:Hx (J.m=N.nodes.length):=a.len;have hm:J.m<=1000:=by rw[S.o];exact hs.1
 have e:k<J.m:=by rw[S.o];exact(a5.1 V).1
 have D:=λW=>yP (B:=J.B) (m:=J.m) (d:=J.d) (gV e) hb.o.lB W;have l:∀j,dH N j<=100000000:=pK R hs;have E:=ae l;have X:IntKind.i64.wrap (k:Int)=(k:Int):=by rw[aV];omega
 have F:Hx (f=dH N k):=hF.o.symm;have c1:Cl w g 1 (.slice J.B J.m J.d):=h.o.cl U.o.c1;clear l R hs;generalize J.B=Bz at a c1 D
 go_in
 go_wp2_with fail
 go_loopw [5,18] (λs i wr=>∃(j:Nat),j<=k/\i=.int .i64 (j:Int)/\s=.int .i64 (dH N j:Int)/\aj wr w) (λ_ i _=>k-(intOf i).toNat)
 .exact⟨0,aT _,rfl,rfl,aK⟩
 ·
  obtain⟨j,hj,rfl,rfl,hp⟩:=hrel;by_cases G:j<k
  .obtain⟨b0,q0,o,A1,n1,Y,I,ni,ci,ins,P,np,cp,ps,rfl,ob,⟨v0,v1,v2,v3,v4,v5,v6,v7,v8,v9⟩,s1,si,sp,l1,li,lp,ik,K⟩:=a.node (Nat.lt_trans G e);have y:dH N (j+1)=dH N j+np:=by rw[lr K.o,sp.len,cj]
   have M:=E.o (j+1);obtain⟨O,b⟩:=lh (dH N j);have Q:Hx (dH N (j+1)=O+np):=ae (by rw[y,b]);have Z:IntKind.i64.wrap ((O:Int)+(np:Int))=(O:Int)+(np:Int):=by rw[aV];omega
   rw[b];clear y M b;have i1:(j:Int)<(k:Int):=by omega
   go_wp2_with fail
   go_roundw
   .exact⟨j+1,om,by go_num,by rw[Q.o];go_num,aK⟩
   .simp[intOf];omega
  .obtain rfl:j=k:=om
   go_wp2_with fail
   go_ret;exact⟨by rw[F.o];rfl,aK⟩
def pL[aF p w](sh:Hx (du p tZ n ss))(h:Hx (MS w p.1.size g r m v tb))(ce:Hx (cr v tb T))(b:Hx (T false (j:Int)=some xs))(hs:Hx (m.cs[12]?=some (.slice tZ n c)))(e:Hx ((aW ss)[j]?=some zs))(hr:Hx (aJ zs xs=true)):
  () 154 #[.pointer (some ⟨g,9,none⟩),j] w (he w zs xs 0):=yO (s:=false) sh h ce b hs e hr
def uQ[aF p w](sh:Hx (du p tZ n ss))(h:Hx (MS w p.1.size g r m v tb))(ce:Hx (cr v tb T))(b:Hx (T true (j:Int)=some xs))(hs:Hx (m.cs[16]?=some (.slice tZ n c)))(e:Hx ((aW ss)[j]?=some zs))(hr:Hx (aJ zs xs=true)):
  () 154 #[.pointer (some ⟨g,13,none⟩),j] w (he w zs xs 0):=yO (s:=true) sh h ce b hs e hr
def lu(h:aA zs=true):zs≠[]:=λe=>by rw[e]at h;exact absurd h ak
def RU(w:ay)(b:List TV)(e:Ending)(w':ay):Prop:=∃A c ts,e=.returned (.tuple #[.slice A b c,au])/\Ts w' A b.length ts/\Le b.length c/\Hx (fo ts)/\Hx (ts.map Tn.tv=b)/\aj w' w
def yQ[pw:aF p w](hb:Hx (vz p J N L P x))(h:Hx (MS w p.1.size g r m v tb))(hc:Hx (me J r m.cs))(ce:Hx (cr v tb T))(hk:Hx (N.nodes[k]?=some nd))(h0:Hx (vals.getD 0 T0=x))(NA:Hx (L=N.nodes.length+1))(tu:Hx (∀z∈nd.ins,RT L T vals N.nodes.length z))
  {pv:List TV} (U:Hx (dQ vals nd.ins=pv)):
  () 148 #[.pointer g,.int .i64 ((k:Int)+1)] w (RU w pv):=by
 have CC:=@ct;have CP:=@bL;have a:aQ w J.A J.n J.B J.m N:=hb.o.RR.at;have HM:Hx (J.m=N.nodes.length):=a.len;have RV:k<J.m:=by rw[HM.o];exact(a5.1 hk).1
 have hm:J.m<=1000:=by rw[HM.o];exact hb.o.small.1
 have hwj:IntKind.i64.wrap (k:Int)=(k:Int):=by rw[aV];omega
 have c1:Cl w g 1 (.slice J.B J.m J.d):=h.o.cl hc.o.c1;have c3:Cl w g 3 (.slice J.XA J.nx J.cx):=h.o.cl hc.o.c3;have c4:Cl w g 4 (.slice J.XB J.mx J.dx):=h.o.cl hc.o.c4;obtain⟨ss,sh,yR⟩:=hb.o.sh;have SH:=ae sh;have N2:=ae yR;have hLX:x.2.length<=J.dx:=by have:=hb.o.RS;rw[hb.o.xx.len]at this;exact this
 have TEX:Hx (TE w ⟨J.XA,J.cx,x.1,J.XB,J.dx,x.2⟩):=ae (TE.below (w:=p) (TE.of hb.o.xs hb.o.xx hLX hb.o.FX.2) (pw.st));have HXR:Hx (aJ x.1 x.2=true/\x.1.length<=J.cx):=ae ⟨hb.o.FX.1,by have:=hb.o.lx;rw[hb.o.xs.len]at this;exact this⟩;have O:Hx ((∀b,AF J.XA b->b<p.1.size)/\∀b,AF J.XB b->b<p.1.size):=ae ⟨mE hb.o.xs (lu hb.o.FX.right),mE hb.o.xx hb.o.FX.ne⟩;generalize J.B=Bz at a c1;obtain⟨b0,q0,o,A1,n1,RW,I,ni,ci,ins,P',np,cp,ps,rfl,ob,⟨v0,v1,v2,v3,v4,v5,v6,v7,v8,v9⟩,s1,si,sp,l1,li,lp,ik,ro⟩:=a.node RV;have N4:Hx (nd=⟨o,ins,aW ps⟩):=cn (hk.o.symm.trans ro.o);obtain rfl:nd=⟨o,ins,aW ps⟩:=N4.o;have Aq:Hx (∀z∈ins,RT L T vals N.nodes.length z):=tu;have vp:ni<=100000:=by have:=(hb.o.fits.2.2 _ (aC hk)).1;rw[si.len];exact this
 have Q:Hx (pv=ni):=ae (by rw[<-U.o];show(ins.map _).length=ni;rw[br,si.len]);have HPA:Hx (∀i,i<ni->∀z,ins[i]?=some z->pv[i]?=some (vals.getD z.toNat T0)):=(λi _ z hz=>by
  rw[<-U.o];show(ins.map _)[i]?=_;rw[bj,hz];rfl)
 clear ro N4 U tu v0 v1 v2 v3 v4 v5 v6 v7 v9 s1 sp l1 lp ik hLX sh yR
 go_in
 go_wp2_with fail
 go_loopw [6,23] (λs6 s23 wr=>∃(i:Nat) (A':cD) (c':Nat) (M:List Tn),i<=ni/\s23=.int .i64 (i:Int)/\s6=.slice A' i c'/\Hx (oW wr w.1.size A' c' M)/\Hx (M.length=i)/\Hx (M.map Tn.tv=pv.take i)/\Hx (fo M)/\aj wr w) (λ_ i _=>ni-(intOf i).toNat)
 .exact⟨0,none,0,[],aT _,rfl,rfl,ae (oW.nil _ _),ae rfl,ae rfl,ae (λt ht=>(by cases ht)),aK⟩
 ·
  obtain⟨i,A',c',M,hi,rfl,rfl,E,D,V,X,hp⟩:=hrel;by_cases bK:i<ni
  .obtain⟨bi,oi,z,rfl,obi,cz,hz⟩:=si.get bK;have HZ:=hz;have Y:=HPA.o i bK z hz.o;have HPI:=ae Y;have abq:=Aq.o z (aC hz.o);have pz:Hx (pv.take (i+1)=pv.take i++[vals.getD z.toNat T0]):=take_at Y;have y:aI wr w.1.size 28 2 A' c' i (tc M):=by have:=E.o.row;rw[D.o]at this;exact this
   clear Y hz;rcases abq with iQ|⟨lD,tr,Z,VS,R⟩
   .subst iQ;have HVX:Hx (vals.getD (0:Int).toNat T0=x):=h0
    go_wp2_with (at_builtin;refine jz rfl _ _ _ rfl 28 underlying23 2 48 (.agg #[(),()]) aq rfl ak ak w.1.size A' c' i (tc M) rfl y [.slice J.XA J.nx J.cx,.slice J.XB J.mx J.dx] rfl (by intro u hu;simp at hu;rcases hu with rfl|rfl<;>rfl) rfl om ai ?_;intro A3 VT w3 S F _)
    go_roundw
    ·
     have G:∀b,b<p.1.size->¬AF A' b:=λb hb hx=>by
      have h9:=(y.af hx).1;have:=pw.st.size;omega
     have L4:p.1.size<=wr.1.size:=aO pw.st.size (ai (w:=w) (w':=wr));have H0:=E.o.push (t:=⟨J.XA,J.cx,x.1,J.XB,J.dx,x.2⟩) (TEX.o.below (a7 w wr)) (λb l=>⟨bu (O.o.1 b l) L4,G b (O.o.1 b l)⟩) (λb l=>⟨bu (O.o.2 b l) L4,G b (O.o.2 b l)⟩) (by
      rw[D.o];have e1:=hb.o.xs.len;have e2:=hb.o.xx.len;rw[e1,e2]at S;exact S) F
     refine⟨i+1,A3,VT,_,om,by go_num,rfl,ae H0,ae (by rw[a1,D.o];rfl),ae ?_,ae λt ht=>?_,⟨(a7 w wr).trans (F.below (λad e9=>(y.af ⟨ad,e9,rfl⟩).1) ai)⟩⟩
     .rw[pz.o,cJ,V.o,HVX.o];rfl
     .rcases bJ.1 ht with ht|ht
      .exact X.o t ht
      .rw[cF.1 ht];exact HXR
    .simp[intOf];omega
   .obtain⟨j,rfl⟩:∃j:Nat,z=(j:Int):=⟨z.toNat,om⟩;have hj0:((j:Int)==0)=false:=by simp;omega
    obtain⟨tv,htv⟩:=lh (vals.getD (j:Int).toNat T0);rw[htv]at Z VS R;have HTV:=ae htv;have Rx:Hx (T false (j:Int)=some tv.2):=Z;have HJ:Hx ((aW ss)[j]?=some tv.1):=ae (by
     have h9:j<L:=by rw[NA.o];omega
     rw[N2.o,bc h9,VS,bI,aX,bc h9];rfl)
    have HR:Hx (aJ tv.1 tv.2=true):=R.1;have pg:=ae R;have HMS:Hx (MS wr p.1.size g r m v tb):=h.o.at;have RX:Hx (m.cs[12]?=some (.slice J.SA J.ns J.sc)):=hc.o.cS false;clear lD tr Z VS R htv
    go_upto_region 8 with(go_at_call 154;refine(pL (p:=p) SH HMS ce Rx RX HJ HR).mono ?_;rintro e u ⟨A4,c4',B4,d4,rfl,sA,sX,lA,lX,fA,fX,pu⟩)
    refine aw (λu1 su k1=>?_);have cb0:Cl u1 u.1.size 0 (.slice A4 tv.1.length c4'):=⟨k1.al.cell 0⟩;have cb1:Cl u1 u.1.size 1 (.slice B4 tv.2.length d4):=⟨k1.al.cell 1⟩;have K:aI u1 w.1.size 28 2 A' c' i (tc M):=y.at
    go_wp2_with (at_builtin;refine jz rfl _ _ _ rfl 28 underlying23 2 48 (.agg #[(),()]) aq rfl ak ak w.1.size A' c' i (tc M) rfl K [.slice A4 tv.1.length c4',.slice B4 tv.2.length d4] rfl (by intro u hu;simp at hu;rcases hu with rfl|rfl<;>rfl) rfl om ai ?_;intro A3 VT w3 S F _)
    go_roundw
    ·
     have G:∀{C:cD},bV wr.1.size C->∀b,AF C b->¬AF A' b:=λ{C} hf b hx hy=>by
      obtain⟨ad,e9,rfl⟩:=hx;have h8:=hf.o ad e9;have h9:=(y.af hy).2.1;omega
     have sA1:Sl u1 A4 tv.1.length tv.1:=ao;have RQ:Sl u1 B4 tv.2.length tv.2:=ao;have H0:=(E.o.at (w':=u1)).push (t:=⟨A4,c4',tv.1,B4,d4,tv.2⟩) (TE.of sA1 RQ lX.le pg.o.2) (λb l=>⟨mE sA1 (lu pg.o.right) b l,G fA b l⟩) (λb l=>⟨mE RQ pg.o.ne b l,G fX b l⟩) (by
      rw[D.o];exact S) F
     refine⟨i+1,A3,VT,_,om,by go_num,rfl,ae H0,ae (by rw[a1,D.o];rfl),ae ?_,ae λt ht=>?_,⟨(a7 w u1).trans (F.below (λad e9=>(K.af ⟨ad,e9,rfl⟩).1) ai)⟩⟩
     .rw[pz.o,cJ,V.o,HTV.o];rfl
     .rcases bJ.1 ht with ht|ht
      .exact X.o t ht
      .rw[cF.1 ht];exact⟨HR,lA.le⟩
    .simp[intOf];omega
  .obtain rfl:i=ni:=om
   go_wp2_with fail
   go_ret2;exact⟨A',c',M,by rw[Q.o];rfl,by rw[Q.o,<-D.o];exact E.o.Gj,by rw[Q.o,<-D.o];exact⟨E.o.row.le⟩,X,ae (by rw[V.o,bR (dE Q.o)]),hp⟩
end
variable{PA:Option Addr}{cp l np:Nat}
def aac(w:ay)(b:List TV)(e:Ending)(w':ay):Prop:=∃A c j,e=.returned (.slice A b c)/\Ts w' A b.length j/\Le b.length c/\Hx (fo j)/\Hx (j.map Tn.tv=b)/\aj w' w
section
variable{w:World}{D:Option Addr}{n m' k:Nat}{N:aU}{v:dV}{ps:List Tn}{P:List TV}
def DO(A:cD){l c k m:Nat}(F:k<=m)(hm:m<=l)(z:l<=c):
  ∃u,(∀W,(Instr.slice 23 (A,l,c) (some (.int .i64 (k:Int))) (some (.int .i64 (m:Int))) none).run prog W=.ok (.slice u (m-k) (c-k)) W)/\∀W ts,Ts W A l ts->Ts W u (m-k) ((ts.drop k).take (m-k)):=by
 have r:∀W,(sizeOf (prog.elem 23)).run prog W=.ok 2 W:=λW=>by
  obtain⟨G,y,E⟩:=bD.1 (show(prog.info? (prog.elem 23)).map (·.size)=some 2 from by kernel_rfl);simp[sizeOf,typeInfo,y,E]
 refine⟨if c=k then A else A.map (·.add (k*2)),λW=>?_,λW ts h=>⟨λj t e=>?_,?_⟩⟩
 .rw[lR W 23 A l c aq .i64 .i64 (k:Int) (m:Int) om om om,r];have y:(m:Int).toNat-(k:Int).toNat=m-k:=by omega
  cases A<;>simp[Result.andThen,sliced]
 .rw[eY]at e
  split at e
  .rw[ff]at e;obtain⟨b,o,rfl,q⟩:=h.rd _ t e;rw[ag om];exact⟨b,o+k*2,by simp[bQ],by rw[show o+k*2+j*2=o+(k+j)*2 from om];exact q⟩
  .cases e
 .have:=h.len;simp;omega
def Gk(k:Nat)(j:k<=1000000)(W:ay):(Instr.makeSlice 23 au (k:Int)).run prog W=.ok (W,0,k) (W.alloc (.cells (madeCells #[(),()] (k*2)) 28)):=by
 obtain⟨i,hi,b⟩:=bD.1 (show(prog.info? 28).map (λi=>(i.zero,i.size,i.bytes))=some (some (.agg #[(),()]),2,48)from by kernel_rfl);simp only[dL]at b;obtain⟨e,hs,hb⟩:=b;have:=lP (P:=prog) W 23 28 i _ underlying23 hi e .i64 .i64 0 k (dM _) om (by rw[hs];simp;omega) (by rw[hb];simp;omega);rw[hs]at this;simpa[Value.cells]using this om
def oW.make(w:ay){k:Nat}(b:k<=1000000):oW (w.alloc (.cells (madeCells #[(),()] (k*2)) 28)) w.1.size w k []:=by
 refine⟨⟨rfl,.inr ⟨w.1.size,k,_,rfl,an _,hx w _,aT _,by unfold maxLen;omega,?_,rfl⟩⟩,λt ht=>(by cases ht),λt ht=>(by cases ht)⟩;rw[xN];exact AY _ (aT _)
def DP[aQ w A n B m N][tp:Ts w PA np ps](MM:m<=d)(hpc:np<=cp)(N3:v.P.length<=1000000)(hO:Hx (fo ps))(hf:Hx N.fits)(hs:Hx N.small)(hid:id=(k:Int)+1)(hk:Hx (N.nodes[k]?=some v))(hle:Hx (dH N k+v.P.length<=np)){pv:List TV}(Ar:Hx (((ps.map Tn.tv).drop (dH N k)).take v.P.length=pv)):
  () 149 #[.agg #[(A,n,c),(B,m,d)],(PA,np,cp),id] w (aac w pv):=by
 obtain⟨CB,CP,FB⟩:=ha;subst hid;obtain⟨f,hF⟩:=lh (dH N k);obtain⟨t,hT⟩:=lh (f+v.P.length);have HF:=ae hF;have HT:=ae hT;have htn:t<=np:=by rw[<-hT,<-hF];exact hle
 have hft:f<=t:=om;obtain⟨q,hq⟩:=lh (t-f);have S:q<=1000000:=om;obtain⟨A2,qZ,T⟩:=DO PA hft htn hpc;have tq:Ts w A2 q ((ps.drop f).take q):=by rw[<-hq];exact T w ps tp
 rw[hq]at qZ;have M:Hx (((ps.drop f).take q).map Tn.tv=pv):=ae (by
  rw[<-Ar.o,hF,show v.P.length=q from om,jw,nz])
 obtain⟨qs,O⟩:=lh ((ps.drop f).take q);rw[O]at tq M;have yS:Hx (fo qs):=λt ht=>hO.o t (by rw[<-O]at ht;exact dC (cG ht));have hwq:IntKind.i64.wrap ((t:Int)-(f:Int))=(q:Int):=by have:=pK hf hs k;rw[hF]at this;rw[aV];omega
 have pt:=Gk q S;have d1:decide (np<t)=false:=by simp;omega
 have F:Hx (pv.length=q):=ae (by rw[<-M.o,br,<-tq.len]);clear hF hT hq O T
 go_in
 go_upto_region 2 with(go_at_call 63;(with_reducible refine dO (λu0 _ _=>?_));(with_reducible refine(RO MM hf hs rfl hk HF HT).mono ?_);rintro e u1 ⟨rfl,_⟩)
 go_upto_region 5 with fail
 obtain⟨W,hW⟩:=lg (u1.alloc (.cells (madeCells #[(),()] (q*2)) 28));have U:Hx (oW W w.1.size u1 q []):=ae (by
  have K:=oW.make u1 S;rw[<-hW]at K;exact⟨aI.less K.row ai,K.el,K.a9⟩)
 have pW:aj W w:=by rw[hW];exact aK
 rw[<-hW];clear hW pt
 go_wp2_with fail
 go_loopw [9,31] (λs9 s31 wr=>∃(i:Nat) (I:cD) (c':Nat) (E:List Tn),i<=q/\s31=.int .i64 (i:Int)/\s9=.slice I i c'/\Hx (oW wr w.1.size I c' E)/\Hx (E.length=i)/\Hx (E.map Tn.tv=pv.take i)/\Hx (fo E)/\aj wr w) (λ_ i _=>q-(intOf i).toNat)
 .exact⟨0,_,q,[],aT _,rfl,rfl,U,ae rfl,ae rfl,ae (λt ht=>(by cases ht)),pW⟩
 ·
  obtain⟨i,I,c',E,hi,rfl,rfl,J,j,V,X,hp⟩:=hrel;by_cases Y:i<q
  .obtain⟨b2,o2,A3,m3,c3,z3,B3,k3,d3,L,rfl,jf,e0,e1,s3,y3,l3,l3',i3,h4,h6,Z,yx⟩:=tq.xM yS Y;have hzi:pv[i]?=some (z3,L):=by
    have K:i<(qs.map Tn.tv).length:=by rw[br,<-tq.len];exact Y
    have h8:=yx.o;rw[aX,bc K]at h8;rw[<-M.o,bc K];exact cv some h8
   have pz:Hx (pv.take (i+1)=pv.take i++[(z3,L)]):=take_at hzi;have ET:aI wr w.1.size 28 2 I c' i (tc E):=by have:=J.o.row;rw[j.o]at this;exact this
   clear hzi yx
   go_upto_region 8 with fail
   refine aw (λu2 q8 k2=>?_);have r:aI u2 w.1.size 28 2 I c' i (tc E):=ET.at
   go_wp2_with (first|(go_at_call 71;refine(A0 om om).mono ?_;rintro e u ⟨G,G',rfl,sA,sX,fA,fX,pu⟩;have y:aI u w.1.size 28 2 I c' i (tc E):=r.at)|(at_builtin;refine jz rfl _ _ _ rfl 28 underlying23 2 48 (.agg #[(),()]) aq rfl ak ak w.1.size I c' i (tc E) rfl y [.slice G z3 z3.length,.slice G' L L.length] rfl (by intro u hu;simp at hu;rcases hu with rfl|rfl<;>rfl) rfl om ai ?_;intro A4 c4 w4 ho4 Af _))
   go_roundw
   ·
    have lA:∀{C:cD},bV u2.1.size C->∀b,AF C b->¬AF I b:=λ{C} hf b hx hy=>by
     obtain⟨ad,e9,rfl⟩:=hx;have h8:=hf.o ad e9;have K:=(r.af hy).2.1;omega
    have Q:aA z3=true/\(L.length:Int)=aN z3:=(bf _ _).1 Z.o;have hx0:L≠[]:=λe=>by
     obtain⟨n9,g1,g2,g3⟩:=cV Q.1;have:=Q.2;rw[e]at this;simp at this;omega
    have H0:=(J.o.at (w':=u)).push (t:=⟨some ⟨G,0,none⟩,z3.length,z3,some ⟨G',0,none⟩,L.length,L⟩) (TE.of sA sX (an _) i3.bd) (λb z=>⟨mE sA (lu Q.1) b z,lA fA b z⟩) (λb z=>⟨mE sX hx0 b z,lA fX b z⟩) (by
     rw[j.o];exact ho4) Af
    refine⟨i+1,A4,c4,_,om,by go_num,rfl,ae H0,ae (by rw[a1,j.o];rfl),ae ?_,ae λt ht=>?_,⟨(a7 w u).trans (Af.below (λad e9=>(y.af ⟨ad,e9,rfl⟩).1) ai)⟩⟩
    .rw[pz.o,cJ,V.o];rfl
    .rcases bJ.1 ht with ht|ht
     .exact X.o t ht
     .rw[cF.1 ht];exact⟨Z.o,an _⟩
   .simp[intOf];omega
  .obtain rfl:i=q:=om
   go_wp2_with fail
   go_ret;exact⟨I,c',E,by rw[F.o];rfl,by rw[F.o,<-j.o];exact J.o.Gj,by rw[F.o,<-j.o];exact⟨J.o.row.le⟩,X,ae (by rw[V.o,bR (dE F.o)]),hp⟩
end
variable{ni:Nat}

variable{XA XB:Option Addr}{cx dx mx:Nat}
section
variable{w:World}{n k nx:Nat}{N:aU}{ps:List Tn}{x:TV}
theorem jV.Nj(h:jV w k A c ss):du w A ss.length ss:=
 ⟨λj x b=>by
  obtain⟨g,e,l⟩:=h.row.cell (j:=j) (v:=.slice x.A x.m x.c) (by simp[fP,b]);obtain⟨r,u,y,_⟩:=h.el x (aC b);exact⟨g,0,e,h.row.lt _ e,by rw[bX];exact l,r,u,y⟩,rfl⟩
def Gl[a:aQ w A n B m N][E:Ts w PA np ps][Q:Sl w XA nx x.1][Sl w XB mx x.2](J:Hx N.fits)(hs:Hx N.small)(R:Hx (a6 N=0))(hP:Hx ((ps.map Tn.tv).map (·.1)=bS N))(hO:Hx (fo ps))(K:Hx (x.1=N.dd))(hr:aJ x.1 x.2=true)(S:np<=100000000):
  () 24 #[.agg #[(A,n,c),(B,m,d)],(PA,np,cp),.agg #[(XA,nx,cx),(XB,mx,dx)]] w (aD w au):=by
 obtain⟨CB,CP⟩:=h5;have l:Hx ((bS N).length=np):=ae (by rw[<-hP.o,br,br];exact E.len.symm);have T:x.1.length<=4:=cw ((bf _ _).1 hr).1;have r:nx<=1000000:=by rw[Q.len];omega
 have U:n<=1000000:=by rw[a.dd.len,<-K.o];omega
 have sI:Sl w A n x.1:=by rw[K.o];exact a.dd
 have V:=ae hr
 go_in
 go_upto_region 1 with fail
 refine cT (λu0 p0 k1 k2=>?_)
 go_upto_region 7 with(first|(go_at_call 40;refine mv (f0 J hs R) λu1 _=>?_)|(go_at_call 68;refine(Bd J hs).mono ?_;rintro e L ⟨X,c2,ss,rfl,hS,y,_⟩;rw[l.o]))
 have F:Hx (ss=np):=ae (by rw[<-l.o,<-y.o,cj]);have sh:du L X np ss:=by have z:=hS.Nj;rw[F.o]at z;exact z
 have HS:=ae hS;clear hS
 go_wp2_with fail
 go_loopw [25] (λb wr=>∃i:Nat,i<=np/\b=.int .i64 (i:Int)/\aj wr L) (λb _=>np-(intOf b).toNat)
 .exact⟨0,aT _,rfl,aK⟩
 ·
  obtain⟨i,hi,rfl,hp⟩:=hrel;by_cases j:i<np
  .obtain⟨b3,o3,A3,Y,c3,z3,rfl,Z,v3,s3,l3,M⟩:=sh.get j;obtain⟨b2,o2,A4,n4,c4,z4,B4,m4,d4,x4,rfl,jf,e0,e1,s4,y4,l4,l4',i4,h4,h6,C,D⟩:=E.xM hO j;have G:z4=z3:=by
    have z:i<(ps.map Tn.tv).length:=by rw[br,<-E.len];exact j
    have O:=D.o;rw[aX,bc z]at O;have P:((ps.map Tn.tv).map (·.1))[i]?=some z4:=by rw[bj,bc z];exact cv (λq:TV=>some q.1) O
    rw[hP.o,<-y.o,M.o]at P;exact(cn P).symm
   subst G;have hr5:aJ z4 x4=true:=C.o;have i1:(i:Int)<(np:Int):=by omega
   have I:Y<=1000000:=by rw[s3.len,<-s4.len];omega
   clear D C M
   go_wp2_with (first|(go_at_call 69;refine mv (d9 om) λu _=>?_)|(go_at_call 70;refine mv (nP om I) λu _=>?_))
   go_roundw
   .exact⟨i+1,om,by go_num,aK⟩
   .simp[intOf];omega
  .obtain rfl:i=np:=om
   go_wp2_with (first|(go_at_call 69;refine mv (d9 r) λu _=>?_)|(go_at_call 70;refine mv (nP r U) λu _=>?_))
   go_ret;exact bq
end
def RY(N:aU)(b:List TV)(x:TV):Prop:=b.map (·.1)=bS N/\(∀t∈b,aJ t.1 t.2=true)/\aJ x.1 x.2=true/\x.1=N.dd
def pM(v:dV):Nat:=3+v.ins.length+v.o.S.length+(v.P.map λs=>1+s.length).sum
def yT(N:aU):Nat:=N.dd.length+(N.nodes.map pM).sum
def yU(N:aU):Bool:=decide (yT N<=300)&&decide (N.nodes.length<=12)
def mf(t:Tn):Nat:=1+t.zs.length+t.xs.length
def mF(b:List Tn):Nat:=(b.map mf).sum
section
variable{w:World}{n k nx:Nat}{N:aU}{ps:List Tn}{x:TV}
def Gm[a:aQ w A n B m N][Q:Ts w PA np ps][Sl w XA nx x.1][Sl w XB mx x.2](J:Hx N.fits)(hs:Hx N.small)(HE:Hx (a6 N=0))(hO:Hx (np=(bS N).length->∀t∈ps,t.zs.length<=1000000))(D:np=(bS N).length->nx<=1000000)(S:Hx (¬RY N (ps.map Tn.tv) x)):
  () 24 #[.agg #[(A,n,c),(B,m,d)],(PA,np,cp),.agg #[(XA,nx,cx),(XB,mx,dx)]] w (aD w (20:Int)):=by
 obtain⟨CB,CP⟩:=h5;have hn:n<=1000000:=by rw[a.dd.len];have:=J.o.2.1;omega
 have sI:Sl w A n N.dd:=a.dd;obtain⟨y,T⟩:=lh ((bS N).length);have U:=ae T;rw[T]at hO D;have K:=ae D;clear T D
 go_in
 go_upto_region 1 with fail
 refine cT (λu0 p0 k1 k2=>?_)
 go_upto_region 5 with(first|(go_at_call 40;refine mv (f0 J hs HE) λu1 _=>?_)|(go_at_call 68;refine(Bd J hs).mono ?_;rintro e u2 ⟨A2,c2,ss,rfl,hS,E,_⟩;rw[U.o]))
 have L:Hx (ss.length=y):=ae (by rw[<-U.o,<-E.o,cj]);have sh:du u2 A2 y ss:=by have b:=hS.Nj;rw[L.o]at b;exact b
 clear hS;by_cases V:np=y;rotate_left
 .have b0:decide (np=y)=false:=by simp[V]
  have b1:((np:Int) !=(y:Int))=true:=by simp;omega
  clear V
  go_wp2_with fail
  go_ret;exact bq
 subst V;have M:=hO.o rfl;have l:=K.o rfl;have X:=ae M;have hy6:np<=1000000000000:=by
  have b:=rp J N.nodes.length;rw[dJ]at b;have h8:(bS N).length=np:=U.o;have h7:=J.o.1;have h6:(bS N).length<=N.nodes*100000:=b;omega
 clear hO M K
 go_wp2_with fail
 go_loopw [25] (λF wr=>∃i:Nat,i<=np/\F=.int .i64 (i:Int)/\Hx (∀j,j<i->∀t,ps[j]?=some t->aJ t.zs t.xs=true/\(aW ss)[j]?=some t.zs)/\aj wr u2) (λF _=>np-(intOf F).toNat)
 .exact⟨0,aT _,rfl,ae λj C=>absurd C (ju _),aK⟩
 ·
  obtain⟨i,hi,rfl,Y,hp⟩:=hrel;by_cases O:i<np
  .obtain⟨b3,o3,A3,m3,c3,z3,rfl,Zn,v3,s3,l3,R⟩:=sh.get O;obtain⟨b2,o2,A4,c4,z4,B4,d4,x4,rfl,jf,e0,e1,s4,y4,l4,i4,r⟩:=Q.get (k:=i) O;have i1:(i:Int)<(np:Int):=by omega
   have VS:z4.length<=1000000:=X.o _ (aC r.o);have P:m3<=1000000:=by
    rw[s3.len];have b:z3∈bS N:=by rw[<-E.o];exact aC R.o
    obtain⟨v,hv,hz⟩:=nf.1 b;have:=(J.o.2.2 v hv).2.2.2 z3 hz;omega
   obtain⟨Z,G⟩:=lh (aJ z4 x4);cases Z with
   |false=>
    clear r
    go_wp2_with (go_at_call 69;refine mv (d9 om) λu _=>?_)
    go_ret;exact bq
   |true=>
    by_cases I:z4=z3
    .subst I;have DQ:Hx (∀j,j<i+1->∀t,ps[j]?=some t->aJ t.zs t.xs=true/\(aW ss)[j]?=some t.zs):=λj C t ht=>by
      by_cases hji:j<i
      .exact Y.o j hji t ht
      .obtain rfl:j=i:=om;rw[r.o]at ht;obtain rfl:=cn ht;exact⟨G,R.o⟩
     clear r R
     go_wp2_with (first|(go_at_call 69;refine mv (d9 om) λu _=>?_)|(go_at_call 70;refine mv (nP om P) λu _=>?_))
     go_roundw
     .exact⟨i+1,om,by go_num,DQ,aK⟩
     .simp[intOf];omega
    .have b0:decide (z4=z3)=false:=by simp[I]
     clear r R I
     go_wp2_with (first|(go_at_call 69;refine mv (d9 om) λu _=>?_)|(go_at_call 70;refine mv (i7 om P) λu _=>?_))
     go_ret;exact bq
  .obtain rfl:i=np:=om;have z:¬(aJ x.1 x.2=true/\x.1=N.dd):=λ⟨h1,h2⟩=>S.o ⟨by
    rw[<-E.o];apply ek;intro j;rw[bj,bj];cases C:ps[j]? with
    |none=>
     have b:=B8.1 C;rw[B8.2 (by rw[cj,L.o,Q.len];exact b)];rfl
    |some t=>
     have b:=(a5.1 C).1;rw[<-Q.len]at b;exact(Y.o j b t C).2.symm,λt ht=>by
    obtain⟨u,hu,rfl⟩:=bC.1 ht;obtain⟨j,C⟩:=eA hu;have b:=(a5.1 C).1;rw[<-Q.len]at b;exact(Y.o j b u C).1,h1,h2⟩
   obtain⟨Z,G⟩:=lh (aJ x.1 x.2);cases Z with
   |false=>
    clear z
    go_wp2_with (go_at_call 69;refine mv (d9 l) λu _=>?_)
    go_ret;exact bq
   |true=>
    have b0:decide (x.1=N.dd)=false:=by
     have:¬x.1=N.dd:=λh=>z ⟨G,h⟩;simp[this]
    clear z
    go_wp2_with (first|(go_at_call 69;refine mv (d9 l) λu _=>?_)|(go_at_call 70;refine mv (i7 l hn) λu _=>?_))
    go_ret;exact bq
def RZ{α:Type}(f:α->Nat)(l:List α)(k:Nat):((l.take k).map f).sum<=(l.map f).sum:=by
 conv=>rhs;rw[<-de k l,cJ,pY]
 exact Nat.le_add_right _ _
def rz{α:Type}(f:α->Nat){l:List α}{k:Nat}{x:α}(h:l[k]?=some x):((l.take (k+1)).map f).sum=((l.take k).map f).sum+f x:=by
 rw[take_at h,cJ,pY];simp
def Gn(ps:List Tn):Int:=wrap64 (mF ps:Nat)
def eS[K:Ts w PA np ps](hb:Hx (∀t∈ps,t.zs.length<=17592186043904/\t.xs.length<=17592186043904))(O:np<=140737488351232)(P:Hx (Gn ps=z)):() 22 #[(PA,np,cp)] w (aD w z):=by
 obtain⟨CB,CP,FB⟩:=ha;have Q:(np:Int)<=9223372036854775806:=by omega
 obtain⟨f,r⟩:∃f:Nat->Int,∀n:Nat,f n=wrap64 (n:Int):=⟨_,λ_=>rfl⟩;have R:=ae r;have D:Hx (0=f 0):=ae (by rw[r];unfold wrap64;omega);have E:Hx (∀a b:Nat,wrap64 (f a+(b:Int))=f (a+b)):=λa b=>by rw[r,r];unfold wrap64;omega
 clear O r
 go_in
 go_wp2_with fail
 go_loopw [3,8] (λT F wr=>∃(i:Nat) (S:Int),i<=np/\F=.int .i64 (i:Int)/\T=.int .i64 S/\Hx (S=f ((ps.take i).map mf).sum)/\aj wr w) (λ_ F _=>np-(intOf F).toNat)
 .exact⟨0,0,aT _,rfl,rfl,D,aK⟩
 ·
  obtain⟨i,S,hi,rfl,rfl,L,hp⟩:=hrel;by_cases G:i<np
  .obtain⟨b2,o2,U,c4,z4,V,X,M,rfl,Y,e0,e1,s4,y4,l4,i4,l⟩:=K.get (k:=i) G;have i1:(i:Int)<(np:Int):=by omega
   have u:=hb.o _ (aC l.o);have I:=ae (rz mf l.o);obtain⟨a4,e⟩:=lh z4.length;obtain⟨C,j⟩:=lh M.length;have J:Hx (mf ⟨U,c4,z4,V,X,M⟩=1+a4+C):=ae (by unfold mf;rw[<-e,<-j]);have y:a4<=17592186043904/\C<=17592186043904:=by rw[<-e,<-j];exact u
   rw[e]at e0;rw[j]at e1;have w1:IntKind.i64.wrap (1+(a4:Int))=1+(a4:Int):=by rw[aV];omega
   have w2:IntKind.i64.wrap (1+(a4:Int)+(C:Int))=1+(a4:Int)+(C:Int):=by rw[aV];omega
   clear u y l e j s4 y4
   go_upto_region 5 with fail
   refine aw (λu4 N5 k4=>?_)
   go_wp2_with fail
   go_roundw
   ·
    refine⟨i+1,_,om,by go_num,rfl,ae ?_,aK⟩;rw[I.o,J.o,L.o,<-E.o];exact cv wrap64 om
   .simp[intOf];omega
  .obtain rfl:i=np:=om;have hS:S=z:=by rw[L.o,bR (by rw[<-K.len];exact an _),R.o,<-P.o];rfl
   subst hS
   go_wp2_with fail
   go_ret;exact bq
def R0(b:N.fits){v:dV}(hv:v∈N.nodes):pM v<=20000000000:=by
 obtain⟨E,F,e,j⟩:=b.2.2 v hv;have r:∀l:List (List Int),(∀z∈l,z.length<=100000)->(l.map λs=>1+s.length).sum<=l.length*100001:=λl=>by
  induction l with
  |nil=>intro _;simp
  |cons a t u=>
   intro h;have y:=h a cm;have C:=u λz D=>h z (dl _ D);rw[dX,iz,dm];omega
 have y:=r v.P j;have C:v.P.length*100001<=100000*100001:=hZ _ e;unfold pM;omega
def yV[a:aQ w A n B m N](hf:Hx N.fits)(hs:Hx N.small):() 23 #[.agg #[(A,n,c),(B,m,d)]] w (aD w (.bool (yU N))):=by
 obtain⟨CB,CP,FB⟩:=ha;have HM:Hx (m=N.nodes):=a.len;have hm:m<=1000:=by rw[HM.o];exact hs.o.1
 obtain⟨y,hy⟩:=lh N.dd.length;have hny:n=y:=by rw[<-hy];exact a.dd.len
 have hyb:y<=100000:=by rw[<-hy];exact hf.o.2.1
 have Vu:=ae hy;subst hny;obtain⟨M,P⟩:∃q:Nat,q=20000000000:=⟨_,rfl⟩;have Q:=ae P;clear P hy
 go_in
 go_upto_region 1 with fail
 refine aw (λu0 p0 k0=>?_)
 go_wp2_with fail
 go_loopw [3,14] (λR z wr=>∃(i K:Nat),i<=m/\z=.int .i64 (i:Int)/\R=.int .i64 (K:Int)/\Hx (K=n+((N.nodes.take i).map pM).sum)/\Hx (K<=100000+i*M)/\aj wr u0) (λ_ z _=>m-(intOf z).toNat)
 .exact⟨0,n,aT _,rfl,rfl,ae aG,ae om,aK⟩
 ·
  obtain⟨i,K,hi,rfl,rfl,HK,HB,hp⟩:=hrel;by_cases bK:i<m
  .have i1:(i:Int)<(m:Int):=by omega
   obtain⟨b0,q0,o,A1,n1,RW,I,ni,ci,ins,P',e,cp',b,rfl,ob,⟨v0,v1,v2,v3,v4,v5,v6,v7,v8,v9⟩,s1,si,sp,l1,li,lp',ik,r⟩:=a.node bK;have S:=R0 hf (aC r.o);have T:=rz pM r.o;have U:pM ⟨o,ins,aW b⟩=3+ni+n1+((aW b).map λs=>1+s.length).sum:=by
    unfold pM;dsimp only;rw[<-si.len,<-s1.len]
   have Y4:Hx (K+pM ⟨o,ins,aW b⟩=n+((N.nodes.take (i+1)).map pM).sum):=ae (by rw[HK.o,T];omega);have V:=ae U;have X:=ae S;have Y:K<=100000+1000*20000000000:=by
    have C:=HB.o;have h2:i*M<=1000*M:=hZ _ om;have h3:=Q.o;omega
   have D:(aW b).length=e:=by rw[cj];exact sp.len.symm
   have DR:=ae D;have qR:ni+n1<=20000000000:=om;have Vz:e<=100000:=by rw[<-D];have h8:=(hf.o.2.2 _ (aC r.o)).2.2.1;exact h8
   have w1:IntKind.i64.wrap (3+(ni:Int))=3+(ni:Int):=by rw[aV];omega
   have w2:IntKind.i64.wrap (3+(ni:Int)+(n1:Int))=3+(ni:Int)+(n1:Int):=by rw[aV];omega
   obtain⟨K1,Z⟩:=lg (K+(3+ni+n1));have w3:IntKind.i64.wrap ((K:Int)+(3+(ni:Int)+(n1:Int)))=(K1:Int):=by rw[aV];omega
   have oT:=ae Z;have HKB:=ae Y;clear S T U r D Z Y qR
   go_upto_region 5 with fail
   refine aw (λu4 N5 k4=>?_)
   go_wp2_with fail
   go_loopw [3,32] (λR E wr=>∃(j F:Nat),j<=e/\E=.int .i64 (j:Int)/\R=.int .i64 (F:Int)/\Hx (F=K1+(((aW b).take j).map λs=>1+s.length).sum)/\aj wr u4) (λ_ E _=>e-(intOf E).toNat)
   .exact⟨0,K1,aT _,rfl,rfl,ae aG,aK⟩
   ·
    obtain⟨j,F,hj,rfl,rfl,G,vq⟩:=hrel;by_cases abr:j<e
    .obtain⟨b3,o3,A3,O,c3,z3,rfl,Zn,v3,R,l3,e3⟩:=sp.get abr;have i2:(j:Int)<(e:Int):=by omega
     have l:=rz (λs:List Int=>1+s.length) e3.o;have hle:(((aW b).take (j+1)).map λs=>1+s.length).sum<=((aW b).map λs=>1+s.length).sum:=RZ _ _ _;have J:z3=O:=R.len.symm;have hKK:F+(1+O)<=100000+1000*20000000000+20000000000:=by
      have C:=G.o;have h2:=oT.o;have h3:=V.o;have h4:=X.o;have h5:=HKB.o;rw[J]at l;omega
     have w4:IntKind.i64.wrap (1+(O:Int))=1+(O:Int):=by rw[aV];omega
     obtain⟨K3,q1⟩:=lg (F+(1+O));have w5:IntKind.i64.wrap ((F:Int)+(1+(O:Int)))=(K3:Int):=by rw[aV];omega
     have q7:Hx (K3=K1+(((aW b).take (j+1)).map λs=>1+s.length).sum):=ae (by have C:=G.o;rw[J]at l;omega);clear l hle J hKK q1 e3
     go_wp2_with fail
     go_roundw
     .exact⟨j+1,K3,om,by go_num,rfl,q7,aK⟩
     .simp[intOf];omega
    .obtain rfl:j=e:=om
     go_wp2_with fail
     go_roundw
     ·
      have C:=G.o;rw[bR (by rw[DR.o];exact an _)]at C;have h2:=oT.o;have h3:=V.o;have h4:=Y4.o;have h5:=HB.o;have h6:=X.o;have h7:=Q.o;have h8:(i+1)*M=i*M+M:=by rw[rP];omega
      exact⟨i+1,F,om,by go_num,rfl,ae om,ae om,aK⟩
     .simp[intOf];omega
  .obtain rfl:i=m:=om;have vn:K=yT N:=by
    have C:=HK.o;rw[bR (by rw[<-HM.o];exact an _)]at C;unfold yT;rw[Vu.o];exact C
   obtain⟨f1,N6⟩:=lh (decide ((K:Int)<=300));have u:decide (K<=300)=f1:=by rw[<-N6];by_cases h:K<=300<;>simp[h]<;>omega
   obtain⟨f2,L⟩:=lh (decide (i<=12));have ES:Hx (yU N=(f1&&f2)):=ae (by unfold yU;rw[<-vn,<-HM.o,u,L]);have N7:=ae L;clear vn L u;cases f1
   .go_wp2_with fail
    go_ret;exact⟨by rw[ES.o];rfl,aK⟩
   .go_wp2_with fail
    go_ret;refine⟨?_,aK⟩;rw[ES.o,<-N7.o];have e9:decide ((i:Int)<=12)=decide (i<=12):=by by_cases h:i<=12<;>simp[h]<;>omega
    show Ending.returned (Value.bool (decide ((i:Int)<=12)))=_
    rw[e9];simp
end
variable{c2:Nat}

