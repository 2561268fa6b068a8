/- Lemmas. No condition. -/
import Derived.Test.YtmkjnlifimffkaaGreatS35
namespace Go.Proofs.YtmkjnlifimffkaaGreat
open Go.RowKit
set_option linter.all false
set_option maxRecDepth 100000
set_option maxHeartbeats 16000000
def aoq(w:World)(t:TV)(e:Ending)(w':World):Prop:=
 ∃A c B d,e=.returned (.agg #[.slice A t.1.length c,.slice B t.2.length d])/\Sl w' A t.1.length t.1/\Sl w' B t.2.length t.2/\Le t.1.length c/\Le t.2.length d/\bn w.heap.size A/\bn w.heap.size B/\ak w' w
section
variable{w w':World}{A B C D:Option Addr}{n m n' m' c d c' d' k:Nat}{zs xs ts ys:List Int}{N:aI}{v:dJ}
theorem JV(hv:N.nodes[k]?=some v):gJ N (k+1)=gJ N k+v.P.length:=by
 unfold gJ;rw[take_at hv,Bq,cu];simp
theorem UI(b:N.fits)(hs:N.small)(k:Nat):gJ N k<=100000000:=by
 have e:=TA b k;have j:(N.nodes.take k).length<=1000:=by have:=hs.1;simp;omega
 unfold gJ;omega
theorem acs(r:k<=m)(e:m<=d)(W:World):(Instr.slice 31 (.slice B m d) none (some (.int .i64 (k:Int))) none).run Tryz.prog W=.ok (.slice B k d) W:=by
 have b:∀W,(sizeOf (Tryz.prog.elem 31)).run Tryz.prog W=.ok 10 W:=fun W=>by
  obtain⟨u,j,l⟩:=bN.1 (show(Tryz.prog.info? (Tryz.prog.elem 31)).map (·.size)=some 10 from by kernel_rfl);simp[sizeOf,typeInfo,j,l]
 rw[zU W 31 B m d aj .i64 (k:Int) om om,b];cases B<;>simp[Result.andThen,sliced,Addr.add]
theorem aor[a:aX w A n B m N](F:m<=d)(R:Hid N.fits)(hs:Hid N.small){id:Int}(hid:id=(k:Int)+1)(G:Hid (N.nodes[k]?=some v)){f t:Nat}(hF:Hid (gJ N k=f))(S:Hid (f+v.P.length=t)):
  Calls Tryz.prog 63 #[.agg #[.slice A n c,.slice B m d],id] w (aM w (.tuple #[f,t])):=by
 obtain⟨CB,CP,FB⟩:=iK;subst hid;have Q:Hid (m=N.nodes.length):=ae a.len;have hm:m<=1000:=by rw[Q.out];exact hs.out.1
 have e:k<m:=by rw[Q.out];exact(aY.1 G.out).1
 have T:=fun W=>acs (B:=B) (zR e) F W;have u:∀j,gJ N j<=100000000:=UI R.out hs.out;have y:=ae u;have U:IntKind.i64.wrap ((k:Int)+1-1)=(k:Int):=by rw[bF];omega
 have V:IntKind.i64.wrap (k:Int)=(k:Int):=by rw[bF];omega
 have d1:decide ((k:Int)+1<1)=false:=by simp;omega
 have d2:decide ((m:Int)<(k:Int)+1)=false:=by simp;omega
 have z:Hid (f=gJ N k):=ae hF.out.symm;clear u;go_enter Tryz.func63,Tryz.ntmps63
 go_upto_region 1 with fail
 refine bI (fun X _ _=>?_)
 go_wp2_with fail
 go_loopw [4,23] (fun s i wr=>∃(j:Nat),j<=k/\i=.int .i64 (j:Int)/\s=.int .i64 (gJ N j:Int)/\ak wr X) (fun _ i _=>k-(intOf i).toNat)
 case atStart=>exact⟨0,aS _,rfl,rfl,ai _ _⟩
 case round=>
  obtain⟨j,hj,rfl,rfl,hp⟩:=hrel;by_cases J:j<k
  ·obtain⟨Y,q0,o,Z,n1,c1,I,ni,ci,ins,P,np,cp,ps,rfl,ob,⟨v0,v1,v2,v3,v4,v5,v6,v7,v8,v9⟩,s1,si,sp,l1,li,lp,ik,l⟩:=a.node (Nat.lt_trans J e);have E:gJ N (j+1)=gJ N j+np:=by rw[JV l.out,sp.len,jM]
   have b:=y.out (j+1);obtain⟨K,r⟩:=lh (gJ N j);have L:Hid (gJ N (j+1)=K+np):=ae (by rw[E,r]);have M:IntKind.i64.wrap ((K:Int)+(np:Int))=(K:Int)+(np:Int):=by rw[bF];omega
   rw[r];clear E b r;have i1:(j:Int)<(k:Int):=by omega
   go_wp2_with fail
   go_roundw
   case rel=>exact⟨j+1,om,by go_num,by rw[L.out];go_num,ai _ _⟩
   case measure=>simp[intOf];omega
  ·obtain rfl:j=k:=om;obtain⟨Y,q0,o,Z,n1,c1,I,ni,ci,ins,P,np,cp,ps,rfl,ob,⟨v0,v1,v2,v3,v4,v5,v6,v7,v8,v9⟩,s1,si,sp,l1,li,lp,ik,l⟩:=a.node e;have O:np=v.P.length:=by have h9:=eP (l.out.symm.trans G.out);rw[<-h9,sp.len,jM]
   have b:=y.out (j+1);rw[JV G.out,<-z.out]at b;have M:IntKind.i64.wrap ((f:Int)+(np:Int))=(t:Int):=by have:=S.out;rw[bF];omega
   rw[<-z.out];have i1:(j:Int)<(m:Int):=by omega
   clear b O
   go_upto_region 8 with fail
   refine bZ aj (fun ux _=>?_);refine ag 0 33 ?_;refine ag 1 34 ?_;refine ag 2 35 ?_;refine ag 3 36 ?_;refine ag 4 37 ?_;refine ag 5 38 ?_;refine ag 6 39 ?_;refine ag 7 40 ?_;refine ag 8 41 ?_;refine ag 9 42 ?_;refine ag 10 43 ?_;refine ag 11 4 ?_;refine ag 12 5 ?_;refine aO ?_
   go_wp2_with fail
   go_ret2;exact⟨rfl,ai _ _⟩
theorem aos[s:Sl w A n zs][x:Sl w B m xs][s':Sl w C n' ts][b:Sl w D m' ys][i:dh xs][e:dh ys](h:Hid (nE zs xs ts ys=true)):Calls Tryz.prog 115 #[.agg #[.slice A n c,.slice B m d],.agg #[.slice C n' c',.slice D m' d']] w (qE w zs (xs.zipWith dQ ys) 0):=by
 obtain⟨s,rfl⟩:=s;obtain⟨x,rfl⟩:=x;obtain⟨s',rfl⟩:=s';obtain⟨b,rfl⟩:=b;exact Re (ah7 A B C D c d c' d' zs xs ts ys w s x s' b (ae i.bd) (ae e.bd) h)
theorem acu[Sl w A n zs][x:Sl w B m xs][Sl w C n' ts][Sl w D m' ys][dh xs][dh ys](hm:m<=1000000)(M:n'<=1000000)(O:m'<=1000000)(h:Hid (xs=[]\/nE zs xs ts ys=true)){V:TV}(hV:Hid (mq (zs,xs) (ts,ys)=V)):
  Calls Tryz.prog 66 #[.agg #[.slice A n c,.slice B m d],.agg #[.slice C n' c',.slice D m' d']] w (aoq w V):=by
 have CB:=@bf;have FB:=@dV;have F:=hV;clear hV;go_enter Tryz.func66,Tryz.ntmps66
 go_upto_region 1 with fail
 refine aaa (fun u0 p0 k1 k2 P b=>?_);rcases P8 (xs=[])with l|l
 ·obtain rfl:m=0:=by rw[x.len,l];rfl
  have r:Hid (V=(ts,ys)):=ae (by rw[<-F.out,mq,if_pos l]);have HS:=ae b;clear l h b
  go_wp2_with (go_at_call 71;refine(aac M O).mono ?_;rintro e u ⟨G,G',rfl,Z,Q,fA,I,_⟩)
  have R:Bx u (w.heap.size+1+1) 28 #[.slice none 0 0,.slice none 0 0]:=iin;have S:=R.blk.set2 (.slice G ts.length ts.length) (.slice G' ys.length ys.length);have T:=gW (aL w u) (p:=w.heap.size+1+1) om (.slice G ts.length ts.length) (.slice G' ys.length ys.length);have y:=Z.dY fA P.blk.lt (.slice G ts.length ts.length) (.slice G' ys.length ys.length);have z:=Q.dY I P.blk.lt (.slice G ts.length ts.length) (.slice G' ys.length ys.length);obtain⟨r0,r1⟩:=fC S;refine bM (v:=.agg #[.slice G ts.length ts.length,.slice G' ys.length ys.length]) (by simp[results,Tryz.results66,go_sem,r0,r1]) rfl ?_;have j:=r.out;subst j;exact⟨_,_,_,_,rfl,y,z,⟨az _⟩,⟨az _⟩,fA.less aH,I.less aH,⟨T⟩⟩
 ·have hm1:0<m:=by rw[x.len];exact WA.2 l
  have r:Hid (V=(zs,xs.zipWith dQ ys)):=ae (by rw[<-F.out,mq,if_neg l]);have U:Hid (nE zs xs ts ys=true):=ae (h.out.resolve_left l);clear l h;obtain⟨L,E⟩:=jS (xs.zipWith dQ ys);have HS:=ae b;clear b
  go_upto_region 4 with(go_at_call 115;refine(aos U).mono ?_;rintro e u ⟨A',c',B',d',rfl,Z,Q,lA,lX,fA,I,_⟩;rw[E.out]at Q lX;rw[E.out])
  refine aab (fun K _ _=>?_)
  go_wp2_with fail
  have R:Bx K (w.heap.size+1+1) 28 #[.slice none 0 0,.slice none 0 0]:=iin;have S:=R.blk.set2 (.slice A' zs.length c') (.slice B' L.length d');have T:=gW (aL w K) (p:=w.heap.size+1+1) om (.slice A' zs.length c') (.slice B' L.length d');have J:w.heap.size+1+1<u0.heap.size:=P.blk.lt;have X:Sl K A' zs.length zs:=iin;have Y:Sl K B' L.length L:=iin;have y:=X.dY fA J (.slice A' zs.length c') (.slice B' L.length d');have z:=Y.dY I J (.slice A' zs.length c') (.slice B' L.length d');obtain⟨r0,r1⟩:=fC S;refine bM (v:=.agg #[.slice A' zs.length c',.slice B' L.length d']) (by simp[results,Tryz.results66,go_sem,r0,r1]) rfl ?_;have j:=r.out;rw[E.out]at j;subst j;exact⟨_,_,_,_,rfl,y,z,lA,lX,fA.less aH,I.less aH,⟨T⟩⟩
end
structure qm where
 A:Option Addr
 n:Nat
 c:Nat
 B:Option Addr
 m:Nat
 d:Nat
 PA:Option Addr
 np:Nat
 cp:Nat
 XA:Option Addr
 nx:Nat
 cx:Nat
 XB:Option Addr
 mx:Nat
 dx:Nat
 CA:Option Addr
 nc:Nat
 cc:Nat
 cap:Nat
 l:Nat
 SA:Option Addr
 ns:Nat
 sc:Nat
structure tZ(J:qm)(r:Nat)(cs:Array Value):Prop where
 c0:cs[0]?=some (.slice J.A J.n J.c)
 c1:cs[1]?=some (.slice J.B J.m J.d)
 c2:cs[2]?=some (.slice J.PA J.np J.cp)
 c3:cs[3]?=some (.slice J.XA J.nx J.cx)
 c4:cs[4]?=some (.slice J.XB J.mx J.dx)
 c7:cs[7]?=some (.int .i64 (J.l:Int))
 c8:cs[8]?=some (.pointer r)
 cS:∀s,cs[oS s+3]?=some (.slice J.SA J.ns J.sc)
structure wQ(p:World)(J:qm)(N:aI)(L:List (List Int))(P:List TV)(x:TV):Prop where
 net:aX p J.A J.n J.B J.m N
 ps:∃ps,Ts p J.PA J.np ps/\ps.map Tn.tv=P/\jw ps
 xs:Sl p J.XA J.nx x.1
 xx:Sl p J.XB J.mx x.2
 lx:J.nx<=J.cx
 JX:J.mx<=J.dx
 lp:J.np<=J.cp
 lB:J.m<=J.d
 sh:∃ss,dA p J.SA J.ns ss/\aJ ss=L
 fits:N.fits
 small:N.small
 Cq:TV.ok x
structure oN(w:World)(B:Nat)(A:Option Addr)(c:Nat)(ts:List Tn):Prop where
 row:aP w B 28 2 A c ts.length (tc ts)
 el:∀t∈ts,TE w t
 far:∀t∈ts,(∀b,AF t.A b->b<w.heap.size/\¬AF A b)/\∀b,AF t.B b->b<w.heap.size/\¬AF A b
section
variable{p w w' u w1:World}{B r g k n i j c c' d wd o:Nat}{m m' m2:jB}{v v':bL}{tb:Bool->Tb}{T:Bool->Int->Option (List Int)}{s:Bool}{A A' C nu:Option Addr}{id z h:Int}{zs xs ys:List Int}{ss:List Sp}{ts:List Tn}{t:Tn}{J:qm}{N:aI}{L:List (List Int)}{P vals:List TV}{x:TV}{nd:dJ}{cs cs':Array Value}
theorem tZ.same(h:tZ J r cs)(hs:vG cs cs'):tZ J r cs':=
 ⟨(hs 0 ah ah ah ah).trans h.c0,(hs 1 ah ah ah ah).trans h.c1,(hs 2 ah ah ah ah).trans h.c2,
  (hs 3 ah ah ah ah).trans h.c3,(hs 4 ah ah ah ah).trans h.c4,(hs 7 ah ah ah ah).trans h.c7,
  (hs 8 ah ah ah ah).trans h.c8,fun s=>by cases s<;>exact(hs _ ah ah ah ah).trans (h.cS _)⟩
theorem MS.cl(h:MS w B g r m v tb){x:Value}(b:m.cs[i]?=some x):Cl w g i x:=⟨((h.t false).blk.cell i).trans b⟩
theorem MS.old(h:MS w B g r m v tb):Old g w:=⟨(h.t false).blk.lt⟩
theorem zK(h:Sl w A n zs)(D:zs≠[]):∀b,AF A b->b<w.heap.size:=fun b hb=>by
 obtain⟨ad,e,rfl⟩:=hb
 match zs,D,h with
 |y::t,_,h=>
  obtain⟨b,off,l,E,_⟩:=h.rd 0 y rfl;rw[e]at l;injection l with l;subst l;exact E
theorem oN.nil(w:World)(B:Nat):oN w B none 0 []:=⟨⟨rfl,.inl ⟨rfl,rfl⟩⟩,fun t ht=>(by cases ht),fun t ht=>(by cases ht)⟩
theorem oN.at(h:oN w B A c ts)[l:Later w w']:oN w' B A c ts:=⟨h.row.at,fun t ht=>(h.el t ht).below l.st,fun t ht=>⟨fun b hb=>⟨bV ((h.far t ht).1 b hb).1 l.st.size,((h.far t ht).1 b hb).2⟩,fun b hb=>⟨bV ((h.far t ht).2 b hb).1 l.st.size,((h.far t ht).2 b hb).2⟩⟩⟩
theorem oN.JY(h:oN w B A c ts):Ts w A ts.length ts:=⟨SF.trd (B:=B) (c:=c) h.row h.el,rfl⟩
theorem TE.iq(h:TE w t)(l:bS A A' w w')(f1:∀b,AF t.A b->b<w.heap.size/\¬AF A b)(f2:∀b,AF t.B b->b<w.heap.size/\¬AF A b):TE w' t:=by
 have key:∀{C:Option Addr} {zs:List Int},Rd w C zs->(∀b,AF C b->b<w.heap.size/\¬AF A b)->Rd w' C zs:=fun{C zs} hr y j z D=>by
  obtain⟨b,off,e,hb,E⟩:=hr j z D;have F:=y b ⟨_,e,rfl⟩;refine⟨b,off,e,bV hb l.size,?_⟩;rw[<-E];exact jG (l.off b hb fun ad G I=>F.2 ⟨ad,G,I⟩)
 exact⟨key h.1 f1,key h.2.1 f2,h.2.2⟩
theorem oN.push(h:oN w B A c ts)(ht:TE w t)(f1:∀b,AF t.A b->b<w.heap.size/\¬AF A b)(f2:∀b,AF t.B b->b<w.heap.size/\¬AF A b)(hr:aP w' B 28 2 A' c' (ts.length+1) (tc ts++tc [t]))(D:bS A A' w w'):oN w' B A' c' (ts++[t]):=by
 have key:∀{C:Option Addr},(∀b,AF C b->b<w.heap.size/\¬AF A b)->∀b,AF C b->b<w'.heap.size/\¬AF A' b:=fun{C} F b hb=>by
  obtain⟨G,I⟩:=F b hb;refine⟨bV G D.size,fun E=>?_⟩;obtain⟨tC,K,rfl⟩:=E;rcases D.new tC K with⟨ad,e,E⟩|E
  ·exact I ⟨ad,e,E.symm⟩
  ·omega
 refine⟨?_,fun y l=>?_,fun y l=>?_⟩
 ·rw[cu,Nu];exact hr
 ·rcases dP.1 l with l|l
  ·exact(h.el y l).iq D (h.far y l).1 (h.far y l).2
  ·rw[gm.1 l];exact ht.iq D f1 f2
 ·rcases dP.1 l with l|l
  ·exact⟨key (h.far y l).1,key (h.far y l).2⟩
  ·rw[gm.1 l];exact⟨key f1,key f2⟩
theorem TE.of{e l:Option Addr}{c1 d1 n1 m1:Nat}(a:Sl w e n1 zs)(b:Sl w l m1 xs)(y:xs.length<=d1)(bd:∀z∈xs,aR z):TE w ⟨e,c1,zs,l,d1,xs⟩:=⟨a.rd,b.rd,y,bd⟩
def InT(L:List (List Int))(T:Bool->Int->Option (List Int))(vals:List TV)(n:Nat)(z:Int):Prop:=z=0\/(1<=z/\z<=n/\T false z=some (vals.getD z.toNat T0).2/\(vals.getD z.toNat T0).1=L.getD z.toNat []/\TV.ok (vals.getD z.toNat T0))
end
section
variable{p w w' u w1:World}{B r g k n i j c c' d wd o:Nat}{m m' m2:jB}{v v':bL}{tb:Bool->Tb}{T:Bool->Int->Option (List Int)}{s:Bool}{A A' C nu:Option Addr}{id z h:Int}{zs xs ys:List Int}{ss:List Sp}{ts:List Tn}{t:Tn}{J:qm}{N:aI}{L:List (List Int)}{P vals:List TV}{x:TV}{nd:dJ}{cs cs':Array Value}
theorem aX.at{B:Option Addr}[l:Later w w'](h:aX w A n B k N):aX w' A n B k N:=
 ⟨⟨h.inp.rd.below l.st,h.inp.len⟩,by
  obtain⟨xs,y,D⟩:=h.SQ;exact⟨xs,fun j x E=>by obtain⟨b,o,e,k⟩:=y j x E;exact⟨b,o,e,k.below l.st⟩,D⟩,h.len⟩
theorem aot[Later p w](hb:Hid (wQ p J N L P x))(h:Hid (MS w p.heap.size g r m v tb))(U:Hid (tZ J r m.cs))(V:Hid (N.nodes[k]?=some nd)){f:Nat}(hF:Hid (gJ N k=f)):
  Calls Tryz.prog 156 #[.pointer g,.int .i64 ((k:Int)+1)] w (aM w (.int .i64 (f:Int))):=by
 have CC:=@jK;have CP:=@kQ;have a:aX w J.A J.n J.B J.m N:=hb.out.net.at;have R:=hb.out.fits;have hs:=hb.out.small;have S:Hid (J.m=N.nodes.length):=ae a.len;have hm:J.m<=1000:=by rw[S.out];exact hs.1
 have e:k<J.m:=by rw[S.out];exact(aY.1 V.out).1
 have D:=fun W=>acs (B:=J.B) (m:=J.m) (d:=J.d) (zR e) hb.out.lB W;have l:∀j,gJ N j<=100000000:=UI R hs;have E:=ae l;have X:IntKind.i64.wrap (k:Int)=(k:Int):=by rw[bF];omega
 have F:Hid (f=gJ N k):=ae hF.out.symm;have c1:Cl w g 1 (.slice J.B J.m J.d):=h.out.cl U.out.c1;clear l R hs;generalize J.B=Bz at a c1 D;go_enter Tryz.func156,Tryz.ntmps156
 go_wp2_with fail
 go_loopw [5,18] (fun s i wr=>∃(j:Nat),j<=k/\i=.int .i64 (j:Int)/\s=.int .i64 (gJ N j:Int)/\ak wr w) (fun _ i _=>k-(intOf i).toNat)
 case atStart=>exact⟨0,aS _,rfl,rfl,ai _ _⟩
 case round=>
  obtain⟨j,hj,rfl,rfl,hp⟩:=hrel;by_cases G:j<k
  ·obtain⟨b0,q0,o,A1,n1,Y,I,ni,ci,ins,P,np,cp,ps,rfl,ob,⟨v0,v1,v2,v3,v4,v5,v6,v7,v8,v9⟩,s1,si,sp,l1,li,lp,ik,K⟩:=a.node (Nat.lt_trans G e);have y:gJ N (j+1)=gJ N j+np:=by rw[JV K.out,sp.len,jM]
   have M:=E.out (j+1);obtain⟨O,b⟩:=lh (gJ N j);have Q:Hid (gJ N (j+1)=O+np):=ae (by rw[y,b]);have Z:IntKind.i64.wrap ((O:Int)+(np:Int))=(O:Int)+(np:Int):=by rw[bF];omega
   rw[b];clear y M b;have i1:(j:Int)<(k:Int):=by omega
   go_wp2_with fail
   go_roundw
   case rel=>exact⟨j+1,om,by go_num,by rw[Q.out];go_num,ai _ _⟩
   case measure=>simp[intOf];omega
  ·obtain rfl:j=k:=om
   go_wp2_with fail
   go_ret;exact⟨by rw[F.out];rfl,ai _ _⟩
theorem UJ[Later p w](sh:Hid (dA p nu n ss))(h:Hid (MS w p.heap.size g r m v tb))(b:Hid (dK v tb T))(e:Hid (T false (j:Int)=some xs))(hs:Hid (m.cs[12]?=some (.slice nu n c)))(l:Hid ((aJ ss)[j]?=some zs))(hr:Hid (bH zs xs=true)):
  Calls Tryz.prog 154 #[.pointer (some ⟨g,9,none⟩),j] w (qE w zs xs 0):=acr (s:=false) sh h b e hs l hr
theorem acv[Later p w](sh:Hid (dA p nu n ss))(h:Hid (MS w p.heap.size g r m v tb))(b:Hid (dK v tb T))(e:Hid (T true (j:Int)=some xs))(hs:Hid (m.cs[16]?=some (.slice nu n c)))(l:Hid ((aJ ss)[j]?=some zs))(hr:Hid (bH zs xs=true)):
  Calls Tryz.prog 154 #[.pointer (some ⟨g,13,none⟩),j] w (qE w zs xs 0):=acr (s:=true) sh h b e hs l hr
theorem JZ(h:aU zs=true):zs≠[]:=fun e=>by rw[e]at h;exact absurd h ah
def aou(w:World)(b:List TV)(e:Ending)(w':World):Prop:=∃A c ts,e=.returned (.tuple #[.slice A b.length c,(0:Int)])/\Ts w' A b.length ts/\Le b.length c/\Hid (jw ts)/\Hid (ts.map Tn.tv=b)/\ak w' w
theorem acw[pw:Later p w](hb:Hid (wQ p J N L P x))(h:Hid (MS w p.heap.size g r m v tb))(hc:Hid (tZ J r m.cs))(hmb:Hid (dK v tb T))(hk:Hid (N.nodes[k]?=some nd))(h0:Hid (vals.getD 0 T0=x))(hLn:Hid (L.length=N.nodes.length+1))(hin:Hid (∀z∈nd.ins,InT L T vals N.nodes.length z))
  {S:List TV} (U:Hid (jy vals nd.ins=S)):
  Calls Tryz.prog 148 #[.pointer g,.int .i64 ((k:Int)+1)] w (aou w S):=by
 have CC:=@jK;have CP:=@kQ;have a:aX w J.A J.n J.B J.m N:=hb.out.net.at;have HM:Hid (J.m=N.nodes.length):=ae a.len;have J7:k<J.m:=by rw[HM.out];exact(aY.1 hk.out).1
 have hm:J.m<=1000:=by rw[HM.out];exact hb.out.small.1
 have hwj:IntKind.i64.wrap (k:Int)=(k:Int):=by rw[bF];omega
 have c1:Cl w g 1 (.slice J.B J.m J.d):=h.out.cl hc.out.c1;have c3:Cl w g 3 (.slice J.XA J.nx J.cx):=h.out.cl hc.out.c3;have c4:Cl w g 4 (.slice J.XB J.mx J.dx):=h.out.cl hc.out.c4;obtain⟨ss,sh,hsp⟩:=hb.out.sh;have SH:=ae sh;have GH:=ae hsp;have hLX:x.2.length<=J.dx:=by have:=hb.out.JX;rw[hb.out.xx.len]at this;exact this
 have TEX:Hid (TE w ⟨J.XA,J.cx,x.1,J.XB,J.dx,x.2⟩):=ae (TE.below (w:=p) (TE.of hb.out.xs hb.out.xx hLX hb.out.Cq.2) (pw.st));have HXR:Hid (bH x.1 x.2=true/\x.1.length<=J.cx):=ae ⟨hb.out.Cq.1,by have:=hb.out.lx;rw[hb.out.xs.len]at this;exact this⟩;have M:Hid ((∀b,AF J.XA b->b<p.heap.size)/\∀b,AF J.XB b->b<p.heap.size):=ae ⟨zK hb.out.xs (JZ hb.out.Cq.right),zK hb.out.xx hb.out.Cq.ne⟩;generalize J.B=Bz at a c1;obtain⟨b0,q0,o,A1,n1,c1',I,ni,ci,ins,P',np,cp,ps,rfl,ob,⟨v0,v1,v2,v3,v4,v5,v6,v7,v8,v9⟩,s1,si,sp,l1,li,lp,ik,hnd⟩:=a.node J7;have HND:Hid (nd=⟨o,ins,aJ ps⟩):=ae (eP (hk.out.symm.trans hnd.out));obtain rfl:nd=⟨o,ins,aJ ps⟩:=HND.out;have zH:Hid (∀z∈ins,InT L T vals N.nodes.length z):=hin;have hni:ni<=100000:=by have:=(hb.out.fits.2.2 _ (aK hk.out)).1;rw[si.len];exact this
 have O:Hid (S.length=ni):=ae (by rw[<-U.out];show(ins.map _).length=ni;rw[dF,si.len]);have HPA:Hid (∀i,i<ni->∀z,ins[i]?=some z->S[i]?=some (vals.getD z.toNat T0)):=ae (fun i _ z hz=>by
  rw[<-U.out];show(ins.map _)[i]?=_;rw[dE,hz];rfl)
 clear hnd HND U hin v0 v1 v2 v3 v4 v5 v6 v7 v9 s1 sp l1 lp ik hLX sh hsp;go_enter Tryz.func148,Tryz.ntmps148
 go_wp2_with fail
 go_loopw [6,23] (fun s6 s23 wr=>∃(i:Nat) (A':Option Addr) (c':Nat) (us:List Tn),i<=ni/\s23=.int .i64 (i:Int)/\s6=.slice A' i c'/\Hid (oN wr w.heap.size A' c' us)/\Hid (us.length=i)/\Hid (us.map Tn.tv=S.take i)/\Hid (jw us)/\ak wr w) (fun _ i _=>ni-(intOf i).toNat)
 case atStart=>exact⟨0,none,0,[],aS _,rfl,rfl,ae (oN.nil _ _),ae rfl,ae rfl,ae (fun t ht=>(by cases ht)),ai _ _⟩
 case round=>
  obtain⟨i,A',c',us,hi,rfl,rfl,E,D,V,X,hp⟩:=hrel;by_cases hlt:i<ni
  ·obtain⟨bi,oi,z,rfl,obi,cz,hz⟩:=si.get hlt;have HZ:=hz;have Y:=HPA.out i hlt z hz.out;have HPI:=ae Y;have aoz:=zH.out z (aK hz.out);have qh:Hid (S.take (i+1)=S.take i++[vals.getD z.toNat T0]):=ae (take_at Y);have y:aP wr w.heap.size 28 2 A' c' i (tc us):=by have:=E.out.row;rw[D.out]at this;exact this
   clear Y hz;rcases aoz with hz0|⟨hz1,hz2,Z,Ou,Q⟩
   ·subst hz0;have HVX:Hid (vals.getD (0:Int).toNat T0=x):=h0
    go_wp2_with (at_builtin;refine Mi rfl _ _ _ rfl 28 Tryz.underlying23 2 48 (.agg #[.slice none 0 0,.slice none 0 0]) aj rfl ah ah w.heap.size A' c' i (tc us) rfl y [.slice J.XA J.nx J.cx,.slice J.XB J.mx J.dx] rfl (by intro u hu;simp at hu;rcases hu with rfl|rfl<;>rfl) rfl om aH ?_;intro A3 c3' w3 R F _)
    go_roundw
    case rel=>
     have G:∀b,b<p.heap.size->¬AF A' b:=fun b hb hx=>by
      have h9:=(y.af hx).1;have:=pw.st.size;omega
     have hwr:p.heap.size<=wr.heap.size:=aZ pw.st.size (aH (w:=w) (w':=wr));have DF:=E.out.push (t:=⟨J.XA,J.cx,x.1,J.XB,J.dx,x.2⟩) (TEX.out.below (aL w wr)) (fun b l=>⟨bV (M.out.1 b l) hwr,G b (M.out.1 b l)⟩) (fun b l=>⟨bV (M.out.2 b l) hwr,G b (M.out.2 b l)⟩) (by
      rw[D.out];have e1:=hb.out.xs.len;have e2:=hb.out.xx.len;rw[e1,e2]at R;exact R) F
     refine⟨i+1,A3,c3',_,om,by go_num,rfl,ae DF,ae (by rw[cu,D.out];rfl),ae ?_,ae fun t ht=>?_,⟨(aL w wr).trans (F.below (fun ad e9=>(y.af ⟨ad,e9,rfl⟩).1) aH)⟩⟩
     ·rw[qh.out,gV,V.out,HVX.out];rfl
     ·rcases dP.1 ht with ht|ht
      ·exact X.out t ht
      ·rw[gm.1 ht];exact HXR.out
    case measure=>simp[intOf];omega
   ·obtain⟨j,rfl⟩:∃j:Nat,z=(j:Int):=⟨z.toNat,om⟩;have hj0:((j:Int)==0)=false:=by simp;omega
    obtain⟨tv,UK⟩:=lh (vals.getD (j:Int).toNat T0);rw[UK]at Z Ou Q;have HTV:=ae UK;have HT3:Hid (T false (j:Int)=some tv.2):=ae Z;have HJ:Hid ((aJ ss)[j]?=some tv.1):=ae (by
     have h9:j<L.length:=by rw[hLn.out];omega
     rw[GH.out,aW h9,Ou,dD,aQ,aW h9];rfl)
    have HR:Hid (bH tv.1 tv.2=true):=ae Q.1;have pV:=ae Q;have HMS:Hid (MS wr p.heap.size g r m v tb):=ae h.out.at;have UL:Hid (m.cs[12]?=some (.slice J.SA J.ns J.sc)):=ae (hc.out.cS false);clear hz1 hz2 Z Ou Q UK
    go_upto_region 8 with(go_at_call 154;refine(UJ (p:=p) SH HMS hmb HT3 UL HJ HR).mono ?_;rintro e u ⟨A4,UM,B4,d4,rfl,sA,sX,lA,lX,fA,fX,pu⟩)
    refine bI (fun u1 tJ k1=>?_);have Y7:Cl u1 u.heap.size 0 (.slice A4 tv.1.length UM):=⟨k1.blk.cell 0⟩;have cb1:Cl u1 u.heap.size 1 (.slice B4 tv.2.length d4):=⟨k1.blk.cell 1⟩;have K:aP u1 w.heap.size 28 2 A' c' i (tc us):=y.at
    go_wp2_with (at_builtin;refine Mi rfl _ _ _ rfl 28 Tryz.underlying23 2 48 (.agg #[.slice none 0 0,.slice none 0 0]) aj rfl ah ah w.heap.size A' c' i (tc us) rfl K [.slice A4 tv.1.length UM,.slice B4 tv.2.length d4] rfl (by intro u hu;simp at hu;rcases hu with rfl|rfl<;>rfl) rfl om aH ?_;intro A3 c3' w3 R F _)
    go_roundw
    case rel=>
     have G:∀{C:Option Addr},bn wr.heap.size C->∀b,AF C b->¬AF A' b:=fun{C} hf b hx hy=>by
      obtain⟨ad,e9,rfl⟩:=hx;have h8:=hf.out ad e9;have h9:=(y.af hy).2.1;omega
     have UN:Sl u1 A4 tv.1.length tv.1:=iin;have UO:Sl u1 B4 tv.2.length tv.2:=iin;have DF:=(E.out.at (w':=u1)).push (t:=⟨A4,UM,tv.1,B4,d4,tv.2⟩) (TE.of UN UO lX.le pV.out.2) (fun b l=>⟨zK UN (JZ pV.out.right) b l,G fA b l⟩) (fun b l=>⟨zK UO pV.out.ne b l,G fX b l⟩) (by
      rw[D.out];exact R) F
     refine⟨i+1,A3,c3',_,om,by go_num,rfl,ae DF,ae (by rw[cu,D.out];rfl),ae ?_,ae fun t ht=>?_,⟨(aL w u1).trans (F.below (fun ad e9=>(K.af ⟨ad,e9,rfl⟩).1) aH)⟩⟩
     ·rw[qh.out,gV,V.out,HTV.out];rfl
     ·rcases dP.1 ht with ht|ht
      ·exact X.out t ht
      ·rw[gm.1 ht];exact⟨HR.out,lA.le⟩
    case measure=>simp[intOf];omega
  ·obtain rfl:i=ni:=om
   go_wp2_with fail
   go_ret2;exact⟨A',c',us,by rw[O.out];rfl,by rw[O.out,<-D.out];exact E.out.JY,by rw[O.out,<-D.out];exact⟨E.out.row.le⟩,X,ae (by rw[V.out,dB (lH O.out)]),hp⟩
end
def aoD(w:World)(b:List TV)(e:Ending)(w':World):Prop:=∃A c ts,e=.returned (.slice A b.length c)/\Ts w' A b.length ts/\Le b.length c/\Hid (jw ts)/\Hid (ts.map Tn.tv=b)/\ak w' w
section
variable{w w':World}{A B C D PA:Option Addr}{n m n' m' c d c' d' k np cp l:Nat}{zs xs:List Int}{N:aI}{v:dJ}{ts ps:List Tn}{P:List TV}
theorem aoE(A:Option Addr){l c k m:Nat}(E:k<=m)(hm:m<=l)(y:l<=c):
  ∃A',(∀W,(Instr.slice 23 (.slice A l c) (some (.int .i64 (k:Int))) (some (.int .i64 (m:Int))) none).run Tryz.prog W=.ok (.slice A' (m-k) (c-k)) W)/\∀W ts,Ts W A l ts->Ts W A' (m-k) ((ts.drop k).take (m-k)):=by
 have r:∀W,(sizeOf (Tryz.prog.elem 23)).run Tryz.prog W=.ok 2 W:=fun W=>by
  obtain⟨F,u,z⟩:=bN.1 (show(Tryz.prog.info? (Tryz.prog.elem 23)).map (·.size)=some 2 from by kernel_rfl);simp[sizeOf,typeInfo,u,z]
 refine⟨if c=k then A else A.map (·.add (k*2)),fun W=>?_,fun W ts h=>⟨fun j t e=>?_,?_⟩⟩
 ·rw[BD W 23 A l c aj .i64 .i64 (k:Int) (m:Int) om om om,r];have u:(m:Int).toNat-(k:Int).toNat=m-k:=by omega
  cases A<;>simp[Result.andThen,sliced]
 ·rw[l7]at e
  split at e
  ·rw[lD]at e;obtain⟨b,o,rfl,q⟩:=h.rd _ t e;rw[if_neg om];exact⟨b,o+k*2,by simp[eu],by rw[show o+k*2+j*2=o+(k+j)*2 from om];exact q⟩
  ·cases e
 ·have:=h.len;simp;omega
theorem aoF(k:Nat)(j:k<=1000000)(W:World):(Instr.makeSlice 23 (.int .i64 0) (.int .i64 (k:Int))).run Tryz.prog W=.ok (.slice W.heap.size 0 k) (W.alloc (.cells (madeCells #[.slice none 0 0,.slice none 0 0] (k*2)) 28)):=by
 obtain⟨i,hi,b⟩:=bN.1 (show(Tryz.prog.info? 28).map (fun i=>(i.zero,i.size,i.bytes))=some (some (.agg #[.slice none 0 0,.slice none 0 0]),2,48)from by kernel_rfl);simp only[jZ]at b;obtain⟨e,hs,hb⟩:=b;have:=zT (P:=Tryz.prog) W 23 28 i _ Tryz.underlying23 hi e .i64 .i64 0 k (jg _) om (by rw[hs];simp;omega) (by rw[hb];simp;omega);rw[hs]at this;simpa[Value.cells]using this om
theorem oN.make(w:World){k:Nat}(b:k<=1000000):oN (w.alloc (.cells (madeCells #[.slice none 0 0,.slice none 0 0] (k*2)) 28)) w.heap.size (some ⟨w.heap.size,0,none⟩) k []:=by
 refine⟨⟨rfl,.inr ⟨w.heap.size,k,_,rfl,az _,xe w _,aS _,by unfold maxLen;omega,?_,rfl⟩⟩,fun t ht=>(by cases ht),fun t ht=>(by cases ht)⟩;rw[Z7];exact Z8 _ (aS _)
theorem Ov[aX w A n B m N][tp:Ts w PA np ps](hmd:m<=d)(hpc:np<=cp)(hvp:v.P.length<=1000000)(hO:Hid (jw ps))(hf:Hid N.fits)(hs:Hid N.small){id:Int}(hid:id=(k:Int)+1)(hk:Hid (N.nodes[k]?=some v))(hle:Hid (gJ N k+v.P.length<=np)){I:List TV}(hpv:Hid (((ps.map Tn.tv).drop (gJ N k)).take v.P.length=I)):
  Calls Tryz.prog 149 #[.agg #[.slice A n c,.slice B m d],.slice PA np cp,id] w (aoD w I):=by
 obtain⟨CB,CP,FB⟩:=iK;subst hid;obtain⟨f,hF⟩:=lh (gJ N k);obtain⟨t,hT⟩:=lh (f+v.P.length);have HF:=ae hF;have HT:=ae hT;have htn:t<=np:=by rw[<-hT,<-hF];exact hle.out
 have hft:f<=t:=om;obtain⟨q,hq⟩:=lh (t-f);have Q:q<=1000000:=om;obtain⟨A2,hsl,R⟩:=aoE PA hft htn hpc;have tq:Ts w A2 q ((ps.drop f).take q):=by rw[<-hq];exact R w ps tp
 rw[hq]at hsl;have L:Hid (((ps.drop f).take q).map Tn.tv=I):=ae (by
  rw[<-hpv.out,hF,show v.P.length=q from om,yJ,Dh])
 obtain⟨qs,M⟩:=lh ((ps.drop f).take q);rw[M]at tq L;have GI:Hid (jw qs):=ae fun t ht=>hO.out t (by rw[<-M]at ht;exact jo (gU ht));have hwq:IntKind.i64.wrap ((t:Int)-(f:Int))=(q:Int):=by have:=UI hf.out hs.out k;rw[hF]at this;rw[bF];omega
 have hmk:=aoF q Q;have d1:decide (np<t)=false:=by simp;omega
 have E:Hid (I.length=q):=ae (by rw[<-L.out,dF,<-tq.len]);clear hF hT hq M R;go_enter Tryz.func149,Tryz.ntmps149
 go_upto_region 2 with(go_at_call 63;(with_reducible refine qZ (fun u0 _ _=>?_));(with_reducible refine(aor hmd hf hs rfl hk HF HT).mono ?_);rintro e u1 ⟨rfl,_⟩)
 go_upto_region 5 with fail
 obtain⟨W,hW⟩:=lg (u1.alloc (.cells (madeCells #[.slice none 0 0,.slice none 0 0] (q*2)) 28));have S:Hid (oN W w.heap.size (some ⟨u1.heap.size,0,none⟩) q []):=ae (by
  have J:=oN.make u1 Q;rw[<-hW]at J;exact⟨aP.less J.row aH,J.el,J.far⟩)
 have pW:ak W w:=by rw[hW];exact ai _ _
 rw[<-hW];clear hW hmk
 go_wp2_with fail
 go_loopw [9,31] (fun s9 s31 wr=>∃(i:Nat) (A':Option Addr) (c':Nat) (us:List Tn),i<=q/\s31=.int .i64 (i:Int)/\s9=.slice A' i c'/\Hid (oN wr w.heap.size A' c' us)/\Hid (us.length=i)/\Hid (us.map Tn.tv=I.take i)/\Hid (jw us)/\ak wr w) (fun _ i _=>q-(intOf i).toNat)
 case atStart=>exact⟨0,_,q,[],aS _,rfl,rfl,S,ae rfl,ae rfl,ae (fun t ht=>(by cases ht)),pW⟩
 case round=>
  obtain⟨i,A',c',us,hi,rfl,rfl,F,j,T,U,hp⟩:=hrel;by_cases V:i<q
  ·obtain⟨b2,o2,A3,m3,c3,z3,B3,k3,d3,K,rfl,jT,e0,e1,s3,y3,l3,l3',i3,h4,h6,X,Y⟩:=tq.D7 GI V;have Z:I[i]?=some (z3,K):=by
    have J:i<(qs.map Tn.tv).length:=by rw[dF,<-tq.len];exact V
    have h8:=Y.out;rw[aQ,aW J]at h8;rw[<-L.out,aW J];exact eD some h8
   have qh:Hid (I.take (i+1)=I.take i++[(z3,K)]):=ae (take_at Z);have hrow:aP wr w.heap.size 28 2 A' c' i (tc us):=by have:=F.out.row;rw[j.out]at this;exact this
   clear Z Y
   go_upto_region 8 with fail
   refine bI (fun u2 ru k2=>?_);have r:aP u2 w.heap.size 28 2 A' c' i (tc us):=hrow.at
   go_wp2_with (first|(go_at_call 71;refine(aac om om).mono ?_;rintro e u ⟨G,G',rfl,sA,sX,fA,fX,pu⟩;have y:aP u w.heap.size 28 2 A' c' i (tc us):=r.at)|(at_builtin;refine Mi rfl _ _ _ rfl 28 Tryz.underlying23 2 48 (.agg #[.slice none 0 0,.slice none 0 0]) aj rfl ah ah w.heap.size A' c' i (tc us) rfl y [.slice G z3.length z3.length,.slice G' K.length K.length] rfl (by intro u hu;simp at hu;rcases hu with rfl|rfl<;>rfl) rfl om aH ?_;intro A4 c4 w4 ho4 hc4 _))
   go_roundw
   case rel=>
    have hne:∀{C:Option Addr},bn u2.heap.size C->∀b,AF C b->¬AF A' b:=fun{C} hf b hx hy=>by
     obtain⟨ad,e9,rfl⟩:=hx;have h8:=hf.out ad e9;have J:=(r.af hy).2.1;omega
    have O:aU z3=true/\(K.length:Int)=aV z3:=(jI _ _).1 X.out;have hx0:K≠[]:=fun e=>by
     obtain⟨n9,g1,g2,g3⟩:=pQ O.1;have:=O.2;rw[e]at this;simp at this;omega
    have DF:=(F.out.at (w':=u)).push (t:=⟨some ⟨G,0,none⟩,z3.length,z3,some ⟨G',0,none⟩,K.length,K⟩) (TE.of sA sX (az _) i3.bd) (fun b z=>⟨zK sA (JZ O.1) b z,hne fA b z⟩) (fun b z=>⟨zK sX hx0 b z,hne fX b z⟩) (by
     rw[j.out];exact ho4) hc4
    refine⟨i+1,A4,c4,_,om,by go_num,rfl,ae DF,ae (by rw[cu,j.out];rfl),ae ?_,ae fun t ht=>?_,⟨(aL w u).trans (hc4.below (fun ad e9=>(y.af ⟨ad,e9,rfl⟩).1) aH)⟩⟩
    ·rw[qh.out,gV,T.out];rfl
    ·rcases dP.1 ht with ht|ht
     ·exact U.out t ht
     ·rw[gm.1 ht];exact⟨X.out,az _⟩
   case measure=>simp[intOf];omega
  ·obtain rfl:i=q:=om
   go_wp2_with fail
   go_ret;exact⟨A',c',us,by rw[E.out];rfl,by rw[E.out,<-j.out];exact F.out.JY,by rw[E.out,<-j.out];exact⟨F.out.row.le⟩,U,ae (by rw[T.out,dB (lH E.out)]),hp⟩
end
section
variable{w w':World}{A B PA XA XB:Option Addr}{n m c d k np cp nx cx mx dx:Nat}{N:aI}{ps:List Tn}{ss:List Sp}{x:TV}
theorem jd.Gh(h:jd w k A c ss):dA w A ss.length ss:=
 ⟨fun j x b=>by
  obtain⟨g,e,l⟩:=h.row.cell (j:=j) (v:=.slice x.A x.m x.c) (by simp[fP,b]);obtain⟨r,u,y,_⟩:=h.el x (aK b);exact⟨g,0,e,h.row.lt _ e,by rw[fo];exact l,r,u,y⟩,rfl⟩
theorem acB[a:aX w A n B m N][E:Ts w PA np ps][Q:Sl w XA nx x.1][Sl w XB mx x.2](J:Hid N.fits)(hs:Hid N.small)(R:Hid (bU N=0))(hP:Hid ((ps.map Tn.tv).map (·.1)=iU N))(hO:Hid (jw ps))(K:Hid (x.1=N.inp))(hr:bH x.1 x.2=true)(S:np<=100000000):
  Calls Tryz.prog 24 #[.agg #[.slice A n c,.slice B m d],.slice PA np cp,.agg #[.slice XA nx cx,.slice XB mx dx]] w (aM w (.int .i64 0)):=by
 obtain⟨CB,CP⟩:=lM;have l:Hid ((iU N).length=np):=ae (by rw[<-hP.out,dF,dF];exact E.len.symm);have T:x.1.length<=4:=ry ((jI _ _).1 hr).1;have r:nx<=1000000:=by rw[Q.len];omega
 have U:n<=1000000:=by rw[a.inp.len,<-K.out];omega
 have sI:Sl w A n x.1:=by rw[K.out];exact a.inp
 have V:=ae hr;go_enter Tryz.func24,Tryz.ntmps24
 go_upto_region 1 with fail
 refine qd (fun u0 p0 k1 k2=>?_)
 go_upto_region 7 with(first|(go_at_call 40;refine(zy J hs R).mono ?_;rintro e u1 ⟨rfl,_⟩)|(go_at_call 68;refine(aa1 J hs).mono ?_;rintro e L ⟨X,c2,ss,rfl,hS,y,_⟩;rw[l.out]))
 have F:Hid (ss.length=np):=ae (by rw[<-l.out,<-y.out,jM]);have sh:dA L X np ss:=by have z:=hS.Gh;rw[F.out]at z;exact z
 have HS:=ae hS;clear hS
 go_wp2_with fail
 go_loopw [25] (fun b wr=>∃i:Nat,i<=np/\b=.int .i64 (i:Int)/\ak wr L) (fun b _=>np-(intOf b).toNat)
 case atStart=>exact⟨0,aS _,rfl,ai _ _⟩
 case round=>
  obtain⟨i,hi,rfl,hp⟩:=hrel;by_cases j:i<np
  ·obtain⟨b3,o3,A3,Y,c3,z3,rfl,Z,v3,s3,l3,M⟩:=sh.get j;obtain⟨b2,o2,A4,n4,c4,z4,B4,m4,d4,x4,rfl,jT,e0,e1,s4,y4,l4,l4',i4,h4,h6,C,D⟩:=E.D7 hO j;have G:z4=z3:=by
    have z:i<(ps.map Tn.tv).length:=by rw[dF,<-E.len];exact j
    have O:=D.out;rw[aQ,aW z]at O;have P:((ps.map Tn.tv).map (·.1))[i]?=some z4:=by rw[dE,aW z];exact eD (fun q:TV=>some q.1) O
    rw[hP.out,<-y.out,M.out]at P;exact(eP P).symm
   subst G;have hr5:bH z4 x4=true:=C.out;have i1:(i:Int)<(np:Int):=by omega
   have I:Y<=1000000:=by rw[s3.len,<-s4.len];omega
   clear D C M
   go_wp2_with (first|(go_at_call 69;refine(tu om).mono ?_;rintro e u ⟨rfl,_⟩)|(go_at_call 70;refine(MW om I).mono ?_;rintro e u ⟨rfl,_⟩))
   go_roundw
   case rel=>exact⟨i+1,om,by go_num,ai _ _⟩
   case measure=>simp[intOf];omega
  ·obtain rfl:i=np:=om
   go_wp2_with (first|(go_at_call 69;refine(tu r).mono ?_;rintro e u ⟨rfl,_⟩)|(go_at_call 70;refine(MW r U).mono ?_;rintro e u ⟨rfl,_⟩))
   go_ret;exact⟨rfl,ai _ _⟩
end
def UQ(N:aI)(b:List TV)(x:TV):Prop:=b.map (·.1)=iU N/\(∀t∈b,bH t.1 t.2=true)/\bH x.1 x.2=true/\x.1=N.inp
def yc(v:dJ):Nat:=3+v.ins.length+v.o.S.length+(v.P.map fun s=>1+s.length).sum
def J8(N:aI):Nat:=N.inp.length+(N.nodes.map yc).sum
def EB(N:aI):Bool:=decide (J8 N<=300)&&decide (N.nodes.length<=12)
def uf(t:Tn):Nat:=1+t.zs.length+t.xs.length
def zL(ts:List Tn):Nat:=(ts.map uf).sum
section
variable{w w':World}{A B PA XA XB:Option Addr}{n m c d k np cp nx cx mx dx:Nat}{N:aI}{ps:List Tn}{ss:List Sp}{x:TV}
theorem aoJ[a:aX w A n B m N][Q:Ts w PA np ps][Sl w XA nx x.1][Sl w XB mx x.2](J:Hid N.fits)(hs:Hid N.small)(HE:Hid (bU N=0))(hO:Hid (np=(iU N).length->∀t∈ps,t.zs.length<=1000000))(D:np=(iU N).length->nx<=1000000)(S:Hid (¬UQ N (ps.map Tn.tv) x)):
  Calls Tryz.prog 24 #[.agg #[.slice A n c,.slice B m d],.slice PA np cp,.agg #[.slice XA nx cx,.slice XB mx dx]] w (aM w (.int .i64 20)):=by
 obtain⟨CB,CP⟩:=lM;have hn:n<=1000000:=by rw[a.inp.len];have:=J.out.2.1;omega
 have sI:Sl w A n N.inp:=a.inp;obtain⟨y,T⟩:=lh ((iU N).length);have U:=ae T;rw[T]at hO D;have K:=ae D;clear T D;go_enter Tryz.func24,Tryz.ntmps24
 go_upto_region 1 with fail
 refine qd (fun u0 p0 k1 k2=>?_)
 go_upto_region 5 with(first|(go_at_call 40;refine(zy J hs HE).mono ?_;rintro e u1 ⟨rfl,_⟩)|(go_at_call 68;refine(aa1 J hs).mono ?_;rintro e u2 ⟨A2,c2,ss,rfl,hS,E,_⟩;rw[U.out]))
 have L:Hid (ss.length=y):=ae (by rw[<-U.out,<-E.out,jM]);have sh:dA u2 A2 y ss:=by have b:=hS.Gh;rw[L.out]at b;exact b
 clear hS;by_cases V:np=y;rotate_left
 ·have b0:decide (np=y)=false:=by simp[V]
  have b1:((np:Int) !=(y:Int))=true:=by simp;omega
  clear V
  go_wp2_with fail
  go_ret;exact⟨rfl,ai _ _⟩
 subst V;have M:=hO.out rfl;have l:=K.out rfl;have X:=ae M;have hy6:np<=1000000000000:=by
  have b:=TA J.out N.nodes.length;rw[jq]at b;have h8:(iU N).length=np:=U.out;have h7:=J.out.1;have h6:(iU N).length<=N.nodes.length*100000:=b;omega
 clear hO M K
 go_wp2_with fail
 go_loopw [25] (fun F wr=>∃i:Nat,i<=np/\F=.int .i64 (i:Int)/\Hid (∀j,j<i->∀t,ps[j]?=some t->bH t.zs t.xs=true/\(aJ ss)[j]?=some t.zs)/\ak wr u2) (fun F _=>np-(intOf F).toNat)
 case atStart=>exact⟨0,aS _,rfl,ae fun j C=>absurd C (yH _),ai _ _⟩
 case round=>
  obtain⟨i,hi,rfl,Y,hp⟩:=hrel;by_cases O:i<np
  ·obtain⟨b3,o3,A3,m3,c3,z3,rfl,Sz,v3,s3,l3,R⟩:=sh.get O;obtain⟨b2,o2,A4,c4,z4,B4,d4,x4,rfl,jT,e0,e1,s4,y4,l4,i4,r⟩:=Q.get (k:=i) O;have i1:(i:Int)<(np:Int):=by omega
   have Ou:z4.length<=1000000:=X.out _ (aK r.out);have P:m3<=1000000:=by
    rw[s3.len];have b:z3∈iU N:=by rw[<-E.out];exact aK R.out
    obtain⟨v,hv,hz⟩:=CX.1 b;have:=(J.out.2.2 v hv).2.2.2 z3 hz;omega
   obtain⟨Z,G⟩:=lh (bH z4 x4);cases Z with
   |false=>
    clear r
    go_wp2_with (go_at_call 69;refine(tu om).mono ?_;rintro e u ⟨rfl,_⟩)
    go_ret;exact⟨rfl,ai _ _⟩
   |true=>
    by_cases I:z4=z3
    ·subst I;have EC:Hid (∀j,j<i+1->∀t,ps[j]?=some t->bH t.zs t.xs=true/\(aJ ss)[j]?=some t.zs):=ae fun j C t ht=>by
      by_cases hji:j<i
      ·exact Y.out j hji t ht
      ·obtain rfl:j=i:=om;rw[r.out]at ht;obtain rfl:=eP ht;exact⟨G,R.out⟩
     clear r R
     go_wp2_with (first|(go_at_call 69;refine(tu om).mono ?_;rintro e u ⟨rfl,_⟩)|(go_at_call 70;refine(MW om P).mono ?_;rintro e u ⟨rfl,_⟩))
     go_roundw
     case rel=>exact⟨i+1,om,by go_num,EC,ai _ _⟩
     case measure=>simp[intOf];omega
    ·have b0:decide (z4=z3)=false:=by simp[I]
     clear r R I
     go_wp2_with (first|(go_at_call 69;refine(tu om).mono ?_;rintro e u ⟨rfl,_⟩)|(go_at_call 70;refine(Dq om P).mono ?_;rintro e u ⟨rfl,_⟩))
     go_ret;exact⟨rfl,ai _ _⟩
  ·obtain rfl:i=np:=om;have z:¬(bH x.1 x.2=true/\x.1=N.inp):=fun⟨h1,h2⟩=>S.out ⟨by
    rw[<-E.out];apply pE;intro j;rw[dE,dE];cases C:ps[j]? with
    |none=>
     have b:=Pt.1 C;rw[Pt.2 (by rw[jM,L.out,Q.len];exact b)];rfl
    |some t=>
     have b:=(aY.1 C).1;rw[<-Q.len]at b;exact(Y.out j b t C).2.symm,fun t ht=>by
    obtain⟨u,hu,rfl⟩:=dG.1 ht;obtain⟨j,C⟩:=jF hu;have b:=(aY.1 C).1;rw[<-Q.len]at b;exact(Y.out j b u C).1,h1,h2⟩
   obtain⟨Z,G⟩:=lh (bH x.1 x.2);cases Z with
   |false=>
    clear z
    go_wp2_with (go_at_call 69;refine(tu l).mono ?_;rintro e u ⟨rfl,_⟩)
    go_ret;exact⟨rfl,ai _ _⟩
   |true=>
    have b0:decide (x.1=N.inp)=false:=by
     have:¬x.1=N.inp:=fun h=>z ⟨G,h⟩;simp[this]
    clear z
    go_wp2_with (first|(go_at_call 69;refine(tu l).mono ?_;rintro e u ⟨rfl,_⟩)|(go_at_call 70;refine(Dq l hn).mono ?_;rintro e u ⟨rfl,_⟩))
    go_ret;exact⟨rfl,ai _ _⟩
theorem aoK{α:Type}(f:α->Nat)(l:List α)(k:Nat):((l.take k).map f).sum<=(l.map f).sum:=by
 conv=>rhs;rw[<-iX k l,gV,E5]
 exact Nat.le_add_right _ _
theorem UR{α:Type}(f:α->Nat){l:List α}{k:Nat}{x:α}(h:l[k]?=some x):((l.take (k+1)).map f).sum=((l.take k).map f).sum+f x:=by
 rw[take_at h,gV,E5];simp
def CG(ps:List Tn):Int:=wrap64 (zL ps:Nat)
theorem wR[J:Ts w PA np ps](hb:Hid (∀t∈ps,t.zs.length<=17592186043904/\t.xs.length<=17592186043904))(M:np<=140737488351232){Z:Int}(O:Hid (CG ps=Z)):Calls Tryz.prog 22 #[.slice PA np cp] w (aM w (.int .i64 Z)):=by
 obtain⟨CB,CP,FB⟩:=iK;have P:(np:Int)<=9223372036854775806:=by omega
 obtain⟨f,r⟩:∃f:Nat->Int,∀n:Nat,f n=wrap64 (n:Int):=⟨_,fun _=>rfl⟩;have Q:=ae r;have C:Hid (0=f 0):=ae (by rw[r];unfold wrap64;omega);have D:Hid (∀a b:Nat,wrap64 (f a+(b:Int))=f (a+b)):=ae fun a b=>by rw[r,r];unfold wrap64;omega
 clear M r;go_enter Tryz.func22,Tryz.ntmps22
 go_wp2_with fail
 go_loopw [3,8] (fun R E wr=>∃(i:Nat) (S:Int),i<=np/\E=.int .i64 (i:Int)/\R=.int .i64 S/\Hid (S=f ((ps.take i).map uf).sum)/\ak wr w) (fun _ E _=>np-(intOf E).toNat)
 case atStart=>exact⟨0,0,aS _,rfl,rfl,C,ai _ _⟩
 case round=>
  obtain⟨i,S,hi,rfl,rfl,K,hp⟩:=hrel;by_cases F:i<np
  ·obtain⟨b2,o2,T,c4,z4,U,V,L,rfl,X,Y,e1,s4,y4,l4,i4,l⟩:=J.get (k:=i) F;have i1:(i:Int)<(np:Int):=by omega
   have u:=hb.out _ (aK l.out);have G:=ae (UR uf l.out);obtain⟨a4,e⟩:=lh z4.length;obtain⟨z,j⟩:=lh L.length;have I:Hid (uf ⟨T,c4,z4,U,V,L⟩=1+a4+z):=ae (by unfold uf;rw[<-e,<-j]);have y:a4<=17592186043904/\z<=17592186043904:=by rw[<-e,<-j];exact u
   rw[e]at Y;rw[j]at e1;have w1:IntKind.i64.wrap (1+(a4:Int))=1+(a4:Int):=by rw[bF];omega
   have w2:IntKind.i64.wrap (1+(a4:Int)+(z:Int))=1+(a4:Int)+(z:Int):=by rw[bF];omega
   clear u y l e j s4 y4
   go_upto_region 5 with fail
   refine bI (fun u4 GJ k4=>?_)
   go_wp2_with fail
   go_roundw
   case rel=>
    refine⟨i+1,_,om,by go_num,rfl,ae ?_,ai _ _⟩;rw[G.out,I.out,K.out,<-D.out];exact eD wrap64 om
   case measure=>simp[intOf];omega
  ·obtain rfl:i=np:=om;have hS:S=Z:=by rw[K.out,dB (by rw[<-J.len];exact az _),Q.out,<-O.out];rfl
   subst hS
   go_wp2_with fail
   go_ret;exact⟨rfl,ai _ _⟩
theorem aoL(b:N.fits){v:dJ}(hv:v∈N.nodes):yc v<=20000000000:=by
 obtain⟨E,F,e,j⟩:=b.2.2 v hv;have r:∀l:List (List Int),(∀z∈l,z.length<=100000)->(l.map fun s=>1+s.length).sum<=l.length*100001:=fun l=>by
  induction l with
  |nil=>intro _;simp
  |cons a t u=>
   intro h;have y:=h a dN;have C:=u fun z D=>h z (fI _ D);rw[fe,jR,iJ];omega
 have y:=r v.P j;have C:v.P.length*100001<=100000*100001:=qV _ e;unfold yc;omega
theorem UT[a:aX w A n B m N](hf:Hid N.fits)(hs:Hid N.small):Calls Tryz.prog 23 #[.agg #[.slice A n c,.slice B m d]] w (aM w (.bool (EB N))):=by
 obtain⟨CB,CP,FB⟩:=iK;have HM:Hid (m=N.nodes.length):=ae a.len;have hm:m<=1000:=by rw[HM.out];exact hs.out.1
 obtain⟨y,hy⟩:=lh N.inp.length;have hny:n=y:=by rw[<-hy];exact a.inp.len
 have hyb:y<=100000:=by rw[<-hy];exact hf.out.2.1
 have Nz:=ae hy;subst hny;obtain⟨M,P⟩:∃q:Nat,q=20000000000:=⟨_,rfl⟩;have Q:=ae P;clear P hy;go_enter Tryz.func23,Tryz.ntmps23
 go_upto_region 1 with fail
 refine bI (fun u0 p0 k0=>?_)
 go_wp2_with fail
 go_loopw [3,14] (fun R z wr=>∃(i K:Nat),i<=m/\z=.int .i64 (i:Int)/\R=.int .i64 (K:Int)/\Hid (K=n+((N.nodes.take i).map yc).sum)/\Hid (K<=100000+i*M)/\ak wr u0) (fun _ z _=>m-(intOf z).toNat)
 case atStart=>exact⟨0,n,aS _,rfl,rfl,ae au,ae om,ai _ _⟩
 case round=>
  obtain⟨i,K,hi,rfl,rfl,HK,HB,hp⟩:=hrel;by_cases hlt:i<m
  ·have i1:(i:Int)<(m:Int):=by omega
   obtain⟨b0,q0,o,A1,n1,c1',I,ni,ci,ins,P',e,cp',b,rfl,ob,⟨v0,v1,v2,v3,v4,v5,v6,v7,v8,v9⟩,s1,si,sp,l1,li,lp',ik,r⟩:=a.node hlt;have S:=aoL hf.out (aK r.out);have T:=UR yc r.out;have U:yc ⟨o,ins,aJ b⟩=3+ni+n1+((aJ b).map fun s=>1+s.length).sum:=by
    unfold yc;dsimp only;rw[<-si.len,<-s1.len]
   have HST:Hid (K+yc ⟨o,ins,aJ b⟩=n+((N.nodes.take (i+1)).map yc).sum):=ae (by rw[HK.out,T];omega);have V:=ae U;have X:=ae S;have Y:K<=100000+1000*20000000000:=by
    have C:=HB.out;have h2:i*M<=1000*M:=qV _ om;have h3:=Q.out;omega
   have D:(aJ b).length=e:=by rw[jM];exact sp.len.symm
   have J9:=ae D;have hb3:ni+n1<=20000000000:=om;have NL:e<=100000:=by rw[<-D];have h8:=(hf.out.2.2 _ (aK r.out)).2.2.1;exact h8
   have w1:IntKind.i64.wrap (3+(ni:Int))=3+(ni:Int):=by rw[bF];omega
   have w2:IntKind.i64.wrap (3+(ni:Int)+(n1:Int))=3+(ni:Int)+(n1:Int):=by rw[bF];omega
   obtain⟨K1,Z⟩:=lg (K+(3+ni+n1));have w3:IntKind.i64.wrap ((K:Int)+(3+(ni:Int)+(n1:Int)))=(K1:Int):=by rw[bF];omega
   have uM:=ae Z;have HKB:=ae Y;clear S T U r D Z Y hb3
   go_upto_region 5 with fail
   refine bI (fun u4 GJ k4=>?_)
   go_wp2_with fail
   go_loopw [3,32] (fun R E wr=>∃(j F:Nat),j<=e/\E=.int .i64 (j:Int)/\R=.int .i64 (F:Int)/\Hid (F=K1+(((aJ b).take j).map fun s=>1+s.length).sum)/\ak wr u4) (fun _ E _=>e-(intOf E).toNat)
   case atStart=>exact⟨0,K1,aS _,rfl,rfl,ae au,ai _ _⟩
   case round=>
    obtain⟨j,F,hj,rfl,rfl,G,hp2⟩:=hrel;by_cases hlt2:j<e
    ·obtain⟨b3,o3,A3,O,c3,z3,rfl,Sz,v3,R,l3,e3⟩:=sp.get hlt2;have i2:(j:Int)<(e:Int):=by omega
     have l:=UR (fun s:List Int=>1+s.length) e3.out;have hle:(((aJ b).take (j+1)).map fun s=>1+s.length).sum<=((aJ b).map fun s=>1+s.length).sum:=aoK _ _ _;have J:z3.length=O:=R.len.symm;have hKK:F+(1+O)<=100000+1000*20000000000+20000000000:=by
      have C:=G.out;have h2:=uM.out;have h3:=V.out;have h4:=X.out;have h5:=HKB.out;rw[J]at l;omega
     have w4:IntKind.i64.wrap (1+(O:Int))=1+(O:Int):=by rw[bF];omega
     obtain⟨K3,hK3⟩:=lg (F+(1+O));have w5:IntKind.i64.wrap ((F:Int)+(1+(O:Int)))=(K3:Int):=by rw[bF];omega
     have rf:Hid (K3=K1+(((aJ b).take (j+1)).map fun s=>1+s.length).sum):=ae (by have C:=G.out;rw[J]at l;omega);clear l hle J hKK hK3 e3
     go_wp2_with fail
     go_roundw
     case rel=>exact⟨j+1,K3,om,by go_num,rfl,rf,ai _ _⟩
     case measure=>simp[intOf];omega
    ·obtain rfl:j=e:=om
     go_wp2_with fail
     go_roundw
     case rel=>
      have C:=G.out;rw[dB (by rw[J9.out];exact az _)]at C;have h2:=uM.out;have h3:=V.out;have h4:=HST.out;have h5:=HB.out;have h6:=X.out;have h7:=Q.out;have h8:(i+1)*M=i*M+M:=by rw[Hr];omega
      exact⟨i+1,F,om,by go_num,rfl,ae om,ae om,ai _ _⟩
     case measure=>simp[intOf];omega
  ·obtain rfl:i=m:=om;have hkn:K=J8 N:=by
    have C:=HK.out;rw[dB (by rw[<-HM.out];exact az _)]at C;unfold J8;rw[Nz.out];exact C
   obtain⟨f1,hf1⟩:=lh (decide ((K:Int)<=300));have u:decide (K<=300)=f1:=by rw[<-hf1];by_cases h:K<=300<;>simp[h]<;>omega
   obtain⟨f2,L⟩:=lh (decide (i<=12));have BV:Hid (EB N=(f1&&f2)):=ae (by unfold EB;rw[<-hkn,<-HM.out,u,L]);have zJ:=ae L;clear hkn L u;cases f1
   ·go_wp2_with fail
    go_ret;exact⟨by rw[BV.out];rfl,ai _ _⟩
   ·go_wp2_with fail
    go_ret;refine⟨?_,ai _ _⟩;rw[BV.out,<-zJ.out];have e9:decide ((i:Int)<=12)=decide (i<=12):=by by_cases h:i<=12<;>simp[h]<;>omega
    show Ending.returned (Value.bool (decide ((i:Int)<=12)))=_
    rw[e9];simp
end
end Go.Proofs.YtmkjnlifimffkaaGreat
