/- Lemmas. No condition. -/
import Derived.Test.YtmkjnlifimffkaaGreatS07
import Derived.ChangeMaps5
namespace Go.Proofs.YtmkjnlifimffkaaGreat
open Go.RowKit
set_option linter.all false
set_option maxRecDepth 100000
set_option maxHeartbeats 16000000
structure jv(w:World)(B g o:Nat)(cs:Array Value)(F:Nat->Prop)(t:Tb):Prop where
 blk:aD w g 141 cs
 tb:∃A n c sz,cs[o]?=some (.slice A n c)/\cs[o+1]?=some (.int .i64 sz)/\nY w B A n c F t
 rise:kT t
 len:t.length<=1000
def set2(cs:Array Value)(o:Nat)(v u:Value):Array Value:=(cs.setIfInBounds o v).setIfInBounds (o+1) u
def Mt(w:World)(B g o:Nat)(cs:Array Value)(F:Nat->Prop)(t:Tb)(v:Value)(e:Ending)(w':World):Prop:=
 e=.returned v/\∃x y F',jv w' B g o (set2 cs o x y) F' t/\Kf (fun b=>F b\/b=g) (fun b=>F' b\/b=g) w w'
section
variable{w w' u:World}{A:Option Addr}{g o q r n c B k cr i j:Nat}{t:Tb}{F:Nat->Prop}{y z h sz:Int}{b:Bool}{cs:Array Value}{vs:List Value}{E:TypeId}{v x:Value}
theorem aP.Ir(h:aP w B E k (some ⟨g,0,none⟩) c n vs)(v:Value):aP (w.setCell ⟨g,i,none⟩ v) B E k (some ⟨g,0,none⟩) c n (vs.set i v):=by
 obtain⟨cur,hg,e,l,hm,m,ht,C⟩:=h.whole;refine .mk' (cur:=cur.setIfInBounds i v) e (by simp[World.setCell,CW,hg]) l hm (by simpa using m) ?_;rw[Hf,List.take_set,ht]
theorem X4(t:Tb)(j:Nat):ic (t.take j)=(ic t).take (j*2):=by
 by_cases h:j<=t.length
 ·conv=>rhs;rw[<-iX j t,Dv]
  rw[qz (by rw[Ml,dO,iY h])]
 ·rw[dB om,dB (by rw[Ml];omega)]
theorem X6(t:Tb)(j:Nat):ic (t.drop j)=(ic t).drop (j*2):=by
 by_cases h:j<=t.length
 ·conv=>rhs;rw[<-iX j t,Dv]
  rw[Db (by rw[Ml,dO,iY h])]
 ·rw[kL om,kL (by rw[Ml];omega)];rfl
theorem agp(t:Tb)(j:Nat):ic (t.take j++t.drop (j+1))=(ic t).take (j*2)++(ic t).drop ((j+1)*2):=by rw[Dv,X4,X6]
theorem agq(t:Tb)(j:Nat)(y h:Int):ic (t.take j++(y,h)::t.drop j)=(ic t).take (j*2)++[.int .i64 y,.int .i64 h]++(ic t).drop (j*2):=by
 rw[Dv,X4,show(y,h)::t.drop j=[(y,h)]++t.drop j from rfl,Dv,X6,<-jX];rfl
theorem aP.FC{T:TypeId}(h:aP w B E k (some ⟨q,0,none⟩) c n vs)(l:aD w g T cs)(m:T≠E):g≠q:=fun e=>by
 subst e;obtain⟨cur,hg,_⟩:=h.whole;unfold aD at l;rw[hg]at l;injection l with l;injection l with D C G
 exact m C.symm
theorem aP.QG{C:TypeId}{k' c' G:Nat}{B':Nat}{m:List Value}(h:aP w B E k (some ⟨q,0,none⟩) c n vs)(I:aP w B' C k' (some ⟨r,0,none⟩) c' G m)(J:E≠C):q≠r:=fun e=>by
 subst e;obtain⟨cur,hg,_⟩:=h.whole;obtain⟨D,l,_⟩:=I.whole;rw[hg]at l;injection l with l;injection l with L K M
 exact J K
theorem nY.ne(h:nY w B A n c F t)(l:aD w g 141 cs):¬F g:=fun m=>by
 rcases h with⟨C,D,e⟩|⟨C,q,r,cr,D,e,G,J,I⟩
 ·exact e g m
 ·rcases(I g).1 m with rfl|rfl
  ·exact e.FC l ah rfl
  ·exact G.FC l ah rfl
theorem jv.cl(h:jv w B g o cs F t):∃A n c sz,Cl w g o (.slice A n c)/\Cl w g (o+1) (.int .i64 sz)/\nY w B A n c F t/\cs[o]?=some (.slice A n c)/\cs[o+1]?=some (.int .i64 sz):=by
 obtain⟨A,n,c,sz,e,l,m⟩:=h.tb;exact⟨A,n,c,sz,⟨(h.blk.cell o).trans e⟩,⟨(h.blk.cell (o+1)).trans l⟩,m,e,l⟩
theorem jv.at(h:jv w B g o cs F t)[Later w w']:jv w' B g o cs F t:=by
 obtain⟨A,n,c,sz,e,l,m⟩:=h.tb;exact⟨h.blk.at,⟨A,n,c,sz,e,l,m.at⟩,h.rise,h.len⟩
theorem X7(h:jv w B g o cs F t)(hb:Hid (qB t y=b)):Calls Tryz.prog 155 #[.pointer (some ⟨g,o,none⟩),y] w (aM w (.bool b)):=by
 obtain⟨A,n,c,sz,c1,c2,l,_⟩:=h.cl;have m:=ae l;have C:=ae h.rise;have D:=ae h.len;obtain⟨j,G⟩:=jS (gX t y);clear h l c2;go_enter Tryz.func155,Tryz.ntmps155
 go_wp2_with (go_at_call 205;refine(Ms m C D G hb).mono ?_;rintro e I ⟨rfl,_⟩)
 go_ret;exact⟨rfl,ai _ _⟩
theorem nY.entry(h:nY w B A n c F t)(hr:kT t)(hm:(y,z)∈t):n=1/\∃q r cr,A=some ⟨q,0,none⟩/\aP w B 309 1 (some ⟨q,0,none⟩) c 1 [.slice (some ⟨r,0,none⟩) t.length cr]/\aP w B 308 2 (some ⟨r,0,none⟩) cr t.length (ic t)/\(∀b,F b↔b=q\/b=r)/\gX t y<t.length/\
  Cl w q 0 (.slice (some ⟨r,0,none⟩) t.length cr)/\Cl w r (gX t y*2+1) (.int .i64 z):=by
 rcases h with⟨G,m,C⟩|⟨G,q,r,cr,m,C,I,K,J⟩
 ·subst m;cases hm
 ·have l:=Fz hr hm;refine⟨G,q,r,cr,m,C,I,J,(aY.1 l).1,⟨?_⟩,⟨?_⟩⟩
  ·obtain⟨g,e,D⟩:=C.cell (j:=0) rfl;injection e with e;injection e with e;subst e;exact D
  ·obtain⟨g,e,D⟩:=I.cell (Mm l).2;injection e with e;injection e with e;subst e;exact D
theorem X8(h:jv w B g o cs F t)(hm:(y,z)∈t):Calls Tryz.prog 203 #[.pointer (some ⟨g,o,none⟩),y] w (aM w (.tuple #[z,.bool true])):=by
 have R:=@kQ;have S:=@jK;obtain⟨A,n,c,sz,c1,c2,C,_⟩:=h.cl;have G:=ae C;have I:=ae h.rise;have J:=ae h.len;obtain⟨K,q,r,cr,L,M,N,O,l,c3,c4⟩:=C.entry h.rise hm;have P:Hid (qB t y=true):=ae (Im.2 ⟨z,hm⟩);subst K L;obtain⟨j,D⟩:=lh (gX t y);obtain⟨m,hm⟩:=lh t.length;rw[D]at l c4;rw[hm]at l c3;have Q:=ae D;have o1:Old g w:=⟨ku c1.eq⟩;have T:Old q w:=⟨ku c3.eq⟩;have U:Old r w:=⟨ku c4.eq⟩;have i1:(j:Int)<(m:Int):=by omega
 clear h C D hm M N O;go_enter Tryz.func203,Tryz.ntmps203
 go_wp2_with (go_at_call 205;refine(Ms G I J Q P).mono ?_;rintro e V ⟨rfl,_⟩)
 go_ret2;exact⟨rfl,ai _ _⟩
theorem X9(l:cs[o]?=some v):cs.setIfInBounds o v=cs:=by
 apply Di;rw[Hf];apply pE;intro k;rw[nQ]
 split
 ·rename_i e;subst e
  split
  ·rw[<-l];simp
  ·rename_i h;rw[mE (by simpa using h)]
 ·rfl
theorem QH(e:cs[o]?=some x)(v u:Value):(set2 cs o v u)[o]?=some v:=by
 have l:=(nz.1 e).1;unfold set2;rw[kJ om,He l]
theorem QI(e:cs[o+1]?=some x)(v u:Value):(set2 cs o v u)[o+1]?=some u:=by
 have l:=(nz.1 e).1;unfold set2;rw[He (by simpa using l)]
theorem FD{i:Nat}(e:i≠o)(l:i≠o+1)(v u:Value):(set2 cs o v u)[i]?=cs[i]?:=by
 unfold set2;rw[kJ om,kJ om]
theorem agr(h:jv w B g o cs F t)(hj:j<t.length):Calls Tryz.prog 206 #[.pointer (some ⟨g,o,none⟩),(0:Int),j] w (Mt w B g o cs F (t.take j++t.drop (j+1)) (.tuple #[])):=by
 have CC:=@jK;have FB:=@dV;obtain⟨A,n,c,sz,c1,c2,hM,e1,e2⟩:=h.cl;have N:Bx w g 141 cs:=⟨h.blk⟩;rcases hM with⟨h1,h2,J⟩|⟨h1,q,r,cr,h2,J,O,h5,h6⟩
 ·subst h2;simp at hj
 subst h1 h2;have gq:g≠q:=J.FC h.blk ah;have gr:g≠r:=O.FC h.blk ah;have qr:q≠r:=J.QG O ah;have c3:Cl w q 0 (.slice r t.length cr):=⟨by
  obtain⟨g,e,hc⟩:=J.cell (j:=0) rfl;injection e with e;injection e with e;subst e;exact hc⟩
 obtain⟨m,hm⟩:=lh t.length;obtain⟨K,l⟩:∃K,t.take j++t.drop (j+1)=K:=⟨_,rfl⟩;have P:K.length=m-1:=by rw[<-l,<-hm];simp;omega
 have Q:kT K:=by
  rw[<-l];have hs:(t.take j++t.drop (j+1)).Sublist t:=by
   conv=>rhs;rw[<-iX j t]
   exact Lh (Lg t (fu _)) _
  exact List.Pairwise.sublist hs h.rise
 rw[hm]at hj J O c3;have hlen:m<=1000:=by rw[<-hm];exact h.len
 have o1:Old g w:=⟨ku c1.eq⟩;have o2:Old q w:=⟨ku c3.eq⟩;have H3:=ae J;have H4:=ae O;have H6:=ae h6;have HD:Hid (aP w B 308 2 (some ⟨r,0,none⟩) cr m (ic t)):=H4;have HI:Hid ((ic t).take (j*2)++(ic t).drop ((j+1)*2)=ic K):=ae (by rw[<-l,agp]);have C:=ae P;have R:=ae Q;have M:=ae e1;have S:=ae e2;have wj:IntKind.i64.wrap ((j:Int)+1)=(j:Int)+1:=by rw[bF];omega
 rw[l];clear h J O h6 hm l P Q h5 e1 e2;go_enter Tryz.func206,Tryz.ntmps206
 go_upto_region 2 with(go_at_call 257;refine(aga HD.out (XY _) rfl rfl hj om).mono ?_;rintro e I ⟨rfl,r1,D⟩;rw[HI.out]at r1;obtain⟨T,c11,c21⟩:Bx I g 141 cs/\Cl I g o (.slice q 1 c)/\Cl I g (o+1) (.int .i64 sz):=(by have k:=D.blk N.blk (fun ad e U=>gr (by injection e with e;subst e;exact U.symm));exact⟨⟨k⟩,⟨(k.cell o).trans M.out⟩,⟨(k.cell (o+1)).trans S.out⟩⟩);obtain⟨r3,-⟩:aP I B 309 1 (some ⟨q,0,none⟩) c 1 [.slice r m cr]/\True:=⟨H3.out.iq D (fun a a' e e' U=>by injection e with e;injection e' with e';subst e e';exact qr U.symm),bO⟩;obtain⟨cq,fq⟩:Cl I q 0 (.slice r m cr)/\I.frozen? ⟨q,0,none⟩=false:=(by obtain⟨cur,hg,_⟩:=r3.whole;obtain⟨g5,V,hc⟩:=r3.cell (j:=0) rfl;injection V with V;injection V with V;subst V;exact⟨⟨hc⟩,by simp[World.frozen?,hg]⟩))
 obtain⟨v,hv⟩:=lg (I.setCell ⟨q,0,none⟩ (.slice r (m-1) cr));have X:aP v B 309 1 (some ⟨q,0,none⟩) c 1 [.slice r (m-1) cr]:=by rw[hv];exact r3.Ir (i:=0) (.slice r (m-1) cr)
 have Y:aP v B 308 2 (some ⟨r,0,none⟩) cr (m-1) (ic K):=by
  rw[hv];exact r1.same fun ad e=>by injection e with e;subst e;exact dM I ⟨q,0,none⟩ _ r (lI qr)
 have L:Bx v g 141 cs:=⟨by rw[hv];exact T.blk.far gq _⟩;have kf:Kf (fun b=>F b\/b=g) (fun b=>F b\/b=g) w v:=by
  rw[hv];refine((Kf.iq D).more (G:=fun b=>F b\/b=g) (G':=fun b=>F b\/b=g) (fun b hb=>.inl ((H6.out b).2 (.inr (pR.1 hb).symm))) (fun b hb=>.inr (.inl hb))).aF (.inl ((H6.out q).2 (.inl rfl))) _
 have KF:=ae kf;have R3:=ae X;have R1:=ae Y;rw[<-hv];have cgv:Cl v g o (.slice q 1 c):=⟨(L.blk.cell o).trans M.out⟩;have cgs:Cl v g (o+1) (.int .i64 sz):=⟨(L.blk.cell (o+1)).trans S.out⟩;clear hv kf X Y r1 r3 D cq fq T c11 c21 c1 c2 c3 N o1 o2;have N:=L;by_cases Z:m-1=0
 ·have d1:(((m-1:Nat):Int)==0)=true:=by rw[Z];rfl
  have HT0:Hid (K=[]):=ae (rZ (by rw[C.out,Z]));rw[Z];clear Z
  go_upto_region 4 with(go_at_call 258;refine(agc R3.out (i:=0) (by simp[Value.oneCell']) rfl rfl ah ah).mono ?_;rintro e u2 ⟨rfl,r4,Ya⟩;obtain⟨uJ,c12,c22⟩:Bx u2 g 141 cs/\Cl u2 g o (.slice q 1 c)/\Cl u2 g (o+1) (.int .i64 sz):=(by have k:=Ya.blk N.blk (fun ad e U=>gq (by injection e with e;subst e;exact U.symm));exact⟨⟨k⟩,⟨(k.cell o).trans M.out⟩,⟨(k.cell (o+1)).trans S.out⟩⟩))
  go_wp2_with fail
  refine⟨rfl,.tuple #[],by simp[results,Tryz.results206,go_sem],rfl,_,_,fun _=>False,⟨(uJ.blk.aF o _).aF (o+1) _,⟨_,_,_,_,QH M.out _ _,QI S.out _ _,.inl ⟨rfl,HT0.out,fun _ h=>h⟩⟩,R.out,by rw[HT0.out];exact aS _⟩,?_⟩;have k2:Kf (fun b=>F b\/b=g) (fun b=>False\/b=g) w u2:=KF.out.trans ((Kf.iq Ya).more (fun b hb=>.inl ((H6.out b).2 (.inl (pR.1 hb).symm))) (fun b hb=>.inr (.inl (hb.elim (fun h=>h.elim) .inr))));exact(k2.aF (.inr rfl) _).aF (.inr rfl) _
 ·have d1:(((m-1:Nat):Int)==0)=false:=by simp;omega
  have HP:Hid (0<m-1):=ae om;clear Z
  go_wp2_with fail
  have es:set2 cs o (.slice q 1 c) (.int .i64 (wrap64 (sz-1)))=cs.setIfInBounds (o+1) (.int .i64 (wrap64 (sz-1))):=by rw[set2,X9 M.out]
  refine⟨rfl,.tuple #[],by simp[results,Tryz.results206,go_sem],rfl,.slice q 1 c,.int .i64 (wrap64 (sz-1)),F,⟨by rw[es];exact N.blk.aF (o+1) _,⟨_,_,_,_,QH M.out _ _,QI S.out _ _,.inr ⟨rfl,q,r,cr,rfl,?_,?_,by rw[C.out];exact HP.out,H6.out⟩⟩,R.out,by rw[C.out];omega⟩,KF.out.aF (.inr rfl) _⟩
  ·rw[C.out];exact R3.out.same fun ad e=>by injection e with e;subst e;exact dM v ⟨g,o+1,none⟩ _ q (lI gq)
  ·rw[C.out];exact R1.out.same fun ad e=>by injection e with e;subst e;exact dM v ⟨g,o+1,none⟩ _ r (lI gr)
end
section
variable{w w' u:World}{A:Option Addr}{g o q r n c B k cr i j:Nat}{t:Tb}{F:Nat->Prop}{y z h sz:Int}{b:Bool}{cs:Array Value}{vs:List Value}{E:TypeId}{v x:Value}
theorem agt(h:jv w B g o cs F t)(hm:(y,z)∈t):Calls Tryz.prog 152 #[.pointer (some ⟨g,o,none⟩),y] w (Mt w B g o cs F (BO t y) (.tuple #[z,.bool true])):=by
 have CP:=@kQ;have CC:=@jK;obtain⟨A,n,c,sz,c1,c2,D,_⟩:=h.cl;have K:=ae D;have L:=ae h.rise;have M:=ae h.len;have N:=ae h;obtain⟨O,q,r,cr,P,Q,R,S,l,c3,c4⟩:=D.entry h.rise hm;have T:Hid (qB t y=true):=ae (Im.2 ⟨z,hm⟩);subst O P;obtain⟨j,C⟩:=lh (gX t y);obtain⟨m,hm⟩:=lh t.length;have U:Hid (BO t y=t.take j++t.drop (j+1)):=ae (by rw[BO,C]);rw[C]at l c4;rw[hm]at l c3;have V:=ae C;have G:Hid (j<t.length):=ae (by rw[hm];exact l);have o1:Old g w:=⟨ku c1.eq⟩;have o2:Old q w:=⟨ku c3.eq⟩;have o3:Old r w:=⟨ku c4.eq⟩;have i1:(j:Int)<(m:Int):=by omega
 rw[U.out];clear h D C hm Q R S;go_enter Tryz.func152,Tryz.ntmps152
 go_wp2_with (first|(go_at_call 205;refine(Ms K L M V T).mono ?_;rintro e u1 ⟨rfl,_⟩)|(go_at_call 206;refine(agr N.out.at G.out).mono ?_;rintro e u2 ⟨rfl,X,Y,Z,I,J⟩))
 go_ret2;exact⟨rfl,X,Y,Z,I,(Kf.later _ (w:=w)).trans J⟩
theorem agu(h:jv w B g o cs F t)(hn:Hid (qB t y=false))(hl:t.length<=200)(hB:B<=w.heap.size):Calls Tryz.prog 202 #[.pointer (some ⟨g,o,none⟩),y,z] w (Mt w B g o cs F (pU t y z) (.bool true)):=by
 have CP:=@kQ;have CC:=@jK;have FB:=@dV;obtain⟨A,n,c,sz,c1,c2,hM,e1,e2⟩:=h.cl;have HM:=ae hM;have HR:=ae h.rise;have HL:=ae h.len;have kb:Bx w g 141 cs:=⟨h.blk⟩;obtain⟨j,hj⟩:=lh (gX t y);have HJ:=ae hj;have HRS:Hid (kT (pU t y z)):=ae (XK h.rise (Qx.1 hn.out));have HTS:Hid (pU t y z=t.take j++(y,z)::t.drop j):=ae (by rw[pU,hj]);have E1:=ae e1;have E2:=ae e2;have o1:Old g w:=⟨ku c1.eq⟩;have P:=ae hl;have HBB:=ae hB;have HJL:Hid (j<=t.length):=ae (by rw[<-hj];exact XI _ _);clear h hj e1 e2 hM;go_enter Tryz.func202,Tryz.ntmps202
 go_upto_region 6 with(go_at_call 205;refine(Ms HM HR HL HJ hn).mono ?_;rintro e u1 ⟨rfl,_⟩)
 obtain⟨v,hv⟩:=lg (u1.setCell ⟨g,o+1,none⟩ (.int .i64 (wrap64 (sz+1))));have G:Bx u1 g 141 cs:=iin;have l:Bx v g 141 (cs.setIfInBounds (o+1) (.int .i64 (wrap64 (sz+1)))):=⟨by rw[hv];exact G.blk.aF (o+1) _⟩;have Q:nY v B A n c F t:=by
  have h9:nY u1 B A n c F t:=HM.out.at;rw[hv];exact h9.keep fun b hb=>dM u1 ⟨g,o+1,none⟩ _ b fun e=>h9.ne G.blk (by have R:b=g:=e;rw[<-R];exact hb)
 have kf:Kf (fun b=>F b\/b=g) (fun b=>F b\/b=g) w v:=by rw[hv];exact(Kf.later _ (w:=w)).aF (.inr rfl) _
 have S:B<=v.heap.size:=aZ HBB.out kf.size;have I:Hid ((cs.setIfInBounds (o+1) (.int .i64 (wrap64 (sz+1))))[o]?=some (.slice A n c)):=ae ((kJ (show o+1≠o by omega)).trans E1.out);have cgv:Cl v g o (.slice A n c):=⟨(l.blk.cell o).trans I.out⟩;have KF:=ae kf;have uL:=ae Q;have J:=ae S;rw[<-hv];clear hv kf Q S c1 c2 kb G o1 hB;have o1:Old g v:=⟨l.blk.lt⟩;have T:Hid (∀(W:World) (x:Value) (A2:Option Addr) (n2 c2:Nat) (F':Nat->Prop),x=.slice A2 n2 c2->aD W g 141 ((cs.setIfInBounds (o+1) (.int .i64 (wrap64 (sz+1)))).setIfInBounds o x)->nY W B A2 n2 c2 F' (pU t y z)->Kf (fun b=>F b\/b=g) (fun b=>F' b\/b=g) w W->Mt w B g o cs F (pU t y z) (.bool true) (.returned (.bool true)) W):=ae fun W x A2 n2 c2 F' U hb hm hk=>by
  have es:(cs.setIfInBounds (o+1) (.int .i64 (wrap64 (sz+1)))).setIfInBounds o x=set2 cs o x (.int .i64 (wrap64 (sz+1))):=by
   unfold set2;apply Di;simp only[Hf];exact List.set_comm _ _ om
  rw[es]at hb;exact⟨rfl,x,_,F',⟨hb,⟨A2,n2,c2,_,by rw[QH E1.out,U],QI E2.out _ _,hm⟩,HRS.out,by rw[XL];have:=P.out;omega⟩,hk⟩
 rcases uL.out with⟨h1,h2,C⟩|⟨h1,q,r,cr,h2,C,N,h5,h6⟩
 ·have H3:=ae C;have H2:=ae h2;subst h1;clear h2 C
  go_wp2_with fail
  go_ret;have hgv:g<v.heap.size:=l.blk.lt;have K:pU t y z=[(y,z)]:=by rw[H2.out];rfl
  refine T.out _ _ (some ⟨v.heap.size+1,0,none⟩) 1 1 (fun b=>b=v.heap.size+1\/b=v.heap.size) rfl (((l.blk.alloc _).alloc _).aF o _) (.inr ⟨rfl,v.heap.size+1,v.heap.size,1,rfl,?_,?_,by rw[K];exact Nat.one_pos,fun b=>Iff.rfl⟩) ?_
  ·rw[K];exact .mk' (cur:= #[.slice v.heap.size 1 1]) (by have:=J.out;omega) (aD.far (aD.new' _ _ _ au) (by show v.heap.size+1≠g;omega) _) ah ah rfl rfl
  ·rw[K];exact .mk' (cur:= #[y,z]) J.out (aD.far ((aD.new v 308 _).alloc _) (by show v.heap.size≠g;omega) _) (az _) ah rfl rfl
  ·refine Kf.aF (((KF.out.alloc _).alloc _).more (fun b hb=>hb) (fun b hb=>?_)) (.inr rfl) _;have:=KF.out.size;rcases hb with(hb|hb)|hb
   ·exact .inr (.inr om)
   ·exact .inr (.inr om)
   ·exact .inr (.inl (.inr hb))
 ·subst h1 h2;have gq:g≠q:=C.FC l.blk ah;have gr:g≠r:=N.FC l.blk ah;have qr:q≠r:=C.QG N ah;have c3:Cl v q 0 (.slice r t.length cr):=⟨by
   obtain⟨g,e,hc⟩:=C.cell (j:=0) rfl;injection e with e;injection e with e;subst e;exact hc⟩
  obtain⟨m,hm⟩:=lh t.length;rw[hm]at C N c3;have H3:=ae C;have H4:=ae N;have H6:=ae h6;have HM9:=ae hm;have FE:r<v.heap.size:=N.lt _ rfl;have HJM:Hid (j<=m):=ae (by rw[<-hm];exact HJL.out);have V:Hid (m<=200):=ae (by rw[<-hm];exact P.out);have HIC:Hid ((ic t).take (j*2)++[.int .i64 y,.int .i64 z]++(ic t).drop (j*2)=ic (pU t y z)):=ae (by rw[HTS.out,agq]);clear C N h5 h6 hm hl
  go_upto_region 10 with(go_at_call 248;(with_reducible refine qZ (fun X p5 k5=>?_));refine(agi (H4.out.at (w':=X)) (XY _) (us:=[.int .i64 y,.int .i64 z]) k5.blk rfl (by simp[Value.oneCell']) (fun ad e=>by injection e with e;subst e;show r≠_;omega) rfl HJM.out (by have:=V.out;omega) (aZ J.out (aH (w:=v) (w':=X)))).mono ?_;rintro e O ⟨A6,c6,rfl,r6,L⟩;rw[HIC.out]at r6;obtain⟨Y,D⟩:Bx O g 141 (cs.setIfInBounds (o+1) (.int .i64 (wrap64 (sz+1))))/\aP O B 309 1 (some ⟨q,0,none⟩) c 1 [.slice r m cr]:=⟨⟨L.blk (l.blk.at (w':=X)) (fun ad e U=>gr (by injection e with e;subst e;exact U.symm))⟩,(H3.out.at (w':=X)).iq L (fun a a' e R U=>by injection e with e;injection R with R;subst e R;exact qr U.symm)⟩;obtain⟨cq,fq⟩:Cl O q 0 (.slice r m cr)/\O.frozen? ⟨q,0,none⟩=false:=(by obtain⟨cur,hg,_⟩:=D.whole;obtain⟨g5,Z,hc⟩:=D.cell (j:=0) rfl;injection Z with Z;injection Z with Z;subst Z;exact⟨⟨hc⟩,by simp[World.frozen?,hg]⟩);have cg6:Cl O g o (.slice q 1 c):=⟨(Y.blk.cell o).trans I.out⟩)
  have d2:decide ((256:Int)<(m:Int)+1)=false:=by have:=V.out;simp;omega
  go_wp2_with fail
  go_ret;have M:(pU t y z).length=m+1:=by rw[XL,HM9.out]
  rcases r6.form with⟨_,h0,_⟩|⟨r',ate,rfl,hB6,hg6,ath,QJ,hc6,ht6⟩
  ·omega
  have agC:q≠r':=D.QG r6 ah;refine T.out _ _ (some ⟨q,0,none⟩) 1 c (fun b=>b=q\/b=r') rfl ?_ (.inr ⟨rfl,q,r',c6,rfl,?_,?_,by rw[M];exact Fp _,fun b=>Iff.rfl⟩) ?_
  ·rw[X9 I.out];exact Y.blk.far gq _
  ·rw[M];exact D.Ir (i:=0) (.slice r' (m+1) c6)
  ·rw[M];exact r6.same fun ad e=>by injection e with e;subst e;exact dM O ⟨q,0,none⟩ _ r' (lI agC)
  ·have k5:Kf (fun b=>F b\/b=g) (fun b=>F b\/b=g) w X:=KF.out.trans (Kf.later _);refine Kf.aF (k5.trans ((Kf.iq L).more (fun b hb=>.inl ((H6.out b).2 (.inr (pR.1 hb).symm))) (fun b hb=>?_))) (.inl (.inl rfl)) _;rcases hb with(hb|hb)|hb
   ·exact .inr (.inl (.inl ((H6.out b).2 (.inl hb))))
   ·exact .inl (pR.2 hb.symm)
   ·exact .inr (.inl (.inr hb))
end
abbrev Ae(x:Int×Int):Value×Value:=(.int .i64 x.1,.int .i64 x.2)
def jL(w:World)(q:Nat)(mp:List (Int×Int)):Prop:=∃j b,w.heap[q]?=some (.map j b)/\j.toList.map (fun e=>(e.key,e.val))=mp.map Ae
section
variable{w w':World}{q g:Nat}{mp:List (Int×Int)}{k z:Int}{T:TypeId}{cs:Array Value}
theorem jL.lt(h:jL w q mp):q<w.heap.size:=by
 obtain⟨e,c,b,_⟩:=h;exact(nz.1 b).1
theorem jL.same(h:jL w q mp)(b:w'.heap[q]?=w.heap[q]?):jL w' q mp:=by
 obtain⟨e,c,j,l⟩:=h;exact⟨e,c,b.trans j,l⟩
theorem jL.at(h:jL w q mp)[l:Later w w']:jL w' q mp:=h.same (l.st.block _ h.lt)
theorem jL.ne(h:jL w q mp){cur:Array Value}{f:Nat×Nat}(hb:w.heap[g]?=some (.cells cur T f)):g≠q:=fun e=>by
 subst e;obtain⟨j,c,b,_⟩:=h;rw[b]at hb;cases hb
theorem int_inj{a b:Int}(h:Value.int .i64 a=.int .i64 b):a=b:=by injection h
theorem yS(k:Int):MapKept.IsKey (.int .i64) (.int .i64 k):=by simp[MapKept.IsKey]
theorem Mv{b:Array MapEntry}(h:b.toList.map (fun e=>(e.key,e.val))=mp.map Ae):∀x∈b.toList,MapKept.IsKey (.int .i64) x.key:=fun x j=>by
 have:(x.key,x.val)∈mp.map Ae:=by rw[<-h];exact dG.2 ⟨x,j,rfl⟩
 obtain⟨y,_,l⟩:=dG.1 this;have:x.key=.int .i64 y.1:=(eD Prod.fst l).symm;rw[this];exact yS _
theorem Mw{b:Array MapEntry}(h:b.toList.map (fun e=>(e.key,e.val))=mp.map Ae){j:Nat}{e:MapEntry}(r:b.toList[j]?=some e):∃x,mp[j]?=some x/\e.key=.int .i64 x.1/\e.val=.int .i64 x.2:=by
 have l:(b.toList.map (fun e=>(e.key,e.val)))[j]?=some (e.key,e.val):=by rw[dE,r];rfl
 rw[h,dE]at l;obtain⟨x,u,m⟩:=bN.1 l;exact⟨x,u,(eD Prod.fst m).symm,(eD Prod.snd m).symm⟩
theorem Mx:Tryz.prog.underlying 195=some (.map 3 3):=aj
theorem agD{j:Nat}{x:Int×Int}(r:(mp.map (·.1)).Nodup)(b:mp[j]?=some x)(hm:(x.1,z)∈mp):x=(x.1,z):=by
 obtain⟨i,hi⟩:=jF hm;have u:(mp.map (·.1))[j]?=some x.1:=by rw[dE,b];rfl
 have y:(mp.map (·.1))[i]?=some x.1:=by rw[dE,hi];rfl
 obtain⟨l1,e⟩:=aY.1 u;obtain⟨l,m⟩:=aY.1 y;have:i=j:=by
  have hp:=yz.1 r;rcases Py i j with h|h|h
  ·exact absurd (m.trans e.symm) (hp i j l l1 h)
  ·exact h
  ·exact absurd (e.trans m.symm) (hp j i l1 l h)
 subst this;rw[b]at hi;exact eP hi
theorem jL.look(h:jL w q mp)(y:(mp.map (·.1)).Nodup)(hm:(k,z)∈mp):∀w':World,w'.heap[q]?=w.heap[q]?->(Instr.lookup 195 (.map (some q)) (.int .i64 k) true).run Tryz.prog w'=.ok (.tuple #[z,.bool true]) w':=fun w' B=>by
 obtain⟨u,c,C,b⟩:=h;have hd:=Tryz.underlying3;rcases LH (yS k) u.toList 0 (Mv b)with⟨_,l⟩|⟨j,e,D,l,E⟩
 ·exfalso;have:Ae (k,z)∈u.toList.map (fun e=>(e.key,e.val)):=by rw[b];exact dG.2 ⟨_,hm,rfl⟩
  obtain⟨e,F,m⟩:=dG.1 this;exact l e F (eD Prod.fst m)
 ·obtain⟨x,m,G,hv⟩:=Mw b l;have r:x.1=k:=int_inj (G.symm.trans E);subst r;have:=agD y m hm;have I:x.2=z:=eD Prod.snd this;rw[I]at hv;simp[Instr.lookup,vQ Mx,LB (B.trans C),LG hd (yS x.1),LJ hd D,Result.andThen,hv]
theorem jL.agF(h:jL w q mp)(hm:k∉mp.map (·.1)):∃l,(Instr.mapUpdate 195 (.map (some q)) (.int .i64 k) (.int .i64 z)).run Tryz.prog w=.ok () l/\jL l q (mp++[(k,z)])/\(∀b,b≠q->l.heap[b]?=w.heap[b]?)/\l.heap.size=w.heap.size/\Below 0 w l:=by
 obtain⟨B,c,m,r⟩:=h;have hd:=Tryz.underlying3;rcases LH (yS k) B.toList 0 (Mv r)with⟨C,_⟩|⟨j,e,C,D,E⟩
 ·refine⟨ChangeMaps.setBlock w q (.map (B.push {key:=.int .i64 k,val:=.int .i64 z,born:=c}) (c+1)),by simp[Instr.mapUpdate,vQ Mx,LB m,LG hd (yS k),LJ hd C,PY _ m,Result.andThen,ChangeMaps.setBlock],
   ⟨_,_,PH m _,by simp[r,Ae]⟩,fun b u=>PE m _ u,by simp[ChangeMaps.setBlock],⟨rfl,rfl,rfl,by simp[ChangeMaps.setBlock],fun b hb=>absurd hb (yH _)⟩⟩
 ·exfalso;obtain⟨x,F,G,_⟩:=Mw r D;have y:=E.symm.trans G;injection y with _ y
  exact hm (dG.2 ⟨x,aK F,y.symm⟩)
theorem agG{j:Nat}{x:Int×Int}(B:(mp.map (·.1)).Nodup)(b:mp[j]?=some x)(z:Int):zZ mp x.1 z=mp.set j (x.1,z):=by
 apply pE;intro i;rw[zZ,dE,nQ]
 split
 ·rename_i e;subst e;rw[if_pos (aY.1 b).1,b];simp
 ·rename_i l;cases C:mp[i]? with
  |none=>rfl
  |some y=>
   have D:y.1≠x.1:=fun e=>by
    have E:(mp.map (·.1))[j]?=some x.1:=by rw[dE,b];rfl
    have F:(mp.map (·.1))[i]?=some x.1:=by rw[dE,C,<-e];rfl
    obtain⟨l1,m⟩:=aY.1 E;obtain⟨r,u⟩:=aY.1 F;have hp:=yz.1 B;rcases Hg l with h|h
    ·exact hp j i l1 r h (m.trans u.symm)
    ·exact hp i j r l1 h (u.trans m.symm)
   simp[D]
theorem jL.agH(h:jL w q mp)(I:(mp.map (·.1)).Nodup)(hm:k∈mp.map (·.1)):∃m,(Instr.mapUpdate 195 (.map (some q)) (.int .i64 k) (.int .i64 z)).run Tryz.prog w=.ok () m/\jL m q (zZ mp k z)/\(∀b,b≠q->m.heap[b]?=w.heap[b]?)/\m.heap.size=w.heap.size/\Below 0 w m:=by
 obtain⟨u,c,y,B⟩:=h;have hd:=Tryz.underlying3;rcases LH (yS k) u.toList 0 (Mv B)with⟨_,l⟩|⟨j,e,J,l,G⟩
 ·exfalso;obtain⟨x,C,rfl⟩:=dG.1 hm;have:Ae x∈u.toList.map (fun e=>(e.key,e.val)):=by rw[B];exact dG.2 ⟨_,C,rfl⟩
  obtain⟨e,K,D⟩:=dG.1 this;exact l e K (eD Prod.fst D)
 ·obtain⟨x,C,L,_⟩:=Mw B l;have E:x.1=k:=int_inj (L.symm.trans G);have M:u[j]?=some e:=by simpa using l
  refine⟨ChangeMaps.setBlock w q (.map (u.modify j fun e=>{e with key:=.int .i64 k,val:=.int .i64 z}) c),by simp[Instr.mapUpdate,vQ Mx,LB y,LG hd (yS k),LJ hd J,M,G,MapKept.run_keyThatStays (yS k),PY _ y,Result.andThen,ChangeMaps.setBlock],
   ⟨_,_,PH y _,?_⟩,fun b F=>PE y _ F,by simp[ChangeMaps.setBlock],⟨rfl,rfl,rfl,by simp[ChangeMaps.setBlock],fun b hb=>absurd hb (yH _)⟩⟩
  rw[<-E,agG I C,Bw,<-B,Array.toList_modify];apply pE;intro i;rw[dE,List.getElem?_modify,nQ,dE];by_cases r:j=i
  ·subst r;have:=(aY.1 l).1;rw[l];simp;simpa using this
  ·simp[r]
theorem jL.del(h:jL w q mp)(P:(mp.map (·.1)).Nodup)(hm:k∈mp.map (·.1)):∃u,(∀L,(Builtin.delete_ #[195,3] L #[.map (some q),k]).run Tryz.prog w=.ok (.tuple #[]) u)/\jL u q (mp.filter fun e=>e.1 !=k)/\(∀b,b≠q->u.heap[b]?=w.heap[b]?)/\u.heap.size=w.heap.size/\Below 0 w u:=by
 obtain⟨C,c,D,E⟩:=h;have hd:=Tryz.underlying3;rcases LH (yS k) C.toList 0 (Mv E)with⟨_,F⟩|⟨j,e,Q,F,R⟩
 ·exfalso;obtain⟨x,B,rfl⟩:=dG.1 hm;have:Ae x∈C.toList.map (fun e=>(e.key,e.val)):=by rw[E];exact dG.2 ⟨_,B,rfl⟩
  obtain⟨e,S,G⟩:=dG.1 this;exact F e S (eD Prod.fst G)
 ·obtain⟨x,B,U,_⟩:=Mw E F;have m:x.1=k:=int_inj (U.symm.trans R);refine⟨ChangeMaps.setBlock w q (.map (C.eraseIdxIfInBounds (0+j)) c),fun L=>by simp[Builtin.delete_,vQ Mx,LB D,LG hd (yS k),LJ hd Q,PY _ D,Result.andThen,ChangeMaps.setBlock],
   ⟨_,_,PH D _,?_⟩,fun b l=>PE D _ l,by simp[ChangeMaps.setBlock],⟨rfl,rfl,rfl,by simp[ChangeMaps.setBlock],fun b hb=>absurd hb (yH _)⟩⟩
  have I:=(aY.1 F).1;have J:0+j<C.size:=by simpa using I
  rw[Array.eraseIdxIfInBounds,dif_pos J,Array.toList_eraseIdx,fo,List.eraseIdx_eq_take_drop_succ,gV,yJ,Dh,E,<-yJ,<-Dh,<-gV];refine eD (List.map Ae) ?_;have hp:=yz.1 P;have key:∀i y,mp[i]?=some y->(y.1=k↔i=j):=fun i y r=>by
   constructor
   ·intro e;have V:(mp.map (·.1))[j]?=some k:=by rw[dE,B,<-m];rfl
    have X:(mp.map (·.1))[i]?=some k:=by rw[dE,r,<-e];rfl
    obtain⟨l1,M⟩:=aY.1 V;obtain⟨N,O⟩:=aY.1 X;rcases Py i j with h|h|h
    ·exact absurd (O.trans M.symm) (hp i j N l1 h)
    ·exact h
    ·exact absurd (M.trans O.symm) (hp j i l1 N h)
   ·rintro rfl;rw[B]at r;rw[<-eP r,m]
  have hs:=BM B;have c1:(mp.take j).filter (fun e=>e.1 !=k)=mp.take j:=List.filter_eq_self.2 fun y r=>by
   obtain⟨i,K,hi⟩:=XE r;have:=(key i y hi).1;have l:y.1≠k:=fun e=>by have:=this e;omega
   simpa using l
  have c2:(mp.drop (j+1)).filter (fun e=>e.1 !=k)=mp.drop (j+1):=List.filter_eq_self.2 fun y r=>by
   obtain⟨i,K,hi⟩:=XF r;have:=(key i y hi).1;have l:y.1≠k:=fun e=>by have:=this e;omega
   simpa using l
  conv=>rhs;rw[hs]
  rw[Lx,List.filter_cons,c1,c2,if_neg (by simp[m])]
end
structure oo where
 Ac:Option Addr
 cc:Nat
 Ab:Option Addr
 cb:Nat
 q:Nat
def oo.F(a:oo)(r b:Nat):Prop:=b=r\/b=a.q\/AF a.Ac b\/AF a.Ab b
def gY(bs:List dW):List Value:=bs.flatMap fun b=>[.int .i64 b.h,.int .i64 b.fr,.int .i64 b.wd]
abbrev jh(a:oo)(v:bL):Array Value:= #[v.cap,.slice a.Ac v.cs.length a.cc,.slice a.Ab v.bs.length a.cb,.map (some a.q),v.pk,v.nx,v.lv,v.hi,v.pe,v.mv]
structure bQ(w:World)(B r:Nat)(a:oo)(v:bL):Prop where
 hd:aD w r 197 (jh a v)
 cs:aG w B 65 a.Ac a.cc v.cs
 bs:aP w B 311 3 a.Ab a.cb v.bs.length (gY v.bs)
 mp:jL w a.q v.mp
 hr:B<=r
 hq:B<=a.q
section
variable{w w' u:World}{B r g k n i j c:Nat}{a a':oo}{v v':bL}{b:dW}{bs:List dW}{A A':Option Addr}{x:Value}{y z:Int}
theorem FH(bs:List dW):(gY bs).length=bs.length*3:=by
 induction bs with
 |nil=>rfl
 |cons t l e=>simp[gY]at e⊢;omega
theorem FI(bs cs:List dW):gY (bs++cs)=gY bs++gY cs:=by simp[gY]
theorem Yb(bs:List dW):∀v∈gY bs,v.oneCell'=true:=fun v hv=>by
 obtain⟨x,_,e⟩:=CX.1 hv;simp at e;rcases e with rfl|rfl|rfl<;>rfl
theorem QK:∀{bs:List dW} {j:Nat} {x:dW},bs[j]?=some x->(gY bs)[j*3]?=some (.int .i64 x.h)/\(gY bs)[j*3+1]?=some (.int .i64 x.fr)/\(gY bs)[j*3+2]?=some (.int .i64 x.wd)
 |u::l,0,x,h=>by simp at h;subst h;simp[gY]
 |u::l,j+1,x,h=>by
  have:=QK (bs:=l) (j:=j) (x:=x) (by simpa using h);have e:gY (u::l)=[.int .i64 u.h,.int .i64 u.fr,.int .i64 u.wd]++gY l:=by simp[gY]
  rw[e,lC bD,lC bD,lC bD];simp only[iJ,E8];rw[show(j+1)*3-(0+1+1+1)=j*3 from om,show(j+1)*3+1-(0+1+1+1)=j*3+1 from om,show(j+1)*3+2-(0+1+1+1)=j*3+2 from om];exact this
theorem Yc(t:List dW)(j:Nat):gY (t.take j)=(gY t).take (j*3):=by
 by_cases h:j<=t.length
 ·conv=>rhs;rw[<-iX j t,FI]
  rw[qz (by rw[FH,dO,iY h])]
 ·rw[dB om,dB (by rw[FH];omega)]
theorem Yd(t:List dW)(j:Nat):gY (t.drop j)=(gY t).drop (j*3):=by
 by_cases h:j<=t.length
 ·conv=>rhs;rw[<-iX j t,FI]
  rw[Db (by rw[FH,dO,iY h])]
 ·rw[kL om,kL (by rw[FH];omega)];rfl
theorem agI{bs:List dW}{j:Nat}{x:dW}(l:bs[j]?=some x)(t:Nat):gY (bs.set j ⟨x.h,t,x.wd⟩)=(gY bs).set (j*3+1) (.int .i64 t):=by
 have C:=(aY.1 l).1;have e:=BM l;have D:bs.set j ⟨x.h,t,x.wd⟩=bs.take j++⟨x.h,t,x.wd⟩::bs.drop (j+1):=List.set_eq_take_append_cons_drop.trans (if_pos C);rw[D]
 conv=>rhs;rw[e]
 have m:∀y:dW,gY (y::bs.drop (j+1))=[.int .i64 y.h,.int .i64 y.fr,.int .i64 y.wd]++gY (bs.drop (j+1)):=fun y=>by simp[gY]
 rw[FI,FI,m,m,yA _ _ (by rw[FH,dO];omega)];rw[FH,dO,iY om,show j*3+1-j*3=1 from om];rfl
theorem bQ.at(h:bQ w B r a v)[l:Later w w']:bQ w' B r a v:=⟨h.hd.at,h.cs.keep l.st,h.bs.at,h.mp.at,h.hr,h.hq⟩
theorem bQ.apart(h:bQ w B r a v):r≠a.q/\(∀b,AF a.Ac b->b≠r/\b≠a.q/\¬AF a.Ab b)/\∀b,AF a.Ab b->b≠r/\b≠a.q:=by
 have hb:=h.hd;unfold aD at hb;refine⟨h.mp.ne hb,fun b C=>?_,fun b C=>?_⟩
 ·obtain⟨_,_,cur,l⟩:=h.cs.af C;refine⟨fun e=>?_,h.mp.ne l,fun hd=>?_⟩
  ·subst e;rw[hb]at l;injection l with l;injection l with _ m;exact absurd m ah
  ·obtain⟨_,_,D,m⟩:=h.bs.af hd;rw[l]at m;injection m with m;injection m with _ E;exact absurd E ah
 ·obtain⟨_,_,cur,l⟩:=h.bs.af C;refine⟨fun e=>?_,h.mp.ne l⟩;subst e;rw[hb]at l;injection l with l;injection l with _ m;exact absurd m ah
theorem bQ.lt(h:bQ w B r a v):∀b,a.F r b->B<=b/\b<w.heap.size:=fun b hb=>by
 rcases hb with rfl|rfl|hb|hb
 ·exact⟨h.hr,h.hd.lt⟩
 ·exact⟨h.hq,h.mp.lt⟩
 ·obtain⟨e,l,_⟩:=h.cs.af hb;exact⟨e,l⟩
 ·obtain⟨e,l,_⟩:=h.bs.af hb;exact⟨e,l⟩
theorem bQ.keep(h:bQ w B r a v)(l:∀b,a.F r b->w'.heap[b]?=w.heap[b]?):bQ w' B r a v:=
 ⟨(l r (.inl rfl)).trans h.hd,h.cs.same fun ad e=>l _ (.inr (.inr (.inl ⟨ad,e,rfl⟩))),h.bs.same fun ad e=>l _ (.inr (.inr (.inr ⟨ad,e,rfl⟩))),h.mp.same (l _ (.inr (.inl rfl))),h.hr,h.hq⟩
theorem bQ.kf(h:bQ w B r a v){F F':Nat->Prop}(e:Kf F F' w w')(hF:∀b,a.F r b->¬F b):bQ w' B r a v:=h.keep fun b hb=>e.keep b (h.lt b hb).2 (hF b hb)
theorem bQ.setH(h:bQ w B r a v){x:Value}(l:jh a v'=(jh a v).setIfInBounds i x)(m:v'.cs=v.cs)(C:v'.bs=v.bs)(D:v'.mp=v.mp):bQ (w.setCell ⟨r,i,none⟩ x) B r a v':=by
 obtain⟨p1,E,F⟩:=h.apart;refine⟨?_,?_,?_,?_,h.hr,h.hq⟩
 ·rw[l];exact h.hd.aF i x
 ·rw[m];exact h.cs.same fun ad e=>dM w ⟨r,i,none⟩ _ _ (E _ ⟨ad,e,rfl⟩).1
 ·rw[C];exact h.bs.same fun ad e=>dM w ⟨r,i,none⟩ _ _ (F _ ⟨ad,e,rfl⟩).1
 ·rw[D];exact h.mp.same (dM w ⟨r,i,none⟩ _ _ (lI p1))
theorem bQ.blk(h:bQ w B r a v)(hi:v.bs[i]?=some b):∃g,a.Ab=some ⟨g,0,none⟩/\Cl w g (i*3) (.int .i64 b.h)/\Cl w g (i*3+1) (.int .i64 b.fr)/\Cl w g (i*3+2) (.int .i64 b.wd):=by
 obtain⟨c0,c1,c2⟩:=QK hi;obtain⟨g,e,C⟩:=h.bs.cell c0;obtain⟨F,l,D⟩:=h.bs.cell c1;obtain⟨G,m,E⟩:=h.bs.cell c2;rw[e]at l m;injection l with l;injection l with l
 injection m with m;injection m with m
 subst l m;exact⟨g,e,⟨C⟩,⟨D⟩,⟨E⟩⟩
theorem dw.small(hv:dw v)(hi:v.bs[i]?=some b):b.fr+b.wd<=16777216/\1<=b.wd:=by
 have e:=hv.lay.bd b (aK hi);have l:=hv.cl;have m:=hv.cap;omega
theorem Af(h:Hid (bQ w B r a v))(hv:Hid (dw v))(hi:Hid (i<=v.bs.length))(G:y=(i:Int)-1){e:Nat}(l:Hid (gD v.bs i=e)):Calls Tryz.prog 246 #[.pointer r,y] w (aM w (.int .i64 (e:Int))):=by
 obtain⟨K,L⟩:=lM;have M:=@jK;subst G
 match i,hi,l with
 |0,hi,l=>
  obtain rfl:e=0:=by rw[<-l.out];rfl
  have d1:decide (((0:Nat):Int)-1<0)=true:=by decide
  go_enter Tryz.func246,Tryz.ntmps246
  go_wp2_with fail
  go_ret;exact⟨rfl,ai _ _⟩
 |i+1,hi,l=>
  have D:Bx w r 197 (jh a v):=⟨h.out.hd⟩;have C:i<v.bs.length:=hi.out;obtain⟨b,hb⟩:∃b,v.bs[i]?=some b:=⟨_,aW C⟩;obtain⟨g,E,c0,c1,c2⟩:=h.out.blk hb;have I:=hv.out.small hb;have J:Hid (b.fr+b.wd=e):=ae (by rw[<-l.out,Ik hb]);have F:((i+1:Nat):Int)-1=(i:Int):=by omega
  have N:Old g w:=⟨ku c1.eq⟩;obtain⟨Ac,cc,Ab,cb,q⟩:=a;dsimp only at E;subst E;have O:IntKind.i64.wrap ((b.fr:Int)+(b.wd:Int))=(b.fr:Int)+(b.wd:Int):=by rw[bF];omega
  rw[F];clear hb c0 F hi l;obtain⟨m,hm⟩:=lh v.bs.length;dsimp only[jh]at D;rw[hm]at C D;have i1:(i:Int)<(m:Int):=by omega
  have d1:decide ((i:Int)<0)=false:=by simp
  clear hm;go_enter Tryz.func246,Tryz.ntmps246
  go_upto_region 3 with fail
  refine bZ aj (fun P _=>?_);refine ag 0 7 ?_;refine ag 1 8 ?_;refine ag 2 9 ?_;refine ag 3 10 ?_;refine ag 4 11 ?_;refine ag 5 12 ?_;refine ag 6 13 ?_;refine ag 7 14 ?_;refine ag 8 15 ?_;refine ag 9 16 ?_;refine ag 10 17 ?_;refine ag 11 18 ?_;refine ag 12 19 ?_;refine ag 13 20 ?_;refine ag 14 21 ?_;refine ag 15 22 ?_;refine ag 16 23 ?_;refine ag 17 4 ?_;refine aO ?_
  go_wp2_with fail
  go_ret;exact⟨by rw[<-J.out];rfl,ai _ _⟩
theorem agJ(h:bQ w B r a v):Calls Tryz.prog 56 #[.pointer r] w (aM w (.int .i64 v.pe)):=by
 have e:=@bf;have l:Bx w r 197 (jh a v):=⟨h.hd⟩;go_enter Tryz.func56,Tryz.ntmps56
 go_wp2_with fail
 go_ret;exact⟨rfl,⟨bq _ _⟩⟩
theorem agK(h:bQ w B r a v):Calls Tryz.prog 57 #[.pointer r] w (aM w (.int .i64 v.hi)):=by
 have e:=@bf;have l:Bx w r 197 (jh a v):=⟨h.hd⟩;go_enter Tryz.func57,Tryz.ntmps57
 go_wp2_with fail
 go_ret;exact⟨rfl,⟨bq _ _⟩⟩
theorem agL(h:bQ w B r a v):Calls Tryz.prog 58 #[.pointer r] w (aM w (.int .i64 v.mv)):=by
 have e:=@bf;have l:Bx w r 197 (jh a v):=⟨h.hd⟩;go_enter Tryz.func58,Tryz.ntmps58
 go_wp2_with fail
 go_ret;exact⟨rfl,⟨bq _ _⟩⟩
def QL(cap:Nat):bL:=⟨cap,[],[],[],0,0,0,0,0,0⟩
theorem agM{cap:Nat}(h:cap<=16777216):dw (QL cap):=
 ⟨⟨List.Pairwise.nil,fun b hb=>(by cases hb)⟩,aS _,h,aS _,rfl,List.Pairwise.nil,fun b hb=>(by cases hb),aS _,List.Pairwise.nil,fun b hb=>(by cases hb),fun e l=>(by cases l)⟩
theorem agN{cap:Nat}(h:cap<=16777216):Calls Tryz.prog 96 #[cap] w fun e w'=>∃r a,e=.returned (.tuple #[.pointer (some ⟨r,0,none⟩),(0:Int)])/\bQ w' w.heap.size r a (QL cap)/\ak w' w:=by
 have l:=@run_makeMap Tryz.prog;have d1:decide ((16777216:Int)<(cap:Int))=false:=by simp;omega
 have m:decide ((cap:Int)<0)=false:=by simp
 go_enter Tryz.func96,Tryz.ntmps96
 go_wp2_with fail
 go_ret2;exact⟨w.heap.size+1,⟨none,0,none,0,w.heap.size⟩,rfl,⟨aD.new' _ _ _ au,aG.nil _ _ _,⟨rfl,.inl ⟨rfl,rfl⟩⟩,⟨#[],0,(CZ _ _ _ au).trans (xe w _),rfl⟩,fu _,az _⟩,ai _ _⟩
end
end Go.Proofs.YtmkjnlifimffkaaGreat
