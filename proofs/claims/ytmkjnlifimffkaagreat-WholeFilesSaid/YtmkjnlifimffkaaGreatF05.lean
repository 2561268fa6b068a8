/- Lemmas. -/
import Derived.Test.YtmkjnlifimffkaaGreatF04
import Derived.ChangeMaps5
import Derived.Shelf.Spec.SlicesInsertGrow
import Derived.Shelf.Slices.Cells
import Derived.Shelf.Slices.Clone
import Derived.Shelf.Slices.SearchI
import Derived.Shelf.Slices.Empties
import Derived.Shelf.Slices.Turned
import Derived.Laws.ResultCell
import Derived.Lib.MinMax
import Derived.Deep.LoopGhost
namespace Go.Proofs.YtmkjnlifimffkaaGreat
open Go.RowKit Tryz
set_option linter.all false
set_option maxRecDepth 100000
set_option maxHeartbeats 0
variable{u w':World}{A:Option Addr}{R c e g i j l m q r:Nat}{h sz y z:Int}{vs:List Value}{v:Value}{T:TypeId}
structure jb(w:World)(B g o:Nat)(cs:Array Value)(F:Nat->Prop)(t:Tb):Prop where
 al:aB w g 141 cs
 tb:∃A n c sz,cs[o]?=some (.slice A n c)/\cs[o+1]?=some (.int .i64 sz)/\oR w B A n c F t
 oK:gK t
 len:t.length<=1000
def cY(cs:eL)(o:Nat)(v u:Value):Array Value:=(cs.setIfInBounds o v).setIfInBounds (o+1) u
def CS(w:ay)(B g o:Nat)(cs:eL)(F:Nat->Prop)(t:Tb)(v:Value)(e:Ending)(w':ay):Prop:=
 e=.returned v/\∃x y j,jb w' B g o (cY cs o x y) j t/\Kf (λb=>F b\/b=g) (λb=>j b\/b=g) w w'
section
variable{w:World}{o n B k:Nat}{t:Tb}{F:Nat->Prop}{b:Bool}{cs:Array Value}{E:TypeId}{x:Value}
def aI.EE(h:aI w B E k g c n vs)(v):aI (w.setCell (g,i) v) B E k g c n (vs.set i v):=by
 have⟨cur,hg,hB,hl,hm,hc,ht,EC⟩:=h.whole;refine .mk' (cur:=cur.setIfInBounds i v) hB (by simp[World.setCell,qO,hg]) hl hm (by simpa using hc) ?_;rw[pX,List.take_set,ht]
def EF(t)(j):ic (t.take j)=(ic t).take (j*2):=by
 by_cases h:j<=t.length
 .conv=>rhs;rw[<-de j t,i9]
  rw[e9 (by rw[nK,bB,dt h])]
 .rw[bR om,bR (by rw[nK];omega)]
def EG(t)(j):ic (t.drop j)=(ic t).drop (j*2):=by
 by_cases h:j<=t.length
 .conv=>rhs;rw[<-de j t,i9]
  rw[nt (by rw[nK,bB,dt h])]
 .rw[ey om,ey (by rw[nK];omega)];rfl
def UB(t)(j):ic (t.take j++t.drop (j+1))=(ic t).take (j*2)++(ic t).drop ((j+1)*2):=by rw[i9,EF,EG]
def UC(t)(j)(y h):ic (t.take j++(y,h)::t.drop j)=(ic t).take (j*2)++[.int .i64 y,.int .i64 h]++(ic t).drop (j*2):=by
 rw[i9,EF,show(y,h)::t.drop j=[(y,h)]++t.drop j from rfl,i9,EG,<-dg];rfl
def aI.L1(h:aI w B E k q c n vs)(l:aB w g T cs)(m:T≠E):g≠q:=λe=>by
 subst e;have⟨cur,hg,_⟩:=h.whole;unfold aB at l;rw[hg]at l;injection l with l;injection l with D C G
 exact m C.symm
def aI.XV{k':Nat}{D:iP}(h:aI w B E k q c n vs)(G:aI w e T k' r m l D)(I:E≠T):q≠r:=λM=>by
 subst M;have⟨cur,hg,_⟩:=h.whole;have⟨aci,C,_⟩:=G.whole;rw[hg]at C;injection C with C;injection C with K J L
 exact I J
def oR.ne(h:oR w B A n c F t)(l:aB w g 141 cs):¬F g:=λm=>by
 rcases h with⟨C,D,e⟩|⟨C,q,r,R,D,e,G,J,I⟩
 .exact e g m
 .rcases(I g).1 m with rfl|rfl
  .exact e.L1 l ak rfl
  .exact G.L1 l ak rfl
def jb.cl(h:jb w B g o cs F t):∃A n c sz,Cl w g o (.slice A n c)/\Cl w g (o+1) (.int .i64 sz)/\oR w B A n c F t/\cs[o]?=some (.slice A n c)/\cs[o+1]?=some (.int .i64 sz):=by
 have⟨A,n,c,sz,h1,h2,h3⟩:=h.tb;exact⟨A,n,c,sz,⟨(h.al.cell o).trans h1⟩,⟨(h.al.cell (o+1)).trans h2⟩,h3,h1,h2⟩
def jb.at(h:jb w B g o cs F t)[aF w w']:jb w' B g o cs F t:=by
 have⟨A,n,c,sz,h1,h2,h3⟩:=h.tb;exact⟨h.al.at,⟨A,n,c,sz,h1,h2,h3.at⟩,h.oK,h.len⟩
def KH(h:jb w B g o cs F t)(hb:Hx (g9 t y=b)):() 155 #[.pointer (some ⟨g,o,none⟩),y] w (aD w (.bool b)):=by
 have⟨A,n,c,sz,c1,c2,hM,_⟩:=h.cl;have e:=ae hM;have l:=ae h.oK;have m:=ae h.len;obtain⟨j,C⟩:=lC (gI t y)
 go_in
 go_wp2_with (go_at_call 205;refine mv (sg e l m C hb) λD _=>?_)
 go_ret;exact bq
def oR.entry(h:oR w B A n c F t)(hr:gK t)(hm:(y,z)∈t):n=1/\∃q r R,A=some ⟨q,0,none⟩/\aI w B 309 1 (some ⟨q,0,none⟩) c 1 [.slice (some ⟨r,0,none⟩) t R]/\aI w B 308 2 (some ⟨r,0,none⟩) R t.length (ic t)/\(∀b,F b↔b=q\/b=r)/\gI t y<t.length/\
  Cl w q 0 (.slice (some ⟨r,0,none⟩) t R)/\Cl w r (gI t y*2+1) z:=by
 rcases h with⟨D,m,C⟩|⟨D,q,r,R,m,C,G,J,I⟩
 .subst m;cases hm
 .have l:=mP hr hm;refine⟨D,q,r,R,m,C,G,I,(a5.1 l).1,⟨?_⟩,⟨?_⟩⟩
  .have⟨g,e,hc⟩:=C.cell (j:=0) rfl;injection e with e;cases e;exact hc
  .have⟨g,e,hc⟩:=G.cell (CN l).2;injection e with e;cases e;exact hc
def KI(h:jb w B g o cs F t)(hm:(y,z)∈t):() 203 #[.pointer (some ⟨g,o,none⟩),y] w (aD w (.tuple #[z,.bool true])):=by
 have J:=@bL;have K:=@ct;have⟨A,n,c,sz,c1,c2,hM,_⟩:=h.cl;have l:=ae hM;have C:=ae h.oK;have D:=ae h.len;have⟨h1,q,r,R,h2,h3,h4,h6,bK,c3,c4⟩:=hM.entry h.oK hm;have G:Hx (g9 t y=true):=kP.2 ⟨z,hm⟩;subst h1 h2;obtain⟨j,e⟩:=lh (gI t y);obtain⟨m,hm⟩:=lh t.length;rw[e]at bK c4;rw[hm]at bK c3;have I:=ae e;have o1:Old g w:=⟨cE c1.eq⟩;have L:Old q w:=⟨cE c3.eq⟩;have M:Old r w:=⟨cE c4.eq⟩;have i1:(j:Int)<(m:Int):=by omega
 go_in
 go_wp2_with (go_at_call 205;refine mv (sg l C D I G) λN _=>?_)
 go_ret2;exact bq
def xd(l:cs[o]?=some v):cs.setIfInBounds o v=cs:=by
 apply lS;rw[pX];apply ek;intro k;rw[eZ]
 split
 .rename_i e;subst e
  split
  .rw[<-l];simp
  .rename_i h;rw[c6 (by simpa using h)]
 .rfl
def CT(e:cs[o]?=some x)(v u):(cY cs o v u)[o]?=some v:=by
 have l:=(eX.1 e).1;unfold cY;rw[ev om,rJ l]
def xe(e:cs[o+1]?=some x)(v u):(cY cs o v u)[o+1]?=some u:=by
 have l:=(eX.1 e).1;unfold cY;rw[rJ (by simpa using l)]
def mR{i:Nat}(e:i≠o)(l:i≠o+1)(v u):(cY cs o v u)[i]?=cs[i]?:=by
 unfold cY;rw[ev om,ev om]
def Pu(h:jb w B g o cs F t)(hj:j<t.length):() 206 #[.pointer (some ⟨g,o,none⟩),au,j] w (CS w B g o cs F (t.take j++t.drop (j+1)) (.tuple #[])):=by
 have CC:=@ct;have FB:=@aP;obtain⟨A,n,c,sz,c1,c2,hM,e1,e2⟩:=h.cl;have N:Bx w g 141 cs:=⟨h.al⟩;rcases hM with⟨h1,h2,J⟩|⟨h1,q,r,R,h2,J,O,h5,h6⟩
 .subst h2;simp at hj
 subst h1 h2;have gq:g≠q:=J.L1 h.al ak;have gr:g≠r:=O.L1 h.al ak;have qr:q≠r:=J.XV O ak;have c3:Cl w q 0 (.slice r t R):=⟨by
  have⟨g,e,hc⟩:=J.cell (j:=0) rfl;injection e with e;injection e with e;subst e;exact hc⟩
 obtain⟨m,hm⟩:=lh t.length;obtain⟨K,l⟩:∃K,t.take j++t.drop (j+1)=K:=⟨_,rfl⟩;have P:K.length=m-1:=by rw[<-l,<-hm];simp;omega
 have Q:gK K:=by
  rw[<-l];have hs:(t.take j++t.drop (j+1)).Sublist t:=by
   conv=>rhs;rw[<-de j t]
   exact vM (vL t (b9 _)) _
  exact List.Pairwise.sublist hs h.oK
 rw[hm]at hj J O c3;have hlen:m<=1000:=by rw[<-hm];exact h.len
 have o1:Old g w:=⟨cE c1.eq⟩;have o2:Old q w:=⟨cE c3.eq⟩;have H3:=ae J;have H4:=ae O;have H6:=ae h6;have HD:Hx (aI w B 308 2 (some ⟨r,0,none⟩) R m (ic t)):=H4;have HI:Hx ((ic t).take (j*2)++(ic t).drop ((j+1)*2)=ic K):=ae (by rw[<-l,UB]);have C:=ae P;have S:=ae Q;have M:=ae e1;have T:=ae e2;have wj:IntKind.i64.wrap ((j:Int)+1)=(j:Int)+1:=by rw[aV];omega
 rw[l];clear h J O h6 hm l P Q h5 e1 e2
 go_in
 go_upto_region 2 with(go_at_call 257;refine(XL HD.o (KG _) rfl rfl hj om).mono ?_;rintro e I ⟨rfl,r1,D⟩;rw[HI.o]at r1;obtain⟨U,UD,c21⟩:Bx I g 141 cs/\Cl I g o (q,1,c)/\Cl I g (o+1) sz:=(by have k:=D.al N.al (λad e V=>gr (by injection e with e;subst e;exact V.symm));exact⟨⟨k⟩,⟨(k.cell o).trans M.o⟩,⟨(k.cell (o+1)).trans T.o⟩⟩);obtain⟨r3,-⟩:aI I B 309 1 (some ⟨q,0,none⟩) c 1 [.slice r m R]/\True:=⟨H3.o.hD D (λa a' e e' V=>by injection e with e;injection e' with e';subst e e';exact qr V.symm),bA⟩;obtain⟨cq,fq⟩:Cl I q 0 (.slice r m R)/\I.frozen? ⟨q,0,none⟩=false:=(by obtain⟨cur,hg,_⟩:=r3.whole;obtain⟨g5,X,hc⟩:=r3.cell (j:=0) rfl;injection X with X;injection X with X;subst X;exact⟨⟨hc⟩,by simp[World.frozen?,hg]⟩))
 obtain⟨v,hv⟩:=lg (I.setCell (q,0) (.slice r (m-1) R));have Y:aI v B 309 1 (some ⟨q,0,none⟩) c 1 [.slice r (m-1) R]:=by rw[hv];exact r3.EE (i:=0) (.slice r (m-1) R)
 have Z:aI v B 308 2 (some ⟨r,0,none⟩) R (m-1) (ic K):=by
  rw[hv];exact r1.same λad e=>by injection e with e;subst e;exact bm I ⟨q,0,none⟩ _ r (dF qr)
 have L:Bx v g 141 cs:=⟨by rw[hv];exact U.al.a9 gq _⟩;have kf:Kf (λb=>F b\/b=g) (λb=>F b\/b=g) w v:=by
  rw[hv];refine((Kf.hD D).more (G:=λb=>F b\/b=g) (G':=λb=>F b\/b=g) (λb hb=>.inl ((H6.o b).2 (.inr (d4.1 hb).symm))) (λb hb=>.inr (.inl hb))).ax (.inl ((H6.o q).2 (.inl rfl))) _
 have KF:=ae kf;have R3:=ae Y;have R1:=ae Z;rw[<-hv];have cgv:Cl v g o (q,1,c):=⟨(L.al.cell o).trans M.o⟩;have cgs:Cl v g (o+1) sz:=⟨(L.al.cell (o+1)).trans T.o⟩;clear hv kf Y Z r1 r3 D cq fq U UD c21 c1 c2 c3 N o1 o2;have N:=L;by_cases h0:m-1=0
 .have d1:(((m-1:Nat):Int)==0)=true:=by rw[h0];rfl
  have HT0:Hx (K=[]):=ae (jY (by rw[C.o,h0]));rw[h0];clear h0
  go_upto_region 4 with(go_at_call 258;refine(Uz R3.o (i:=0) (by simp[Value.oneCell']) rfl rfl ak ak).mono ?_;rintro e u2 ⟨rfl,r4,ch2⟩;obtain⟨ty,UE,c22⟩:Bx u2 g 141 cs/\Cl u2 g o (q,1,c)/\Cl u2 g (o+1) sz:=(by have k:=ch2.al N.al (λad e V=>gq (by injection e with e;subst e;exact V.symm));exact⟨⟨k⟩,⟨(k.cell o).trans M.o⟩,⟨(k.cell (o+1)).trans T.o⟩⟩))
  go_wp2_with fail
  refine⟨rfl,.tuple #[],by simp[results,results206,go_sem],rfl,_,_,λ_=>False,⟨(ty.al.ax o _).ax (o+1) _,⟨_,_,_,_,CT M.o _ _,xe T.o _ _,.inl ⟨rfl,HT0.o,λ_ h=>h⟩⟩,S.o,by rw[HT0.o];exact aT _⟩,?_⟩;have k2:Kf (λb=>F b\/b=g) (λb=>False\/b=g) w u2:=KF.o.trans ((Kf.hD ch2).more (λb hb=>.inl ((H6.o b).2 (.inl (d4.1 hb).symm))) (λb hb=>.inr (.inl (hb.elim (λh=>h.elim) .inr))));exact(k2.ax (.inr rfl) _).ax (.inr rfl) _
 .have d1:(((m-1:Nat):Int)==0)=false:=by simp;omega
  have HP:Hx (0<m-1):=ae om;clear h0
  go_wp2_with fail
  have es:cY cs o (q,1,c) (wrap64 (sz-1):Int)=cs.setIfInBounds (o+1) (wrap64 (sz-1):Int):=by rw[cY,xd M.o]
  refine⟨rfl,.tuple #[],by simp[results,results206,go_sem],rfl,.slice q 1 c,.int .i64 (wrap64 (sz-1)),F,⟨by rw[es];exact N.al.ax (o+1) _,⟨_,_,_,_,CT M.o _ _,xe T.o _ _,.inr ⟨rfl,q,r,R,rfl,?_,?_,by rw[C.o];exact HP.o,H6.o⟩⟩,S.o,by rw[C.o];omega⟩,KF.o.ax (.inr rfl) _⟩
  .rw[C.o];exact R3.o.same λad e=>by injection e with e;subst e;exact bm v ⟨g,o+1,none⟩ _ q (dF gq)
  .rw[C.o];exact R1.o.same λad e=>by injection e with e;subst e;exact bm v ⟨g,o+1,none⟩ _ r (dF gr)
end
section
variable{w:World}{o n B k:Nat}{t:Tb}{F:Nat->Prop}{b:Bool}{cs:Array Value}{E:TypeId}{x:Value}
def UF(h:jb w B g o cs F t)(hm:(y,z)∈t):() 152 #[.pointer (some ⟨g,o,none⟩),y] w (CS w B g o cs F (pc t y) (.tuple #[z,.bool true])):=by
 have T:=@bL;have U:=@ct;have⟨A,n,c,sz,c1,c2,hM,_⟩:=h.cl;have I:=ae hM;have J:=ae h.oK;have K:=ae h.len;have L:=ae h;have⟨h1,q,r,R,h2,h3,h4,h6,bK,c3,c4⟩:=hM.entry h.oK hm;have M:Hx (g9 t y=true):=kP.2 ⟨z,hm⟩;subst h1 h2;obtain⟨j,l⟩:=lh (gI t y);obtain⟨m,hm⟩:=lh t.length;have N:Hx (pc t y=t.take j++t.drop (j+1)):=ae (by rw[pc,l]);rw[l]at bK c4;rw[hm]at bK c3;have O:=ae l;have C:Hx (j<t.length):=ae (by rw[hm];exact bK);have o1:Old g w:=⟨cE c1.eq⟩;have V:Old q w:=⟨cE c3.eq⟩;have X:Old r w:=⟨cE c4.eq⟩;have i1:(j:Int)<(m:Int):=by omega
 rw[N.o]
 go_in
 go_wp2_with (first|(go_at_call 205;refine mv (sg I J K O M) λY _=>?_)|(go_at_call 206;refine(Pu L.o.at C).mono ?_;rintro e Z ⟨rfl,P,Q,S,D,G⟩))
 go_ret2;exact⟨rfl,P,Q,S,D,(Kf.later _ (w:=w)).trans G⟩
def UG(h:jb w B g o cs F t)(hn:Hx (g9 t y=false))(hl:t.length<=200)(hB:B<=w.1.size):() 202 #[.pointer (some ⟨g,o,none⟩),y,z] w (CS w B g o cs F (gJ t y z) (.bool true)):=by
 have CP:=@bL;have CC:=@ct;have FB:=@aP;have⟨A,n,c,sz,c1,c2,hM,e1,e2⟩:=h.cl;have HM:=ae hM;have HR:=ae h.oK;have HL:=ae h.len;have kb:Bx w g 141 cs:=⟨h.al⟩;obtain⟨j,hj⟩:=lh (gI t y);have HJ:=ae hj;have HRS:Hx (gK (gJ t y z)):=ut h.oK (tx.1 hn);have HTS:Hx (gJ t y z=t.take j++(y,z)::t.drop j):=ae (by rw[gJ,hj]);change Hx _ at e1 e2;have o1:Old g w:=⟨cE c1.eq⟩;have P:=ae hl;have HBB:=ae hB;have HJL:Hx (j<=t.length):=ae (by rw[<-hj];exact KC _ _)
 go_in
 go_upto_region 6 with(go_at_call 205;refine mv (sg HM HR HL HJ hn) λu1 _=>?_)
 obtain⟨v,hv⟩:=lg (u1.setCell (g,o+1) (wrap64 (sz+1):Int));have G:Bx u1 g 141 cs:=ao;have l:Bx v g 141 (cs.setIfInBounds (o+1) (wrap64 (sz+1):Int)):=⟨by rw[hv];exact G.al.ax (o+1) _⟩;have Q:oR v B A n c F t:=by
  have h9:oR u1 B A n c F t:=HM.o.at;rw[hv];exact h9.keep λb hb=>bm u1 ⟨g,o+1,none⟩ _ b λe=>h9.ne G.al (by have S:b=g:=e;rw[<-S];exact hb)
 have kf:Kf (λb=>F b\/b=g) (λb=>F b\/b=g) w v:=by rw[hv];exact(Kf.later _ (w:=w)).ax (.inr rfl) _
 have T:B<=v.1.size:=aO HBB.o kf.size;have I:Hx ((cs.setIfInBounds (o+1) (wrap64 (sz+1):Int))[o]?=some (.slice A n c)):=(ev (show o+1≠o by omega)).trans e1.o;have cgv:Cl v g o (A,n,c):=⟨(l.al.cell o).trans I⟩;have KF:=ae kf;have tz:=ae Q;have J:=ae T;rw[<-hv];clear hv kf Q T c1 c2 kb G o1 hB;have o1:Old g v:=⟨l.al.lt⟩;have U:Hx (∀(W:ay) (x:Value) (A2:cD) (n2 c2:Nat) (F':Nat->Prop),x=.slice A2 n2 c2->aB W g 141 ((cs.setIfInBounds (o+1) (wrap64 (sz+1):Int)).setIfInBounds o x)->oR W B A2 n2 c2 F' (gJ t y z)->Kf (λb=>F b\/b=g) (λb=>F' b\/b=g) w W->CS w B g o cs F (gJ t y z) (.bool true) (.returned (.bool true)) W):=ae λW x A2 n2 c2 F' V hb hm hk=>by
  have es:(cs.setIfInBounds (o+1) (wrap64 (sz+1):Int)).setIfInBounds o x=cY cs o x (wrap64 (sz+1):Int):=by
   unfold cY;apply lS;simp only[pX];exact List.set_comm _ _ om
  rw[es]at hb;exact⟨rfl,x,_,F',⟨hb,⟨A2,n2,c2,_,by rw[CT e1.o,V],xe e2.o _ _,hm⟩,HRS.o,by rw[w5];have:=P.o;omega⟩,hk⟩
 rcases tz.o with⟨h1,h2,C⟩|⟨h1,q,r,R,h2,C,N,h5,h6⟩
 .have H3:=ae C;have H2:=ae h2;subst h1;clear h2 C
  go_wp2_with fail
  go_ret;have zS:g<v.1.size:=l.al.lt;have K:gJ t y z=[(y,z)]:=by rw[H2.o];rfl
  refine U.o _ _ (some ⟨v.1.size+1,0,none⟩) 1 1 (λb=>b=v.1.size+1\/b=v.1.size) rfl (((l.al.alloc _).alloc _).ax o _) (.inr ⟨rfl,v.1.size+1,v.1.size,1,rfl,?_,?_,by rw[K];exact Nat.one_pos,λb=>Iff.rfl⟩) ?_
  .rw[K];exact .mk' (cur:= #[.slice v.1.size 1 1]) (by have:=J.o;omega) (aB.a9 (aB.fx _ _ _ aG) (by show v.1.size+1≠g;omega) _) ak ak rfl rfl
  .rw[K];exact .mk' (cur:= #[y,z]) J (aB.a9 ((aB.new v 308 _).alloc _) (by show v.1.size≠g;omega) _) (an _) ak rfl rfl
  .refine Kf.ax (((KF.o.alloc _).alloc _).more (λb hb=>hb) (λb hb=>?_)) (.inr rfl) _;have:=KF.o.size;rcases hb with(hb|hb)|hb
   .exact .inr (.inr om)
   .exact .inr (.inr om)
   .exact .inr (.inl (.inr hb))
 .subst h1 h2;have gq:g≠q:=C.L1 l.al ak;have gr:g≠r:=N.L1 l.al ak;have qr:q≠r:=C.XV N ak;have c3:Cl v q 0 (.slice r t R):=⟨by
   obtain⟨g,e,hc⟩:=C.cell (j:=0) rfl;injection e with e;injection e with e;subst e;exact hc⟩
  obtain⟨m,hm⟩:=lh t.length;rw[hm]at C N c3;have H3:=ae C;have H4:=ae N;have H6:=ae h6;have XW:=ae hm;have hr9:r<v.1.size:=N.lt _ rfl;have HJM:Hx (j<=m):=ae (by rw[<-hm];exact HJL.o);have X:Hx (m<=200):=ae (by rw[<-hm];exact P.o);have HIC:Hx ((ic t).take (j*2)++[.int .i64 y,.int .i64 z]++(ic t).drop (j*2)=ic (gJ t y z)):=ae (by rw[HTS.o,UC]);clear C N h5 h6 hm hl
  go_upto_region 10 with(go_at_call 248;(with_reducible refine dO (λY p5 k5=>?_));refine(XT (H4.o.at (w':=Y)) (KG _) (us:=[.int .i64 y,.int .i64 z]) k5.al rfl (by simp[Value.oneCell']) (λad e=>by injection e with e;subst e;show r≠_;omega) rfl HJM.o (by have:=X.o;omega) (aO J.o (ai (w:=v) (w':=Y)))).mono ?_;rintro e O ⟨A6,c6,rfl,r6,L⟩;rw[HIC.o]at r6;obtain⟨Z,D⟩:Bx O g 141 (cs.setIfInBounds (o+1) (wrap64 (sz+1):Int))/\aI O B 309 1 (some ⟨q,0,none⟩) c 1 [.slice r m R]:=⟨⟨L.al (l.al.at (w':=Y)) (λad e V=>gr (by injection e with e;subst e;exact V.symm))⟩,(H3.o.at (w':=Y)).hD L (λa a' e S V=>by injection e with e;injection S with S;subst e S;exact qr V.symm)⟩;obtain⟨cq,fq⟩:Cl O q 0 (.slice r m R)/\O.frozen? ⟨q,0,none⟩=false:=(by obtain⟨cur,hg,_⟩:=D.whole;obtain⟨g5,e5,hc⟩:=D.cell (j:=0) rfl;injection e5 with e5;injection e5 with e5;subst e5;exact⟨⟨hc⟩,by simp[World.frozen?,hg]⟩);have cg6:Cl O g o (q,1,c):=⟨(Z.al.cell o).trans I.o⟩)
  have d2:decide ((256:Int)<(m:Int)+1)=false:=by have:=X.o;simp;omega
  go_wp2_with fail
  go_ret;have M:(gJ t y z).length=m+1:=by rw[w5,XW.o]
  rcases r6.form with⟨_,h0,_⟩|⟨r',acj,rfl,hB6,hg6,ack,XX,XY,ht6⟩
  .omega
  have aaM:q≠r':=D.XV r6 ak;refine U.o _ _ (some ⟨q,0,none⟩) 1 c (λb=>b=q\/b=r') rfl ?_ (.inr ⟨rfl,q,r',c6,rfl,?_,?_,by rw[M];exact rY _,λb=>Iff.rfl⟩) ?_
  .rw[xd I.o];exact Z.al.a9 gq _
  .rw[M];exact D.EE (i:=0) (.slice r' (m+1) c6)
  .rw[M];exact r6.same λad e=>by cases e;exact bm O ⟨q,0,none⟩ _ r' (dF aaM)
  .have k5:Kf (λb=>F b\/b=g) (λb=>F b\/b=g) w Y:=KF.o.trans (Kf.later _);refine Kf.ax (k5.trans ((Kf.hD L).more (λb hb=>.inl ((H6.o b).2 (.inr (d4.1 hb).symm))) (λb hb=>?_))) (.inl (.inl rfl)) _;rcases hb with(hb|hb)|hb
   .exact .inr (.inl (.inl ((H6.o b).2 (.inl hb))))
   .exact .inl (d4.2 hb.symm)
   .exact .inr (.inl (.inr hb))
end
variable{mp:List (Int×Int)}{cur:Array Value}{es:Array MapEntry}
abbrev CU(x:Int×Int):Value×Value:=(.int .i64 x.1,.int .i64 x.2)
def fy(w:ay)(q:Nat)(mp:List (Int×Int)):Prop:=∃j b,w.heap[q]?=some (.map j b)/\j.toList.map (λe=>(e.key,e.val))=mp.map CU
section
variable{w:World}{k:Int}{cs:Array Value}
def fy.lt(h:fy w q mp):q<w.1.size:=by
 obtain⟨e,c,b,_⟩:=h;exact(eX.1 b).1
def fy.same(h:fy w q mp)(b:w'.heap[q]?=w.heap[q]?):fy w' q mp:=by
 have⟨es,c,h1,h2⟩:=h;exact⟨es,c,b.trans h1,h2⟩
def fy.at(h:fy w q mp)[l:aF w w']:fy w' q mp:=h.same (l.st.block _ h.lt)
def fy.ne(h:fy w q mp){f:Nat×Nat}(hb:w.heap[g]?=some (.cells cur T f)):g≠q:=λe=>by
 subst e;have⟨es,c,h1,_⟩:=h;rw[h1]at hb;cases hb
def int_inj{a:Int}(h:Value.int .i64 a=.int .i64 y):a=y:=by injection h
def hz(k:Int):MapKept.IsKey (.int .i64) k:=by simp[MapKept.IsKey]
def si(h:es.toList.map (λe=>(e.key,e.val))=mp.map CU):∀x∈es.toList,MapKept.IsKey (.int .i64) x.key:=λx b=>by
 have:(x.key,x.val)∈mp.map CU:=by rw[<-h];exact bC.2 ⟨x,b,rfl⟩
 have⟨y,_,he⟩:=bC.1 this;have:x.key=.int .i64 y.1:=(cv Prod.fst he).symm;rw[this];exact hz _
def wu(h:es.toList.map (λe=>(e.key,e.val))=mp.map CU){e:MapEntry}(l:es.toList[j]?=some e):∃x,mp[j]?=some x/\e.key=.int .i64 x.1/\e.val=.int .i64 x.2:=by
 have b:(es.toList.map (λe=>(e.key,e.val)))[j]?=some (e.key,e.val):=by rw[bj,l];rfl
 rw[h,bj]at b;have⟨x,hx,h2⟩:=bD.1 b;exact⟨x,hx,(cv Prod.fst h2).symm,(cv Prod.snd h2).symm⟩
def sj:prog.underlying 195=some (.map 3 3):=aq
def UH{x:Int×Int}(e:(mp.map (·.1)).Nodup)(b:mp[j]?=some x)(hm:(x.1,z)∈mp):x=(x.1,z):=by
 have⟨i,hi⟩:=eA hm;have l:(mp.map (·.1))[j]?=some x.1:=by rw[bj,b];rfl
 have m:(mp.map (·.1))[i]?=some x.1:=by rw[bj,hi];rfl
 have⟨l1,e1⟩:=a5.1 l;have⟨l2,e2⟩:=a5.1 m;have:i=j:=by
  have hp:=mn.1 e;rcases Cc i j with h|h|h
  .exact absurd (e2.trans e1.symm) (hp i j l2 l1 h)
  .exact h
  .exact absurd (e1.trans e2.symm) (hp j i l1 l2 h)
 subst this;rw[b]at hi;exact cn hi
def fy.look(h:fy w q mp)(m:(mp.map (·.1)).Nodup)(hm:(k,z)∈mp):∀w':World,w'.heap[q]?=w.heap[q]?->(Instr.lookup 195 (.map (some q)) k true).run prog w'=.ok (.tuple #[z,.bool true]) w':=λw' r=>by
 have⟨es,c,h1,h2⟩:=h;have hd:=underlying3;rcases v9 (hz k) es.toList 0 (si h2)with⟨_,b⟩|⟨j,e,u,b,y⟩
 .exfalso;have:CU (k,z)∈es.toList.map (λe=>(e.key,e.val)):=by rw[h2];exact bC.2 ⟨_,hm,rfl⟩
  have⟨e,he,hx⟩:=bC.1 this;exact b e he (cv Prod.fst hx)
 .have⟨x,hx,hk,hv⟩:=wu h2 b;have l:x.1=k:=int_inj (hk.symm.trans y);subst l;have:=UH m hx hm;have B:x.2=z:=cv Prod.snd this;rw[B]at hv;simp[Instr.lookup,dU sj,nB (r.trans h1),v8 hd (hz x.1),we hd u,Result.andThen,hv]
def fy.Pv(h:fy w q mp)(hm:k∉mp.map (·.1)):∃w1,(Instr.mapUpdate 195 (.map (some q)) k z).run prog w=.ok () w1/\fy w1 q (mp++[(k,z)])/\(∀b,b≠q->w1.heap[b]?=w.heap[b]?)/\w1.1.size=w.1.size/\Below 0 w w1:=by
 have⟨es,c,h1,h2⟩:=h;have hd:=underlying3;rcases v9 (hz k) es.toList 0 (si h2)with⟨r,_⟩|⟨j,e,r,u,y⟩
 .refine⟨ChangeMaps.setBlock w q (.map (es.push {key:=.int .i64 k,val:=.int .i64 z,born:=c}) (c+1)),by simp[Instr.mapUpdate,dU sj,nB h1,v8 hd (hz k),we hd r,wm _ h1,Result.andThen,ChangeMaps.setBlock],
   ⟨_,_,wa h1 _,by simp[h2,CU]⟩,λb l=>vZ h1 _ l,by simp[ChangeMaps.setBlock],⟨rfl,rfl,rfl,by simp[ChangeMaps.setBlock],λb hb=>absurd hb (ju _)⟩⟩
 .exfalso;have⟨x,hx,hk,_⟩:=wu h2 u;have m:=y.symm.trans hk;injection m with _ m
  exact hm (bC.2 ⟨x,aC hx,m.symm⟩)
def L2{x:Int×Int}(m:(mp.map (·.1)).Nodup)(b:mp[j]?=some x)(z):nH mp x.1 z=mp.set j (x.1,z):=by
 apply ek;intro i;rw[nH,bj,eZ]
 split
 .rename_i e;subst e;rw[ah (a5.1 b).1,b];simp
 .rename_i l;cases r:mp[i]? with
  |none=>rfl
  |some y=>
   have u:y.1≠x.1:=λe=>by
    have B:(mp.map (·.1))[j]?=some x.1:=by rw[bj,b];rfl
    have C:(mp.map (·.1))[i]?=some x.1:=by rw[bj,r,<-e];rfl
    have⟨l1,e1⟩:=a5.1 B;have⟨l2,e2⟩:=a5.1 C;have hp:=mn.1 m;rcases rL l with h|h
    .exact hp j i l1 l2 h (e1.trans e2.symm)
    .exact hp i j l2 l1 h (e2.trans e1.symm)
   simp[u]
def fy.Pw(h:fy w q mp)(C:(mp.map (·.1)).Nodup)(hm:k∈mp.map (·.1)):∃w1,(Instr.mapUpdate 195 (.map (some q)) k z).run prog w=.ok () w1/\fy w1 q (nH mp k z)/\(∀b,b≠q->w1.heap[b]?=w.heap[b]?)/\w1.1.size=w.1.size/\Below 0 w w1:=by
 have⟨es,c,h1,h2⟩:=h;have hd:=underlying3;rcases v9 (hz k) es.toList 0 (si h2)with⟨_,l⟩|⟨j,e,D,l,B⟩
 .exfalso;obtain⟨x,r,rfl⟩:=bC.1 hm;have:CU x∈es.toList.map (λe=>(e.key,e.val)):=by rw[h2];exact bC.2 ⟨_,r,rfl⟩
  have⟨e,he,XZ⟩:=bC.1 this;exact l e he (cv Prod.fst XZ)
 .have⟨x,r,hk,_⟩:=wu h2 l;have u:x.1=k:=int_inj (hk.symm.trans B);have E:es[j]?=some e:=by simpa using l
  refine⟨ChangeMaps.setBlock w q (.map (es.modify j λe=>{e with key:=.int .i64 k,val:=.int .i64 z}) c),by simp[Instr.mapUpdate,dU sj,nB h1,v8 hd (hz k),we hd D,E,B,MapKept.run_keyThatStays (hz k),wm _ h1,Result.andThen,ChangeMaps.setBlock],
   ⟨_,_,wa h1 _,?_⟩,λb y=>vZ h1 _ y,by simp[ChangeMaps.setBlock],⟨rfl,rfl,rfl,by simp[ChangeMaps.setBlock],λb hb=>absurd hb (ju _)⟩⟩
  rw[<-u,L2 C r,kq,<-h2,Array.toList_modify];apply ek;intro i;rw[bj,List.getElem?_modify,eZ,bj];by_cases m:j=i
  .subst m;have:=(a5.1 l).1;rw[l];simp;simpa using this
  .simp[m]
def fy.del(h:fy w q mp)(F:(mp.map (·.1)).Nodup)(hm:k∈mp.map (·.1)):∃w1,(∀E,(Builtin.delete_ #[195,3] E #[.map (some q),k]).run prog w=.ok (.tuple #[]) w1)/\fy w1 q (mp.filter λe=>e.1 !=k)/\(∀b,b≠q->w1.heap[b]?=w.heap[b]?)/\w1.1.size=w.1.size/\Below 0 w w1:=by
 have⟨es,c,h1,h2⟩:=h;have hd:=underlying3;rcases v9 (hz k) es.toList 0 (si h2)with⟨_,B⟩|⟨j,e,G,B,I⟩
 .exfalso;obtain⟨x,u,rfl⟩:=bC.1 hm;have:CU x∈es.toList.map (λe=>(e.key,e.val)):=by rw[h2];exact bC.2 ⟨_,u,rfl⟩
  have⟨e,he,XZ⟩:=bC.1 this;exact B e he (cv Prod.fst XZ)
 .have⟨x,u,hk,_⟩:=wu h2 B;have m:x.1=k:=int_inj (hk.symm.trans I);refine⟨ChangeMaps.setBlock w q (.map (es.eraseIdxIfInBounds (0+j)) c),λE=>by simp[Builtin.delete_,dU sj,nB h1,v8 hd (hz k),we hd G,wm _ h1,Result.andThen,ChangeMaps.setBlock],
   ⟨_,_,wa h1 _,?_⟩,λb l=>vZ h1 _ l,by simp[ChangeMaps.setBlock],⟨rfl,rfl,rfl,by simp[ChangeMaps.setBlock],λb hb=>absurd hb (ju _)⟩⟩
  have C:=(a5.1 B).1;have D:0+j<es.size:=by simpa using C
  rw[Array.eraseIdxIfInBounds,dif_pos D,Array.toList_eraseIdx,bX,List.eraseIdx_eq_take_drop_succ,cJ,jw,nz,h2,<-jw,<-nz,<-cJ];refine cv (List.map CU) ?_;have hp:=mn.1 F;have key:∀i y,mp[i]?=some y->(y.1=k↔i=j):=λi y r=>by
   constructor
   .intro e;have J:(mp.map (·.1))[j]?=some k:=by rw[bj,u,<-m];rfl
    have K:(mp.map (·.1))[i]?=some k:=by rw[bj,r,<-e];rfl
    have⟨l1,e1⟩:=a5.1 J;have⟨l2,e2⟩:=a5.1 K;rcases Cc i j with h|h|h
    .exact absurd (e2.trans e1.symm) (hp i j l2 l1 h)
    .exact h
    .exact absurd (e1.trans e2.symm) (hp j i l1 l2 h)
   .rintro rfl;rw[u]at r;rw[<-cn r,m]
  have hs:=ih u;have c1:(mp.take j).filter (λe=>e.1 !=k)=mp.take j:=List.filter_eq_self.2 λy r=>by
   have⟨i,X0,hi⟩:=r9 r;have:=(key i y hi).1;have l:y.1≠k:=λe=>by have:=this e;omega
   simpa using l
  have c2:(mp.drop (j+1)).filter (λe=>e.1 !=k)=mp.drop (j+1):=List.filter_eq_self.2 λy r=>by
   have⟨i,X0,hi⟩:=sa r;have:=(key i y hi).1;have l:y.1≠k:=λe=>by have:=this e;omega
   simpa using l
  conv=>rhs;rw[hs]
  rw[vW,List.filter_cons,c1,c2,ag (by simp[m])]
end
section
variable{v':cB}{bs:List fu}{A':Option Addr}{F':Nat->Prop}
structure qn where
 Ac:Option Addr
 cc:Nat
 Ab:Option Addr
 cb:Nat
 q:Nat
def qn.F(a:qn)(r b:Nat):Prop:=b=r\/b=a.q\/AF a.Ac b\/AF a.Ab b
def gN(bs:List fu):List Value:=bs.flatMap λb=>[.int .i64 b.h,.int .i64 b.fr,.int .i64 b.wd]
abbrev iR(a:qn)(v:cB):Array Value:= #[v.cap,.slice a.Ac v.cs.length a.cc,.slice a.Ab v.bs.length a.cb,.map (some a.q),v.pk,v.nx,v.lv,v.hi,v.pe,v.mv]
structure cQ(w:World)(B r:Nat)(a:qn)(v:cB):Prop where
 hd:aB w r 197 (iR a v)
 cs:az w B 65 a.Ac a.cc v.cs
 bs:aI w B 311 3 a.Ab a.cb v.bs.length (gN v.bs)
 mp:fy w a.q v.mp
 hr:B<=r
 hq:B<=a.q
section
variable{w:World}{B k n:Nat}{a a':qn}{v:cB}{b:fu}{x:Value}
def mS(bs:List fu):(gN bs).length=bs.length*3:=by
 induction bs with
 |nil=>rfl
 |cons t l e=>simp[gN]at e⊢;omega
def ii(bs cs:List fu):gN (bs++cs)=gN bs++gN cs:=by simp[gN]
def EH(bs:List fu):∀v∈gN bs,v.oneCell'=true:=λv hv=>by
 have⟨x,_,hx⟩:=nf.1 hv;simp at hx;rcases hx with rfl|rfl|rfl<;>rfl
def CV:∀{bs:List fu} {j:Nat} {x:fu},bs[j]?=some x->(gN bs)[j*3]?=some (.int .i64 x.h)/\(gN bs)[j*3+1]?=some (.int .i64 x.fr)/\(gN bs)[j*3+2]?=some (.int .i64 x.wd)
 |u::l,0,x,h=>by simp at h;subst h;simp[gN]
 |u::l,j+1,x,h=>by
  have:=CV (bs:=l) (j:=j) (x:=x) (by simpa using h);have e:gN (u::l)=[.int .i64 u.h,.int .i64 u.fr,.int .i64 u.wd]++gN l:=by simp[gN]
  rw[e,ew bY,ew bY,ew bY];simp only[dm,nn];rw[show(j+1)*3-(0+1+1+1)=j*3 from om,show(j+1)*3+1-(0+1+1+1)=j*3+1 from om,show(j+1)*3+2-(0+1+1+1)=j*3+2 from om];exact this
def AH(t:List fu)(j:Nat):gN (t.take j)=(gN t).take (j*3):=by
 by_cases h:j<=t.length
 .conv=>rhs;rw[<-de j t,ii]
  rw[e9 (by rw[mS,bB,dt h])]
 .rw[bR om,bR (by rw[mS];omega)]
def AJ(t:List fu)(j:Nat):gN (t.drop j)=(gN t).drop (j*3):=by
 by_cases h:j<=t.length
 .conv=>rhs;rw[<-de j t,ii]
  rw[nt (by rw[mS,bB,dt h])]
 .rw[ey om,ey (by rw[mS];omega)];rfl
def Px{bs:List fu}{j:Nat}{x:fu}(l:bs[j]?=some x)(t:Nat):gN (bs.set j ⟨x.h,t,x.wd⟩)=(gN bs).set (j*3+1) t:=by
 have C:=(a5.1 l).1;have e:=ih l;have D:bs.set j ⟨x.h,t,x.wd⟩=bs.take j++⟨x.h,t,x.wd⟩::bs.drop (j+1):=List.set_eq_take_append_cons_drop.trans (ah C);rw[D]
 conv=>rhs;rw[e]
 have m:∀y:fu,gN (y::bs.drop (j+1))=[.int .i64 y.h,.int .i64 y.fr,.int .i64 y.wd]++gN (bs.drop (j+1)):=λy=>by simp[gN]
 rw[ii,ii,m,m,kH _ _ (by rw[mS,bB];omega)];rw[mS,bB,dt om,show j*3+1-j*3=1 from om];rfl
def cQ.at(h:cQ w B r a v)[l:aF w w']:cQ w' B r a v:=⟨h.hd.at,h.cs.keep l.st,h.bs.at,h.mp.at,h.hr,h.hq⟩
def cQ.apart(h:cQ w B r a v):r≠a.q/\(∀b,AF a.Ac b->b≠r/\b≠a.q/\¬AF a.Ab b)/\∀b,AF a.Ab b->b≠r/\b≠a.q:=by
 have hb:=h.hd;unfold aB at hb;refine⟨h.mp.ne hb,λb C=>?_,λb C=>?_⟩
 .have⟨_,_,cur,l⟩:=h.cs.af C;refine⟨λe=>?_,h.mp.ne l,λhd=>?_⟩
  .subst e;rw[hb]at l;injection l with l;injection l with _ m;exact absurd m ak
  .have⟨_,_,acm,m⟩:=h.bs.af hd;rw[l]at m;injection m with m;injection m with _ D;exact absurd D ak
 .have⟨_,_,cur,l⟩:=h.bs.af C;refine⟨λe=>?_,h.mp.ne l⟩;subst e;rw[hb]at l;injection l with l;injection l with _ m;exact absurd m ak
def cQ.lt(h:cQ w B r a v):∀b,a.F r b->B<=b/\b<w.1.size:=λb hb=>by
 rcases hb with rfl|rfl|hb|hb
 .exact⟨h.hr,h.hd.lt⟩
 .exact⟨h.hq,h.mp.lt⟩
 .have⟨h1,h2,_⟩:=h.cs.af hb;exact⟨h1,h2⟩
 .have⟨h1,h2,_⟩:=h.bs.af hb;exact⟨h1,h2⟩
def cQ.keep(h:cQ w B r a v)(l:∀b,a.F r b->w'.heap[b]?=w.heap[b]?):cQ w' B r a v:=
 ⟨(l r (.inl rfl)).trans h.hd,h.cs.same λm e=>l _ (.inr (.inr (.inl ⟨m,e,rfl⟩))),h.bs.same λm e=>l _ (.inr (.inr (.inr ⟨m,e,rfl⟩))),h.mp.same (l _ (.inr (.inl rfl))),h.hr,h.hq⟩
def cQ.kf(h:cQ w B r a v){F:Nat->Prop}(e:Kf F F' w w')(hF:∀b,a.F r b->¬F b):cQ w' B r a v:=h.keep λb hb=>e.keep b (h.lt b hb).2 (hF b hb)
def cQ.sk(h:cQ w B r a v){x:Value}(m:iR a v'=(iR a v).setIfInBounds i x)(C:v'.cs=v.cs)(D:v'.bs=v.bs)(E:v'.mp=v.mp):cQ (w.setCell (r,i) x) B r a v':=by
 have⟨p1,p2,p3⟩:=h.apart;refine⟨?_,?_,?_,?_,h.hr,h.hq⟩
 .rw[m];exact h.hd.ax i x
 .rw[C];exact h.cs.same λl e=>bm w ⟨r,i,none⟩ _ _ (p2 _ ⟨l,e,rfl⟩).1
 .rw[D];exact h.bs.same λl e=>bm w ⟨r,i,none⟩ _ _ (p3 _ ⟨l,e,rfl⟩).1
 .rw[E];exact h.mp.same (bm w ⟨r,i,none⟩ _ _ (dF p1))
def cQ.al(h:cQ w B r a v)(hi:v.bs[i]?=some b):∃g,a.Ab=some ⟨g,0,none⟩/\Cl w g (i*3) (.int .i64 b.h)/\Cl w g (i*3+1) (.int .i64 b.fr)/\Cl w g (i*3+2) (.int .i64 b.wd):=by
 have⟨c0,c1,c2⟩:=CV hi;have⟨g,e,h0⟩:=h.bs.cell c0;have⟨g1,l,h1⟩:=h.bs.cell c1;have⟨g2,m,h2⟩:=h.bs.cell c2;rw[e]at l m;injection l with l;injection l with l
 injection m with m;injection m with m
 subst l m;exact⟨g,e,⟨h0⟩,⟨h1⟩,⟨h2⟩⟩
def bU.small(hv:bU v)(hi:v.bs[i]?=some b):b.fr+b.wd<=16777216/\1<=b.wd:=by
 have e:=hv.lay.bd b (aC hi);have l:=hv.cl;have m:=hv.cap;omega
def kv(h:Hx (cQ w B r a v))(hv:Hx (bU v))(hi:Hx (i<=v.bs.length))(E:y=(i:Int)-1)(l:Hx (dA v.bs i=e)):() 246 #[.pointer r,y] w (aD w (e:Int)):=by
 obtain⟨J,K⟩:=h5;have L:=@ct;subst E
 match i,hi,l with
 |0,hi,l=>
  obtain rfl:e=0:=by rw[<-l.o];rfl
  have d1:decide (((0:Nat):Int)-1<0)=true:=by decide
  go_in
  go_wp2
  go_ret;exact bq
 |i+1,hi,l=>
  have D:Bx w r 197 (iR a v):=⟨h.o.hd⟩;have C:i<v.bs.length:=hi.o;obtain⟨b,hb⟩:∃b,v.bs[i]?=some b:=⟨_,bc C⟩;have⟨g,hA,c0,c1,c2⟩:=h.o.al hb;have F:=hv.o.small hb;have G:Hx (b.fr+b.wd=e):=ae (by rw[<-l.o,kO hb]);have I:((i+1:Nat):Int)-1=(i:Int):=by omega
  have M:Old g w:=⟨cE c1.eq⟩;have⟨Ac,cc,Ab,cb,q⟩:=a;dsimp only at hA;subst hA;have N:IntKind.i64.wrap ((b.fr:Int)+(b.wd:Int))=(b.fr:Int)+(b.wd:Int):=by rw[aV];omega
  rw[I];obtain⟨m,hm⟩:=lh v.bs.length;dsimp only[iR]at D;rw[hm]at C D;have i1:(i:Int)<(m:Int):=by omega
  have d1:decide ((i:Int)<0)=false:=by simp
  go_in
  go_upto_region 3 with fail
  refine am aq (λO _=>?_);refine qL [0,1,2,3,4,5,6,7,8,9,10,11,12,13,14,15,16,17] ?_;refine aZ ?_
  go_wp2
  go_ret;exact⟨by rw[<-G.o];rfl,aK⟩
def Py(h:cQ w B r a v):() 56 #[.pointer r] w (aD w (.int .i64 v.pe)):=by
 have e:=@aa;have l:Bx w r 197 (iR a v):=⟨h.hd⟩
 go_in
 go_wp2
 go_ret;exact⟨rfl,⟨aY _ _⟩⟩
def Pz(h:cQ w B r a v):() 57 #[.pointer r] w (aD w (.int .i64 v.hi)):=by
 have e:=@aa;have l:Bx w r 197 (iR a v):=⟨h.hd⟩
 go_in
 go_wp2
 go_ret;exact⟨rfl,⟨aY _ _⟩⟩
def L3(h:cQ w B r a v):() 58 #[.pointer r] w (aD w (.int .i64 v.mv)):=by
 have e:=@aa;have l:Bx w r 197 (iR a v):=⟨h.hd⟩
 go_in
 go_wp2
 go_ret;exact⟨rfl,⟨aY _ _⟩⟩
def X1(cap:Nat):cB:=⟨cap,[],[],[],0,0,0,0,0,0⟩
def UI{cap:Nat}(h:cap<=16777216):bU (X1 cap):=
 ⟨⟨List.Pairwise.nil,λb hb=>(by cases hb)⟩,aT _,h,aT _,rfl,List.Pairwise.nil,λb hb=>(by cases hb),aT _,List.Pairwise.nil,λb hb=>(by cases hb),λe l=>(by cases l)⟩
def UJ{cap:Nat}(h:cap<=16777216):() 96 #[cap] w λe w'=>∃r a,e=.returned (.tuple #[.pointer (some ⟨r,0,none⟩),au])/\cQ w' w.1.size r a (X1 cap)/\aj w' w:=by
 have l:=@run_makeMap prog;have d1:decide ((16777216:Int)<(cap:Int))=false:=by simp;omega
 have m:decide ((cap:Int)<0)=false:=by simp
 go_in
 go_wp2
 go_ret2;exact⟨w.1.size+1,⟨none,0,none,0,w.1.size⟩,rfl,⟨aB.fx _ _ _ aG,az.nil _ _ _,⟨rfl,.inl ⟨rfl,rfl⟩⟩,⟨#[],0,(nj _ _ _ aG).trans (hx w _),rfl⟩,b9 _,an _⟩,aK⟩
end
end
variable{b off vb:Nat}{zs:List Int}{x:Int}
section
open Go.RowKit Go.Shelf
def rI:Ren:=⟨λn=>if n=15 then 86 else if n=21 then 189 else if n=23 then 187 else if n=25 then 188 else if n=27 then 229 else if n=28 then 230 else if n=31 then 227 else if n=32 then 228 else if n=35 then 266 else if n=37 then 265 else if n=39 then 281 else if n=107 then 140 else if n=108 then 192 else 0,
 λn=>if n=0 then 0 else if n=3 then 3 else if n=4 then 4 else if n=22 then 24 else if n=28 then 24 else if n=40 then 96 else 0,λn=>n⟩
def a2:Lays2.n21 prog rI where
 mixed:=aq
 f21:=func189
 f27:=func229
 f28:=func230
 f35:=func266
 f39:=func281
 t0:=underlying0
 a0:=isAgg0
 z0:=sizeOf0
 v0:=zeroValue0
 t3:=underlying3
 a3:=isAgg3
 z3:=sizeOf3
 v3:=zeroValue3
 t4:=underlying4
 a4:=isAgg4
 z4:=sizeOf4
 v4:=zeroValue4
 t22:=underlying24
 a22:=isAgg24
 z22:=sizeOf24
 v22:=zeroValue24
 i3:=aq
def X2:Lays2.n23 prog rI:=⟨a2.mixed,func187,a2.t0,a2.a0,a2.z0,a2.v0,a2.t3,a2.a3,a2.z3,a2.v3,a2.t4,a2.a4,a2.z4,a2.v4,a2.t22,a2.a22,a2.z22,a2.v22,a2.i3⟩
def PB:Lays2.n25 prog rI:=⟨a2.mixed,func188,func227,func228,func265,a2.t0,a2.a0,a2.z0,a2.v0,a2.t3,a2.a3,a2.z3,a2.v3,a2.t4,a2.a4,a2.z4,a2.v4,a2.t22,a2.a22,a2.z22,a2.v22,underlying96,isAgg96,sizeOf96,zeroValue96⟩
def HL:Lays2.n15 prog rI:=⟨a2.mixed,func86,a2.t3,a2.a3,a2.z3,a2.v3,a2.t4,a2.a4,a2.z4,a2.v4,a2.t22,a2.a22,a2.z22,a2.v22,a2.i3⟩
def KJ:Lays.n107 prog rI:=⟨a2.mixed,func140,func192,a2.t0,a2.a0,a2.z0,a2.v0,a2.t3,a2.a3,a2.z3,a2.v3,a2.t4,a2.a4,a2.z4,a2.v4,a2.t22,a2.a22,a2.z22,a2.v22⟩
section
variable{w:World}{B:Nat}{n:Nat}
def az.row(h:az w B 3 A c zs):aI w B 3 1 A c zs.length (zs.map (Value.int .i64)):=h
def aI.own(h:aI w B 3 1 A c n (zs.map (Value.int .i64))):az w B 3 A c zs/\n=zs.length:=by
 have e:n=zs.length:=by have:=h.1;simp at this;exact this.symm
 subst e;exact⟨h,rfl⟩
def sn(h:Rd w (some ⟨b,off,none⟩) zs):∀j,j<zs.length->w.cell? (b,off+j)=some (.int .i64 (zs.getD j 0)):=λj e=>by
 rw[aX,bc e];exact h.all (bc e)
def HM{α:Type}{L Z:List α}{v:α}{n:Nat}(h:L.length=n):(L++v::Z).take (n+1)=L++[v]:=by
 rw[show L++v::Z=(L++[v])++Z from aG,e9 (by simp[h])]
def p8(zs:av):∀v∈zs.map (Value.int .i64),v.oneCell'=true:=λv hv=>by
 obtain⟨z,_,rfl⟩:=bC.1 hv;rfl
def EI(h:az w B 3 A c zs){x:Int}(z:x=(i:Int))(C:y=(j:Int))(m:i<=j)(D:j<=zs.length)(E:0<zs.length):
  () 187 #[.slice A zs c,x,y] w λe w'=>e=.returned (.slice A (zs.take i++zs.drop j).length c)/\az w' B 3 A c (zs.take i++zs.drop j)/\cP A A w w':=by
 subst z C;have r:=h.rd;rcases h.form with⟨_,rfl,_⟩|⟨g,l,rfl,F,hg,G,hm,I,ht⟩
 .simp at E
 have u:∀j,w.frozen? ⟨g,0+j,none⟩=false:=λj=>by simp[World.frozen?,hg]
 refine(Any.slices_Delete_int_cells X2 g 0 zs.length c i j zs w (an _) G (by unfold maxLen at hm;omega) m D (sn r) (λj _=>u j)).mono ?_;rintro e w' ⟨rfl,q,rfl⟩;have el:(zs.take i++zs.drop j).length=zs.length-(j-i):=by simp;omega
 have b:((w.drewN q).setCells g 0 (((zs.take zs.length).take i++(zs.take zs.length).drop j++List.replicate (j-i) 0).map (Value.int .i64))).heap[g]?=some (.cells (qU l 0 (((zs.take zs.length).take i++(zs.take zs.length).drop j++List.replicate (j-i) 0).map (Value.int .i64))) 3 (0,0)):=
  d3 g _ 0 _ l _ _ hg
 refine⟨by rw[el],?_,((cP.refl _ w).drewN q).setCells 0 _ rfl⟩;refine((aI.mk' (k:=1) (n:=(zs.take i++zs.drop j).length) F b om hm (by rw[gb];omega) ?_).own (zs:=zs.take i++zs.drop j)).1;rw[gH _ _ _ bY,dJ];simp only[dK,kj,eG,cJ,dg];rw[<-dg,<-cJ,eK aG,bR aG]
def EJ(h:Rd w A zs)(r:zs.length<=1000000000)(hs:zs.Pairwise (· <= ·)):
  () 188 #[.slice A zs c,x] w (aD w (.tuple #[.int .i64 (zs.countP (· <x):Nat),.bool (zs.contains x)])):=by
 by_cases m:zs=[]
 .subst m;exact(Any.slices_BinarySearch_int_empty PB A c x w).mono λe w' ⟨j,l⟩=>⟨j,l▸aK⟩
 .obtain⟨z,t,rfl⟩:=vJ m;obtain⟨b,off,rfl,hb,_⟩:=h 0 z rfl;have:=Any.slices_BinarySearch_int PB b off (z::t).length c (z::t) x w (an _) om (sn h) (by rw[dJ];exact hs);rw[dJ]at this;exact this.mono λe w' ⟨j,q,l⟩=>⟨j,l▸aK⟩
def PC(w:ay)(B:Nat)(A:cD)(zs:av)(e:Ending)(w':ay):Prop:=∃b j,e=.returned (.slice b zs j)/\az w' B 3 b j zs/\cP A b w w'
def EK(h:az w B 3 A c zs)[hb:Bx w vb 3 #[x]](hv:∀U,A=some U->vb≠U.block)(X:y=(i:Int))(hi:i<=zs.length)(hn:zs.length<=1000000000)(P:B<=w.1.size):
  () 189 #[.slice A zs c,y,(vb,1,1)] w (PC w B A (zs.take i++x::zs.drop i)):=by
 subst X;have Q:=h.rd;have R:=hb.al.cell 0;have m:∀j v,[Value.int .i64 x][j]?=some v->w.cell? (vb,0+j)=some v:=λj v l=>by
  cases j with
  |zero=>simp at l;subst l;exact R
  |succ j=>simp at l
 have r:∀v∈[Value.int .i64 x],v.oneCell'=true:=λv hv=>by rw[cF.1 hv];rfl
 have b:(zs.take i++x::zs.drop i).length=zs.length+1:=by simp;omega
 have E:(zs.take i++x::zs.drop i).map (Value.int .i64)=(zs.map (Value.int .i64)).take i++[Value.int .i64 x]++(zs.map (Value.int .i64)).drop i:=aG;rcases h.form with⟨rfl,rfl,rfl⟩|⟨g,cur,rfl,K,hg,hl,hm,V,ht⟩
 .obtain rfl:i=0:=by simpa using hi
  refine(Any2.slices_Insert_int_end_grow a2 none 0 0 vb 0 1 1 [] [Value.int .i64 x] w om om om om rfl rfl (λ_=>rfl) (λa e=>by cases e) m r).mono ?_;rintro e w' ⟨rfl,rfl⟩;refine⟨some ⟨w.1.size,0,none⟩,_,rfl,?_,cP.fresh ((aY _ _).drew.alloc (an _) _) (an _)⟩;refine((aI.mk' (k:=1) (n:=1) (vs:=[x].map (Value.int .i64)) P (hx w.drew _) (aO (an 1) (nA w _ _ _)) (p0 w _ _ _ (by unfold maxLen;omega)) ?_ ?_).own).1
  .have:=nA w (0+1) 0 (rI.t 3);generalize grownCap w (0+1) 0 (rI.t 3)=G at this⊢;simp[Builtin.zeroCells,Value.cells];omega
  .simp
 have u:∀j,j<c->(w.cell? (g,j)).isSome=true:=λj l=>by simp[World.cell?,hg,V,l]
 have L:∀j,w.frozen? ⟨g,j,none⟩=false:=λj=>by simp[World.frozen?,hg]
 have M:c<=9223372036854775807:=by unfold maxLen at hm;omega
 have F:∀j v,(zs.map (Value.int .i64))[j]?=some v->w.cell? (g,0+j)=some v:=λj v l=>by
  rw[bj]at l;obtain⟨z,Y,rfl⟩:=bD.1 l;exact Q.all Y
 have N:cur.toList.take zs.length=zs.map (Value.int .i64):=by simpa using ht
 by_cases C:zs.length+1<=c
 .by_cases I:i<zs.length
  .refine(Any2.slices_Insert_int_shift a2 g 0 zs.length c i vb 0 1 1 (zs.map (Value.int .i64)) [Value.int .i64 x] w I om C M (hv _ rfl) aG rfl F (λj l=>by rw[bX];exact u j om) (λj _=>by rw[bX];exact L j) m (p8 zs) r 3 3 1 c (by have:=hb.al;unfold aB at this;simp[World.shape?,this]) (by simp[World.shape?,hg,V]) om (hb.al.frozen _) (hb.al.frozen _)).mono ?_;rintro e w' ⟨rfl,rfl⟩;refine⟨some ⟨g,0,none⟩,c,by rw[b],?_,((((cP.refl _ w).drew).setCells _ _ rfl).setCells _ _ rfl)⟩;have D:=d3 g ((zs.map (Value.int .i64)).drop i) (0+(i+1)) w.drew cur _ _ hg;have J:=d3 g [Value.int .i64 x] (0+i) _ _ _ _ D;refine((aI.mk' (k:=1) (n:=(zs.take i++x::zs.drop i).length) K J om hm (by rw[gb,gb];omega) ?_).own (zs:=zs.take i++x::zs.drop i)).1;have:=HA (cur:=cur) (cs:=zs.map (Value.int .i64)) (vs:=[.int .i64 x]) (a:=i) bY (by rw[br];exact N) bY;rw[E,b,eG,<-this];simp
  .obtain rfl:i=zs.length:=om;refine(Any2.slices_Insert_int_end_room a2 g 0 zs.length c vb 0 1 1 [Value.int .i64 x] w om C M rfl (λj l=>by rw[bX];exact u _ om) (λj _=>by rw[bX];exact L _) m r).mono ?_;rintro e w' ⟨rfl,rfl⟩;refine⟨some ⟨g,0,none⟩,c,by rw[b],?_,(cP.refl _ w).setCells _ _ rfl⟩;have D:=d3 g [Value.int .i64 x] (0+zs.length) w cur _ _ hg;refine((aI.mk' (k:=1) (n:=(zs.take zs.length++x::zs.drop zs.length).length) K D om hm (by rw[gb];omega) ?_).own (zs:=zs.take zs.length++x::zs.drop zs.length)).1;have:=Pf (cur:=cur) (cs:=zs.map (Value.int .i64)) (vs:=[.int .i64 x]) (by rw[br];exact N) bY;rw[b,eG];simp at this⊢;exact this
 .have S:c=zs.length:=om;subst S;by_cases I:i<zs.length
  .refine(Any2.slices_Insert_int_grow a2 g 0 zs.length zs.length i vb 0 1 1 (zs.map (Value.int .i64)) [Value.int .i64 x] w I om (an _) om om aG rfl F m (p8 zs) r).mono ?_;rintro e w' ⟨rfl,rfl⟩;have O:Below w.1.size w (((w.alloc (.cells (((zs.map (Value.int .i64)).take i).toArray++Builtin.zeroCells (Value.int .i64 0).cells (zs.length+1-i)++Builtin.zeroCells (Value.int .i64 0).cells (grownCap w (zs.length+1) zs.length (rI.t 3)-(zs.length+1))) (rI.t 3))).drew.setCells w.1.size i [Value.int .i64 x]).drew):=
    (eP (an _) _ _ ((aY _ w).alloc (an _) _).drew).drew
   refine⟨some ⟨w.1.size,0,none⟩,_,by rw[b],?_,cP.fresh (eP (an _) _ _ O) (an _)⟩;have D:=d3 w.1.size [Value.int .i64 x] i (w.alloc (.cells (((zs.map (Value.int .i64)).take i).toArray++Builtin.zeroCells (Value.int .i64 0).cells (zs.length+1-i)++Builtin.zeroCells (Value.int .i64 0).cells (grownCap w (zs.length+1) zs.length (rI.t 3)-(zs.length+1))) (rI.t 3))).drew _ _ _ (hx w _);have J:=d3 w.1.size ((zs.map (Value.int .i64)).drop i) (i+1) (((w.alloc (.cells (((zs.map (Value.int .i64)).take i).toArray++Builtin.zeroCells (Value.int .i64 0).cells (zs.length+1-i)++Builtin.zeroCells (Value.int .i64 0).cells (grownCap w (zs.length+1) zs.length (rI.t 3)-(zs.length+1))) (rI.t 3))).drew.setCells w.1.size i [Value.int .i64 x]).drew) _ _ _ D;have T:=nA w (zs.length+1) zs.length (rI.t 3);refine((aI.mk' (k:=1) (n:=(zs.take i++x::zs.drop i).length) P J om (p0 w _ _ _ (by unfold maxLen;omega)) (by rw[gb,gb];simp[Builtin.zeroCells,Value.cells];omega) ?_).own (zs:=zs.take i++x::zs.drop i)).1;have:=LQ (cs:=zs.map (Value.int .i64)) (vs:=[.int .i64 x]) (a:=i) (cur:=((zs.map (Value.int .i64)).take i).toArray++Builtin.zeroCells (Value.int .i64 0).cells (zs.length+1-i)++Builtin.zeroCells (Value.int .i64 0).cells (grownCap w (zs.length+1) zs.length (rI.t 3)-(zs.length+1))) (Z:=(Builtin.zeroCells (Value.int .i64 0).cells (zs.length+1-i)++Builtin.zeroCells (Value.int .i64 0).cells (grownCap w (zs.length+1) zs.length (rI.t 3)-(zs.length+1))).toList) bY aG (by simp[Builtin.zeroCells,Value.cells];omega);rw[E,b,eG,<-this];simp
  .obtain rfl:i=zs.length:=om;refine(Any2.slices_Insert_int_end_grow a2 g zs.length zs.length vb 0 1 1 (zs.map (Value.int .i64)) [Value.int .i64 x] w om (an _) om om aG rfl (λe=>by cases e) (λa e j v l=>by cases e;rw[bQ];exact F j v l) m r).mono ?_;rintro e w' ⟨rfl,rfl⟩;refine⟨some ⟨w.1.size,0,none⟩,_,by rw[b],?_,cP.fresh ((aY _ _).drew.alloc (an _) _) (an _)⟩;have T:=nA w (zs.length+1) zs.length (rI.t 3);refine((aI.mk' (k:=1) (n:=(zs.take zs.length++x::zs.drop zs.length).length) P (hx w.drew _) om (p0 w _ _ _ (by unfold maxLen;omega)) ?_ ?_).own (zs:=zs.take zs.length++x::zs.drop zs.length)).1
   .simp[Builtin.zeroCells,Value.cells];omega
   .rw[b,eG];simp;exact HM aG
def xf(w:ay)(zs:av)(e:Ending)(w':ay):Prop:=∃A c,e=.returned (.slice A zs c)/\az w' w.1.size 3 A c zs/\aj w' w
def HN[a:Sl w A n zs](D:n<=1000000):() 86 #[(A,n,c)] w (xf w zs):=by
 obtain⟨a,rfl⟩:=a
 match A,a with
 |none,a=>
  obtain rfl:zs=[]:=by
   cases zs with
   |nil=>rfl
   |cons z t=>obtain⟨b,off,e,_⟩:=a 0 z rfl;cases e
  exact(Any.slices_Clone_int_nil HL 0 c w).mono λe w' ⟨r,u⟩=>⟨none,0,r,az.nil _ _ _,u▸aK⟩
 |some y,a=>
  have fin:∀(e:Ending) (w':ay),(∃l,e=.returned l/\w'.ownsRow w.1.size 3 1 l zs.length (zs.map (Value.int .i64))/\l≠.slice none 0 0/\Below w.1.size w w')->xf w zs e w':=by
   rintro e w' ⟨l,rfl,m,_,hb⟩;rcases m.2 with⟨rfl,j⟩|⟨g,cap,C,rfl,_⟩
   .exact⟨none,0,by rw[j],by unfold az;rw[j]at m⊢;exact m,⟨hb⟩⟩
   .exact⟨some ⟨g,0,none⟩,cap,rfl,m,⟨hb⟩⟩
  by_cases j:zs=[]
  .subst j;exact(Any.slices_Clone_int_zero HL y c w).mono λe w' h=>fin e w' h
  .obtain⟨z,t,rfl⟩:=vJ j;have⟨b,off,e,hb,_⟩:=a 0 z rfl;injection e with e
   subst e;have:=Any.slices_Clone_int HL b off (z::t).length c (z::t) w (an _) om (sn a);rw[dJ]at this;exact this.mono λe w' h=>fin e w' h
def qC[a:Sl w A n zs](r:n<=1000000){v:Bool}(hv:Hx (zs.contains x=v)):() 140 #[(A,n,c),x] w (aD w (.bool v)):=by
 obtain⟨a,rfl⟩:=a;by_cases m:zs=[]
 .subst m;refine(Any.slices_Contains_int_empty KJ A c x w).mono λe w' ⟨j,l⟩=>⟨?_,l▸aK⟩;rw[j,<-hv.o];rfl
 .obtain⟨z,t,rfl⟩:=vJ m;obtain⟨b,off,rfl,hb,_⟩:=a 0 z rfl;have:=Any.slices_Contains_int KJ b off (z::t).length c (z::t) x w (an _) om (sn a);rw[dJ,hv.o]at this;exact this.mono λe w' ⟨j,l⟩=>⟨j,l▸aK⟩
end
end
variable{d fr wd:Nat}{a':qn}{v':cB}{bs:List fu}{A':Option Addr}{xs:List Int}
section
open Go.RowKit Go.Shelf
section
variable{w:World}{B k n:Nat}{a:qn}{v:cB}{b:fu}{x:Value}
def HO[s:Sl w (some ⟨g,j,none⟩) n zs](S:n<=1000000):() 261 #[.slice (some ⟨g,j,none⟩) n c] w (λe w'=>∃A c,e=.returned (.slice A n c)/\az w' w.1.size 65 A c zs/\aj w' w):=by
 have⟨i,hi,fk⟩:=bD.1 (show(prog.info? 65).map (λi=>(i.zero,i.size,i.bytes))=some (some (.int .i64 0),1,8)from by kernel_rfl);simp only[dL]at fk;obtain⟨F,G,I⟩:=fk;have D:n=zs.length:=s.len;have p1:aj (w.alloc (.cells #[] 65)) w:=ao;have K:(w.alloc (.cells #[] 65)).ownsRow w.1.size 65 1 (w,0,0) 0 []:=aI.mk' (cur:= #[]) (an _) (hx w _) (an _) (aT _) rfl rfl;have L:Sl (w.alloc (.cells #[] 65)) (some ⟨g,j,none⟩) n zs:=ao;have R:=λM=>vN (P:=prog) (w.alloc (.cells #[] 65)) w.1.size 26 M 65 i _ 1 8 aq hi F G I rfl ak _ 0 _ K ⟨g,j,none⟩ n c (zs.map (Value.int .i64)) (by simp[D]) (λk u hu=>by
  rw[bj]at hu;obtain⟨z,N,rfl⟩:=bD.1 hu;rw[bQ];exact L.rd.all N) (p8 zs) (by unfold maxLen;omega) om aG
 obtain⟨v',w',hr,l,hg,-,-⟩:=R 26;have O:∀W,(binOp .eql 26 (.slice (some ⟨g,j,none⟩) n c) ()).run prog W=.ok (.bool false) W:=λW=>Lib.run_eql_slice_nil W 26 65 _ _ _ _ _ aq;change Hx _ at l hg D
 go_in
 go_wp2_with (at_builtin;refine Lib.wpList_append_run _ rfl _ _ 26 26 rfl _ _ rfl rfl _ _ hr ?_)
 go_ret;have hb:Below w.1.size w w':=((aY w.1.size w).alloc (an _) _).grown hg.o aG (λk E=>by
  rw[b0]at E;injection E with E
  exact dE E)
 have C:=l.o;rw[bX,kj]at C;rcases C.2 with⟨rfl,Q⟩|⟨g,cap,cur,rfl,_⟩
 .have J:=D.o;rw[Q]at J C⊢;obtain rfl:zs=[]:=jY J.symm;exact⟨none,0,rfl,az.nil _ _ _,⟨hb⟩⟩
 .refine⟨some ⟨g,0,none⟩,cap,rfl,?_,⟨hb⟩⟩;rw[D.o]at C;exact C
def CW(e: -4611686018427387904<=(fr:Int)-y/\(fr:Int)-y<=4611686018427387904):() 260 #[.agg #[z,fr,wd],y] w (aD w ((fr:Int)-y:Int)):=by
 have l:=@aa;have w1:IntKind.i64.wrap ((fr:Int)-y)=(fr:Int)-y:=by rw[aV];omega
 go_in
 go_wp2
 go_ret;exact bq
def KK(l:jK bs m){i j:Nat}{a b:fu}(e:i<j)(C:bs[i]?=some a)(hb:bs[j]?=some b):a.fr<b.fr:=by
 have D:=l.lt e C hb;have E:=(l.bd a (aC C)).1;omega
def aaN(M:Hx (aI w B 311 3 A c n (gN bs)))(K:Hx (jK bs m))(hm:Hx (m<=16777216))(X:Hx (bs.length=n))(Y:n<=16777216)(hi:Hx (bs[i]?=some b))(L:Hx (y=(b.fr:Int))):
  () 259 #[(A,n,c),y,.func (.func 260) #[] #[]] w (aD w (.tuple #[i,.bool true])):=by
 have CP:=@bL;have CC:=@ct;have EG:∀args w,(callFunc 260 args).run prog w=.ok (.enter 260 args) w:=enters_of func260 aq rfl;have N:i<n:=by have:=(a5.1 hi).1;rw[X.o]at this;exact this
 have G:Hx (∀k,k<n->∃(g:Nat) (e:fu),A=some ⟨g,0,none⟩/\Old g w/\Cl w g (k*3) (.int .i64 e.h)/\Cl w g (k*3+1) (.int .i64 e.fr)/\Cl w g (k*3+2) (.int .i64 e.wd)/\Hx (bs[k]?=some e)/\e.fr<=16777216):=ae λk O=>by
  have l:bs[k]?=some (bs[k]'(by rw[X.o];exact O)):=bc _;have⟨c0,c1,c2⟩:=CV l;have⟨g,e,P⟩:=M.o.cell c0;have⟨g1,D,Q⟩:=M.o.cell c1;have⟨g2,E,h2⟩:=M.o.cell c2;rw[e]at D E;injection D with D;injection D with D
  injection E with E;injection E with E
  subst D E;have:=K.o.bd _ (aC l);exact⟨g,_,e,⟨cE P⟩,⟨P⟩,⟨Q⟩,⟨h2⟩,ae l,by have:=hm.o;omega⟩
 have I:=ae N;have Z:b.fr<=16777216:=by have:=K.o.bd _ (aC hi);have:=hm.o;omega
 go_in
 go_wp2_with fail
 go_loopw [9,10] (λs t wr=>∃lo hi:Nat,lo<=i/\i<=hi/\hi<=n/\s=.int .i64 (lo:Int)/\t=.int .i64 (hi:Int)/\aj wr w) (λs t _=>(intOf t-intOf s).toNat)
 case atStart=>exact⟨0,n,aT _,gV I.o,an _,rfl,rfl,aK⟩
 case round=>
  obtain⟨lo,F,R,S,T,rfl,rfl,hp⟩:=hrel;by_cases bK:lo<F
  .obtain⟨k,O⟩:=lg ((lo+F)/2:Nat);obtain⟨g,e,rfl,ob,c0,c1,c2,l,U⟩:=G.o k om;have hdv:((lo:Int)+(F:Int))/2=(k:Int):=by omega
   have hml:lo<=k:=om;have hmh:k<F:=om;have J: -4611686018427387904<=(e.fr:Int)-y/\(e.fr:Int)-y<=4611686018427387904:=by have:=L.o;omega
   have C:=ae J;clear O J;by_cases hx:k<i
   .have hc:decide ((e.fr:Int)-y<0)=true:=by
     have:=KK K.o hx l.o hi.o;have:=L.o;simp;omega
    go_wp2_with (go_at_fn 260;(with_reducible refine(CW C.o).mono ?_);rintro e u ⟨rfl,_⟩)
    go_roundw
    case rel=>exact⟨k+1,F,om,S,T,by go_num,rfl,aK⟩
    .simp[intOf];omega
   .have hc:decide ((e.fr:Int)-y<0)=false:=by
     have P:=L.o;by_cases Q:k=i
     .subst Q;have V:=l.o.symm.trans hi.o;obtain rfl:=cn V;simp;omega
     .have:=KK K.o (show i<k by omega) hi.o l.o;simp;omega
    go_wp2_with (go_at_fn 260;(with_reducible refine(CW C.o).mono ?_);rintro e u ⟨rfl,_⟩)
    go_roundw
    .exact⟨lo,k,R,om,om,rfl,rfl,aK⟩
    .simp[intOf];omega
  .obtain rfl:lo=F:=om;obtain rfl:lo=i:=om;obtain⟨g,e,rfl,ob,c0,c1,c2,l,U⟩:=G.o lo I;have V:=l.o.symm.trans hi;obtain rfl:=cn V;have hz:(e.fr:Int)-y=0:=by have:=L.o;omega
   have C:Hx (-4611686018427387904<=(e.fr:Int)-y/\(e.fr:Int)-y<=4611686018427387904):=ae om;have d2:((e.fr:Int)-y==0)=true:=by rw[hz];rfl
   go_wp2_with (go_at_fn 260;refine mv (CW C) λu _=>?_)
   go_ret2;exact bq
def AM(l:cQ w B r a v)(hv:bU v)(hi:v.bs[i]?=some b):() 207 #[.pointer r,.int .i64 b.h] w (aD w (.tuple #[i,.bool true])):=by
 have P:=@aa;have D:Bx w r 197 (iR a v):=⟨l.hd⟩;have I:=l.mp.look hv.uq (hv.zR b (aC hi)) w rfl;have E:=ae l.bs;have J:=ae hv.lay;have F:Hx (v.cs.length<=16777216):=ae (by have:=hv.cl;have:=hv.cap;omega);have K:=ae hi;have e:v.bs.length<=16777216:=by
  have Q:=hv.wZ;have R:=F.o;have S:v.bs.length<=(v.bs.map (·.wd)).sum:=by
   have:∀L:List fu,(∀b∈L,1<=b.wd)->L.length<=(L.map (·.wd)).sum:=by
    intro L
    induction L with
    |nil=>intro _;simp
    |cons x t M=>
     intro hL;have N:=hL x cm;have T:=M λy O=>hL y (dl _ O);simp only[dX,iz,dm];omega
   exact this _ λb hb=>(hv.lay.bd b hb).1
  have N:=hv.lv;omega
 have U:=ae e;have V:Hx (v.bs.length=v.bs.length)\/True:=.inr bA;obtain⟨n,G⟩:=lh v.bs.length;dsimp only[iR]at D;rw[G]at D E e;have C:=ae G
 go_in
 go_wp2_with (go_at_call 259;refine mv (aaN E J F C e K rfl) λX _=>?_)
 go_ret2;exact bq
end
end
variable{X p:World}
section
variable{w:World}{B k n:Nat}{a:qn}{v:cB}{b:fu}{x:Value}
def kQ{Q:World->Prop}{cs:eL}(h:∀u,aj u X->Bx u X.1.size T cs->Q u):Q (X.alloc (.cells cs T)):=h _ (aK) ao
def EL(e:cQ w B r a v)(hv:bU v)(hi:v.bs[i]?=some b):() 251 #[.pointer r,b.h] w (aD w (.tuple #[.agg #[b.h,b.fr,b.wd],au])):=by
 obtain⟨J,K⟩:=h5;have L:=@ct;have M:=@aP;have C:Bx w r 197 (iR a v):=⟨e.hd⟩;obtain⟨g,D,c0,c1,c2⟩:=e.al hi;have N:Old g w:=⟨cE c1.eq⟩;have l:=(a5.1 hi).1;obtain⟨m,hm⟩:=lh v.bs.length;have E:=ae e;have F:=ae hv;have G:=ae hi;obtain⟨Ac,cc,Ab,cb,q⟩:=a;dsimp only at D;subst D;dsimp only[iR]at C;rw[hm]at C l;have i1:(i:Int)<(m:Int):=by omega
 clear e hv hi hm
 go_in
 go_upto_region 1 with fail
 refine kQ (λO _ k0=>?_)
 go_upto_region 4 with(go_at_call 207;refine mv (AM E.o.at F.o G.o) λI _=>?_)
 go_wp2_with fail
 refine a8 (v:=.tuple #[.agg #[b.h,b.fr,b.wd],au]) ?_ rfl ⟨rfl,⟨(((a7 w I).setCell (p:=⟨w.1.size,0,none⟩) (an _) _).setCell (p:=⟨w.1.size,1,none⟩) (an _) _).setCell (p:=⟨w.1.size,2,none⟩) (an _) _⟩⟩;rw[b8 rfl];go_simp
def cQ.row(F:cQ w B r a v)(hv:bU v)(hi:v.bs[i]?=some b):∃g,a.Ac=some ⟨g,0,none⟩/\Sl w (some ⟨g,b.fr,none⟩) b.wd (cont v.cs b)/\v.cs.length<=a.cc/\a.cc<=maxLen/\b.fr+b.wd<=v.cs.length/\1<=b.wd/\v.cs.length<=16777216/\
  ∀W:World,(Instr.slice 26 (.slice (some ⟨g,0,none⟩) v.cs.length a.cc) (some (.int .i64 (b.fr:Int))) (some (.int .i64 ((b.fr:Int)+(b.wd:Int)))) none).run prog W=.ok (.slice (some ⟨g,b.fr,none⟩) b.wd (a.cc-b.fr)) W:=by
 have hb:=hv.lay.bd b (aC hi);have K:=F.cs.gW;rcases F.cs.form with⟨_,L,_⟩|⟨g,M,J,R,hg,N,hm,S,ht⟩
 .rw[L]at hb;simp at hb;omega
 .have O:=hv.cl;have P:=hv.cap;refine⟨g,J,⟨λj z E=>?_,(ig hb.2).symm⟩,K,hm,hb.2,hb.1,om,λW=>?_⟩
  .rw[mO]at E
   split at E
   .obtain⟨T,o1,e,G,l⟩:=F.cs.rd _ _ E;rw[J]at e;injection e with e;injection e with C D
    subst C D;exact⟨g,b.fr,rfl,G,by rw[bX]at l;exact l⟩
   .cases E
  .have I:∀W,(sizeOf (prog.elem 26)).run prog W=.ok 1 W:=λW=>by
    obtain⟨U,C,D⟩:=bD.1 (show(prog.info? (prog.elem 26)).map (·.size)=some 1 from by kernel_rfl);simp[sizeOf,typeInfo,C,D]
   rw[lR W 26 (some ⟨g,0,none⟩) v.cs.length a.cc aq .i64 .i64 (b.fr:Int) ((b.fr:Int)+(b.wd:Int)) om om om,I];have C:((b.fr:Int)+(b.wd:Int)).toNat=b.fr+b.wd:=om;have D:¬a.cc=b.fr:=om;have Q:b.fr+b.wd-b.fr=b.wd:=om;simp[Result.andThen,sliced,C,D,Q,bQ]
def UK(C:cQ w B r a v)(hv:bU v)(hi:v.bs[i]?=some b)(G:b.wd<=65536):() 209 #[.pointer r,b.h] w (λe w'=>∃A c,e=.returned (.tuple #[.slice A b.wd c,au])/\az w' w.1.size 65 A c (cont v.cs b)/\aj w' w):=by
 have U:=@aa;have V:=@aP;have D:Bx w r 197 (iR a v):=⟨C.hd⟩;obtain⟨g,E,X,l1,I,J,Y,L,l⟩:=C.row hv hi;have M:=ae C;have N:=ae hv;have O:=ae hi;obtain⟨Ac,cc,Ab,cb,q⟩:=a;dsimp only at E l1 I l;subst E;dsimp only[iR]at D;obtain⟨m,hm⟩:=lh v.cs.length;rw[hm]at D l l1 J L;have Z:IntKind.i64.wrap ((b.fr:Int)+(b.wd:Int))=(b.fr:Int)+(b.wd:Int):=by rw[aV];omega
 clear C hv hi hm
 go_in
 go_upto_region 4 with(go_at_call 251;refine mv (EL M.o N.o O.o) λu1 _=>?_)
 refine kQ (λF _ k0=>?_);have P:Sl F (some ⟨g,b.fr,none⟩) b.wd (cont v.cs b):=ao;refine aH F aq (λQ _=>?_);refine qL [0,1,2,3,4,5,6,7,8,9,10,11] ?_;refine aM 12 λK hK=>?_;go_simp
 (with_reducible refine(HO om).mono ?_)
 rintro e Q ⟨R,S,rfl,T,_⟩;dsimp only;refine aL hK ?_;refine qL [13,14] ?_;refine aZ ?_
 go_wp2_with fail
 go_ret2;exact⟨R,S,rfl,T.more ai,aK⟩
def KL{ad:Addr}{t:Nat}(h:az w B 65 (some ⟨g,0,none⟩) c zs)(D:∀(j:Nat) (z:Int),xs[j]?=some z->w.cell? (ad.add j)=some (.int .i64 z))(ht:t+xs.length<=zs.length):
  ∃X,(∀l dc sc,(Builtin.copy_ #[26,26] l #[.slice (some ⟨g,t,none⟩) xs dc,.slice (some ad) xs sc]).run prog w=.ok (goInt (xs.length:Int)) (w.setRow g X))/\az (w.setRow g X) B 65 (some ⟨g,0,none⟩) c (iE zs t xs):=by
 rcases h.form with⟨F,_⟩|⟨N,cur,e,G,hg,I,hm,J,hv⟩
 .cases F
 injection e with e;injection e with K O;subst K
 refine⟨(cur.toList.take t++xs.map (Value.int .i64)++cur.toList.drop (t+(xs.map (Value.int .i64)).length)).toArray,λl dc sc=>?_,?_⟩
 .have:=e0 (P:=prog) (w:=w) (E:=65) (k:=1) (g:=g) (o:=t) (cs:=xs.map (Value.int .i64)) (cur:=cur) 26 26 l xs.length dc ad xs.length sc aq aq hg aG (λj v C=>by
   rw[bj]at C;obtain⟨z,L,rfl⟩:=bD.1 C;exact D j z L) bY (p8 xs)
  rw[ku (an _)]at this;exact this
 .have M:=jL (cs:=zs) (p:=t) (xs:=xs) ht;have hs:cur.toList.length=c:=by simpa using J
  have:=aI.mk' (w:=w.setRow g (cur.toList.take t++xs.map (Value.int .i64)++cur.toList.drop (t+(xs.map (Value.int .i64)).length)).toArray) (E:=65) (k:=1) (n:=zs.length) (c:=c) (vs:=(iE zs t xs).map (Value.int .i64)) G (bH hg _) I hm bY (by
   show List.take (zs.length*1) (cur.toList.take t++xs.map (Value.int .i64)++cur.toList.drop (t+(xs.map (Value.int .i64)).length))=_
   rw[eG,br,iE,cJ,cJ,jw,nz,<-hv];rw[ez,dt om];rw[rT,bR bY];congr 1;rw[rS];congr 1;simp;omega)
  unfold az;rw[M];exact this
def cQ.cells{X:eL}(C:cQ w B r a v)(E:a.Ac=some ⟨g,0,none⟩)(F:az (w.setRow g X) B 65 (some ⟨g,0,none⟩) a.cc zs)(G:zs.length=v.cs.length):cQ (w.setRow g X) B r a {v with cs:=zs}:=by
 obtain⟨p1,D,K⟩:=C.apart;have l:AF a.Ac g:=⟨_,E,rfl⟩;refine⟨?_,?_,?_,?_,C.hr,C.hq⟩
 .have:iR a {v with cs:=zs}=iR a v:=by dsimp only[iR];rw[G]
  rw[this];exact(ba (dF (D g l).1) X).trans C.hd
 .rw[E];exact F
 .exact C.bs.same λI e=>ba (λJ=>(D g l).2.2 (by rw[<-J];exact⟨I,e,rfl⟩)) X
 .exact C.mp.same (ba (dF (D g l).2.1) X)
def nM{F:Nat->Prop}(hg:F g)(X):Kf F F w (w.setRow g X):=
 ⟨⟨rfl,rfl,rfl,by rw[size_setRow];exact an _,λb hb=>absurd hb (ju _)⟩,by rw[size_setRow];exact an _,λb _ l=>ba (λe=>l (by rw[e];exact hg)) X,λ_ h=>.inl h⟩
def UL[aF p w](M:cQ w p.1.size r a v)(hv:bU v)(hi:v.bs[i]?=some b)[N:Sl w A n xs](Z:n=b.wd):() 204 #[.pointer r,.int .i64 b.h,(A,n,c)] w (λe w'=>e=.returned au/\cQ w' p.1.size r a (v.put b xs)/\Kf (a.F r) (a.F r) w w'):=by
 have CB:=@aa;have CC:=@ct;have FB:=@aP;obtain⟨g,O,-,l1,l2,l3,l4,l5,qZ⟩:=M.row hv hi;have I:xs.length=b.wd:=by rw[<-Z,N.len]
 obtain⟨b1,o1,z1,rfl,q6,-,-⟩:=N.get (k:=0) om;have c1:Cl w r 1 (.slice g v.cs.length a.cc):=⟨by rw[M.hd.cell 1,<-O];rfl⟩;have P:=ae M;have HV:=ae hv;have HI:=ae hi;have Q:=ae O;have G:=ae I;have J:=ae l3;have SX:=ae N;subst Z;have hw:IntKind.i64.wrap ((b.fr:Int)+(b.wd:Int))=(b.fr:Int)+(b.wd:Int):=by rw[aV];omega
 clear M hv hi O I
 go_in
 go_upto_region 4 with(go_at_call 251;refine mv (EL P.o HV.o HI.o) λR _=>?_)
 refine kQ (λu0 CX k0=>?_)
 go_upto_region 6 with fail
 refine aR p (λw9=>Cl w9 r 1 (.slice g v.cs.length a.cc)/\Bx w9 R.1.size 311 #[.int .i64 b.h,.int .i64 (b.fr:Int),.int .i64 (b.wd:Int)]) aq ⟨ao,ao⟩ (λC _=>?_);refine bp 0 ?_;refine bp 1 ?_;refine bp 2 ?_;refine bp 3 ?_;refine bp 4 ?_;refine bp 5 ?_;refine bp 6 ?_;refine bp 7 ?_;refine bp 8 ?_;refine bp 9 ?_;refine bp 10 ?_;refine bp 11 ?_;refine bp 12 ?_;refine aM 13 λK hK=>?_;have D:=P.o.at (w':=C);have l:=D.cs;rw[Q.o]at l;obtain⟨X,L,S⟩:=KL (ad:=⟨b1,o1,none⟩) (t:=b.fr) (xs:=xs) l (λj z hj=>by rw[bQ];exact(SX.o.rd.below (a7 w C)).all hj) (by rw[G.o];exact J.o);rw[G.o]at L;have E:AF a.Ac g:=by rw[Q.o];exact⟨_,rfl,rfl⟩
 have T:g≠r:=(D.apart.2.1 g E).1;have CY:p.1.size<=g:=(D.lt g (.inr (.inr (.inl E)))).1;have U:g≠R.1.size:=by have:=(P.o.lt g (.inr (.inr (.inl E)))).2;have:=ai (w:=w) (w':=R);omega
 have V:=ae (D.cells Q.o S (jL (by rw[G.o];exact J.o)));have Y:Hx (Kf (a.F r) (a.F r) w (C.setRow g X)):=ae ((Kf.later _ (w:=w)).trans (nM (.inr (.inr (.inl E))) X));refine eg rfl _ _ 26 26 rfl _ _ rfl rfl (L _ _ _) ?_;refine aL hK ?_ ⟨⟨⟨(a7 p C).os,(a7 p C).tape,(a7 p C).output,by rw[size_setRow];exact(a7 p C).size,λb hb=>by rw[ba om];exact(a7 p C).block b hb⟩⟩,⟨(dY (ba (dF T) X)).trans (Cl.eq (w:=C))⟩,⟨(ba (dF U) X).trans (Bx.al (w:=C))⟩⟩;refine aZ ?_
 go_wp2_with fail
 go_ret;exact⟨rfl,V.o,Y.o⟩
end
variable{w1:World}{c':Nat}{bs':List fu}
section
variable{w:World}{B k n:Nat}{a:qn}{v:cB}{b:fu}{x:Value}{t:Value}
def cQ.WK(C:cQ w B r a v)(G:cP a.Ab A' w w')(hr:aI w' B 311 3 A' c' bs'.length (gN bs')):cQ (w'.setCell (r,2) (.slice A' bs' c')) B r {a with Ab:=A',cb:=c'} {v with bs:=bs'}/\Kf (a.F r) (({a with Ab:=A',cb:=c'}:qn).F r) w (w'.setCell (r,2) (.slice A' bs' c')):=by
 have⟨p1,p2,p3⟩:=C.apart;have I:aB w' r 197 (iR a v):=G.al C.hd λl e D=>(p3 r ⟨l,e,D⟩).1 rfl;have J:az w' B 65 a.Ac a.cc v.cs:=C.cs.same λl e=>G.off _ (C.cs.lt l e) λK N D=>(p2 l.block ⟨l,e,rfl⟩).2.2 ⟨K,N,D⟩;have L:fy w' a.q v.mp:=C.mp.same (G.off _ C.mp.lt λl e D=>(p3 a.q ⟨l,e,D⟩).2 rfl);have M:∀l,A'=some l->l.block≠r:=λl e D=>by
  have⟨_,_,cur,E⟩:=hr.af ⟨l,e,D⟩;unfold aB at I;rw[I]at E;injection E with E;injection E with _ E;exact absurd E ak
 refine⟨⟨?_,?_,?_,?_,C.hr,C.hq⟩,?_⟩
 .exact I.ax 2 _
 .exact J.same λl e=>bm w' ⟨r,2,none⟩ _ _ (p2 l.block ⟨l,e,rfl⟩).1
 .exact hr.same λl e=>bm w' ⟨r,2,none⟩ _ _ (M l e)
 .exact L.same (bm w' ⟨r,2,none⟩ _ _ (dF p1))
 .refine Kf.ax ((Kf.hD G).more (λb hb=>.inr (.inr (.inr hb))) (λb hb=>?_)) (.inl rfl) _;rcases hb with hb|hb|hb|hb
  .exact .inr (.inl (.inl hb))
  .exact .inr (.inl (.inr (.inl hb)))
  .exact .inr (.inl (.inr (.inr (.inl hb))))
  .exact .inl hb
def cQ.PD(l:cQ w B r a v)(hm:fy w1 a.q mp)(D:∀b,b≠a.q->w1.heap[b]?=w.heap[b]?):cQ w1 B r a {v with mp:=mp}:=by
 have⟨p1,p2,p3⟩:=l.apart;exact⟨(D r p1).trans l.hd,l.cs.same λC e=>D _ (p2 C.block ⟨C,e,rfl⟩).2.1,l.bs.same λC e=>D _ (p3 C.block ⟨C,e,rfl⟩).2,hm,l.hr,l.hq⟩
def CZ{F:Nat->Prop}(hq:F q)(l:∀b,b≠q->w1.heap[b]?=w.heap[b]?)(hs:w1.1.size=w.1.size)(hb:Below 0 w w1):Kf F F w w1:=
 ⟨hb,dE hs.symm,λb _ C=>l b λe=>C (by rw[e];exact hq),λ_ h=>.inl h⟩
theorem Cl.a9{b k:Nat}{x:Value}(h:Cl w g i t)(e:g≠b\/i≠k):Cl (w.setCell (b,k) x) g i t:=
 ⟨(World.cell?_setCell_other _ _ _ _ bY).trans h.eq⟩
def bU.X3(hv:bU v)(hi:v.bs[i]?=some b):b.wd<=v.lv:=by
 rw[hv.lv,ih hi];simp;omega
def PE[aF p w](V:cQ w p.1.size r a v)(hv:bU v)(hi:v.bs[i]?=some b):() 153 #[.pointer r,.int .i64 b.h] w (λe w'=>e=.returned au/\cQ w' p.1.size r a (v.free i b)/\Kf (a.F r) (a.F r) w w'):=by
 have CB:=@aa;have CC:=@ct;have FB:=@aP;obtain⟨g,hA,-,-,c2⟩:=V.al hi;have X:=(a5.1 hi).1;have hwl:=hv.X3 hi;have LJ:=hv.small hi;have nN:=hv.wZ;have wW:=hv.cl;have C1:=hv.cap;have l:Cl w r 2 (.slice g v.bs.length a.cb):=⟨by rw[V.hd.cell 2,<-hA];rfl⟩;have ch6:Cl w r 6 (v.lv:Int):=⟨V.hd.cell 6⟩;have HV:=ae hv;have HI:=ae hi;have Y:=ae V;have HA:=ae hA;have R:g≠r:=(V.apart.2.2 g (by rw[hA];exact⟨_,rfl,rfl⟩)).1;have PF:(v.lv:Int)-(b.wd:Int)=((v.lv-b.wd:Nat):Int):=om;have hw:IntKind.i64.wrap ((v.lv-b.wd:Nat):Int)=((v.lv-b.wd:Nat):Int):=by rw[aV];omega
 obtain⟨m,hm⟩:=lh v.bs.length;have G:=ae hm;rw[hm]at X l;have i1:(i:Int)<(m:Int):=by omega
 have Z:v.bs.length<=16777216:=by
  have h3:v.bs.length<=(v.bs.map (·.wd)).sum:=by
   have:∀L:List fu,(∀b∈L,1<=b.wd)->L.length<=(L.map (·.wd)).sum:=by
    intro L
    induction L with
    |nil=>intro _;simp
    |cons x t ih=>
     intro hL;have h4:=hL x cm;have h5:=ih λy hy=>hL y (dl _ hy);simp only[dX,iz,dm];omega
   exact this _ λb hb=>(hv.lay.bd b hb).1
  have h4:=hv.lv;omega
 have zT:Hx (m<=16777216):=ae (by rw[<-hm];exact Z)
 go_in
 go_upto_region 4 with(go_at_call 207;refine mv (AM Y.o.at HV HI) λu1 _=>?_)
 refine aR p (λw9=>Cl w9 r 2 (.slice g m a.cb)/\Cl w9 g (i*3+2) (b.wd:Int)) aq ⟨ao,ao⟩ (λO _=>?_);refine bp 0 ?_;refine bp 1 ?_;refine bp 2 ?_;refine bp 4 ?_;refine bp 5 ?_;refine bp 6 ?_;refine bp 7 ?_;refine bp 8 ?_;refine bp 9 ?_;refine bp 10 ?_;refine bp 11 ?_;refine aM 3 λK hK=>?_;go_simp;refine aL hK ?_ ⟨ab p O,⟨ao,ao⟩⟩;refine bp 12 ?_;refine bp 13 ?_;refine bp 14 ?_;refine aM 15 λK hK=>?_;have PG:O.cell? (r,6)=some (.int .i64 (v.lv:Int)):=(Y.o.at (w':=O)).hd.cell 6;have PH:O.frozen? ⟨r,6,none⟩=false:=(Y.o.at (w':=O)).hd.frozen 6;go_simp;refine aL hK ?_ ⟨⟨(a7 p O).setCell (p:=⟨r,6,none⟩) Y.o.hr _⟩,⟨Cl.a9 ao (.inr ak),Cl.a9 ao (.inl R)⟩⟩;clear hK K PG PH;refine aZ ?_
 skip
 obtain⟨v1,I⟩:=lg ({v with lv:=v.lv-b.wd}:cB);obtain⟨W1,J⟩:=lg (O.setCell (r,6) ((v.lv-b.wd:Nat):Int));have D:cQ W1 p.1.size r a v1:=by
  rw[J,I];exact(Y.o.at (w':=O)).sk (v':={v with lv:=v.lv-b.wd}) (i:=6) (by rfl) rfl rfl rfl
 have PI:Kf (a.F r) (a.F r) w W1:=by rw[J];exact(Kf.later _ (w:=w)).ax (.inl rfl) _
 have S:=ae D;have oT:=ae PI;have e1:v1.bs=v.bs:=by rw[I]
 have kh1:Bx W1 r 197 (iR a v1):=⟨D.hd⟩;have HB1:Hx (aI W1 p.1.size 311 3 (some ⟨g,0,none⟩) a.cb m (gN v.bs)):=ae (by have:=D.bs;rwa[HA.o,e1,G.o]at this);have M:=ae I;have acn:Cl W1 r 2 (.slice g m a.cb):=⟨by rw[D.hd.cell 2,<-HA.o,<-G.o,<-e1];rfl⟩;have HN9:Hx (m<=100000)\/True:=.inr bA;have wi:IntKind.i64.wrap ((i:Int)+1)=(i:Int)+1:=by have:=zT.o;rw[aV];omega
 rw[<-J];clear J D PI I e1 HN9 l ch6 c2 FB CB kh1
 go_upto_region 6 with(go_at_call 208;refine(XM (HB1.o) (EH _) rfl rfl X (by have:=zT.o;omega)).mono ?_;rintro e u2 ⟨rfl,r2,l⟩;rw[<-AH,<-AJ,<-ii]at r2;obtain⟨X4,-⟩:(∀i,u2.frozen? ⟨r,i,none⟩=false)/\True:=⟨λi=>((l.al S.o.hd λad e hx=>R (by injection e with e;subst e;exact hx)).frozen i),bA⟩;obtain⟨cr2,-⟩:Cl u2 r 2 (.slice g m a.cb)/\True:=⟨⟨(dY (l.off r S.o.hd.lt λad e hx=>R (by injection e with e;subst e;exact hx))).trans (Cl.eq (w:=W1))⟩,bA⟩)
 obtain⟨bs2,C⟩:=lg (v.bs.take i++v.bs.drop (i+1));have T:bs2.length=m-1:=by rw[C,<-G.o];have:=G.o;simp;omega
 obtain⟨W2,U⟩:=lg (u2.setCell (r,2) (.slice g (m-1) a.cb));have E:cQ W2 p.1.size r a {v1 with bs:=bs2}/\Kf (a.F r) (a.F r) W1 W2:=by
  rw[<-C,<-T]at r2;have h9:=S.o.WK (A':=some ⟨g,0,none⟩) (c':=a.cb) (by rw[HA.o];exact l) r2;have e9:({a with Ab:=some ⟨g,0,none⟩,cb:=a.cb}:qn)=a:=by
   have⟨Ac,cc,Ab,cb,q⟩:=a;have h8:=HA.o;dsimp only at h8;rw[h8]
  rw[e9,T,<-U]at h9;exact h9
 have P:b.h∈v.mp.map (·.1):=bC.2 ⟨_,HV.o.zR b (aC HI),rfl⟩;have Q:fy W2 a.q v.mp:=by have:=E.1.mp;rw[M.o]at this;exact this
 have⟨W3,aco,EM,X5,vf,qR⟩:=Q.del HV.o.uq P;have N:=E.1.PD EM X5;have q1:Kf (a.F r) (a.F r) w W3:=(oT.o.trans E.2).trans (CZ (.inr (.inl rfl)) X5 vf qR);have cq2:Cl W2 r 3 (.map (some a.q)):=⟨E.1.hd.cell 3⟩;have cp3:Cl W3 r 4 (v.pk:Int):=⟨by rw[N.hd.cell 4,M.o];rfl⟩;have fr3:∀i,W3.frozen? ⟨r,i,none⟩=false:=λi=>N.hd.frozen i;have UM:=ae N;have q7:=ae q1;have WL:min (v.pk:Int) (i:Int)=((min v.pk i:Nat):Int):=by omega
 rw[<-U];have xh:=ae C;clear U E P Q EM X5 vf qR N q1 T r2 l C X4 cr2
 go_wp2_with fail
 go_ret;refine⟨rfl,?_,?_⟩
 .have h9:=UM.o.sk (v':=v.free i b) (i:=4) (x:=.int .i64 ((min v.pk i:Nat):Int)) (by rw[M.o,xh.o];rfl) (by rw[M.o];rfl) (by rw[xh.o];rfl) (by rfl);exact h9
 .exact q7.o.ax (.inl rfl) _
end
section
variable{w:World}{B k n:Nat}{a:qn}{v:cB}{b:fu}{x:Value}
def bU.lens(hv:bU v):v.bs.length<=16777216:=by
 have E:v.bs.length<=(v.bs.map (·.wd)).sum:=by
  have:∀L:List fu,(∀b∈L,1<=b.wd)->L.length<=(L.map (·.wd)).sum:=by
   intro L
   induction L with
   |nil=>intro _;simp
   |cons x t e=>
    intro hL;have l:=hL x cm;have C:=e λy D=>hL y (dl _ D);simp only[dX,iz,dm];omega
  exact this _ λb hb=>(hv.lay.bd b hb).1
 have F:=hv.wZ;have G:=hv.cl;have l:=hv.cap;have C:=hv.lv;omega
def bU.xi(hv:bU v)(hi:i<=v.bs.length):dA v.bs i<=16777216:=by
 have e:=hv.lay.Uw hi;have l:=hv.cl;have C:=hv.cap;omega
def C2(hv:bU v){k m:Nat}(e:k<=v.bs.length):bU (v.gi k m):=(mr.gi hv e).ok
def UN[pw:aF p w](hM:cQ w p.1.size r a v)(hv:bU v):() 244 #[.pointer r,wd] w (λe w'=>∃(pk i:Nat) (ok:Bool),e=.returned (.tuple #[i,.bool ok])/\cQ w' p.1.size r a (v.gi pk v.mv)/\pk<=v.bs.length/\Kf (a.F r) (a.F r) w w'/\
   Hx (ok=true->i<=v.bs.length/\(∀b,v.bs[i]?=some b->dA v.bs i+wd<=b.fr)/\dA v.bs i+wd<=v.cap)):=by
 have CB:=@aa;have CC:=@ct;have FB:=@aP;have O:=ae hv;have HQ:=ae hM;have R:=hv.lens;have WM:=hv.cap;obtain⟨n,hn⟩:=lh v.bs.length;have C:=ae hn;rw[hn]at R;have zU:Hx (cQ w p.1.size r a (v.gi v.pk v.mv)):=ae hM;have HP:Hx (v.pk<=n):=ae (by rw[<-hn];exact hv.pk);clear hM hv hn
 go_in
 go_wp2_with fail
 go_loopg [] n (λkx wr=>∃k:Nat,k<=n/\n-k<=kx/\Hx (cQ wr p.1.size r a (v.gi k v.mv))/\Hx (Kf (a.F r) (a.F r) w wr)/\aj wr p)
 case atStart=>exact⟨v.pk,HP.o,om,zU,ae (Kf.refl _ _),⟨pw.st⟩⟩
 case round=>
  obtain⟨k,Y,hkx,G,S,hpr⟩:=hrel;have M:Bx wr r 197 #[v.cap,.slice a.Ac v.cs.length a.cc,.slice a.Ab n a.cb,.map (some a.q),k,v.nx,v.lv,v.hi,v.pe,v.mv]:=⟨by have P:=G.o.hd;dsimp only[iR,cB.gi]at P;rw[C.o]at P;exact P⟩;have kb:=M;by_cases bK:k<n
  .obtain⟨b,hb⟩:∃b,v.bs[k]?=some b:=⟨_,bc (by rw[C.o];exact bK)⟩;obtain⟨g,T,-,c1,-⟩:=G.o.al (v:=v.gi k v.mv) hb;have Z:=O.o.small hb;obtain⟨e,J⟩:=lh (dA v.bs k);have I:Hx (dA (v.gi k v.mv).bs k=e):=ae J;have Q:Hx (k<=(v.gi k v.mv).bs.length):=ae (by show k<=v.bs.length;rw[C.o];exact Y);have E:Hx (bU (v.gi k v.mv)):=ae (C2 O.o (by rw[C.o];exact Y));have og:Old g wr:=⟨cE c1.eq⟩;have or:Old r wr:=⟨M.al.lt⟩;have X6:=ae T;have hwk:IntKind.i64.wrap ((k:Int)-1)=(k:Int)-1:=by rw[aV];omega
   have ty:=M;rw[T]at ty;have d0:decide ((k:Int)<(n:Int))=true:=by simpa using bK
   have i1:(k:Int)<(n:Int):=by omega
   clear T hb J kb M;have kb:=ty;by_cases U:b.fr=e
   .have d1:((b.fr:Int)==(e:Int))=true:=by simp[U]
    clear U
    go_upto_region 1 with fail
    refine aH wr aq (λD _=>?_);refine qL [0,1,2,3,4,5,6,7,8,9,10,11,12,13,14,15,16,17,18,19,20,21,22,23,24,25,26,27] ?_;refine aM 28 λK hK=>?_;go_simp
    (with_reducible refine(kv (w:=D) (ae G.o.at) E Q rfl I).mono ?_)
    rintro e D ⟨rfl,_⟩;dsimp only;refine aL hK ?_;refine qL [29,30] ?_;refine aZ ?_
    go_wp2_with fail
    go_roundg (n-(k+1))
    case measure=>omega
    case rel=>exact⟨k+1,om,om,ae ((G.o.at (w':=D)).sk (v':=v.gi (k+1) v.mv) (i:=4) (by rfl) rfl rfl rfl),ae ((S.o.trans (Kf.later _ (w:=wr))).ax (.inl rfl) _),⟨(a7 p D).setCell (p:=⟨r,4,none⟩) HQ.o.hr _⟩⟩
   .have d1:((b.fr:Int)==(e:Int))=false:=by simp;omega
    have M:=kb;clear U
    go_upto_region 1 with fail
    refine aH wr aq (λD _=>?_);refine qL [0,1,2,3,4,5,6,7,8,9,10,11,12,13,14,15,16,17,18,19,20,21,22,23,24,25,26,27] ?_;refine aM 28 λK hK=>?_;go_simp
    (with_reducible refine(kv (w:=D) (ae G.o.at) E Q rfl I).mono ?_)
    rintro e D ⟨rfl,_⟩;dsimp only;refine aL hK ?_;refine qL [29,30] ?_;refine aZ ?_
    skip
    clear d0 d1 c1 Z I Q E ty i1 og or X6 hwk;have l:=ae (G.o.at (w':=D));have V:Hx (Kf (a.F r) (a.F r) w D):=ae (S.o.trans (Kf.later _ (w:=wr)));have X:Bx D r 197 #[v.cap,.slice a.Ac v.cs.length a.cc,.slice a.Ab n a.cb,.map (some a.q),k,v.nx,v.lv,v.hi,v.pe,v.mv]:=⟨by have P:=l.o.hd;dsimp only[iR,cB.gi]at P;rw[C.o]at P;exact P⟩;have E:Hx (bU (v.gi k v.mv)):=ae (C2 O.o (by rw[C.o];exact Y));have X7:Old r D:=⟨X.al.lt⟩;clear G S kb M
    go_wp2_with fail
    go_loopw [6] (λs wy=>∃i:Nat,i<=n/\s=.int .i64 (i:Int)/\aj wy D) (λs _=>n-(intOf s).toNat)
    case atStart=>exact⟨k,Y,rfl,aK⟩
    case round=>
     obtain⟨i,hi,rfl,hp6⟩:=hrel;by_cases tu:i<n
     .obtain⟨b,hb⟩:∃b,v.bs[i]?=some b:=⟨_,bc (by rw[C.o];exact tu)⟩;obtain⟨g,T,-,c1,-⟩:=l.o.al (v:=v.gi k v.mv) hb;have Z:=O.o.small hb;have X8:=O.o.lay.CL hb;obtain⟨e,J⟩:=lh (dA v.bs i);rw[J]at X8;have I:Hx (dA (v.gi k v.mv).bs i=e):=ae J;have Q:Hx (i<=(v.gi k v.mv).bs.length):=ae (by show i<=v.bs.length;rw[C.o];exact hi);have og5:Old g D:=⟨cE c1.eq⟩;have HB:=ae hb;have X6:=ae T;rw[T]at X;have L4:IntKind.i64.wrap ((b.fr:Int)-(e:Int))=(b.fr:Int)-(e:Int):=by rw[aV];omega
      have hwi:IntKind.i64.wrap ((i:Int)-1)=(i:Int)-1:=by rw[aV];omega
      have i1:(i:Int)<(n:Int):=by omega
      clear T hb J;by_cases U:e+wd<=b.fr
      .have d1:decide ((wd:Int)<=(b.fr:Int)-(e:Int))=true:=by simp;omega
       have HC:=ae U;clear U
       go_upto_region 6 with fail
       refine aH wr aq (λL _=>?_);refine qL [0,1,2,3,4,5,6,7,8,9,10,13] ?_;refine aM 11 λK hK=>?_;go_simp
       (with_reducible refine(kv (w:=L) (ae l.o.at) E Q rfl I).mono ?_)
       rintro e L ⟨rfl,_⟩;dsimp only;refine aL hK ?_;refine qL [12,14] ?_;refine aZ ?_
       go_wp2_with fail
       go_ret2;refine⟨k,i,true,rfl,l.o.at,by rw[C.o];exact Y,V.o.trans (Kf.later _ (w:=D)),ae λ_=>⟨by rw[C.o];exact hi,λb' N=>?_,?_⟩⟩
       .obtain rfl:b=b':=cn (HB.o.symm.trans N);exact aO (dE (cv (· +wd) I.o)) HC.o
       .have h7:dA v.bs i=e:=I.o;have h8:=(O.o.lay.bd b (aC HB.o)).2;have P:=O.o.cl;have h6:=HC.o;omega
      .have d1:decide ((wd:Int)<=(b.fr:Int)-(e:Int))=false:=by simp;omega
       clear U
       go_upto_region 6 with fail
       refine aH wr aq (λL _=>?_);refine qL [0,1,2,3,4,5,6,7,8,9,10,13] ?_;refine aM 11 λK hK=>?_;go_simp
       (with_reducible refine(kv (w:=L) (ae l.o.at) E Q rfl I).mono ?_)
       rintro e L ⟨rfl,_⟩;dsimp only;refine aL hK ?_;refine qL [12,14] ?_;refine aZ ?_
       go_wp2_with fail
       go_roundw
       case rel=>exact⟨i+1,om,by go_num,aK⟩
       case measure=>exact e6
     .obtain rfl:i=n:=om;obtain⟨e,J⟩:=lh (dA v.bs i);have X9:=O.o.xi (i:=i) (by rw[C.o];exact an _);rw[J]at X9;have I:Hx (dA (v.gi k v.mv).bs i=e):=ae J;have Q:Hx (i<=(v.gi k v.mv).bs.length):=ae (by show i<=v.bs.length;rw[C.o];exact hi);have L4:IntKind.i64.wrap ((v.cap:Int)-(e:Int))=(v.cap:Int)-(e:Int):=by rw[aV];omega
      have Ya:IntKind.i64.wrap ((i:Int)-1)=(i:Int)-1:=by rw[aV];omega
      obtain⟨ok,sq⟩:=lh (decide ((wd:Int)<=(v.cap:Int)-(e:Int)));have pg:=ae sq;have oU:=ae R;clear J
      go_upto_region 8 with fail
      refine aH wr aq (λL _=>?_);refine qL [0,1,2,3,4,5,6,7,8,9,10,11,12,13,14,15,18] ?_;refine aM 16 λK hK=>?_;go_simp
      (with_reducible refine(kv (w:=L) (ae l.o.at) E Q rfl I).mono ?_)
      rintro e L ⟨rfl,_⟩;dsimp only;refine aL hK ?_;refine qL [17,19,20,21] ?_;refine aZ ?_
      go_wp2_with fail
      go_ret2;refine⟨k,i,ok,rfl,l.o.at,by rw[C.o];exact Y,V.o.trans (Kf.later _ (w:=D)),ae λh=>⟨by rw[C.o];exact an _,λb' N=>?_,?_⟩⟩
      .have:=(a5.1 N).1;rw[C.o]at this;omega
      .have h7:dA v.bs i=e:=I.o;have h8:=pg.o;rw[h]at h8;have:=nm h8;omega
  .have d0:decide ((k:Int)<(n:Int))=false:=by simp;omega
   go_upto_region 1 with fail
   refine aH wr aq (λD _=>?_);refine qL [0,1,2,3,4,5,6,7,8,9,10,511,512,513,514,515,516,517,518,519,520,521,522,523,524,525,526,527,528,529,30] ?_;refine aZ ?_
   skip
   clear d0;have l:=ae (G.o.at (w':=D));have V:Hx (Kf (a.F r) (a.F r) w D):=ae (S.o.trans (Kf.later _ (w:=wr)));have X:Bx D r 197 #[v.cap,.slice a.Ac v.cs.length a.cc,.slice a.Ab n a.cb,.map (some a.q),k,v.nx,v.lv,v.hi,v.pe,v.mv]:=⟨by have P:=l.o.hd;dsimp only[iR,cB.gi]at P;rw[C.o]at P;exact P⟩;have E:Hx (bU (v.gi k v.mv)):=ae (C2 O.o (by rw[C.o];exact Y));have X7:Old r D:=⟨X.al.lt⟩;clear G S kb M
   go_wp2_with fail
   go_loopw [6] (λs wy=>∃i:Nat,i<=n/\s=.int .i64 (i:Int)/\aj wy D) (λs _=>n-(intOf s).toNat)
   case atStart=>exact⟨k,Y,rfl,aK⟩
   case round=>
    obtain⟨i,hi,rfl,hp6⟩:=hrel;by_cases tu:i<n
    .obtain⟨b,hb⟩:∃b,v.bs[i]?=some b:=⟨_,bc (by rw[C.o];exact tu)⟩;obtain⟨g,T,-,c1,-⟩:=l.o.al (v:=v.gi k v.mv) hb;have Z:=O.o.small hb;have X8:=O.o.lay.CL hb;obtain⟨e,J⟩:=lh (dA v.bs i);rw[J]at X8;have I:Hx (dA (v.gi k v.mv).bs i=e):=ae J;have Q:Hx (i<=(v.gi k v.mv).bs.length):=ae (by show i<=v.bs.length;rw[C.o];exact hi);have og5:Old g D:=⟨cE c1.eq⟩;have HB:=ae hb;have X6:=ae T;rw[T]at X;have L4:IntKind.i64.wrap ((b.fr:Int)-(e:Int))=(b.fr:Int)-(e:Int):=by rw[aV];omega
     have hwi:IntKind.i64.wrap ((i:Int)-1)=(i:Int)-1:=by rw[aV];omega
     have i1:(i:Int)<(n:Int):=by omega
     clear T hb J;by_cases U:e+wd<=b.fr
     .have d1:decide ((wd:Int)<=(b.fr:Int)-(e:Int))=true:=by simp;omega
      have HC:=ae U;clear U
      go_upto_region 6 with fail
      refine aH wr aq (λL _=>?_);refine qL [0,1,2,3,4,5,6,7,8,9,10,13] ?_;refine aM 11 λK hK=>?_;go_simp
      (with_reducible refine(kv (w:=L) (ae l.o.at) E Q rfl I).mono ?_)
      rintro e L ⟨rfl,_⟩;dsimp only;refine aL hK ?_;refine qL [12,14] ?_;refine aZ ?_
      go_wp2_with fail
      go_ret2;refine⟨k,i,true,rfl,l.o.at,by rw[C.o];exact Y,V.o.trans (Kf.later _ (w:=D)),ae λ_=>⟨by rw[C.o];exact hi,λb' N=>?_,?_⟩⟩
      .obtain rfl:b=b':=cn (HB.o.symm.trans N);exact aO (dE (cv (· +wd) I.o)) HC.o
      .have h7:dA v.bs i=e:=I.o;have h8:=(O.o.lay.bd b (aC HB.o)).2;have P:=O.o.cl;have h6:=HC.o;omega
     .have d1:decide ((wd:Int)<=(b.fr:Int)-(e:Int))=false:=by simp;omega
      clear U
      go_upto_region 6 with fail
      refine aH wr aq (λL _=>?_);refine qL [0,1,2,3,4,5,6,7,8,9,10,13] ?_;refine aM 11 λK hK=>?_;go_simp
      (with_reducible refine(kv (w:=L) (ae l.o.at) E Q rfl I).mono ?_)
      rintro e L ⟨rfl,_⟩;dsimp only;refine aL hK ?_;refine qL [12,14] ?_;refine aZ ?_
      go_wp2_with fail
      go_roundw
      case rel=>exact⟨i+1,om,by go_num,aK⟩
      case measure=>exact e6
    .obtain rfl:i=n:=om;obtain⟨e,J⟩:=lh (dA v.bs i);have X9:=O.o.xi (i:=i) (by rw[C.o];exact an _);rw[J]at X9;have I:Hx (dA (v.gi k v.mv).bs i=e):=ae J;have Q:Hx (i<=(v.gi k v.mv).bs.length):=ae (by show i<=v.bs.length;rw[C.o];exact hi);have L4:IntKind.i64.wrap ((v.cap:Int)-(e:Int))=(v.cap:Int)-(e:Int):=by rw[aV];omega
     have Ya:IntKind.i64.wrap ((i:Int)-1)=(i:Int)-1:=by rw[aV];omega
     obtain⟨ok,sq⟩:=lh (decide ((wd:Int)<=(v.cap:Int)-(e:Int)));have pg:=ae sq;have oU:=ae R;clear J
     go_upto_region 8 with fail
     refine aH wr aq (λL _=>?_);refine qL [0,1,2,3,4,5,6,7,8,9,10,11,12,13,14,15,18] ?_;refine aM 16 λK hK=>?_;go_simp
     (with_reducible refine(kv (w:=L) (ae l.o.at) E Q rfl I).mono ?_)
     rintro e L ⟨rfl,_⟩;dsimp only;refine aL hK ?_;refine qL [17,19,20,21] ?_;refine aZ ?_
     go_wp2_with fail
     go_ret2;refine⟨k,i,ok,rfl,l.o.at,by rw[C.o];exact Y,V.o.trans (Kf.later _ (w:=D)),ae λh=>⟨by rw[C.o];exact an _,λb' N=>?_,?_⟩⟩
     .have:=(a5.1 N).1;rw[C.o]at this;omega
     .have h7:dA v.bs i=e:=I.o;have h8:=pg.o;rw[h]at h8;have:=nm h8;omega
end
