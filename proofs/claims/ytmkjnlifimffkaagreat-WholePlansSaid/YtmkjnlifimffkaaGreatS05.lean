/- Lemmas. -/
import Derived.Test.YtmkjnlifimffkaaGreatS04
import Derived.ChangeMaps5
import Derived.Shelf.Spec.SlicesInsertGrow
import Derived.Shelf.Slices.Cells
import Derived.Shelf.Slices.Clone
import Derived.Shelf.Slices.SearchI
import Derived.Shelf.Slices.Empties
import Derived.Shelf.Slices.Turned
import Derived.Laws.ResultCell
import Derived.Lib.MinMax
import Derived.Deep.LoopGhost
namespace Go.Proofs.YtmkjnlifimffkaaGreat
open Go.RowKit Tryz
set_option linter.all false
set_option maxRecDepth 100000
set_option maxHeartbeats 0
variable{Γ:Prop}
attribute[local irreducible]Calls
variable{u w w':World}{A:Option Addr}{R Z c g i j k l m n q r:Nat}{h sz y z:Int}{cs:Array Value}{vs:List Value}{v:Value}{T:TypeId}
structure kq(w:World)(B g o:Nat)(cs:Array Value)(F:Nat->Prop)(t:Tb):Prop where
 ak:az w g 141 cs
 tb:∃A n c sz,cs[o]?=some (.slice A n c)/\cs[o+1]?=some (.int .i64 sz)/\qh w B A n c F t
 p9:hZ t
 len:t.length<=1000
def bP(cs:m0)(o:Nat)(v u:Value):Array Value:=(cs.setIfInBounds o v).setIfInBounds (o+1) u
def E9(w:aa)(B g o:Nat)(cs:m0)(F:Nat->Prop)(t:Tb)(v:Value)(e:Ending)(w':aa):Prop:=
 e=.returned v/\∃x y j,kq w' B g o (bP cs o x y) j t/\Kf (λb=>F b\/b=g) (λb=>j b\/b=g) w w'
section
variable{o B:Nat}{t:Tb}{F:Nat->Prop}{b:Bool}{E:TypeId}{x:Value}
def aU.zd(h:aU w B E k g c n vs)(v):aU (w.setCell (g,i) v) B E k g c n (vs.set i v):=by
 have⟨cur,hg,hB,hl,hm,hc,ht,n6⟩:=h.whole;refine .mk' (cur:=cur.setIfInBounds i v) hB (by simp[World.setCell,vf,hg]) hl hm (by simpa using hc) ?_;rw[tA,List.take_set,ht]
def Hl(t)(j):ic (t.take j)=(ic t).take (j*2):=by
 by_cases h:j<=t.length;conv=>rhs;rw[<-dC j t,i7]
 rw[gE (by rw[pn,bO,dQ h])];rw[bY om,bY (by rw[pn];omega)]
def Hm(t)(j):ic (t.drop j)=(ic t).drop (j*2):=by
 by_cases h:j<=t.length;conv=>rhs;rw[<-dC j t,i7]
 rw[o7 (by rw[pn,bO,dQ h])];rw[eF om,eF (by rw[pn];omega)];rfl
def Xa(t)(j):ic (t.take j++t.drop (j+1))=(ic t).take (j*2)++(ic t).drop ((j+1)*2):=by rw[i7,Hl,Hm]
def Xb(t)(j)(y h):ic (t.take j++(y,h)::t.drop j)=(ic t).take (j*2)++[.int .i64 y,.int .i64 h]++(ic t).drop (j*2):=by
 rw[i7,Hl,show(y,h)::t.drop j=[(y,h)]++t.drop j from rfl,i7,Hm,<-eO];rfl
def aU.Ow(h:aU w B E k q c n vs)(l:az w g T cs)(m:T≠E):g≠q:=λe=>by
 subst e;have⟨cur,hg,_⟩:=h.whole;unfold az at l;rw[hg]at l;injection l with l;injection l with D C G;exact m C.symm
def aU.neR{k':Nat}{D:j7}(h:aU w B E k q c n vs)(G:aU w Z T k' r m l D)(I:E≠T):q≠r:=λe=>by
 subst e;have⟨cur,hg,_⟩:=h.whole;have⟨ado,C,_⟩:=G.whole;rw[hg]at C;injection C with C;injection C with K J L;exact I J
def qh.ne(h:qh w B A n c F t)(l:az w g 141 cs):¬F g:=λm=>by
 rcases h with⟨C,D,e⟩|⟨C,q,r,R,D,e,G,J,I⟩;exact e g m;rcases(I g).1 m with rfl|rfl;exact e.Ow l am rfl;exact G.Ow l am rfl
def kq.cl(h:kq w B g o cs F t):∃A n c sz,Cl w g o (.slice A n c)/\Cl w g (o+1) (.int .i64 sz)/\qh w B A n c F t/\cs[o]?=some (.slice A n c)/\cs[o+1]?=some (.int .i64 sz):=by
 have⟨A,n,c,sz,h1,h2,h3⟩:=h.tb;exact⟨A,n,c,sz,⟨(h.ak.cell o).trans h1⟩,⟨(h.ak.cell (o+1)).trans h2⟩,h3,h1,h2⟩
def kq.at(h:kq w B g o cs F t)[aT w w']:kq w' B g o cs F t:=by
 have⟨A,n,c,sz,h1,h2,h3⟩:=h.tb;exact⟨h.ak.at,⟨A,n,c,sz,h1,h2,h3.at⟩,h.p9,h.len⟩
def M9(h:kq w B g o cs F t)(hb:Hx (iF t y=b)):() 155 #[.pointer (some ⟨g,o,none⟩),y] w (aJ w (.bool b)):=by
 have⟨A,n,c,sz,c1,c2,hM,_⟩:=h.cl;have e:=ae hM;have l:=ae h.p9;have m:=ae h.len;obtain⟨j,C⟩:=kS (hX t y);go_in;go_wp2_with (go_at_call 205;refine mv (ua e l m C hb) λD _=>?_);go_ret;exact bB
def qh.entry(h:qh w B A n c F t)(hr:hZ t)(hm:(y,z)∈t):n=1/\∃q r R,A=some ⟨q,0,none⟩/\aU w B 309 1 (some ⟨q,0,none⟩) c 1 [.slice (some ⟨r,0,none⟩) t R]/\aU w B 308 2 (some ⟨r,0,none⟩) R t.length (ic t)/\(∀b,F b↔b=q\/b=r)/\hX t y<t.length/\
  Cl w q 0 (.slice (some ⟨r,0,none⟩) t R)/\Cl w r (hX t y*2+1) z:=by
 rcases h with⟨D,m,C⟩|⟨D,q,r,R,m,C,G,J,I⟩;subst m;cases hm;have l:=oE hr hm;refine⟨D,q,r,R,m,C,G,I,(a8.1 l).1,⟨?_⟩,⟨?_⟩⟩;have⟨g,e,hc⟩:=C.cell (j:=0) rfl;injection e with e;cases e;exact hc;have⟨g,e,hc⟩:=G.cell (E2 l).2;injection e with e;cases e;exact hc
def Na(h:kq w B g o cs F t)(hm:(y,z)∈t):() 203 #[.pointer (some ⟨g,o,none⟩),y] w (aJ w (.tuple #[z,.bool true])):=by
 have J:=@bW;have K:=@cQ;have⟨A,n,c,sz,c1,c2,hM,_⟩:=h.cl;have l:=ae hM;have C:=ae h.p9;have D:=ae h.len;have⟨h1,q,r,R,h2,h3,h4,h6,bE,c3,c4⟩:=hM.entry h.p9 hm;have G:Hx (iF t y=true):=mq.2 ⟨z,hm⟩;subst h1 h2;obtain⟨j,e⟩:=lh (hX t y);obtain⟨m,hm⟩:=lh t.length;rw[e]at bE c4;rw[hm]at bE c3;have I:=ae e;have o1:Old g w:=⟨de c1.eq⟩;have L:Old q w:=⟨de c3.eq⟩;have M:Old r w:=⟨de c4.eq⟩;have i1:(j:Int)<(m:Int):=by omega
 go_in;go_wp2_with (go_at_call 205;refine mv (ua l C D I G) λN _=>?_);go_ret2;exact bB
def ze(l:cs[o]?=some v):cs.setIfInBounds o v=cs:=by
 apply pa;rw[tA];apply fZ;intro k;rw[iD];split
 .rename_i e;subst e;split;rw[<-l];simp;rename_i h;rw[fc (by simpa using h)]
 rfl
def Fa(e:cs[o]?=some x)(v u):(bP cs o v u)[o]?=some v:=by
 have l:=(dP.1 e).1;unfold bP;rw[eX om,ty l]
def zf(e:cs[o+1]?=some x)(v u):(bP cs o v u)[o+1]?=some u:=by
 have l:=(dP.1 e).1;unfold bP;rw[ty (by simpa using l)]
def oG{i:Nat}(e:i≠o)(l:i≠o+1)(v u):(bP cs o v u)[i]?=cs[i]?:=by
 unfold bP;rw[eX om,eX om]
def xFa(h:Γ:=by injection e with e;subst e;exact V.symm):=h
def RY(h:kq w B g o cs F t)(hj:j<t.length):() 206 #[.pointer (some ⟨g,o,none⟩),an,j] w (E9 w B g o cs F (t.take j++t.drop (j+1)) (.tuple #[])):=by
 have CC:=@cQ;have FB:=@aO;obtain⟨A,n,c,sz,c1,c2,hM,e1,e2⟩:=h.cl;have N:Bx w g 141 cs:=⟨h.ak⟩;rcases hM with⟨h1,h2,J⟩|⟨h1,q,r,R,h2,J,O,h5,h6⟩;subst h2;simp at hj
 subst h1 h2;have gq:g≠q:=J.Ow h.ak am;have gr:g≠r:=O.Ow h.ak am;have qr:q≠r:=J.neR O am;have c3:Cl w q 0 (.slice r t R):=⟨by
  have⟨g,e,hc⟩:=J.cell (j:=0) rfl;injection e with e;injection e with e;subst e;exact hc⟩
 obtain⟨m,hm⟩:=lh t.length;obtain⟨K,l⟩:∃K,t.take j++t.drop (j+1)=K:=⟨_,rfl⟩;have P:K.length=m-1:=by rw[<-l,<-hm];simp;omega
 have Q:hZ K:=by rw[<-l];(have hs:(t.take j++t.drop (j+1)).Sublist t:=by (conv=>rhs;rw[<-dC j t]);exact xV (xT t (cz _)) _);exact List.Pairwise.sublist hs h.p9
 rw[hm]at hj J O c3;have hlen:m<=1000:=by rw[<-hm];exact h.len
 have o1:Old g w:=⟨de c1.eq⟩;have o2:Old q w:=⟨de c3.eq⟩;have H3:=ae J;have H4:=ae O;have H6:=ae h6;have HD:Hx (aU w B 308 2 (some ⟨r,0,none⟩) R m (ic t)):=H4;have HI:Hx ((ic t).take (j*2)++(ic t).drop ((j+1)*2)=ic K):=ae (by rw[<-l,Xa]);have C:=ae P;have S:=ae Q;have M:=ae e1;have T:=ae e2;have wj:IntKind.i64.wrap ((j:Int)+1)=(j:Int)+1:=by rw[a7];omega
 rw[l];clear h J O h6 hm l P Q h5 e1 e2;go_in;go_upto_region 2 with(go_at_call 257;refine(aas HD.o (M8 _) rfl rfl hj om).mono ?_;rintro e I ⟨rfl,r1,D⟩;rw[HI.o]at r1;obtain⟨U,Xc,c21⟩:Bx I g 141 cs/\Cl I g o (q,1,c)/\Cl I g (o+1) sz:=(by have k:=D.ak N.ak (λad e V=>gr xFa);exact⟨⟨k⟩,⟨(k.cell o).trans M.o⟩,⟨(k.cell (o+1)).trans T.o⟩⟩);obtain⟨r3,-⟩:aU I B 309 1 (some ⟨q,0,none⟩) c 1 [.slice r m R]/\True:=⟨H3.o.jt D (λa a' e e' V=>by injection e with e;injection e' with e';subst e e';exact qr V.symm),bX⟩;obtain⟨cq,fq⟩:Cl I q 0 (.slice r m R)/\I.frozen? ⟨q,0,none⟩=false:=(by obtain⟨cur,hg,_⟩:=r3.whole;obtain⟨g5,X,hc⟩:=r3.cell (j:=0) rfl;injection X with X;injection X with X;subst X;exact⟨⟨hc⟩,by simp[World.frozen?,hg]⟩));obtain⟨v,hv⟩:=lg (I.setCell (q,0) (.slice r (m-1) R));have Y:aU v B 309 1 (some ⟨q,0,none⟩) c 1 [.slice r (m-1) R]:=by rw[hv];exact r3.zd (i:=0) (.slice r (m-1) R)
 have Z:aU v B 308 2 (some ⟨r,0,none⟩) R (m-1) (ic K):=by rw[hv];exact r1.same λad e=>by injection e with e;subst e;exact ba I ⟨q,0,none⟩ _ r (dO qr)
 have L:Bx v g 141 cs:=⟨by rw[hv];exact U.ak.aY gq _⟩;have kf:Kf (λb=>F b\/b=g) (λb=>F b\/b=g) w v:=by rw[hv];refine((Kf.jt D).more (G:=λb=>F b\/b=g) (G':=λb=>F b\/b=g) (λb hb=>.inl ((H6.o b).2 (.inr (dw.1 hb).symm))) (λb hb=>.inr (.inl hb))).av (.inl ((H6.o q).2 (.inl rfl))) _
 have KF:=ae kf;have R3:=ae Y;have R1:=ae Z;rw[<-hv];have cgv:Cl v g o (q,1,c):=⟨(L.ak.cell o).trans M.o⟩;have cgs:Cl v g (o+1) sz:=⟨(L.ak.cell (o+1)).trans T.o⟩;clear hv kf Y Z r1 r3 D cq fq U Xc c21 c1 c2 c3 N o1 o2;have N:=L;by_cases h0:m-1=0
 .have d1:(((m-1:Nat):Int)==0)=true:=by rw[h0];rfl
  have HT0:Hx (K=[]):=ae (hB (by rw[C.o,h0]));rw[h0];clear h0;go_upto_region 4 with(go_at_call 258;refine(W9 R3.o (i:=0) (by simp[Value.oneCell']) rfl rfl am am).mono ?_;rintro e u2 ⟨rfl,r4,ch2⟩;obtain⟨zh,Xd,c22⟩:Bx u2 g 141 cs/\Cl u2 g o (q,1,c)/\Cl u2 g (o+1) sz:=(by have k:=ch2.ak N.ak (λad e V=>gq xFa);exact⟨⟨k⟩,⟨(k.cell o).trans M.o⟩,⟨(k.cell (o+1)).trans T.o⟩⟩));go_wp2_with fail;refine⟨rfl,.tuple #[],by simp[results,results206,go_sem],rfl,_,_,λ_=>False,⟨(zh.ak.av o _).av (o+1) _,⟨_,_,_,_,Fa M.o _ _,zf T.o _ _,.inl ⟨rfl,HT0.o,λ_ h=>h⟩⟩,S.o,by rw[HT0.o];exact aM _⟩,?_⟩;have k2:Kf (λb=>F b\/b=g) (λb=>False\/b=g) w u2:=KF.o.trans ((Kf.jt ch2).more (λb hb=>.inl ((H6.o b).2 (.inl (dw.1 hb).symm))) (λb hb=>.inr (.inl (hb.elim (λh=>h.elim) .inr))));exact(k2.av (.inr rfl) _).av (.inr rfl) _
 have d1:(((m-1:Nat):Int)==0)=false:=by simp;omega
 have HP:Hx (0<m-1):=ae om;clear h0;go_wp2_with fail;have es:bP cs o (q,1,c) (wrap64 (sz-1):Int)=cs.setIfInBounds (o+1) (wrap64 (sz-1):Int):=by rw[bP,ze M.o]
 refine⟨rfl,.tuple #[],by simp[results,results206,go_sem],rfl,.slice q 1 c,.int .i64 (wrap64 (sz-1)),F,⟨by rw[es];exact N.ak.av (o+1) _,⟨_,_,_,_,Fa M.o _ _,zf T.o _ _,.inr ⟨rfl,q,r,R,rfl,?_,?_,by rw[C.o];exact HP.o,H6.o⟩⟩,S.o,by rw[C.o];omega⟩,KF.o.av (.inr rfl) _⟩;rw[C.o];exact R3.o.same λad e=>by injection e with e;subst e;exact ba v ⟨g,o+1,none⟩ _ q (dO gq)
 rw[C.o];exact R1.o.same λad e=>by injection e with e;subst e;exact ba v ⟨g,o+1,none⟩ _ r (dO gr)
end
section
variable{o B:Nat}{t:Tb}{F:Nat->Prop}{b:Bool}{E:TypeId}{x:Value}
def Xe(h:kq w B g o cs F t)(hm:(y,z)∈t):() 152 #[.pointer (some ⟨g,o,none⟩),y] w (E9 w B g o cs F (qy t y) (.tuple #[z,.bool true])):=by
 have T:=@bW;have U:=@cQ;have⟨A,n,c,sz,c1,c2,hM,_⟩:=h.cl;have I:=ae hM;have J:=ae h.p9;have K:=ae h.len;have L:=ae h;have⟨h1,q,r,R,h2,h3,h4,h6,bE,c3,c4⟩:=hM.entry h.p9 hm;have M:Hx (iF t y=true):=mq.2 ⟨z,hm⟩;subst h1 h2;obtain⟨j,l⟩:=lh (hX t y);obtain⟨m,hm⟩:=lh t.length;have N:Hx (qy t y=t.take j++t.drop (j+1)):=ae (by rw[qy,l]);rw[l]at bE c4;rw[hm]at bE c3;have O:=ae l;have C:Hx (j<t.length):=ae (by rw[hm];exact bE);have o1:Old g w:=⟨de c1.eq⟩;have V:Old q w:=⟨de c3.eq⟩;have X:Old r w:=⟨de c4.eq⟩;have i1:(j:Int)<(m:Int):=by omega
 rw[N.o];go_in;go_wp2_with (first|(go_at_call 205;refine mv (ua I J K O M) λY _=>?_)|(go_at_call 206;refine(RY L.o.at C).mono ?_;rintro e Z ⟨rfl,P,Q,S,D,G⟩));go_ret2;exact⟨rfl,P,Q,S,D,(Kf.later _ (w:=w)).trans G⟩
def Xf(h:kq w B g o cs F t)(hn:Hx (iF t y=false))(hl:t.length<=200)(hB:B<=w.1.size):() 202 #[.pointer (some ⟨g,o,none⟩),y,z] w (E9 w B g o cs F (hY t y z) (.bool true)):=by
 have CP:=@bW;have CC:=@cQ;have FB:=@aO;have⟨A,n,c,sz,c1,c2,hM,e1,e2⟩:=h.cl;have HM:=ae hM;have HR:=ae h.p9;have HL:=ae h.len;have kb:Bx w g 141 cs:=⟨h.ak⟩;obtain⟨j,hj⟩:=lh (hX t y);have HJ:=ae hj;have HRS:Hx (hZ (hY t y z)):=wH h.p9 (vk.1 hn);have HTS:Hx (hY t y z=t.take j++(y,z)::t.drop j):=ae (by rw[hY,hj]);change Hx _ at e1 e2;have o1:Old g w:=⟨de c1.eq⟩;have P:=ae hl;have HBB:=ae hB;have HJL:Hx (j<=t.length):=ae (by rw[<-hj];exact M4 _ _);go_in;go_upto_region 6 with(go_at_call 205;refine mv (ua HM HR HL HJ hn) λu1 _=>?_);obtain⟨v,hv⟩:=lg (u1.setCell (g,o+1) (wrap64 (sz+1):Int));have G:Bx u1 g 141 cs:=aq;have l:Bx v g 141 (cs.setIfInBounds (o+1) (wrap64 (sz+1):Int)):=⟨by rw[hv];exact G.ak.av (o+1) _⟩;have Q:qh v B A n c F t:=by have h9:qh u1 B A n c F t:=HM.o.at;rw[hv];exact h9.keep λb hb=>ba u1 ⟨g,o+1,none⟩ _ b λe=>h9.ne G.ak (by have S:b=g:=e;rw[<-S];exact hb)
 have kf:Kf (λb=>F b\/b=g) (λb=>F b\/b=g) w v:=by rw[hv];exact(Kf.later _ (w:=w)).av (.inr rfl) _
 have T:B<=v.1.size:=aL HBB.o kf.size;have I:Hx ((cs.setIfInBounds (o+1) (wrap64 (sz+1):Int))[o]?=some (.slice A n c)):=(eX (show o+1≠o by omega)).trans e1.o;have cgv:Cl v g o (A,n,c):=⟨(l.ak.cell o).trans I⟩;have KF:=ae kf;have vl:=ae Q;have J:=ae T;rw[<-hv];clear hv kf Q T c1 c2 kb G o1 hB;have o1:Old g v:=⟨l.ak.lt⟩;have U:Hx (∀(W:aa) (x:Value) (A2:bF) (n2 c2:Nat) (F':Nat->Prop),x=.slice A2 n2 c2->az W g 141 ((cs.setIfInBounds (o+1) (wrap64 (sz+1):Int)).setIfInBounds o x)->qh W B A2 n2 c2 F' (hY t y z)->Kf (λb=>F b\/b=g) (λb=>F' b\/b=g) w W->E9 w B g o cs F (hY t y z) (.bool true) (.returned (.bool true)) W):=ae λW x A2 n2 c2 F' V hb hm hk=>by (have es:(cs.setIfInBounds (o+1) (wrap64 (sz+1):Int)).setIfInBounds o x=bP cs o x (wrap64 (sz+1):Int):=by unfold bP;apply pa;simp only[tA];exact List.set_comm _ _ om);rw[es]at hb;exact⟨rfl,x,_,F',⟨hb,⟨A2,n2,c2,_,by rw[Fa e1.o,V],zf e2.o _ _,hm⟩,HRS.o,by rw[y5];have:=P.o;omega⟩,hk⟩
 rcases vl.o with⟨h1,h2,C⟩|⟨h1,q,r,R,h2,C,N,h5,h6⟩
 .have H3:=ae C;have H2:=ae h2;subst h1;clear h2 C;go_wp2_with fail;go_ret;have B4:g<v.1.size:=l.ak.lt;(have K:hY t y z=[(y,z)]:=by rw[H2.o];rfl);refine U.o _ _ (some ⟨v.1.size+1,0,none⟩) 1 1 (λb=>b=v.1.size+1\/b=v.1.size) rfl (((l.ak.alloc _).alloc _).av o _) (.inr ⟨rfl,v.1.size+1,v.1.size,1,rfl,?_,?_,by rw[K];exact Nat.one_pos,λb=>Iff.rfl⟩) ?_;rw[K];exact .mk' (cur:= #[.slice v.1.size 1 1]) (by have:=J.o;omega) (az.aY (az.ew _ _ _ aD) (by show v.1.size+1≠g;omega) _) am am rfl rfl;rw[K];exact .mk' (cur:= #[y,z]) J (az.aY ((az.new v 308 _).alloc _) (by show v.1.size≠g;omega) _) (al _) am rfl rfl;refine Kf.av (((KF.o.alloc _).alloc _).more (λb hb=>hb) (λb hb=>?_)) (.inr rfl) _;have:=KF.o.size;rcases hb with(hb|hb)|hb;exact .inr (.inr om);exact .inr (.inr om);exact .inr (.inl (.inr hb))
 subst h1 h2;have gq:g≠q:=C.Ow l.ak am;have gr:g≠r:=N.Ow l.ak am;have qr:q≠r:=C.neR N am;have c3:Cl v q 0 (.slice r t R):=⟨by
  obtain⟨g,e,hc⟩:=C.cell (j:=0) rfl;injection e with e;injection e with e;subst e;exact hc⟩
 obtain⟨m,hm⟩:=lh t.length;rw[hm]at C N c3;have H3:=ae C;have H4:=ae N;have H6:=ae h6;have HM9:=ae hm;have hr9:r<v.1.size:=N.lt _ rfl;have HJM:Hx (j<=m):=ae (by rw[<-hm];exact HJL.o);have X:Hx (m<=200):=ae (by rw[<-hm];exact P.o);have HIC:Hx ((ic t).take (j*2)++[.int .i64 y,.int .i64 z]++(ic t).drop (j*2)=ic (hY t y z)):=ae (by rw[HTS.o,Xb]);clear C N h5 h6 hm hl;go_upto_region 10 with(go_at_call 248;refine ey (λY p5 k5=>?_);refine(aau (H4.o.at (w':=Y)) (M8 _) (us:=[.int .i64 y,.int .i64 z]) k5.ak rfl (by simp[Value.oneCell']) (λad e=>by injection e with e;subst e;show r≠_;omega) rfl HJM.o (by have:=X.o;omega) (aL J.o (ai (w:=v) (w':=Y)))).mono ?_;rintro e O ⟨A6,c6,rfl,r6,L⟩;rw[HIC.o]at r6;obtain⟨Z,D⟩:Bx O g 141 (cs.setIfInBounds (o+1) (wrap64 (sz+1):Int))/\aU O B 309 1 (some ⟨q,0,none⟩) c 1 [.slice r m R]:=⟨⟨L.ak (l.ak.at (w':=Y)) (λad e V=>gr xFa)⟩,(H3.o.at (w':=Y)).jt L (λa a' e S V=>by injection e with e;injection S with S;subst e S;exact qr V.symm)⟩;obtain⟨cq,fq⟩:Cl O q 0 (.slice r m R)/\O.frozen? ⟨q,0,none⟩=false:=(by obtain⟨cur,hg,_⟩:=D.whole;obtain⟨g5,e5,hc⟩:=D.cell (j:=0) rfl;injection e5 with e5;injection e5 with e5;subst e5;exact⟨⟨hc⟩,by simp[World.frozen?,hg]⟩);have cg6:Cl O g o (q,1,c):=⟨(Z.ak.cell o).trans I.o⟩);have d2:decide ((256:Int)<(m:Int)+1)=false:=by have:=X.o;simp;omega
 go_wp2_with fail;go_ret;have M:(hY t y z).length=m+1:=by rw[y5,HM9.o]
 rcases r6.form with⟨_,h0,_⟩|⟨r',adp,rfl,hB6,hg6,adq,hm6,hc6,ht6⟩;omega;have abw:q≠r':=D.neR r6 am;refine U.o _ _ (some ⟨q,0,none⟩) 1 c (λb=>b=q\/b=r') rfl ?_ (.inr ⟨rfl,q,r',c6,rfl,?_,?_,by rw[M];exact tO _,λb=>Iff.rfl⟩) ?_;rw[ze I.o];exact Z.ak.aY gq _;rw[M];exact D.zd (i:=0) (.slice r' (m+1) c6);rw[M];exact r6.same λad e=>by cases e;exact ba O ⟨q,0,none⟩ _ r' (dO abw)
 have k5:Kf (λb=>F b\/b=g) (λb=>F b\/b=g) w Y:=KF.o.trans (Kf.later _);refine Kf.av (k5.trans ((Kf.jt L).more (λb hb=>.inl ((H6.o b).2 (.inr (dw.1 hb).symm))) (λb hb=>?_))) (.inl (.inl rfl)) _;rcases hb with(hb|hb)|hb;exact .inr (.inl (.inl ((H6.o b).2 (.inl hb))));exact .inl (dw.2 hb.symm);exact .inr (.inl (.inr hb))
end
variable{mp:List (Int×Int)}{cur:Array Value}{es:Array MapEntry}
abbrev Fb(x:Int×Int):Value×Value:=(.int .i64 x.1,.int .i64 x.2)
def gn(w:aa)(q:Nat)(mp:List (Int×Int)):Prop:=∃j b,w.heap[q]?=some (.map j b)/\j.toList.map (λe=>(e.key,e.val))=mp.map Fb
variable{k:Int}
def gn.lt(h:gn w q mp):q<w.1.size:=by
 obtain⟨e,c,b,_⟩:=h;exact(dP.1 b).1
def gn.same(h:gn w q mp)(b:w'.heap[q]?=w.heap[q]?):gn w' q mp:=by
 have⟨es,c,h1,h2⟩:=h;exact⟨es,c,b.trans h1,h2⟩
def gn.at(h:gn w q mp)[l:aT w w']:gn w' q mp:=h.same (l.st.block _ h.lt)
def gn.ne(h:gn w q mp){f:Nat×Nat}(hb:w.heap[g]?=some (.cells cur T f)):g≠q:=λe=>by
 subst e;have⟨es,c,h1,_⟩:=h;rw[h1]at hb;cases hb
def int_inj{a:Int}(h:Value.int .i64 a=.int .i64 y):a=y:=by injection h
def iM(k:Int):MapKept.IsKey (.int .i64) k:=by simp[MapKept.IsKey]
def ub(h:es.toList.map (λe=>(e.key,e.val))=mp.map Fb):∀x∈es.toList,MapKept.IsKey (.int .i64) x.key:=λx b=>by
 have:(x.key,x.val)∈mp.map Fb:=by rw[<-h];exact bw.2 ⟨x,b,rfl⟩
 have⟨y,_,he⟩:=bw.1 this;have:x.key=.int .i64 y.1:=(cq Prod.fst he).symm;rw[this];exact iM _
def yw(h:es.toList.map (λe=>(e.key,e.val))=mp.map Fb){e:MapEntry}(l:es.toList[j]?=some e):∃x,mp[j]?=some x/\e.key=.int .i64 x.1/\e.val=.int .i64 x.2:=by
 have b:(es.toList.map (λe=>(e.key,e.val)))[j]?=some (e.key,e.val):=by rw[bf,l];rfl
 rw[h,bf]at b;have⟨x,hx,h2⟩:=bt.1 b;exact⟨x,hx,(cq Prod.fst h2).symm,(cq Prod.snd h2).symm⟩
def uc:prog.underlying 195=some (.map 3 3):=ao
def xF4(h:Γ:=by rcases Et i j with h|h|h;exact absurd (e2.trans e1.symm) (hp i j l2 l1 h);exact h;exact absurd (e1.trans e2.symm) (hp j i l1 l2 h)):=h
def Xg{x:Int×Int}(e:(mp.map (·.1)).Nodup)(b:mp[j]?=some x)(hm:(x.1,z)∈mp):x=(x.1,z):=by
 have⟨i,hi⟩:=eN hm;have l:(mp.map (·.1))[j]?=some x.1:=by rw[bf,b];rfl
 have m:(mp.map (·.1))[i]?=some x.1:=by rw[bf,hi];rfl
 have⟨l1,e1⟩:=a8.1 l;have⟨l2,e2⟩:=a8.1 m;have:i=j:=by have hp:=nS.1 e;exact xF4
 subst this;rw[b]at hi;exact cH hi
def gn.look(h:gn w q mp)(m:(mp.map (·.1)).Nodup)(hm:(k,z)∈mp):∀w':World,w'.heap[q]?=w.heap[q]?->(Instr.lookup 195 (.map (some q)) k true).run prog w'=.ok (.tuple #[z,.bool true]) w':=λw' r=>by
 have⟨es,c,h1,h2⟩:=h;have hd:=underlying3;rcases yh (iM k) es.toList 0 (ub h2)with⟨_,b⟩|⟨j,e,u,b,y⟩;exfalso;have:Fb (k,z)∈es.toList.map (λe=>(e.key,e.val)):=by rw[h2];exact bw.2 ⟨_,hm,rfl⟩
 have⟨e,he,hx⟩:=bw.1 this;exact b e he (cq Prod.fst hx);have⟨x,hx,hk,hv⟩:=yw h2 b;have l:x.1=k:=int_inj (hk.symm.trans y);subst l;have:=Xg m hx hm;have B:x.2=z:=cq Prod.snd this;rw[B]at hv;simp[Instr.lookup,gF uc,yc (r.trans h1),yg hd (iM x.1),yj hd u,Result.andThen,hv]
def gn.RZ(h:gn w q mp)(hm:k∉mp.map (·.1)):∃l,(Instr.mapUpdate 195 (.map (some q)) k z).run prog w=.ok () l/\gn l q (mp++[(k,z)])/\(∀b,b≠q->l.heap[b]?=w.heap[b]?)/\l.1.size=w.1.size/\Below 0 w l:=by
 have⟨es,c,h1,h2⟩:=h;have hd:=underlying3;rcases yh (iM k) es.toList 0 (ub h2)with⟨u,_⟩|⟨j,e,u,y,B⟩
 refine⟨ChangeMaps.setBlock w q (.map (es.push {key:=.int .i64 k,val:=.int .i64 z,born:=c}) (c+1)),by simp[Instr.mapUpdate,gF uc,yc h1,yg hd (iM k),yj hd u,EK _ h1,Result.andThen,ChangeMaps.setBlock],
  ⟨_,_,Ey h1 _,by simp[h2,Fb]⟩,λb m=>Ex h1 _ m,by simp[ChangeMaps.setBlock],⟨rfl,rfl,rfl,by simp[ChangeMaps.setBlock],λb hb=>absurd hb (lL _)⟩⟩
 exfalso;have⟨x,hx,hk,_⟩:=yw h2 y;have r:=B.symm.trans hk;injection r with _ r;exact hm (bw.2 ⟨x,aC hx,r.symm⟩)
def Ox{x:Int×Int}(m:(mp.map (·.1)).Nodup)(b:mp[j]?=some x)(z):pj mp x.1 z=mp.set j (x.1,z):=by
 apply fZ;intro i;rw[pj,bf,iD];split;rename_i e;subst e;rw[ah (a8.1 b).1,b];simp
 .rename_i l;cases r:mp[i]? with
  |none=>rfl
  |some y=>(have u:y.1≠x.1:=λe=>by (have B:(mp.map (·.1))[j]?=some x.1:=by rw[bf,b];rfl);(have C:(mp.map (·.1))[i]?=some x.1:=by rw[bf,r,<-e];rfl);have⟨l1,e1⟩:=a8.1 B;have⟨l2,e2⟩:=a8.1 C;have hp:=nS.1 m;rcases ru l with h|h;exact hp j i l1 l2 h (e1.trans e2.symm);exact hp i j l2 l1 h (e2.trans e1.symm));simp[u]
def gn.R0(h:gn w q mp)(D:(mp.map (·.1)).Nodup)(hm:k∈mp.map (·.1)):∃m,(Instr.mapUpdate 195 (.map (some q)) k z).run prog w=.ok () m/\gn m q (pj mp k z)/\(∀b,b≠q->m.heap[b]?=w.heap[b]?)/\m.1.size=w.1.size/\Below 0 w m:=by
 have⟨es,c,h1,h2⟩:=h;have hd:=underlying3;rcases yh (iM k) es.toList 0 (ub h2)with⟨_,l⟩|⟨j,e,E,l,C⟩;exfalso;obtain⟨x,u,rfl⟩:=bw.1 hm;have:Fb x∈es.toList.map (λe=>(e.key,e.val)):=by rw[h2];exact bw.2 ⟨_,u,rfl⟩
 have⟨e,he,hxx⟩:=bw.1 this;exact l e he (cq Prod.fst hxx);have⟨x,u,hk,_⟩:=yw h2 l;have y:x.1=k:=int_inj (hk.symm.trans C);have F:es[j]?=some e:=by simpa using l
 refine⟨ChangeMaps.setBlock w q (.map (es.modify j λe=>{e with key:=.int .i64 k,val:=.int .i64 z}) c),by simp[Instr.mapUpdate,gF uc,yc h1,yg hd (iM k),yj hd E,F,C,MapKept.run_keyThatStays (iM k),EK _ h1,Result.andThen,ChangeMaps.setBlock],
  ⟨_,_,Ey h1 _,?_⟩,λb B=>Ex h1 _ B,by simp[ChangeMaps.setBlock],⟨rfl,rfl,rfl,by simp[ChangeMaps.setBlock],λb hb=>absurd hb (lL _)⟩⟩
 rw[<-y,Ox D u,jJ,<-h2,Array.toList_modify];apply fZ;intro i;rw[bf,List.getElem?_modify,iD,bf];by_cases r:j=i;subst r;have:=(a8.1 l).1;rw[l];simp;simpa using this;simp[r]
def xF5(h:Γ:=by have:=(key i y hi).1;(have l:y.1≠k:=λe=>by have:=this e;omega);simpa using l):=h
def gn.del(h:gn w q mp)(G:(mp.map (·.1)).Nodup)(hm:k∈mp.map (·.1)):∃u,(∀F,(Builtin.delete_ #[195,3] F #[.map (some q),k]).run prog w=.ok (.tuple #[]) u)/\gn u q (mp.filter λe=>e.1 !=k)/\(∀b,b≠q->u.heap[b]?=w.heap[b]?)/\u.1.size=w.1.size/\Below 0 w u:=by
 have⟨es,c,h1,h2⟩:=h;have hd:=underlying3;rcases yh (iM k) es.toList 0 (ub h2)with⟨_,C⟩|⟨j,e,I,C,J⟩;exfalso;obtain⟨x,B,rfl⟩:=bw.1 hm;have:Fb x∈es.toList.map (λe=>(e.key,e.val)):=by rw[h2];exact bw.2 ⟨_,B,rfl⟩
 have⟨e,he,hxx⟩:=bw.1 this;exact C e he (cq Prod.fst hxx)
 have⟨x,B,hk,_⟩:=yw h2 C;have m:x.1=k:=int_inj (hk.symm.trans J);refine⟨ChangeMaps.setBlock w q (.map (es.eraseIdxIfInBounds (0+j)) c),λF=>by simp[Builtin.delete_,gF uc,yc h1,yg hd (iM k),yj hd I,EK _ h1,Result.andThen,ChangeMaps.setBlock],
  ⟨_,_,Ey h1 _,?_⟩,λb l=>Ex h1 _ l,by simp[ChangeMaps.setBlock],⟨rfl,rfl,rfl,by simp[ChangeMaps.setBlock],λb hb=>absurd hb (lL _)⟩⟩
 have D:=(a8.1 C).1;have E:0+j<es.size:=by simpa using D
 rw[Array.eraseIdxIfInBounds,dif_pos E,Array.toList_eraseIdx,cf,List.eraseIdx_eq_take_drop_succ,c9,gI,kK,h2,<-gI,<-kK,<-c9];refine cq (List.map Fb) ?_;have hp:=nS.1 G;have key:∀i y,mp[i]?=some y->(y.1=k↔i=j):=λi y r=>by constructor;intro e;(have K:(mp.map (·.1))[j]?=some k:=by rw[bf,B,<-m];rfl);(have L:(mp.map (·.1))[i]?=some k:=by rw[bf,r,<-e];rfl);have⟨l1,e1⟩:=a8.1 K;have⟨l2,e2⟩:=a8.1 L;exact xF4;rintro rfl;rw[B]at r;rw[<-cH r,m]
 have hs:=jk B;have c1:(mp.take j).filter (λe=>e.1 !=k)=mp.take j:=List.filter_eq_self.2 λy r=>by have⟨i,hij,hi⟩:=t2 r;exact xF5
 have c2:(mp.drop (j+1)).filter (λe=>e.1 !=k)=mp.drop (j+1):=List.filter_eq_self.2 λy r=>by have⟨i,hij,hi⟩:=t5 r;exact xF5
 conv=>rhs;rw[hs]
 rw[yb,List.filter_cons,c1,c2,ag (by simp[m])]
section
variable{e k:Nat}{v':da}{bs:List gj}{A':Option Addr}{F':Nat->Prop}
structure r7 where
 Ac:Option Addr
 cc:Nat
 Ab:Option Addr
 cb:Nat
 q:Nat
def r7.F(a:r7)(r b:Nat):Prop:=b=r\/b=a.q\/AF a.Ac b\/AF a.Ab b
def h7(bs:List gj):List Value:=bs.flatMap λb=>[.int .i64 b.h,.int .i64 b.fr,.int .i64 b.wd]
abbrev j9(a:r7)(v:da):Array Value:= #[v.cap,.slice a.Ac v.cs.length a.cc,.slice a.Ab v.bs.length a.cb,.map (some a.q),v.pk,v.nx,v.lv,v.hi,v.pe,v.mv]
structure dk(w:World)(B r:Nat)(a:r7)(v:da):Prop where
 hd:az w r 197 (j9 a v)
 cs:aB w B 65 a.Ac a.cc v.cs
 bs:aU w B 311 3 a.Ab a.cb v.bs.length (h7 v.bs)
 mp:gn w a.q v.mp
 hr:B<=r
 hq:B<=a.q
variable{B:Nat}{a a':r7}{v:da}{b:gj}{x:Value}
def oH(bs:List gj):(h7 bs).length=bs.length*3:=by
 induction bs with
 |nil=>rfl
 |cons t l e=>simp[h7]at e⊢;omega
def jl(bs cs:List gj):h7 (bs++cs)=h7 bs++h7 cs:=by simp[h7]
def Hn(bs:List gj):∀v∈h7 bs,v.oneCell'=true:=λv hv=>by
 have⟨x,_,hx⟩:=jI.1 hv;simp at hx;rcases hx with rfl|rfl|rfl<;>rfl
def Fc:∀{bs:List gj} {j:Nat} {x:gj},bs[j]?=some x->(h7 bs)[j*3]?=some (.int .i64 x.h)/\(h7 bs)[j*3+1]?=some (.int .i64 x.fr)/\(h7 bs)[j*3+2]?=some (.int .i64 x.wd)
 |u::l,0,x,h=>by simp at h;subst h;simp[h7]
 |u::l,j+1,x,h=>by have:=Fc (bs:=l) (j:=j) (x:=x) (by simpa using h);(have e:h7 (u::l)=[.int .i64 u.h,.int .i64 u.fr,.int .i64 u.wd]++h7 l:=by simp[h7]);rw[e,eE cr,eE cr,eE cr];simp only[dj,iW];rw[show(j+1)*3-(0+1+1+1)=j*3 from om,show(j+1)*3+1-(0+1+1+1)=j*3+1 from om,show(j+1)*3+2-(0+1+1+1)=j*3+2 from om];exact this
def CZ(t:List gj)(j:Nat):h7 (t.take j)=(h7 t).take (j*3):=by
 by_cases h:j<=t.length;conv=>rhs;rw[<-dC j t,jl]
 rw[gE (by rw[oH,bO,dQ h])];rw[bY om,bY (by rw[oH];omega)]
def C0(t:List gj)(j:Nat):h7 (t.drop j)=(h7 t).drop (j*3):=by
 by_cases h:j<=t.length;conv=>rhs;rw[<-dC j t,jl]
 rw[o7 (by rw[oH,bO,dQ h])];rw[eF om,eF (by rw[oH];omega)];rfl
def R5{bs:List gj}{j:Nat}{x:gj}(l:bs[j]?=some x)(t:Nat):h7 (bs.set j ⟨x.h,t,x.wd⟩)=(h7 bs).set (j*3+1) t:=by
 have C:=(a8.1 l).1;have e:=jk l;have D:bs.set j ⟨x.h,t,x.wd⟩=bs.take j++⟨x.h,t,x.wd⟩::bs.drop (j+1):=List.set_eq_take_append_cons_drop.trans (ah C);rw[D];conv=>rhs;rw[e]
 have m:∀y:gj,h7 (y::bs.drop (j+1))=[.int .i64 y.h,.int .i64 y.fr,.int .i64 y.wd]++h7 (bs.drop (j+1)):=λy=>by simp[h7]
 rw[jl,jl,m,m,lA _ _ (by rw[oH,bO];omega)];rw[oH,bO,dQ om,show j*3+1-j*3=1 from om];rfl
def dk.at(h:dk w B r a v)[l:aT w w']:dk w' B r a v:=⟨h.hd.at,h.cs.keep l.st,h.bs.at,h.mp.at,h.hr,h.hq⟩
def xF6(h:Γ:=by subst e;rw[hb]at l;injection l with l;injection l with _ m;exact absurd m am):=h
def dk.apart(h:dk w B r a v):r≠a.q/\(∀b,AF a.Ac b->b≠r/\b≠a.q/\¬AF a.Ab b)/\∀b,AF a.Ab b->b≠r/\b≠a.q:=by
 have hb:=h.hd;unfold az at hb;refine⟨h.mp.ne hb,λb C=>?_,λb C=>?_⟩;have⟨_,_,cur,l⟩:=h.cs.af C;refine⟨λe=>?_,h.mp.ne l,λhd=>?_⟩;exact xF6;have⟨_,_,adr,m⟩:=h.bs.af hd;rw[l]at m;injection m with m;injection m with _ D;exact absurd D am;have⟨_,_,cur,l⟩:=h.bs.af C;refine⟨λe=>?_,h.mp.ne l⟩;exact xF6
def dk.lt(h:dk w B r a v):∀b,a.F r b->B<=b/\b<w.1.size:=λb hb=>by
 rcases hb with rfl|rfl|hb|hb;exact⟨h.hr,h.hd.lt⟩;exact⟨h.hq,h.mp.lt⟩;have⟨h1,h2,_⟩:=h.cs.af hb;exact⟨h1,h2⟩;have⟨h1,h2,_⟩:=h.bs.af hb;exact⟨h1,h2⟩
def dk.keep(h:dk w B r a v)(l:∀b,a.F r b->w'.heap[b]?=w.heap[b]?):dk w' B r a v:=
 ⟨(l r (.inl rfl)).trans h.hd,h.cs.same λm e=>l _ (.inr (.inr (.inl ⟨m,e,rfl⟩))),h.bs.same λm e=>l _ (.inr (.inr (.inr ⟨m,e,rfl⟩))),h.mp.same (l _ (.inr (.inl rfl))),h.hr,h.hq⟩
def dk.kf(h:dk w B r a v){F:Nat->Prop}(e:Kf F F' w w')(hF:∀b,a.F r b->¬F b):dk w' B r a v:=h.keep λb hb=>e.keep b (h.lt b hb).2 (hF b hb)
def dk.ud(h:dk w B r a v){x:Value}(m:j9 a v'=(j9 a v).setIfInBounds i x)(C:v'.cs=v.cs)(D:v'.bs=v.bs)(E:v'.mp=v.mp):dk (w.setCell (r,i) x) B r a v':=by
 have⟨p1,p2,p3⟩:=h.apart;refine⟨?_,?_,?_,?_,h.hr,h.hq⟩;rw[m];exact h.hd.av i x;rw[C];exact h.cs.same λl e=>ba w ⟨r,i,none⟩ _ _ (p2 _ ⟨l,e,rfl⟩).1;rw[D];exact h.bs.same λl e=>ba w ⟨r,i,none⟩ _ _ (p3 _ ⟨l,e,rfl⟩).1;rw[E];exact h.mp.same (ba w ⟨r,i,none⟩ _ _ (dO p1))
def dk.ak(h:dk w B r a v)(hi:v.bs[i]?=some b):∃g,a.Ab=some ⟨g,0,none⟩/\Cl w g (i*3) (.int .i64 b.h)/\Cl w g (i*3+1) (.int .i64 b.fr)/\Cl w g (i*3+2) (.int .i64 b.wd):=by
 have⟨c0,c1,c2⟩:=Fc hi;have⟨g,e,h0⟩:=h.bs.cell c0;have⟨g1,l,h1⟩:=h.bs.cell c1;have⟨g2,m,h2⟩:=h.bs.cell c2;rw[e]at l m;injection l with l;injection l with l;injection m with m;injection m with m;subst l m;exact⟨g,e,⟨h0⟩,⟨h1⟩,⟨h2⟩⟩
def cy.small(hv:cy v)(hi:v.bs[i]?=some b):b.fr+b.wd<=16777216/\1<=b.wd:=by
 have e:=hv.lay.bd b (aC hi);have l:=hv.cl;have m:=hv.cap;omega
def lY(h:Hx (dk w B r a v))(hv:Hx (cy v))(hi:Hx (i<=v.bs.length))(E:y=(i:Int)-1)(l:Hx (d4 v.bs i=e)):() 246 #[.pointer r,y] w (aJ w (e:Int)):=by
 obtain⟨J,K⟩:=kU;have L:=@cQ;subst E;match i,hi,l with
 |0,hi,l=>(obtain rfl:e=0:=by rw[<-l.o];rfl);(have d1:decide (((0:Nat):Int)-1<0)=true:=by decide);go_in;go_wp2;go_ret;exact bB
 |i+1,hi,l=>have D:Bx w r 197 (j9 a v):=⟨h.o.hd⟩;have C:i<v.bs.length:=hi.o;obtain⟨b,hb⟩:∃b,v.bs[i]?=some b:=⟨_,a5 C⟩;have⟨g,hA,c0,c1,c2⟩:=h.o.ak hb;have F:=hv.o.small hb;have G:Hx (b.fr+b.wd=e):=ae (by rw[<-l.o,mo hb]);(have I:((i+1:Nat):Int)-1=(i:Int):=by omega);have M:Old g w:=⟨de c1.eq⟩;have⟨Ac,cc,Ab,cb,q⟩:=a;dsimp only at hA;subst hA;(have N:IntKind.i64.wrap ((b.fr:Int)+(b.wd:Int))=(b.fr:Int)+(b.wd:Int):=by rw[a7];omega);rw[I];obtain⟨m,hm⟩:=lh v.bs.length;dsimp only[j9]at D;rw[hm]at C D;(have i1:(i:Int)<(m:Int):=by omega);(have d1:decide ((i:Int)<0)=false:=by simp);go_in;go_upto_region 3 with fail;refine aw ao (λO _=>?_);refine qL [0,1,2,3,4,5,6,7,8,9,10,11,12,13,14,15,16,17] ?_;refine a9 ?_;go_wp2;go_ret;exact⟨by rw[<-G.o];rfl,aF⟩
def xF3(h:Γ:=by have e:=@ay;have l:Bx w r 197 (j9 a v):=⟨h.hd⟩;go_in;go_wp2;go_ret;exact⟨rfl,⟨aV _ _⟩⟩):=h
def R6(h:dk w B r a v):() 56 #[.pointer r] w (aJ w (.int .i64 v.pe)):=by
 exact xF3
def R7(h:dk w B r a v):() 57 #[.pointer r] w (aJ w (.int .i64 v.hi)):=by
 exact xF3
def Oy(h:dk w B r a v):() 58 #[.pointer r] w (aJ w (.int .i64 v.mv)):=by
 exact xF3
def ar0(cap:Nat):da:=⟨cap,[],[],[],0,0,0,0,0,0⟩
def Xh{cap:Nat}(h:cap<=16777216):cy (ar0 cap):=
 ⟨⟨List.Pairwise.nil,λb hb=>(by cases hb)⟩,aM _,h,aM _,rfl,List.Pairwise.nil,λb hb=>(by cases hb),aM _,List.Pairwise.nil,λb hb=>(by cases hb),λe l=>(by cases l)⟩
def Xi{cap:Nat}(h:cap<=16777216):() 96 #[cap] w λe w'=>∃r a,e=.returned (.tuple #[.pointer (some ⟨r,0,none⟩),an])/\dk w' w.1.size r a (ar0 cap)/\aj w' w:=by
 have l:=@run_makeMap prog;have d1:decide ((16777216:Int)<(cap:Int))=false:=by simp;omega
 have m:decide ((cap:Int)<0)=false:=by simp
 go_in;go_wp2;go_ret2;exact⟨w.1.size+1,⟨none,0,none,0,w.1.size⟩,rfl,⟨az.ew _ _ _ aD,aB.nil _ _ _,⟨rfl,.inl ⟨rfl,rfl⟩⟩,⟨#[],0,(nj _ _ _ aD).trans (jH w _),rfl⟩,cz _,al _⟩,aF⟩
end
variable{b off vb:Nat}{zs:List Int}{x:Int}
section
open Go.RowKit Go.Shelf
def rI:Ren:=⟨λn=>if n=15 then 86 else if n=21 then 189 else if n=23 then 187 else if n=25 then 188 else if n=27 then 229 else if n=28 then 230 else if n=31 then 227 else if n=32 then 228 else if n=35 then 266 else if n=37 then 265 else if n=39 then 281 else if n=107 then 140 else if n=108 then 192 else 0,
 λn=>if n=0 then 0 else if n=3 then 3 else if n=4 then 4 else if n=22 then 24 else if n=28 then 24 else if n=40 then 96 else 0,λn=>n⟩
def bg:Lays2.n21 prog rI where
 mixed:=ao
 f21:=func189
 f27:=func229
 f28:=func230
 f35:=func266
 f39:=func281
 t0:=underlying0
 a0:=isAgg0
 z0:=sizeOf0
 v0:=zeroValue0
 t3:=underlying3
 a3:=isAgg3
 z3:=sizeOf3
 v3:=zeroValue3
 t4:=underlying4
 a4:=isAgg4
 z4:=sizeOf4
 v4:=zeroValue4
 t22:=underlying24
 a22:=isAgg24
 z22:=sizeOf24
 v22:=zeroValue24
 i3:=ao
def aaw:Lays2.n23 prog rI:=⟨bg.mixed,func187,bg.t0,bg.a0,bg.z0,bg.v0,bg.t3,bg.a3,bg.z3,bg.v3,bg.t4,bg.a4,bg.z4,bg.v4,bg.t22,bg.a22,bg.z22,bg.v22,bg.i3⟩
def R8:Lays2.n25 prog rI:=⟨bg.mixed,func188,func227,func228,func265,bg.t0,bg.a0,bg.z0,bg.v0,bg.t3,bg.a3,bg.z3,bg.v3,bg.t4,bg.a4,bg.z4,bg.v4,bg.t22,bg.a22,bg.z22,bg.v22,underlying96,isAgg96,sizeOf96,zeroValue96⟩
def Ki:Lays2.n15 prog rI:=⟨bg.mixed,func86,bg.t3,bg.a3,bg.z3,bg.v3,bg.t4,bg.a4,bg.z4,bg.v4,bg.t22,bg.a22,bg.z22,bg.v22,bg.i3⟩
def Nb:Lays.n107 prog rI:=⟨bg.mixed,func140,func192,bg.t0,bg.a0,bg.z0,bg.v0,bg.t3,bg.a3,bg.z3,bg.v3,bg.t4,bg.a4,bg.z4,bg.v4,bg.t22,bg.a22,bg.z22,bg.v22⟩
section
variable{B:Nat}
def aB.row(h:aB w B 3 A c zs):aU w B 3 1 A c zs.length (zs.map (Value.int .i64)):=h
def aU.own(h:aU w B 3 1 A c n (zs.map (Value.int .i64))):aB w B 3 A c zs/\n=zs.length:=by
 have e:n=zs.length:=by have:=h.1;simp at this;exact this.symm
 subst e;exact⟨h,rfl⟩
def ue(h:Rd w (some ⟨b,off,none⟩) zs):∀j,j<zs.length->w.cell? (b,off+j)=some (.int .i64 (zs.getD j 0)):=λj e=>by
 rw[aQ,a5 e];exact h.all (a5 e)
def Kj{α:Type}{L Z:List α}{v:α}{n:Nat}(h:L.length=n):(L++v::Z).take (n+1)=L++[v]:=by
 rw[show L++v::Z=(L++[v])++Z from aD,gE (by simp[h])]
def rH(zs:au):∀v∈zs.map (Value.int .i64),v.oneCell'=true:=λv hv=>by
 obtain⟨z,_,rfl⟩:=bw.1 hv;rfl
def Ho(h:aB w B 3 A c zs){x:Int}(z:x=(i:Int))(C:y=(j:Int))(m:i<=j)(D:j<=zs.length)(E:0<zs.length):
  () 187 #[.slice A zs c,x,y] w λe w'=>e=.returned (.slice A (zs.take i++zs.drop j).length c)/\aB w' B 3 A c (zs.take i++zs.drop j)/\dm A A w w':=by
 subst z C;have r:=h.rd;rcases h.form with⟨_,rfl,_⟩|⟨g,l,rfl,F,hg,G,hm,I,ht⟩;simp at E;have u:∀j,w.frozen? ⟨g,0+j,none⟩=false:=λj=>by simp[World.frozen?,hg]
 refine(Any.slices_Delete_int_cells aaw g 0 zs.length c i j zs w (al _) G (by unfold maxLen at hm;omega) m D (ue r) (λj _=>u j)).mono ?_;rintro e w' ⟨rfl,q,rfl⟩;have el:(zs.take i++zs.drop j).length=zs.length-(j-i):=by simp;omega
 have b:((w.drewN q).setCells g 0 (((zs.take zs.length).take i++(zs.take zs.length).drop j++List.replicate (j-i) 0).map (Value.int .i64))).heap[g]?=some (.cells (t1 l 0 (((zs.take zs.length).take i++(zs.take zs.length).drop j++List.replicate (j-i) 0).map (Value.int .i64))) 3 (0,0)):=
  e0 g _ 0 _ l _ _ hg
 refine⟨by rw[el],?_,((dm.refl _ w).drewN q).setCells 0 _ rfl⟩;refine((aU.mk' (k:=1) (n:=(zs.take i++zs.drop j).length) F b om hm (by rw[io];omega) ?_).own (zs:=zs.take i++zs.drop j)).1;rw[hV _ _ _ cr,dR];simp only[dW,jE,fp,c9,eO];rw[<-eO,<-c9,fa aD,bY aD]
def Hp(h:Rd w A zs)(r:zs.length<=1000000000)(hs:zs.Pairwise (· <= ·)):
  () 188 #[.slice A zs c,x] w (aJ w (.tuple #[.int .i64 (zs.countP (· <x):Nat),.bool (zs.contains x)])):=by
 by_cases m:zs=[];subst m;exact(Any.slices_BinarySearch_int_empty R8 A c x w).mono λe w' ⟨j,l⟩=>⟨j,l▸aF⟩;obtain⟨z,t,rfl⟩:=xQ m;obtain⟨b,off,rfl,hb,_⟩:=h 0 z rfl;have:=Any.slices_BinarySearch_int R8 b off (z::t).length c (z::t) x w (al _) om (ue h) (by rw[dR];exact hs);rw[dR]at this;exact this.mono λe w' ⟨j,q,l⟩=>⟨j,l▸aF⟩
def R9(w:aa)(B:Nat)(A:bF)(zs:au)(e:Ending)(w':aa):Prop:=∃b j,e=.returned (.slice b zs j)/\aB w' B 3 b j zs/\dm A b w w'
def xF8(h:Γ:=by simp[Builtin.zeroCells,Value.cells];omega):=h
def xFb(h:Γ:=by unfold maxLen;omega):=h
def Hq(h:aB w B 3 A c zs)[hb:Bx w vb 3 #[x]](hv:∀U,A=some U->vb≠U.block)(X:y=(i:Int))(hi:i<=zs.length)(hn:zs.length<=1000000000)(P:B<=w.1.size):
  () 189 #[.slice A zs c,y,(vb,1,1)] w (R9 w B A (zs.take i++x::zs.drop i)):=by
 subst X;have Q:=h.rd;have R:=hb.ak.cell 0;have m:∀j v,[Value.int .i64 x][j]?=some v->w.cell? (vb,0+j)=some v:=λj v l=>by
  cases j with
  |zero=>simp at l;subst l;exact R
  |succ j=>simp at l
 have r:∀v∈[Value.int .i64 x],v.oneCell'=true:=λv hv=>by rw[cZ.1 hv];rfl
 have b:(zs.take i++x::zs.drop i).length=zs.length+1:=by simp;omega
 have E:(zs.take i++x::zs.drop i).map (Value.int .i64)=(zs.map (Value.int .i64)).take i++[Value.int .i64 x]++(zs.map (Value.int .i64)).drop i:=aD;rcases h.form with⟨rfl,rfl,rfl⟩|⟨g,cur,rfl,K,hg,hl,hm,V,ht⟩;obtain rfl:i=0:=by simpa using hi
 refine(Any2.slices_Insert_int_end_grow bg none 0 0 vb 0 1 1 [] [Value.int .i64 x] w om om om om rfl rfl (λ_=>rfl) (λa e=>by cases e) m r).mono ?_;rintro e w' ⟨rfl,rfl⟩;refine⟨some ⟨w.1.size,0,none⟩,_,rfl,?_,dm.fresh ((aV _ _).drew.alloc (al _) _) (al _)⟩;refine((aU.mk' (k:=1) (n:=1) (vs:=[x].map (Value.int .i64)) P (jH w.drew _) (aL (al 1) (pb w _ _ _)) (rv w _ _ _ xFb) ?_ ?_).own).1;have:=pb w (0+1) 0 (rI.t 3);generalize grownCap w (0+1) 0 (rI.t 3)=G at this⊢;exact xF8;simp;have u:∀j,j<c->(w.cell? (g,j)).isSome=true:=λj l=>by simp[World.cell?,hg,V,l]
 have L:∀j,w.frozen? ⟨g,j,none⟩=false:=λj=>by simp[World.frozen?,hg]
 have M:c<=9223372036854775807:=by unfold maxLen at hm;omega
 have F:∀j v,(zs.map (Value.int .i64))[j]?=some v->w.cell? (g,0+j)=some v:=λj v l=>by rw[bf]at l;obtain⟨z,Y,rfl⟩:=bt.1 l;exact Q.all Y
 have N:cur.toList.take zs.length=zs.map (Value.int .i64):=by simpa using ht
 by_cases C:zs.length+1<=c;by_cases I:i<zs.length;refine(Any2.slices_Insert_int_shift bg g 0 zs.length c i vb 0 1 1 (zs.map (Value.int .i64)) [Value.int .i64 x] w I om C M (hv _ rfl) aD rfl F (λj l=>by rw[cf];exact u j om) (λj _=>by rw[cf];exact L j) m (rH zs) r 3 3 1 c (by have:=hb.ak;unfold az at this;simp[World.shape?,this]) (by simp[World.shape?,hg,V]) om (hb.ak.frozen _) (hb.ak.frozen _)).mono ?_;rintro e w' ⟨rfl,rfl⟩;refine⟨some ⟨g,0,none⟩,c,by rw[b],?_,((((dm.refl _ w).drew).setCells _ _ rfl).setCells _ _ rfl)⟩;have D:=e0 g ((zs.map (Value.int .i64)).drop i) (0+(i+1)) w.drew cur _ _ hg;have J:=e0 g [Value.int .i64 x] (0+i) _ _ _ _ D;refine((aU.mk' (k:=1) (n:=(zs.take i++x::zs.drop i).length) K J om hm (by rw[io,io];omega) ?_).own (zs:=zs.take i++x::zs.drop i)).1;have:=J5 (cur:=cur) (cs:=zs.map (Value.int .i64)) (vs:=[.int .i64 x]) (a:=i) cr (by rw[bj];exact N) cr;rw[E,b,fp,<-this];simp;obtain rfl:i=zs.length:=om;refine(Any2.slices_Insert_int_end_room bg g 0 zs.length c vb 0 1 1 [Value.int .i64 x] w om C M rfl (λj l=>by rw[cf];exact u _ om) (λj _=>by rw[cf];exact L _) m r).mono ?_;rintro e w' ⟨rfl,rfl⟩;refine⟨some ⟨g,0,none⟩,c,by rw[b],?_,(dm.refl _ w).setCells _ _ rfl⟩;have D:=e0 g [Value.int .i64 x] (0+zs.length) w cur _ _ hg;refine((aU.mk' (k:=1) (n:=(zs.take zs.length++x::zs.drop zs.length).length) K D om hm (by rw[io];omega) ?_).own (zs:=zs.take zs.length++x::zs.drop zs.length)).1;have:=RJ (cur:=cur) (cs:=zs.map (Value.int .i64)) (vs:=[.int .i64 x]) (by rw[bj];exact N) cr;rw[b,fp];simp at this⊢;exact this;have S:c=zs.length:=om;subst S;by_cases I:i<zs.length;refine(Any2.slices_Insert_int_grow bg g 0 zs.length zs.length i vb 0 1 1 (zs.map (Value.int .i64)) [Value.int .i64 x] w I om (al _) om om aD rfl F m (rH zs) r).mono ?_;rintro e w' ⟨rfl,rfl⟩
 have O:Below w.1.size w (((w.alloc (.cells (((zs.map (Value.int .i64)).take i).toArray++Builtin.zeroCells (Value.int .i64 0).cells (zs.length+1-i)++Builtin.zeroCells (Value.int .i64 0).cells (grownCap w (zs.length+1) zs.length (rI.t 3)-(zs.length+1))) (rI.t 3))).drew.setCells w.1.size i [Value.int .i64 x]).drew):=
  (dG (al _) _ _ ((aV _ w).alloc (al _) _).drew).drew
 refine⟨some ⟨w.1.size,0,none⟩,_,by rw[b],?_,dm.fresh (dG (al _) _ _ O) (al _)⟩;have D:=e0 w.1.size [Value.int .i64 x] i (w.alloc (.cells (((zs.map (Value.int .i64)).take i).toArray++Builtin.zeroCells (Value.int .i64 0).cells (zs.length+1-i)++Builtin.zeroCells (Value.int .i64 0).cells (grownCap w (zs.length+1) zs.length (rI.t 3)-(zs.length+1))) (rI.t 3))).drew _ _ _ (jH w _);have J:=e0 w.1.size ((zs.map (Value.int .i64)).drop i) (i+1) (((w.alloc (.cells (((zs.map (Value.int .i64)).take i).toArray++Builtin.zeroCells (Value.int .i64 0).cells (zs.length+1-i)++Builtin.zeroCells (Value.int .i64 0).cells (grownCap w (zs.length+1) zs.length (rI.t 3)-(zs.length+1))) (rI.t 3))).drew.setCells w.1.size i [Value.int .i64 x]).drew) _ _ _ D;have T:=pb w (zs.length+1) zs.length (rI.t 3);refine((aU.mk' (k:=1) (n:=(zs.take i++x::zs.drop i).length) P J om (rv w _ _ _ xFb) (by rw[io,io];simp[Builtin.zeroCells,Value.cells];omega) ?_).own (zs:=zs.take i++x::zs.drop i)).1;have:=Ol (cs:=zs.map (Value.int .i64)) (vs:=[.int .i64 x]) (a:=i) (cur:=((zs.map (Value.int .i64)).take i).toArray++Builtin.zeroCells (Value.int .i64 0).cells (zs.length+1-i)++Builtin.zeroCells (Value.int .i64 0).cells (grownCap w (zs.length+1) zs.length (rI.t 3)-(zs.length+1))) (Z:=(Builtin.zeroCells (Value.int .i64 0).cells (zs.length+1-i)++Builtin.zeroCells (Value.int .i64 0).cells (grownCap w (zs.length+1) zs.length (rI.t 3)-(zs.length+1))).toList) cr aD (by simp[Builtin.zeroCells,Value.cells];omega);rw[E,b,fp,<-this];simp;obtain rfl:i=zs.length:=om;refine(Any2.slices_Insert_int_end_grow bg g zs.length zs.length vb 0 1 1 (zs.map (Value.int .i64)) [Value.int .i64 x] w om (al _) om om aD rfl (λe=>by cases e) (λa e j v l=>by cases e;rw[cn];exact F j v l) m r).mono ?_;rintro e w' ⟨rfl,rfl⟩;refine⟨some ⟨w.1.size,0,none⟩,_,by rw[b],?_,dm.fresh ((aV _ _).drew.alloc (al _) _) (al _)⟩;have T:=pb w (zs.length+1) zs.length (rI.t 3);refine((aU.mk' (k:=1) (n:=(zs.take zs.length++x::zs.drop zs.length).length) P (jH w.drew _) om (rv w _ _ _ xFb) ?_ ?_).own (zs:=zs.take zs.length++x::zs.drop zs.length)).1;exact xF8;rw[b,fp];simp;exact Kj aD
def zi(w:aa)(zs:au)(e:Ending)(w':aa):Prop:=∃A c,e=.returned (.slice A zs c)/\aB w' w.1.size 3 A c zs/\aj w' w
def Kk[a:Sl w A n zs](D:n<=1000000):() 86 #[(A,n,c)] w (zi w zs):=by
 obtain⟨a,rfl⟩:=a;match A,a with
 |none,a=>
  obtain rfl:zs=[]:=by
   cases zs with
   |nil=>rfl
   |cons z t=>obtain⟨b,off,e,_⟩:=a 0 z rfl;cases e
  exact(Any.slices_Clone_int_nil Ki 0 c w).mono λe w' ⟨r,u⟩=>⟨none,0,r,aB.nil _ _ _,u▸aF⟩
 |some y,a=>(have fin:∀(e:Ending) (w':aa),(∃l,e=.returned l/\w'.ownsRow w.1.size 3 1 l zs.length (zs.map (Value.int .i64))/\l≠.slice none 0 0/\Below w.1.size w w')->zi w zs e w':=by rintro e w' ⟨l,rfl,m,_,hb⟩;rcases m.2 with⟨rfl,j⟩|⟨g,cap,C,rfl,_⟩;exact⟨none,0,by rw[j],by unfold aB;rw[j]at m⊢;exact m,⟨hb⟩⟩;exact⟨some ⟨g,0,none⟩,cap,rfl,m,⟨hb⟩⟩);by_cases j:zs=[];subst j;exact(Any.slices_Clone_int_zero Ki y c w).mono λe w' h=>fin e w' h;obtain⟨z,t,rfl⟩:=xQ j;have⟨b,off,e,hb,_⟩:=a 0 z rfl;injection e with e;subst e;have:=Any.slices_Clone_int Ki b off (z::t).length c (z::t) w (al _) om (ue a);rw[dR]at this;exact this.mono λe w' h=>fin e w' h
def sq[a:Sl w A n zs](r:n<=1000000){v:Bool}(hv:Hx (zs.contains x=v)):() 140 #[(A,n,c),x] w (aJ w (.bool v)):=by
 obtain⟨a,rfl⟩:=a;by_cases m:zs=[];subst m;refine(Any.slices_Contains_int_empty Nb A c x w).mono λe w' ⟨j,l⟩=>⟨?_,l▸aF⟩;rw[j,<-hv.o];rfl;obtain⟨z,t,rfl⟩:=xQ m;obtain⟨b,off,rfl,hb,_⟩:=a 0 z rfl;have:=Any.slices_Contains_int Nb b off (z::t).length c (z::t) x w (al _) om (ue a);rw[dR,hv.o]at this;exact this.mono λe w' ⟨j,l⟩=>⟨j,l▸aF⟩
end
end
variable{d fr k wd:Nat}{a':r7}{v':da}{bs:List gj}{A':Option Addr}{xs:List Int}
section
open Go.RowKit Go.Shelf
section
variable{B:Nat}{a:r7}{v:da}{b:gj}{x:Value}
def Km[s:Sl w (some ⟨g,j,none⟩) n zs](S:n<=1000000):() 261 #[.slice (some ⟨g,j,none⟩) n c] w (λe w'=>∃A c,e=.returned (.slice A n c)/\aB w' w.1.size 65 A c zs/\aj w' w):=by
 have⟨i,hi,eZ⟩:=bt.1 (show(prog.info? 65).map (λi=>(i.zero,i.size,i.bytes))=some (some (.int .i64 0),1,8)from by kernel_rfl);simp only[eP]at eZ;obtain⟨F,G,I⟩:=eZ;have D:n=zs.length:=s.len;have p1:aj (w.alloc (.cells #[] 65)) w:=aq;have K:(w.alloc (.cells #[] 65)).ownsRow w.1.size 65 1 (w,0,0) 0 []:=aU.mk' (cur:= #[]) (al _) (jH w _) (al _) (aM _) rfl rfl;have L:Sl (w.alloc (.cells #[] 65)) (some ⟨g,j,none⟩) n zs:=aq;have R:=λM=>xW (P:=prog) (w.alloc (.cells #[] 65)) w.1.size 26 M 65 i _ 1 8 ao hi F G I rfl am _ 0 _ K ⟨g,j,none⟩ n c (zs.map (Value.int .i64)) (by simp[D]) (λk u hu=>by
  rw[bf]at hu;obtain⟨z,N,rfl⟩:=bt.1 hu;rw[cn];exact L.rd.all N) (rH zs) xFb om aD
 obtain⟨v',w',hr,l,hg,-,-⟩:=R 26;have O:∀W,(binOp .eql 26 (.slice (some ⟨g,j,none⟩) n c) ()).run prog W=.ok (.bool false) W:=λW=>Lib.run_eql_slice_nil W 26 65 _ _ _ _ _ ao;change Hx _ at l hg D;go_in;go_wp2_with (at_builtin;refine Lib.wpList_append_run _ rfl _ _ 26 26 rfl _ _ rfl rfl _ _ hr ?_)
 go_ret;have hb:Below w.1.size w w':=((aV w.1.size w).alloc (al _) _).grown hg.o aD (λk E=>by
  rw[c5]at E;injection E with E
  exact ei E)
 have C:=l.o;rw[cf,jE]at C;rcases C.2 with⟨rfl,Q⟩|⟨g,cap,cur,rfl,_⟩;have J:=D.o;rw[Q]at J C⊢;obtain rfl:zs=[]:=hB J.symm;exact⟨none,0,rfl,aB.nil _ _ _,⟨hb⟩⟩;refine⟨some ⟨g,0,none⟩,cap,rfl,?_,⟨hb⟩⟩;rw[D.o]at C;exact C
def Fe(e: -4611686018427387904<=(fr:Int)-y/\(fr:Int)-y<=4611686018427387904):() 260 #[.agg #[z,fr,wd],y] w (aJ w ((fr:Int)-y:Int)):=by
 have l:=@ay;have C:IntKind.i64.wrap ((fr:Int)-y)=(fr:Int)-y:=by rw[a7];omega
 go_in;go_wp2;go_ret;exact bB
def Nc(l:kX bs m){i j:Nat}{a b:gj}(e:i<j)(C:bs[i]?=some a)(hb:bs[j]?=some b):a.fr<b.fr:=by
 have D:=l.lt e C hb;have E:=(l.bd a (aC C)).1;omega
def abx(M:Hx (aU w B 311 3 A c n (h7 bs)))(K:Hx (kX bs m))(hm:Hx (m<=16777216))(X:Hx (bs.length=n))(Y:n<=16777216)(hi:Hx (bs[i]?=some b))(L:Hx (y=(b.fr:Int))):
  () 259 #[(A,n,c),y,.func (.func 260) #[] #[]] w (aJ w (.tuple #[i,.bool true])):=by
 have CP:=@bW;have CC:=@cQ;have EG:∀args w,(callFunc 260 args).run prog w=.ok (.enter 260 args) w:=enters_of func260 ao rfl;have N:i<n:=by have:=(a8.1 hi).1;rw[X.o]at this;exact this
 have G:Hx (∀k,k<n->∃(g:Nat) (e:gj),A=some ⟨g,0,none⟩/\Old g w/\Cl w g (k*3) (.int .i64 e.h)/\Cl w g (k*3+1) (.int .i64 e.fr)/\Cl w g (k*3+2) (.int .i64 e.wd)/\Hx (bs[k]?=some e)/\e.fr<=16777216):=ae λk O=>by have l:bs[k]?=some (bs[k]'(by rw[X.o];exact O)):=a5 _;have⟨c0,c1,c2⟩:=Fc l;have⟨g,e,P⟩:=M.o.cell c0;have⟨g1,D,Q⟩:=M.o.cell c1;have⟨g2,E,h2⟩:=M.o.cell c2;rw[e]at D E;injection D with D;injection D with D;injection E with E;injection E with E;subst D E;have:=K.o.bd _ (aC l);exact⟨g,_,e,⟨de P⟩,⟨P⟩,⟨Q⟩,⟨h2⟩,ae l,by have:=hm.o;omega⟩
 have I:=ae N;have Z:b.fr<=16777216:=by have:=K.o.bd _ (aC hi);have:=hm.o;omega
 go_in;go_wp2_with fail;go_loopw [9,10] (λs t wr=>∃lo hi:Nat,lo<=i/\i<=hi/\hi<=n/\s=.int .i64 (lo:Int)/\t=.int .i64 (hi:Int)/\aj wr w) (λs t _=>(intOf t-intOf s).toNat);case atStart=>exact⟨0,n,aM _,fq I.o,al _,rfl,rfl,aF⟩
 case round=>
  obtain⟨lo,F,R,S,T,rfl,rfl,hp⟩:=hrel;by_cases bE:lo<F
  .obtain⟨k,O⟩:=lg ((lo+F)/2:Nat);obtain⟨g,e,rfl,ob,c0,c1,c2,l,U⟩:=G.o k om;(have hdv:((lo:Int)+(F:Int))/2=(k:Int):=by omega);have hml:lo<=k:=om;have hmh:k<F:=om;(have J: -4611686018427387904<=(e.fr:Int)-y/\(e.fr:Int)-y<=4611686018427387904:=by have:=L.o;omega);have C:=ae J;clear O J;by_cases hx:k<i
   .have hc:decide ((e.fr:Int)-y<0)=true:=by have:=Nc K.o hx l.o hi.o;have:=L.o;simp;omega
    go_wp2_with (go_at_fn 260;refine(Fe C.o).mono ?_;rintro e u ⟨rfl,_⟩);go_roundw;(case rel=>exact⟨k+1,F,om,S,T,by go_num,rfl,aF⟩);simp[intOf];omega
   have hc:decide ((e.fr:Int)-y<0)=false:=by have P:=L.o;by_cases Q:k=i;subst Q;have V:=l.o.symm.trans hi.o;obtain rfl:=cH V;simp;omega;have:=Nc K.o (show i<k by omega) hi.o l.o;simp;omega
   go_wp2_with (go_at_fn 260;refine(Fe C.o).mono ?_;rintro e u ⟨rfl,_⟩);go_roundw;exact⟨lo,k,R,om,om,rfl,rfl,aF⟩;simp[intOf];omega
  obtain rfl:lo=F:=om;obtain rfl:lo=i:=om;obtain⟨g,e,rfl,ob,c0,c1,c2,l,U⟩:=G.o lo I;have V:=l.o.symm.trans hi;obtain rfl:=cH V;(have hz:(e.fr:Int)-y=0:=by have:=L.o;omega);have C:Hx (-4611686018427387904<=(e.fr:Int)-y/\(e.fr:Int)-y<=4611686018427387904):=ae om;(have d2:((e.fr:Int)-y==0)=true:=by rw[hz];rfl);go_wp2_with (go_at_fn 260;refine mv (Fe C) λu _=>?_);go_ret2;exact bB
def xF7(h:Γ:=by exact this _ λb hb=>(hv.lay.bd b hb).1):=h
def xF9(h:Γ:=by simp only[di,fY,dj];omega):=h
def C1(l:dk w B r a v)(hv:cy v)(hi:v.bs[i]?=some b):() 207 #[.pointer r,.int .i64 b.h] w (aJ w (.tuple #[i,.bool true])):=by
 have P:=@ay;have D:Bx w r 197 (j9 a v):=⟨l.hd⟩;have I:=l.mp.look hv.wF (hv.B2 b (aC hi)) w rfl;have E:=ae l.bs;have J:=ae hv.lay;have F:Hx (v.cs.length<=16777216):=ae (by have:=hv.cl;have:=hv.cap;omega);have K:=ae hi;have e:v.bs.length<=16777216:=by
  have Q:=hv.y3;have R:=F.o;have S:v.bs.length<=(v.bs.map (·.wd)).sum:=by
   have:∀L:List gj,(∀b∈L,1<=b.wd)->L.length<=(L.map (·.wd)).sum:=by
    intro L;induction L with
    |nil=>intro _;simp
    |cons x t M=>intro hL;have N:=hL x cm;have T:=M λy O=>hL y (dp _ O);exact xF9
   exact xF7
  have N:=hv.lv;omega
 have U:=ae e;have V:Hx (v.bs.length=v.bs.length)\/True:=.inr bX;obtain⟨n,G⟩:=lh v.bs.length;dsimp only[j9]at D;rw[G]at D E e;have C:=ae G;go_in;go_wp2_with (go_at_call 259;refine mv (abx E J F C e K rfl) λX _=>?_);go_ret2;exact bB
end
end
variable{X p:World}
variable{B:Nat}{a:r7}{v:da}{b:gj}{x:Value}
def mr{Q:World->Prop}(h:∀u,aj u X->Bx u X.1.size T cs->Q u):Q (X.alloc (.cells cs T)):=h _ (aF) aq
def Hr(e:dk w B r a v)(hv:cy v)(hi:v.bs[i]?=some b):() 251 #[.pointer r,b.h] w (aJ w (.tuple #[.agg #[b.h,b.fr,b.wd],an])):=by
 obtain⟨J,K⟩:=kU;have L:=@cQ;have M:=@aO;have C:Bx w r 197 (j9 a v):=⟨e.hd⟩;obtain⟨g,D,c0,c1,c2⟩:=e.ak hi;have N:Old g w:=⟨de c1.eq⟩;have l:=(a8.1 hi).1;obtain⟨m,hm⟩:=lh v.bs.length;have E:=ae e;have F:=ae hv;have G:=ae hi;obtain⟨Ac,cc,Ab,cb,q⟩:=a;dsimp only at D;subst D;dsimp only[j9]at C;rw[hm]at C l;have i1:(i:Int)<(m:Int):=by omega
 clear e hv hi hm;go_in;go_upto_region 1 with fail;refine mr (λO _ k0=>?_);go_upto_region 4 with(go_at_call 207;refine mv (C1 E.o.at F.o G.o) λI _=>?_);go_wp2_with fail;refine aX (v:=.tuple #[.agg #[b.h,b.fr,b.wd],an]) ?_ rfl ⟨rfl,⟨(((aP w I).setCell (p:=⟨w.1.size,0,none⟩) (al _) _).setCell (p:=⟨w.1.size,1,none⟩) (al _) _).setCell (p:=⟨w.1.size,2,none⟩) (al _) _⟩⟩;rw[cF rfl];go_simp
def dk.row(F:dk w B r a v)(hv:cy v)(hi:v.bs[i]?=some b):∃g,a.Ac=some ⟨g,0,none⟩/\Sl w (some ⟨g,b.fr,none⟩) b.wd (cont v.cs b)/\v.cs.length<=a.cc/\a.cc<=maxLen/\b.fr+b.wd<=v.cs.length/\1<=b.wd/\v.cs.length<=16777216/\
  ∀W:World,(Instr.slice 26 (.slice (some ⟨g,0,none⟩) v.cs.length a.cc) (some (.int .i64 (b.fr:Int))) (some (.int .i64 ((b.fr:Int)+(b.wd:Int)))) none).run prog W=.ok (.slice (some ⟨g,b.fr,none⟩) b.wd (a.cc-b.fr)) W:=by
 have hb:=hv.lay.bd b (aC hi);have K:=F.cs.ii;rcases F.cs.form with⟨_,L,_⟩|⟨g,M,J,R,hg,N,hm,S,ht⟩;rw[L]at hb;simp at hb;omega;have O:=hv.cl;have P:=hv.cap;refine⟨g,J,⟨λj z E=>?_,(jj hb.2).symm⟩,K,hm,hb.2,hb.1,om,λW=>?_⟩
 .rw[oD]at E;split at E;obtain⟨T,o1,e,G,l⟩:=F.cs.rd _ _ E;rw[J]at e;injection e with e;injection e with C D;subst C D;exact⟨g,b.fr,rfl,G,by rw[cf]at l;exact l⟩;cases E
 have I:∀W,(sizeOf (prog.elem 26)).run prog W=.ok 1 W:=λW=>by obtain⟨U,C,D⟩:=bt.1 (show(prog.info? (prog.elem 26)).map (·.size)=some 1 from by kernel_rfl);simp[sizeOf,typeInfo,C,D]
 rw[kJ W 26 (some ⟨g,0,none⟩) v.cs.length a.cc ao .i64 .i64 (b.fr:Int) ((b.fr:Int)+(b.wd:Int)) om om om,I];have C:((b.fr:Int)+(b.wd:Int)).toNat=b.fr+b.wd:=om;have D:¬a.cc=b.fr:=om;have Q:b.fr+b.wd-b.fr=b.wd:=om;simp[Result.andThen,sliced,C,D,Q,cn]
def Xj(C:dk w B r a v)(hv:cy v)(hi:v.bs[i]?=some b)(G:b.wd<=65536):() 209 #[.pointer r,b.h] w (λe w'=>∃A c,e=.returned (.tuple #[.slice A b.wd c,an])/\aB w' w.1.size 65 A c (cont v.cs b)/\aj w' w):=by
 have U:=@ay;have V:=@aO;have D:Bx w r 197 (j9 a v):=⟨C.hd⟩;obtain⟨g,E,X,l1,I,J,Y,L,l⟩:=C.row hv hi;have M:=ae C;have N:=ae hv;have O:=ae hi;obtain⟨Ac,cc,Ab,cb,q⟩:=a;dsimp only at E l1 I l;subst E;dsimp only[j9]at D;obtain⟨m,hm⟩:=lh v.cs.length;rw[hm]at D l l1 J L;have Z:IntKind.i64.wrap ((b.fr:Int)+(b.wd:Int))=(b.fr:Int)+(b.wd:Int):=by rw[a7];omega
 clear C hv hi hm;go_in;go_upto_region 4 with(go_at_call 251;refine mv (Hr M.o N.o O.o) λu1 _=>?_);refine mr (λF _ k0=>?_);have P:Sl F (some ⟨g,b.fr,none⟩) b.wd (cont v.cs b):=aq;refine ab F ao (λQ _=>?_);refine qL [0,1,2,3,4,5,6,7,8,9,10,11] ?_;refine aK 12 λK hK=>?_;go_simp;refine(Km om).mono ?_;rintro e Q ⟨R,S,rfl,T,_⟩;dsimp only;refine aG hK ?_;refine qL [13,14] ?_;refine a9 ?_;go_wp2_with fail;go_ret2;exact⟨R,S,rfl,T.more ai,aF⟩
def Nf{ad:Addr}{t:Nat}(h:aB w B 65 (some ⟨g,0,none⟩) c zs)(D:∀(j:Nat) (z:Int),xs[j]?=some z->w.cell? (ad.add j)=some (.int .i64 z))(ht:t+xs.length<=zs.length):
  ∃X,(∀l dc sc,(Builtin.copy_ #[26,26] l #[.slice (some ⟨g,t,none⟩) xs dc,.slice (some ad) xs sc]).run prog w=.ok (goInt (xs.length:Int)) (w.setRow g X))/\aB (w.setRow g X) B 65 (some ⟨g,0,none⟩) c (jO zs t xs):=by
 rcases h.form with⟨F,_⟩|⟨N,cur,e,G,hg,I,hm,J,hv⟩;cases F;injection e with e;injection e with K O;subst K;refine⟨(cur.toList.take t++xs.map (Value.int .i64)++cur.toList.drop (t+(xs.map (Value.int .i64)).length)).toArray,λl dc sc=>?_,?_⟩
 have:=fI (P:=prog) (w:=w) (E:=65) (k:=1) (g:=g) (o:=t) (cs:=xs.map (Value.int .i64)) (cur:=cur) 26 26 l xs.length dc ad xs.length sc ao ao hg aD (λj v C=>by
  rw[bf]at C;obtain⟨z,L,rfl⟩:=bt.1 C;exact D j z L) cr (rH xs)
 rw[lX (al _)]at this;exact this;have M:=kY (cs:=zs) (p:=t) (xs:=xs) ht;have hs:cur.toList.length=c:=by simpa using J
 have:=aU.mk' (w:=w.setRow g (cur.toList.take t++xs.map (Value.int .i64)++cur.toList.drop (t+(xs.map (Value.int .i64)).length)).toArray) (E:=65) (k:=1) (n:=zs.length) (c:=c) (vs:=(jO zs t xs).map (Value.int .i64)) G (bV hg _) I hm cr (by
  show List.take (zs.length*1) (cur.toList.take t++xs.map (Value.int .i64)++cur.toList.drop (t+(xs.map (Value.int .i64)).length))=_
  rw[fp,bj,jO,c9,c9,gI,kK,<-hv];rw[fd,dQ om];rw[rC,bY cr];congr 1;rw[tI];congr 1;simp;omega)
 unfold aB;rw[M];exact this
def dk.cells{X:m0}(C:dk w B r a v)(E:a.Ac=some ⟨g,0,none⟩)(F:aB (w.setRow g X) B 65 (some ⟨g,0,none⟩) a.cc zs)(G:zs.length=v.cs.length):dk (w.setRow g X) B r a {v with cs:=zs}:=by
 obtain⟨p1,D,K⟩:=C.apart;have l:AF a.Ac g:=⟨_,E,rfl⟩;refine⟨?_,?_,?_,?_,C.hr,C.hq⟩;have:j9 a {v with cs:=zs}=j9 a v:=by dsimp only[j9];rw[G]
 rw[this];exact(bk (dO (D g l).1) X).trans C.hd;rw[E];exact F;exact C.bs.same λI e=>bk (λJ=>(D g l).2.2 (by rw[<-J];exact⟨I,e,rfl⟩)) X;exact C.mp.same (bk (dO (D g l).2.1) X)
def mu{F:Nat->Prop}(hg:F g)(X):Kf F F w (w.setRow g X):=
 ⟨⟨rfl,rfl,rfl,by rw[size_setRow];exact al _,λb hb=>absurd hb (lL _)⟩,by rw[size_setRow];exact al _,λb _ l=>bk (λe=>l (by rw[e];exact hg)) X,λ_ h=>.inl h⟩
def Xk[aT p w](M:dk w p.1.size r a v)(hv:cy v)(hi:v.bs[i]?=some b)[N:Sl w A n xs](Z:n=b.wd):() 204 #[.pointer r,.int .i64 b.h,(A,n,c)] w (λe w'=>e=.returned an/\dk w' p.1.size r a (v.put b xs)/\Kf (a.F r) (a.F r) w w'):=by
 have CB:=@ay;have CC:=@cQ;have FB:=@aO;obtain⟨g,O,-,l1,l2,l3,l4,l5,ko⟩:=M.row hv hi;have I:xs.length=b.wd:=by rw[<-Z,N.len]
 obtain⟨b1,o1,z1,rfl,pq,-,-⟩:=N.get (k:=0) om;have c1:Cl w r 1 (.slice g v.cs.length a.cc):=⟨by rw[M.hd.cell 1,<-O];rfl⟩;have P:=ae M;have HV:=ae hv;have HI:=ae hi;have Q:=ae O;have G:=ae I;have J:=ae l3;have SX:=ae N;subst Z;have hw:IntKind.i64.wrap ((b.fr:Int)+(b.wd:Int))=(b.fr:Int)+(b.wd:Int):=by rw[a7];omega
 clear M hv hi O I;go_in;go_upto_region 4 with(go_at_call 251;refine mv (Hr P.o HV.o HI.o) λR _=>?_);refine mr (λu0 Ff k0=>?_);go_upto_region 6 with fail;refine a6 p (λw9=>Cl w9 r 1 (.slice g v.cs.length a.cc)/\Bx w9 R.1.size 311 #[.int .i64 b.h,.int .i64 (b.fr:Int),.int .i64 (b.wd:Int)]) ao ⟨aq,aq⟩ (λC _=>?_);refine bT 0 ?_;refine bT 1 ?_;refine bT 2 ?_;refine bT 3 ?_;refine bT 4 ?_;refine bT 5 ?_;refine bT 6 ?_;refine bT 7 ?_;refine bT 8 ?_;refine bT 9 ?_;refine bT 10 ?_;refine bT 11 ?_;refine bT 12 ?_;refine aK 13 λK hK=>?_;have D:=P.o.at (w':=C);have l:=D.cs;rw[Q.o]at l;obtain⟨X,L,S⟩:=Nf (ad:=⟨b1,o1,none⟩) (t:=b.fr) (xs:=xs) l (λj z hj=>by rw[cn];exact(SX.o.rd.below (aP w C)).all hj) (by rw[G.o];exact J.o);rw[G.o]at L;have E:AF a.Ac g:=by rw[Q.o];exact⟨_,rfl,rfl⟩
 have T:g≠r:=(D.apart.2.1 g E).1;have Fg:p.1.size<=g:=(D.lt g (.inr (.inr (.inl E)))).1;have U:g≠R.1.size:=by have:=(P.o.lt g (.inr (.inr (.inl E)))).2;have:=ai (w:=w) (w':=R);omega
 have V:=ae (D.cells Q.o S (kY (by rw[G.o];exact J.o)));have Y:Hx (Kf (a.F r) (a.F r) w (C.setRow g X)):=ae ((Kf.later _ (w:=w)).trans (mu (.inr (.inr (.inl E))) X));refine d7 rfl _ _ 26 26 rfl _ _ rfl rfl (L _ _ _)<|aG hK ?_ ⟨⟨⟨(aP p C).os,(aP p C).tape,(aP p C).output,by rw[size_setRow];exact(aP p C).size,λb hb=>by rw[bk om];exact(aP p C).block b hb⟩⟩,⟨(d9 (bk (dO T) X)).trans (Cl.eq (w:=C))⟩,⟨(bk (dO U) X).trans (Bx.ak (w:=C))⟩⟩;refine a9 ?_;go_wp2_with fail;go_ret;exact⟨rfl,V.o,Y.o⟩
variable{w1:World}{c':Nat}{bs':List gj}
variable{t:Value}
def dk.ZC(C:dk w B r a v)(G:dm a.Ab A' w w')(hr:aU w' B 311 3 A' c' bs'.length (h7 bs')):dk (w'.setCell (r,2) (.slice A' bs' c')) B r {a with Ab:=A',cb:=c'} {v with bs:=bs'}/\Kf (a.F r) (({a with Ab:=A',cb:=c'}:r7).F r) w (w'.setCell (r,2) (.slice A' bs' c')):=by
 have⟨p1,p2,p3⟩:=C.apart;have I:az w' r 197 (j9 a v):=G.ak C.hd λl e D=>(p3 r ⟨l,e,D⟩).1 rfl;have J:aB w' B 65 a.Ac a.cc v.cs:=C.cs.same λl e=>G.off _ (C.cs.lt l e) λK N D=>(p2 l.block ⟨l,e,rfl⟩).2.2 ⟨K,N,D⟩;have L:gn w' a.q v.mp:=C.mp.same (G.off _ C.mp.lt λl e D=>(p3 a.q ⟨l,e,D⟩).2 rfl);have M:∀l,A'=some l->l.block≠r:=λl e D=>by have⟨_,_,cur,E⟩:=hr.af ⟨l,e,D⟩;unfold az at I;rw[I]at E;injection E with E;injection E with _ E;exact absurd E am
 refine⟨⟨?_,?_,?_,?_,C.hr,C.hq⟩,?_⟩;exact I.av 2 _;exact J.same λl e=>ba w' ⟨r,2,none⟩ _ _ (p2 l.block ⟨l,e,rfl⟩).1;exact hr.same λl e=>ba w' ⟨r,2,none⟩ _ _ (M l e);exact L.same (ba w' ⟨r,2,none⟩ _ _ (dO p1));refine Kf.av ((Kf.jt G).more (λb hb=>.inr (.inr (.inr hb))) (λb hb=>?_)) (.inl rfl) _;rcases hb with hb|hb|hb|hb;exact .inr (.inl (.inl hb));exact .inr (.inl (.inr (.inl hb)));exact .inr (.inl (.inr (.inr (.inl hb))));exact .inl hb
def dk.Sa(l:dk w B r a v)(hm:gn w1 a.q mp)(D:∀b,b≠a.q->w1.heap[b]?=w.heap[b]?):dk w1 B r a {v with mp:=mp}:=by
 have⟨p1,p2,p3⟩:=l.apart;exact⟨(D r p1).trans l.hd,l.cs.same λC e=>D _ (p2 C.block ⟨C,e,rfl⟩).2.1,l.bs.same λC e=>D _ (p3 C.block ⟨C,e,rfl⟩).2,hm,l.hr,l.hq⟩
def Fh{F:Nat->Prop}(hq:F q)(l:∀b,b≠q->w1.heap[b]?=w.heap[b]?)(hs:w1.1.size=w.1.size)(hb:Below 0 w w1):Kf F F w w1:=
 ⟨hb,ei hs.symm,λb _ C=>l b λe=>C (by rw[e];exact hq),λ_ h=>.inl h⟩
theorem Cl.aY{b k:Nat}{x:Value}(h:Cl w g i t)(e:g≠b\/i≠k):Cl (w.setCell (b,k) x) g i t:=
 ⟨(World.cell?_setCell_other _ _ _ _ cr).trans h.eq⟩
def cy.aax(hv:cy v)(hi:v.bs[i]?=some b):b.wd<=v.lv:=by
 rw[hv.lv,jk hi];simp;omega
def xFd(h:Γ:=by injection e with e;subst e;exact hx):=h
def Sb[aT p w](V:dk w p.1.size r a v)(hv:cy v)(hi:v.bs[i]?=some b):() 153 #[.pointer r,.int .i64 b.h] w (λe w'=>e=.returned an/\dk w' p.1.size r a (v.free i b)/\Kf (a.F r) (a.F r) w w'):=by
 have CB:=@ay;have CC:=@cQ;have FB:=@aO;obtain⟨g,hA,-,-,c2⟩:=V.ak hi;have X:=(a8.1 hi).1;have Hs:=hv.aax hi;have EZ:=hv.small hi;have qA:=hv.y3;have xd:=hv.cl;have pt:=hv.cap;have l:Cl w r 2 (.slice g v.bs.length a.cb):=⟨by rw[V.hd.cell 2,<-hA];rfl⟩;have ch6:Cl w r 6 (v.lv:Int):=⟨V.hd.cell 6⟩;have HV:=ae hv;have HI:=ae hi;have Y:=ae V;have HA:=ae hA;have R:g≠r:=(V.apart.2.2 g (by rw[hA];exact⟨_,rfl,rfl⟩)).1;have ads:(v.lv:Int)-(b.wd:Int)=((v.lv-b.wd:Nat):Int):=om;have hw:IntKind.i64.wrap ((v.lv-b.wd:Nat):Int)=((v.lv-b.wd:Nat):Int):=by rw[a7];omega
 obtain⟨m,hm⟩:=lh v.bs.length;have G:=ae hm;rw[hm]at X l;have i1:(i:Int)<(m:Int):=by omega
 have Z:v.bs.length<=16777216:=by
  have h3:v.bs.length<=(v.bs.map (·.wd)).sum:=by
   have:∀L:List gj,(∀b∈L,1<=b.wd)->L.length<=(L.map (·.wd)).sum:=by
    intro L;induction L with
    |nil=>intro _;simp
    |cons x t ih=>intro hL;have h4:=hL x cm;have h5:=ih λy hy=>hL y (dp _ hy);exact xF9
   exact xF7
  have h4:=hv.lv;omega
 have B6:Hx (m<=16777216):=ae (by rw[<-hm];exact Z);go_in;go_upto_region 4 with(go_at_call 207;refine mv (C1 Y.o.at HV HI) λu1 _=>?_);refine a6 p (λw9=>Cl w9 r 2 (.slice g m a.cb)/\Cl w9 g (i*3+2) (b.wd:Int)) ao ⟨aq,aq⟩ (λO _=>?_);refine bT 0 ?_;refine bT 1 ?_;refine bT 2 ?_;refine bT 4 ?_;refine bT 5 ?_;refine bT 6 ?_;refine bT 7 ?_;refine bT 8 ?_;refine bT 9 ?_;refine bT 10 ?_;refine bT 11 ?_;refine aK 3 λK hK=>?_;go_simp;refine aG hK ?_ ⟨aR p O,⟨aq,aq⟩⟩;refine bT 12 ?_;refine bT 13 ?_;refine bT 14 ?_;refine aK 15 λK hK=>?_;have Sc:O.cell? (r,6)=some (.int .i64 (v.lv:Int)):=(Y.o.at (w':=O)).hd.cell 6;have Sd:O.frozen? ⟨r,6,none⟩=false:=(Y.o.at (w':=O)).hd.frozen 6;go_simp;refine aG hK ?_ ⟨⟨(aP p O).setCell (p:=⟨r,6,none⟩) Y.o.hr _⟩,⟨Cl.aY aq (.inr am),Cl.aY aq (.inl R)⟩⟩;clear hK K Sc Sd;refine a9 ?_;skip;obtain⟨v1,I⟩:=lg ({v with lv:=v.lv-b.wd}:da);obtain⟨W1,J⟩:=lg (O.setCell (r,6) ((v.lv-b.wd:Nat):Int));have D:dk W1 p.1.size r a v1:=by rw[J,I];exact(Y.o.at (w':=O)).ud (v':={v with lv:=v.lv-b.wd}) (i:=6) (by rfl) rfl rfl rfl
 have Se:Kf (a.F r) (a.F r) w W1:=by rw[J];exact(Kf.later _ (w:=w)).av (.inl rfl) _
 have S:=ae D;have vm:=ae Se;have e1:v1.bs=v.bs:=by rw[I]
 have kh1:Bx W1 r 197 (j9 a v1):=⟨D.hd⟩;have HB1:Hx (aU W1 p.1.size 311 3 (some ⟨g,0,none⟩) a.cb m (h7 v.bs)):=ae (by have:=D.bs;rwa[HA.o,e1,G.o]at this);have M:=ae I;have adt:Cl W1 r 2 (.slice g m a.cb):=⟨by rw[D.hd.cell 2,<-HA.o,<-G.o,<-e1];rfl⟩;have HN9:Hx (m<=100000)\/True:=.inr bX;have wi:IntKind.i64.wrap ((i:Int)+1)=(i:Int)+1:=by have:=B6.o;rw[a7];omega
 rw[<-J];clear J D Se I e1 HN9 l ch6 c2 FB CB kh1;go_upto_region 6 with(go_at_call 208;refine(aat (HB1.o) (Hn _) rfl rfl X (by have:=B6.o;omega)).mono ?_;rintro e u2 ⟨rfl,r2,l⟩;rw[<-CZ,<-C0,<-jl]at r2;obtain⟨fr2,-⟩:(∀i,u2.frozen? ⟨r,i,none⟩=false)/\True:=⟨λi=>((l.ak S.o.hd λad e hx=>R xFd).frozen i),bX⟩;obtain⟨cr2,-⟩:Cl u2 r 2 (.slice g m a.cb)/\True:=⟨⟨(d9 (l.off r S.o.hd.lt λad e hx=>R xFd)).trans (Cl.eq (w:=W1))⟩,bX⟩);obtain⟨bs2,C⟩:=lg (v.bs.take i++v.bs.drop (i+1));have T:bs2.length=m-1:=by rw[C,<-G.o];have:=G.o;simp;omega
 obtain⟨W2,U⟩:=lg (u2.setCell (r,2) (.slice g (m-1) a.cb));have E:dk W2 p.1.size r a {v1 with bs:=bs2}/\Kf (a.F r) (a.F r) W1 W2:=by rw[<-C,<-T]at r2;have h9:=S.o.ZC (A':=some ⟨g,0,none⟩) (c':=a.cb) (by rw[HA.o];exact l) r2;(have e9:({a with Ab:=some ⟨g,0,none⟩,cb:=a.cb}:r7)=a:=by have⟨Ac,cc,Ab,cb,q⟩:=a;have h8:=HA.o;dsimp only at h8;rw[h8]);rw[e9,T,<-U]at h9;exact h9
 have P:b.h∈v.mp.map (·.1):=bw.2 ⟨_,HV.o.B2 b (aC HI),rfl⟩;have Q:gn W2 a.q v.mp:=by have:=E.1.mp;rw[M.o]at this;exact this
 have⟨W3,adu,Kn,hk3,t8,qv⟩:=Q.del HV.o.wF P;have N:=E.1.Sa Kn hk3;have Fi:Kf (a.F r) (a.F r) w W3:=(vm.o.trans E.2).trans (Fh (.inr (.inl rfl)) hk3 t8 qv);have cq2:Cl W2 r 3 (.map (some a.q)):=⟨E.1.hd.cell 3⟩;have cp3:Cl W3 r 4 (v.pk:Int):=⟨by rw[N.hd.cell 4,M.o];rfl⟩;have fr3:∀i,W3.frozen? ⟨r,i,none⟩=false:=λi=>N.hd.frozen i;have Xl:=ae N;have sN:=ae Fi;have adv:min (v.pk:Int) (i:Int)=((min v.pk i:Nat):Int):=by omega
 rw[<-U];have Fj:=ae C;clear U E P Q Kn hk3 t8 qv N Fi T r2 l C fr2 cr2;go_wp2_with fail;go_ret;refine⟨rfl,?_,?_⟩;have h9:=Xl.o.ud (v':=v.free i b) (i:=4) (x:=.int .i64 ((min v.pk i:Nat):Int)) (by rw[M.o,Fj.o];rfl) (by rw[M.o];rfl) (by rw[Fj.o];rfl) (by rfl);exact h9;exact sN.o.av (.inl rfl) _
def cy.lens(hv:cy v):v.bs.length<=16777216:=by
 have E:v.bs.length<=(v.bs.map (·.wd)).sum:=by
  have:∀L:List gj,(∀b∈L,1<=b.wd)->L.length<=(L.map (·.wd)).sum:=by
   intro L;induction L with
   |nil=>intro _;simp
   |cons x t e=>intro hL;have l:=hL x cm;have C:=e λy D=>hL y (dp _ D);exact xF9
  exact xF7
 have F:=hv.y3;have G:=hv.cl;have l:=hv.cap;have C:=hv.lv;omega
def cy.zj(hv:cy v)(hi:i<=v.bs.length):d4 v.bs i<=16777216:=by
 have e:=hv.lay.W6 hi;have l:=hv.cl;have C:=hv.cap;omega
def Fk(hv:cy v){k m:Nat}(e:k<=v.bs.length):cy (v.hc k m):=(nY.hc hv e).ok
def xFc(h:Γ:=by show i<=v.bs.length;rw[C.o];exact hi):=h
def xF2(h:Γ:=by
 have l:=ae (G.o.at (w':=D));have V:Hx (Kf (a.F r) (a.F r) w D):=ae (S.o.trans (Kf.later _ (w:=wr)));have X:Bx D r 197 #[v.cap,.slice a.Ac v.cs.length a.cc,.slice a.Ab n a.cb,.map (some a.q),k,v.nx,v.lv,v.hi,v.pe,v.mv]:=⟨by have P:=l.o.hd;dsimp only[j9,da.hc]at P;rw[C.o]at P;exact P⟩;have E:Hx (cy (v.hc k v.mv)):=ae (Fk O.o (by rw[C.o];exact Y));have or5:Old r D:=⟨X.ak.lt⟩;clear G S kb M;go_wp2_with fail;go_loopw [6] (λs wy=>∃i:Nat,i<=n/\s=.int .i64 (i:Int)/\aj wy D) (λs _=>n-(intOf s).toNat);case atStart=>exact⟨k,Y,rfl,aF⟩
 case round=>
  obtain⟨i,hi,rfl,hp6⟩:=hrel;by_cases sI:i<n
  .obtain⟨b,hb⟩:∃b,v.bs[i]?=some b:=⟨_,a5 (by rw[C.o];exact sI)⟩;obtain⟨g,T,-,c1,-⟩:=l.o.ak (v:=v.hc k v.mv) hb;have Z:=O.o.small hb;have hel:=O.o.lay.E0 hb;obtain⟨e,J⟩:=lh (d4 v.bs i);rw[J]at hel;have I:Hx (d4 (v.hc k v.mv).bs i=e):=ae J;have Q:Hx (i<=(v.hc k v.mv).bs.length):=ae xFc;have og5:Old g D:=⟨de c1.eq⟩;have HB:=ae hb;have HAA:=ae T;rw[T]at X;(have Oz:IntKind.i64.wrap ((b.fr:Int)-(e:Int))=(b.fr:Int)-(e:Int):=by rw[a7];omega);(have hwi:IntKind.i64.wrap ((i:Int)-1)=(i:Int)-1:=by rw[a7];omega);(have i1:(i:Int)<(n:Int):=by omega);clear T hb J;by_cases U:e+wd<=b.fr
   .have d1:decide ((wd:Int)<=(b.fr:Int)-(e:Int))=true:=by simp;omega
    have HC:=ae U;clear U;go_upto_region 6 with fail;refine ab wr ao (λL _=>?_);refine qL [0,1,2,3,4,5,6,7,8,9,10,13] ?_;refine aK 11 λK hK=>?_;go_simp;refine(lY (w:=L) (ae l.o.at) E Q rfl I).mono ?_;rintro e L ⟨rfl,_⟩;dsimp only;refine aG hK ?_;refine qL [12,14] ?_;refine a9 ?_;go_wp2_with fail;go_ret2;refine⟨k,i,true,rfl,l.o.at,by rw[C.o];exact Y,V.o.trans (Kf.later _ (w:=D)),ae λ_=>⟨by rw[C.o];exact hi,λb' N=>?_,?_⟩⟩;obtain rfl:b=b':=cH (HB.o.symm.trans N);exact aL (ei (cq (· +wd) I.o)) HC.o;have h7:d4 v.bs i=e:=I.o;have h8:=(O.o.lay.bd b (aC HB.o)).2;have P:=O.o.cl;have h6:=HC.o;omega
   have d1:decide ((wd:Int)<=(b.fr:Int)-(e:Int))=false:=by simp;omega
   clear U;go_upto_region 6 with fail;refine ab wr ao (λL _=>?_);refine qL [0,1,2,3,4,5,6,7,8,9,10,13] ?_;refine aK 11 λK hK=>?_;go_simp;refine(lY (w:=L) (ae l.o.at) E Q rfl I).mono ?_;rintro e L ⟨rfl,_⟩;dsimp only;refine aG hK ?_;refine qL [12,14] ?_;refine a9 ?_;go_wp2_with fail;go_roundw;(case rel=>exact⟨i+1,om,by go_num,aF⟩);case measure=>exact nT
  obtain rfl:i=n:=om;obtain⟨e,J⟩:=lh (d4 v.bs i);have hes:=O.o.zj (i:=i) (by rw[C.o];exact al _);rw[J]at hes;have I:Hx (d4 (v.hc k v.mv).bs i=e):=ae J;have Q:Hx (i<=(v.hc k v.mv).bs.length):=ae xFc;(have Oz:IntKind.i64.wrap ((v.cap:Int)-(e:Int))=(v.cap:Int)-(e:Int):=by rw[a7];omega);(have hwn:IntKind.i64.wrap ((i:Int)-1)=(i:Int)-1:=by rw[a7];omega);obtain⟨ok,sP⟩:=lh (decide ((wd:Int)<=(v.cap:Int)-(e:Int)));have lZ:=ae sP;have r8:=ae R;clear J;go_upto_region 8 with fail;refine ab wr ao (λL _=>?_);refine qL [0,1,2,3,4,5,6,7,8,9,10,11,12,13,14,15,18] ?_;refine aK 16 λK hK=>?_;go_simp;refine(lY (w:=L) (ae l.o.at) E Q rfl I).mono ?_;rintro e L ⟨rfl,_⟩;dsimp only;refine aG hK ?_;refine qL [17,19,20,21] ?_;refine a9 ?_;go_wp2_with fail;go_ret2;refine⟨k,i,ok,rfl,l.o.at,by rw[C.o];exact Y,V.o.trans (Kf.later _ (w:=D)),ae λh=>⟨by rw[C.o];exact al _,λb' N=>?_,?_⟩⟩;have:=(a8.1 N).1;rw[C.o]at this;omega;have h7:d4 v.bs i=e:=I.o;have h8:=lZ.o;rw[h]at h8;have:=o6 h8;omega):=h
def Xm[pw:aT p w](hM:dk w p.1.size r a v)(hv:cy v):() 244 #[.pointer r,wd] w (λe w'=>∃(pk i:Nat) (ok:Bool),e=.returned (.tuple #[i,.bool ok])/\dk w' p.1.size r a (v.hc pk v.mv)/\pk<=v.bs.length/\Kf (a.F r) (a.F r) w w'/\
   Hx (ok=true->i<=v.bs.length/\(∀b,v.bs[i]?=some b->d4 v.bs i+wd<=b.fr)/\d4 v.bs i+wd<=v.cap)):=by
 have CB:=@ay;have CC:=@cQ;have FB:=@aO;have O:=ae hv;have Sf:=ae hM;have R:=hv.lens;have ZD:=hv.cap;obtain⟨n,hn⟩:=lh v.bs.length;have C:=ae hn;rw[hn]at R;have Fl:Hx (dk w p.1.size r a (v.hc v.pk v.mv)):=ae hM;have HP:Hx (v.pk<=n):=ae (by rw[<-hn];exact hv.pk);clear hM hv hn;go_in;go_wp2_with fail;go_loopg [] n (λkx wr=>∃k:Nat,k<=n/\n-k<=kx/\Hx (dk wr p.1.size r a (v.hc k v.mv))/\Hx (Kf (a.F r) (a.F r) w wr)/\aj wr p);case atStart=>exact⟨v.pk,HP.o,om,Fl,ae (Kf.refl _ _),⟨pw.st⟩⟩
 case round=>
  obtain⟨k,Y,hkx,G,S,hpr⟩:=hrel;have M:Bx wr r 197 #[v.cap,.slice a.Ac v.cs.length a.cc,.slice a.Ab n a.cb,.map (some a.q),k,v.nx,v.lv,v.hi,v.pe,v.mv]:=⟨by have P:=G.o.hd;dsimp only[j9,da.hc]at P;rw[C.o]at P;exact P⟩;have kb:=M;by_cases bE:k<n
  .obtain⟨b,hb⟩:∃b,v.bs[k]?=some b:=⟨_,a5 (by rw[C.o];exact bE)⟩;obtain⟨g,T,-,c1,-⟩:=G.o.ak (v:=v.hc k v.mv) hb;have Z:=O.o.small hb;obtain⟨e,J⟩:=lh (d4 v.bs k);have I:Hx (d4 (v.hc k v.mv).bs k=e):=ae J;have Q:Hx (k<=(v.hc k v.mv).bs.length):=ae (by show k<=v.bs.length;rw[C.o];exact Y);have E:Hx (cy (v.hc k v.mv)):=ae (Fk O.o (by rw[C.o];exact Y));have og:Old g wr:=⟨de c1.eq⟩;have or:Old r wr:=⟨M.ak.lt⟩;have HAA:=ae T;(have hwk:IntKind.i64.wrap ((k:Int)-1)=(k:Int)-1:=by rw[a7];omega);have zh:=M;rw[T]at zh;(have d0:decide ((k:Int)<(n:Int))=true:=by simpa using bE);(have i1:(k:Int)<(n:Int):=by omega);clear T hb J kb M;have kb:=zh;by_cases U:b.fr=e
   .have d1:((b.fr:Int)==(e:Int))=true:=by simp[U]
    clear U;go_upto_region 1 with fail;refine ab wr ao (λD _=>?_);refine qL [0,1,2,3,4,5,6,7,8,9,10,11,12,13,14,15,16,17,18,19,20,21,22,23,24,25,26,27] ?_;refine aK 28 λK hK=>?_;go_simp;refine(lY (w:=D) (ae G.o.at) E Q rfl I).mono ?_;rintro e D ⟨rfl,_⟩;dsimp only;refine aG hK ?_;refine qL [29,30] ?_;refine a9 ?_;go_wp2_with fail;go_roundg (n-(k+1));(case measure=>omega);case rel=>exact⟨k+1,om,om,ae ((G.o.at (w':=D)).ud (v':=v.hc (k+1) v.mv) (i:=4) (by rfl) rfl rfl rfl),ae ((S.o.trans (Kf.later _ (w:=wr))).av (.inl rfl) _),⟨(aP p D).setCell (p:=⟨r,4,none⟩) Sf.o.hr _⟩⟩
   have d1:((b.fr:Int)==(e:Int))=false:=by simp;omega
   have M:=kb;clear U;go_upto_region 1 with fail;refine ab wr ao (λD _=>?_);refine qL [0,1,2,3,4,5,6,7,8,9,10,11,12,13,14,15,16,17,18,19,20,21,22,23,24,25,26,27] ?_;refine aK 28 λK hK=>?_;go_simp;refine(lY (w:=D) (ae G.o.at) E Q rfl I).mono ?_;rintro e D ⟨rfl,_⟩;dsimp only;refine aG hK ?_;refine qL [29,30] ?_;refine a9 ?_;skip;clear d0 d1 c1 Z I Q E zh i1 og or HAA hwk;exact xF2
  (have d0:decide ((k:Int)<(n:Int))=false:=by simp;omega);go_upto_region 1 with fail;refine ab wr ao (λD _=>?_);refine qL [0,1,2,3,4,5,6,7,8,9,10,511,512,513,514,515,516,517,518,519,520,521,522,523,524,525,526,527,528,529,30] ?_;refine a9 ?_;skip;clear d0;exact xF2
end Go.Proofs.YtmkjnlifimffkaaGreat
