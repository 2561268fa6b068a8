/- Lemmas. -/
import Derived.Test.YtmkjnlifimffkaaGreatG08
namespace Go.Proofs.YtmkjnlifimffkaaGreat
open Go.RowKit Tryz
set_option linter.all false
set_option maxRecDepth 100000
set_option maxHeartbeats 0
variable{Γ:Prop}
attribute[local irreducible]Calls
variable{A:Option Addr}{w':World}{c:Nat}
def tc(ts:List Tn):List Value:=ts.flatMap λt=>[.slice t.A t.zs.length t.c,.slice t.B t.xs.length t.d]
def m0(ts b:List Tn):tc (ts++b)=tc ts++tc b:=by simp[tc]
def dU(ts:List Tn):(tc ts).length=ts*2:=by
 induction ts with
 |nil=>rfl
 |cons t l b=>simp[tc]at b⊢;omega
def H7:∀{ts:List Tn} {j:Nat} {t:Tn},ts[j]?=some t->(tc ts)[j*2]?=some (.slice t.A t.zs.length t.c)/\(tc ts)[j*2+1]?=some (.slice t.B t.xs.length t.d)
 |u::l,0,t,h=>by simp at h;subst h;simp[tc]
 |u::l,j+1,t,h=>by have:=H7 (ts:=l) (j:=j) (t:=t) (by simpa using h);(have e:tc (u::l)=[.slice u.A u.zs.length u.c,.slice u.B u.xs.length u.d]++tc l:=by simp[tc]);rw[e,eT ch,eT ch];simp only[fD,ja];rwa[show(j+1)*2-(0+1+1)=j*2 from Y,show(j+1)*2+1-(0+1+1)=j*2+1 from Y]
def abm(ts:List Tn):∀u∈tc ts,u.oneCell'=true:=by
 intro u hu;obtain⟨t,_,hu⟩:=pD.1 hu;simp at hu;rcases hu with rfl|rfl<;>rfl
def QN(w:ab)(B:Nat)(A:bz)(c:Nat)(ts:List Tn):Prop:=w.ownsRow B 28 2 (.slice A ts c) ts.length (tc ts)
def TE(w:ab)(t:Tn):Prop:=Rd w t.A t.zs/\Rd w t.B t.xs/\t.xs.length<=t.d/\∀z∈t.xs,bf z
def TE.below{w w':ab}{t:Tn}(h:TE w t)(hb:Below w.1.size w w'):TE w' t:=⟨h.1.below hb,h.2.1.below hb,h.2.2⟩
def nu.elems{w:ab}{ts:List Tn}(h:nu w A ts):∀t∈ts,TE w t:=λt ht=>by
 obtain⟨j,b⟩:=List.mem_iff_getElem?.1 ht;obtain⟨_,_,_,k⟩:=h j t b;exact⟨k.s,k.x,k.le,k.bd⟩
section
variable{w:World}{B:Nat}{ts:List Tn}
def QN.trd(h:QN w B A c ts)(l:∀t∈ts,TE w t):nu w A ts:=by
 rcases h.2 with⟨_,m⟩|⟨g,cap,b,hv,z,hg,C,hm,D,ht⟩;rw[pB m];exact nu.nil _ _;injection hv with hv _ _;subst hv;intro j t e;obtain⟨a0,r⟩:=H7 e;have u:=(bj.1 e).1;have look:∀k v,k<ts.length*2->(tc ts)[k]?=some v->w.cell? (g,k)=some v:=by intro k v y hv;rw[<-ht,ji,ah y]at hv;(have:b[k]?=some v:=by simpa using hv);simp[World.cell?,hg,this]
 obtain⟨s,x,le,bd⟩:=l t (aK e);refine⟨g,0,rfl,(fY.1 hg).1,?_,?_,s,x,le,bd⟩;rw[cQ];exact look _ _ Y a0;rw[cQ];exact look _ _ Y r
end
variable{G I R c' d d' j l m m' n' q:Nat}{ps us:List Tn}{t:Tn}{O xg xs ys zg zs:List Int}{B C D:Option Addr}{side:Int}
def iv(ps:List Tn)(n:Nat):Array Value:=(tc ps++List.replicate ((n-ps.length)*2) (Value.slice none 0 0)).toArray
def BZ(n:Nat):madeCells #[Value.slice none 0 0,Value.slice none 0 0] (n*2)=iv [] n:=by
 apply pK;simp only[madeCells,Array.toList_map,Array.toList_range,iv,tc,List.flatMap_nil,jN,ja,GS];apply uY;simp;intro i b e;simp only[List.getElem_map,List.getElem_range,List.getElem_replicate];rcases PN i with h|h<;>simp[h]
def jA(n:Nat)(l:n<=1000000)(W:ab):(Instr.makeSlice 23 (n:Int) (n:Int)).run prog W=.ok (W,n,n) (W.alloc (.cells (iv [] n) 28)):=by
 have b:(prog.info? 28).map (λi=>(i.zero,i.size,i.bytes))=some (some (.agg #[(),()]),2,48):=ap;obtain⟨i,hi,e⟩:=bJ.1 b;simp only[dS]at e;obtain⟨j,hs,hb⟩:=e;have:=nN (P:=prog) W 23 28 i _ underlying23 hi j .i64 .i64 n n Y (eb _) (by rw[hs];simp;omega) (by rw[hb];omega) Y;rw[hs]at this;rw[<-BZ];simpa[Value.cells]using this
def sV(ps:List Tn){n:Nat}(h:ps<=n):(iv ps n).size=n*2:=by
 simp[iv,dU];omega
def Kw(ps:List Tn){n:Nat}(h:ps<n)(t:Tn):((iv ps n).setIfInBounds (ps.length*2) (.slice t.A t.zs.length t.c)).setIfInBounds (ps.length*2+1) (.slice t.B t.xs.length t.d)=iv (ps++[t]) n:=by
 have e:(n-ps.length)*2=(n-(ps++[t]).length)*2+1+1:=by simp;omega
 unfold iv;rw[e,jM,jM,uG,uG,ky _ _ (by rw[dU];exact al _),dU,eV,i4,
  ky _ _ (by rw[dU];omega),dU,uN,GL,i4,m0]
 simp[tc]
structure PB(w:World)(G n:Nat)(ps:List Tn):Prop where
 ak:aA w G 28 (iv ps n)
 el:∀t∈ps,Sl w t.A t.zs.length t.zs/\Sl w t.B t.xs.length t.xs/\bL (G+1) t.A/\bL (G+1) t.B/\t.xs.length<=t.d/\(∀z∈t.xs,bf z)/\t.zs.length<=t.c
section
variable{w:World}{n:Nat}
def PB.at[l:aM w w'](h:PB w G n ps):PB w' G n ps:=
 ⟨h.ak.at,λt ht=>by
  obtain⟨a,b,r⟩:=h.el t ht;exact⟨⟨a.rd.at,rfl⟩,⟨b.rd.at,rfl⟩,r⟩⟩
def PB.push(h:PB w G n ps)(l:ps<n)(a:Sl w t.A t.zs.length t.zs)(b:Sl w t.B t.xs.length t.xs)(e:bL (G+1) t.A)(j:bL (G+1) t.B)(ld:t.xs.length<=t.d)(bd:∀z∈t.xs,bf z)(lc:t.zs.length<=t.c):
  PB ((w.setCell (G,ps.length*2) (.slice t.A t.zs.length t.c)).setCell (G,ps.length*2+1) (.slice t.B t.xs.length t.d)) G n (ps++[t]):=by
 have aV:∀{A:bz} {zs:au},Sl w A zs zs->bL (G+1) A->Sl ((w.setCell (G,ps.length*2) (.slice t.A t.zs.length t.c)).setCell (G,ps.length*2+1) (.slice t.B t.xs.length t.d)) A zs.length zs:=
  λs f=>(s.setCell (p:=⟨G,ps.length*2,none⟩) f (nP G) _).setCell (p:=⟨G,ps.length*2+1,none⟩) f (nP G) _
 refine⟨by rw[<-Kw ps l t];exact(h.ak.av _ _).av _ _,λu hu=>?_⟩;rcases cu.1 hu with hu|hu;obtain⟨x,y,f1,f2,r⟩:=h.el u hu;exact⟨aV x f1,aV y f2,f1,f2,r⟩;rw[de.1 hu];exact⟨aV a e,aV b j,e,j,ld,bd,lc⟩
theorem PB.ts(h:PB w G n ps)(l:ps=n):Ts w G n ps:=
 ⟨λj t m=>by
  obtain⟨a0,r⟩:=H7 m;have e:iv ps n=(tc ps).toArray:=by simp[iv,l]
  have b:=h.ak;rw[e]at b;obtain⟨s,x,_,_,le,bd,_⟩:=h.el t (aK m);exact⟨G,0,rfl,Af b (by rw[cQ];simpa using a0) (by rw[cQ];simpa using r) s.rd x.rd le bd⟩,l.symm⟩
def PB.cells(h:PB w G n ps)(e:ps<n):w.cell? (G,ps.length*2)=some (.slice none 0 0)/\w.cell? (G,ps.length*2+1)=some (.slice none 0 0):=by
 have key:∀j,ps.length*2<=j->j<n*2->(iv ps n)[j]?=some (.slice none 0 0):=by intro j b l;simp only[iv,List.getElem?_toArray];rw[eT (by rwa[dU]),kw,ah (by rw[dU];omega)]
 exact⟨(h.ak.cell _).trans (key _ Y Y),(h.ak.cell _).trans (key _ Y Y)⟩
end
structure rJ(nn P I qab:Nat)(us:List Tn)(xg:List Int)(ps:List Tn):Prop where
 el:∀(j:Nat) (p t:Tn),ps[j]?=some p->us[j]?=some t->p.zs=t.zs/\p.xs=cF (qab*I) (eA nn us j*I) (zN nn t*I) xg P
def rJ.push{P:Nat}{p:Tn}(h:rJ m P I j us O ps)(ht:us[ps.length]?=some t)(r:p.zs=t.zs)(u:p.xs=cF (j*I) (eA m us ps.length*I) (zN m t*I) O P):rJ m P I j us O (ps++[p]):=
 ⟨λz a b e hb=>by
  by_cases y:z<ps.length
  .rw[uE y]at e;exact h.el z a b e hb
  .have:=(bj.1 e).1;have l:z=ps.length:=by simp at this;omega
   subst l;rw[eT (al _)]at e;simp at e;subst e;rw[ht]at hb;cases hb;exact⟨r,u⟩⟩
def Tk{P F:Nat}{S z1:au}(h:JW m P I j S)(hr:aw S O=true)(hF:F+l<=j)(e:1<=l)(hs:S.set m (l:Int)=z1):
  gL S O m (F:Int) ((F:Int)+l)=0/\JJ S O m (F:Int) ((F:Int)+l)=z1/\Hs S O m (F:Int) ((F:Int)+l)=cF (j*I) (F*I) (l*I) O P:=by
 have b:gz S m (F:Int) ((F:Int)+l)=0:=by (have hg:S.getD m 0=(j:Int):=by rw[a5,h.at_];rfl);have:=h.lt;rw[gz,ah h.right,ah];rw[a9,hg];simp only[bU,b9];omega
 have ht:gL S O m (F:Int) ((F:Int)+l)=0:=by rw[gL,ah hr,b]
 refine⟨ht,?_,?_⟩;rw[JJ,ah ht,hH,ah b,a9,show(F:Int)+l-F=(l:Int)from Y,hs];rw[Hs,ah ht,a9,rv h.at_,h.behind,h.ahead,show(F:Int)+l-F=(l:Int)from Y,<-cH,<-cH,<-cH];rfl
def aeK(w:ab)(n b P I m:Nat)(j:List Tn)(l:au)(e:Ending)(w':ab):Prop:=
 ∃G ps,e=.returned (.tuple #[.slice (some ⟨G,0,none⟩) n n,an])/\Ts w' (some ⟨G,0,none⟩) n ps/\Z (rJ b P I m j l ps)/\w.1.size<=G/\Z (∀t∈ps,bL (G+1) t.A/\bL (G+1) t.B/\t.zs.length<=t.c)/\aj w' w
section
variable{w:World}{n p:Nat}{ts:List Int}
def xB[a:Ts w A n us][Le n c]{P:Nat}{S:au}[sG:Sl w B p S][Sl w C q xg][Le q R][iG:cm xg](hn:n<=1000000)(hz:Z (∀t∈us,t.zs.length<=1000000))(hE:Z (zd j us=0))(y:Z (JW j P I l S))(hS:Z (S=vD j us))(hr:aw S xg=true)
  (O:Z (∀t∈us,aw t.zs t.xs=true/\JW j P I (zN j t) t.zs/\S.set j (zN j t:Int)=t.zs)) (hF:Z (eA j us us.length=l)):
  () 111 #[j,.agg #[.slice B p d,(C,q,R)],(A,n,c)] w (aeK w n j P I l us xg):=by
 obtain⟨CB,CP⟩:=hY;have FP:=@jS;have hS':Z (S=if(0:Int)=0 then vD j us else[]):=U (by rwa[ah rfl]);have hp4:p<=4:=by rw[sG.len];exact((ba S).1 y.o.right).2.1
 have hS4:S.length<=4:=((ba S).1 y.o.right).2.1;have hZ6:l<=65536:=by have Q:=y.o.small;have h2:l*1<=l*I:=fS _ y.o.i1;have h3:1*(l*I)<=P*(l*I):=cV _ y.o.p1;omega
 have jF:=jA n hn;go_in;go_wp2_with (first|(go_at_call 177;refine(BL Y hz hE hS').mono ?_;rintro e u ⟨A',c',rfl,sA,lA,fA,_⟩)|(go_at_call 69;refine(bK Y).mono ?_;rintro e u ⟨rfl,_⟩)|(go_at_call 70;refine(kI Y Y).mono ?_;rintro e u ⟨rfl,_⟩));clear jF;obtain⟨v,rfl⟩:=lg u;have o5:=U hr;clear hr;go_loopw [11,39] (λf i wr=>∃ps:List Tn,ps<=n/\i=.int .i64 ps.length/\f=.int .i64 (eA j us ps.length)/\PB wr v.1.size n ps/\Z (rJ j P I l us xg ps)/\aj wr v) (λ_ i _=>n-(intOf i).toNat);exact⟨[],aR _,rfl,rfl,⟨aA.new _ _ _,λt ht=>by cases ht⟩,U ⟨λaa p t hp=>by simp at hp⟩,aC⟩;obtain⟨ps,hk,rfl,rfl,r,E,hp⟩:=hrel;by_cases L:ps<n
 .obtain⟨b,o,A1,c1,z1,B1,d1,x1,rfl,ob,q0,q1,s1,t1,Ev,i1,ht⟩:=a.get L;obtain⟨Tl,G,J⟩:=O.o _ (aK ht.o);have M:=yA (n:=j) ht.o;have T:=Fc (n:=j) us (ps.length+1);rw[hF.o,M]at T;generalize V:zN j ⟨A1,c1,z1,B1,d1,x1⟩=zt at*;generalize hFF:eA j us ps.length=F at*;simp only at G J;have Vt:=G.z1;have nD:=G.lt;obtain⟨HJ,N,K⟩:=Tk y o5 T Vt J;have HJ:=U HJ;have N:=U N;have K:=U K;obtain⟨b2,o2,z,rfl,iM,cz,jR⟩:=s1.get nD;(obtain rfl:z=(zt:Int):=by have Q:=jR.o;rw[G.at_]at Q;injection Q with Q;exact Q.symm);obtain⟨g0,g1⟩:=r.cells L;have f0:=r.ak.frozen (ps.length*2);have f1:=r.ak.frozen (ps.length*2+1);have oG:Old v.1.size wr:=⟨r.ak.lt⟩;have HFS:=U M;have HZT:=U V;have HFF:=U hFF;have HT:=U ht;clear G J M V hFF Tl;obtain⟨X,hX⟩:=lh (cF (l*I) (F*I) (zt*I) xg P);rw[hX]at K;have HX:=U hX;clear hX;go_wp2_with (go_at_call 178;refine(Qz Y HJ N K).mono ?_;rintro e u ⟨A',c',B',d',rfl,sA,sX,lA,lX,fA,fX,_⟩);have Tm:∀z∈X,bf z:=λz hz=>iG.bd z (oK (by rw[HX.o];exact hz));have Ho:=(r.at (w':=u)).push (t:=⟨A',c',z1,B',d',X⟩) L sA sX (fA.less (bN oG.lt ai)) (fX.less (bN oG.lt ai)) lX.le Tm lA.le;go_roundw;exact⟨ps++[⟨A',c',z1,B',d',X⟩],by simp;omega,aI,by simp only[bh,fD,ja,cQ,HFS.o];simp,Ho,U (E.o.push HT.o.o rfl (by rw[HFF.o,HZT.o,HX.o])),⟨((aO v u).setCell (p:=⟨v.1.size,ps.length*2,none⟩) (al _) _).setCell (p:=⟨v.1.size,ps.length*2+1,none⟩) (al _) _⟩⟩;simp[intOf];omega
 go_wp2_with fail;go_ret2;exact⟨v.1.size,ps,rfl,r.ts Y,E,ai,U λt ht=>⟨(r.el t ht).2.2.1,(r.el t ht).2.2.2.1,(r.el t ht).2.2.2.2.2.2⟩,aC⟩
end
variable{kind kk z:Int}
def j4(b k:Int)(ts:List Tn)(gs:au)(m:Nat):List Int:=(List.range m).map λi=>dJ b k ((ha ts).getD i 0) (sec ts i) (gs.getD i 0)
def pj(b:Int)(ts:List Tn)(gs:au)(m:Nat):List Int:=(List.range m).map λi=>gP b ((ha ts).getD i 0) (gs.getD i 0)
def gD(b k:Int)(ts:List Tn)(gs:au)(m:Nat):(j4 b k ts gs m).length=m:=by simp[j4]
def Ft(b k:Int)(ts:List Tn)(gs:au)(m:Nat):j4 b k ts gs (m+1)=j4 b k ts gs m++[dJ b k ((ha ts).getD m 0) (sec ts m) (gs.getD m 0)]:=by simp[j4,iK]
def n8(b:Int)(ts:List Tn)(gs:au)(m:Nat):(pj b ts gs m).length=m:=by simp[pj]
def To(b:Int)(ts:List Tn)(gs:au)(m:Nat):pj b ts gs (m+1)=pj b ts gs m++[gP b ((ha ts).getD m 0) (gs.getD m 0)]:=by simp[pj,iK]
def getD_some{l:au}{k:Nat}(h:l[k]?=some z):l.getD k 0=z:=by rw[a5,h];rfl
def B2(n:Nat)(l:n<=2)(W:ab):(Instr.makeSlice 23 (n:Int) (n:Int)).run prog W=.ok (W,n,n) (W.alloc (.cells (madeCells #[(),()] (n*2)) 28)):=by
 have b:(prog.info? 28).map (λi=>(i.zero,i.size,i.bytes))=some (some (.agg #[(),()]),2,48):=ap;obtain⟨i,hi,e⟩:=bJ.1 b;simp only[dS]at e;obtain⟨j,hs,hb⟩:=e;have:=nN (P:=prog) W 23 28 i _ underlying23 hi j .i64 .i64 n n Y (eb _) (by rw[hs];simp;omega) (by rw[hb];omega) Y;rw[hs]at this;simpa[Value.cells]using this
def adf:madeCells #[(),()] 2= #[.slice none 0 0,.slice none 0 0]:=ap
def adg:madeCells #[(),()] 4= #[.slice none 0 0,.slice none 0 0,.slice none 0 0,.slice none 0 0]:=ap
def adh(w:ab)(z X:au)(e:Ending)(w':ab):Prop:=
 ∃G g b,e=.returned (.tuple #[.slice (some ⟨G,0,none⟩) 1 1,an])/\w.1.size<=G/\w.1.size<=g/\w.1.size<=b/\Bx w' G 28 #[.slice (some ⟨g,0,none⟩) z z.length,.slice (some ⟨b,0,none⟩) X X.length]/\Own w' g 3 z/\Own w' b 65 X/\aj w' w
def adi(w:ab)(z X l u:au)(e:Ending)(w':ab):Prop:=
 ∃G m b r j,e=.returned (.tuple #[.slice (some ⟨G,0,none⟩) 2 2,an])/\w.1.size<=G/\w.1.size<=m/\w.1.size<=r/\w.1.size<=b/\w.1.size<=j/\b≠j/\
  Bx w' G 28 #[.slice (some ⟨m,0,none⟩) z z.length,.slice (some ⟨b,0,none⟩) X X.length,.slice (some ⟨r,0,none⟩) l l.length,.slice (some ⟨j,0,none⟩) u u.length]/\
  Own w' m 3 z/\Own w' b 65 X/\Own w' r 3 l/\Own w' j 65 u/\aj w' w
section
variable{w:World}{n p:Nat}{ts:List Tn}
def H8[a:Ts w A 1 ts][I6 kk][Sl w B p zg][J:Sl w C q xg][cm xg](hp:p<=1000000)(hz:Z (∀t∈ts,t.zs.length<=1000000))(hE:gQ kind ts=0)(hr:aw zg xg=true)(hs:zg=km ts){X:au}(hZ:Z (O=km ts))(hX:Z (X=j4 kind kk ts xg (ha ts).length)):
  () 114 #[kind,kk,.agg #[(B,p,d),(C,q,R)],(A,1,c)] w (adh w O X):=by
 have CB:=@az;have FB:=@aP;have CP:=@bX;obtain⟨-,-,-,D⟩:=sT hE;obtain⟨b,o,A0,c0,z0,B0,d0,x0,rfl,ob,q0,q1,s0,t0,oM,i0,E⟩:=a.get (k:=0) Y;simp only[fo,d9]at q0 q1;have F:=(D _ (aK E.o)).1;obtain⟨lx,lx1,lz⟩:=gO F;simp only at lx lx1 lz;have G:Z (ha ts=x0):=U (by simp[ha,E.o]);have L:Z (km ts=z0):=U (by simp[km,E.o]);have HS:Z (∀i,i<x0.length->∀t,ts[1]?=some t->i<t.xs.length):=λi hi t ht=>by rwa[BO hE (aK ht),G.o]
 have HI:=U λi=>vO a.rd i;rw[L.o]at hs;subst hs;have M:Z (xg.length=x0.length):=sN hr F;obtain⟨J,rfl⟩:=J;have J:Sl w C xg xg:=⟨J,rfl⟩;have hs:decide (zg=zg)=true:=ea rfl;have jF:∀W:World,(Instr.makeSlice 23 (1:Int) (1:Int)).run prog W=.ok (.slice (some ⟨W.1.size,0,none⟩) 1 1) (W.alloc (.cells #[(),()] 28)):=λW=>by have:=B2 1 Y W;rw[show 1*2=2 from rfl,adf]at this;exact this
 clear D F;go_in;go_wp2_with (go_at_call 180;refine(xt hz).mono ?_;rintro e u ⟨rfl,_⟩);refine aq ap (λj _=>?_);refine eE 0 ?_;refine aJ 1 λK hK=>?_;go_simp;refine(bK Y).mono ?_;rintro e j ⟨rfl,_⟩;dsimp only;refine aE hK ?_;refine qL [2,3,4,5,6,7,8,9] ?_;refine aJ 10 λK hK=>?_;go_simp;refine(ga Y Y).mono ?_;rintro e j ⟨rfl,_⟩;dsimp only;refine aE hK ?_;refine qL [11,12] ?_;refine a8 ?_;go_wp2_with fail;refine l6 2 ?_;rw[gI];go_wp2_with fail;refine pU (λv pv kG kE=>?_);refine(gX Y Y).mono ?_;rintro e w1 ⟨g,m,rfl,hg,y7,oS,oX,xo⟩;have N:Bx w1 j.1.size 28 #[(),()]:=am;have hvx:j.1.size<v.1.size:=kG.ak.lt;go_wp2_with fail;obtain⟨V,l⟩:=lg ((w1.setCell (j.1.size,0) (.slice g zg zg.length)).setCell (j.1.size,1) (.slice m x0 x0.length));have P:Bx V j.1.size 28 #[.slice g zg zg.length,.slice m x0 x0.length]:=⟨l▸N.ak.bP _ _⟩;have Q:Own V g 3 zg:=l▸oS.bH Y _ _;have S:Own V m 65 x0:=l▸oX.bH Y _ _;have p5:aj V j:=⟨l▸bA (aO j w1) (al _) _ _⟩;rw[<-l];clear l oS oX N;rw[gI];go_wp2_with fail;clear jF hr hs;have FP:=@jS;go_loopw [58] (λi wr=>∃k:Nat,k<=x0/\i=.int .i64 k/\Own wr m 65 (fd (j4 kind kk ts xg) x0 k)/\Own wr g 3 zg/\Bx wr j.1.size 28 #[.slice g zg zg.length,.slice m x0 x0.length]/\aj wr j) (λi _=>x0.length-(intOf i).toNat);exact⟨0,aR _,rfl,by simpa[fd,j4]using S,Q,P,p5⟩;clear Q S P p5;obtain⟨k,hk,rfl,hO,hS,hB,hp⟩:=hrel;by_cases r:k<x0
 .obtain⟨b2,o2,x,rfl,iM,cx,hx⟩:=t0.get r;obtain⟨b3,o3,y,rfl,SZ,cy,hy⟩:=J.get (k:=k) (by rwa[M.o]);(have hkg:k<xg:=by rwa[M.o]);have ix:I6 x:=cm.at hx.o;have iy:I6 y:=cm.at hy.o;have is:=HI.o k;have T:=mU (f:=j4 kind kk ts xg) (gD kind kk ts xg k) hx.o;have oD:=hO.cell T;have o6:=hO.frozen k;have og:Old m wr:=⟨hO.lt⟩;have WP:=U (kK (f:=j4 kind kk ts xg) (z:=dJ kind kk x (sec ts k) y) (gD kind kk ts xg k) (by rw[Ft,G.o,getD_some hx.o,getD_some hy.o]) hx.o);have HSk:=U (HS.o k r);have n1:j.1.size≠m:=Y;have n2:g≠m:=hS.aF (cs:=ints (fd (j4 kind kk ts xg) x0 k)) hO ao;have n3:j.1.size<=m:=Y;clear T;go_wp2_with fail;refine aq ap (λI _=>?_);refine qL [0,1,2,3,4,6,7,8,9,10] ?_;refine aJ 5 λK hK=>?_;go_simp;refine(uf Y HSk).mono ?_;rintro e I ⟨rfl,_⟩;dsimp only;refine aE hK<|aJ 11 λK hK=>?_;go_simp;refine(Fr).mono ?_;rintro e I ⟨rfl,_⟩;dsimp only;refine aE hK ?_;refine qL [12,13,14,15,16] ?_;refine a8 ?_;go_wp2_with fail;go_roundw;have o2:=(hO.at (w':=I)).av k (dJ kind kk x (sec ts k) y);rw[WP.o]at o2;exact⟨k+1,Y,by go_num,o2,(hS.at (w':=I)).aV n2 _,⟨(Bx.ak (w:=I)).aV n1 _⟩,⟨(aO j I).setCell (p:=⟨m,k,none⟩) n3 _⟩⟩;simp[intOf];omega
 rw[mo r]at hO;obtain rfl:k=x0:=Y;go_wp2_with fail;go_ret2;rw[hX.o,hZ.o,G.o,L.o];have Ej:=(aO w j).size;exact⟨j.1.size,g,m,rfl,Y,Y,Y,by rw[gD];exact hB,hS,hO,aC⟩
end
variable{g:Nat}{T:TypeId}
def aA.adj{w:ab}{a b c d:Value}(h:aA w g T #[a,b,c,d])(v0 e:Value):aA ((w.setCell (g,0) v0).setCell (g,1) e) g T #[v0,e,c,d]:=by simpa using(h.av 0 v0).av 1 e
def aA.adk{w:ab}{a b c d:Value}(h:aA w g T #[a,b,c,d])(v0 e:Value):aA ((w.setCell (g,2) v0).setCell (g,3) e) g T #[a,b,v0,e]:=by simpa using(h.av 2 v0).av 3 e
def Own.QO{w:ab}{p:Nat}(h:Own w g T zs)(hp:g≠p)(v0 b:Value):Own ((w.setCell (p,2) v0).setCell (p,3) b) g T zs:=(h.aV (p:=⟨p,2,none⟩) hp v0).aV (p:=⟨p,3,none⟩) hp b
def abn{w:ab}{n p:Nat}(h:Below n w w')(hp:n<=p)(v0 b:Value):Below n w ((w'.setCell (p,2) v0).setCell (p,3) b):=(h.setCell (p:=⟨p,2,none⟩) hp v0).setCell (p:=⟨p,3,none⟩) hp b
section
variable{w:World}{n p:Nat}{ts:List Tn}
def H9[a:Ts w A 2 ts][I6 kk][Sl w B p zg][xG:Sl w C q xg][cm xg](hp:p<=1000000)(hz:Z (∀t∈ts,t.zs.length<=1000000))(hE:gQ kind ts=0)(hr:aw zg xg=true)(hs:zg=km ts){X aa:au}(hZ:Z (O=km ts))(hX:Z (X=j4 kind kk ts xg (ha ts).length))(hY:Z (aa=pj kind ts xg (ha ts).length)):
  () 114 #[kind,kk,.agg #[(B,p,d),(C,q,R)],(A,2,c)] w (adi w O X O aa):=by
 have CB:=@az;have FB:=@aP;have CP:=@bX;obtain⟨-,-,-,F⟩:=sT hE;obtain⟨b,o,A0,c0,z0,B0,d0,x0,rfl,ob,q0,q1,s0,t0,oM,i0,Q⟩:=a.get (k:=0) Y;obtain⟨b',o',A1,c1,z1,B1,d1,x1,eA,-,q2,q3,s1,t1,Ev,i1,ht1⟩:=a.get (k:=1) Y;injection eA with eA;injection eA with eb eo;subst eb eo;simp only[fo,d9,l7]at q0 q1 q2 q3;have I:=(F _ (aK Q.o)).1;have S:=(F _ (aK ht1.o)).1;have J:=(F _ (aK ht1.o)).2;obtain⟨lx,lx1,lz⟩:=gO I;simp only at lx lx1 lz J I S;have M:Z (ha ts=x0):=U (by simp[ha,Q.o]);have uj:Z (km ts=z0):=U (by simp[km,Q.o]);have HS:Z (∀i,i<x0.length->∀t,ts[1]?=some t->i<t.xs.length):=λi hi t ht=>by rwa[BO hE (aK ht),M.o]
 have HI:=U λi=>vO a.rd i;rw[uj.o]at hs J;replace J:=hs.trans J.symm;subst hs;subst J;have WQ:Z (xg.length=x0.length):=sN hr I;have jY:x1.length=x0.length:=sN S I;have L:=U jY;have lx':x1.length<=65536:=Y;obtain⟨xG,rfl⟩:=xG;have xG:Sl w C xg xg:=⟨xG,rfl⟩;have hs:decide (zg=zg)=true:=ea rfl;have jF:∀W:World,(Instr.makeSlice 23 (2:Int) (2:Int)).run prog W=.ok (.slice (some ⟨W.1.size,0,none⟩) 2 2) (W.alloc (.cells #[(),(),(),()] 28)):=λW=>by have:=B2 2 Y W;rw[show 2*2=4 from rfl,adg]at this;exact this
 clear F I S jY;go_in;go_wp2_with (go_at_call 180;refine(xt hz).mono ?_;rintro e u ⟨rfl,_⟩);refine aq ap (λl _=>?_);refine eE 0 ?_;refine aJ 1 λK hK=>?_;go_simp;refine(bK Y).mono ?_;rintro e l ⟨rfl,_⟩;dsimp only;refine aE hK ?_;refine qL [2,3,4,5,6,7,8,9] ?_;refine aJ 10 λK hK=>?_;go_simp;refine(ga Y Y).mono ?_;rintro e l ⟨rfl,_⟩;dsimp only;refine aE hK ?_;refine qL [11,12] ?_;refine a8 ?_;go_wp2_with fail;refine l6 3 ?_;rw[gI];go_wp2_with fail;refine pU (λv pv kG kE=>?_);refine(gX Y Y).mono ?_;rintro e w1 ⟨g,m,rfl,hg,y7,oS,oX,xo⟩;have kG1:Bx w1 l.1.size 28 #[(),(),(),()]:=am;have hvx:l.1.size<v.1.size:=kG.ak.lt;go_wp2_with fail;obtain⟨w5,G⟩:=lg ((w1.setCell (l.1.size,0) (.slice g zg zg.length)).setCell (l.1.size,1) (.slice m x0 x0.length));have kG5:Bx w5 l.1.size 28 #[.slice g zg zg.length,.slice m x0 x0.length,(),()]:=⟨G▸kG1.ak.adj _ _⟩;have T:Own w5 g 3 zg:=G▸oS.bH Y _ _;have V:Own w5 m 65 x0:=G▸oX.bH Y _ _;have p5:aj w5 l:=⟨G▸bA (aO l w1) (al _) _ _⟩;rw[<-G];clear G oS oX kG1;rw[gI];go_wp2_with fail;refine er (λv2 Tp kE2=>?_);refine(gX Y Y).mono ?_;rintro e w6 ⟨N,j,rfl,tm,aeL,vL,BK,pw6⟩;have Xt:Bx w6 l.1.size 28 #[.slice g zg zg.length,.slice m x0 x0.length,(),()]:=am;have ro:w5.1.size<=v2.1.size:=ai;have hl5:=T.lt;have aeM:=V.lt;have hG5:=kG5.ak.lt;have oS6:=T.at (w':=w6);have oX6:=V.at (w':=w6);go_wp2_with fail;obtain⟨w7,r⟩:=lg ((w6.setCell (l.1.size,2) (.slice N zg zg.length)).setCell (l.1.size,3) (.slice j x1 x1.length));have kG7:Bx w7 l.1.size 28 #[.slice g zg zg.length,.slice m x0 x0.length,.slice N zg zg.length,.slice j x1 x1.length]:=⟨r▸Xt.ak.adk _ _⟩;have oS7:Own w7 g 3 zg:=r▸oS6.QO Y _ _;have oX7:Own w7 m 65 x0:=r▸oX6.QO Y _ _;have oT7:Own w7 N 3 zg:=r▸vL.QO Y _ _;have oY7:Own w7 j 65 x1:=r▸BK.QO Y _ _;have p7:aj w7 l:=⟨r▸abn (aO l w6) (al _) _ _⟩;have m1:l.1.size≠m:=Y;have m2:l.1.size≠j:=Y;have m3:m≠j:=Y;have m4:l.1.size<=m:=Y;have m5:l.1.size<=j:=Y;rw[<-r];have k1:l.1.size<=g:=Y;have k2:l.1.size<=N:=Y;clear r oS6 oX6 vL BK T V Xt kG5 pw6 Tp kE2 xo pv kG kE ro hl5 aeM hG5 hg y7 tm aeL p5;rw[gI];go_wp2_with fail;clear jF hr hs;have FP:=@jS;go_loopw [58] (λi wr=>∃k:Nat,k<=x0/\i=.int .i64 k/\Own wr m 65 (fd (j4 kind kk ts xg) x0 k)/\Own wr j 65 (fd (pj kind ts xg) x1 k)/\Own wr g 3 zg/\Own wr N 3 zg/\Bx wr l.1.size 28 #[.slice g zg zg.length,.slice m x0 x0.length,.slice N zg zg.length,.slice j x1 x1.length]/\aj wr l) (λi _=>x0.length-(intOf i).toNat);exact⟨0,aR _,rfl,by simpa[fd,j4]using oX7,by simpa[fd,pj]using oY7,oS7,oT7,kG7,p7⟩;clear oX7 oY7 oS7 oT7 kG7 p7;obtain⟨k,hk,rfl,hO,D,hS,hT,hB,hp⟩:=hrel;by_cases E:k<x0
 .obtain⟨b2,o2,x,rfl,iM,cx,hx⟩:=t0.get E;obtain⟨b3,o3,y,rfl,SZ,cy,hy⟩:=xG.get (k:=k) (by rwa[WQ.o]);obtain⟨y1,EA⟩:∃y1,x1[k]?=some y1:=⟨_,bk (by rwa[L.o])⟩;(have hkg:k<xg:=by rwa[WQ.o]);(have Xu:k<x1:=by rwa[L.o]);have ix:I6 x:=cm.at hx.o;have iy:I6 y:=cm.at hy.o;have is:=HI.o k;have oD:=hO.cell (mU (f:=j4 kind kk ts xg) (gD kind kk ts xg k) hx.o);have o6:=hO.frozen k;have hcy:=D.cell (mU (f:=pj kind ts xg) (n8 kind ts xg k) EA);have hfy:=D.frozen k;have og:Old m wr:=⟨hO.lt⟩;have og2:Old j wr:=⟨D.lt⟩;have WP:=U (kK (f:=j4 kind kk ts xg) (z:=dJ kind kk x (sec ts k) y) (gD kind kk ts xg k) (by rw[Ft,M.o,getD_some hx.o,getD_some hy.o]) hx.o);have HYS:=U (kK (f:=pj kind ts xg) (z:=gP kind x y) (n8 kind ts xg k) (by rw[To,M.o,getD_some hx.o,getD_some hy.o]) EA);have HSk:=U (HS.o k E);have n1:g≠m:=hS.aF (cs:=ints (fd (j4 kind kk ts xg) x0 k)) hO ao;have n2:g≠j:=hS.aF (cs:=ints (fd (pj kind ts xg) x1 k)) D ao;have n3:N≠m:=hT.aF (cs:=ints (fd (j4 kind kk ts xg) x0 k)) hO ao;have n4:N≠j:=hT.aF (cs:=ints (fd (pj kind ts xg) x1 k)) D ao;have m1':m≠l.1.size:=λe=>m1 e.symm;have m3':j≠m:=λe=>m3 e.symm;clear EA;go_wp2_with fail;refine aq ap (λP _=>?_);refine qL [0,1,2,3,4,6,7,8,9,10] ?_;refine aJ 5 λK hK=>?_;go_simp;refine(uf Y HSk).mono ?_;rintro e P ⟨rfl,_⟩;dsimp only;refine aE hK<|aJ 11 λK hK=>?_;go_simp;refine(Fr).mono ?_;rintro e P ⟨rfl,_⟩;dsimp only;refine aE hK ?_;refine qL [12,13,14,15,16] ?_;refine a8 ?_;go_wp2_with fail;go_roundw;have a1:=(hO.at (w':=P)).av k (dJ kind kk x (sec ts k) y);have a2:=(D.at (w':=P)).aV (p:=⟨m,k,none⟩) m3' (dJ kind kk x (sec ts k) y:Int);have a3:=a2.av k (gP kind x y);have a4:=a1.aV (p:=⟨j,k,none⟩) m3 (gP kind x y:Int);rw[WP.o]at a4;rw[HYS.o]at a3;exact⟨k+1,Y,by go_num,a4,a3,((hS.at (w':=P)).aV (p:=⟨m,k,none⟩) n1 _).aV (p:=⟨j,k,none⟩) n2 _,((hT.at (w':=P)).aV (p:=⟨m,k,none⟩) n3 _).aV (p:=⟨j,k,none⟩) n4 _,⟨((Bx.ak (w:=P)).aV (p:=⟨m,k,none⟩) m1 _).aV (p:=⟨j,k,none⟩) m2 _⟩,⟨((aO l P).setCell (p:=⟨m,k,none⟩) m4 _).setCell (p:=⟨j,k,none⟩) m5 _⟩⟩;simp[intOf];omega
 rw[mo E]at hO;rw[mo (by rwa[L.o])]at D;obtain rfl:k=x0:=Y;go_wp2_with fail;go_ret2;rw[hX.o,hY.o,hZ.o,M.o,uj.o];have Ej:=(aO w l).size;exact⟨l.1.size,g,m,N,j,rfl,Y,Y,Y,Y,Y,m3,by rw[gD,n8,<-L.o];rw[L.o]at hB⊢;exact hB,hS,hO,hT,D,aC⟩
end
section
variable{X u:World}{b b':Nat}{Mx T' T1 T2 T3:TypeId}{act:Act}{gp gx:List TV}{AM Tq cs2 kx:Array Value}{v:Value}
def eQ(w:ab)(b:Nat)(A:bz)(n c:Nat)(L:List TV):Prop:=
 ∃ts,Ts w A n ts/\n<=c/\bL b A/\(∀t∈ts,bL b t.A/\bL b t.B/\t.zs.length<=t.c)/\ts.map Tn.tv=L
def xC(w:ab)(gp b:List TV)(e:Ending)(w':ab):Prop:=
 ∃A n c B m d,e=.returned (.tuple #[.agg #[.slice A n c,.slice B m d],an])/\eQ w' w.1.size A n c gp/\eQ w' w.1.size B m d b/\aj w' w
section
variable{w:World}{n:Nat}{ts:List Int}{L:List TV}
def eQ.nil:eQ w b none 0 0 []:=⟨[],Ts.empty,al _,bL.none,λ_ h=>absurd h aI,rfl⟩
def eQ.at(h:eQ w b A n c L)[l:aM w w']:eQ w' b A n c L:=by
 obtain⟨ts,e,j⟩:=h;exact⟨ts,⟨e.rd.below l.st,e.len⟩,j⟩
def eQ.less(h:eQ w b A n c L)(hb:b'<=b):eQ w b' A n c L:=by
 obtain⟨ts,j,l,r,e,u⟩:=h;exact⟨ts,j,l,r.less hb,λt ht=>⟨(e t ht).1.less hb,(e t ht).2.1.less hb,(e t ht).2.2⟩,u⟩
def nu.aV{p:Addr}(h:nu w A us)(fA:bL b A)(ft:∀t∈us,bL b t.A/\bL b t.B/\t.zs.length<=t.c)(hp:p.block<b)(v:Value):nu (w.setCell p v) A us:=λj t E=>by
 obtain⟨g,o,rfl,k⟩:=h j t E;have ne:g≠p.block:=by have:=fA.o _ rfl;dsimp only at this;omega
 have F:∀i,(w.setCell p v).cell? ⟨g,i,none⟩=w.cell? ⟨g,i,none⟩:=λi=>d4 (bb w p v g ne);have ht:=ft t (aK E);have e:∀{A:bz} {zs:au},Rd w A zs->bL b A->Rd (w.setCell p v) A zs:=λ{A zs} hr I j z J=>by obtain⟨l,K,rfl,r,u⟩:=hr j z J;(have y:l≠p.block:=by have:=I.o _ rfl;dsimp only at this;omega);exact⟨l,K,rfl,by simpa using r,(d4 (bb w p v l y)).trans u⟩
 exact⟨g,o,rfl,⟨by simpa using k.old,(F _).trans k.c0,(F _).trans k.c1,e k.s ht.1,e k.x ht.2.1,k.le,k.bd⟩⟩
def eQ.aV{p:Addr}(h:eQ w b A n c L)(hp:p.block<b)(v:Value):eQ (w.setCell p v) b A n c L:=by
 obtain⟨ts,e,r,j,l,u⟩:=h;exact⟨ts,⟨e.rd.aV j l hp v,e.len⟩,r,j,l,u⟩
def eQ.bH(h:eQ w b A n c L)(hp:G<b)(v0 e:Value):eQ ((w.setCell (G,0) v0).setCell (G,1) e) b A n c L:=
 (h.aV (p:=⟨G,0,none⟩) hp v0).aV (p:=⟨G,1,none⟩) hp e
def eQ.one[Bx w G T #[(A,n,c),(B,m,d)]][s:Sl w A n zs][Sl w B m xs][e:Le n c][Le m d][cm xs](j:b<=G)(fA:bL b A)(fB:bL b B):eQ w b G 1 1 [(zs,xs)]:=
 ⟨_,Ts.AJ,al _,fv j,λt ht=>by rw[de.1 ht];exact⟨fA,fB,by rw[<-s.len];exact e.le⟩,rfl⟩
def eQ.two[Bx w G T #[(A,n,c),(B,m,d),(C,R,c'),(D,m',d')]][s:Sl w A n zs][Sl w B m xs][j:Le n c][Le m d][cm xs][l:Sl w C R ts][Sl w D m' ys][e:Le R c'][Le m' d'][cm ys](r:b<=G)(fA:bL b A)(fB:bL b B)(u:bL b C)(y:bL b D):
  eQ w b G 2 2 [(zs,xs),(ts,ys)]:=
 ⟨_,Ts.Qg,al _,fv r,λt ht=>by
  simp only[dE,tO,sy]at ht;rcases ht with rfl|rfl
  .exact⟨fA,fB,by rw[<-s.len];exact j.le⟩
  .exact⟨u,y,by rw[<-l.len];exact e.le⟩,rfl⟩
def ie{F:Func}(k:Bx X G T #[(A,n,c),(B,m,d)])[aM w u](l:w.1.size<=G)(j:X=(u.setCell (G,0) (A,n,c)).setCell (G,1) (B,m,d))(hd:act.defers=[])
  (e:∀W:World,W.cell? (G,0)=some (.slice A n c)->W.cell? (G,1)=some (.slice B m d)->(results F act.tmps).run prog W=.ok (.tuple #[.agg #[(A,n,c),(B,m,d)],an]) W)
  (r:eQ u b A n c gp) (y:eQ u b B m d gx) (hb:G<b):bodyPost prog F (xC w gp gx) .ret act X:=by
 obtain⟨r0,r1⟩:=bM k.ak;refine aZ (e _ r0 r1) hd ⟨A,n,c,B,m,d,rfl,?_,?_,?_⟩;rw[j];exact(r.bH hb _ _).less Y;rw[j];exact(y.bH hb _ _).less Y;rw[j];exact⟨bA (aO w u) l _ _⟩
def adl(w:ab)(b:Nat)(L:List TV)(e:Ending)(w':ab):Prop:=
 ∃G,e=.returned (.tuple #[.agg #[(),.slice (some ⟨G,0,none⟩) 1 1],an])/\eQ w' b (some ⟨G,0,none⟩) 1 1 L/\aj w' w
def uk{Q:World->Prop}{T:TypeId}{cs:dw}(h:∀u,aj u X->Bx u X.1.size T cs->Bx u (X.1.size+1) T' kx->Bx u (X.1.size+1+1) Mx AM->u.1.size=X.1.size+1+1+1->Q u):Q (((X.alloc (.cells cs T)).alloc (.cells kx T')).alloc (.cells AM Mx)):=
 h _ (aC) am am am aI
def Fu{Q:World->Prop}{T:TypeId}{cs:dw}(h:∀u,aj u X->Bx u X.1.size T cs->Q u):Q (X.alloc (.cells cs T)):=h _ (aC) am
def Ob{Q:World->Prop}{T:TypeId}{cs j:dw}(h:∀e u,aj e X->aj u e->Bx e X.1.size T cs->Bx e (X.1.size+1) T1 Tq->Bx e (X.1.size+1+1) T2 cs2->e.1.size<=X.1.size+1+1+1->Bx u (X.1.size+1+1+1) T3 j->Q u):Q ((((X.alloc (.cells cs T)).alloc (.cells Tq T1)).alloc (.cells cs2 T2)).alloc (.cells j T3)):=
 h (((X.alloc (.cells cs T)).alloc (.cells Tq T1)).alloc (.cells cs2 T2)) _ (aC) (aC) am am am aI am
def Oc{Q:World->Prop}{T:TypeId}{cs:dw}(h:∀e u,aj e X->aj u e->Bx e X.1.size T cs->Bx e (X.1.size+1) T1 Tq->e.1.size<=X.1.size+1+1->Bx u (X.1.size+1+1) T2 cs2->Q u):Q (((X.alloc (.cells cs T)).alloc (.cells Tq T1)).alloc (.cells cs2 T2)):=
 h ((X.alloc (.cells cs T)).alloc (.cells Tq T1)) _ (aC) (aC) am am aI am
def pm[Sl w A n zs][Sl w B m xs](l:n<=1000000)(hm:m<=1000000):() 71 #[.agg #[(A,n,c),(B,m,d)]] w λe w'=>∃g j,e=.returned (.agg #[.slice (some ⟨g,0,none⟩) zs zs.length,.slice (some ⟨j,0,none⟩) xs xs.length])/\Sl w' (some ⟨g,0,none⟩) zs zs/\Sl w' (some ⟨j,0,none⟩) xs xs/\bL w.1.size (some ⟨g,0,none⟩)/\bL w.1.size (some ⟨j,0,none⟩)/\aj w' w:=
 (gX l hm).mono λ_ _ ⟨g,j,h,r,u,o1,y,p⟩=>⟨g,j,h,⟨o1.rd,rfl⟩,⟨y.rd,rfl⟩,fv r,fv u,p⟩
def Tr[Sl w A n zs][Sl w B m xs][Sl w C R ts][Sl w D m' ys][cm xs][cm ys](l:n<=1000000)(j:R<=1000000)(h:Z (cP ts ys zs xs=true)):
  () 159 #[.agg #[.slice A n c,.slice B m d],.agg #[(C,R,c'),(D,m',d')]] w λe w'=>∃L A c B d,e=.returned (.tuple #[.agg #[.slice A ts c,.slice B L d],an])/\Sl w' A ts ts/\aj w' w:=
 (Kt l j h rfl).mono λ_ _ ⟨A,c,B,d,e,r,_,_,_,_,_,p⟩=>⟨_,A,c,B,d,e,r,p⟩
def qh[Sl w A n zs][Sl w B m xs][Le n c][Le m d][cm xs](hb:b<=w.1.size)(fA:bL b A)(fB:bL b B):
  () 108 #[.agg #[(A,n,c),(B,m,d)],an] w (adl w b [(zs,xs)]):=by
 have e:=@az;have j:=@aP;go_in;go_wp2_with fail;refine uk (λu _ _ k1 k2 _=>?_);obtain⟨r0,r1⟩:=bM k1.ak;exact aZ (v:=.tuple #[.agg #[(),(w.1.size+1+1,1,1)],an]) (by simp[results,results108,go_sem,r0,r1]) rfl ⟨_,rfl,eQ.one Y fA fB,aC⟩
def rK{p k:Nat}{V:bz}(hv:v=.slice V p k):() 110 #[v,an] w (aL w (.tuple #[.agg #[(),v],an])):=by
 subst hv;have e:=@az;have j:=@aP;go_in;go_wp2_with fail;refine Fu (λu _ k1=>?_);obtain⟨r0,r1⟩:=bM k1.ak;exact aZ (v:=.tuple #[.agg #[(),(V,p,k)],an]) (by simp[results,results110,go_sem,r0,r1]) rfl ⟨rfl,aC⟩
def Ia[Sl w A n zs][b:Sl w B m xs][Sl w C R zs][Sl w D m' ts][cm xs][cm ts]{E F:bz}{p:Nat}[sg:Sl w E p zs][Sl w F q ys][cm ys](hn:n<=4)(HU:R<=4)(hp:p<=4)(hq:q<=65536)
  (h1:Z (aw zs xs=true)) (h2:Z (aw zs ts=true)) (h3:aw zs ys=true):
  () 106 #[.agg #[(A,n,c),(B,m,d)],.agg #[(C,R,c'),(D,m',d')],.agg #[(E,p,j),(F,q,l)]] w (xC w [(zs,ys)] [(zs,ys)]):=by
 have CB:=@az;have FB:=@aP;have HA:Z (cP zs ts zs xs=true):=U (by rw[cP,h1.o,h2.o];simp);have hd:decide (zs=zs)=true:=ea rfl;have WN:zs.length<=4:=by rwa[<-sg.len]
 go_in;go_upto_region 1 with fail;refine Ob (λM u _ _ k0 k1 k2 hz k3=>?_);go_upto_region 6 with(first|(go_at_call 159;refine(Tr Y Y HA).mono ?_;rintro e u ⟨L9,A',c',B',d',rfl,sA,_⟩)|(first|(go_at_call 69;refine(bK Y).mono ?_;rintro e u ⟨rfl,_⟩)|(go_at_call 70;refine(ga Y Y).mono ?_;rintro e u ⟨rfl,_⟩)));obtain⟨r,rfl⟩:=lg u;have Xv:w.1.size+1+1+1<(World.heap r).size:=(Bx.ak (w:=r) (g:=w.1.size+1+1+1)).lt;refine ax M ap (λz _=>?_)
 repeat' (first
  |(refine kj 0 ?_
    refine eE 0 ?_;refine jQ 3 35 ?_)
  |(refine kj 6 ?_
    refine jQ 6 38 ?_)
  |(refine kj 8 ?_
    refine jQ 8 7 ?_)
  |(intro (tg:Tg 1) K hK
    clear tg;go_simp
    refine(pm Y Y).mono ?_
    rintro e z ⟨g1,g1',rfl,oS1,oX1,f1,P,_⟩;dsimp only;refine aE hK ?_;clear hK K)
  |(intro (tg:Tg 2) K hK
    clear tg;go_simp;obtain⟨Q,I⟩:=lh ((World.heap z).size);have S:(World.heap r).size<=Q:=by rw[<-I];exact ai
    refine aE hK ?_;refine bc (λz _ V=>?_);rw[I]at V⊢;clear I)
  |(intro (tg:Tg 4) K hK
    clear tg;go_simp
    refine(pm Y Y).mono ?_
    rintro e z ⟨g2,g2',rfl,vL,BK,f2,X,_⟩;dsimp only;refine aE hK ?_;clear hK K)
  |(intro (tg:Tg 5) K hK
    clear tg;go_simp;obtain⟨g4,J⟩:=lh ((World.heap z).size);have lg4:(World.heap r).size<=g4:=by rw[<-J];exact ai
    refine aE hK ?_;refine bc (λz _ bg4=>?_);rw[J]at bg4⊢;clear J)
  |(intro (tg:Tg 7) K hK
    clear tg;go_simp;obtain⟨O,y⟩:=lg ((z.setCell (w.1.size+1+1+1,0) (Q,1,1)).setCell (w.1.size+1+1+1,1) (g4,1,1));rw[<-y];have N:Below (World.heap M).size M O:=by rw[y];exact bA (aO M z) hz _ _
    have zo:∀b,b<z.1.size->b≠w.1.size+1+1+1->(World.heap O)[b]?=z.heap[b]?:=λb _ hb=>by rw[y];exact(bb _ ⟨w.1.size+1+1+1,1,none⟩ _ b hb).trans (bb _ ⟨w.1.size+1+1+1,0,none⟩ _ b hb)
    have ho:Bx O (w.1.size+1+1+1) _ #[(Q,1,1),(g4,1,1)]:=⟨by rw[y];exact aA.bP (Bx.ak (w:=z) (g:=w.1.size+1+1+1)) _ _⟩;have nE:aj O M:=⟨N⟩;obtain⟨v8,rfl⟩:=lg z;have B4:=y;refine aE hK ?_ ⟨N⟩;clear hK K y)
  |refine ff 1 ?_
  |refine ff 2 ?_
  |refine ff 7 ?_
  |refine ff 5 ?_
  |refine ff 4 ?_
  |refine my 2 4 ?_ ?_
  |refine my 2 5 ?_ ?_
  |refine DW ?_)
 all_goals go_wp2_with fail;exact ie (b:=r.1.size) ho Y B4 rfl (λW r0 r1=>by simp[results,results106,go_sem,r0,r1]) (eQ.one S (f1.less ai) (P.less ai)) (eQ.one lg4 (f2.less ai) (X.less ai)) Y
end
end
section
variable{u:World}{b b' c2 cx d2 e e' f' gc gd i n2 r:Nat}{gs:List Int}{T1 T2:TypeId}{S sd st tt y:Int}{act:Act}{GP GX gp gx:List TV}{x0 x1:Value}
noncomputable def Xw(p x:TV)(V:au)(S:Int)(g:au):List Int:=by
 classical exact if h:∃f,nY f p.1 x.1 V S then eI g x.2 p.2.length h.choose.all else[]
noncomputable def Xx(p x:TV)(V:au)(S:Int)(g:au):List Int:=by
 classical exact if h:∃f,nY f p.1 x.1 V S then eJ g p.2 x.2.length h.choose.all else[]
def Tt(b:Int)(x:TV)(V:au)(W S:Int)(g:au):List Int:=tab x.2.length (j3 b x.2 g (dP x.1).toNat (dP V).toNat S.toNat W.toNat (aB V).toNat)
def jnB(xs:List TV)(V:au)(b:Int)(g:au):List TV:=
 let e:=b.toNat
 let P:=(aB (V.take e)).toNat
 let I:=(aB (V.drop (e+1))).toNat
 let l:=(V.getD e 0).toNat
 (List.range xs.length).map λj=>((xs.getD j ([],[])).1,cF (l*I) (eA e (xs.map g1) j*I) (zN e (g1 (xs.getD j ([],[])))*I) g P)
def ctB(x:TV)(b F T:Int)(g:au):List Int:=
 ph (aB (x.1.take b.toNat)).toNat (aB (x.1.drop (b.toNat+1))).toNat F.toNat T.toNat (x.1.getD b.toNat 0).toNat g (aB (x.1.take b.toNat)).toNat
noncomputable def qZ(o:ir)(ps xs:List TV)(V g:au):List TV:=
 if o.kd=8 then[((ps.getD 0 ([],[])).1,e8 g (xs.getD 0 ([],[])).2),((ps.getD 1 ([],[])).1,g)]
 else if o.kd=9 then[(V,g)]
 else if o.kd=10 then[((ps.getD 0 ([],[])).1,Xw (ps.getD 0 ([],[])) (xs.getD 0 ([],[])) V o.st g)]
 else[]
noncomputable def j5(o:ir)(ps xs:List TV)(V g:au):List TV:=
 if o.kd=8 then[((xs.getD 0 ([],[])).1,lO (xs.getD 0 ([],[])).2.length (ps.getD 0 ([],[])).2 g)]
 else if o.kd=9 then[(V,g)]
 else if o.kd=10 then[((xs.getD 0 ([],[])).1,Xx (ps.getD 0 ([],[])) (xs.getD 0 ([],[])) V o.st g)]
 else if o.kd=11 then[((xs.getD 0 ([],[])).1,Tt 1 (xs.getD 0 ([],[])) V o.wd o.st g)]
 else if o.kd=12 then[((xs.getD 0 ([],[])).1,Tt 2 (xs.getD 0 ([],[])) V o.wd o.st g)]
 else if o.kd=13 then jnB xs V o.sd g
 else if o.kd=14 then[((xs.getD 0 ([],[])).1,ctB (xs.getD 0 ([],[])) o.sd o.fr o.tt g)]
 else if o.kd=15 then[((xs.getD 0 ([],[])).1,g)]
 else if o.kd<=5 then[((xs.getD 0 ([],[])).1,j4 o.kd o.k (xs.map g1) g (xs.getD 0 ([],[])).2.length)]
 else[((xs.getD 0 ([],[])).1,j4 o.kd o.k (xs.map g1) g (xs.getD 0 ([],[])).2.length),((xs.getD 0 ([],[])).1,pj o.kd (xs.map g1) g (xs.getD 0 ([],[])).2.length)]
structure TF(w:World)(b:Nat)(A:Option Addr)(c:Nat)(B:Option Addr)(d:Nat)(zs xs:List Int):Prop where
 s:Sl w A zs zs
 x:Sl w B xs xs
 lc:Le zs.length c
 ld:Le xs.length d
 fA:bL b A
 fB:bL b B
section
variable{w:World}{E F:Option Addr}{n m2 p:Nat}{ts us vs V:List Int}{u5:List Tn}
def TF.below(h:TF w b A c B d zs xs)(hb:Below w.1.size w w')(l:b'<=b):TF w' b' A c B d zs xs:=⟨⟨h.s.rd.below hb,rfl⟩,⟨h.x.rd.below hb,rfl⟩,h.lc,h.ld,h.fA.less l,h.fB.less l⟩
def TF.aV(h:TF w b A c B d zs xs)(e:G<b)(v:Value):TF (w.setCell (G,i) v) b A c B d zs xs:=⟨h.s.setCell (p:=⟨G,i,none⟩) h.fA e v,h.x.setCell (p:=⟨G,i,none⟩) h.fB e v,h.lc,h.ld,h.fA,h.fB⟩
def TF.less(h:TF w b A c B d zs xs)(l:b'<=b):TF w b' A c B d zs xs:=⟨h.s,h.x,h.lc,h.ld,h.fA.less l,h.fB.less l⟩
def TF.one[Bx w G T #[.slice A zs c,.slice B xs d]](t:TF w b' A c B d zs xs)(i6:∀z∈xs,bf z)(e:b<=G)(l:b<=b'):eQ w b G 1 1 [(zs,xs)]:=by
 have:=t.s;have:=t.x;have:=t.lc;have:=t.ld;have:cm xs:=⟨i6⟩;exact eQ.one e (t.fA.less l) (t.fB.less l)
def adm(w:ab)(z1 x1 j x2 z3 l:au)(e:Ending)(w':ab):Prop:=
 ∃r c1 u d1 y c2 z d2 I c3 J K,e=.returned (.tuple #[.agg #[.slice r z1 c1,.slice u x1 d1,.slice y j c2,.slice z x2 d2,.slice I z3 c3,.slice J l K],an])/\
  TF w' w.1.size r c1 u d1 z1 x1/\TF w' w.1.size y c2 z d2 j x2/\TF w' w.1.size I c3 J K z3 l/\aj w' w
def aD.tf(e:aD w b T1 A c zs)(j:aD w b T2 B d xs):TF w b A c B d zs xs:=⟨⟨e.rd,rfl⟩,⟨j.rd,rfl⟩,⟨e.hD⟩,⟨j.hD⟩,⟨e.fresh⟩,⟨j.fresh⟩⟩
def Kx[a:Sl w A n zs][j:Sl w B m xs][l:Sl w C R ts][I:Sl w D m' ys][r:Sl w E n2 us][u:Sl w F m2 vs]{P Q:bz}[a3:Sl w P p ts][y:Sl w Q q gs][ld:Le m d][J:cm xs][K:cm vs][L:cm gs](z:n2<=1000000){X:au}(hr:Z (BF zs xs ts ys us vs ts gs=true))(M:Z (X=e8 gs vs))(N:Z (O=lO vs.length xs gs)):
  () 105 #[.agg #[(A,n,c),(B,m,d)],.agg #[(C,R,c'),(D,m',d')],.agg #[(E,n2,c2),(F,m2,d2)],.agg #[(P,p,e'),(Q,q,f')]] w (adm w zs X ts gs us O):=by
 obtain⟨a,rfl⟩:=a;obtain⟨j,rfl⟩:=j;obtain⟨l,rfl⟩:=l;obtain⟨I,rfl⟩:=I;obtain⟨r,rfl⟩:=r;obtain⟨u,rfl⟩:=u;obtain⟨a3,rfl⟩:=a3;obtain⟨y,rfl⟩:=y;rw[M.o,N.o];exact(Ka A B C D E F P Q c d c' d' c2 d2 e' f' zs xs ts ys us vs ts gs w ld.le z a j l r u a3 y (U J.bd) (U K.bd) (U L.bd) hr).mono λ_ _ ⟨S,c1,B1,d1,A2,c2,B2,d2,A3,c3,B3,d3,e,o1,o2,o3,o4,o5,o6,hb⟩=>⟨S,c1,B1,d1,A2,c2,B2,d2,A3,c3,B3,d3,e,o1.tf o2,o3.tf o4,o5.tf o6,⟨hb⟩⟩
def adn(w:ab)(z1 x1 j x2:au)(e:Ending)(w':ab):Prop:=
 ∃l c1 r d1 u c2 y d2,e=.returned (.tuple #[.agg #[.slice l z1 c1,.slice r x1 d1,.slice u j c2,.slice y x2 d2],an])/\TF w' w.1.size l c1 r d1 z1 x1/\TF w' w.1.size u c2 y d2 j x2/\aj w' w
def Ky[Sl w A n zs][Sl w B m xs][Sl w C R us][Sl w D m' vs][Sl w E p V][Sl w F q gs][cm xs][cm vs][cm gs][Le n c][Le R cx](l:n<=1000000)(j:R<=1000000)(hp:p<=1000000){X:au}{f:CF}
  (r:aw zs xs=true) (u:aw us vs=true) (hE:Z (oO zs us S=0)) (hV:Z (qY zs us S=V)) (y:aw V gs=true) (z:Z (nY f zs us V S)) (I:Z (X=eI gs vs xs.length f.all)) (J:Z (O=eJ gs xs vs.length f.all)):
  () 107 #[.agg #[(A,n,c),(B,m,d)],.agg #[(C,R,cx),(D,m',d')],.agg #[(E,p,e'),(F,q,f')],S] w (adn w zs X us O):=
 (H5 l j hp r u hE hV y z I J).mono λ_ _ ⟨K,c1,L,d1,M,c2,N,d2,e,P,s2,Q,s4,f1,f2,f3,f4,l1,l2,l3,l4,p⟩=>⟨K,c1,L,d1,M,c2,N,d2,e,⟨P,s2,l1,l2,f1,f2⟩,⟨Q,s4,l3,l4,f3,f4⟩,p⟩
def Fv{wd:Int}{X:au}{W S:Nat}[Sl w A n zs][Sl w B m xs][Sl w C R V][Sl w D m' ys][cm ys][Le m d](e:Z (wd=(W:Int)/\st=(S:Int)))(I:n<=1000000)(u:R<=1000000)(hr:aw zs xs=true)(J:z=1\/z=2)(K:Z (PW zs V j l r W S))(y:aw V ys=true)(L:Z (X=tab (j*l) (j3 z xs ys l r S W (j*r)))):
  () 109 #[z,.agg #[(A,n,c),(B,m,d)],.agg #[(C,R,c'),(D,m',d')],wd,st] w (dM w zs X 0):=by
 rw[e.o.1,e.o.2];exact HP I u hr J K y L
def Ib{fr:Int}{X:au}{P T:Nat}[Sl w A n zs][Sl w B m xs][Sl w C R V][Sl w D m' ys][Le m' d'](hs:Z (sd=(j:Int)/\fr=(r:Int)/\tt=(T:Int)))(J:n<=1000000)(u:R<=1000000)(hr:aw zs xs=true)(y:Z (JW j P I l zs))(e:Z (r<T/\T<=l))(hV:Z (V=zs.set j ((T:Int)-r)))(z:aw V ys=true)(K:Z (X=ph P I r T l ys P)):
  () 112 #[.agg #[(A,n,c),(B,m,d)],.agg #[(C,R,c'),(D,m',d')],sd,fr,tt] w (dM w zs X 0):=by
 rw[hs.o.1,hs.o.2.1,hs.o.2.2];exact zm J u hr y e.o.1 e.o.2 hV z K
def Ic(w:ab)(L:List TV)(e:Ending)(w':ab):Prop:=∃A n c,e=.returned (.tuple #[.slice A n c,an])/\eQ w' w.1.size A n c L/\aj w' w
end
def Ie(h:aw zs xs=true):zs.length<=4/\xs.length<=65536:=⟨(fp h).2,(fp h).1⟩
def Fw{g x:au}(hg:∀z∈g,bf z)(j:∀z∈x,bf z):∀z∈e8 g x,bf z:=λz e=>by
 rw[e8,pD]at e;obtain⟨a,l,h⟩:=e;obtain⟨b,hb,rfl⟩:=cw.1 h;exact jU (hg a l) (j b hb)
def TF.Xy{w:ab}(h:TF w b A c B d zs xs)(e:G<b)(v0 j l v3 v4 m:Value):TF ((((((w.setCell (G,0) v0).setCell (G,1) j).setCell (G,2) l).setCell (G,3) v3).setCell (G,4) v4).setCell (G,5) m) b A c B d zs xs:=
 (((((h.aV e v0).aV e j).aV e l).aV e v3).aV e v4).aV e m
def TF.mZ{w:ab}(h:TF w b A c B d zs xs)(e:G<b)(v0 j l v3:Value):TF ((((w.setCell (G,0) v0).setCell (G,1) j).setCell (G,2) l).setCell (G,3) v3) b A c B d zs xs:=
 (((h.aV e v0).aV e j).aV e l).aV e v3
def Fx{n:Nat}{g:au}:∀z∈lO n xs g,bf z:=λz b=>by
 rw[lO]at b;obtain⟨j,_,rfl⟩:=cw.1 b;exact J8 _ _ _ _ _
section
variable{w:World}{E F:Option Addr}{n p:Nat}{ts S V g:List Int}
def TF.at(h:TF w b A c B d zs xs)[l:aM w w']:TF w' b A c B d zs xs:=h.below l.st (al _)
def TF.two[Bx w G T #[.slice A zs c,.slice B xs d,.slice C ts c',.slice D ys d']](t:TF w b' A c B d zs xs)(e:TF w b' C c' D d' ts ys)(i6:∀z∈xs,bf z)(j:∀z∈ys,bf z)(r:b<=G)(l:b<=b'):eQ w b G 2 2 [(zs,xs),(ts,ys)]:=by
 have:=t.s;have:=t.x;have:=t.lc;have:=t.ld;have:cm xs:=⟨i6⟩;have:=e.s;have:=e.x;have:=e.lc;have:=e.ld;have:cm ys:=⟨j⟩;exact eQ.two r (t.fA.less l) (t.fB.less l) (e.fA.less l) (e.fB.less l)
def rL{F:Func}[k:Bx u G T #[x0,x1]][aM w u](j:w.1.size<=G)(hd:act.defers=[])
  (e:∀W:World,W.cell? (G,0)=some (.slice A n c)->W.cell? (G,1)=some (.slice B m d)->(results F act.tmps).run prog W=.ok (.tuple #[.agg #[(A,n,c),(B,m,d)],an]) W)
  (l:eQ u b A n c gp) (r:eQ u b B m d gx) (hb:G<b):bodyPost prog F (xC w gp gx) .ret act ((u.setCell (G,0) (A,n,c)).setCell (G,1) (B,m,d)):=
 ie (T:=T) ⟨aA.bP k.ak _ _⟩ j rfl hd e l r hb
def QP{k:Int}:j4 z k ((us.map Tn.tv).map g1) g l=j4 z k us g l:=by
 unfold j4;rw[H2];exact iG λi _=>by rw[QK]
def abo:pj z ((us.map Tn.tv).map g1) g l=pj z us g l:=by
 unfold pj;rw[H2]
theorem rM{L:au}(h:∀z∈L,bf z)(i:Nat):bf (L.getD i 0):=by
 rw[a5];cases e:L[i]? with
 |none=>exact⟨ao,ao⟩
 |some z=>exact h z (aK e)
def If{k:Int}(e:bf k)(hs:∀i,bf (sec us i))(hg:∀z∈g,bf z):∀z∈j4 y k us g l,bf z:=λz j=>by
 obtain⟨i,_,rfl⟩:=cw.1 j;exact NZ e (hs i) (rM hg i)
def QQ(hs:∀z∈ha us,bf z)(hg:∀z∈g,bf z):∀z∈pj y us g l,bf z:=λz e=>by
 obtain⟨i,_,rfl⟩:=cw.1 e;exact N0 (rM hs i) (rM hg i)
def abp(h:nu w A us):∀z∈ha us,bf z:=λz j=>by
 unfold ha at j;cases e:us[0]? with
 |none=>rw[e]at j;simp at j
 |some t=>rw[e]at j;obtain⟨_,_,_,k⟩:=h 0 t e;exact k.bd z j
def QR{P F T:Nat}(hg:∀z∈g,bf z):∀z∈ph P I F T j g i,bf z:=λz hz=>by
 have e:bf 0:=⟨ao,ao⟩;rw[ph,cu]at hz;rcases hz with hz|hz;obtain⟨l,_,hz⟩:=pD.1 hz;rw[ue,cu,cu]at hz;rcases hz with(hz|hz)|hz;rw[e3 hz];exact e;exact hg z (hJ (eS hz));rw[e3 hz];exact e;rwa[e3 hz]
def Tu:eA l ((us.map Tn.tv).map g1) j=eA l us j:=by
 unfold eA;rw[H1,<-fT,nO];rfl
def abq{P:Nat}(hs:side=(j:Int))(e:JW j P I l V)(J:ps.length=us.length)(hp:rJ j P I l us g ps):ps.map Tn.tv=jnB (us.map Tn.tv) V side g:=by
 have u:V.getD j 0=(l:Int):=by rw[a5,e.at_];rfl
 unfold jnB;simp only[hs,a9,e.ahead,e.behind,u,Tu,bn];apply eo;intro K;rw[bo,bo];by_cases r:K<us.length;rw[il r,bk Y];have hu:=bk r;obtain⟨y,z⟩:=hp.el K _ _ (bk Y) hu;simp only[pN];rw[QI hu];show some (_,_)=_;rw[y,z];rfl;rw[ej Y,ej ch];rfl
def Od{X:au}[a:Ts w A 1 us][l:I6 y][Sl w B p zs][Sl w C q xs][r:cm xs](hp:p<=1000000)(u:Z (∀t∈us,t.zs.length<=1000000))(hE:Z (gQ z us=0))(hr:aw zs xs=true)(hs:Z (zs=km us))(I:Z (O=km us))(j:Z (X=j4 z y us xs (ha us).length)):
  () 114 #[z,y,.agg #[(B,p,d),(C,q,e')],(A,1,c)] w (Ic w [(O,X)]):=
 (H8 hp u hE hr hs I j).mono λ_ _ ⟨G,g,J,e,l1,K,L,N,oS,M,pw⟩=>⟨_,_,_,e,by
  have:Sl _ (some ⟨g,0,none⟩) O O:=⟨oS.rd,rfl⟩;have:Sl _ (some ⟨J,0,none⟩) X X:=⟨M.rd,rfl⟩;have:cm X:=⟨by rw[j.o];exact If l.bd (λi=>(vO a.rd i).bd) r.bd⟩;exact eQ.one l1 (fv K) (fv L),pw⟩
def Oe{X aa:au}[a:Ts w A 2 us][K:I6 y][Sl w B p zs][Sl w C q xs][u:cm xs](hp:p<=1000000)(L:Z (∀t∈us,t.zs.length<=1000000))(hE:Z (gQ z us=0))(hr:aw zs xs=true)(hs:Z (zs=km us))(M:Z (O=km us))(I:Z (X=j4 z y us xs (ha us).length))(J:Z (aa=pj z us xs (ha us).length)):
  () 114 #[z,y,.agg #[(B,p,d),(C,q,e')],(A,2,c)] w (Ic w [(O,X),(O,aa)]):=
 (H9 hp L hE hr hs M I J).mono λ_ _ ⟨G,N,j,P,l,e,l1,Q,l3,l4,l5,ne,kG,oS,oX,r,oY,pw⟩=>⟨_,_,_,e,by
  have:Sl _ (some ⟨N,0,none⟩) O O:=⟨oS.rd,rfl⟩;have:Sl _ (some ⟨j,0,none⟩) X X:=⟨oX.rd,rfl⟩;have:Sl _ (some ⟨P,0,none⟩) O O:=⟨r.rd,rfl⟩;have:Sl _ (some ⟨l,0,none⟩) aa aa:=⟨oY.rd,rfl⟩;have:cm X:=⟨by rw[I.o];exact If K.bd (λi=>(vO a.rd i).bd) u.bd⟩;have:cm aa:=⟨by rw[J.o];exact QQ (abp a.rd) u.bd⟩;exact eQ.two l1 (fv Q) (fv l4) (fv l3) (fv l5),pw⟩
def EB[a:Ts w A n us][Le n c]{P:Nat}[Sl w B p S][Sl w C q g][Le q e'][cm g](J:n<=1000000)(hs:Z (sd=(j:Int)))(K:Z (∀t∈us,t.zs.length<=1000000))(hE:Z (zd j us=0))(u:Z (JW j P I l S))(hS:Z (S=vD j us))(hr:aw S g=true)
  (r:Z (∀t∈us,aw t.zs t.xs=true/\JW j P I (zN j t) t.zs/\S.set j (zN j t:Int)=t.zs)) (hF:Z (eA j us us.length=l)) (L:Z (∀ps,ps.length=us.length->rJ j P I l us g ps->ps.map Tn.tv=GX)):
  () 111 #[sd,.agg #[(B,p,d),(C,q,e')],(A,n,c)] w (Ic w GX):=by
 rw[hs.o];exact(xB J K hE u hS hr r hF).mono λ_ _ ⟨G,ps,e,z,M,N,y,O⟩=>⟨_,_,_,e,⟨ps,z,al _,fv N,λt ht=>⟨(y.o t ht).1.less Y,(y.o t ht).2.1.less Y,(y.o t ht).2.2⟩,L.o ps (by rw[<-z.len,a.len]) M.o⟩,O⟩
def Ig[Sl w A n zs][Sl w B m xs][Sl w C R S][Sl w E p V][Sl w F q g][cm g](hn:n<=4)(hm:m<=65536)(z:R<=1000000)(hp:p<=4)(hq:q<=65536)(r:Z (aw zs xs=true))(I:Z (aw V xs=true/\V=S/\aw zs g=true))(J:Z (aw V g=true)):
  () 113 #[.agg #[(A,n,c),(B,m,d)],.agg #[(E,p,e'),(F,q,f')],(C,R,c')] w (xC w [] [(zs,g)]):=by
 have CB:=@az;have FB:=@aP;obtain⟨K,rfl,v3⟩:=I.o;have hd:decide (V=V)=true:=ea rfl;have L:Z (aw V xs=true/\V=V):=U ⟨K,rfl⟩;have j:=J.o;go_in;go_wp2_with (first|(first|(go_at_call 69;refine(bK Y).mono ?_;rintro e u ⟨rfl,_⟩)|(go_at_call 70;refine(ga Y Y).mono ?_;rintro e u ⟨rfl,_⟩))|(go_at_call 164;refine(Fs Y Y Y r L).mono ?_;rintro e u ⟨M,c',N,d',rfl,O,P,Q,X,fA,y,_⟩)|(go_at_call 179;refine(xp Y Y Y r j v3).mono ?_;rintro e u ⟨M,c',N,d',rfl,O,P,Q,X,fA,y,_⟩)|(go_at_call 108;refine(qh (aQ (al _) ai) fA y).mono ?_;rintro e u ⟨GG,rfl,l,_⟩));exact rL (x0:=.slice none 0 0) (x1:=.slice none 0 0) Y rfl (λW r0 r1=>by simp[results,results113,go_sem,r0,r1]) eQ.nil l (Bx.ak (g:=w.1.size+1+1)).lt
end
section
variable{w:World}{E F:Option Addr}{n nx ng:Nat}{ts:List Tn}{o:ir}{g:List Int}
def zI0(h:Γ:=by rintro e D ⟨A',c',B',d',rfl,sA,sX,lA,lX,fA,fX,_⟩;dsimp only;refine aE hK ?_;refine qL [9,10] ?_;refine aJ 11 λK hK=>?_;go_simp;refine(qh ai fA fX).mono ?_;rintro e D ⟨GG,rfl,vW,_⟩;dsimp only;refine aE hK ?_;refine qL [12,13] ?_;refine aJ 14 λK hK=>?_;go_simp;obtain⟨v9,j⟩:=lg ((D.setCell (w.1.size+1+1,0) ()).setCell (w.1.size+1+1,1) (GG,1,1));rw[<-j];(have vV:Below (World.heap u0).size u0 v9:=by rw[j];exact bA (aO u0 D) hz _ _);(have zo:∀b,b<D.1.size->b≠w.1.size+1+1->(World.heap v9)[b]?=D.heap[b]?:=λb _ hb=>by rw[j];exact(bb _ ⟨w.1.size+1+1,1,none⟩ _ b hb).trans (bb _ ⟨w.1.size+1+1,0,none⟩ _ b hb));have ho:Bx v9 (w.1.size+1+1) _ #[(),(GG,1,1)]:=⟨by rw[j];exact aA.bP (Bx.ak (w:=D) (g:=w.1.size+1+1)) _ _⟩;have nE:aj v9 u0:=⟨vV⟩;obtain⟨v8,rfl⟩:=lg D;have B4:=j;refine aE hK ?_ ⟨vV⟩;clear hK K j;refine eE 15 ?_;refine a8 ?_;go_wp2_with fail;exact ie (b:=r.1.size) ho Y B4 rfl (λW r0 r1=>by simp[results,results64,go_sem,r0,r1]) eQ.nil (vW.less ai) Y):=h
def zI1(h:Γ:=by rw[<-J,oR,Tt,hW,hS];(have e1:dP z0=(ab:Int):=by rw[dP,a5,pw.at_];rfl);(have e2:dP V=(nn:Int):=by rw[dP,pw.v,ei,a5,jK (by have:=pw.len;omega)];rfl);(have e3:x0.length=aa*ab:=by have:=((aS _ _).1 r0.o).2;rw[pw.size]at this;omega);rw[e1,e2,pw.xh,e3];simp only[a9]):=h
def zI2(h:Γ:=by rw[j];exact(bb _ ⟨w.1.size+1+1,1,none⟩ _ b hb).trans (bb _ ⟨w.1.size+1+1,0,none⟩ _ b hb)):=h
def zI3(h:Γ:=by refine a8 ?_;go_wp2_with fail;exact ie (b:=r.1.size) ho Y B4 rfl (λW r0 r1=>by simp[results,results64,go_sem,r0,r1]) (HPP.less ai) (iP.less ai) Y):=h
def zI4(h:Γ:=by obtain⟨f,h⟩:=rG hK;rw[hV]at h;exact⟨f,h⟩):=h
def zI8(h:Γ:=by rw[j];exact bA (aO u0 D) hz _ _):=h
def zIa(h:Γ:=by rw[oR];intro z hz;obtain⟨q,_,rfl⟩:=cw.1 hz;exact sS _ _):=h
def Xz[Sl w A n o.S][I6 o.k](hn:n<=1000000)[a:Ts w B m ts][x:Ts w C nx us][Le nx cx](hx:nx<=1000000)(hT:Z (eP ts))(hU:Z (eP us))(hE:dr o (ts.map (·.zs)) (us.map (·.zs))=0){V:au}
  (hV:Z (cy o (ts.map (·.zs)) (us.map (·.zs))=V)) [sg:Sl w E ng V] [xg:Sl w F R g] [ig:cm g] [Le R gd] (hg:Z (aw V g=true))  (EC:Z (qZ o (ts.map Tn.tv) (us.map Tn.tv) V g=GP)) (ED:Z (j5 o (ts.map Tn.tv) (us.map Tn.tv) V g=GX)):
  () 64 #[.agg (gM o.kd o.k o.wd o.st o.sd o.fr o.tt (A,n,d)),.slice B m e,(C,nx,cx),.agg #[(E,ng,gc),(F,R,gd)]] w (xC w GP GX):=by
 obtain⟨CB,CP,FB⟩:=gW;obtain⟨hc,hP,hXr,hk⟩:=jm hE;obtain⟨i0,i1,i2,i3⟩:=yF hc;have HC:Z (mP o.kd o.k o.wd o.st o.sd o.fr o.tt o.S m nx=0):=U (by rw[<-hc,ir.cnt,a.len,x.len,bn,bn]);have IM:Z ((m:Int)=fq o.kd):=U (by rw[<-i3,a.len,bn]);have IX:Z (0<nx):=U (by rw[x.len];rw[bn]at i1;unfold gN at i1;split at i1<;>omega);have IN:Z (¬o.kd=8/\¬o.kd=9/\¬o.kd=10/\¬o.kd=11/\¬o.kd=12/\¬o.kd=13/\¬o.kd=14/\¬o.kd=15->(nx:Int)=g8 o.kd/\g8 o.kd≠0/\(o.kd<=5↔nx=1)):=λh=>by obtain⟨kl,kh⟩:=Ai i0;rw[bn,<-x.len]at i1 i2;unfold gN at i1;unfold jl at i2;unfold g8;by_cases h6:o.kd=6\/o.kd=7;rw[ah h6]at i1 i2⊢;rw[ag Y];omega;rw[ag h6]at i1 i2;rw[ag Y]at i2;rw[ah Y];omega
 have iO:Z (c6 o (ts.map (·.zs)) (us.map (·.zs))=V):=U (by rw[<-hV.o,cy,ah hE]);have HK:=U hk;have HX:=ED;have Ih:=EC;obtain⟨g4,g6⟩:=Ie hg.o;have ng4:ng<=4:=by rw[sg.len];exact g4
 have mg6:R<=65536:=by rw[xg.len];exact g6
 obtain⟨b0,q0,A0,n0,c0,z0,B0,m0,d0,x0,rfl,ob0,v0,v1,s0,t0,lc0,ld0,ix0,n04,m06,r0,e0⟩:=x.yK hU (k:=0) IX.o;have D0:Z ((us.map (·.zs)).getD 0 []=z0):=Am e0.o;simp only[fo,d9]at v0 v1;have x1:0<nx:=IX.o;have P1:∀k:Nat,k<m->∃b o A1 n1 c1 zs B1 m1 d1 xs,B=some ⟨b,o,none⟩/\Old b w/\w.cell? (b,o+k*2)=some (.slice A1 n1 c1)/\w.cell? (b,o+k*2+1)=some (.slice B1 m1 d1)/\Sl w A1 n1 zs/\Sl w B1 m1 xs/\Le n1 c1/\Le m1 d1/\cm xs/\n1<=4/\m1<=65536/\Z (aw zs xs=true)/\Z ((ts.map Tn.tv).getD k ([],[])=(zs,xs))/\Z ((ts.map (·.zs)).getD k []=zs):=λk hk=>by obtain⟨b,o,A1,n1,c1,zs,B1,m1,d1,xs,h1,h2,h3,h4,h5,h6,h7,h8,h9,N7,zh,HD,H3⟩:=a.yK hT hk;exact⟨b,o,A1,n1,c1,zs,B1,m1,d1,xs,h1,h2,h3,h4,h5,h6,h7,h8,h9,N7,zh,HD,H3,U (Am H3.o)⟩
 have vQ:=U P1;clear hc hP hXr hk i0 i1 i2 i3 IX P1 hE hV EC ED g4 g6;go_in;go_upto_region 1 with fail;refine Oc (λu0 u _ _ k0 kg hz k1=>?_);by_cases M:o.kd=8
 .have vC:m=2:=by have:=IM.o;rw[fq,ah M]at this;omega
  obtain⟨b1,q1,A1,n1,c1,z1,B1,m1,d1,ui,e1,mM,BR,BS,s1,t1,Xk,Xl,Tf,Xm,SB,r1,Ez,BU⟩:=vQ.o 0 Y;obtain⟨b2,q2,A2,n2,c2,z2,B2,m2,d2,Xn,e2,iM,va2,vb2,s2,t2,lc2,ld2,ix2,n24,m26,r2,ev2,ez2⟩:=vQ.o 1 Y;subst e1;injection e2 with e2;injection e2 with e2 e3;subst e2 e3
  simp only[fo,d9,l7]at BR BS va2 vb2;have hV:=iO.o;have J:=HX.o;have hG:=Ih.o;have hK:=HK.o;rw[c6,ah M]at hV;rw[j5,ah M]at J;rw[qZ,ah M]at hG;rw[cz,ah M]at hK;rw[BU.o,ez2.o,D0.o]at hV hK;rw[Ez.o,e0.o]at J hG;rw[ev2.o]at hG;have HG:Z (BF z1 ui z2 Xn z0 x0 z2 g=true/\V=z2):=U (by
   have hB:iN z1 z2 z0=true:=by
    unfold mS at hK
    split at hK
    .assumption
    .exact absurd hK ao
   rw[mR,ah hB]at hV;simp only[iN,bU,b9]at hB;obtain⟨⟨⟨⟨g1,g2⟩,g3⟩,g4⟩,g5⟩:=hB;have f0:=((aS _ _).1 r0.o).2;have e:z2=[z1.getD 0 0]:=by
    match z2,g2,g3 with
    |[y],_,g3=>rw[<-g3];rfl
   have eV:V=z2:=by rw[<-hV,e]
   refine⟨?_,eV⟩;simp only[BF,eH,mT,bU,b9];exact⟨⟨⟨⟨⟨⟨⟨r1.o,g1⟩,r2.o⟩,r0.o⟩,e⟩,by rw[f0,g5]⟩,by rw[<-eV];exact hg.o⟩,bq⟩)
  obtain rfl:=HG.o.2;have HW:Z (∀z∈e8 g x0,bf z):=Fw ig.bd ix0.bd;have HY:Z (∀z∈lO x0.length ui g,bf z):=Fx;obtain⟨WW,Kz⟩:=lg (e8 g x0);obtain⟨YY,KA⟩:=lg (lO x0.length ui g);rw[<-KA]at HY J;rw[<-Kz]at HW hG;have Tv:=U Kz;have KB:=U KA;have qi:=U (And.intro J.symm hG.symm);have g1:0<m:=Y;(have g2:(1:Int)<(m:Int):=by omega);(have h8:(o.kd==8)=true:=by simpa using M);clear M;clear vC hV J hG hK Kz KA;go_upto_region 6 with(go_at_call 104;refine(bY hn HC).mono ?_;rintro e u ⟨rfl,_⟩);obtain⟨v,rfl⟩:=lg u;go_cut [11,12] (λp e wx=>∃G A1 e1 B1 f1 A2 e2 B2 f2 A3 e3 B3 f3,p=.pointer (some ⟨G,0,none⟩)/\e=.int .i64 0/\Bx wx G 201 #[.slice A1 z1 e1,.slice B1 WW f1,.slice A2 V e2,.slice B2 g f2,.slice A3 z0 e3,.slice B3 YY f3]/\TF wx v.1.size A1 e1 B1 f1 z1 WW/\TF wx v.1.size A2 e2 B2 f2 V g/\TF wx v.1.size A3 e3 B3 f3 z0 YY/\aj wx v);(case first=>refine ax v ap (λD _=>?_);refine qL [0,1,2,3,4,5,6,7,8,9] ?_;refine pP 10 14 (λK hK=>?_) (λK hK=>?_);(focus go_simp;refine(Kx Y (U HG.o.1) Tv KB).mono ?_;rintro e D ⟨A1,e1,B1,f1,A2,e2,B2,f2,A3,e3,B3,f3,rfl,B5,B6,XC,_⟩;dsimp only;refine aE hK ?_;refine qL [11,12,13] ?_;refine aJ 14 λK hK=>?_;go_simp;obtain⟨g9,p0⟩:=lh ((World.heap D).size);(have EE:(World.heap D).size<=g9:=by rw[<-p0];exact ai);refine aE hK<|bc (λD _ Of=>?_);rw[p0]at Of⊢;clear p0);rotate_left;(focus go_simp;obtain⟨g9,p0⟩:=lh ((World.heap D).size);(have EE:(World.heap D).size<=g9:=by rw[<-p0];exact ai);refine aE hK<|bc (λD _ Of=>?_);rw[p0]at Of⊢;clear p0;refine aJ 10 λK hK=>?_;go_simp;refine(Kx Y (U HG.o.1) Tv KB).mono ?_;rintro e D ⟨A1,e1,B1,f1,A2,e2,B2,f2,A3,e3,B3,f3,rfl,B5,B6,XC,_⟩;dsimp only;refine aE hK ?_;refine qL [11,12,13] ?_);all_goals refine aJ 15 λK hK=>?_;go_simp;obtain⟨v9,j⟩:=lg (World.yI D g9 (.slice A1 (List.length z1) e1) (.slice B1 (List.length WW) f1) (.slice A2 (List.length V) e2) (.slice B2 (List.length g) f2) (.slice A3 (List.length z0) e3) (.slice B3 (List.length YY) f3));unfold World.yI at j;rw[<-j];have ho:Bx v9 g9 _ #[.slice A1 (List.length z1) e1,.slice B1 (List.length WW) f1,.slice A2 (List.length V) e2,.slice B2 (List.length g) f2,.slice A3 (List.length z0) e3,.slice B3 (List.length YY) f3]:=⟨by rw[j];exact aA.yI (Bx.ak (w:=D) (g:=g9)) _ _ _ _ _ _⟩;have nE:aj v9 v:=⟨by rw[j];exact mV (aO v D) (aQ ai EE) _ _ _ _ _ _⟩;(have T1:TF v9 (World.heap v).size A1 e1 B1 f1 z1 WW:=by rw[j];first|exact B5.below (mV (aO _ D) EE _ _ _ _ _ _) ai|exact(B5.Xy (Bx.ak (g:=g9)).lt _ _ _ _ _ _).less ai);(have T2:TF v9 (World.heap v).size A2 e2 B2 f2 V g:=by rw[j];first|exact B6.below (mV (aO _ D) EE _ _ _ _ _ _) ai|exact(B6.Xy (Bx.ak (g:=g9)).lt _ _ _ _ _ _).less ai);(have T3:TF v9 (World.heap v).size A3 e3 B3 f3 z0 YY:=by rw[j];first|exact XC.below (mV (aO _ D) EE _ _ _ _ _ _) ai|exact(XC.Xy (Bx.ak (g:=g9)).lt _ _ _ _ _ _).less ai);refine aE hK ?_ nE;clear hK K j;refine eE 16 ?_;refine a8 ?_;go_wp2_with fail;go_meet;exact⟨g9,A1,e1,B1,f1,A2,e2,B2,f2,A3,e3,B3,f3,rfl,rfl,ho,T1,T2,T3,nE⟩);obtain⟨G,A1,e1,B1,f1,A2,e2,B2,f2,A3,e3,B3,f3,rfl,rfl,kG,B5,B6,XC,pv⟩:=hcut;go_wp2_with fail;rw[qi.o.1,qi.o.2];exact rL (b:=v.1.size) (x0:=.slice none 0 0) (x1:=.slice none 0 0) Y rfl (λW r0 r1=>by simp[results,results64,go_sem,r0,r1]) (TF.two B5.at B6.at HW.o ig.bd ai (al _)) (TF.one XC.at HY.o (Nat.le_succ_of_le ai) (al _)) (Bx.ak (w:=v) (g:=w.1.size+1+1)).lt
 have h8:(o.kd==8)=false:=by simpa using M
 by_cases O:o.kd=9
 .have lz:m=1:=by have:=IM.o;rw[fq,ag M,ah (.inl O)]at this;omega
  obtain⟨b1,q1,A1,n1,c1,z1,B1,m1,d1,ui,e1,mM,BR,BS,s1,t1,Xk,Xl,Tf,Xm,SB,r1,Ez,BU⟩:=vQ.o 0 Y;subst e1;simp only[fo,d9]at BR BS;have hV:=iO.o;have J:=HX.o;have hG:=Ih.o;have hK:=HK.o;rw[c6,ag M,ah O]at hV;rw[j5,ag M,ah O]at J;rw[qZ,ag M,ah O]at hG;rw[cz,ag M,ah O]at hK;rw[BU.o,D0.o]at hV hK;have h1:=et hK z1 aI;have h2:=et hK z0 aI;rw[hV]at h1 h2;obtain rfl:=h1;obtain rfl:=h2;have qi:=U (And.intro J.symm hG.symm);have g1:0<m:=Y;(have h9:(o.kd==9)=true:=by simpa using O);clear M O;clear lz hV J hG hK;obtain⟨rfl,rfl⟩:=qi.o;go_upto_region 11 with(go_at_call 104;refine(bY hn HC).mono ?_;rintro e u ⟨rfl,_⟩);obtain⟨r,rfl⟩:=lg u;have Xv:w.1.size+1+1<(World.heap r).size:=(Bx.ak (w:=r) (g:=w.1.size+1+1)).lt;refine ax u0 ap (λD _=>?_);refine qL [0,1,2,3,4,5,6] ?_;refine aJ 7 λK hK=>?_;go_simp;refine(Ia Y Y Y Y r1 r0 hg.o).mono ?_;rintro e D ⟨PA,pn,pc,XA,xn,xc,rfl,HPP,iP,_⟩;dsimp only;refine aE hK ?_;refine qL [8,9] ?_;refine aJ 10 λK hK=>?_;go_simp;obtain⟨v9,j⟩:=lg ((D.setCell (w.1.size+1+1,0) (PA,pn,pc)).setCell (w.1.size+1+1,1) (XA,xn,xc));rw[<-j];have vV:Below (World.heap u0).size u0 v9:=zI8;have zo:∀b,b<D.1.size->b≠w.1.size+1+1->(World.heap v9)[b]?=D.heap[b]?:=λb _ hb=>zI2;have ho:Bx v9 (w.1.size+1+1) _ #[(PA,pn,pc),(XA,xn,xc)]:=⟨by rw[j];exact aA.bP (Bx.ak (w:=D) (g:=w.1.size+1+1)) _ _⟩;have nE:aj v9 u0:=⟨vV⟩;obtain⟨v8,rfl⟩:=lg D;have B4:=j;refine aE hK ?_ ⟨vV⟩;clear hK K j;refine eE 11 ?_;exact zI3
 have h9:(o.kd==9)=false:=by simpa using O
 by_cases l:o.kd=10
 .have lz:m=1:=by have:=IM.o;rw[fq,ag M,ah (.inr l)]at this;omega
  obtain⟨b1,q1,A1,n1,c1,z1,B1,m1,d1,ui,e1,mM,BR,BS,s1,t1,Xk,Xl,Tf,Xm,SB,r1,Ez,BU⟩:=vQ.o 0 Y;subst e1;simp only[fo,d9]at BR BS;have hV:=iO.o;have J:=HX.o;have hG:=Ih.o;have hK:=HK.o;rw[c6,ag M,ag O,ah l]at hV;rw[j5,ag M,ag O,ah l]at J;rw[qZ,ag M,ag O,ah l]at hG;rw[cz,ag M,ag O,ah l]at hK;rw[BU.o,D0.o]at hV hK;rw[Ez.o,e0.o]at J hG;have hf:∃f,nY f z1 z0 V o.st:=zI4;unfold Xx at J;unfold Xw at hG;rw[dif_pos hf]at J hG;have HF:=U hf.choose_spec;have qg:=U hV;have Th:=U hK;obtain⟨WW,Kz⟩:=lg (eI g x0 ui.length hf.choose.all);obtain⟨YY,KA⟩:=lg (eJ g ui x0.length hf.choose.all);have HW:Z (∀z∈WW,bf z):=U (by rw[Kz];exact ug);have HY:Z (∀z∈YY,bf z):=U (by rw[KA];exact uh);simp only at J hG;rw[<-KA]at J;rw[<-Kz]at hG;have Tv:=U Kz;have KB:=U KA;have qi:=U (And.intro J.symm hG.symm);generalize hf.choose=f at HF Tv KB;have g1:0<m:=Y;(have N7:(o.kd==10)=true:=by simpa using l);clear M O l;clear lz hV J hG hK hf Kz KA;go_upto_region 13 with(go_at_call 104;refine(bY hn HC).mono ?_;rintro e u ⟨rfl,_⟩);obtain⟨v,rfl⟩:=lg u;go_cut [13,14] (λp e wx=>∃G A1 e1 B1 f1 A2 e2 B2 f2,p=.pointer (some ⟨G,0,none⟩)/\e=.int .i64 0/\Bx wx G 206 #[.slice A1 z1 e1,.slice B1 WW f1,.slice A2 z0 e2,.slice B2 YY f2]/\TF wx v.1.size A1 e1 B1 f1 z1 WW/\TF wx v.1.size A2 e2 B2 f2 z0 YY/\aj wx v);(case first=>refine ax v ap (λD _=>?_);refine qL [0,1,2,3,4,5,6,7,8] ?_;refine pP 9 13 (λK hK=>?_) (λK hK=>?_);(focus go_simp;refine(Ky Y Y Y r1.o r0.o Th qg hg.o HF Tv KB).mono ?_;rintro e D ⟨A1,e1,B1,f1,A2,e2,B2,f2,rfl,B5,B6,_⟩;dsimp only;refine aE hK ?_;refine qL [10,11,12] ?_;refine aJ 13 λK hK=>?_;go_simp;obtain⟨g9,p0⟩:=lh ((World.heap D).size);(have EE:(World.heap D).size<=g9:=by rw[<-p0];exact ai);refine aE hK<|bc (λD _ Of=>?_);rw[p0]at Of⊢;clear p0);rotate_left;(focus go_simp;obtain⟨g9,p0⟩:=lh ((World.heap D).size);(have EE:(World.heap D).size<=g9:=by rw[<-p0];exact ai);refine aE hK<|bc (λD _ Of=>?_);rw[p0]at Of⊢;clear p0;refine aJ 9 λK hK=>?_;go_simp;refine(Ky Y Y Y r1.o r0.o Th qg hg.o HF Tv KB).mono ?_;rintro e D ⟨A1,e1,B1,f1,A2,e2,B2,f2,rfl,B5,B6,_⟩;dsimp only;refine aE hK ?_;refine qL [10,11,12] ?_);all_goals refine aJ 14 λK hK=>?_;go_simp;obtain⟨v9,j⟩:=lg ((((D.setCell (g9,0) (.slice A1 (List.length z1) e1)).setCell (g9,1) (.slice B1 (List.length WW) f1)).setCell (g9,2) (.slice A2 (List.length z0) e2)).setCell (g9,3) (.slice B2 (List.length YY) f2));rw[<-j];have ho:Bx v9 g9 _ #[.slice A1 (List.length z1) e1,.slice B1 (List.length WW) f1,.slice A2 (List.length z0) e2,.slice B2 (List.length YY) f2]:=⟨by rw[j];exact aA.QM (Bx.ak (w:=D) (g:=g9)) _ _ _ _⟩;have nE:aj v9 v:=⟨by rw[j];exact rH (aO v D) (aQ ai EE) _ _ _ _⟩;(have T1:TF v9 (World.heap v).size A1 e1 B1 f1 z1 WW:=by rw[j];first|exact B5.below (rH (aO _ D) EE _ _ _ _) ai|exact(B5.mZ (Bx.ak (g:=g9)).lt _ _ _ _).less ai);(have T2:TF v9 (World.heap v).size A2 e2 B2 f2 z0 YY:=by rw[j];first|exact B6.below (rH (aO _ D) EE _ _ _ _) ai|exact(B6.mZ (Bx.ak (g:=g9)).lt _ _ _ _).less ai);refine aE hK ?_ nE;clear hK K j;refine eE 15 ?_;refine a8 ?_;go_wp2_with fail;go_meet;exact⟨g9,A1,e1,B1,f1,A2,e2,B2,f2,rfl,rfl,ho,T1,T2,nE⟩);obtain⟨G,A1,e1,B1,f1,A2,e2,B2,f2,rfl,rfl,kG,B5,B6,pv⟩:=hcut;go_wp2_with fail;rw[qi.o.1,qi.o.2];exact rL (b:=v.1.size) (x0:=.slice none 0 0) (x1:=.slice none 0 0) Y rfl (λW r0 r1=>by simp[results,results64,go_sem,r0,r1]) (TF.one B5.at HW.o ai (al _)) (TF.one B6.at HY.o (Nat.le_succ_of_le ai) (al _)) (Bx.ak (w:=v) (g:=w.1.size+1+1)).lt
 have N7:(o.kd==10)=false:=by simpa using l
 by_cases L:o.kd=11
 .have hV:=iO.o;have J:=HX.o;have hG:=Ih.o;have hK:=HK.o;rw[c6,ag M,ag O,ag l,ah (.inl L)]at hV;rw[j5,ag M,ag O,ag l,ah L]at J;rw[qZ,ag M,ag O,ag l]at hG;rw[cz,ag M,ag O,ag l,ah (.inl L)]at hK;rw[D0.o]at hV hK;rw[e0.o]at J;obtain⟨aa,ab,nn,W',S',hW,hS,pw⟩:=PW.of hK;rw[hV]at pw;have H4:=U pw;obtain⟨X,oR⟩:=lg (tab (aa*ab) (j3 1 x0 g ab nn S' W' (aa*nn)));have iP:=U oR;have HB:Z (∀z∈X,bf z):=U zIa;have J:[(z0,X)]=GX:=zI1;have BV:=U (And.intro hW hS);clear pw hW hS oR;have qi:=U (And.intro J.symm hG.symm);(have zh:(o.kd==11)=true:=by simpa using L);clear M O l L;clear hV J hG hK;obtain⟨rfl,rfl⟩:=qi.o;go_upto_region 18 with(go_at_call 104;refine(bY hn HC).mono ?_;rintro e u ⟨rfl,_⟩);obtain⟨r,rfl⟩:=lg u;have Xv:w.1.size+1+1<(World.heap r).size:=(Bx.ak (w:=r) (g:=w.1.size+1+1)).lt;have i6X:cm X:=⟨HB.o⟩;refine ax u0 ap (λD _=>?_);refine qL [0,1,2,3,4,5,6,7] ?_;refine aJ 8 λK hK=>?_;go_simp;refine(Fv BV Y Y r0.o (.inl rfl) H4 hg.o iP).mono ?_;exact zI0
 have zh:(o.kd==11)=false:=by simpa using L
 by_cases N:o.kd=12
 .have hV:=iO.o;have J:=HX.o;have hG:=Ih.o;have hK:=HK.o;rw[c6,ag M,ag O,ag l,ah (.inr N)]at hV;rw[j5,ag M,ag O,ag l,ag L,ah N]at J;rw[qZ,ag M,ag O,ag l]at hG;rw[cz,ag M,ag O,ag l,ah (.inr N)]at hK;rw[D0.o]at hV hK;rw[e0.o]at J;obtain⟨aa,ab,nn,W',S',hW,hS,pw⟩:=PW.of hK;rw[hV]at pw;have H4:=U pw;obtain⟨X,oR⟩:=lg (tab (aa*ab) (j3 2 x0 g ab nn S' W' (aa*nn)));have iP:=U oR;have HB:Z (∀z∈X,bf z):=U zIa;have J:[(z0,X)]=GX:=zI1;have BV:=U (And.intro hW hS);clear pw hW hS oR;have qi:=U (And.intro J.symm hG.symm);(have HD:(o.kd==12)=true:=by simpa using N);clear M O l L N;clear hV J hG hK;obtain⟨rfl,rfl⟩:=qi.o;go_upto_region 20 with(go_at_call 104;refine(bY hn HC).mono ?_;rintro e u ⟨rfl,_⟩);obtain⟨r,rfl⟩:=lg u;have Xv:w.1.size+1+1<(World.heap r).size:=(Bx.ak (w:=r) (g:=w.1.size+1+1)).lt;have i6X:cm X:=⟨HB.o⟩;refine ax u0 ap (λD _=>?_);refine qL [0,1,2,3,4,5,6,7] ?_;refine aJ 8 λK hK=>?_;go_simp;refine(Fv BV Y Y r0.o (.inr rfl) H4 hg.o iP).mono ?_;exact zI0
 have HD:(o.kd==12)=false:=by simpa using N
 by_cases fP:o.kd=13
 .have hV:=iO.o;have J:=HX.o;have hG:=Ih.o;have hK:=HK.o;rw[c6,ag M,ag O,ag l,ag (show¬(o.kd=11\/o.kd=12)from λh=>h.elim L N),ah fP]at hV;rw[j5,ag M,ag O,ag l,ag L,ag N,ah fP]at J;rw[qZ,ag M,ag O,ag l]at hG;rw[cz,ag M,ag O,ag l,ag (show¬(o.kd=11\/o.kd=12)from λh=>h.elim L N),ah fP]at hK;have HG:Z (∃nn P I ab:Nat,o.sd=(nn:Int)/\JW nn P I ab V/\zd nn us=0/\V=vD nn us/\(∀t∈us,aw t.zs t.xs=true/\JW nn P I (zN nn t) t.zs/\V.set nn (zN nn t:Int)=t.zs)/\eA nn us us.length=ab/\∀ps,ps.length=us.length->rJ nn P I ab us g ps->ps.map Tn.tv=GX):=U (by
   have h0:us≠[]:=by intro e;rw[e]at x;have:=x.len;simp at this;omega
   have hR:∀t∈us,aw t.zs t.xs=true:=λt ht=>(hU.o t ht).1;obtain⟨j1,j2⟩:=N5 (side:=o.sd) h0 hR;rw[hK]at j1;rw[Em,ah hK,<-j2]at hV;obtain⟨nn,P,I,ab,hs,jw,_,pi,hZ,hF⟩:=Bo j1;rw[hV]at jw pi;refine⟨nn,P,I,ab,hs,jw,by rw[<-hs];exact j1,by rw[<-hV,hs],pi,hF,λps hl hp=>?_⟩;rw[<-J];exact abq hs jw hl hp)
  obtain⟨nn,P,I,ab,hs,jw,j1,j2,pi,hF,vX⟩:=HG.o;have Vr:=U jw;have Vq:=U j1;have HJ2:=U j2;have Xo:=U pi;have HSD:=U hs;have HFF:=U hF;have Og:=U vX;have Wa:=U hG.symm;(have HZ:Z (∀t∈us,t.zs.length<=1000000):=U λt ht=>by have:=hU.o.len ht;omega);(have H3:(o.kd==13)=true:=by simpa using fP);clear M O l L N fP;clear hV J hG hK HG hs jw j1 j2 pi hF vX;obtain rfl:=Wa.o;go_wp2_with (first|(go_at_call 104;refine(bY hn HC).mono ?_;rintro e u ⟨rfl,_⟩)|(go_at_call 111;refine(EB Y HSD HZ Vq Vr HJ2 hg.o Xo HFF Og).mono ?_;rintro e u ⟨PA,pn,pc,rfl,vW,_⟩)|(go_at_call 110;refine mv (rK rfl) λu _=>?_));exact rL (x0:=.slice none 0 0) (x1:=.slice none 0 0) Y rfl (λW r0 r1=>by simp[results,results64,go_sem,r0,r1]) eQ.nil vW.at (Bx.ak (g:=w.1.size+1+1)).lt
 have H3:(o.kd==13)=false:=by simpa using fP
 by_cases iu:o.kd=14
 .have hV:=iO.o;have J:=HX.o;have hG:=Ih.o;have hK:=HK.o;rw[c6,ag M,ag O,ag l,ag (show¬(o.kd=11\/o.kd=12)from λh=>h.elim L N),ag fP,ah iu]at hV;rw[j5,ag M,ag O,ag l,ag L,ag N,ag fP,ah iu]at J;rw[qZ,ag M,ag O,ag l]at hG;rw[cz,ag M,ag O,ag l,ag (show¬(o.kd=11\/o.kd=12)from λh=>h.elim L N),ag fP,ah iu]at hK;rw[D0.o]at hV hK;rw[e0.o]at J;have hc:=hK;unfold gz at hc;rw[ah ((aS _ _).1 r0.o).1]at hc;split at hc;rotate_left;exact absurd hc ao;rename_i Wg;simp only[bU,b9]at Wg;obtain⟨⟨⟨⟨c1,c2⟩,c3⟩,c4⟩,c5⟩:=Wg;obtain⟨nn,nD⟩:=bO c1;obtain⟨Q,hQ⟩:=bO c3;obtain⟨T,hT'⟩:=bO (show 0<=o.tt by omega);obtain⟨P,I,ab,jw⟩:=JW.of ((aS _ _).1 r0.o).1 (n:=nn) Y;(have hgz:z0.getD nn 0=(ab:Int):=by rw[a5,jw.at_];rfl);rw[nD,a9,hgz]at c4;have H4:=U jw;have XD:Z (Q<T/\T<=ab):=U ⟨Y,Y⟩;have qg:Z (V=z0.set nn ((T:Int)-Q)):=U (by rw[<-hV,hH,ah hK,nD,hT',hQ,a9]);have BV:=U (And.intro nD (And.intro hQ hT'));obtain⟨X,oR⟩:=lg (ph P I Q T ab g P);have iP:=U oR;have HB:Z (∀z∈X,bf z):=U (by rw[oR];exact QR ig.bd);(have J:[(z0,X)]=GX:=by rw[<-J,oR,ctB,nD,hQ,hT'];simp only[a9];rw[jw.ahead,jw.behind,hgz];simp only[a9]);clear jw nD hQ hT' oR c1 c2 c3 c4 c5 hc hgz;have qi:=U (And.intro J.symm hG.symm);(have h14:(o.kd==14)=true:=by simpa using iu);clear M O l L N fP iu;clear hV J hG hK;obtain⟨rfl,rfl⟩:=qi.o;go_upto_region 24 with(go_at_call 104;refine(bY hn HC).mono ?_;rintro e u ⟨rfl,_⟩);obtain⟨r,rfl⟩:=lg u;have Xv:w.1.size+1+1<(World.heap r).size:=(Bx.ak (w:=r) (g:=w.1.size+1+1)).lt;have i6X:cm X:=⟨HB.o⟩;refine ax u0 ap (λD _=>?_);refine qL [0,1,2,3,4,5,6,7,8,9] ?_;refine aJ 10 λK hK=>?_;go_simp;refine(Ib BV Y Y r0.o H4 XD qg hg.o iP).mono ?_;rintro e D ⟨A',c',B',d',rfl,sA,sX,lA,lX,fA,fX,_⟩;dsimp only;refine aE hK ?_;refine qL [11,12] ?_;refine aJ 13 λK hK=>?_;go_simp;refine(qh ai fA fX).mono ?_;rintro e D ⟨GG,rfl,vW,_⟩;dsimp only;refine aE hK ?_;refine qL [14,15] ?_;refine aJ 16 λK hK=>?_;go_simp;obtain⟨v9,j⟩:=lg ((D.setCell (w.1.size+1+1,0) ()).setCell (w.1.size+1+1,1) (GG,1,1));rw[<-j];have vV:Below (World.heap u0).size u0 v9:=zI8;have zo:∀b,b<D.1.size->b≠w.1.size+1+1->(World.heap v9)[b]?=D.heap[b]?:=λb _ hb=>zI2;have ho:Bx v9 (w.1.size+1+1) _ #[(),(GG,1,1)]:=⟨by rw[j];exact aA.bP (Bx.ak (w:=D) (g:=w.1.size+1+1)) _ _⟩;have nE:aj v9 u0:=⟨vV⟩;obtain⟨v8,rfl⟩:=lg D;have B4:=j;refine aE hK ?_ ⟨vV⟩;clear hK K j;refine eE 17 ?_;refine a8 ?_;go_wp2_with fail;exact ie (b:=r.1.size) ho Y B4 rfl (λW r0 r1=>by simp[results,results64,go_sem,r0,r1]) eQ.nil (vW.less ai) Y
 have h14:(o.kd==14)=false:=by simpa using iu
 by_cases lE:o.kd=15
 .have hV:=iO.o;have J:=HX.o;have hG:=Ih.o;have hK:=HK.o;rw[c6,ag M,ag O,ag l,ag (show¬(o.kd=11\/o.kd=12)from λh=>h.elim L N),ag fP,ag iu,ah lE]at hV;rw[j5,ag M,ag O,ag l,ag L,ag N,ag fP,ag iu,ah lE]at J;rw[qZ,ag M,ag O,ag l]at hG;rw[cz,ag M,ag O,ag l,ag (show¬(o.kd=11\/o.kd=12)from λh=>h.elim L N),ag fP,ag iu,ah lE]at hK;rw[D0.o]at hV hK;rw[e0.o]at J;have HG:Z (aw V x0=true/\V=o.S/\aw z0 g=true):=U (by
   rw[Bv,ah hK]at hV;have f0:=(aS _ _).1 r0.o;have fg:=(aS _ _).1 hg.o;have e:aB V=aB z0:=by
    unfold vH at hK;rw[ah f0.1]at hK
    split at hK
    .split at hK
     .rename_i h;rw[<-hV,h]
     .exact absurd hK ao
    .exact absurd hK ao
   exact⟨(aS _ _).2 ⟨fg.1,by rw[f0.2,e]⟩,hV.symm,(aS _ _).2 ⟨f0.1,by rw[fg.2,e]⟩⟩)
  have qi:=U (And.intro J.symm hG.symm);(have h15:(o.kd==15)=true:=by simpa using lE);clear M O l L N fP iu lE;clear hV J hG hK;obtain⟨rfl,rfl⟩:=qi.o;go_upto_region 26 with(go_at_call 104;refine(bY hn HC).mono ?_;rintro e u ⟨rfl,_⟩);obtain⟨r,rfl⟩:=lg u;have Xv:w.1.size+1+1<(World.heap r).size:=(Bx.ak (w:=r) (g:=w.1.size+1+1)).lt;refine ax u0 ap (λD _=>?_);refine qL [0,1,2,3,4,5] ?_;refine aJ 6 λK hK=>?_;go_simp;refine(Ig Y Y Y Y Y r0 HG hg).mono ?_;rintro e D ⟨PA,pn,pc,XA,xn,xc,rfl,HPP,iP,_⟩;dsimp only;refine aE hK ?_;refine qL [7,8] ?_;refine aJ 9 λK hK=>?_;go_simp;obtain⟨v9,j⟩:=lg ((D.setCell (w.1.size+1+1,0) (PA,pn,pc)).setCell (w.1.size+1+1,1) (XA,xn,xc));rw[<-j];have vV:Below (World.heap u0).size u0 v9:=zI8;have zo:∀b,b<D.1.size->b≠w.1.size+1+1->(World.heap v9)[b]?=D.heap[b]?:=λb _ hb=>zI2;have ho:Bx v9 (w.1.size+1+1) _ #[(PA,pn,pc),(XA,xn,xc)]:=⟨by rw[j];exact aA.bP (Bx.ak (w:=D) (g:=w.1.size+1+1)) _ _⟩;have nE:aj v9 u0:=⟨vV⟩;obtain⟨v8,rfl⟩:=lg D;have B4:=j;refine aE hK ?_ ⟨vV⟩;clear hK K j;refine eE 10 ?_;exact zI3
 have h15:(o.kd==15)=false:=by simpa using lE
 have hV:=iO.o;have J:=HX.o;have hG:=Ih.o;have hK:=HK.o;rw[c6,ag M,ag O,ag l,ag (show¬(o.kd=11\/o.kd=12)from λh=>h.elim L N),ag fP,ag iu,ag lE]at hV;rw[qZ,ag M,ag O,ag l]at hG;rw[cz,ag M,ag O,ag l,ag (show¬(o.kd=11\/o.kd=12)from λh=>h.elim L N),ag fP,ag iu,ag lE]at hK;have Tw:=IN.o ⟨M,O,l,L,N,fP,iu,lE⟩;have ul:0<us.length:=by have:=x.len;omega
 have HG:Z (gQ o.kd us=0/\V=km us/\z0=V/\x0=ha us):=U (by
  have hn:(us.length:Int)=g8 o.kd:=by rw[<-x.len];exact Tw.1
  have e9:km us=z0:=by rw[<-D0.o,km,a5,bo]
  have fN:z0=V:=by
   rw[<-hV];exact et hK z0 (by rw[<-D0.o,a5,bo,bk ul];exact cw.2 ⟨_,Av ul,rfl⟩)
  refine⟨?_,by rw[e9,fN],fN,?_⟩
  .unfold gQ;rw[ag Tw.2.1,ah hn,ah];rw[dL];intro t ht;unfold Ex;rw[(hU.o t ht).1,e9,fN,<-hV];simpa using et hK t.zs (cw.2 ⟨t,ht,rfl⟩)
  .have e:=e0.o;rw[a5,bo,bk ul]at e;rw[ha,bk ul];exact(di (·.2) e).symm)
 have HZ:Z (∀t∈us,t.zs.length<=1000000):=U λt ht=>by have:=hU.o.len ht;omega
 have Wa:=U hG.symm;have rN:=U HG.o.1;have nF:=U HG.o.2.1;obtain rfl:=Wa.o;by_cases h5:o.kd<=5;focus have w7:Z (nx=1):=Tw.2.2.1 h5;rw[j5,ag M,ag O,ag l,ag L,ag N,ag fP,ag iu,ag lE,ah h5,e0.o,QP,HG.o.2.2.1]at J;have iP:Z (GX=[(V,j4 o.kd o.k us g (ha us).length)]):=U (by rw[<-J,<-HG.o.2.2.2]);obtain rfl:=iP.o;clear M O l L N fP iu lE hV J hG hK Tw h5 ul;go_upto_region 27 with(go_at_call 104;refine(bY hn HC).mono ?_;rintro e u ⟨rfl,_⟩);obtain rfl:=w7.o;go_wp2_with (first|(go_at_call 114;refine(Od Y HZ rN hg.o nF nF (U rfl)).mono ?_;rintro e u ⟨PA,pn,pc,rfl,vW,_⟩)|(go_at_call 110;refine mv (rK rfl) λu _=>?_))
 rotate_left;focus have w7:Z (nx=2):=U (by have h1:=Tw.1;unfold g8 at h1;split at h1<;>(try split at h1)<;>omega);rw[j5,ag M,ag O,ag l,ag L,ag N,ag fP,ag iu,ag lE,ag h5,e0.o,QP,abo,HG.o.2.2.1]at J;have iP:Z (GX=[(V,j4 o.kd o.k us g (ha us).length),(V,pj o.kd us g (ha us).length)]):=U (by rw[<-J,<-HG.o.2.2.2]);obtain rfl:=iP.o;clear M O l L N fP iu lE hV J hG hK Tw h5 ul;go_upto_region 27 with(go_at_call 104;refine(bY hn HC).mono ?_;rintro e u ⟨rfl,_⟩);obtain rfl:=w7.o;go_wp2_with (first|(go_at_call 114;refine(Oe Y HZ rN hg.o nF nF (U rfl) (U rfl)).mono ?_;rintro e u ⟨PA,pn,pc,rfl,vW,_⟩)|(go_at_call 110;refine mv (rK rfl) λu _=>?_))
 all_goals exact rL (x0:=.slice none 0 0) (x1:=.slice none 0 0) Y rfl (λW r0 r1=>by simp[results,results64,go_sem,r0,r1]) eQ.nil vW.at (Bx.ak (g:=w.1.size+1+1)).lt
end
end
variable{i:Nat}
section
variable{P:Nat}{ts:List Tn}
def EF(h:P*(xs.length/P)=xs)(b:j<P):(p6 P j xs).length=xs.length/P:=by
 have e:(j+1)*(xs.length/P)<=P*(xs.length/P):=cV _ b;rw[f7]at e;simp[p6];omega
theorem B0(b:∀t∈ts,P*(t.xs.length/P)=t.xs.length)(e:j<P):(e9 P j ts ts.length).length=dC P ts:=by
 rw[e9,bV (al _),dC];induction ts with
 |nil=>simp
 |cons t l m=>have:=m λu hu=>b u (iD _ hu);simp only[mu,bh,eh,jL,EF (b t dD) e,this]
theorem KC(b:∀t∈ts,P*(t.xs.length/P)=t.xs.length)(hi:i<=P):(p7 P ts i).length=i*dC P ts:=by
 induction i with
 |zero=>simp[p7]
 |succ i e=>grind [xe,List.length_append,B0,Nat.succ_mul]
end
variable{E x y:Int}
def TV.ok(t:TV):Prop:=aw t.1 t.2=true/\∀z∈t.2,bf z
section
variable{o:ir}{ps xs:List TV}
theorem a2{L:List TV}{k:Nat}:(L.map (·.1)).getD k []=(L.getD k ([],[])).1:=by
 grind
theorem h3{L:List TV}{k:Nat}(h:k<L):L.getD k ([],[])∈L:=by
 grind
def TV.ok.len{t:TV}(h:TV.ok t):(t.2.length:Int)=aB t.1:=((aS _ _).1 h.1).2
def TV.ok.right{t:TV}(h:TV.ok t):aH t.1=true:=((aS _ _).1 h.1).1
theorem pn{α:Type}{f:α->Int}(b:∀x,bf (f x)){L:List α}:∀z∈L.map f,bf z:=ay
theorem Fy{a:au}:∀z∈a.zipWith bB O,bf z:=(by grind [List.getElem?_of_mem,hW])
theorem Fz:bf 0:=⟨ao,ao⟩
def FB{W:Nat}{l:au}(h:∀z∈l,bf z):bf (ib y W l):=by
 unfold ib;split
 .cases l with
  |nil=>exact Fz
  |cons x t=>exact h _ (Fe aI).1
 exact Jb (AS _) (Je _)
theorem aci{xs:List Tn}(h:∀t∈xs,∀z∈t.xs,bf z)(i:Nat):bf (sec xs i):=by
 grind [sec,Fz,rM,List.mem_of_getElem?]
theorem acj{xs:List Tn}(h:∀t∈xs,∀z∈t.xs,bf z):∀z∈ha xs,bf z:=by
 grind [ha,List.mem_of_getElem?]
theorem rO(h:∀t∈xs,TV.ok t):∀t∈xs.map g1,∀z∈t.xs,bf z:=λt ht=>by
 obtain⟨v,hv,rfl⟩:=cw.1 ht;exact(h v hv).2
def Oh(h:∀t∈xs,TV.ok t):∀t∈xs.map g1,aw t.zs t.xs=true:=λt ht=>by
 obtain⟨v,hv,rfl⟩:=cw.1 ht;exact(h v hv).1
def XE:(xs.map g1).map (·.zs)=xs.map (·.1):=by rw[nO];rfl
theorem FC{V:au}(z:xs≠[])(B:∀t∈xs,TV.ok t)(hK:BC side (xs.map (·.1))=0)(hV:Em side (xs.map (·.1))=V):
  ∃b P I D:Nat,side=(b:Int)/\JW b P I D V/\zd side (xs.map g1)=0/\V=vD side (xs.map g1)/\jnX xs V side=p7 P (xs.map g1) P/\D*I=dC P (xs.map g1)/\eA b (xs.map g1) xs.length=D/\
   ∀t∈xs.map g1,P*(t.xs.length/P)=t.xs.length/\JW b P I (zN b t) t.zs:=by
 obtain⟨j,m⟩:=N5 (side:=side) (us:=xs.map g1) (by simpa using z) (Oh B);rw[XE]at j m;rw[hK]at j;rw[Em,ah hK,<-m]at hV;obtain⟨b,P,I,D,hs,r,_,e,C,u⟩:=Bo j;rw[hV]at r;rw[bn]at u;refine⟨b,P,I,D,hs,r,j,hV.symm,?_,C,u,λt ht=>?_⟩;grind [jnX,Int.toNat_natCast];obtain⟨y,l,_⟩:=e t ht;refine⟨?_,l⟩;rw[l.row y,l.cells y]
theorem KD{z:TV}(u:TV.ok z)(h:gz z.1 E x y=0):
  ∃j P I K F T:Nat,E=(j:Int)/\x=(F:Int)/\y=(T:Int)/\F<T/\T<=K/\JW j P I K z.1/\hH z.1 E x y=z.1.set j ((T:Int)-F)/\Hs z.1 z.2 E x y=cF (K*I) (F*I) ((T-F)*I) z.2 P/\aB (z.1.set j ((T:Int)-F))=((P*((T-F)*I):Nat):Int):=by
 have hq:=u.1;have B:gL z.1 z.2 E x y=0:=by rwa[gL,ah hq]
 have e:=h;unfold gz at e;split at e
 .rename_i hr;split at e;rename_i m;simp only[bU,b9]at m;obtain⟨⟨⟨⟨C,G⟩,x0⟩,r⟩,J⟩:=m;obtain⟨k,rfl⟩:=bO C;obtain⟨F,rfl⟩:=bO x0;obtain⟨T,rfl⟩:=bO (show 0<=y by omega);have D:k<z.1:=Y;obtain⟨P,I,K,b⟩:=JW.of hr D;(have l:T<=K:=by rw[a9,a5,b.at_]at r;simp at r;omega);refine⟨k,P,I,K,F,T,rfl,rfl,rfl,Y,l,b,by rw[hH,ah h,a9],?_,?_⟩;rw[Hs,ah B,a9,rv b.at_,b.behind,b.ahead,show((T:Int)-F)=((T-F:Nat):Int)from Y,<-cH,<-cH,<-cH,a9,a9,a9,a9];grind [p3,Int.natCast_mul];cases e
 cases e
def zI5(h:Γ:=by unfold gN at i1;split at i1<;>omega):=h
def zI6(h:Γ:=by exact⟨by grind [Td,iX,cG],pn λi=>FB λz N=>u.2 z ay⟩):=h
def zI9(h:Γ:=by unfold mS at hK;split at hK;assumption;grind):=h
theorem abr(hE:dr o (ps.map (·.1)) (xs.map (·.1))=0)(hp:∀t∈ps,TV.ok t)(K:∀t∈xs,TV.ok t)(hk:bf o.k):TV.ok (cy o (ps.map (·.1)) (xs.map (·.1)),xA o ps xs):=by
 obtain⟨hc,-,-,hK⟩:=jm hE;obtain⟨i0,i1,i2,i3⟩:=yF hc;have HR:=lC hE;rw[bn]at i1 i2 i3;obtain⟨V,hV⟩:=lh (cy o (ps.map (·.1)) (xs.map (·.1)));rw[hV]at HR⊢;have O:=hV;rw[cy,ah hE]at hV;have l0:0<xs.length:=zI5;have u:=K _ (h3 l0);have D:=u.len;suffices h:((xA o ps xs).length:Int)=aB V/\∀z∈xA o ps xs,bf z from⟨(aS _ _).2 ⟨HR,h.1⟩,h.2⟩;unfold xA;rw[O];by_cases m:o.kd=8;rw[fq,ah m]at i3;rw[ah m];rw[cz,ah m,a2,a2,a2]at hK;rw[c6,ah m,a2,a2,a2]at hV;have Q:=hp _ (h3 (L:=ps) (k:=1) Y);have R:iN (ps.getD 0 ([],[])).1 (ps.getD 1 ([],[])).1 (xs.getD 0 ([],[])).1=true:=zI9;rw[mR,ah R]at hV;simp only[iN,bU,b9]at R;obtain⟨⟨⟨⟨g1,g2⟩,g3⟩,g4⟩,g5⟩:=R;have e:(ps.getD 1 ([],[])).1=V:=by
  rw[<-hV];match(ps.getD 1 ([],[])).1,g2,g3 with
  |[y],_,g3=>grind
 refine⟨by rw[g7,Q.len,e],pn λi=>hW _ _⟩;rw[ag m];by_cases B:o.kd=9;rw[fq,ag m,ah (.inl B)]at i3;rw[ah B];rw[cz,ag m,ah B,a2,a2]at hK;rw[c6,ag m,ah B,a2,a2]at hV;have Q:=hp _ (h3 (L:=ps) (k:=0) Y);have M:=et hK _ (dD);have e2:=et hK (xs.getD 0 ([],[])).1 aI;rw[hV]at M e2;have l1d:=Q.len;grind [List.length_zipWith,Fy];rw[ag B];by_cases j:o.kd=10;rw[ah j];rw[cz,ag m,ag B,ah j,a2,a2]at hK;rw[c6,ag m,ag B,ah j,a2,a2]at hV;have hf:∃f,nY f (ps.getD 0 ([],[])).1 (xs.getD 0 ([],[])).1 V o.st:=zI4;unfold cvX;rw[dif_pos hf];exact⟨by rw[n5,hf.choose_spec.v],BQ⟩;rw[ag j];by_cases E:o.kd=11;rw[ah E];exact zI6;rw[ag E];by_cases G:o.kd=12;rw[ah G];exact zI6;rw[ag G];have b:¬(o.kd=11\/o.kd=12):=λh=>h.elim E G;by_cases l:o.kd=13;rw[ah l];rw[cz,ag m,ag B,ag j,ag b,ah l]at hK;rw[c6,ag m,ag B,ag j,ag b,ah l]at hV;obtain⟨nn,P,I,aa,hs,S,-,-,e,hZ,-,J⟩:=FC ay K hK hV;rw[e];refine⟨by rw[KC (λt ht=>(J t ht).1) (al _),<-hZ,S.prod],λz N=>?_⟩;grind [Wo,rO];rw[ag l];by_cases r:o.kd=14;rw[ah r];rw[cz,ag m,ag B,ag j,ag b,ag l,ah r,a2]at hK;rw[c6,ag m,ag B,ag j,ag b,ag l,ah r,a2]at hV;obtain⟨nn,P,I,aa,F,T,-,-,-,Ni,Hq,S,hv,ex,X⟩:=KD u hK;rw[ex];rw[hv]at hV;have h2:F*I+(T-F)*I<=aa*I:=by rw[<-im];exact cV _ Y
 exact⟨by rw[kD (by rw[S.cells u.1];exact al _) h2,<-hV,X],λz N=>u.2 z (oK N)⟩;rw[ag r];by_cases C:o.kd=15;rw[ah C];rw[cz,ag m,ag B,ag j,ag b,ag l,ag r,ah C,a2]at hK;rw[c6,ag m,ag B,ag j,ag b,ag l,ag r,ah C,a2]at hV;rw[Bv,ah hK]at hV;refine⟨?_,u.2⟩;rw[D];unfold vH at hK;grind;rw[ag C];rw[cz,ag m,ag B,ag j,ag b,ag l,ag r,ag C]at hK;rw[c6,ag m,ag B,ag j,ag b,ag l,ag r,ag C]at hV;have M:=et hK (xs.getD 0 ([],[])).1 ay;rw[hV]at M;rw[M]at D;exact⟨by rw[nX,D],pn λi=>S4 hk (rM (acj (rO K)) i) (aci (rO K) i)⟩
end
section
variable{o:ir}{ps xs:List TV}{V g:List Int}
theorem Ii{L:List TV}(h:L.length=1):L=[L.getD 0 ([],[])]:=by
 match L,h with
 |[x],_=>rfl
theorem QS{L:List TV}(h:L.length=2):L=[L.getD 0 ([],[]),L.getD 1 ([],[])]:=by
 match L,h with
 |[x,y],_=>rfl
def rP{xs:au}(hr:aH zs=true)(b:(xs.length:Int)=aB zs)(hb:∀z∈xs,bf z):TV.ok (zs,xs):=⟨(aS _ _).2 ⟨hr,b⟩,hb⟩
theorem QT(hE:dr o (ps.map (·.1)) (xs.map (·.1))=0)(hp:∀t∈ps,TV.ok t)(D:∀t∈xs,TV.ok t)(hV:cy o (ps.map (·.1)) (xs.map (·.1))=V)(hg:TV.ok (V,g)):
  (qZ o ps xs V g).map (·.1)=ps.map (·.1)/\∀t∈qZ o ps xs V g,TV.ok t:=by
 obtain⟨E,-,-,hK⟩:=jm hE;obtain⟨M,i1,i2,i3⟩:=yF E;rw[bn]at i1 i2 i3;rw[cy,ah hE]at hV;have F:0<xs.length:=zI5;have m:=D _ (h3 F);unfold qZ;by_cases j:o.kd=8;rw[fq,ah j]at i3;rw[ah j];rw[cz,ah j,a2,a2,a2]at hK;rw[c6,ah j,a2,a2,a2]at hV;have r:=hp _ (h3 (L:=ps) (k:=0) Y);have u:iN (ps.getD 0 ([],[])).1 (ps.getD 1 ([],[])).1 (xs.getD 0 ([],[])).1=true:=zI9;rw[mR,ah u]at hV;simp only[iN,bU,b9]at u;obtain⟨⟨⟨⟨G,I⟩,C⟩,N⟩,J⟩:=u;have e:(ps.getD 1 ([],[])).1=V:=by
  rw[<-hV];match(ps.getD 1 ([],[])).1,I,C with
  |[y],_,C=>grind
 have B:aB (ps.getD 0 ([],[])).1=aB V*aB (xs.getD 0 ([],[])).1:=by
  rw[J,<-hV];match(ps.getD 0 ([],[])).1,G with
  |[y,z],_=>simp[aB]
 refine⟨?_,λt ht=>?_⟩;conv=>rhs;rw[QS (L:=ps) Y]
 rfl;simp only[dE,tO,sy]at ht;rcases ht with rfl|rfl;exact rP r.right (by rw[tF,cH,hg.len,m.len,B]) (Fw hg.2 m.2);grind;rw[ag j];by_cases l:o.kd=9;rw[fq,ag j,ah (.inl l)]at i3;rw[ah l];rw[cz,ag j,ah l,a2,a2]at hK;rw[c6,ag j,ah l,a2,a2]at hV;have O:=et hK _ (dD);grind [List.mem_singleton,Ii];rw[ag l];by_cases b:o.kd=10;rw[fq,ag j,ah (.inr b)]at i3;rw[ah b];rw[cz,ag j,ag l,ah b,a2,a2]at hK;rw[c6,ag j,ag l,ah b,a2,a2]at hV;have r:=hp _ (h3 (L:=ps) (k:=0) Y);have K:∃f,nY f (ps.getD 0 ([],[])).1 (xs.getD 0 ([],[])).1 V o.st:=zI4;unfold Xw;rw[dif_pos K];refine⟨?_,λt ht=>?_⟩;conv=>rhs;rw[Ii (L:=ps) Y]
 rfl;rw[de.1 ht];exact rP r.right (by rw[n6,r.len]) ug;rw[ag b];rw[fq,ag j,ag (λh=>h.elim l b)]at i3;obtain rfl:ps=[]:=pB Y;grind
def zI7(h:Γ:=by exact one Y Y _ (by rw[Tt,h2,l.len]) (pn λi=>sS _ _)):=h
theorem KE(hE:dr o (ps.map (·.1)) (xs.map (·.1))=0)(K:∀t∈xs,TV.ok t)(hk:bf o.k)(hV:cy o (ps.map (·.1)) (xs.map (·.1))=V)(hg:TV.ok (V,g)):
  (j5 o ps xs V g).map (·.1)=xs.map (·.1)/\∀t∈j5 o ps xs V g,TV.ok t:=by
 obtain⟨hc,-,-,hK⟩:=jm hE;obtain⟨i0,i1,i2,i3⟩:=yF hc;rw[bn]at i1 i2 i3;rw[cy,ah hE]at hV;have l0:0<xs.length:=zI5;have l:=K _ (h3 l0);have one:¬(o.kd=6\/o.kd=7)->o.kd≠13->∀c:List Int,(c.length:Int)=aB (xs.getD 0 ([],[])).1->(∀z∈c,bf z)->[((xs.getD 0 ([],[])).1,c)].map (·.1)=xs.map (·.1)/\∀t∈[((xs.getD 0 ([],[])).1,c)],TV.ok t:=λh1 Q c hl hb=>by rw[jl,ag h1,ag Q]at i2;refine⟨?_,λt ht=>?_⟩;(conv=>rhs;rw[Ii (L:=xs) Y]);rfl;rw[de.1 ht];exact rP l.right hl hb
 unfold j5;by_cases u:o.kd=8;rw[ah u];exact one Y Y _ (by rw[<-l.len];simp[lO]) Fx;rw[ag u];by_cases y:o.kd=9;rw[ah y];rw[cz,ag u,ah y,a2,a2]at hK;rw[c6,ag u,ah y,a2,a2]at hV;have J:=et hK (xs.getD 0 ([],[])).1 aI;rw[hV]at J;rw[<-J];exact one Y Y _ (by rw[J];exact hg.len) hg.2;rw[ag y];by_cases m:o.kd=10;rw[ah m];rw[cz,ag u,ag y,ah m,a2,a2]at hK;rw[c6,ag u,ag y,ah m,a2,a2]at hV;have hf:∃f,nY f (ps.getD 0 ([],[])).1 (xs.getD 0 ([],[])).1 V o.st:=zI4;unfold Xx;rw[dif_pos hf];exact one Y Y _ (by rw[n7,l.len]) uh;rw[ag m];by_cases E:o.kd=11;rw[ah E];exact zI7;rw[ag E];by_cases G:o.kd=12;rw[ah G];exact zI7;rw[ag G];have b:¬(o.kd=11\/o.kd=12):=λh=>h.elim E G;by_cases e:o.kd=13;rw[ah e];rw[cz,ag u,ag y,ag m,ag b,ah e]at hK;rw[c6,ag u,ag y,ag m,ag b,ah e]at hV;obtain⟨D,P,I,aa,hs,C,-,-,-,-,hZ,M⟩:=FC ay K hK hV;have N:V.getD D 0=(aa:Int):=by rw[a5,C.at_];rfl
 unfold jnB;simp only[hs,a9,C.ahead,C.behind,N];refine⟨?_,λt ht=>?_⟩;rw[nO];apply eo;grind;obtain⟨j,R,rfl⟩:=cw.1 ht;rw[pF]at R;have S:=K _ (h3 R);have hm:(xs.map g1)[j]?=some (g1 (xs.getD j ([],[]))):=by rw[bo,bk R,a5,bk R];rfl
 obtain⟨-,X⟩:=M _ (aK hm);have hf:=yA (n:=D) hm;have hle:eA D (xs.map g1) (j+1)<=aa:=by have:=Fc (n:=D) (xs.map g1) (j+1);rw[bn,hZ]at this;exact this
 have Q:eA D (xs.map g1) j*I+zN D (g1 (xs.getD j ([],[])))*I<=aa*I:=by rw[<-im];exact cV _ Y
 refine rP S.right ?_ λz N=>hg.2 z (oK N);rw[kD (by rw[C.cells hg.1];exact al _) Q];exact X.prod.symm;rw[ag e];by_cases r:o.kd=14;rw[ah r];rw[cz,ag u,ag y,ag m,ag b,ag e,ah r,a2]at hK;rw[c6,ag u,ag y,ag m,ag b,ag e,ah r,a2]at hV;obtain⟨D,P,I,aa,F,T,e1,J,e3,Ni,Hq,C,hv,ex,hpl⟩:=KD l hK;rw[hv]at hV;have N:(xs.getD 0 ([],[])).1.getD D 0=(aa:Int):=by rw[a5,C.at_];rfl
 have oH:g=P*((T-F)*I):=by have:=hg.len;rw[<-hV,hpl]at this;exact Int.ofNat_inj.1 this
 refine one Y e _ ?_ ?_;unfold ctB;simp only[e1,J,e3,a9,C.ahead,C.behind,N];rw[rD Y Hq (al _) ay,C.prod];unfold ctB;exact QR hg.2;rw[ag r];by_cases B:o.kd=15;rw[ah B];rw[cz,ag u,ag y,ag m,ag b,ag e,ag r,ah B,a2]at hK;rw[c6,ag u,ag y,ag m,ag b,ag e,ag r,ah B,a2]at hV;rw[Bv,ah hK]at hV;refine one Y e _ ?_ hg.2;have:=hg.len;rw[<-hV]at this;rw[this];unfold vH at hK;grind;rw[ag B];rw[cz,ag u,ag y,ag m,ag b,ag e,ag r,ag B]at hK;have hX:∀z∈j4 o.kd o.k (xs.map g1) g (xs.getD 0 ([],[])).2.length,bf z:=If hk (aci (rO K)) hg.2;have hY:∀z∈pj o.kd (xs.map g1) g (xs.getD 0 ([],[])).2.length,bf z:=QQ (acj (rO K)) hg.2;obtain⟨kl,kh⟩:=Ai i0;by_cases k5:o.kd<=5;rw[ah k5];exact one Y e _ (by rw[gD,l.len]) hX;rw[ag k5];have O:o.kd=6\/o.kd=7:=Y;rw[gN,ah O]at i1;rw[jl,ah O]at i2;have Q:xs.length=2:=Y;have e1:=et hK (xs.getD 0 ([],[])).1 ay;have J:=et hK (xs.getD 1 ([],[])).1 ay;refine⟨?_,λt ht=>?_⟩;grind [QS];simp only[dE,tO,sy]at ht;rcases ht with rfl|rfl;exact rP l.right (by rw[gD,l.len]) hX;exact rP l.right (by rw[n8,l.len]) hY
end
