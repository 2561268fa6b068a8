/- Lemmas. -/
import Derived.Test.YtmkjnlifimffkaaGreatS16
namespace Go.Proofs.YtmkjnlifimffkaaGreat
open Go.RowKit Tryz
set_option linter.all false
set_option maxRecDepth 100000
set_option maxHeartbeats 0
variable{Γ:Prop}
attribute[local irreducible]Calls
variable{w w':World}{t:Tn}{A:Option Addr}{c:Nat}
def tc(ts:List Tn):List Value:=ts.flatMap λt=>[.slice t.A t.zs.length t.c,.slice t.B t.xs.length t.d]
def mL(ts b:List Tn):tc (ts++b)=tc ts++tc b:=by simp[tc]
def dX(ts:List Tn):(tc ts).length=ts*2:=by
 induction ts with
 |nil=>rfl
 |cons t l b=>simp[tc]at b⊢;omega
def Ga:∀{ts:List Tn} {j:Nat} {t:Tn},ts[j]?=some t->(tc ts)[j*2]?=some (.slice t.A t.zs.length t.c)/\(tc ts)[j*2+1]?=some (.slice t.B t.xs.length t.d)
 |u::l,0,t,h=>by simp at h;subst h;simp[tc]
 |u::l,j+1,t,h=>by have:=Ga (ts:=l) (j:=j) (t:=t) (by simpa using h);(have e:tc (u::l)=[.slice u.A u.zs.length u.c,.slice u.B u.xs.length u.d]++tc l:=by simp[tc]);rw[e,eE cr,eE cr];simp only[dj,iW];rw[show(j+1)*2-(0+1+1)=j*2 from om,show(j+1)*2+1-(0+1+1)=j*2+1 from om];exact this
def Yh(ts:List Tn):∀u∈tc ts,u.oneCell'=true:=by
 intro u hu;obtain⟨t,_,hu⟩:=jI.1 hu;simp at hu;rcases hu with rfl|rfl<;>rfl
def Ny(w:aa)(B:Nat)(A:bF)(c:Nat)(ts:List Tn):Prop:=w.ownsRow B 28 2 (.slice A ts c) ts.length (tc ts)
def TE(w:aa)(t:Tn):Prop:=Rd w t.A t.zs/\Rd w t.B t.xs/\t.xs.length<=t.d/\∀z∈t.xs,bb z
def TE.below(h:TE w t)(hb:Below w.1.size w w'):TE w' t:=⟨h.1.below hb,h.2.1.below hb,h.2.2⟩
def m3.elems{ts:List Tn}(h:m3 w A ts):∀t∈ts,TE w t:=λt ht=>by
 obtain⟨j,b⟩:=List.mem_iff_getElem?.1 ht;obtain⟨_,_,_,k⟩:=h j t b;exact⟨k.s,k.x,k.le,k.bd⟩
section
variable{B:Nat}{ts:List Tn}
def Ny.trd(h:Ny w B A c ts)(l:∀t∈ts,TE w t):m3 w A ts:=by
 rcases h.2 with⟨_,m⟩|⟨g,cap,b,hv,z,hg,C,hm,D,ht⟩;rw[hB m];exact m3.nil _ _;injection hv with hv _ _;subst hv;intro j t e;obtain⟨a0,r⟩:=Ga e;have u:=(a8.1 e).1;have look:∀k v,k<ts.length*2->(tc ts)[k]?=some v->w.cell? (g,k)=some v:=by intro k v y hv;rw[<-ht,eG,ah y]at hv;(have:b[k]?=some v:=by simpa using hv);simp[World.cell?,hg,this]
 obtain⟨s,x,le,bd⟩:=l t (aC e);refine⟨g,0,rfl,(dP.1 hg).1,?_,?_,s,x,le,bd⟩;rw[cf];exact look _ _ om a0;rw[cf];exact look _ _ om r
end
variable{G I R Z c' d d' j m m' n n' q:Nat}{ps us:List Tn}{V xg xs ys zg zs:List Int}{B C D:Option Addr}{side:Int}
def iu(ps:List Tn)(n:Nat):Array Value:=(tc ps++List.replicate ((n-ps.length)*2) (Value.slice none 0 0)).toArray
def z9(n:Nat):madeCells #[Value.slice none 0 0,Value.slice none 0 0] (n*2)=iu [] n:=by
 apply pa;simp only[madeCells,Array.toList_map,Array.toList_range,iu,tc,List.flatMap_nil,jE,iW,yo];apply ye;simp;intro i b e;simp only[List.getElem_map,List.getElem_range,List.getElem_replicate];rcases ME i with h|h<;>simp[h]
def jp(n:Nat)(l:n<=1000000)(W:aa):(Instr.makeSlice 23 (n:Int) (n:Int)).run prog W=.ok (W,n,n) (W.alloc (.cells (iu [] n) 28)):=by
 have b:(prog.info? 28).map (λi=>(i.zero,i.size,i.bytes))=some (some (.agg #[(),()]),2,48):=ao;obtain⟨i,hi,e⟩:=bt.1 b;simp only[eP]at e;obtain⟨j,hs,hb⟩:=e;have:=lQ (P:=prog) W 23 28 i _ underlying23 hi j .i64 .i64 n n om (eI _) (by rw[hs];simp;omega) (by rw[hb];omega) om;rw[hs]at this;rw[<-z9];simpa[Value.cells]using this
def rS(ps:List Tn)(h:ps<=n):(iu ps n).size=n*2:=by
 simp[iu,dX];omega
def Ik(ps:List Tn)(h:ps<n)(t:Tn):((iu ps n).setIfInBounds (ps.length*2) (.slice t.A t.zs.length t.c)).setIfInBounds (ps.length*2+1) (.slice t.B t.xs.length t.d)=iu (ps++[t]) n:=by
 have e:(n-ps.length)*2=(n-(ps++[t]).length)*2+1+1:=by simp;omega
 unfold iu;rw[e,jA,jA,tz,tz,lA _ _ (by rw[dX];exact al _),dX,fe,iS,
  lA _ _ (by rw[dX];omega),dX,tE,EC,iS,mL]
 simp[tc]
structure PB(w:World)(G n:Nat)(ps:List Tn):Prop where
 ak:az w G 28 (iu ps n)
 el:∀t∈ps,Sl w t.A t.zs.length t.zs/\Sl w t.B t.xs.length t.xs/\bG (G+1) t.A/\bG (G+1) t.B/\t.xs.length<=t.d/\(∀z∈t.xs,bb z)/\t.zs.length<=t.c
def PB.at[aT w w'](h:PB w G n ps):PB w' G n ps:=
 ⟨h.ak.at,λt ht=>by
  obtain⟨a,b,r⟩:=h.el t ht;exact⟨⟨a.rd.at,rfl⟩,⟨b.rd.at,rfl⟩,r⟩⟩
def PB.push(h:PB w G n ps)(l:ps<n)(a:Sl w t.A t.zs.length t.zs)(b:Sl w t.B t.xs.length t.xs)(e:bG (G+1) t.A)(j:bG (G+1) t.B)(ld:t.xs.length<=t.d)(bd:∀z∈t.xs,bb z)(lc:t.zs.length<=t.c):
  PB ((w.setCell (G,ps.length*2) (.slice t.A t.zs.length t.c)).setCell (G,ps.length*2+1) (.slice t.B t.xs.length t.d)) G n (ps++[t]):=by
 have aY:∀{A:bF} {zs:au},Sl w A zs zs->bG (G+1) A->Sl ((w.setCell (G,ps.length*2) (.slice t.A t.zs.length t.c)).setCell (G,ps.length*2+1) (.slice t.B t.xs.length t.d)) A zs.length zs:=
  λs f=>(s.setCell (p:=⟨G,ps.length*2,none⟩) f (o9 G) _).setCell (p:=⟨G,ps.length*2+1,none⟩) f (o9 G) _
 refine⟨by rw[<-Ik ps l t];exact(h.ak.av _ _).av _ _,λu hu=>?_⟩;rcases bM.1 hu with hu|hu;obtain⟨x,y,f1,f2,r⟩:=h.el u hu;exact⟨aY x f1,aY y f2,f1,f2,r⟩;rw[cZ.1 hu];exact⟨aY a e,aY b j,e,j,ld,bd,lc⟩
theorem PB.ts(h:PB w G n ps)(l:ps=n):Ts w G n ps:=
 ⟨λj t m=>by
  obtain⟨a0,r⟩:=Ga m;have e:iu ps n=(tc ps).toArray:=by simp[iu,l]
  have b:=h.ak;rw[e]at b;obtain⟨s,x,_,_,le,bd,_⟩:=h.el t (aC m);exact⟨G,0,rfl,yu b (by rw[cf];simpa using a0) (by rw[cf];simpa using r) s.rd x.rd le bd⟩,l.symm⟩
def PB.cells(h:PB w G n ps)(e:ps<n):w.cell? (G,ps.length*2)=some (.slice none 0 0)/\w.cell? (G,ps.length*2+1)=some (.slice none 0 0):=by
 have key:∀j,ps.length*2<=j->j<n*2->(iu ps n)[j]?=some (.slice none 0 0):=by intro j b l;simp only[iu,List.getElem?_toArray];rw[eE (by rw[dX];exact b),jy,ah (by rw[dX];omega)]
 exact⟨(h.ak.cell _).trans (key _ om om),(h.ak.cell _).trans (key _ om om)⟩
structure qP(nn P I Z:Nat)(us:List Tn)(xg:List Int)(ps:List Tn):Prop where
 el:∀(j:Nat) (p t:Tn),ps[j]?=some p->us[j]?=some t->p.zs=t.zs/\p.xs=cB (Z*I) (er nn us j*I) (zN nn t*I) xg P
def qP.push{P:Nat}{p:Tn}(h:qP m P I Z us V ps)(ht:us[ps.length]?=some t)(r:p.zs=t.zs)(u:p.xs=cB (Z*I) (er m us ps.length*I) (zN m t*I) V P):qP m P I Z us V (ps++[p]):=
 ⟨λj a b e hb=>by
  by_cases y:j<ps.length
  .rw[lK y]at e;exact h.el j a b e hb
  .have:=(a8.1 e).1;have l:j=ps.length:=by simp at this;omega
   subst l;rw[eE (al _)]at e;simp at e;subst e;rw[ht]at hb;cases hb;exact⟨r,u⟩⟩
def PE{P F:Nat}{S z1:au}(h:JW m P I Z S)(hr:ap S V=true)(hF:F+j<=Z)(e:1<=j)(hs:S.set m (j:Int)=z1):
  gL S V m (F:Int) ((F:Int)+j)=0/\HB S V m (F:Int) ((F:Int)+j)=z1/\Ft S V m (F:Int) ((F:Int)+j)=cB (Z*I) (F*I) (j*I) V P:=by
 have b:gm S m (F:Int) ((F:Int)+j)=0:=by (have hg:S.getD m 0=(Z:Int):=by rw[aQ,h.at_];rfl);have:=h.lt;rw[gm,ah h.right,ah];rw[aZ,hg];simp only[bK,bZ];omega
 have ht:gL S V m (F:Int) ((F:Int)+j)=0:=by rw[gL,ah hr,b]
 refine⟨ht,?_,?_⟩;rw[HB,ah ht,hG,ah b,aZ,show(F:Int)+j-F=(j:Int)from om,hs];rw[Ft,ah ht,aZ,qE h.at_,h.behind,h.ahead,show(F:Int)+j-F=(j:Int)from om,<-b8,<-b8,<-b8];rfl
def ab7(w:aa)(n b P I Z:Nat)(j:List Tn)(l:au)(e:Ending)(w':aa):Prop:=
 ∃G ps,e=.returned (.tuple #[.slice (some ⟨G,0,none⟩) n n,an])/\Ts w' (some ⟨G,0,none⟩) n ps/\Hx (qP b P I Z j l ps)/\w.1.size<=G/\Hx (∀t∈ps,bG (G+1) t.A/\bG (G+1) t.B/\t.zs.length<=t.c)/\aj w' w
section
variable{p:Nat}{ts:List Int}
def vM[a:Ts w A n us][Le n c]{P:Nat}{S:au}[sG:Sl w B p S][Sl w C q xg][Le q R][iG:cv xg](hn:n<=1000000)(Y:Hx (∀t∈us,t.zs.length<=1000000))(hE:Hx (xo j us=0))(r:Hx (JW j P I Z S))(hS:Hx (S=um j us))(hr:ap S xg=true)
  (N:Hx (∀t∈us,ap t.zs t.xs=true/\JW j P I (zN j t) t.zs/\S.set j (zN j t:Int)=t.zs)) (hF:Hx (er j us us.length=Z)):
  () 111 #[j,.agg #[.slice B p d,(C,q,R)],(A,n,c)] w (ab7 w n j P I Z us xg):=by
 obtain⟨CB,CP⟩:=kU;have FP:=@jN;have hS':Hx (S=if(0:Int)=0 then um j us else[]):=ae (by rw[ah rfl];exact hS);have hp4:p<=4:=by rw[sG.len];exact((a2 S).1 r.o.right).2.1
 have hS4:S.length<=4:=((a2 S).1 r.o.right).2.1;have hZ6:Z<=65536:=by have O:=r.o.small;have h2:Z*1<=Z*I:=fS _ r.o.i1;have h3:1*(Z*I)<=P*(Z*I):=cU _ r.o.p1;omega
 have la:=jp n hn;go_in;go_wp2_with (first|(go_at_call 177;refine(zQ om Y hE hS').mono ?_;rintro e u ⟨A',c',rfl,sA,lA,fA,_⟩)|(go_at_call 69;refine(bD om).mono ?_;rintro e u ⟨rfl,_⟩)|(go_at_call 70;refine(ku om om).mono ?_;rintro e u ⟨rfl,_⟩));clear la;obtain⟨v,rfl⟩:=lg u;have nX:=ae hr;clear hr;go_loopw [11,39] (λf i wr=>∃ps:List Tn,ps<=n/\i=.int .i64 ps.length/\f=.int .i64 (er j us ps.length)/\PB wr v.1.size n ps/\Hx (qP j P I Z us xg ps)/\aj wr v) (λ_ i _=>n-(intOf i).toNat);exact⟨[],aM _,rfl,rfl,⟨az.new _ _ _,λt ht=>by cases ht⟩,ae ⟨λaa p t hp=>by simp at hp⟩,aF⟩;obtain⟨ps,hk,rfl,rfl,l,y,hp⟩:=hrel;by_cases K:ps<n
 .obtain⟨b,o,A1,c1,z1,B1,d1,x1,rfl,ob,q0,q1,s1,t1,Co,i1,ht⟩:=a.get K;obtain⟨PF,E,G⟩:=N.o _ (aC ht.o);have L:=wK (n:=j) ht.o;have Q:=C4 (n:=j) us (ps.length+1);rw[hF.o,L]at Q;generalize T:zN j ⟨A1,c1,z1,B1,d1,x1⟩=zt at*;generalize U:er j us ps.length=F at*;simp only at E G;have V:=E.z1;have xu:=E.lt;obtain⟨HJ,M,J⟩:=PE r nX Q V G;have HJ:=ae HJ;have M:=ae M;have J:=ae J;obtain⟨b2,o2,z,rfl,jU,cz,jM⟩:=s1.get xu;(obtain rfl:z=(zt:Int):=by have O:=jM.o;rw[E.at_]at O;injection O with O;exact O.symm);obtain⟨g0,g1⟩:=l.cells K;have f0:=l.ak.frozen (ps.length*2);have f1:=l.ak.frozen (ps.length*2+1);have oG:Old v.1.size wr:=⟨l.ak.lt⟩;have HFS:=ae L;have HZT:=ae T;have HFF:=ae U;have HT:=ae ht;clear E G L T U PF;obtain⟨X,hX⟩:=lh (cB (Z*I) (F*I) (zt*I) xg P);rw[hX]at J;have HX:=ae hX;clear hX;go_wp2_with (go_at_call 178;refine(Nk om HJ M J).mono ?_;rintro e u ⟨A',c',B',d',rfl,sA,sX,lA,lX,fA,fX,_⟩);have PG:∀z∈X,bb z:=λz Y=>iG.bd z (n8 (by rw[HX.o];exact Y));have Fp:=(l.at (w':=u)).push (t:=⟨A',c',z1,B',d',X⟩) K sA sX (fA.less (bu oG.lt ai)) (fX.less (bu oG.lt ai)) lX.le PG lA.le;go_roundw;exact⟨ps++[⟨A',c',z1,B',d',X⟩],by simp;omega,aD,by simp only[bh,dj,iW,cf,HFS.o];simp,Fp,ae (y.o.push HT.o.o rfl (by rw[HFF.o,HZT.o,HX.o])),⟨((aP v u).setCell (p:=⟨v.1.size,ps.length*2,none⟩) (al _) _).setCell (p:=⟨v.1.size,ps.length*2+1,none⟩) (al _) _⟩⟩;simp[intOf];omega
 go_wp2_with fail;go_ret2;exact⟨v.1.size,ps,rfl,l.ts om,y,ai,ae λt ht=>⟨(l.el t ht).2.2.1,(l.el t ht).2.2.2.1,(l.el t ht).2.2.2.2.2.2⟩,aF⟩
end
variable{k:Nat}{kind kk z:Int}
def jY(b k:Int)(ts:List Tn)(gs:au)(m:Nat):List Int:=(List.range m).map λi=>dI b k ((g8 ts).getD i 0) (sec ts i) (gs.getD i 0)
def oO(b:Int)(ts:List Tn)(gs:au)(m:Nat):List Int:=(List.range m).map λi=>gP b ((g8 ts).getD i 0) (gs.getD i 0)
def gu(b k:Int)(ts:List Tn)(gs:au)(m:Nat):(jY b k ts gs m).length=m:=by simp[jY]
def Dk(b k:Int)(ts:List Tn)(gs:au)(m:Nat):jY b k ts gs (m+1)=jY b k ts gs m++[dI b k ((g8 ts).getD m 0) (sec ts m) (gs.getD m 0)]:=by simp[jY,g5]
def nD(b:Int)(ts:List Tn)(gs:au)(m:Nat):(oO b ts gs m).length=m:=by simp[oO]
def PH(b:Int)(ts:List Tn)(gs:au)(m:Nat):oO b ts gs (m+1)=oO b ts gs m++[gP b ((g8 ts).getD m 0) (gs.getD m 0)]:=by simp[oO,g5]
def getD_some{l:au}(h:l[k]?=some z):l.getD k 0=z:=by rw[aQ,h];rfl
def Aa(n:Nat)(l:n<=2)(W:aa):(Instr.makeSlice 23 (n:Int) (n:Int)).run prog W=.ok (W,n,n) (W.alloc (.cells (madeCells #[(),()] (n*2)) 28)):=by
 have b:(prog.info? 28).map (λi=>(i.zero,i.size,i.bytes))=some (some (.agg #[(),()]),2,48):=ao;obtain⟨i,hi,e⟩:=bt.1 b;simp only[eP]at e;obtain⟨j,hs,hb⟩:=e;have:=lQ (P:=prog) W 23 28 i _ underlying23 hi j .i64 .i64 n n om (eI _) (by rw[hs];simp;omega) (by rw[hb];omega) om;rw[hs]at this;simpa[Value.cells]using this
def aaL:madeCells #[(),()] 2= #[.slice none 0 0,.slice none 0 0]:=ao
def aaM:madeCells #[(),()] 4= #[.slice none 0 0,.slice none 0 0,.slice none 0 0,.slice none 0 0]:=ao
def aaN(w:aa)(z X:au)(e:Ending)(w':aa):Prop:=
 ∃G g b,e=.returned (.tuple #[.slice (some ⟨G,0,none⟩) 1 1,an])/\w.1.size<=G/\w.1.size<=g/\w.1.size<=b/\Bx w' G 28 #[.slice (some ⟨g,0,none⟩) z z.length,.slice (some ⟨b,0,none⟩) X X.length]/\Own w' g 3 z/\Own w' b 65 X/\aj w' w
def aaO(w:aa)(z X l Y:au)(e:Ending)(w':aa):Prop:=
 ∃G m b r j,e=.returned (.tuple #[.slice (some ⟨G,0,none⟩) 2 2,an])/\w.1.size<=G/\w.1.size<=m/\w.1.size<=r/\w.1.size<=b/\w.1.size<=j/\b≠j/\
  Bx w' G 28 #[.slice (some ⟨m,0,none⟩) z z.length,.slice (some ⟨b,0,none⟩) X X.length,.slice (some ⟨r,0,none⟩) l l.length,.slice (some ⟨j,0,none⟩) Y Y.length]/\
  Own w' m 3 z/\Own w' b 65 X/\Own w' r 3 l/\Own w' j 65 Y/\aj w' w
section
variable{p:Nat}{ts:List Tn}
def Gb[a:Ts w A 1 ts][I6 kk][Sl w B p zg][J:Sl w C q xg][cv xg](hp:p<=1000000)(hz:Hx (∀t∈ts,t.zs.length<=1000000))(hE:gQ kind ts=0)(hr:ap zg xg=true)(hs:zg=ka ts){X:au}(hZ:Hx (V=ka ts))(hX:Hx (X=jY kind kk ts xg (g8 ts).length)):
  () 114 #[kind,kk,.agg #[(B,p,d),(C,q,R)],(A,1,c)] w (aaN w V X):=by
 have CB:=@ay;have FB:=@aO;have CP:=@bW;obtain⟨-,-,-,D⟩:=rQ hE;obtain⟨b,o,A0,c0,z0,B0,d0,x0,rfl,ob,q0,q1,s0,t0,oK,i0,E⟩:=a.get (k:=0) om;simp only[e6,ef]at q0 q1;have F:=(D _ (aC E.o)).1;obtain⟨lx,Y,lz⟩:=gO F;simp only at lx Y lz;have G:Hx (g8 ts=x0):=ae (by simp[g8,E.o]);have L:Hx (ka ts=z0):=ae (by simp[ka,E.o]);have HS:Hx (∀i,i<x0.length->∀t,ts[1]?=some t->i<t.xs.length):=λi hi t ht=>by rw[zT hE (aC ht),G.o];exact hi
 have HI:=ae λi=>ux a.rd i;rw[L.o]at hs;subst hs;have M:Hx (xg.length=x0.length):=rK hr F;obtain⟨J,rfl⟩:=J;have J:Sl w C xg xg:=⟨J,rfl⟩;have hs:decide (zg=zg)=true:=gC rfl;have la:∀W:World,(Instr.makeSlice 23 (1:Int) (1:Int)).run prog W=.ok (.slice (some ⟨W.1.size,0,none⟩) 1 1) (W.alloc (.cells #[(),()] 28)):=λW=>by have:=Aa 1 om W;rw[show 1*2=2 from rfl,aaL]at this;exact this
 clear D F;go_in;go_wp2_with (go_at_call 180;refine(vI hz).mono ?_;rintro e u ⟨rfl,_⟩);refine aw ao (λj _=>?_);refine ff 0 ?_;refine aK 1 λK hK=>?_;go_simp;refine(bD om).mono ?_;rintro e j ⟨rfl,_⟩;dsimp only;refine aG hK ?_;refine qL [2,3,4,5,6,7,8,9] ?_;refine aK 10 λK hK=>?_;go_simp;refine(f9 om om).mono ?_;rintro e j ⟨rfl,_⟩;dsimp only;refine aG hK ?_;refine qL [11,12] ?_;refine a9 ?_;go_wp2_with fail;refine lR 2 ?_;rw[gH];go_wp2_with fail;refine ph (λv pv kG kE=>?_);refine(gW om om).mono ?_;rintro e w1 ⟨g,m,rfl,hg,zr,oS,oX,vD⟩;have N:Bx w1 j.1.size 28 #[(),()]:=aq;have hvx:j.1.size<v.1.size:=kG.ak.lt;go_wp2_with fail;obtain⟨T,l⟩:=lg ((w1.setCell (j.1.size,0) (.slice g zg zg.length)).setCell (j.1.size,1) (.slice m x0 x0.length));have O:Bx T j.1.size 28 #[.slice g zg zg.length,.slice m x0 x0.length]:=⟨l▸N.ak.bP _ _⟩;have P:Own T g 3 zg:=l▸oS.bA om _ _;have Q:Own T m 65 x0:=l▸oX.bA om _ _;have p5:aj T j:=⟨l▸br (aP j w1) (al _) _ _⟩;rw[<-l];clear l oS oX N;rw[gH];go_wp2_with fail;clear la hr hs;have FP:=@jN;go_loopw [58] (λi wr=>∃k:Nat,k<=x0/\i=.int .i64 k/\Own wr m 65 (e2 (jY kind kk ts xg) x0 k)/\Own wr g 3 zg/\Bx wr j.1.size 28 #[.slice g zg zg.length,.slice m x0 x0.length]/\aj wr j) (λi _=>x0.length-(intOf i).toNat);exact⟨0,aM _,rfl,by simpa[e2,jY]using Q,P,O,p5⟩;clear P Q O p5;obtain⟨k,hk,rfl,hO,hS,hB,hp⟩:=hrel;by_cases r:k<x0
 .obtain⟨b2,o2,x,rfl,jU,cx,U⟩:=t0.get r;obtain⟨b3,o3,y,rfl,Tv,cy,hy⟩:=J.get (k:=k) (by rw[M.o];exact r);(have hkg:k<xg:=by rw[M.o];exact r);have ix:I6 x:=cv.at U.o;have iy:I6 y:=cv.at hy.o;have is:=HI.o k;have S:=mG (f:=jY kind kk ts xg) (gu kind kk ts xg k) U.o;have sG:=hO.cell S;have tY:=hO.frozen k;have og:Old m wr:=⟨hO.lt⟩;have S8:=ae (kx (f:=jY kind kk ts xg) (z:=dI kind kk x (sec ts k) y) (gu kind kk ts xg k) (by rw[Dk,G.o,getD_some U.o,getD_some hy.o]) U.o);have HSk:=ae (HS.o k r);have n1:j.1.size≠m:=om;have n2:g≠m:=hS.aH (cs:=ints (e2 (jY kind kk ts xg) x0 k)) hO am;have n3:j.1.size<=m:=om;clear S;go_wp2_with fail;refine aw ao (λI _=>?_);refine qL [0,1,2,3,4,6,7,8,9,10] ?_;refine aK 5 λK hK=>?_;go_simp;refine(s3 om HSk).mono ?_;rintro e I ⟨rfl,_⟩;dsimp only;refine aG hK<|aK 11 λK hK=>?_;go_simp;refine(Di).mono ?_;rintro e I ⟨rfl,_⟩;dsimp only;refine aG hK ?_;refine qL [12,13,14,15,16] ?_;refine a9 ?_;go_wp2_with fail;go_roundw;have o2:=(hO.at (w':=I)).av k (dI kind kk x (sec ts k) y);rw[S8.o]at o2;exact⟨k+1,om,by go_num,o2,(hS.at (w':=I)).aY n2 _,⟨(Bx.ak (w:=I)).aY n1 _⟩,⟨(aP j I).setCell (p:=⟨m,k,none⟩) n3 _⟩⟩;simp[intOf];omega
 rw[mc r]at hO;obtain rfl:k=x0:=om;go_wp2_with fail;go_ret2;rw[hX.o,hZ.o,G.o,L.o];have PI:=(aP w j).size;exact⟨j.1.size,g,m,rfl,om,om,om,by rw[gu];exact hB,hS,hO,aF⟩
end
variable{g:Nat}{T:TypeId}{Y:List Int}
def az.aaP{a b c d:Value}(h:az w g T #[a,b,c,d])(v0 e:Value):az ((w.setCell (g,0) v0).setCell (g,1) e) g T #[v0,e,c,d]:=by simpa using(h.av 0 v0).av 1 e
def az.aaQ{a b c d:Value}(h:az w g T #[a,b,c,d])(v0 e:Value):az ((w.setCell (g,2) v0).setCell (g,3) e) g T #[a,b,v0,e]:=by simpa using(h.av 2 v0).av 3 e
def Own.Nz{p:Nat}(h:Own w g T zs)(hp:g≠p)(v0 b:Value):Own ((w.setCell (p,2) v0).setCell (p,3) b) g T zs:=(h.aY (p:=⟨p,2,none⟩) hp v0).aY (p:=⟨p,3,none⟩) hp b
def Yi{p:Nat}(h:Below n w w')(hp:n<=p)(v0 b:Value):Below n w ((w'.setCell (p,2) v0).setCell (p,3) b):=(h.setCell (p:=⟨p,2,none⟩) hp v0).setCell (p:=⟨p,3,none⟩) hp b
section
variable{p:Nat}{ts:List Tn}
def Gc[a:Ts w A 2 ts][I6 kk][Sl w B p zg][xG:Sl w C q xg][cv xg](hp:p<=1000000)(hz:Hx (∀t∈ts,t.zs.length<=1000000))(hE:gQ kind ts=0)(hr:ap zg xg=true)(hs:zg=ka ts){X:au}(hZ:Hx (V=ka ts))(hX:Hx (X=jY kind kk ts xg (g8 ts).length))(hY:Hx (Y=oO kind ts xg (g8 ts).length)):
  () 114 #[kind,kk,.agg #[(B,p,d),(C,q,R)],(A,2,c)] w (aaO w V X V Y):=by
 have CB:=@ay;have FB:=@aO;have CP:=@bW;obtain⟨-,-,-,F⟩:=rQ hE;obtain⟨b,o,A0,c0,z0,B0,d0,x0,rfl,ob,q0,q1,s0,t0,oK,i0,P⟩:=a.get (k:=0) om;obtain⟨b',o',A1,c1,z1,B1,d1,x1,eA,-,q2,q3,s1,t1,Co,i1,ht1⟩:=a.get (k:=1) om;injection eA with eA;injection eA with eb eo;subst eb eo;simp only[e6,ef,lS]at q0 q1 q2 q3;have I:=(F _ (aC P.o)).1;have Q:=(F _ (aC ht1.o)).1;have J:=(F _ (aC ht1.o)).2;obtain⟨lx,lx1,lz⟩:=gO I;simp only at lx lx1 lz J I Q;have M:Hx (g8 ts=x0):=ae (by simp[g8,P.o]);have xB:Hx (ka ts=z0):=ae (by simp[ka,P.o]);have HS:Hx (∀i,i<x0.length->∀t,ts[1]?=some t->i<t.xs.length):=λi hi t ht=>by rw[zT hE (aC ht),M.o];exact hi
 have HI:=ae λi=>ux a.rd i;rw[xB.o]at hs J;replace J:=hs.trans J.symm;subst hs;subst J;have S9:Hx (xg.length=x0.length):=rK hr I;have jQ:x1.length=x0.length:=rK Q I;have L:=ae jQ;have lx':x1.length<=65536:=om;obtain⟨xG,rfl⟩:=xG;have xG:Sl w C xg xg:=⟨xG,rfl⟩;have hs:decide (zg=zg)=true:=gC rfl;have la:∀W:World,(Instr.makeSlice 23 (2:Int) (2:Int)).run prog W=.ok (.slice (some ⟨W.1.size,0,none⟩) 2 2) (W.alloc (.cells #[(),(),(),()] 28)):=λW=>by have:=Aa 2 om W;rw[show 2*2=4 from rfl,aaM]at this;exact this
 clear F I Q jQ;go_in;go_wp2_with (go_at_call 180;refine(vI hz).mono ?_;rintro e u ⟨rfl,_⟩);refine aw ao (λl _=>?_);refine ff 0 ?_;refine aK 1 λK hK=>?_;go_simp;refine(bD om).mono ?_;rintro e l ⟨rfl,_⟩;dsimp only;refine aG hK ?_;refine qL [2,3,4,5,6,7,8,9] ?_;refine aK 10 λK hK=>?_;go_simp;refine(f9 om om).mono ?_;rintro e l ⟨rfl,_⟩;dsimp only;refine aG hK ?_;refine qL [11,12] ?_;refine a9 ?_;go_wp2_with fail;refine lR 3 ?_;rw[gH];go_wp2_with fail;refine ph (λv pv kG kE=>?_);refine(gW om om).mono ?_;rintro e w1 ⟨g,m,rfl,hg,zr,oS,oX,vD⟩;have kG1:Bx w1 l.1.size 28 #[(),(),(),()]:=aq;have hvx:l.1.size<v.1.size:=kG.ak.lt;go_wp2_with fail;obtain⟨w5,G⟩:=lg ((w1.setCell (l.1.size,0) (.slice g zg zg.length)).setCell (l.1.size,1) (.slice m x0 x0.length));have kG5:Bx w5 l.1.size 28 #[.slice g zg zg.length,.slice m x0 x0.length,(),()]:=⟨G▸kG1.ak.aaP _ _⟩;have S:Own w5 g 3 zg:=G▸oS.bA om _ _;have T:Own w5 m 65 x0:=G▸oX.bA om _ _;have p5:aj w5 l:=⟨G▸br (aP l w1) (al _) _ _⟩;rw[<-G];clear G oS oX kG1;rw[gH];go_wp2_with fail;refine ey (λv2 PJ kE2=>?_);refine(gW om om).mono ?_;rintro e w6 ⟨N,j,rfl,vE,ab8,uu,zP,pw6⟩;have TR:Bx w6 l.1.size 28 #[.slice g zg zg.length,.slice m x0 x0.length,(),()]:=aq;have Lq:w5.1.size<=v2.1.size:=ai;have hl5:=S.lt;have ab9:=T.lt;have hG5:=kG5.ak.lt;have oS6:=S.at (w':=w6);have oX6:=T.at (w':=w6);go_wp2_with fail;obtain⟨w7,r⟩:=lg ((w6.setCell (l.1.size,2) (.slice N zg zg.length)).setCell (l.1.size,3) (.slice j x1 x1.length));have kG7:Bx w7 l.1.size 28 #[.slice g zg zg.length,.slice m x0 x0.length,.slice N zg zg.length,.slice j x1 x1.length]:=⟨r▸TR.ak.aaQ _ _⟩;have oS7:Own w7 g 3 zg:=r▸oS6.Nz om _ _;have oX7:Own w7 m 65 x0:=r▸oX6.Nz om _ _;have oT7:Own w7 N 3 zg:=r▸uu.Nz om _ _;have oY7:Own w7 j 65 x1:=r▸zP.Nz om _ _;have p7:aj w7 l:=⟨r▸Yi (aP l w6) (al _) _ _⟩;have m1:l.1.size≠m:=om;have m2:l.1.size≠j:=om;have m3:m≠j:=om;have m4:l.1.size<=m:=om;have m5:l.1.size<=j:=om;rw[<-r];have k1:l.1.size<=g:=om;have k2:l.1.size<=N:=om;clear r oS6 oX6 uu zP S T TR kG5 pw6 PJ kE2 vD pv kG kE Lq hl5 ab9 hG5 hg zr vE ab8 p5;rw[gH];go_wp2_with fail;clear la hr hs;have FP:=@jN;go_loopw [58] (λi wr=>∃k:Nat,k<=x0/\i=.int .i64 k/\Own wr m 65 (e2 (jY kind kk ts xg) x0 k)/\Own wr j 65 (e2 (oO kind ts xg) x1 k)/\Own wr g 3 zg/\Own wr N 3 zg/\Bx wr l.1.size 28 #[.slice g zg zg.length,.slice m x0 x0.length,.slice N zg zg.length,.slice j x1 x1.length]/\aj wr l) (λi _=>x0.length-(intOf i).toNat);exact⟨0,aM _,rfl,by simpa[e2,jY]using oX7,by simpa[e2,oO]using oY7,oS7,oT7,kG7,p7⟩;clear oX7 oY7 oS7 oT7 kG7 p7;obtain⟨k,hk,rfl,hO,D,hS,hT,hB,hp⟩:=hrel;by_cases E:k<x0
 .obtain⟨b2,o2,x,rfl,jU,cx,hx⟩:=t0.get E;obtain⟨b3,o3,y,rfl,Tv,cy,hy⟩:=xG.get (k:=k) (by rw[S9.o];exact E);obtain⟨y1,U⟩:∃y1,x1[k]?=some y1:=⟨_,a5 (by rw[L.o];exact E)⟩;(have hkg:k<xg:=by rw[S9.o];exact E);(have TQ:k<x1:=by rw[L.o];exact E);have ix:I6 x:=cv.at hx.o;have iy:I6 y:=cv.at hy.o;have is:=HI.o k;have sG:=hO.cell (mG (f:=jY kind kk ts xg) (gu kind kk ts xg k) hx.o);have tY:=hO.frozen k;have hcy:=D.cell (mG (f:=oO kind ts xg) (nD kind ts xg k) U);have hfy:=D.frozen k;have og:Old m wr:=⟨hO.lt⟩;have og2:Old j wr:=⟨D.lt⟩;have S8:=ae (kx (f:=jY kind kk ts xg) (z:=dI kind kk x (sec ts k) y) (gu kind kk ts xg k) (by rw[Dk,M.o,getD_some hx.o,getD_some hy.o]) hx.o);have HYS:=ae (kx (f:=oO kind ts xg) (z:=gP kind x y) (nD kind ts xg k) (by rw[PH,M.o,getD_some hx.o,getD_some hy.o]) U);have HSk:=ae (HS.o k E);have n1:g≠m:=hS.aH (cs:=ints (e2 (jY kind kk ts xg) x0 k)) hO am;have n2:g≠j:=hS.aH (cs:=ints (e2 (oO kind ts xg) x1 k)) D am;have n3:N≠m:=hT.aH (cs:=ints (e2 (jY kind kk ts xg) x0 k)) hO am;have n4:N≠j:=hT.aH (cs:=ints (e2 (oO kind ts xg) x1 k)) D am;have m1':m≠l.1.size:=λe=>m1 e.symm;have m3':j≠m:=λe=>m3 e.symm;clear U;go_wp2_with fail;refine aw ao (λO _=>?_);refine qL [0,1,2,3,4,6,7,8,9,10] ?_;refine aK 5 λK hK=>?_;go_simp;refine(s3 om HSk).mono ?_;rintro e O ⟨rfl,_⟩;dsimp only;refine aG hK<|aK 11 λK hK=>?_;go_simp;refine(Di).mono ?_;rintro e O ⟨rfl,_⟩;dsimp only;refine aG hK ?_;refine qL [12,13,14,15,16] ?_;refine a9 ?_;go_wp2_with fail;go_roundw;have a1:=(hO.at (w':=O)).av k (dI kind kk x (sec ts k) y);have a2:=(D.at (w':=O)).aY (p:=⟨m,k,none⟩) m3' (dI kind kk x (sec ts k) y:Int);have a3:=a2.av k (gP kind x y);have a4:=a1.aY (p:=⟨j,k,none⟩) m3 (gP kind x y:Int);rw[S8.o]at a4;rw[HYS.o]at a3;exact⟨k+1,om,by go_num,a4,a3,((hS.at (w':=O)).aY (p:=⟨m,k,none⟩) n1 _).aY (p:=⟨j,k,none⟩) n2 _,((hT.at (w':=O)).aY (p:=⟨m,k,none⟩) n3 _).aY (p:=⟨j,k,none⟩) n4 _,⟨((Bx.ak (w:=O)).aY (p:=⟨m,k,none⟩) m1 _).aY (p:=⟨j,k,none⟩) m2 _⟩,⟨((aP l O).setCell (p:=⟨m,k,none⟩) m4 _).setCell (p:=⟨j,k,none⟩) m5 _⟩⟩;simp[intOf];omega
 rw[mc E]at hO;rw[mc (by rw[L.o];exact E)]at D;obtain rfl:k=x0:=om;go_wp2_with fail;go_ret2;rw[hX.o,hY.o,hZ.o,M.o,xB.o];have PI:=(aP w l).size;exact⟨l.1.size,g,m,N,j,rfl,om,om,om,om,om,m3,by rw[gu,nD,<-L.o];rw[L.o]at hB⊢;exact hB,hS,hO,hT,D,aF⟩
end
section
variable{X u:World}{b b' l:Nat}{JY T' T1 T2 T3:TypeId}{act:Act}{gp gx:List TV}{PK Yj cs lW yT:Array Value}{v:Value}
def eK(w:aa)(b:Nat)(A:bF)(n c:Nat)(L:List TV):Prop:=
 ∃ts,Ts w A n ts/\n<=c/\bG b A/\(∀t∈ts,bG b t.A/\bG b t.B/\t.zs.length<=t.c)/\ts.map Tn.tv=L
def vN(w:aa)(gp b:List TV)(e:Ending)(w':aa):Prop:=
 ∃A n c B m d,e=.returned (.tuple #[.agg #[.slice A n c,.slice B m d],an])/\eK w' w.1.size A n c gp/\eK w' w.1.size B m d b/\aj w' w
section
variable{ts:List Int}{L:List TV}
def eK.nil:eK w b none 0 0 []:=⟨[],Ts.empty,al _,bG.none,λ_ h=>absurd h aD,rfl⟩
def eK.at(h:eK w b A n c L)[l:aT w w']:eK w' b A n c L:=by
 obtain⟨ts,e,j⟩:=h;exact⟨ts,⟨e.rd.below l.st,e.len⟩,j⟩
def eK.less(h:eK w b A n c L)(hb:b'<=b):eK w b' A n c L:=by
 obtain⟨ts,j,l,r,e,u⟩:=h;exact⟨ts,j,l,r.less hb,λt ht=>⟨(e t ht).1.less hb,(e t ht).2.1.less hb,(e t ht).2.2⟩,u⟩
def m3.aY{p:Addr}(h:m3 w A us)(fA:bG b A)(ft:∀t∈us,bG b t.A/\bG b t.B/\t.zs.length<=t.c)(hp:p.block<b)(v:Value):m3 (w.setCell p v) A us:=λj t E=>by
 obtain⟨g,o,rfl,k⟩:=h j t E;have ne:g≠p.block:=by have:=fA.o _ rfl;dsimp only at this;omega
 have F:∀i,(w.setCell p v).cell? ⟨g,i,none⟩=w.cell? ⟨g,i,none⟩:=λi=>d9 (ba w p v g ne);have ht:=ft t (aC E);have e:∀{A:bF} {zs:au},Rd w A zs->bG b A->Rd (w.setCell p v) A zs:=λ{A zs} hr I j z J=>by obtain⟨l,K,rfl,r,u⟩:=hr j z J;(have y:l≠p.block:=by have:=I.o _ rfl;dsimp only at this;omega);exact⟨l,K,rfl,by simpa using r,(d9 (ba w p v l y)).trans u⟩
 exact⟨g,o,rfl,⟨by simpa using k.old,(F _).trans k.c0,(F _).trans k.c1,e k.s ht.1,e k.x ht.2.1,k.le,k.bd⟩⟩
def eK.aY{p:Addr}(h:eK w b A n c L)(hp:p.block<b)(v:Value):eK (w.setCell p v) b A n c L:=by
 obtain⟨ts,e,r,j,l,u⟩:=h;exact⟨ts,⟨e.rd.aY j l hp v,e.len⟩,r,j,l,u⟩
def eK.bA(h:eK w b A n c L)(hp:G<b)(v0 e:Value):eK ((w.setCell (G,0) v0).setCell (G,1) e) b A n c L:=
 (h.aY (p:=⟨G,0,none⟩) hp v0).aY (p:=⟨G,1,none⟩) hp e
def eK.one[Bx w G T #[(A,n,c),(B,m,d)]][s:Sl w A n zs][Sl w B m xs][e:Le n c][Le m d][cv xs](j:b<=G)(fA:bG b A)(fB:bG b B):eK w b G 1 1 [(zs,xs)]:=
 ⟨_,Ts.yS,al _,fy j,λt ht=>by rw[cZ.1 ht];exact⟨fA,fB,by rw[<-s.len];exact e.le⟩,rfl⟩
def eK.two[Bx w G T #[(A,n,c),(B,m,d),(C,R,c'),(D,m',d')]][s:Sl w A n zs][Sl w B m xs][j:Le n c][Le m d][cv xs][l:Sl w C R ts][Sl w D m' ys][e:Le R c'][Le m' d'][cv ys](r:b<=G)(fA:bG b A)(fB:bG b B)(u:bG b C)(y:bG b D):
  eK w b G 2 2 [(zs,xs),(ts,ys)]:=
 ⟨_,Ts.M0,al _,fy r,λt ht=>by
  simp only[cw,nR,o2]at ht;rcases ht with rfl|rfl
  .exact⟨fA,fB,by rw[<-s.len];exact j.le⟩
  .exact⟨u,y,by rw[<-l.len];exact e.le⟩,rfl⟩
def ie{F:Func}(k:Bx X G T #[(A,n,c),(B,m,d)])[aT w u](l:w.1.size<=G)(j:X=(u.setCell (G,0) (A,n,c)).setCell (G,1) (B,m,d))(hd:act.defers=[])
  (e:∀W:World,W.cell? (G,0)=some (.slice A n c)->W.cell? (G,1)=some (.slice B m d)->(results F act.tmps).run prog W=.ok (.tuple #[.agg #[(A,n,c),(B,m,d)],an]) W)
  (r:eK u b A n c gp) (y:eK u b B m d gx) (hb:G<b):bodyPost prog F (vN w gp gx) .ret act X:=by
 obtain⟨r0,r1⟩:=bI k.ak;refine aX (e _ r0 r1) hd ⟨A,n,c,B,m,d,rfl,?_,?_,?_⟩;rw[j];exact(r.bA hb _ _).less om;rw[j];exact(y.bA hb _ _).less om;rw[j];exact⟨br (aP w u) l _ _⟩
def aaR(w:aa)(b:Nat)(L:List TV)(e:Ending)(w':aa):Prop:=
 ∃G,e=.returned (.tuple #[.agg #[(),.slice (some ⟨G,0,none⟩) 1 1],an])/\eK w' b (some ⟨G,0,none⟩) 1 1 L/\aj w' w
def s0{Q:World->Prop}{T:TypeId}(h:∀u,aj u X->Bx u X.1.size T cs->Bx u (X.1.size+1) T' lW->Bx u (X.1.size+1+1) JY yT->u.1.size=X.1.size+1+1+1->Q u):Q (((X.alloc (.cells cs T)).alloc (.cells lW T')).alloc (.cells yT JY)):=
 h _ (aF) aq aq aq aD
def Dl{Q:World->Prop}{T:TypeId}(h:∀u,aj u X->Bx u X.1.size T cs->Q u):Q (X.alloc (.cells cs T)):=h _ (aF) aq
def Lr{Q:World->Prop}{T:TypeId}{j:m0}(h:∀e u,aj e X->aj u e->Bx e X.1.size T cs->Bx e (X.1.size+1) T1 PK->Bx e (X.1.size+1+1) T2 Yj->e.1.size<=X.1.size+1+1+1->Bx u (X.1.size+1+1+1) T3 j->Q u):Q ((((X.alloc (.cells cs T)).alloc (.cells PK T1)).alloc (.cells Yj T2)).alloc (.cells j T3)):=
 h (((X.alloc (.cells cs T)).alloc (.cells PK T1)).alloc (.cells Yj T2)) _ (aF) (aF) aq aq aq aD aq
def Ls{Q:World->Prop}{T:TypeId}(h:∀e u,aj e X->aj u e->Bx e X.1.size T cs->Bx e (X.1.size+1) T1 PK->e.1.size<=X.1.size+1+1->Bx u (X.1.size+1+1) T2 Yj->Q u):Q (((X.alloc (.cells cs T)).alloc (.cells PK T1)).alloc (.cells Yj T2)):=
 h ((X.alloc (.cells cs T)).alloc (.cells PK T1)) _ (aF) (aF) aq aq aD aq
def oP[Sl w A n zs][Sl w B m xs](l:n<=1000000)(hm:m<=1000000):() 71 #[.agg #[(A,n,c),(B,m,d)]] w λe w'=>∃g j,e=.returned (.agg #[.slice (some ⟨g,0,none⟩) zs zs.length,.slice (some ⟨j,0,none⟩) xs xs.length])/\Sl w' (some ⟨g,0,none⟩) zs zs/\Sl w' (some ⟨j,0,none⟩) xs xs/\bG w.1.size (some ⟨g,0,none⟩)/\bG w.1.size (some ⟨j,0,none⟩)/\aj w' w:=
 (gW l hm).mono λ_ _ ⟨g,j,h,r,u,o1,y,p⟩=>⟨g,j,h,⟨o1.rd,rfl⟩,⟨y.rd,rfl⟩,fy r,fy u,p⟩
def PL[Sl w A n zs][Sl w B m xs][Sl w C R ts][Sl w D m' ys][cv xs][cv ys](l:n<=1000000)(j:R<=1000000)(h:Hx (cR ts ys zs xs=true)):
  () 159 #[.agg #[.slice A n c,.slice B m d],.agg #[(C,R,c'),(D,m',d')]] w λe w'=>∃L A c B d,e=.returned (.tuple #[.agg #[.slice A ts c,.slice B L d],an])/\Sl w' A ts ts/\aj w' w:=
 (Ig l j h rfl).mono λ_ _ ⟨A,c,B,d,e,r,_,_,_,_,_,p⟩=>⟨_,A,c,B,d,e,r,p⟩
def pK[Sl w A n zs][Sl w B m xs][Le n c][Le m d][cv xs](hb:b<=w.1.size)(fA:bG b A)(fB:bG b B):
  () 108 #[.agg #[(A,n,c),(B,m,d)],an] w (aaR w b [(zs,xs)]):=by
 have e:=@ay;have j:=@aO;go_in;go_wp2_with fail;refine s0 (λu _ _ k1 k2 _=>?_);obtain⟨r0,r1⟩:=bI k1.ak;exact aX (v:=.tuple #[.agg #[(),(w.1.size+1+1,1,1)],an]) (by simp[results,results108,go_sem,r0,r1]) rfl ⟨_,rfl,eK.one om fA fB,aF⟩
def qQ{p:Nat}{V:bF}(hv:v=.slice V p k):() 110 #[v,an] w (aJ w (.tuple #[.agg #[(),v],an])):=by
 subst hv;have e:=@ay;have j:=@aO;go_in;go_wp2_with fail;refine Dl (λu _ k1=>?_);obtain⟨r0,r1⟩:=bI k1.ak;exact aX (v:=.tuple #[.agg #[(),(V,p,k)],an]) (by simp[results,results110,go_sem,r0,r1]) rfl ⟨rfl,aF⟩
def Gd[Sl w A n zs][b:Sl w B m xs][Sl w C R zs][Sl w D m' ts][cv xs][cv ts]{E F:bF}{p:Nat}[sg:Sl w E p zs][Sl w F q ys][cv ys](hn:n<=4)(FR:R<=4)(hp:p<=4)(hq:q<=65536)
  (h1:Hx (ap zs xs=true)) (h2:Hx (ap zs ts=true)) (h3:ap zs ys=true):
  () 106 #[.agg #[(A,n,c),(B,m,d)],.agg #[(C,R,c'),(D,m',d')],.agg #[(E,p,j),(F,q,l)]] w (vN w [(zs,ys)] [(zs,ys)]):=by
 have CB:=@ay;have FB:=@aO;have HA:Hx (cR zs ts zs xs=true):=ae (by rw[cR,h1.o,h2.o];simp);have hd:decide (zs=zs)=true:=gC rfl;have S6:zs.length<=4:=by rw[<-sg.len];exact hp
 go_in;go_upto_region 1 with fail;refine Lr (λM u _ _ k0 k1 k2 hz k3=>?_);go_upto_region 6 with(first|(go_at_call 159;refine(PL om om HA).mono ?_;rintro e u ⟨L9,A',c',B',d',rfl,sA,_⟩)|(first|(go_at_call 69;refine(bD om).mono ?_;rintro e u ⟨rfl,_⟩)|(go_at_call 70;refine(f9 om om).mono ?_;rintro e u ⟨rfl,_⟩)));obtain⟨r,rfl⟩:=lg u;have TS:w.1.size+1+1+1<(World.heap r).size:=(Bx.ak (w:=r) (g:=w.1.size+1+1+1)).lt;refine ab M ao (λz _=>?_)
 repeat' (first
  |(refine j8 0 ?_
    refine ff 0 ?_;refine jL 3 35 ?_)
  |(refine j8 6 ?_
    refine jL 6 38 ?_)
  |(refine j8 8 ?_
    refine jL 8 7 ?_)
  |(intro (tg:Tg 1) K hK
    clear tg;go_simp
    refine(oP om om).mono ?_
    rintro e z ⟨g1,g1',rfl,Yb,oX1,f1,P,_⟩;dsimp only;refine aG hK ?_;clear hK K)
  |(intro (tg:Tg 2) K hK
    clear tg;go_simp;obtain⟨Q,I⟩:=lh ((World.heap z).size);have S:(World.heap r).size<=Q:=by rw[<-I];exact ai
    refine aG hK ?_;refine bc (λz _ U=>?_);rw[I]at U⊢;clear I)
  |(intro (tg:Tg 4) K hK
    clear tg;go_simp
    refine(oP om om).mono ?_
    rintro e z ⟨g2,g2',rfl,uu,zP,f2,V,_⟩;dsimp only;refine aG hK ?_;clear hK K)
  |(intro (tg:Tg 5) K hK
    clear tg;go_simp;obtain⟨X,J⟩:=lh ((World.heap z).size);have Y:(World.heap r).size<=X:=by rw[<-J];exact ai
    refine aG hK ?_;refine bc (λz _ Z=>?_);rw[J]at Z⊢;clear J)
  |(intro (tg:Tg 7) K hK
    clear tg;go_simp;obtain⟨O,y⟩:=lg ((z.setCell (w.1.size+1+1+1,0) (Q,1,1)).setCell (w.1.size+1+1+1,1) (X,1,1));rw[<-y];have N:Below (World.heap M).size M O:=by rw[y];exact br (aP M z) hz _ _
    have xA:∀b,b<z.1.size->b≠w.1.size+1+1+1->(World.heap O)[b]?=z.heap[b]?:=λb _ hb=>by rw[y];exact(ba _ ⟨w.1.size+1+1+1,1,none⟩ _ b hb).trans (ba _ ⟨w.1.size+1+1+1,0,none⟩ _ b hb)
    have he:Bx O (w.1.size+1+1+1) _ #[(Q,1,1),(X,1,1)]:=⟨by rw[y];exact az.bP (Bx.ak (w:=z) (g:=w.1.size+1+1+1)) _ _⟩;have m6:aj O M:=⟨N⟩;obtain⟨v8,rfl⟩:=lg z;have Ad:=y;refine aG hK ?_ ⟨N⟩;clear hK K y)
  |refine fg 1 ?_
  |refine fg 2 ?_
  |refine fg 7 ?_
  |refine fg 5 ?_
  |refine fg 4 ?_
  |refine mf 2 4 ?_ ?_
  |refine mf 2 5 ?_ ?_
  |refine BU ?_)
 all_goals go_wp2_with fail;exact ie (b:=r.1.size) he om Ad rfl (λW r0 r1=>by simp[results,results106,go_sem,r0,r1]) (eK.one S (f1.less ai) (P.less ai)) (eK.one Y (f2.less ai) (V.less ai)) om
end
end
section
variable{u:World}{b b' c2 cx d2 e e' f' gc gd i l n2 nx:Nat}{O gs:List Int}{T1 T2:TypeId}{S sd st tt y:Int}{act:Act}{GP GX gp gx:List TV}{x0 x1:Value}
noncomputable def TT(p x:TV)(V:au)(S:Int)(g:au):List Int:=by
 classical exact if h:∃f,nz f p.1 x.1 V S then eS g x.2 p.2.length h.choose.all else[]
noncomputable def TU(p x:TV)(V:au)(S:Int)(g:au):List Int:=by
 classical exact if h:∃f,nz f p.1 x.1 V S then eT g p.2 x.2.length h.choose.all else[]
def PM(b:Int)(x:TV)(V:au)(W S:Int)(g:au):List Int:=tab x.2.length (jV b x.2 g (dS x.1).toNat (dS V).toNat S.toNat W.toNat (ax V).toNat)
def Yk(xs:List TV)(V:au)(b:Int)(g:au):List TV:=
 let e:=b.toNat
 let P:=(ax (V.take e)).toNat
 let I:=(ax (V.drop (e+1))).toNat
 let Z:=(V.getD e 0).toNat
 (List.range xs.length).map λj=>((xs.getD j ([],[])).1,cB (Z*I) (er e (xs.map g1) j*I) (zN e (g1 (xs.getD j ([],[])))*I) g P)
def Yl(x:TV)(b F T:Int)(g:au):List Int:=
 oM (ax (x.1.take b.toNat)).toNat (ax (x.1.drop (b.toNat+1))).toNat F.toNat T.toNat (x.1.getD b.toNat 0).toNat g (ax (x.1.take b.toNat)).toNat
noncomputable def ql(o:ir)(ps xs:List TV)(V g:au):List TV:=
 if o.kd=8 then[((ps.getD 0 ([],[])).1,e4 g (xs.getD 0 ([],[])).2),((ps.getD 1 ([],[])).1,g)]
 else if o.kd=9 then[(V,g)]
 else if o.kd=10 then[((ps.getD 0 ([],[])).1,TT (ps.getD 0 ([],[])) (xs.getD 0 ([],[])) V o.st g)]
 else[]
noncomputable def jZ(o:ir)(ps xs:List TV)(V g:au):List TV:=
 if o.kd=8 then[((xs.getD 0 ([],[])).1,lD (xs.getD 0 ([],[])).2.length (ps.getD 0 ([],[])).2 g)]
 else if o.kd=9 then[(V,g)]
 else if o.kd=10 then[((xs.getD 0 ([],[])).1,TU (ps.getD 0 ([],[])) (xs.getD 0 ([],[])) V o.st g)]
 else if o.kd=11 then[((xs.getD 0 ([],[])).1,PM 1 (xs.getD 0 ([],[])) V o.wd o.st g)]
 else if o.kd=12 then[((xs.getD 0 ([],[])).1,PM 2 (xs.getD 0 ([],[])) V o.wd o.st g)]
 else if o.kd=13 then Yk xs V o.sd g
 else if o.kd=14 then[((xs.getD 0 ([],[])).1,Yl (xs.getD 0 ([],[])) o.sd o.fr o.tt g)]
 else if o.kd=15 then[((xs.getD 0 ([],[])).1,g)]
 else if o.kd<=5 then[((xs.getD 0 ([],[])).1,jY o.kd o.k (xs.map g1) g (xs.getD 0 ([],[])).2.length)]
 else[((xs.getD 0 ([],[])).1,jY o.kd o.k (xs.map g1) g (xs.getD 0 ([],[])).2.length),((xs.getD 0 ([],[])).1,oO o.kd (xs.map g1) g (xs.getD 0 ([],[])).2.length)]
structure TF(w:World)(b:Nat)(A:Option Addr)(c:Nat)(B:Option Addr)(d:Nat)(zs xs:List Int):Prop where
 s:Sl w A zs zs
 x:Sl w B xs xs
 lc:Le zs.length c
 ld:Le xs.length d
 fA:bG b A
 fB:bG b B
section
variable{E F:Option Addr}{m2 p:Nat}{ts us vs:List Int}{u5:List Tn}
def TF.below(h:TF w b A c B d zs xs)(hb:Below w.1.size w w')(l:b'<=b):TF w' b' A c B d zs xs:=⟨⟨h.s.rd.below hb,rfl⟩,⟨h.x.rd.below hb,rfl⟩,h.lc,h.ld,h.fA.less l,h.fB.less l⟩
def TF.aY(h:TF w b A c B d zs xs)(e:G<b)(v:Value):TF (w.setCell (G,i) v) b A c B d zs xs:=⟨h.s.setCell (p:=⟨G,i,none⟩) h.fA e v,h.x.setCell (p:=⟨G,i,none⟩) h.fB e v,h.lc,h.ld,h.fA,h.fB⟩
def TF.less(h:TF w b A c B d zs xs)(l:b'<=b):TF w b' A c B d zs xs:=⟨h.s,h.x,h.lc,h.ld,h.fA.less l,h.fB.less l⟩
def TF.one[Bx w G T #[.slice A zs c,.slice B xs d]](t:TF w b' A c B d zs xs)(i6:∀z∈xs,bb z)(e:b<=G)(l:b<=b'):eK w b G 1 1 [(zs,xs)]:=by
 have:=t.s;have:=t.x;have:=t.lc;have:=t.ld;have:cv xs:=⟨i6⟩;exact eK.one e (t.fA.less l) (t.fB.less l)
def aaS(w:aa)(z1 x1 j x2 z3 l:au)(e:Ending)(w':aa):Prop:=
 ∃r c1 u d1 y c2 z d2 I c3 J K,e=.returned (.tuple #[.agg #[.slice r z1 c1,.slice u x1 d1,.slice y j c2,.slice z x2 d2,.slice I z3 c3,.slice J l K],an])/\
  TF w' w.1.size r c1 u d1 z1 x1/\TF w' w.1.size y c2 z d2 j x2/\TF w' w.1.size I c3 J K z3 l/\aj w' w
def aB.tf(e:aB w b T1 A c zs)(j:aB w b T2 B d xs):TF w b A c B d zs xs:=⟨⟨e.rd,rfl⟩,⟨j.rd,rfl⟩,⟨e.ii⟩,⟨j.ii⟩,⟨e.fresh⟩,⟨j.fresh⟩⟩
def Il[a:Sl w A n zs][j:Sl w B m xs][l:Sl w C R ts][I:Sl w D m' ys][r:Sl w E n2 us][u:Sl w F m2 vs]{P Q:bF}[a3:Sl w P p ts][y:Sl w Q q gs][ld:Le m d][J:cv xs][K:cv vs][L:cv gs](z:n2<=1000000){X:au}(hr:Hx (zJ zs xs ts ys us vs ts gs=true))(M:Hx (X=e4 gs vs))(N:Hx (Y=lD vs.length xs gs)):
  () 105 #[.agg #[(A,n,c),(B,m,d)],.agg #[(C,R,c'),(D,m',d')],.agg #[(E,n2,c2),(F,m2,d2)],.agg #[(P,p,e'),(Q,q,f')]] w (aaS w zs X ts gs us Y):=by
 obtain⟨a,rfl⟩:=a;obtain⟨j,rfl⟩:=j;obtain⟨l,rfl⟩:=l;obtain⟨I,rfl⟩:=I;obtain⟨r,rfl⟩:=r;obtain⟨u,rfl⟩:=u;obtain⟨a3,rfl⟩:=a3;obtain⟨y,rfl⟩:=y;rw[M.o,N.o];exact(H2 A B C D E F P Q c d c' d' c2 d2 e' f' zs xs ts ys us vs ts gs w ld.le z a j l r u a3 y (ae J.bd) (ae K.bd) (ae L.bd) hr).mono λ_ _ ⟨O,c1,S,d1,U,c2,Z,d2,A3,c3,B3,d3,e,o1,o2,o3,o4,o5,o6,hb⟩=>⟨O,c1,S,d1,U,c2,Z,d2,A3,c3,B3,d3,e,o1.tf o2,o3.tf o4,o5.tf o6,⟨hb⟩⟩
def aaT(w:aa)(z1 x1 j x2:au)(e:Ending)(w':aa):Prop:=
 ∃l c1 r d1 u c2 y d2,e=.returned (.tuple #[.agg #[.slice l z1 c1,.slice r x1 d1,.slice u j c2,.slice y x2 d2],an])/\TF w' w.1.size l c1 r d1 z1 x1/\TF w' w.1.size u c2 y d2 j x2/\aj w' w
def Im[Sl w A n zs][Sl w B m xs][Sl w C R us][Sl w D m' vs][Sl w E p V][Sl w F q gs][cv xs][cv vs][cv gs][Le n c][Le R cx](l:n<=1000000)(j:R<=1000000)(hp:p<=1000000){X:au}{f:CF}
  (r:ap zs xs=true) (u:ap us vs=true) (hE:Hx (oh zs us S=0)) (hV:Hx (qj zs us S=V)) (y:ap V gs=true) (z:Hx (nz f zs us V S)) (I:Hx (X=eS gs vs xs.length f.all)) (J:Hx (Y=eT gs xs vs.length f.all)):
  () 107 #[.agg #[(A,n,c),(B,m,d)],.agg #[(C,R,cx),(D,m',d')],.agg #[(E,p,e'),(F,q,f')],S] w (aaT w zs X us Y):=
 (F7 l j hp r u hE hV y z I J).mono λ_ _ ⟨K,c1,L,d1,M,c2,N,d2,e,O,s2,P,Q,f1,f2,f3,f4,l1,U,Z,l4,p⟩=>⟨K,c1,L,d1,M,c2,N,d2,e,⟨O,s2,l1,U,f1,f2⟩,⟨P,Q,Z,l4,f3,f4⟩,p⟩
def Dm{wd:Int}{X:au}{W S:Nat}[Sl w A n zs][Sl w B m xs][Sl w C R V][Sl w D m' ys][cv ys][Le m d](e:Hx (wd=(W:Int)/\st=(S:Int)))(y:n<=1000000)(r:R<=1000000)(hr:ap zs xs=true)(I:z=1\/z=2)(J:Hx (PW zs V j Z l W S))(u:ap V ys=true)(K:Hx (X=tab (j*Z) (jV z xs ys Z l S W (j*l)))):
  () 109 #[z,.agg #[(A,n,c),(B,m,d)],.agg #[(C,R,c'),(D,m',d')],wd,st] w (dK w zs X 0):=by
 rw[e.o.1,e.o.2];exact FQ y r hr I J u K
def Ge{fr:Int}{X:au}{P T:Nat}[Sl w A n zs][Sl w B m xs][Sl w C R V][Sl w D m' ys][Le m' d'](hs:Hx (sd=(j:Int)/\fr=(l:Int)/\tt=(T:Int)))(z:n<=1000000)(r:R<=1000000)(hr:ap zs xs=true)(u:Hx (JW j P I Z zs))(e:Hx (l<T/\T<=Z))(hV:Hx (V=zs.set j ((T:Int)-l)))(y:ap V ys=true)(J:Hx (X=oM P I l T Z ys P)):
  () 112 #[.agg #[(A,n,c),(B,m,d)],.agg #[(C,R,c'),(D,m',d')],sd,fr,tt] w (dK w zs X 0):=by
 rw[hs.o.1,hs.o.2.1,hs.o.2.2];exact xt z r hr u e.o.1 e.o.2 hV y J
def Gf(w:aa)(L:List TV)(e:Ending)(w':aa):Prop:=∃A n c,e=.returned (.tuple #[.slice A n c,an])/\eK w' w.1.size A n c L/\aj w' w
end
def Gg(h:ap zs xs=true):zs.length<=4/\xs.length<=65536:=⟨(fu h).2,(fu h).1⟩
def Dn{g x:au}(hg:∀z∈g,bb z)(j:∀z∈x,bb z):∀z∈e4 g x,bb z:=λz e=>by
 rw[e4,jI]at e;obtain⟨a,l,h⟩:=e;obtain⟨b,hb,rfl⟩:=bw.1 h;exact hT (hg a l) (j b hb)
def TF.TW(h:TF w b A c B d zs xs)(e:G<b)(v0 j l v3 v4 m:Value):TF ((((((w.setCell (G,0) v0).setCell (G,1) j).setCell (G,2) l).setCell (G,3) v3).setCell (G,4) v4).setCell (G,5) m) b A c B d zs xs:=
 (((((h.aY e v0).aY e j).aY e l).aY e v3).aY e v4).aY e m
def TF.mK(h:TF w b A c B d zs xs)(e:G<b)(v0 j l v3:Value):TF ((((w.setCell (G,0) v0).setCell (G,1) j).setCell (G,2) l).setCell (G,3) v3) b A c B d zs xs:=
 (((h.aY e v0).aY e j).aY e l).aY e v3
def Do{g:au}:∀z∈lD n xs g,bb z:=λz b=>by
 rw[lD]at b;obtain⟨j,_,rfl⟩:=bw.1 b;exact H0 _ _ _ _ _
section
variable{E F:Option Addr}{p:Nat}{ts S g:List Int}
def TF.at(h:TF w b A c B d zs xs)[l:aT w w']:TF w' b A c B d zs xs:=h.below l.st (al _)
def TF.two[Bx w G T #[.slice A zs c,.slice B xs d,.slice C ts c',.slice D ys d']](t:TF w b' A c B d zs xs)(e:TF w b' C c' D d' ts ys)(i6:∀z∈xs,bb z)(j:∀z∈ys,bb z)(r:b<=G)(l:b<=b'):eK w b G 2 2 [(zs,xs),(ts,ys)]:=by
 have:=t.s;have:=t.x;have:=t.lc;have:=t.ld;have:cv xs:=⟨i6⟩;have:=e.s;have:=e.x;have:=e.lc;have:=e.ld;have:cv ys:=⟨j⟩;exact eK.two r (t.fA.less l) (t.fB.less l) (e.fA.less l) (e.fB.less l)
def qR{F:Func}[k:Bx u G T #[x0,x1]][aT w u](j:w.1.size<=G)(hd:act.defers=[])
  (e:∀W:World,W.cell? (G,0)=some (.slice A n c)->W.cell? (G,1)=some (.slice B m d)->(results F act.tmps).run prog W=.ok (.tuple #[.agg #[(A,n,c),(B,m,d)],an]) W)
  (l:eK u b A n c gp) (r:eK u b B m d gx) (hb:G<b):bodyPost prog F (vN w gp gx) .ret act ((u.setCell (G,0) (A,n,c)).setCell (G,1) (B,m,d)):=
 ie (T:=T) ⟨az.bP k.ak _ _⟩ j rfl hd e l r hb
def NA{k:Int}:jY z k ((us.map Tn.tv).map g1) g l=jY z k us g l:=by
 unfold jY;rw[F4];exact iA λi _=>by rw[Nv]
def Ym:oO z ((us.map Tn.tv).map g1) g l=oO z us g l:=by
 unfold oO;rw[F4]
def qS{L:au}(h:∀z∈L,bb z)(i:Nat):bb (L.getD i 0):=by
 rw[aQ];cases e:L[i]? with
 |none=>exact⟨am,am⟩
 |some z=>exact h z (aC e)
def Gh{k:Int}(e:bb k)(hs:∀i,bb (sec us i))(hg:∀z∈g,bb z):∀z∈jY y k us g l,bb z:=λz j=>by
 obtain⟨i,_,rfl⟩:=bw.1 j;exact Lf e (hs i) (qS hg i)
def NB(hs:∀z∈g8 us,bb z)(hg:∀z∈g,bb z):∀z∈oO y us g l,bb z:=λz e=>by
 obtain⟨i,_,rfl⟩:=bw.1 e;exact Lg (qS hs i) (qS hg i)
def Yn(h:m3 w A us):∀z∈g8 us,bb z:=λz j=>by
 unfold g8 at j;cases e:us[0]? with
 |none=>rw[e]at j;simp at j
 |some t=>rw[e]at j;obtain⟨_,_,_,k⟩:=h 0 t e;exact k.bd z j
def NC{P F T:Nat}(hg:∀z∈g,bb z):∀z∈oM P I F T Z g i,bb z:=λz hz=>by
 have e:bb 0:=⟨am,am⟩;rw[oM,bM]at hz;rcases hz with hz|hz;obtain⟨j,_,hz⟩:=jI.1 hz;rw[sX,bM,bM]at hz;rcases hz with(hz|hz)|hz;rw[eH hz];exact e;exact hg z (dA (cE hz));rw[eH hz];exact e;rw[eH hz];exact e
def PN:er l ((us.map Tn.tv).map g1) j=er l us j:=by
 unfold er;rw[F3,<-gI,lT];rfl
def Yo{P:Nat}(hs:side=(j:Int))(e:JW j P I Z V)(z:ps.length=us.length)(hp:qP j P I Z us g ps):ps.map Tn.tv=Yk (us.map Tn.tv) V side g:=by
 have r:V.getD j 0=(Z:Int):=by rw[aQ,e.at_];rfl
 unfold Yk;simp only[hs,aZ,e.ahead,e.behind,r,PN,bj];apply fZ;intro J;rw[bf,bf];by_cases l:J<us.length;rw[ih l,a5 om];have hu:=a5 l;obtain⟨u,y⟩:=hp.el J _ _ (a5 om) hu;simp only[yq];rw[Nt hu];show some (_,_)=_;rw[u,y];rfl;rw[fc om,fc cr];rfl
def Lt{X:au}[a:Ts w A 1 us][l:I6 y][Sl w B p zs][Sl w C q xs][r:cv xs](hp:p<=1000000)(u:Hx (∀t∈us,t.zs.length<=1000000))(hE:Hx (gQ z us=0))(hr:ap zs xs=true)(hs:Hx (zs=ka us))(I:Hx (O=ka us))(j:Hx (X=jY z y us xs (g8 us).length)):
  () 114 #[z,y,.agg #[(B,p,d),(C,q,e')],(A,1,c)] w (Gf w [(O,X)]):=
 (Gb hp u hE hr hs I j).mono λ_ _ ⟨G,g,J,e,l1,K,L,N,oS,M,pw⟩=>⟨_,_,_,e,by
  have:Sl _ (some ⟨g,0,none⟩) O O:=⟨oS.rd,rfl⟩;have:Sl _ (some ⟨J,0,none⟩) X X:=⟨M.rd,rfl⟩;have:cv X:=⟨by rw[j.o];exact Gh l.bd (λi=>(ux a.rd i).bd) r.bd⟩;exact eK.one l1 (fy K) (fy L),pw⟩
def Lu{X:au}[a:Ts w A 2 us][K:I6 y][Sl w B p zs][Sl w C q xs][u:cv xs](hp:p<=1000000)(L:Hx (∀t∈us,t.zs.length<=1000000))(hE:Hx (gQ z us=0))(hr:ap zs xs=true)(hs:Hx (zs=ka us))(M:Hx (O=ka us))(I:Hx (X=jY z y us xs (g8 us).length))(J:Hx (Y=oO z us xs (g8 us).length)):
  () 114 #[z,y,.agg #[(B,p,d),(C,q,e')],(A,2,c)] w (Gf w [(O,X),(O,Y)]):=
 (Gc hp L hE hr hs M I J).mono λ_ _ ⟨G,N,j,P,l,e,l1,Q,U,l4,l5,ne,kG,oS,oX,r,oY,pw⟩=>⟨_,_,_,e,by
  have:Sl _ (some ⟨N,0,none⟩) O O:=⟨oS.rd,rfl⟩;have:Sl _ (some ⟨j,0,none⟩) X X:=⟨oX.rd,rfl⟩;have:Sl _ (some ⟨P,0,none⟩) O O:=⟨r.rd,rfl⟩;have:Sl _ (some ⟨l,0,none⟩) Y Y:=⟨oY.rd,rfl⟩;have:cv X:=⟨by rw[I.o];exact Gh K.bd (λi=>(ux a.rd i).bd) u.bd⟩;have:cv Y:=⟨by rw[J.o];exact NB (Yn a.rd) u.bd⟩;exact eK.two l1 (fy Q) (fy l4) (fy U) (fy l5),pw⟩
def Cv[a:Ts w A n us][Le n c]{P:Nat}[Sl w B p S][Sl w C q g][Le q e'][cv g](z:n<=1000000)(hs:Hx (sd=(j:Int)))(J:Hx (∀t∈us,t.zs.length<=1000000))(hE:Hx (xo j us=0))(r:Hx (JW j P I Z S))(hS:Hx (S=um j us))(hr:ap S g=true)
  (l:Hx (∀t∈us,ap t.zs t.xs=true/\JW j P I (zN j t) t.zs/\S.set j (zN j t:Int)=t.zs)) (hF:Hx (er j us us.length=Z)) (K:Hx (∀ps,ps.length=us.length->qP j P I Z us g ps->ps.map Tn.tv=GX)):
  () 111 #[sd,.agg #[(B,p,d),(C,q,e')],(A,n,c)] w (Gf w GX):=by
 rw[hs.o];exact(vM z J hE r hS hr l hF).mono λ_ _ ⟨G,ps,e,y,L,M,u,N⟩=>⟨_,_,_,e,⟨ps,y,al _,fy M,λt ht=>⟨(u.o t ht).1.less om,(u.o t ht).2.1.less om,(u.o t ht).2.2⟩,K.o ps (by rw[<-y.len,a.len]) L.o⟩,N⟩
def Gi[Sl w A n zs][Sl w B m xs][Sl w C R S][Sl w E p V][Sl w F q g][cv g](X:n<=4)(hm:m<=65536)(z:R<=1000000)(hp:p<=4)(hq:q<=65536)(r:Hx (ap zs xs=true))(I:Hx (ap V xs=true/\V=S/\ap zs g=true))(J:Hx (ap V g=true)):
  () 113 #[.agg #[(A,n,c),(B,m,d)],.agg #[(E,p,e'),(F,q,f')],(C,R,c')] w (vN w [] [(zs,g)]):=by
 have Y:=@ay;have Z:=@aO;obtain⟨K,rfl,v3⟩:=I.o;have hd:decide (V=V)=true:=gC rfl;have L:Hx (ap V xs=true/\V=V):=ae ⟨K,rfl⟩;have j:=J.o;go_in;go_wp2_with (first|(first|(go_at_call 69;refine(bD om).mono ?_;rintro e u ⟨rfl,_⟩)|(go_at_call 70;refine(f9 om om).mono ?_;rintro e u ⟨rfl,_⟩))|(go_at_call 164;refine(Dj om om om r L).mono ?_;rintro e u ⟨M,c',N,d',rfl,O,P,Q,U,fA,y,_⟩)|(go_at_call 179;refine(vF om om om r j v3).mono ?_;rintro e u ⟨M,c',N,d',rfl,O,P,Q,U,fA,y,_⟩)|(go_at_call 108;refine(pK (aL (al _) ai) fA y).mono ?_;rintro e u ⟨GG,rfl,l,_⟩));exact qR (x0:=.slice none 0 0) (x1:=.slice none 0 0) om rfl (λW r0 r1=>by simp[results,results113,go_sem,r0,r1]) eK.nil l (Bx.ak (g:=w.1.size+1+1)).lt
end
section
variable{E F:Option Addr}{ng:Nat}{ts:List Tn}{o:ir}{g:List Int}
def xR0(h:Γ:=by rintro e D ⟨A',c',B',d',rfl,sA,sX,lA,lX,fA,fX,_⟩;dsimp only;refine aG hK ?_;refine qL [9,10] ?_;refine aK 11 λK hK=>?_;go_simp;refine(pK ai fA fX).mono ?_;rintro e D ⟨GG,rfl,xC,_⟩;dsimp only;refine aG hK ?_;refine qL [12,13] ?_;refine aK 14 λK hK=>?_;go_simp;obtain⟨v9,j⟩:=lg ((D.setCell (w.1.size+1+1,0) ()).setCell (w.1.size+1+1,1) (GG,1,1));rw[<-j];(have uB:Below (World.heap u0).size u0 v9:=by rw[j];exact br (aP u0 D) hz _ _);(have xA:∀b,b<D.1.size->b≠w.1.size+1+1->(World.heap v9)[b]?=D.heap[b]?:=λb _ hb=>by rw[j];exact(ba _ ⟨w.1.size+1+1,1,none⟩ _ b hb).trans (ba _ ⟨w.1.size+1+1,0,none⟩ _ b hb));have he:Bx v9 (w.1.size+1+1) _ #[(),(GG,1,1)]:=⟨by rw[j];exact az.bP (Bx.ak (w:=D) (g:=w.1.size+1+1)) _ _⟩;have m6:aj v9 u0:=⟨uB⟩;obtain⟨v8,rfl⟩:=lg D;have Ad:=j;refine aG hK ?_ ⟨uB⟩;clear hK K j;refine ff 15 ?_;refine a9 ?_;go_wp2_with fail;exact ie (b:=r.1.size) he om Ad rfl (λW r0 r1=>by simp[results,results64,go_sem,r0,r1]) eK.nil (xC.less ai) om):=h
def xR1(h:Γ:=by rw[<-J,oe,PM,hW,hS];(have e1:dS z0=(Z:Int):=by rw[dS,aQ,pw.at_];rfl);(have e2:dS V=(nn:Int):=by rw[dS,pw.v,d3,aQ,fF (by have:=pw.len;omega)];rfl);(have e3:x0.length=aa*Z:=by have:=((aN _ _).1 r0.o).2;rw[pw.size]at this;omega);rw[e1,e2,pw.vx,e3];simp only[aZ]):=h
def xR2(h:Γ:=by rw[j];exact(ba _ ⟨w.1.size+1+1,1,none⟩ _ b hb).trans (ba _ ⟨w.1.size+1+1,0,none⟩ _ b hb)):=h
def xR3(h:Γ:=by refine a9 ?_;go_wp2_with fail;exact ie (b:=r.1.size) he om Ad rfl (λW r0 r1=>by simp[results,results64,go_sem,r0,r1]) (HPP.less ai) (iH.less ai) om):=h
def xR5(h:Γ:=by rw[j];exact br (aP u0 D) hz _ _):=h
def xR6(h:Γ:=by obtain⟨f,h⟩:=qN hK;rw[hV]at h;exact⟨f,h⟩):=h
def xR7(h:Γ:=by rw[oe];intro z hz;obtain⟨q,_,rfl⟩:=bw.1 hz;exact rP _ _):=h
def TX[Sl w A n o.S][I6 o.k](hn:n<=1000000)[a:Ts w B m ts][x:Ts w C nx us][Le nx cx](hx:nx<=1000000)(hT:Hx (eB ts))(hU:Hx (eB us))(hE:dr o (ts.map (·.zs)) (us.map (·.zs))=0)
  (hV:Hx (cJ o (ts.map (·.zs)) (us.map (·.zs))=V)) [sg:Sl w E ng V] [xg:Sl w F R g] [ig:cv g] [Le R gd] (hg:Hx (ap V g=true))  (Cw:Hx (ql o (ts.map Tn.tv) (us.map Tn.tv) V g=GP)) (Cx:Hx (jZ o (ts.map Tn.tv) (us.map Tn.tv) V g=GX)):
  () 64 #[.agg (gM o.kd o.k o.wd o.st o.sd o.fr o.tt (A,n,d)),.slice B m e,(C,nx,cx),.agg #[(E,ng,gc),(F,R,gd)]] w (vN w GP GX):=by
 obtain⟨CB,CP,FB⟩:=ia;obtain⟨hc,hP,hXr,hk⟩:=ja hE;obtain⟨i0,i1,i2,i3⟩:=wP hc;have HC:Hx (mA o.kd o.k o.wd o.st o.sd o.fr o.tt o.S m nx=0):=ae (by rw[<-hc,ir.cnt,a.len,x.len,bj,bj]);have IM:Hx ((m:Int)=fv o.kd):=ae (by rw[<-i3,a.len,bj]);have IX:Hx (0<nx):=ae (by rw[x.len];rw[bj]at i1;unfold gN at i1;split at i1<;>omega);have IN:Hx (¬o.kd=8/\¬o.kd=9/\¬o.kd=10/\¬o.kd=11/\¬o.kd=12/\¬o.kd=13/\¬o.kd=14/\¬o.kd=15->(nx:Int)=g7 o.kd/\g7 o.kd≠0/\(o.kd<=5↔nx=1)):=λh=>by obtain⟨kl,kh⟩:=yx i0;rw[bj,<-x.len]at i1 i2;unfold gN at i1;unfold i9 at i2;unfold g7;by_cases h6:o.kd=6\/o.kd=7;rw[ah h6]at i1 i2⊢;rw[ag om];omega;rw[ag h6]at i1 i2;rw[ag om]at i2;rw[ah om];omega
 have lb:Hx (dd o (ts.map (·.zs)) (us.map (·.zs))=V):=ae (by rw[<-hV.o,cJ,ah hE]);have HK:=ae hk;have HX:=Cx;have Gj:=Cw;obtain⟨g4,g6⟩:=Gg hg.o;have ng4:ng<=4:=by rw[sg.len];exact g4
 have mg6:R<=65536:=by rw[xg.len];exact g6
 obtain⟨b0,q0,A0,n0,c0,z0,B0,m0,d0,x0,rfl,ob0,v0,v1,s0,t0,lc0,ld0,ix0,n04,m06,r0,e0⟩:=x.wU hU (k:=0) IX.o;have D0:Hx ((us.map (·.zs)).getD 0 []=z0):=yB e0.o;simp only[e6,ef]at v0 v1;have x1:0<nx:=IX.o;have P1:∀k:Nat,k<m->∃b o A1 n1 c1 zs B1 m1 d1 xs,B=some ⟨b,o,none⟩/\Old b w/\w.cell? (b,o+k*2)=some (.slice A1 n1 c1)/\w.cell? (b,o+k*2+1)=some (.slice B1 m1 d1)/\Sl w A1 n1 zs/\Sl w B1 m1 xs/\Le n1 c1/\Le m1 d1/\cv xs/\n1<=4/\m1<=65536/\Hx (ap zs xs=true)/\Hx ((ts.map Tn.tv).getD k ([],[])=(zs,xs))/\Hx ((ts.map (·.zs)).getD k []=zs):=λk hk=>by obtain⟨b,o,A1,n1,c1,zs,B1,m1,d1,xs,h1,h2,h3,h4,h5,h6,h7,h8,h9,Ln,vB,FH,F5⟩:=a.wU hT hk;exact⟨b,o,A1,n1,c1,zs,B1,m1,d1,xs,h1,h2,h3,h4,h5,h6,h7,h8,h9,Ln,vB,FH,F5,ae (yB F5.o)⟩
 have uz:=ae P1;clear hc hP hXr hk i0 i1 i2 i3 IX P1 hE hV Cw Cx g4 g6;go_in;go_upto_region 1 with fail;refine Ls (λu0 u _ _ k0 kg hz k1=>?_);by_cases M:o.kd=8
 .have HD:m=2:=by have:=IM.o;rw[fv,ah M]at this;omega
  obtain⟨b1,q1,A1,n1,c1,z1,B1,m1,d1,s6,e1,pq,zW,zX,s1,t1,TG,TH,PC,TI,O3,r1,Ct,zY⟩:=uz.o 0 om;obtain⟨b2,q2,A2,n2,c2,z2,B2,m2,d2,TJ,e2,jU,va2,vb2,s2,t2,lc2,ld2,ix2,n24,m26,r2,ev2,ez2⟩:=uz.o 1 om;subst e1;injection e2 with e2;injection e2 with e2 e3;subst e2 e3
  simp only[e6,ef,lS]at zW zX va2 vb2;have hV:=lb.o;have J:=HX.o;have U:=Gj.o;have hK:=HK.o;rw[dd,ah M]at hV;rw[jZ,ah M]at J;rw[ql,ah M]at U;rw[cY,ah M]at hK;rw[zY.o,ez2.o,D0.o]at hV hK;rw[Ct.o,e0.o]at J U;rw[ev2.o]at U;have HG:Hx (zJ z1 s6 z2 TJ z0 x0 z2 g=true/\V=z2):=ae (by
   have hB:iG z1 z2 z0=true:=by
    unfold mD at hK
    split at hK
    .assumption
    .exact absurd hK am
   rw[mC,ah hB]at hV;simp only[iG,bK,bZ]at hB;obtain⟨⟨⟨⟨g1,g2⟩,g3⟩,g4⟩,g5⟩:=hB;have f0:=((aN _ _).1 r0.o).2;have e:z2=[z1.getD 0 0]:=by
    match z2,g2,g3 with
    |[y],_,g3=>rw[<-g3];rfl
   have eV:V=z2:=by rw[<-hV,e]
   refine⟨?_,eV⟩;simp only[zJ,eA,mF,bK,bZ];exact⟨⟨⟨⟨⟨⟨⟨r1.o,g1⟩,r2.o⟩,r0.o⟩,e⟩,by rw[f0,g5]⟩,by rw[<-eV];exact hg.o⟩,bX⟩)
  obtain rfl:=HG.o.2;have HW:Hx (∀z∈e4 g x0,bb z):=Dn ig.bd ix0.bd;have HY:Hx (∀z∈lD x0.length s6 g,bb z):=Do;obtain⟨WW,In⟩:=lg (e4 g x0);obtain⟨YY,Io⟩:=lg (lD x0.length s6 g);rw[<-Io]at HY J;rw[<-In]at HW U;have PO:=ae In;have Ip:=ae Io;have pL:=ae (And.intro J.symm U.symm);have g1:0<m:=om;(have g2:(1:Int)<(m:Int):=by omega);(have h8:(o.kd==8)=true:=by simpa using M);clear M;clear HD hV J U hK In Io;go_upto_region 6 with(go_at_call 104;refine(ch hn HC).mono ?_;rintro e u ⟨rfl,_⟩);obtain⟨v,rfl⟩:=lg u;go_cut [11,12] (λp e wx=>∃G A1 e1 B1 f1 A2 e2 B2 f2 A3 e3 B3 f3,p=.pointer (some ⟨G,0,none⟩)/\e=.int .i64 0/\Bx wx G 201 #[.slice A1 z1 e1,.slice B1 WW f1,.slice A2 V e2,.slice B2 g f2,.slice A3 z0 e3,.slice B3 YY f3]/\TF wx v.1.size A1 e1 B1 f1 z1 WW/\TF wx v.1.size A2 e2 B2 f2 V g/\TF wx v.1.size A3 e3 B3 f3 z0 YY/\aj wx v);(case first=>refine ab v ao (λD _=>?_);refine qL [0,1,2,3,4,5,6,7,8,9] ?_;refine qr 10 14 (λK hK=>?_) (λK hK=>?_);(focus go_simp;refine(Il om (ae HG.o.1) PO Ip).mono ?_;rintro e D ⟨A1,e1,B1,f1,A2,e2,B2,f2,A3,e3,B3,f3,rfl,Ae,Af,TY,_⟩;dsimp only;refine aG hK ?_;refine qL [11,12,13] ?_;refine aK 14 λK hK=>?_;go_simp;obtain⟨g9,pu⟩:=lh ((World.heap D).size);(have Cy:(World.heap D).size<=g9:=by rw[<-pu];exact ai);refine aG hK<|bc (λD _ Lv=>?_);rw[pu]at Lv⊢;clear pu);rotate_left;(focus go_simp;obtain⟨g9,pu⟩:=lh ((World.heap D).size);(have Cy:(World.heap D).size<=g9:=by rw[<-pu];exact ai);refine aG hK<|bc (λD _ Lv=>?_);rw[pu]at Lv⊢;clear pu;refine aK 10 λK hK=>?_;go_simp;refine(Il om (ae HG.o.1) PO Ip).mono ?_;rintro e D ⟨A1,e1,B1,f1,A2,e2,B2,f2,A3,e3,B3,f3,rfl,Ae,Af,TY,_⟩;dsimp only;refine aG hK ?_;refine qL [11,12,13] ?_);all_goals refine aK 15 λK hK=>?_;go_simp;obtain⟨v9,j⟩:=lg (World.wS D g9 (.slice A1 (List.length z1) e1) (.slice B1 (List.length WW) f1) (.slice A2 (List.length V) e2) (.slice B2 (List.length g) f2) (.slice A3 (List.length z0) e3) (.slice B3 (List.length YY) f3));unfold World.wS at j;rw[<-j];have he:Bx v9 g9 _ #[.slice A1 (List.length z1) e1,.slice B1 (List.length WW) f1,.slice A2 (List.length V) e2,.slice B2 (List.length g) f2,.slice A3 (List.length z0) e3,.slice B3 (List.length YY) f3]:=⟨by rw[j];exact az.wS (Bx.ak (w:=D) (g:=g9)) _ _ _ _ _ _⟩;have m6:aj v9 v:=⟨by rw[j];exact mH (aP v D) (aL ai Cy) _ _ _ _ _ _⟩;(have T1:TF v9 (World.heap v).size A1 e1 B1 f1 z1 WW:=by rw[j];first|exact Ae.below (mH (aP _ D) Cy _ _ _ _ _ _) ai|exact(Ae.TW (Bx.ak (g:=g9)).lt _ _ _ _ _ _).less ai);(have T2:TF v9 (World.heap v).size A2 e2 B2 f2 V g:=by rw[j];first|exact Af.below (mH (aP _ D) Cy _ _ _ _ _ _) ai|exact(Af.TW (Bx.ak (g:=g9)).lt _ _ _ _ _ _).less ai);(have T3:TF v9 (World.heap v).size A3 e3 B3 f3 z0 YY:=by rw[j];first|exact TY.below (mH (aP _ D) Cy _ _ _ _ _ _) ai|exact(TY.TW (Bx.ak (g:=g9)).lt _ _ _ _ _ _).less ai);refine aG hK ?_ m6;clear hK K j;refine ff 16 ?_;refine a9 ?_;go_wp2_with fail;go_meet;exact⟨g9,A1,e1,B1,f1,A2,e2,B2,f2,A3,e3,B3,f3,rfl,rfl,he,T1,T2,T3,m6⟩);obtain⟨G,A1,e1,B1,f1,A2,e2,B2,f2,A3,e3,B3,f3,rfl,rfl,kG,Ae,Af,TY,pv⟩:=hcut;go_wp2_with fail;rw[pL.o.1,pL.o.2];exact qR (b:=v.1.size) (x0:=.slice none 0 0) (x1:=.slice none 0 0) om rfl (λW r0 r1=>by simp[results,results64,go_sem,r0,r1]) (TF.two Ae.at Af.at HW.o ig.bd ai (al _)) (TF.one TY.at HY.o (Nat.le_succ_of_le ai) (al _)) (Bx.ak (w:=v) (g:=w.1.size+1+1)).lt
 have h8:(o.kd==8)=false:=by simpa using M
 by_cases O:o.kd=9
 .have k8:m=1:=by have:=IM.o;rw[fv,ag M,ah (.inl O)]at this;omega
  obtain⟨b1,q1,A1,n1,c1,z1,B1,m1,d1,s6,e1,pq,zW,zX,s1,t1,TG,TH,PC,TI,O3,r1,Ct,zY⟩:=uz.o 0 om;subst e1;simp only[e6,ef]at zW zX;have hV:=lb.o;have J:=HX.o;have U:=Gj.o;have hK:=HK.o;rw[dd,ag M,ah O]at hV;rw[jZ,ag M,ah O]at J;rw[ql,ag M,ah O]at U;rw[cY,ag M,ah O]at hK;rw[zY.o,D0.o]at hV hK;have h1:=eg hK z1 aD;have h2:=eg hK z0 aD;rw[hV]at h1 h2;obtain rfl:=h1;obtain rfl:=h2;have pL:=ae (And.intro J.symm U.symm);have g1:0<m:=om;(have h9:(o.kd==9)=true:=by simpa using O);clear M O;clear k8 hV J U hK;obtain⟨rfl,rfl⟩:=pL.o;go_upto_region 11 with(go_at_call 104;refine(ch hn HC).mono ?_;rintro e u ⟨rfl,_⟩);obtain⟨r,rfl⟩:=lg u;have TS:w.1.size+1+1<(World.heap r).size:=(Bx.ak (w:=r) (g:=w.1.size+1+1)).lt;refine ab u0 ao (λD _=>?_);refine qL [0,1,2,3,4,5,6] ?_;refine aK 7 λK hK=>?_;go_simp;refine(Gd om om om om r1 r0 hg.o).mono ?_;rintro e D ⟨PA,pn,pc,XA,xn,xc,rfl,HPP,iH,_⟩;dsimp only;refine aG hK ?_;refine qL [8,9] ?_;refine aK 10 λK hK=>?_;go_simp;obtain⟨v9,j⟩:=lg ((D.setCell (w.1.size+1+1,0) (PA,pn,pc)).setCell (w.1.size+1+1,1) (XA,xn,xc));rw[<-j];have uB:Below (World.heap u0).size u0 v9:=xR5;have xA:∀b,b<D.1.size->b≠w.1.size+1+1->(World.heap v9)[b]?=D.heap[b]?:=λb _ hb=>xR2;have he:Bx v9 (w.1.size+1+1) _ #[(PA,pn,pc),(XA,xn,xc)]:=⟨by rw[j];exact az.bP (Bx.ak (w:=D) (g:=w.1.size+1+1)) _ _⟩;have m6:aj v9 u0:=⟨uB⟩;obtain⟨v8,rfl⟩:=lg D;have Ad:=j;refine aG hK ?_ ⟨uB⟩;clear hK K j;refine ff 11 ?_;exact xR3
 have h9:(o.kd==9)=false:=by simpa using O
 by_cases l:o.kd=10
 .have k8:m=1:=by have:=IM.o;rw[fv,ag M,ah (.inr l)]at this;omega
  obtain⟨b1,q1,A1,n1,c1,z1,B1,m1,d1,s6,e1,pq,zW,zX,s1,t1,TG,TH,PC,TI,O3,r1,Ct,zY⟩:=uz.o 0 om;subst e1;simp only[e6,ef]at zW zX;have hV:=lb.o;have J:=HX.o;have U:=Gj.o;have hK:=HK.o;rw[dd,ag M,ag O,ah l]at hV;rw[jZ,ag M,ag O,ah l]at J;rw[ql,ag M,ag O,ah l]at U;rw[cY,ag M,ag O,ah l]at hK;rw[zY.o,D0.o]at hV hK;rw[Ct.o,e0.o]at J U;have hf:∃f,nz f z1 z0 V o.st:=xR6;unfold TU at J;unfold TT at U;rw[dif_pos hf]at J U;have HF:=ae hf.choose_spec;have s7:=ae hV;have X8:=ae hK;obtain⟨WW,In⟩:=lg (eS g x0 s6.length hf.choose.all);obtain⟨YY,Io⟩:=lg (eT g s6 x0.length hf.choose.all);have HW:Hx (∀z∈WW,bb z):=ae (by rw[In];exact s4);have HY:Hx (∀z∈YY,bb z):=ae (by rw[Io];exact s5);simp only at J U;rw[<-Io]at J;rw[<-In]at U;have PO:=ae In;have Ip:=ae Io;have pL:=ae (And.intro J.symm U.symm);generalize hf.choose=f at HF PO Ip;have g1:0<m:=om;(have Ln:(o.kd==10)=true:=by simpa using l);clear M O l;clear k8 hV J U hK hf In Io;go_upto_region 13 with(go_at_call 104;refine(ch hn HC).mono ?_;rintro e u ⟨rfl,_⟩);obtain⟨v,rfl⟩:=lg u;go_cut [13,14] (λp e wx=>∃G A1 e1 B1 f1 A2 e2 B2 f2,p=.pointer (some ⟨G,0,none⟩)/\e=.int .i64 0/\Bx wx G 206 #[.slice A1 z1 e1,.slice B1 WW f1,.slice A2 z0 e2,.slice B2 YY f2]/\TF wx v.1.size A1 e1 B1 f1 z1 WW/\TF wx v.1.size A2 e2 B2 f2 z0 YY/\aj wx v);(case first=>refine ab v ao (λD _=>?_);refine qL [0,1,2,3,4,5,6,7,8] ?_;refine qr 9 13 (λK hK=>?_) (λK hK=>?_);(focus go_simp;refine(Im om om om r1.o r0.o X8 s7 hg.o HF PO Ip).mono ?_;rintro e D ⟨A1,e1,B1,f1,A2,e2,B2,f2,rfl,Ae,Af,_⟩;dsimp only;refine aG hK ?_;refine qL [10,11,12] ?_;refine aK 13 λK hK=>?_;go_simp;obtain⟨g9,pu⟩:=lh ((World.heap D).size);(have Cy:(World.heap D).size<=g9:=by rw[<-pu];exact ai);refine aG hK<|bc (λD _ Lv=>?_);rw[pu]at Lv⊢;clear pu);rotate_left;(focus go_simp;obtain⟨g9,pu⟩:=lh ((World.heap D).size);(have Cy:(World.heap D).size<=g9:=by rw[<-pu];exact ai);refine aG hK<|bc (λD _ Lv=>?_);rw[pu]at Lv⊢;clear pu;refine aK 9 λK hK=>?_;go_simp;refine(Im om om om r1.o r0.o X8 s7 hg.o HF PO Ip).mono ?_;rintro e D ⟨A1,e1,B1,f1,A2,e2,B2,f2,rfl,Ae,Af,_⟩;dsimp only;refine aG hK ?_;refine qL [10,11,12] ?_);all_goals refine aK 14 λK hK=>?_;go_simp;obtain⟨v9,j⟩:=lg ((((D.setCell (g9,0) (.slice A1 (List.length z1) e1)).setCell (g9,1) (.slice B1 (List.length WW) f1)).setCell (g9,2) (.slice A2 (List.length z0) e2)).setCell (g9,3) (.slice B2 (List.length YY) f2));rw[<-j];have he:Bx v9 g9 _ #[.slice A1 (List.length z1) e1,.slice B1 (List.length WW) f1,.slice A2 (List.length z0) e2,.slice B2 (List.length YY) f2]:=⟨by rw[j];exact az.Nx (Bx.ak (w:=D) (g:=g9)) _ _ _ _⟩;have m6:aj v9 v:=⟨by rw[j];exact qO (aP v D) (aL ai Cy) _ _ _ _⟩;(have T1:TF v9 (World.heap v).size A1 e1 B1 f1 z1 WW:=by rw[j];first|exact Ae.below (qO (aP _ D) Cy _ _ _ _) ai|exact(Ae.mK (Bx.ak (g:=g9)).lt _ _ _ _).less ai);(have T2:TF v9 (World.heap v).size A2 e2 B2 f2 z0 YY:=by rw[j];first|exact Af.below (qO (aP _ D) Cy _ _ _ _) ai|exact(Af.mK (Bx.ak (g:=g9)).lt _ _ _ _).less ai);refine aG hK ?_ m6;clear hK K j;refine ff 15 ?_;refine a9 ?_;go_wp2_with fail;go_meet;exact⟨g9,A1,e1,B1,f1,A2,e2,B2,f2,rfl,rfl,he,T1,T2,m6⟩);obtain⟨G,A1,e1,B1,f1,A2,e2,B2,f2,rfl,rfl,kG,Ae,Af,pv⟩:=hcut;go_wp2_with fail;rw[pL.o.1,pL.o.2];exact qR (b:=v.1.size) (x0:=.slice none 0 0) (x1:=.slice none 0 0) om rfl (λW r0 r1=>by simp[results,results64,go_sem,r0,r1]) (TF.one Ae.at HW.o ai (al _)) (TF.one Af.at HY.o (Nat.le_succ_of_le ai) (al _)) (Bx.ak (w:=v) (g:=w.1.size+1+1)).lt
 have Ln:(o.kd==10)=false:=by simpa using l
 by_cases L:o.kd=11
 .have hV:=lb.o;have J:=HX.o;have U:=Gj.o;have hK:=HK.o;rw[dd,ag M,ag O,ag l,ah (.inl L)]at hV;rw[jZ,ag M,ag O,ag l,ah L]at J;rw[ql,ag M,ag O,ag l]at U;rw[cY,ag M,ag O,ag l,ah (.inl L)]at hK;rw[D0.o]at hV hK;rw[e0.o]at J;obtain⟨aa,Z,nn,W',S',hW,hS,pw⟩:=PW.of hK;rw[hV]at pw;have F6:=ae pw;obtain⟨X,oe⟩:=lg (tab (aa*Z) (jV 1 x0 g Z nn S' W' (aa*nn)));have iH:=ae oe;have HB:Hx (∀z∈X,bb z):=ae xR7;have J:[(z0,X)]=GX:=xR1;have zZ:=ae (And.intro hW hS);clear pw hW hS oe;have pL:=ae (And.intro J.symm U.symm);(have vB:(o.kd==11)=true:=by simpa using L);clear M O l L;clear hV J U hK;obtain⟨rfl,rfl⟩:=pL.o;go_upto_region 18 with(go_at_call 104;refine(ch hn HC).mono ?_;rintro e u ⟨rfl,_⟩);obtain⟨r,rfl⟩:=lg u;have TS:w.1.size+1+1<(World.heap r).size:=(Bx.ak (w:=r) (g:=w.1.size+1+1)).lt;have i6X:cv X:=⟨HB.o⟩;refine ab u0 ao (λD _=>?_);refine qL [0,1,2,3,4,5,6,7] ?_;refine aK 8 λK hK=>?_;go_simp;refine(Dm zZ om om r0.o (.inl rfl) F6 hg.o iH).mono ?_;exact xR0
 have vB:(o.kd==11)=false:=by simpa using L
 by_cases N:o.kd=12
 .have hV:=lb.o;have J:=HX.o;have U:=Gj.o;have hK:=HK.o;rw[dd,ag M,ag O,ag l,ah (.inr N)]at hV;rw[jZ,ag M,ag O,ag l,ag L,ah N]at J;rw[ql,ag M,ag O,ag l]at U;rw[cY,ag M,ag O,ag l,ah (.inr N)]at hK;rw[D0.o]at hV hK;rw[e0.o]at J;obtain⟨aa,Z,nn,W',S',hW,hS,pw⟩:=PW.of hK;rw[hV]at pw;have F6:=ae pw;obtain⟨X,oe⟩:=lg (tab (aa*Z) (jV 2 x0 g Z nn S' W' (aa*nn)));have iH:=ae oe;have HB:Hx (∀z∈X,bb z):=ae xR7;have J:[(z0,X)]=GX:=xR1;have zZ:=ae (And.intro hW hS);clear pw hW hS oe;have pL:=ae (And.intro J.symm U.symm);(have FH:(o.kd==12)=true:=by simpa using N);clear M O l L N;clear hV J U hK;obtain⟨rfl,rfl⟩:=pL.o;go_upto_region 20 with(go_at_call 104;refine(ch hn HC).mono ?_;rintro e u ⟨rfl,_⟩);obtain⟨r,rfl⟩:=lg u;have TS:w.1.size+1+1<(World.heap r).size:=(Bx.ak (w:=r) (g:=w.1.size+1+1)).lt;have i6X:cv X:=⟨HB.o⟩;refine ab u0 ao (λD _=>?_);refine qL [0,1,2,3,4,5,6,7] ?_;refine aK 8 λK hK=>?_;go_simp;refine(Dm zZ om om r0.o (.inr rfl) F6 hg.o iH).mono ?_;exact xR0
 have FH:(o.kd==12)=false:=by simpa using N
 by_cases Y:o.kd=13
 .have hV:=lb.o;have J:=HX.o;have U:=Gj.o;have hK:=HK.o;rw[dd,ag M,ag O,ag l,ag (show¬(o.kd=11\/o.kd=12)from λh=>h.elim L N),ah Y]at hV;rw[jZ,ag M,ag O,ag l,ag L,ag N,ah Y]at J;rw[ql,ag M,ag O,ag l]at U;rw[cY,ag M,ag O,ag l,ag (show¬(o.kd=11\/o.kd=12)from λh=>h.elim L N),ah Y]at hK;have HG:Hx (∃nn P I Z:Nat,o.sd=(nn:Int)/\JW nn P I Z V/\xo nn us=0/\V=um nn us/\(∀t∈us,ap t.zs t.xs=true/\JW nn P I (zN nn t) t.zs/\V.set nn (zN nn t:Int)=t.zs)/\er nn us us.length=Z/\∀ps,ps.length=us.length->qP nn P I Z us g ps->ps.map Tn.tv=GX):=ae (by
   have h0:us≠[]:=by intro e;rw[e]at x;have:=x.len;simp at this;omega
   have hR:∀t∈us,ap t.zs t.xs=true:=λt ht=>(hU.o t ht).1;obtain⟨j1,j2⟩:=Ll (side:=o.sd) h0 hR;rw[hK]at j1;rw[Cg,ah hK,<-j2]at hV;obtain⟨nn,P,I,Z,hs,jw,_,oN,hZ,hF⟩:=zu j1;rw[hV]at jw oN;refine⟨nn,P,I,Z,hs,jw,by rw[<-hs];exact j1,by rw[<-hV,hs],oN,hF,λps hl hp=>?_⟩;rw[<-J];exact Yo hs jw hl hp)
  obtain⟨nn,P,I,Z,hs,jw,j1,j2,oN,hF,uC⟩:=HG.o;have Ry:=ae jw;have Rx:=ae j1;have HJ2:=ae j2;have HAL:=ae oN;have HSD:=ae hs;have HFF:=ae hF;have Lw:=ae uC;have Sj:=ae U.symm;(have HZ:Hx (∀t∈us,t.zs.length<=1000000):=ae λt ht=>by have:=hU.o.len ht;omega);(have F5:(o.kd==13)=true:=by simpa using Y);clear M O l L N Y;clear hV J U hK HG hs jw j1 j2 oN hF uC;obtain rfl:=Sj.o;go_wp2_with (first|(go_at_call 104;refine(ch hn HC).mono ?_;rintro e u ⟨rfl,_⟩)|(go_at_call 111;refine(Cv om HSD HZ Rx Ry HJ2 hg.o HAL HFF Lw).mono ?_;rintro e u ⟨PA,pn,pc,rfl,xC,_⟩)|(go_at_call 110;refine mv (qQ rfl) λu _=>?_));exact qR (x0:=.slice none 0 0) (x1:=.slice none 0 0) om rfl (λW r0 r1=>by simp[results,results64,go_sem,r0,r1]) eK.nil xC.at (Bx.ak (g:=w.1.size+1+1)).lt
 have F5:(o.kd==13)=false:=by simpa using Y
 by_cases it:o.kd=14
 .have hV:=lb.o;have J:=HX.o;have U:=Gj.o;have hK:=HK.o;rw[dd,ag M,ag O,ag l,ag (show¬(o.kd=11\/o.kd=12)from λh=>h.elim L N),ag Y,ah it]at hV;rw[jZ,ag M,ag O,ag l,ag L,ag N,ag Y,ah it]at J;rw[ql,ag M,ag O,ag l]at U;rw[cY,ag M,ag O,ag l,ag (show¬(o.kd=11\/o.kd=12)from λh=>h.elim L N),ag Y,ah it]at hK;rw[D0.o]at hV hK;rw[e0.o]at J;have hc:=hK;unfold gm at hc;rw[ah ((aN _ _).1 r0.o).1]at hc;split at hc;rotate_left;exact absurd hc am;rename_i Sv;simp only[bK,bZ]at Sv;obtain⟨⟨⟨⟨c1,c2⟩,c3⟩,c4⟩,c5⟩:=Sv;obtain⟨nn,xu⟩:=bJ c1;obtain⟨Q,hQ⟩:=bJ c3;obtain⟨T,Yp⟩:=bJ (show 0<=o.tt by omega);obtain⟨P,I,Z,jw⟩:=JW.of ((aN _ _).1 r0.o).1 (n:=nn) om;(have hgz:z0.getD nn 0=(Z:Int):=by rw[aQ,jw.at_];rfl);rw[xu,aZ,hgz]at c4;have F6:=ae jw;have TZ:Hx (Q<T/\T<=Z):=ae ⟨om,om⟩;have s7:Hx (V=z0.set nn ((T:Int)-Q)):=ae (by rw[<-hV,hG,ah hK,xu,Yp,hQ,aZ]);have zZ:=ae (And.intro xu (And.intro hQ Yp));obtain⟨X,oe⟩:=lg (oM P I Q T Z g P);have iH:=ae oe;have HB:Hx (∀z∈X,bb z):=ae (by rw[oe];exact NC ig.bd);(have J:[(z0,X)]=GX:=by rw[<-J,oe,Yl,xu,hQ,Yp];simp only[aZ];rw[jw.ahead,jw.behind,hgz];simp only[aZ]);clear jw xu hQ Yp oe c1 c2 c3 c4 c5 hc hgz;have pL:=ae (And.intro J.symm U.symm);(have h14:(o.kd==14)=true:=by simpa using it);clear M O l L N Y it;clear hV J U hK;obtain⟨rfl,rfl⟩:=pL.o;go_upto_region 24 with(go_at_call 104;refine(ch hn HC).mono ?_;rintro e u ⟨rfl,_⟩);obtain⟨r,rfl⟩:=lg u;have TS:w.1.size+1+1<(World.heap r).size:=(Bx.ak (w:=r) (g:=w.1.size+1+1)).lt;have i6X:cv X:=⟨HB.o⟩;refine ab u0 ao (λD _=>?_);refine qL [0,1,2,3,4,5,6,7,8,9] ?_;refine aK 10 λK hK=>?_;go_simp;refine(Ge zZ om om r0.o F6 TZ s7 hg.o iH).mono ?_;rintro e D ⟨A',c',B',d',rfl,sA,sX,lA,lX,fA,fX,_⟩;dsimp only;refine aG hK ?_;refine qL [11,12] ?_;refine aK 13 λK hK=>?_;go_simp;refine(pK ai fA fX).mono ?_;rintro e D ⟨GG,rfl,xC,_⟩;dsimp only;refine aG hK ?_;refine qL [14,15] ?_;refine aK 16 λK hK=>?_;go_simp;obtain⟨v9,j⟩:=lg ((D.setCell (w.1.size+1+1,0) ()).setCell (w.1.size+1+1,1) (GG,1,1));rw[<-j];have uB:Below (World.heap u0).size u0 v9:=xR5;have xA:∀b,b<D.1.size->b≠w.1.size+1+1->(World.heap v9)[b]?=D.heap[b]?:=λb _ hb=>xR2;have he:Bx v9 (w.1.size+1+1) _ #[(),(GG,1,1)]:=⟨by rw[j];exact az.bP (Bx.ak (w:=D) (g:=w.1.size+1+1)) _ _⟩;have m6:aj v9 u0:=⟨uB⟩;obtain⟨v8,rfl⟩:=lg D;have Ad:=j;refine aG hK ?_ ⟨uB⟩;clear hK K j;refine ff 17 ?_;refine a9 ?_;go_wp2_with fail;exact ie (b:=r.1.size) he om Ad rfl (λW r0 r1=>by simp[results,results64,go_sem,r0,r1]) eK.nil (xC.less ai) om
 have h14:(o.kd==14)=false:=by simpa using it
 by_cases lm:o.kd=15
 .have hV:=lb.o;have J:=HX.o;have U:=Gj.o;have hK:=HK.o;rw[dd,ag M,ag O,ag l,ag (show¬(o.kd=11\/o.kd=12)from λh=>h.elim L N),ag Y,ag it,ah lm]at hV;rw[jZ,ag M,ag O,ag l,ag L,ag N,ag Y,ag it,ah lm]at J;rw[ql,ag M,ag O,ag l]at U;rw[cY,ag M,ag O,ag l,ag (show¬(o.kd=11\/o.kd=12)from λh=>h.elim L N),ag Y,ag it,ah lm]at hK;rw[D0.o]at hV hK;rw[e0.o]at J;have HG:Hx (ap V x0=true/\V=o.S/\ap z0 g=true):=ae (by
   rw[zB,ah hK]at hV;have f0:=(aN _ _).1 r0.o;have fg:=(aN _ _).1 hg.o;have e:ax V=ax z0:=by
    unfold up at hK;rw[ah f0.1]at hK
    split at hK
    .split at hK
     .rename_i h;rw[<-hV,h]
     .exact absurd hK am
    .exact absurd hK am
   exact⟨(aN _ _).2 ⟨fg.1,by rw[f0.2,e]⟩,hV.symm,(aN _ _).2 ⟨f0.1,by rw[fg.2,e]⟩⟩)
  have pL:=ae (And.intro J.symm U.symm);(have h15:(o.kd==15)=true:=by simpa using lm);clear M O l L N Y it lm;clear hV J U hK;obtain⟨rfl,rfl⟩:=pL.o;go_upto_region 26 with(go_at_call 104;refine(ch hn HC).mono ?_;rintro e u ⟨rfl,_⟩);obtain⟨r,rfl⟩:=lg u;have TS:w.1.size+1+1<(World.heap r).size:=(Bx.ak (w:=r) (g:=w.1.size+1+1)).lt;refine ab u0 ao (λD _=>?_);refine qL [0,1,2,3,4,5] ?_;refine aK 6 λK hK=>?_;go_simp;refine(Gi om om om om om r0 HG hg).mono ?_;rintro e D ⟨PA,pn,pc,XA,xn,xc,rfl,HPP,iH,_⟩;dsimp only;refine aG hK ?_;refine qL [7,8] ?_;refine aK 9 λK hK=>?_;go_simp;obtain⟨v9,j⟩:=lg ((D.setCell (w.1.size+1+1,0) (PA,pn,pc)).setCell (w.1.size+1+1,1) (XA,xn,xc));rw[<-j];have uB:Below (World.heap u0).size u0 v9:=xR5;have xA:∀b,b<D.1.size->b≠w.1.size+1+1->(World.heap v9)[b]?=D.heap[b]?:=λb _ hb=>xR2;have he:Bx v9 (w.1.size+1+1) _ #[(PA,pn,pc),(XA,xn,xc)]:=⟨by rw[j];exact az.bP (Bx.ak (w:=D) (g:=w.1.size+1+1)) _ _⟩;have m6:aj v9 u0:=⟨uB⟩;obtain⟨v8,rfl⟩:=lg D;have Ad:=j;refine aG hK ?_ ⟨uB⟩;clear hK K j;refine ff 10 ?_;exact xR3
 have h15:(o.kd==15)=false:=by simpa using lm
 have hV:=lb.o;have J:=HX.o;have U:=Gj.o;have hK:=HK.o;rw[dd,ag M,ag O,ag l,ag (show¬(o.kd=11\/o.kd=12)from λh=>h.elim L N),ag Y,ag it,ag lm]at hV;rw[ql,ag M,ag O,ag l]at U;rw[cY,ag M,ag O,ag l,ag (show¬(o.kd=11\/o.kd=12)from λh=>h.elim L N),ag Y,ag it,ag lm]at hK;have PP:=IN.o ⟨M,O,l,L,N,Y,it,lm⟩;have ul:0<us.length:=by have:=x.len;omega
 have HG:Hx (gQ o.kd us=0/\V=ka us/\z0=V/\x0=g8 us):=ae (by
  have hn:(us.length:Int)=g7 o.kd:=by rw[<-x.len];exact PP.1
  have e9:ka us=z0:=by rw[<-D0.o,ka,aQ,bf]
  have hJ:z0=V:=by
   rw[<-hV];exact eg hK z0 (by rw[<-D0.o,aQ,bf,a5 ul];exact bw.2 ⟨_,o0 ul,rfl⟩)
  refine⟨?_,by rw[e9,hJ],hJ,?_⟩
  .unfold gQ;rw[ag PP.2.1,ah hn,ah];rw[dz];intro t ht;unfold Cq;rw[(hU.o t ht).1,e9,hJ,<-hV];simpa using eg hK t.zs (bw.2 ⟨t,ht,rfl⟩)
  .have e:=e0.o;rw[aQ,bf,a5 ul]at e;rw[g8,a5 ul];exact(cq (·.2) e).symm)
 have HZ:Hx (∀t∈us,t.zs.length<=1000000):=ae λt ht=>by have:=hU.o.len ht;omega
 have Sj:=ae U.symm;have qU:=ae HG.o.1;have m7:=ae HG.o.2.1;obtain rfl:=Sj.o;by_cases h5:o.kd<=5;focus have vn:Hx (nx=1):=PP.2.2.1 h5;rw[jZ,ag M,ag O,ag l,ag L,ag N,ag Y,ag it,ag lm,ah h5,e0.o,NA,HG.o.2.2.1]at J;have iH:Hx (GX=[(V,jY o.kd o.k us g (g8 us).length)]):=ae (by rw[<-J,<-HG.o.2.2.2]);obtain rfl:=iH.o;clear M O l L N Y it lm hV J U hK PP h5 ul;go_upto_region 27 with(go_at_call 104;refine(ch hn HC).mono ?_;rintro e u ⟨rfl,_⟩);obtain rfl:=vn.o;go_wp2_with (first|(go_at_call 114;refine(Lt om HZ qU hg.o m7 m7 (ae rfl)).mono ?_;rintro e u ⟨PA,pn,pc,rfl,xC,_⟩)|(go_at_call 110;refine mv (qQ rfl) λu _=>?_))
 rotate_left;focus have vn:Hx (nx=2):=ae (by have h1:=PP.1;unfold g7 at h1;split at h1<;>(try split at h1)<;>omega);rw[jZ,ag M,ag O,ag l,ag L,ag N,ag Y,ag it,ag lm,ag h5,e0.o,NA,Ym,HG.o.2.2.1]at J;have iH:Hx (GX=[(V,jY o.kd o.k us g (g8 us).length),(V,oO o.kd us g (g8 us).length)]):=ae (by rw[<-J,<-HG.o.2.2.2]);obtain rfl:=iH.o;clear M O l L N Y it lm hV J U hK PP h5 ul;go_upto_region 27 with(go_at_call 104;refine(ch hn HC).mono ?_;rintro e u ⟨rfl,_⟩);obtain rfl:=vn.o;go_wp2_with (first|(go_at_call 114;refine(Lu om HZ qU hg.o m7 m7 (ae rfl) (ae rfl)).mono ?_;rintro e u ⟨PA,pn,pc,rfl,xC,_⟩)|(go_at_call 110;refine mv (qQ rfl) λu _=>?_))
 all_goals exact qR (x0:=.slice none 0 0) (x1:=.slice none 0 0) om rfl (λW r0 r1=>by simp[results,results64,go_sem,r0,r1]) eK.nil xC.at (Bx.ak (g:=w.1.size+1+1)).lt
end
end
variable{i:Nat}
section
variable{P:Nat}{ts:List Tn}
def Cz(h:P*(xs.length/P)=xs)(b:j<P):(pz P j xs).length=xs.length/P:=by
 have e:(j+1)*(xs.length/P)<=P*(xs.length/P):=cU _ b;rw[d5]at e;simp[pz];omega
def Ag(b:∀t∈ts,P*(t.xs.length/P)=t.xs.length)(e:j<P):(e1 P j ts ts.length).length=e9 P ts:=by
 rw[e1,bY (al _),e9];induction ts with
 |nil=>simp
 |cons t l m=>have:=m λu hu=>b u (dp _ hu);simp only[g6,bh,di,fY,Cz (b t cm) e,this]
def Iq(b:∀t∈ts,P*(t.xs.length/P)=t.xs.length)(hi:i<=P):(pA P ts i).length=i*e9 P ts:=by
 induction i with
 |zero=>simp[pA]
 |succ i e=>rw[vv,bh,e om,Ag b om,d5]
end
variable{E x y:Int}
def TV.ok(t:TV):Prop:=ap t.1 t.2=true/\∀z∈t.2,bb z
section
variable{o:ir}{ps xs:List TV}
def a1{L:List TV}:(L.map (·.1)).getD k []=(L.getD k ([],[])).1:=by
 rw[aQ,aQ,bf];cases L[k]?<;>rfl
def fJ{L:List TV}(h:k<L):L.getD k ([],[])∈L:=by
 rw[aQ,a5 h];exact o0 h
def TV.ok.len{t:TV}(h:TV.ok t):(t.2.length:Int)=ax t.1:=((aN _ _).1 h.1).2
def TV.ok.right{t:TV}(h:TV.ok t):aA t.1=true:=((aN _ _).1 h.1).1
def oQ{α:Type}{f:α->Int}(b:∀x,bb (f x)){L:List α}:∀z∈L.map f,bb z:=λz e=>by
 obtain⟨x,_,rfl⟩:=bw.1 e;exact b x
def Dp{a:au}:∀z∈a.zipWith bQ V,bb z:=λz j=>by
 obtain⟨i,hi⟩:=eN j;rw[List.getElem?_zipWith]at hi;cases e:a[i]? with
 |none=>rw[e]at hi;simp at hi
 |some x=>
  cases hb:V[i]? with
  |none=>rw[e,hb]at hi;simp at hi
  |some y=>rw[e,hb]at hi;simp at hi;rw[<-hi];exact hW _ _
def Dq:bb 0:=⟨am,am⟩
def Dr{W:Nat}{l:au}(h:∀z∈l,bb z):bb (ib y W l):=by
 unfold ib;split
 .cases l with
  |nil=>exact Dq
  |cons x t=>exact h _ (C5 aD).1
 exact G6 (yX _) (G9 _)
def ZT{xs:List Tn}(h:∀t∈xs,∀z∈t.xs,bb z)(i:Nat):bb (sec xs i):=by
 unfold sec;cases b:xs[1]? with
 |none=>exact Dq
 |some t=>exact qS (h t (aC b)) i
def ZU{xs:List Tn}(h:∀t∈xs,∀z∈t.xs,bb z):∀z∈g8 xs,bb z:=by
 unfold g8;cases b:xs[0]? with
 |none=>intro z e;simp at e
 |some t=>exact h t (aC b)
def qV(h:∀t∈xs,TV.ok t):∀t∈xs.map g1,∀z∈t.xs,bb z:=λt ht=>by
 obtain⟨v,hv,rfl⟩:=bw.1 ht;exact(h v hv).2
def Lx(h:∀t∈xs,TV.ok t):∀t∈xs.map g1,ap t.zs t.xs=true:=λt ht=>by
 obtain⟨v,hv,rfl⟩:=bw.1 ht;exact(h v hv).1
def T4:(xs.map g1).map (·.zs)=xs.map (·.1):=by rw[lT];rfl
def Ds(z:xs≠[])(B:∀t∈xs,TV.ok t)(hK:zG side (xs.map (·.1))=0)(hV:Cg side (xs.map (·.1))=V):
  ∃b P I Z:Nat,side=(b:Int)/\JW b P I Z V/\xo side (xs.map g1)=0/\V=um side (xs.map g1)/\X3 xs V side=pA P (xs.map g1) P/\Z*I=e9 P (xs.map g1)/\er b (xs.map g1) xs.length=Z/\
   ∀t∈xs.map g1,P*(t.xs.length/P)=t.xs.length/\JW b P I (zN b t) t.zs:=by
 obtain⟨j,r⟩:=Ll (side:=side) (us:=xs.map g1) (by simpa using z) (Lx B);rw[T4]at j r;rw[hK]at j;rw[Cg,ah hK,<-r]at hV;obtain⟨b,P,I,Z,hs,l,_,e,C,u⟩:=zu j;rw[hV]at l;rw[bj]at u;refine⟨b,P,I,Z,hs,l,j,hV.symm,?_,C,u,λt ht=>?_⟩;rw[X3,hs,aZ,l.ahead,aZ];obtain⟨y,m,_⟩:=e t ht;refine⟨?_,m⟩;rw[m.row y,m.cells y]
def Ir{z:TV}(B:TV.ok z)(h:gm z.1 E x y=0):
  ∃j P I Z F T:Nat,E=(j:Int)/\x=(F:Int)/\y=(T:Int)/\F<T/\T<=Z/\JW j P I Z z.1/\hG z.1 E x y=z.1.set j ((T:Int)-F)/\Ft z.1 z.2 E x y=cB (Z*I) (F*I) ((T-F)*I) z.2 P/\ax (z.1.set j ((T:Int)-F))=((P*((T-F)*I):Nat):Int):=by
 have hq:=B.1;have C:gL z.1 z.2 E x y=0:=by rw[gL,ah hq];exact h
 have e:=h;unfold gm at e;split at e
 .rename_i hr;split at e;rename_i m;simp only[bK,bZ]at m;obtain⟨⟨⟨⟨D,G⟩,x0⟩,r⟩,J⟩:=m;obtain⟨k,rfl⟩:=bJ D;obtain⟨F,rfl⟩:=bJ x0;obtain⟨T,rfl⟩:=bJ (show 0<=y by omega);have u:k<z.1:=om;obtain⟨P,I,Z,b⟩:=JW.of hr u;(have l:T<=Z:=by rw[aZ,aQ,b.at_]at r;simp at r;omega);refine⟨k,P,I,Z,F,T,rfl,rfl,rfl,om,l,b,by rw[hG,ah h,aZ],?_,?_⟩;rw[Ft,ah C,aZ,qE b.at_,b.behind,b.ahead,show((T:Int)-F)=((T-F:Nat):Int)from om,<-b8,<-b8,<-b8,aZ,aZ,aZ,aZ];rw[py _ u,b.ahead,b.behind,show((T:Int)-F)=((T-F:Nat):Int)from om,<-b8,<-b8];cases e
 cases e
def xR4(h:Γ:=by exact⟨by rw[Py,iN];have:=(cP R);obtain⟨n,G,h2,h3⟩:=this;rw[G];simp,oQ λi=>Dr λz E=>r.2 z (dA (cE E))⟩):=h
def Yq(hE:dr o (ps.map (·.1)) (xs.map (·.1))=0)(hp:∀t∈ps,TV.ok t)(M:∀t∈xs,TV.ok t)(hk:bb o.k):TV.ok (cJ o (ps.map (·.1)) (xs.map (·.1)),vL o ps xs):=by
 obtain⟨hc,-,-,hK⟩:=ja hE;obtain⟨i0,i1,i2,i3⟩:=wP hc;have R:=lj hE;rw[bj]at i1 i2 i3;obtain⟨V,hV⟩:=lh (cJ o (ps.map (·.1)) (xs.map (·.1)));rw[hV]at R⊢;have S:=hV;rw[cJ,ah hE]at hV;have N:0<xs.length:=by unfold gN at i1;split at i1<;>omega
 have r:=M _ (fJ N);have D:=r.len;suffices h:((vL o ps xs).length:Int)=ax V/\∀z∈vL o ps xs,bb z from⟨(aN _ _).2 ⟨R,h.1⟩,h.2⟩;unfold vL;rw[S];by_cases m:o.kd=8
 .rw[fv,ah m]at i3;rw[ah m];rw[cY,ah m,a1,a1,a1]at hK;rw[dd,ah m,a1,a1,a1]at hV;have G:=hp _ (fJ (L:=ps) (k:=1) om);(have U:iG (ps.getD 0 ([],[])).1 (ps.getD 1 ([],[])).1 (xs.getD 0 ([],[])).1=true:=by unfold mD at hK;split at hK;assumption;exact absurd hK am);rw[mC,ah U]at hV;simp only[iG,bK,bZ]at U;obtain⟨⟨⟨⟨g1,g2⟩,X⟩,g4⟩,g5⟩:=U;have e:(ps.getD 1 ([],[])).1=V:=by
   rw[<-hV];match(ps.getD 1 ([],[])).1,g2,X with
   |[y],_,X=>rw[<-X];rfl
  refine⟨by rw[g0,G.len,e],oQ λi=>hW _ _⟩
 rw[ag m];by_cases B:o.kd=9;rw[fv,ag m,ah (.inl B)]at i3;rw[ah B];rw[cY,ag m,ah B,a1,a1]at hK;rw[dd,ag m,ah B,a1,a1]at hV;have G:=hp _ (fJ (L:=ps) (k:=0) om);have O:=eg hK _ (cm);have e2:=eg hK (xs.getD 0 ([],[])).1 aD;rw[hV]at O e2;have Y:=G.len;rw[O]at Y;rw[e2]at D;exact⟨by rw[yi];omega,Dp⟩;rw[ag B];by_cases j:o.kd=10;rw[ah j];rw[cY,ag m,ag B,ah j,a1,a1]at hK;rw[dd,ag m,ag B,ah j,a1,a1]at hV;have hf:∃f,nz f (ps.getD 0 ([],[])).1 (xs.getD 0 ([],[])).1 V o.st:=xR6;unfold cvX;rw[dif_pos hf];exact⟨by rw[nA,hf.choose_spec.v],zV⟩;rw[ag j];by_cases J:o.kd=11;rw[ah J];exact xR4;rw[ag J];by_cases K:o.kd=12;rw[ah K];exact xR4;rw[ag K];have b:¬(o.kd=11\/o.kd=12):=λh=>h.elim J K;by_cases l:o.kd=13;rw[ah l];rw[cY,ag m,ag B,ag j,ag b,ah l]at hK;rw[dd,ag m,ag B,ag j,ag b,ah l]at hV;obtain⟨nn,P,I,Z,hs,jw,-,-,e,hZ,-,Q⟩:=Ds (by intro h;rw[h]at N;simp at N) M hK hV;rw[e];refine⟨by rw[Iq (λt ht=>(Q t ht).1) (al _),<-hZ,jw.prod],λz E=>?_⟩;obtain⟨t,ht,E⟩:=SG E;exact qV M t ht z E;rw[ag l];by_cases u:o.kd=14;rw[ah u];rw[cY,ag m,ag B,ag j,ag b,ag l,ah u,a1]at hK;rw[dd,ag m,ag B,ag j,ag b,ag l,ah u,a1]at hV;obtain⟨nn,P,I,Z,F,T,-,-,-,hFT,Fr,jw,hv,ex,hpl⟩:=Ir r hK;rw[ex];rw[hv]at hV;have h2:F*I+(T-F)*I<=Z*I:=by rw[<-hx];exact cU _ om
 exact⟨by rw[kr (by rw[jw.cells r.1];exact al _) h2,<-hV,hpl],λz E=>r.2 z (n8 E)⟩;rw[ag u];by_cases C:o.kd=15
 .rw[ah C];rw[cY,ag m,ag B,ag j,ag b,ag l,ag u,ah C,a1]at hK;rw[dd,ag m,ag B,ag j,ag b,ag l,ag u,ah C,a1]at hV;rw[zB,ah hK]at hV;refine⟨?_,r.2⟩;rw[D];unfold up at hK;rw[ah r.right]at hK;split at hK
  .split at hK;rename_i h;rw[<-hV,h];exact absurd hK am
  exact absurd hK am
 rw[ag C];rw[cY,ag m,ag B,ag j,ag b,ag l,ag u,ag C]at hK;rw[dd,ag m,ag B,ag j,ag b,ag l,ag u,ag C]at hV;have O:=eg hK (xs.getD 0 ([],[])).1 (by rw[<-a1,aQ,bf,a5 N];exact bw.2 ⟨_,o0 N,rfl⟩);rw[hV]at O;rw[O]at D;exact⟨by rw[ny,D],oQ λi=>Pq hk (qS (ZU (qV M)) i) (ZT (qV M) i)⟩
end
end Go.Proofs.YtmkjnlifimffkaaGreat
