/- Lemmas. -/
import Derived.LoopN
import Derived.Test.YtmkjnlifimffkaaGreatS10
namespace Go.Proofs.YtmkjnlifimffkaaGreat
open Go.RowKit Tryz
set_option linter.all false
set_option maxRecDepth 100000
set_option maxHeartbeats 0
variable{Γ:Prop}
attribute[local irreducible]Calls
variable{w:World}{A B C D:Option Addr}{R c c' d d' m m' n:Nat}{xs ys zs:List Int}{E side:Int}{us:List Tn}
section
variable{ts:List Int}
def xN3(h:Γ:=by simp[results,results164,go_sem,r0,r1]):=h
def ZR[Sl w A n zs][Sl w B m xs][Sl w C R ts](N:n<=1000000)(G:R<=1000000)(h:(ap zs xs&&ap ts xs)=false):() 164 #[.agg #[(A,n,c),(B,m,d)],(C,R,c')] w (dK w [] [] 20):=by
 have O:=@ay;have P:=@aO;rcases hr:ap zs xs with _|_
 .clear h;go_in;go_wp2_with (go_at_call 69;refine(bD om).mono ?_;rintro e u ⟨rfl,_⟩);have l:Bx u (w.1.size+1) 28 #[(),()]:=aq;have r:=l.ak.bP () ();have y:=br (aP w u) (p:=w.1.size+1) om () ();obtain⟨r0,r1⟩:=bI r;exact aX (v:=.tuple #[.agg #[(),()],(20:Int)]) xN3 rfl<|⟨none,0,none,0,rfl,Sl.empty,Sl.empty,⟨al _⟩,⟨al _⟩,bG.none,bG.none,⟨y⟩⟩
 have I:ap ts xs=false:=by simpa[hr]using h
 clear h;go_in;go_wp2_with (first|(go_at_call 69;refine(bD om).mono ?_;rintro e u ⟨rfl,_⟩)|(go_at_call 25;refine(KF om I).mono ?_;rintro e u ⟨b,c',j,d',rfl,J,K,L,M,fA,F,_⟩));have l:Bx u (w.1.size+1) 28 #[(),()]:=aq;have r:=l.ak.bP (b,0,c') (j,0,d');have y:=br (aP w u) (p:=w.1.size+1) om (b,0,c') (j,0,d');have z:=J.bA fA (Bx.ak (g:=w.1.size+1)).lt (b,0,c') (j,0,d');have E:=K.bA F (Bx.ak (g:=w.1.size+1)).lt (b,0,c') (j,0,d');obtain⟨r0,r1⟩:=bI r;exact aX (v:=.tuple #[.agg #[(b,0,c'),(j,0,d')],(20:Int)]) xN3 rfl<|⟨b,c',j,d',rfl,z,E,L,M,fA.less ai,F.less ai,⟨y⟩⟩
def FP[Sl w A n zs][Sl w B m xs][Sl w C R ts](N:n<=1000000)(hm:m<=1000000)(z:R<=1000000)(hr:ap zs xs=true)(E:ap ts xs=true):() 164 #[.agg #[(A,n,c),(B,m,d)],(C,R,c')] w (dK w ts xs 0):=by
 have O:=@ay;have P:=@aO;go_in;go_wp2_with (first|(go_at_call 69;refine(bD om).mono ?_;rintro e u ⟨rfl,_⟩)|(go_at_call 25;refine(rJ om om E).mono ?_;rintro e u ⟨b,c',j,d',rfl,F,G,I,J,fA,y,_⟩));have K:Bx u (w.1.size+1) 28 #[(),()]:=aq;have L:=K.ak.bP (.slice b ts c') (.slice j xs d');have M:=br (aP w u) (p:=w.1.size+1) om (.slice b ts c') (.slice j xs d');have l:=F.bA fA (Bx.ak (g:=w.1.size+1)).lt (.slice b ts c') (.slice j xs d');have r:=G.bA y (Bx.ak (g:=w.1.size+1)).lt (.slice b ts c') (.slice j xs d');obtain⟨r0,r1⟩:=bI L;exact aX (v:=.tuple #[.agg #[.slice b ts c',.slice j xs d'],an]) xN3 rfl<|⟨b,c',j,d',rfl,l,r,I,J,fA.less ai,y.less ai,⟨M⟩⟩
def vF[Sl w A n zs][Sl w B m xs][Sl w C R ts][Sl w D m' ys](P:n<=1000000)(z:R<=1000000)(E:m'<=1000000)(hr:ap zs xs=true)(F:ap ts ys=true)(G:ap zs ys=true):() 179 #[.agg #[(A,n,c),(B,m,d)],.agg #[(C,R,c'),(D,m',d')]] w (dK w zs ys 0):=by
 have Q:=@ay;have S:=@aO;go_in;go_wp2_with (first|(go_at_call 69;refine(bD om).mono ?_;rintro e u ⟨rfl,_⟩)|(go_at_call 25;refine(rJ om om G).mono ?_;rintro e u ⟨b,c',j,d',rfl,I,J,K,L,fA,y,_⟩));have M:Bx u (w.1.size+1+1) 28 #[(),()]:=aq;have N:=M.ak.bP (.slice b zs c') (.slice j ys d');have O:=br (aP w u) (p:=w.1.size+1+1) om (.slice b zs c') (.slice j ys d');have l:=I.bA fA (Bx.ak (g:=w.1.size+1+1)).lt (.slice b zs c') (.slice j ys d');have r:=J.bA y (Bx.ak (g:=w.1.size+1+1)).lt (.slice b zs c') (.slice j ys d');obtain⟨r0,r1⟩:=bI N;exact aX (v:=.tuple #[.agg #[.slice b zs c',.slice j ys d'],an]) (by simp[results,results179,go_sem,r0,r1]) rfl<|⟨b,c',j,d',rfl,l,r,K,L,fA.less ai,y.less ai,⟨O⟩⟩
def FSq(A:bF)(l c:Nat)(y:l+1<=c):
  ∃u,(∀w,(Instr.slice 23 (.slice A (l+1) c) (some (.int .i64 1)) none none).run prog w=.ok (.slice u l (c-1)) w)/\∀w us,m3 w A us->us.length=l+1->m3 w u (us.drop 1):=by
 have hs:∀w,(sizeOf (prog.elem 23)).run prog w=.ok 2 w:=λw=>by obtain⟨i,hi,e⟩:=bt.1 (show(prog.info? (prog.elem 23)).map (·.size)=some 2 from by kernel_rfl);simp[sizeOf,typeInfo,hi,e]
 refine⟨if c=1 then A else A.map (·.add 2),λw=>?_,λw us h E j t r=>?_⟩;rw[dN w 23 A (l+1) c ao .i64 1 om om,hs];simp[Result.andThen,sliced];rw[fb]at r;obtain⟨b,o,rfl,k⟩:=h _ t r;have z:=(a8.1 r).1;rw[ag om];exact⟨b,o+2,by simp[Addr.add],by rw[show o+2+j*2=o+(1+j)*2 from om];exact k⟩
def Lb{zs ts:au}{side:Int}:(dD zs ts side).length<=zs:=by
 unfold dD hR;split<;>simp
def xN0(h:Γ:=by go_ret2;exact⟨none,0,rfl,Sl.empty,⟨al _⟩,bG.none,aF⟩):=h
def xN1(h:Γ:=by go_wp2_with (go_at_call 69;refine(bD om).mono ?_;rintro e u ⟨rfl,_⟩);exact xN0):=h
def zQ[a:Ts w A n us][lc:Le n c](hn:n<=1000000)(hz:Hx (∀t∈us,t.zs.length<=1000000)){S:au}(hE:Hx (xo side us=E))(hS:Hx (S=if E=0 then um side us else[])):
  () 177 #[side,(A,n,c)] w (jP w S E):=by
 obtain⟨CB,CP,FB⟩:=ia;by_cases h0:n=0
 .subst h0;obtain rfl:us=[]:=hB a.len.symm;obtain rfl:E=20:=hE.o.symm;(obtain rfl:S=[]:=by rw[hS.o];rfl);go_in;go_wp2_with fail;exact xN0
 obtain⟨l,rfl⟩:∃l,n=l+1:=⟨n-1,om⟩;obtain⟨t0,r,rfl⟩:∃t0 r,us=t0::r:=by
  cases us with
  |nil=>have:=a.len;simp at this
  |cons t0 r=>exact⟨t0,r,rfl⟩
 have O:Hx (r.length=l):=ae (by have:=a.len;simp at this;omega);obtain⟨b,o,A0,c0,z0,B0,d0,x0,rfl,ob,q0,q1,s0,sx0,oK,i0,ht0⟩:=a.get (k:=0) om;simp only[e6,ef]at q0 q1;obtain rfl:t0=⟨A0,c0,z0,B0,d0,x0⟩:=by have:=ht0.o;simpa using this
 have hJ:z0.length<=1000000:=hz.o _ (cm);have j:=hE.o;rw[vu]at j;simp only at j;rcases hr:ap z0 x0 with _|_;obtain rfl:E=20:=by rw[hr]at j;simpa using j.symm
 obtain rfl:S=[]:=by rw[hS.o];rfl
 clear j h0 hE hS;go_in;exact xN1;rw[hr,ah rfl]at j;by_cases z:l=0/\¬(0<=side/\side<z0)
 .obtain⟨rfl,L⟩:=z;obtain rfl:r=[]:=hB O;(obtain rfl:E=11:=by rw[<-j];simp;omega);(obtain rfl:S=[]:=by rw[hS.o];rfl);clear j h0 hE hS;by_cases sa:side<0;rotate_left;(focus have zb:(z0.length:Int)<=side:=om;clear L);all_goals go_in;go_wp2_with (first|(go_at_call 69;refine(bD om).mono ?_;rintro e u ⟨rfl,_⟩)|(go_at_call 103;refine(k3 om).mono ?_;rintro e u ⟨gS,rfl,X,Y,_⟩));go_ret2;exact⟨none,0,rfl,Sl.empty,⟨al _⟩,bG.none,aF⟩
 have HJ:Hx (vt side z0 r=E):=ae (by
  rw[<-j,ag];intro hc;simp at hc;obtain⟨rfl,hc⟩:=hc;exact z ⟨by simpa using O.o.symm,om⟩)
 have Z:Hx (S=if E=0 then xm side z0 r else[]):=hS;obtain⟨A',ko,M⟩:=FSq (some ⟨b,o,none⟩) l c lc.le;have HRD:=ae M;have ar:Ts w A' l r:=⟨M w _ a.rd a.len.symm,O.o.symm⟩;have XR:Hx (∀t∈r,t.zs.length<=1000000):=λt ht=>hz.o t (dp _ ht);clear j hE hS M;have y:l=0->0<=side/\side<z0:=λh=>by rcases Classical.em (0<=side/\side<z0)with h'|h';exact h';exact absurd ⟨h,h'⟩ z
 clear z;by_cases N:l=0
 .obtain⟨p0,p1⟩:=y N;subst N;obtain rfl:r=[]:=hB O;obtain rfl:E=0:=HJ.o.symm;(obtain rfl:S=z0:=by rw[Z.o];rfl);clear y;go_in;go_wp2_with (first|(go_at_call 69;refine(bD om).mono ?_;rintro e u ⟨rfl,_⟩)|(go_at_call 103;refine(k3 om).mono ?_;rintro e u ⟨gS,rfl,X,Y,_⟩));refine lR 1 ?_;rw[gH];go_wp2_with fail;go_ret2;exact⟨_,_,rfl,X,⟨al _⟩,Y.less ai,aF⟩
 have HU:0<l:=om;clear y N;go_in;go_wp2_with (first|(go_at_call 69;refine(bD om).mono ?_;rintro e u ⟨rfl,_⟩)|(go_at_call 103;refine(k3 om).mono ?_;rintro e u ⟨gS,rfl,X,Y,_⟩));go_loopw [6,42] (λs i wr=>∃(k:Nat) (P:bF) (c2:Nat) (T:au),k<=l/\i=.int .i64 k/\s=.slice P T c2/\Sl wr P T T/\Le T.length c2/\bG w.1.size P/\T.length<=1000000/\Hx (vt side T (r.drop k)=E)/\Hx (xm side T (r.drop k)=xm side z0 r)/\aj wr u) (λ_ i _=>l-(intOf i).toNat);exact⟨0,_,_,z0,aM _,rfl,rfl,X,⟨al _⟩,Y.less ai,hJ,HJ,ae rfl,aF⟩;obtain⟨k,P,c2,T,hk,rfl,rfl,sT,lT,fT,hT,I,Q,hp⟩:=hrel;by_cases bE:k<l
 .obtain⟨b',o',A1,c1,z1,B1,d1,x1,rfl,ob',q2,q3,s1,t1,Co,i1,ht⟩:=ar.get bE;have hH:=XR.o _ (aC ht.o);simp only at hH;have HD:Hx (r.drop k=⟨A1,c1,z1,B1,d1,x1⟩::r.drop (k+1)):=ae (by
   obtain⟨SZ,e⟩:=a8.1 ht.o;rw[<-e];exact ed SZ)
  rcases W0:ap z1 x1 with _|_;(obtain rfl:E=20:=by have:=I.o;rw[HD.o]at this;simpa[vt,W0]using this.symm);(obtain rfl:S=[]:=by rw[Z.o];rfl);exact xN1;obtain⟨J,K⟩:=kS (ea T z1 side);obtain⟨V,F⟩:=kS (dD T z1 side);by_cases G:J=0
  .subst G;go_wp2_with (first|(go_at_call 69;refine(bD om).mono ?_;rintro e u ⟨rfl,_⟩)|(go_at_call 191;refine(ul om om K F).mono ?_;rintro e u ⟨A',c',rfl,sJ,lJ,fJ,_⟩));go_roundw;exact⟨k+1,A',c',V,om,by go_num,rfl,sJ,lJ,fJ.less ai,by rw[<-F.o];have:=Lb (zs:=T) (ts:=z1) (side:=side);omega,ae (by have:=I.o;rw[HD.o]at this;simpa[vt,W0,K.o,F.o]using this),ae (by have:=Q.o;rw[HD.o]at this;simpa[xm,F.o]using this),aF⟩;simp[intOf];omega
  have e1:(J !=0)=true:=by simp[G]
  obtain rfl:E=J:=by have:=I.o;rw[HD.o]at this;simp[vt,W0,K.o,G]at this;exact this.symm
  obtain rfl:S=[]:=by rw[Z.o,ag G]
  clear G;go_wp2_with (first|(go_at_call 69;refine(bD om).mono ?_;rintro e u ⟨rfl,_⟩)|(go_at_call 191;refine(ul om om K F).mono ?_;rintro e u ⟨A',c',rfl,sJ,lJ,fJ,_⟩));exact xN0
 have U:Hx (r.drop k=[]):=eF (by rw[O.o];omega);obtain rfl:E=0:=by have:=I.o;rw[U.o]at this;exact this.symm
 obtain rfl:S=T:=by rw[Z.o,ah rfl,<-Q.o,U.o];rfl
 go_wp2_with fail;go_ret2;exact⟨P,c2,rfl,sT,lT,fT,aF⟩
end
section
variable{I Z i j:Nat}{V xg:List Int}{P:Program}{x y z:Int}
def sX(I F T Z:Nat)(b:au)(i:Nat):List Int:=List.replicate (F*I) 0++(b.drop (i*((T-F)*I))).take ((T-F)*I)++List.replicate ((Z-T)*I) 0
def oM(P I F T Z:Nat)(b:au)(i:Nat):List Int:=(List.range i).flatMap (sX I F T Z b)++List.replicate ((P-i)*(Z*I)) 0
section
variable{P F T:Nat}
def FT(hF:F<=T)(b:T<=Z):F*I+(T-F)*I+(Z-T)*I=Z*I:=by
 rw[<-hx,<-hx];congr 1;omega
def Cp(hF:F<=T)(b:T<=Z)(h:(i+1)*((T-F)*I)<=xg):(sX I F T Z xg i).length=Z*I:=by
 rw[d5]at h;have:=FT (I:=I) hF b;simp[sX];omega
def qJ(hF:F<=T)(b:T<=Z)(h:i*((T-F)*I)<=xg):((List.range i).flatMap (sX I F T Z xg)).length=i*(Z*I):=by
 induction i with
 |zero=>simp
 |succ i e=>have j:=h;rw[d5]at j;rw[g5,jG,bh,e om];simp only[g6,List.flatMap_nil,en];rw[Cp hF b h,d5]
def qK(hF:F<=T)(b:T<=Z)(hi:i<=P)(h:i*((T-F)*I)<=xg):(oM P I F T Z xg i).length=P*(Z*I):=by
 rw[oM,bh,qJ hF b h,eY,<-hx];congr 1;omega
def Pn(hF:F<=T)(j:T<=Z)(hi:i<P)(h:(i+1)*((T-F)*I)<=xg):
  over (oM P I F T Z xg i) ((xg.drop (i*((T-F)*I))).take ((T-F)*I)) (i*(Z*I)+F*I)=oM P I F T Z xg (i+1):=by
 have l:=h;rw[d5]at l;have hs:=FT (I:=I) hF j;have e:=qJ (I:=I) hF j (show i*((T-F)*I)<=xg by omega);have m:((xg.drop (i*((T-F)*I))).take ((T-F)*I)).length=(T-F)*I:=by simp;omega
 have r:(P-i)*(Z*I)=Z*I+(P-(i+1))*(Z*I):=by rw[show P-i=(P-(i+1))+1 from om,d5,tU]
 have b:sX I F T Z xg i=List.replicate (F*I) 0++(xg.drop (i*((T-F)*I))).take ((T-F)*I)++List.replicate ((Z-T)*I) 0:=rfl;rw[over,m,oM,oM,g5,jG];simp only[g6,List.flatMap_nil,en];rw[b];generalize(xg.drop (i*((T-F)*I))).take ((T-F)*I)=L at*;generalize(List.range i).flatMap (sX I F T Z xg)=K at*;rw[rC,List.drop_append,e,bY om,eF om,jE,r,
  show i*(Z*I)+F*I-i*(Z*I)=F*I from om,show i*(Z*I)+F*I+(T-F)*I-i*(Z*I)=F*I+(T-F)*I from om,List.take_replicate,List.drop_replicate,
  dQ om,show Z*I+(P-(i+1))*(Z*I)-(F*I+(T-F)*I)=(Z-T)*I+(P-(i+1))*(Z*I)from om,<-List.replicate_append_replicate]
 simp
def Po:oM P I F T Z xg 0=List.replicate (P*(Z*I)) 0:=by simp[oM]
end
def Lc(t:TypeId)(ht:P.underlying t=some (.slice (P.elem t)))(hs:(P.info? (P.elem t)).map (·.size)=some 1)(g n k:Nat)(i:Int)(hi:i=(k:Int))(j:k<n):
  ∀w,(Instr.slice t (g,n,n) (some (.int .i64 i)) none none).run P w=.ok (.slice (some ⟨g,k,none⟩) (n-k) (n-k)) w:=by
 subst hi;intro w;rw[dN w t _ n n ht .i64 k om om,h1 hs];have b:n≠k:=om;by_cases e:k=0;subst e;simp[Result.andThen,sliced,Addr.add,b];simp[Result.andThen,sliced,Addr.add,b,e]
section
variable{ts:List Int}
def XS[Sl w A n zs][Sl w B m xs][Le m d](Q:n<=1000000){S X:au}(F:Hx (gL zs xs side x y=z))(hS:Hx (HB zs xs side x y=S))(G:Hx (Ft zs xs side x y=X)):
  () 163 #[.agg #[(A,n,c),(B,m,d)],side,x,y] w (dK w S X z):=by
 have T:=@ay;have U:=@aO;go_in;go_wp2_with (go_at_call 178;refine(Nk om F hS G).mono ?_;rintro e u ⟨b,c',j,d',rfl,I,K,L,M,fA,E,_⟩);have N:Bx u (w.1.size+1) 28 #[(),()]:=aq;have O:=N.ak.bP (.slice b S c') (.slice j X d');have P:=br (aP w u) (p:=w.1.size+1) om (.slice b S c') (.slice j X d');have l:=I.bA fA (Bx.ak (g:=w.1.size+1)).lt (.slice b S c') (.slice j X d');have r:=K.bA E (Bx.ak (g:=w.1.size+1)).lt (.slice b S c') (.slice j X d');obtain⟨r0,r1⟩:=bI O;exact aX (v:=.tuple #[.agg #[.slice b S c',.slice j X d'],z]) (by simp[results,results163,go_sem,r0,r1]) rfl<|⟨b,c',j,d',rfl,l,r,L,M,fA.less ai,E.less ai,⟨P⟩⟩
def xN2(h:Γ:=by go_wp2_with fail;go_round;exact⟨k+1,om,by go_num,by rw[take_at xb.o,jg]⟩;simp[intOf];omega):=h
def xt[a:Sl w A n zs][b:Sl w B m xs][Sl w C R V][b':Sl w D m' ys][ld':Le m' d'](hn:n<=1000000)(FR:R<=1000000){P F T:Nat}(hr:ap zs xs=true)(l:Hx (JW j P I Z zs))(Y:F<T)(Fr:T<=Z)(hV:Hx (V=zs.set j ((T:Int)-F)))(H8:ap V ys=true){X:au}(hX:Hx (X=oM P I F T Z ys P)):
  () 112 #[.agg #[(A,n,c),(B,m,d)],.agg #[(C,R,c'),(D,m',d')],j,F,T] w (dK w zs X 0):=by
 obtain⟨CB,CP,FB⟩:=ia;obtain⟨r1,r4,tX,-⟩:=(a2 zs).1 l.o.right;have hrV:=((aN _ _).1 H8).1;obtain⟨v1,v4,vin,-⟩:=(a2 V).1 hrV;have xu:=l.o.lt;have Tr:V.length=zs.length:=by rw[hV.o,d3]
 have jQ:=l.o.cells hr;have adH:=l.o.small;have Ca:=l.o.p1;have Ky:=l.o.i1;have hdV:V.drop (j+1)=zs.drop (j+1):=by rw[hV.o,List.drop_set_of_lt om]
 have hpV:ax (V.drop (j+1))=(I:Int):=by rw[hdV,l.o.behind]
 have M:V[j]?=some (((T-F:Nat):Int)):=by rw[hV.o,fF xu];congr 1;omega
 have G:ax (V.take j)=(P:Int):=by rw[hV.o,rA (al _),l.o.ahead]
 have tZ:ys=P*((T-F)*I):=by have h1:=((aN _ _).1 H8).2;rw[iq M,hpV,G,<-b8,<-b8]at h1;omega
 have HC:Hx (gm zs j (F:Int) (T:Int)=0):=ae (by
  have hg:zs.getD j 0=(Z:Int):=by rw[aQ,l.o.at_];rfl
  rw[gm,ah l.o.right,ah];rw[aZ,hg];simp only[bK,bZ];omega)
 have Ld:Hx (hG zs j (F:Int) (T:Int)=V):=ae (by rw[hG,ah HC.o,aZ,<-hV.o]);have VIN:Hx (ct (V.drop (j+1))=true):=nW vin _;obtain⟨aa,hR⟩:=lh (Z*I);obtain⟨y,J⟩:=lh ((T-F)*I);obtain⟨E,XT⟩:=lh (F*I);have ZS:=FT (I:=I) (fq Y) Fr;have adI:1<=y:=by rw[<-J];exact jK om Ky
 have hle:E+y<=aa:=by rw[J,XT,hR]at ZS;omega
 have hR6:aa<=65536:=by have h3:1*(Z*I)<=P*(Z*I):=cU _ Ca;omega
 have hI6:I<=65536:=by have h3:1*I<=Z*I:=cU _ l.o.z1;omega
 have XU:P<=65536:=by have h3:P*1<=P*(Z*I):=fS _ (jK l.o.z1 Ky);omega
 have hZ6:Z<=65536:=by have h3:Z*1<=Z*I:=fS _ Ky;omega
 have m1:(Z:Int)*(I:Int)=(aa:Int):=by rw[<-hR,b8]
 have m2:((T:Int)-(F:Int))*(I:Int)=(y:Int):=by rw[<-J,b8];congr 1;omega
 have m3:(F:Int)*(I:Int)=(E:Int):=by rw[<-XT,b8]
 have XV:xs.length=P*aa:=by rw[jQ,hR]
 have hyR:ys=P*y:=by rw[tZ,J]
 have aaG:0<xs.length:=by rw[XV];exact jK Ca om
 have m4:(xs.length:Int)/(aa:Int)=(P:Int):=by rw[XV,b8];exact Int.mul_ediv_cancel _ om
 have HZ:=ae l.o.at_;have FU:=ae XV;have HYR:=ae hyR;have HR:=ae hR;have vA:=ae J;have XW:=ae XT;have zq:xs.length<=65536:=om;have hy6:ys.length<=65536:=by have:=(gO H8).1;exact this
 have Tt:=ae hpV;have Cn:=ae Tr;have hm:m<=65536:=by rw[b.len];exact zq
 obtain⟨b,rfl⟩:=b;have b:Sl w B xs xs:=⟨b,rfl⟩;obtain⟨a,rfl⟩:=a;have a:Sl w A zs zs:=⟨a,rfl⟩;obtain⟨b',rfl⟩:=b';have b':Sl w D ys ys:=⟨b',rfl⟩;obtain⟨bz,oz,z,rfl,obz,cz,eZ⟩:=a.get xu;obtain rfl:z=(Z:Int):=by have h1:=eZ.o;rw[HZ.o]at h1;injection h1 with h1;exact h1.symm
 clear tX vin Tr jQ hdV hpV M G tZ hR J XT ZS XV hyR eZ HZ r1 v1 hrV;go_in;go_upto_region 8 with(first|(go_at_call 69;refine(bD om).mono ?_;rintro e u ⟨rfl,_⟩)|(go_at_call 129;refine(Nj om HC Ld).mono ?_;rintro e u ⟨A',c',rfl,sJ,lJ,fJ,_⟩)|(go_at_call 70;refine(ku om om).mono ?_;rintro e u ⟨rfl,_⟩));obtain⟨N,rfl⟩:=lg u;have sJ2:Sl N A' V V:=aq;obtain⟨AV,ko,SE⟩:=qB (P:=prog) 25 ao ao A' V.length c' (j+1) ((j:Int)+1) aD (by rw[Cn.o];exact xu) lJ.le;have sV:Sl N AV (V.length-(j+1)) (V.drop (j+1)):=⟨SE N V rfl sJ2.rd,aD⟩;clear SE hr H8;go_wp2_with fail;refine(gW om om).mono ?_;rintro e w1 ⟨g,r,rfl,hg,zr,oS,oX,vD⟩;have xd:=λty=>hU (P:=prog) 26 65 ty underlying26 ao (oX.alloc (.cells #[.slice g zs zs.length,.slice r xs xs.length] 28)) aaG xs.length;have n1:g≠r:=oS.aH (cs:=ints xs) oX am;have n2:w1≠r:=by have:=oX.lt;omega
 have O:=fG (bs:=[r]) (g:=r) aD (List.replicate xs.length an) 0 (ik.refl [r] (w1.alloc (.cells #[.slice g zs zs.length,.slice r xs xs.length] 28)));have zP:=(oX.alloc (.cells #[.slice g zs zs.length,.slice r xs xs.length] 28)).clear;have uu:=O.own (oS.alloc (.cells #[.slice g zs zs.length,.slice r xs xs.length] 28)) (by simpa using n1);have Q:=O.ak (az.new w1 28 #[.slice g zs zs.length,.slice r xs xs.length]) (by simpa using n2);have pW:aj _ N:=⟨dG (n:=N.1.size) (g:=r) zr (List.replicate xs.length an) 0 (aP N (w1.alloc (.cells #[.slice g zs zs.length,.slice r xs xs.length] 28)))⟩;obtain⟨W,hW⟩:=lg ((w1.alloc (.cells #[.slice g zs zs.length,.slice r xs xs.length] 28)).setCells r 0 (List.replicate xs.length an));rw[<-hW]at zP uu Q pW;replace Q:Bx W w1.1.size 28 #[.slice g zs zs.length,.slice r xs xs.length]:=⟨Q⟩;go_wp2_with fail;rw[<-hW];clear xd ko hW O;go_loop [15,58] (λp i=>∃k:Nat,k<=V-(j+1)/\i=.int .i64 k/\p=.int .i64 (ax ((V.drop (j+1)).take k))) (λ_ i=>V.length-(j+1)-(intOf i).toNat);exact⟨0,aM _,rfl,rfl⟩;obtain⟨k,hk,rfl,rfl⟩:=hrel;obtain⟨zR,sZ⟩:=mg (V.drop (j+1)) VIN cr k;by_cases bE:k<V-(j+1);obtain⟨b1,off,z,rfl,pq,hc,xb⟩:=sV.get bE;obtain⟨hH,jM⟩:=dH VIN xb.o;obtain⟨k8,HD⟩:=lV zR sZ hH jM;exact xN2;have uj:ax ((V.drop (j+1)).take k)=(I:Int):=by rw[bY (by simp;omega),Tt.o]
 rw[uj];clear zR sZ uj;go_wp2_with fail;go_loopw [83] (λi wr=>∃ab:Nat,ab<=P/\i=.int .i64 ab/\Own wr r 65 (oM P I F T Z ys ab)/\Own wr g 3 zs/\Bx wr w1.1.size 28 #[.slice g zs zs.length,.slice r xs xs.length]/\aj wr N) (λi _=>P-(intOf i).toNat);exact⟨0,aM _,rfl,by rw[Po,HR.o,<-FU.o];exact zP,uu,Q,pW⟩;clear zP uu Q pW m4;obtain⟨ab,hj,rfl,hO,hS,hB,hp⟩:=hrel;by_cases S:ab<P
 .obtain⟨S1,XX⟩:=lh (ab*aa);obtain⟨S2,L⟩:=lh (ab*y);(have g1:S1+aa<=xs.length:=by rw[FU.o,<-XX,<-d5];exact cU _ S);(have g2:S2+y<=ys:=by rw[HYR.o,<-L,<-d5];exact cU _ S);(have m5:(ab:Int)*(aa:Int)=(S1:Int):=by rw[<-XX,b8]);(have m6:(ab:Int)*(y:Int)=(S2:Int):=by rw[<-L,b8]);(have m7:((ab:Int)+1)*(y:Int)=(S2:Int)+y:=by rw[iV,m6,rD]);have ZE:=Lc (P:=prog) 26 ao ao r xs.length (S1+E) ((S1:Int)+(E:Int)) aD om;obtain⟨A3,Tu,U⟩:=qC (P:=prog) 26 ao ao D ys.length d' S2 (S2+y) (S2:Int) ((S2:Int)+y) om om om om ld'.le;rw[tE]at Tu U;have l3:((ys.drop S2).take y).length=y:=by simp;omega
  have Q3:=U w ys rfl b'.rd;obtain⟨b3,o3,_,rfl,Tv,-,-⟩:=Sl.get (⟨Q3,l3.symm⟩:Sl w A3 y _) (k:=0) om;have XY:Hx (over (oM P I F T Z ys ab) ((ys.drop S2).take y) (S1+E)=oM P I F T Z ys (ab+1)):=ae (by
   have:=Pn (P:=P) (I:=I) (F:=F) (T:=T) (Z:=Z) (xg:=ys) (i:=ab) (fq Y) Fr S (by rw[vA.o,d5,L];exact g2);rw[vA.o,HR.o,XW.o,XX,L]at this;exact this)
  have HCL:Hx ((oM P I F T Z ys ab).length=xs):=ae (by
   rw[qK (fq Y) Fr hj (by rw[vA.o,L];omega),HR.o,FU.o])
  have abX:Hx (((ys.drop S2).take y).length=Nat.min y (xs.length-(S1+E))):=ae (by rw[l3];exact(dQ om).symm);have abY:Hx (S1+E+((ys.drop S2).take y).length<=(oM P I F T Z ys ab).length):=ae (by rw[l3,HCL.o];omega);clear l3 U XX L;go_wp2_with fail;have y1:IntKind.i64.wrap (S1:Int)=(S1:Int):=hD _ om;have y2:IntKind.i64.wrap (E:Int)=(E:Int):=hD _ om;have y3:IntKind.i64.wrap ((S1:Int)+(E:Int))=(S1:Int)+(E:Int):=hD _ om;have y4:IntKind.i64.wrap (S2:Int)=(S2:Int):=hD _ om;have y5:IntKind.i64.wrap ((ab:Int)+1)=(ab:Int)+1:=hD _ om;have y6:IntKind.i64.wrap ((S2:Int)+(y:Int))=(S2:Int)+(y:Int):=hD _ om;refine a6 N (λw9=>Bx w9 w1.1.size 28 #[.slice g zs zs.length,.slice r xs xs.length]) ao aq (λvx _=>?_);refine bR 0 ?_;refine bR 1 ?_;refine bR 2 ?_;refine bR 3 ?_;refine bR 4 ?_;refine bR 5 ?_;refine bR 6 ?_;refine bR 7 ?_;refine bR 8 ?_;refine bR 9 ?_;refine bR 10 ?_;refine bR 11 ?_;refine bR 12 ?_;refine bR 13 ?_;refine bR 14 ?_;refine bR 15 ?_;refine bR 16 ?_;refine bR 17 ?_;refine bR 18 ?_;refine bR 19 ?_;refine aK 20 λK hK=>?_;have pt:=λty=>fK (P:=prog) 26 26 ty 65 underlying26 ao (hO.at (w':=vx)) (o:=S1+E) (dLen:=xs.length-(S1+E)) (dCap:=xs.length-(S1+E)) (sLen:=y) (sCap:=d'-S2) (Q3.at (w':=vx)) abX abY;go_simp;refine qt hK (λ_=>?_) ⟨⟨below_setRow (aP N vx) zr _⟩,⟨(l0 _ _ _ _ n2).trans (Bx.ak (w:=vx))⟩⟩;clear hK K pt;refine a9 ?_;clear y1 y2 y3 y4 y5 y6;go_wp2_with fail;go_roundw;have o2:=(hO.at (w':=vx)).setRow (over (oM P I F T Z ys ab) ((ys.drop S2).take y) (S1+E));rw[XY.o]at o2;refine⟨ab+1,om,by go_num,?_,(l0 _ _ _ _ n1).trans (hS.at (w':=vx)),⟨(l0 _ _ _ _ n2).trans (Bx.ak (w:=vx))⟩,⟨below_setRow (aP N vx) zr _⟩⟩;rw[XY.o];exact o2;simp[intOf];omega
 obtain rfl:ab=P:=om;have kR:Bx wr (w.1.size+1+1) 28 #[(),()]:=aq;have l1:=hS.aH kR.ak am;have l2:=hO.aH kR.ak am;have XZ:X.length=xs.length:=by rw[hX.o,qK (fq Y) Fr (al _) (by rw[vA.o,<-HYR.o];exact al _),HR.o,FU.o]
 have n7:=ae XZ;clear XZ;go_wp2_with fail;have k3:=kR.ak.bP (.slice g zs zs.length) (.slice r xs xs.length);have B3:=br (aP w wr) (p:=w.1.size+1+1) om (.slice g zs zs.length) (.slice r xs xs.length);have o3:=hS.bA l1 (.slice g zs zs.length) (.slice r xs xs.length);have o4:=hO.bA l2 (.slice g zs zs.length) (.slice r xs xs.length);obtain⟨r0,r1⟩:=bI k3;refine aX (v:=.tuple #[.agg #[.slice g zs zs.length,.slice r xs xs.length],an]) (by simp[results,results112,go_sem,r0,r1]) rfl ?_;have H9:=ai (w:=w) (w':=N);exact⟨_,_,_,_,by rw[n7.o],⟨o3.rd,rfl⟩,⟨by rw[hX.o];exact o4.rd,rfl⟩,⟨al _⟩,⟨by rw[n7.o];exact al _⟩,⟨λad e=>by cases e;exact aL H9 hg⟩,⟨λad e=>by cases e;exact aL H9 zr⟩,⟨B3⟩⟩
end
end
variable{I Z j:Nat}
section
variable{ts:List Int}
def FV[a:Ts w A n us][Le n c](hn:n<=1000000)(hz:Hx (∀t∈us,t.zs.length<=1000000)){P:Nat}{S X:au}(hE:Hx (xo j us=0))(l:Hx (JW j P I Z S))(hS:Hx (S=um j us))(hX:Hx (X=pA P us P))
  (hP:Hx (P*e9 P us<=65536)) (J:Hx (∀t∈us,P*(t.xs.length/P)=t.xs.length/\t.xs.length<=65536)):
  () 162 #[j,(A,n,c)] w (dK w S X 0):=by
 obtain⟨CB,CP,FB⟩:=ia;obtain⟨r1,r4,U,WW⟩:=(a2 S).1 l.o.right;have RIN:=ae U;have xu:=l.o.lt;obtain⟨N,hN,-,hN6⟩:=cP l.o.right;have uv:Hx (bz S=(N:Int)):=ae (by rw[bz,ah l.o.right,hN]);have X0:Hx (cA S=0):=ae (by rw[cA,ah l.o.right]);have hS':Hx (S=if(0:Int)=0 then um j us else[]):=ae (by rw[ah rfl];exact hS);have Ca:=l.o.p1;have XU:P<=65536:=by have h1:=l.o.small;have h2:1*1<=Z*I:=yr l.o.z1 l.o.i1;have h3:P*1<=P*(Z*I):=fS _ om;omega
 clear U WW hN;go_in;go_upto_region 8 with(first|(go_at_call 177;refine(zQ om hz hE hS').mono ?_;rintro e u ⟨E,c',rfl,sA,lA,fA,_⟩)|(go_at_call 73;refine(h5 om uv X0).mono ?_;rintro e u ⟨rfl,_⟩));obtain⟨AS,ko,V⟩:=OK (P:=prog) 25 ao ao E S.length c' j (j:Int) rfl om lA.le;have sP:Sl u AS j (S.take j):=⟨V u S rfl (aq:Sl u E S S).rd,by simp;omega⟩;have K:Hx (ct (S.take j)=true):=nU RIN _;clear V;go_wp2_with fail;clear ko;go_loop [9,40] (λp i=>∃k:Nat,k<=j/\i=.int .i64 k/\p=.int .i64 (ax ((S.take j).take k))) (λ_ i=>j-(intOf i).toNat);exact⟨0,aM _,rfl,rfl⟩;obtain⟨k,hk,rfl,rfl⟩:=hrel;obtain⟨Y,F⟩:=mg (S.take j) K cr k;by_cases bE:k<j;obtain⟨b,off,z,rfl,ob,hc,xb⟩:=sP.get bE;obtain⟨hH,jM⟩:=dH K xb.o;obtain⟨k8,HD⟩:=lV Y F hH jM;exact xN2;have uj:ax ((S.take j).take k)=(P:Int):=by rw[bY (by simp;omega),l.o.ahead]
 rw[uj];clear Y F uj;have la:=λW=>n9 (P:=prog) 26 65 underlying26 ao N om W;go_wp2_with fail;clear la;go_loopw [12,51] (λv i wr=>∃(aa:Nat) (r:bF) (c2:Nat) (L:au),aa<=P/\i=.int .i64 aa/\v=.slice r L c2/\aB wr u.1.size 65 r c2 L/\Hx (L=pA P us aa)/\aj wr u) (λ_ i _=>P-(intOf i).toNat);exact⟨0,_,_,[],aM _,rfl,rfl,vq _ _ _ om,ae rfl,aF⟩;obtain⟨aa,r,c2,L,hj,rfl,rfl,M,Q,hp⟩:=hrel;by_cases O:aa<P
 .obtain⟨wo,rfl⟩:=lg wr;go_wp2_with fail;go_loopw [12,56] (λv i wr=>∃(m:Nat) (r:bF) (c2:Nat) (L:au),m<=n/\i=.int .i64 m/\v=.slice r L c2/\aB wr u.1.size 65 r c2 L/\Hx (L=pA P us aa++e1 P aa us m)/\aj wr u) (λ_ i _=>n-(intOf i).toNat);exact⟨0,r,c2,L,aM _,rfl,rfl,M,ae (by rw[Q.o];simp[e1]),hp⟩;clear M Q;obtain⟨m,r,c2,L,hm,rfl,rfl,M,Q,F⟩:=hrel;by_cases abZ:m<n
  .obtain⟨b,o,A1,c1,z1,B1,d1,x1,rfl,ob,q0,q1,s1,t1,Co,i1,ht⟩:=a.get abZ;obtain⟨ab,hR⟩:=lh (x1.length/P);(have jQ:x1.length=P*ab:=by have:=(J.o _ (aC ht.o)).1;simp only at this;rw[<-hR];exact this.symm);obtain⟨S1,G⟩:=lh (aa*ab);(have g1:S1+ab<=x1.length:=by rw[jQ,<-G,<-d5];exact cU _ O);(have m1:(aa:Int)*(ab:Int)=(S1:Int):=by rw[<-G,b8]);(have m3:((aa:Int)+1)*(ab:Int)=(S1:Int)+ab:=by rw[iV,m1,rD]);(have m5:(x1.length:Int)/(P:Int)=(ab:Int):=by rw[<-hR,ym]);(have zM:L.length<=131072:=by have h1:=SF P us aa;have h2:=wL P aa us m;have h3:(aa+1)*e9 P us<=P*e9 P us:=cU _ O;have h4:=hP.o;rw[d5]at h3;rw[Q.o,bh];omega);have zq:x1.length<=65536:=(J.o _ (aC ht.o)).2;obtain⟨A3,Tu,y⟩:=qC (P:=prog) 26 ao ao B1 x1.length d1 S1 (S1+ab) (S1:Int) ((S1:Int)+ab) om om om om Co;rw[tE]at Tu y;(have l3:((x1.drop S1).take ab).length=ab:=by simp;omega);have ab0:Hx (pz P aa x1=(x1.drop S1).take ab):=ae (by rw[pz,hR,G]);have Q3:=y _ x1 rfl t1.rd;clear y jQ G hR;go_wp2_with (at_builtin;refine qa rfl (.tmp 65) (.tmp 75) 26 rfl 65 underlying26 ao u.1.size r c2 L rfl (M.alloc _) A3 ab _ ((x1.drop S1).take ab) l3 rfl Q3.at om (ai (w:=u)) ?_;intro A5 c5 w5 X1 Kt ab1 adJ;obtain⟨L5,T⟩:∃L5,L++(x1.drop S1).take ab=L5:=⟨_,rfl⟩;rw[T]at X1⊢;have HL5:=ae T;clear T ab1);have p5:aj w5 u:=⟨(aP u _).trans Kt⟩;go_roundw;exact⟨m+1,A5,c5,L5,om,by go_num,rfl,X1,ae (by rw[<-HL5.o,Q.o,Fs ht.o,<-ab0.o,eO]),p5⟩;simp[intOf];omega
  have HN:Hx (m=us):=ae (by rw[<-a.len];omega);go_wp2_with fail;go_roundw;exact⟨aa+1,r,c2,L,om,by go_num,rfl,M,ae (by rw[Q.o,vv,HN.o]),F⟩;simp[intOf];omega
 obtain rfl:L=X:=by rw[hX.o,Q.o,show aa=P from om]
 have kR:Bx wr w.1.size 28 #[(),()]:=aq;have sX:Sl wr r L L:=⟨M.rd,rfl⟩;have fX:=M.fre;have sS:Sl wr E S S:=aq;go_wp2_with fail;have k3:=kR.ak.bP (.slice E S c') (.slice r L c2);have B3:=br (aP w wr) (p:=w.1.size) (al _) (.slice E S c') (.slice r L c2);have sS2:=sS.bA fA (Bx.ak (g:=w.1.size)).lt (.slice E S c') (.slice r L c2);have l4:=sX.bA fX (Bx.ak (g:=w.1.size)).lt (.slice E S c') (.slice r L c2);obtain⟨r0,r1⟩:=bI k3;exact aX (v:=.tuple #[.agg #[.slice E S c',.slice r L c2],an]) (by simp[results,results162,go_sem,r0,r1]) rfl<|⟨E,c',r,c2,rfl,sS2,l4,lA,⟨M.ii⟩,fA.less ai,fX.less ai,⟨B3⟩⟩
end
end Go.Proofs.YtmkjnlifimffkaaGreat
