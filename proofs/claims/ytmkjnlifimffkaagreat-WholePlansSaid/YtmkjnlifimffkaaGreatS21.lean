/- Lemmas. -/
import Derived.Test.YtmkjnlifimffkaaGreatS20
namespace Go.Proofs.YtmkjnlifimffkaaGreat
open Go.RowKit Tryz
set_option linter.all false
set_option maxRecDepth 100000
set_option maxHeartbeats 0
variable{Γ:Prop}
attribute[local irreducible]Calls
variable{w w':World}{A B:Option Addr}{c d m n:Nat}{N:bm}{E:Int}{O V:List Int}{L:List (List Int)}{ss:List Sp}
def uM(L:f0)(v:et):Int:=KZ v.o v.P (cJ v.o v.P (d8 v L))
def LN(L:f0)(v:et):Int:=K0 v.o v.P (cJ v.o v.P (d8 v L))
def iZ(L:f0):List et->Int
 |[]=>0
 |v::t=>if LN L v=0 then iZ L t else LN L v
def j3(N:bm)(L:f0):List Int:=0::N.nodes.map (uM L)
def IL(N:bm)(L:f0):Int:=if eV L=0 then(if iZ L N.nodes=0 then uG (j3 N L)else iZ L N.nodes)else eV L
def iR(N:bm):Int:=if bo N=0 then IL N (dB N).2.1 else bo N
def ly(N:bm):List Int×List Int×Int:=if iR N=0 then(kP (dB N).2.1,j3 N (dB N).2.1,wX (j3 N (dB N).2.1))else([],[],0)
def Ut(w:aa)(E:Int)(W C:au)(T:Int)(e:Ending)(w':aa):Prop:=∃A c B d,e=.returned (.tuple #[.agg #[.slice A W c,.slice B C d,T],E])/\aB w' w.1.size 3 A c W/\aB w' w.1.size 3 B d C/\aj w' w
variable{T:Int}{W C:List Int}
def yG(hE:iR N=E)(hV:ly N=(W,C,T))(h:E≠0):[]=W/\[]=C/\0=T:=by
 rw[ly,hE,ag h]at hV;simpa using hV
def rY(p:aj w' w):Ut w E [] [] 0 (.returned (.tuple #[.agg #[(),(),an],E])) w':=
 ⟨none,0,none,0,rfl,aB.nil _ _ _,aB.nil _ _ _,p⟩
def tk{l:Int}[aW w A n B m N](j:Hx N.fits)(hs:Hx N.small)(r:Hx (bo N=E))(u:Hx (dB N=(O,L,l))){x:Nat}(y:Hx (L=x)):
  () 28 #[.agg #[.slice A n c,(B,m,d)]] w λe w'=>∃A c b,e=.returned (.tuple #[.slice A x c,E])/\dZ w' A x b/\Le x c/\Hx (aS b=L)/\aj w' w/\oR w.1.size A b:=by
 obtain rfl:=y.o;exact Dy j hs r u
def AD[dZ w B n ss](j:n<=1000000)(hL:Hx (aS ss=L))(l:Hx (∀z∈L,z.length<=1000000)){E:Int}(hE:Hx (eV L=E))(hV:Hx (kP L=V)){x:Nat}(r:Hx (V=x)):
  () 29 #[.slice B n c] w λe w'=>∃A c,e=.returned (.tuple #[.slice A x c,E])/\Sl w' A x V/\aB w' w.1.size 3 A c V/\aj w' w:=by
 obtain rfl:=hL.o;obtain rfl:=r.o;exact(Qf j l hE hV).mono λe w' ⟨A,c,u,b,y⟩=>⟨A,c,u,⟨b.rd,rfl⟩,b,y⟩
def xV0(h:Γ:=by refine aX (v:=.tuple #[.agg #[(),(),an],E]) ?_ rfl (rY eC);rw[cF rfl];go_simp):=h
def xV2(h:Γ:=by simp[intOf];omega):=h
def xV3(h:Γ:=by rw[bj,xq.o];exact al _):=h
def xV4(h:Γ:=by rw[<-HM.o];exact al _):=h
def aaX[a:aW w A n B m N](hf:Hx N.fits)(hs:Hx N.small)(hE:Hx (iR N=E))(hV:Hx (ly N=(W,C,T))):() 9 #[.agg #[(A,n,c),(B,m,d)]] w (Ut w E W C T):=by
 obtain⟨CB,CP,FB⟩:=ia;have HM:Hx (m=N.nodes):=a.len;have hm:m<=1000:=by rw[HM.o];exact hs.o.1
 go_in;by_cases c1:bo N=0
 .obtain⟨O,L,l,qA,X,-,-⟩:=look_ok c1;(have G:IL N L=E:=by rw[<-hE.o,iR,ah c1,qA]);have Y:=ae c1;have J:=ae qA;have lZ:=ae X;have Q:Hx (L=m+1):=ae (by rw[X.len,HM.o]);have Iz:Hx (∀z∈L,z.length<=1000000):=λz hz=>by
   have:=(Au _ _ _ X.lay (λz hz=>by
    rcases cw.1 hz with rfl|hz
    .exact hf.o.2.1
    .rw[eH hz];simp)).2 z hz
   omega
  clear X qA c1;obtain⟨SE,K⟩:=lh (eV L);obtain⟨SV,R⟩:=lh (kP L);rw[IL,K]at G;have X0:=ae K;have uv:=ae R;by_cases r:SE=0
  .rw[ah r]at G;subst r;have Z:Hx (SV=m+1):=ae (by rw[<-R,kP,ah K,bj,Q.o]);have xh:=ae G;clear G K R;(have la:∀W:World,(Instr.makeSlice 24 ((m:Int)+1:Int) ((m:Int)+1:Int)).run prog W=.ok (.slice (some ⟨W.1.size,0,none⟩) (m+1) (m+1)) (W.alloc (.cells (ints (List.replicate (m+1) 0)) 3)):=λW=>by have h:=kz (m+1) om W;rwa[ee]at h);go_wp2_with (first|(go_at_call 28;refine(tk hf hs Y J Q).mono ?_;rintro e u ⟨A4,c4,ss,rfl,YC,lc4,M,p4,fS⟩)|(go_at_call 29;refine(AD om M Iz X0 uv Z).mono ?_;rintro e u ⟨AW,cW,rfl,sW,oW,pW⟩));refine aE (λv _ kv=>?_);obtain⟨g,hg⟩:=lg u.1.size;have Uu:u.1.size<=g:=ei hg.symm;(have kC:Own v g 3 ((0:Int)::((N.nodes.take 0).map (uM L)++List.replicate (m-0) 0)):=by rw[hg];exact kv.ak);rw[<-hg];clear la hg;go_loopw [40] (λi wr=>∃k:Nat,k<=m/\i=.int .i64 k/\Own wr g 3 ((0:Int)::((N.nodes.take k).map (uM L)++List.replicate (m-k) 0))/\Hx (iZ L (N.nodes.drop k)=iZ L N.nodes)/\aj wr u) (λi _=>m-(intOf i).toNat);exact⟨0,aM _,rfl,kC,ae rfl,aF⟩;clear kC kv;obtain⟨k,hk,rfl,kC,HD,hp⟩:=hrel;by_cases bE:k<m
   .obtain⟨b0,q0,o,A1,n1,c1,I,ni,ci,ins,P,np,cp,ps,rfl,ob,⟨v0,v1,v2,v3,v4,v5,v6,v7,v8,Lz⟩,s1,si,sp,l1,li,lp,ik,D⟩:=a.node bE;(have qm:ni<=1000:=by have:=hs.o.2 _ (aC D.o);rw[si.len];exact this);have HI:Hx (ni=ins):=si.len;(have CD:np<=100000:=by have:=(hf.o.2.2 _ (aC D.o)).2.2.1;rw[cX]at this;rw[sp.len];exact this);(have qk:n1<=100000:=by have:=(hf.o.2.2 _ (aC D.o)).2.1;rw[s1.len];exact this);have Ak:=l3 ni om;go_wp2_with fail;obtain⟨v1,rfl⟩:=lg wr;refine pN (λx0 x _ _ kx hzx V=>?_);have kCx:=kC.at (w':=x0);clear Ak;have S:Hx (∀(q:Nat) (z:Int),ins[q]?=some z->ins.take (q+1)=ins.take q++[z]):=λq z h=>take_at h;go_loopw [52] (λi wy=>∃(q:Nat) (ts:List Sp),q<=ni/\i=.int .i64 q/\Hx (ts.length=q/\aS ts=(ins.take q).map λi=>L.getD i.toNat [])/\az wy (v1.1.size+1) 25 (gR (ts++List.replicate (ni-q) dM))/\Hx (∀y∈ts,y∈ss)/\aj wy x0) (λi _=>ni-(intOf i).toNat);exact⟨0,[],aM _,rfl,ae ⟨rfl,rfl⟩,by simpa using V.ak,ae aD,aF⟩;clear V;obtain⟨q,ts,hq,rfl,F,V,uf,sZ⟩:=hrel;by_cases LA:q<ni
    .obtain⟨b2,q2,z,rfl,jU,vz,ez⟩:=si.get LA;have hz:=lZ.o.kc _ (aC D.o) z (aC ez.o);rw[<-HM.o]at hz;obtain⟨y,rfl⟩:=bJ hz.1;have hy:y<m+1:=om;obtain⟨⟨A3,m3,c3,z3⟩,he⟩:∃e0,ss[y]?=some e0:=⟨_,a5 (by rw[<-YC.len];exact hy)⟩;obtain⟨b7,o7,rfl,ob7,vc,rd7,ln7,le7⟩:=YC.rd y _ he;dsimp only at vc;have od7:Old b7 _:=⟨ob7⟩;have E4:=V.cell q;rw[show(gR (ts++List.replicate (ni-q) dM))[q]?=some (.slice none 0 0)from by
      rw[iP (x:=dM)]
      .rfl
      .rw[eE (by rw[F.o.1];exact al _),F.o.1,fe,jy,ah om]]at E4
     have Gl:=V.frozen q;have hK:=V.av q (A3,m3,c3);rw[Iy (x:=⟨A3,m3,c3,z3⟩) ts F.o.1 LA]at hK;have m5:=ae hK;have l2:Hx ((ts++[(⟨A3,m3,c3,z3⟩:Sp)]).length=q+1/\aS (ts++[(⟨A3,m3,c3,z3⟩:Sp)])=(ins.take (q+1)).map λi=>L.getD i.toNat []):=ae (by
      refine⟨by simp[F.o.1],?_⟩;rw[S.o q _ ez.o,c9,<-F.o.2];simp only[aS,c9,di,jz];congr 2;rw[<-M.o,aZ,aQ,HC he];rfl)
     have T7:Hx (∀y∈ts++[(⟨A3,m3,c3,z3⟩:Sp)],y∈ss):=λy hy=>by rcases bM.1 hy with h|h;exact uf.o y h;rw[cZ.1 h];exact aC he
     clear hK hz he F uf V;go_wp2_with fail;go_roundw;exact⟨q+1,_,om,by go_num,l2,m5,T7,⟨(aP x0 wr).setCell (p:=⟨v1.1.size+1,q,none⟩) hzx _⟩⟩;exact xV2
    obtain rfl:q=ni:=om;have HX:Hx (aS ts=d8 ⟨o,ins,aS ps⟩ L):=ae (by rw[F.o.2,HI.o,dR];rfl);have xT:dZ wr (v1.1.size+1:Nat) q ts:=⟨λj x hj=>by
     obtain⟨j2,Ly⟩:=eN (uf.o x (aC hj));have s9:dZ wr A4 (m+1) ss:=aq;obtain⟨_,_,_,_,_,h1,h2,h3⟩:=s9.rd j2 x Ly;exact⟨v1.1.size+1,0,rfl,V.lt,by rw[cf,V.cell,iP (x:=x) (by rw[lK (a8.1 hj).1];exact hj)],h1,h2,h3⟩,F.o.1.symm⟩
    have HZZ:Hx (∀z∈aS ps++aS ts,z.length<=1000000):=λz hz=>by rcases bM.1 hz with h|h;have:=(hf.o.2.2 _ (aC D.o)).2.2.2 z h;omega;obtain⟨y,hy,rfl⟩:=bw.1 h;exact Iz.o y.zs (by rw[<-M.o];exact bw.2 ⟨y,uf.o y hy,rfl⟩)
    have HSH:Hx (dr o (aS ps) (aS ts)=0):=ae (by rw[HX.o];exact(lZ.o.node k _ D.o).1);obtain⟨cv,LO⟩:=lh (uM L ⟨o,ins,aS ps⟩);obtain⟨ce,Qk⟩:=lh (LN L ⟨o,ins,aS ps⟩);have Ld:Hx (KZ o (aS ps) (cJ o (aS ps) (aS ts))=cv/\K0 o (aS ps) (cJ o (aS ps) (aS ts))=ce):=ae (by rw[HX.o];exact⟨LO,Qk⟩);have HDC:Hx (iZ L N.nodes=if ce=0 then iZ L (N.nodes.drop (k+1))else ce):=ae (by
     obtain⟨h1,h2⟩:=a8.1 D.o;rw[<-HD.o,ed h1,h2,iZ,Qk])
    have pQ:=ae (take_at D.o);have xq:Hx ((N.nodes.take k).length=k):=ae (by rw[bO,<-HM.o];omega);have YD:=ae LO;have HKC:=ae (kCx.at (w':=wr));clear LO Qk V kCx kC S;by_cases r:ce=0
    .subst r;have Uk:Hx (iZ L (N.nodes.drop (k+1))=iZ L N.nodes):=ae (by rw[HDC.o,ah rfl]);have HZE:Hx (((0:Int)::((N.nodes.take k).map (uM L)++List.replicate (m-k) 0))[k+1]?=some 0):=ae (by
      rw[o5,eE xV3,bj,xq.o,fe,jy,ah om])
     go_wp2_with (go_at_call 30;refine mv (HY om om om HZZ HSH Ld) λu9 _=>?_;have kU:=HKC.o.at (w':=u9);have adM:=kU.frozen (k+1);have acf:=kU.cell HZE);go_roundw;have LP:=(HKC.o.at (w':=u9)).av (k+1) cv;rw[EC,show m-k=(m-(k+1))+1 from om,jA,lA _ _ xV3,bj,xq.o,fe,iS]at LP;exact⟨k+1,om,by go_num,by rw[pQ.o,c9,di,jz,YD.o,eO];exact LP,Uk,⟨(aP u u9).setCell (p:=⟨g,k+1,none⟩) Uu _⟩⟩;exact xV2
    have h1:iZ L N.nodes=ce:=by rw[HDC.o,ag r]
    obtain rfl:E=ce:=by rw[<-xh.o,h1,ag r]
    obtain⟨rfl,rfl,rfl⟩:=yG hE hV r;(have b0:(E !=0)=true:=by simp[r]);clear r h1 HDC xh;go_wp2_with (go_at_call 30;refine mv (HY om om om HZZ HSH Ld) λu9 _=>?_);exact xV0
   obtain rfl:k=m:=om;(have h1:iZ L N.nodes=0:=by rw[<-HD.o,eF xV4];rfl);(have hE3:uG (j3 N L)=E:=by have:=xh.o;rwa[ah h1]at this);(have kD:Own wr g 3 (j3 N L):=by rw[fe,bY xV4]at kC;simpa[j3]using kC);have U:Hx ((j3 N L).length=k+1):=ae (by simp[j3,HM.o]);obtain⟨CV,hCV⟩:=lh (j3 N L);have b:=hV.o;rw[ly,hE.o,J.o]at b;dsimp only at b;rw[hCV]at b hE3 kD U;obtain⟨TV,hTV⟩:=lh (wX CV);rw[hTV,uv.o]at b;have Uv:=ae hTV;have Uw:=ae hE3;have sC:Sl wr (some ⟨g,0,none⟩) (k+1) CV:=⟨kD.rd,U.o.symm⟩;have LR:=ae kD;(have ach:(dB N).2.1=L:=by rw[J.o]);clear hCV hTV hE3 kC kD h1 ach;by_cases r:E=0
   .subst r;rw[ah rfl]at b;(obtain⟨rfl,rfl,rfl⟩:SV=W/\CV=C/\TV=T:=by simpa using b);clear b;go_wp2_with (go_at_call 31;refine mv (yF om Uv Uw) λu9 _=>?_);have hug:w.1.size+1<u.1.size:=(aq:Bx u (w.1.size+1) _ _).ak.lt;have hoC:=aB.gK (B:=w.1.size+2) (LR.o.at (w':=u9)) om (by rw[U.o];omega);rw[U.o]at hoC;refine aX (v:=.tuple #[.agg #[.slice AW (k+1) cW,.slice g (k+1) (k+1),TV],an]) ?_ rfl ⟨AW,cW,some ⟨g,0,none⟩,k+1,by rw[Z.o,U.o],As (oW.at (w':=u9)) (Bx.ak (g:=w.1.size+1)).lt,As hoC (o9 _),eC⟩;rw[cF rfl];go_simp
   obtain⟨rfl,rfl,rfl⟩:=yG hE hV r;(have b0:(E !=0)=true:=by simp[r]);clear r b;go_wp2_with (go_at_call 31;refine mv (yF om Uv Uw) λu9 _=>?_);exact xV0
  rw[ag r]at G;obtain rfl:=G;obtain⟨rfl,rfl,rfl⟩:=yG hE hV r;(have b0:(SE !=0)=true:=by simp[r]);have Z:Hx (SV.length=0):=ae (by rw[<-R,kP,K,ag r];rfl);clear K R r;go_wp2_with (first|(go_at_call 28;refine(tk hf hs Y J Q).mono ?_;rintro e u ⟨A4,c4,ss,rfl,YC,lc4,M,p4,fS⟩)|(go_at_call 29;refine(AD om M Iz X0 uv Z).mono ?_;rintro e u ⟨AW,cW,rfl,sW,oW,pW⟩));refine aX (v:=.tuple #[.agg #[(),(),an],SE]) ?_ rfl (rY eC);rw[cF rfl];go_simp
 obtain rfl:E=bo N:=by rw[<-hE.o,iR,ag c1]
 obtain⟨E1,hE1⟩:=lh (bo N);obtain⟨rfl,rfl,rfl⟩:=yG hE hV c1;obtain⟨⟨O,L,l⟩,J⟩:=kS (dB N);rw[hE1]at c1⊢;have Y:=ae hE1;obtain⟨y,Q⟩:=kS L.length;have b0:(E1 !=0)=true:=by simp[c1]
 clear hE1 c1;go_wp2_with (go_at_call 28;refine(tk hf hs Y J Q).mono ?_;rintro e u ⟨A4,c4,ss,rfl,YC,lc4,M,p4,fS⟩);refine aX (v:=.tuple #[.agg #[(),(),an],E1]) ?_ rfl (rY eC);rw[cF rfl];go_simp
variable{j:Nat}
def ol(p:Nat)(ins:au)(L:au):List Int:=ins.foldl (λL z=>L.set z.toNat ((p:Int)+1)) L
def q1(N:bm):List Int->Nat->List Int->List Int
 |[],_,L=>L
 |id::r,p,L=>q1 N r (p+1) (ol p (bS N id) L)
def q3(N:bm):List Int:=if bo N=0 then q1 N (eL N) 0 (List.replicate (N.nodes.length+1) 0)else[]
def kA{l:Int}[aW w A n B m N](j:Hx N.fits)(hs:Hx N.small)(r:Hx (bo N=E))(u:Hx (dB N=(O,L,l))){x:Nat}(y:Hx (O=x)):
  () 60 #[.agg #[.slice A n c,(B,m,d)]] w λe w'=>∃A c,e=.returned (.tuple #[.slice A x c,E])/\Sl w' A x O/\aB w' w.1.size 3 A c O/\aj w' w:=by
 obtain rfl:=y.o;exact(Av j hs r u).mono λe w' ⟨A,c,z,b,D⟩=>⟨A,c,z,⟨b.rd,rfl⟩,b,D⟩
def rZ[aW w A n B m N](r:Hx N.fits)(hs:Hx N.small)(hE:Hx (iR N=E))(hV:Hx (ly N=(W,C,T))){x:Nat}(u:Hx (W=x))(z:Hx (C=j)):
  () 9 #[.agg #[.slice A n c,.slice B m d]] w λe w'=>∃A c B d,e=.returned (.tuple #[.agg #[.slice A x c,.slice B j d,T],E])/\Sl w' A x W/\Sl w' B j C/\aB w' w.1.size 3 A c W/\aB w' w.1.size 3 B d C/\aj w' w:=by
 obtain rfl:=u.o;obtain rfl:=z.o;exact(aaX r hs hE hV).mono λe w' ⟨A,c,B,d,D,b,l,F⟩=>⟨A,c,B,d,D,⟨b.rd,rfl⟩,⟨l.rd,rfl⟩,b,l,F⟩
def AE(p:Nat):∀(ins L:au),(ol p ins L).length=L
 |[],L=>rfl
 |z::t,L=>by rw[show ol p (z::t) L=ol p t (L.set z.toNat ((p:Int)+1))from rfl,AE p t,d3]
def AG:∀(r:au) (p:Nat) (L:au),(q1 N r p L).length=L
 |[],_,_=>rfl
 |id::r,p,L=>by rw[q1,AG r,AE]
def Ux[a:aW w A n B m N](hf:Hx N.fits)(hs:Hx N.small)(hE:Hx (bo N=E))(hV:Hx (q3 N=W)):() 133 #[.agg #[(A,n,c),(B,m,d)]] w (uF w E W):=by
 obtain⟨CB,CP⟩:=kU;have S:Hx (m=N.nodes):=a.len;have hm:m<=1000:=by rw[S.o];exact hs.o.1
 go_in;by_cases c1:E=0
 .subst c1;obtain⟨O,L,l,U,F,-,-⟩:=look_ok hE;have K:=hE;have M:=ae U;have G:Hx (O=m):=ae (by rw[F.sB,S.o]);(have X:Hx (∀id∈O,1<=id/\id<=m):=ae λid hid=>by have:=bn.1 (F.kh.ids id hid);rw[<-S.o]at this;exact this);have HR:=ae F.kc;(have hW:q1 N O 0 (List.replicate (m+1) 0)=W:=by rw[<-hV.o,q3,ah hE.o,F.ord,S.o]);clear F U;(have Y:∀W:World,(Instr.makeSlice 24 ((m:Int)+1:Int) ((m:Int)+1:Int)).run prog W=.ok (.slice (some ⟨W.1.size,0,none⟩) (m+1) (m+1)) (W.alloc (.cells (ints (List.replicate (m+1) 0)) 3)):=λW=>by have h:=kz (m+1) om W;rwa[ee]at h);have R:=ae hW;clear hW;go_wp2_with (go_at_call 60;refine(kA hf hs K M G).mono ?_;rintro e u ⟨AO,cO,rfl,sO,oO,pO⟩);refine aE (λv _ kv=>?_);obtain⟨g,hg⟩:=lg u.1.size;(have Z:w.1.size<=g:=by rw[hg];exact ai);have Uu:u.1.size<=g:=ei hg.symm;(have D:Own v g 3 (List.replicate (m+1) 0):=by rw[hg];exact kv.ak);rw[<-hg];clear Y hg;go_loopw [26] (λi wr=>∃(j:Nat) (b:au),j<=m/\i=.int .i64 j/\Own wr g 3 b/\Hx (b=m+1)/\Hx (q1 N (O.drop j) j b=W)/\aj wr u) (λi _=>m-(intOf i).toNat);exact⟨0,_,aM _,rfl,D,ae aD,R,aF⟩;clear D kv R;obtain⟨j,b,hj,rfl,D,r,R,hp⟩:=hrel;have sW:Sl wr AO m O:=aq;by_cases bE:j<m
  .obtain⟨b9,q9,id,rfl,T6,v9,V⟩:=sW.get bE;obtain⟨Gm,Gn⟩:=X.o id (aC V.o);obtain⟨t,ht⟩:=bJ (show 0<=id-1 by omega);(obtain rfl:id=(t:Int)+1:=by omega);have Aj:t<m:=om;(have w2:(t:Int)+1-1=t:=by omega);obtain⟨b0,q0,o,A1,n1,c1,I,ni,ci,ins,P,np,cp,ps,rfl,ob,⟨v0,v1,v2,v3,v4,v5,v6,v7,v8,Lz⟩,s1,si,sp,l1,li,lp,ik,Q⟩:=a.node Aj;have qm:ni<=1000:=by have:=hs.o.2 _ (aC Q.o);rw[si.len];exact this
   have HI:Hx (ni=ins):=si.len;have HN:Hx (q1 N (O.drop (j+1)) (j+1) (ol j ins b)=W):=ae (by
    have h:=R.o;obtain⟨h1,h2⟩:=a8.1 V.o;rw[ed h1,h2,q1,bS,show((t:Int)+1-1).toNat=t from om,Q.o]at h;exact h)
   clear ht Gm Gn R;go_wp2_with fail;go_loopw [39] (λi wy=>∃(q:Nat) (J:au),q<=ni/\i=.int .i64 q/\Own wy g 3 J/\Hx (J=m+1)/\Hx (ol j (ins.drop q) J=ol j ins b)/\aj wy u) (λi _=>ni-(intOf i).toNat);exact⟨0,b,aM _,rfl,D,r,ae rfl,hp⟩;clear D r hp;obtain⟨q,J,hq,rfl,D,r,HQ,hp⟩:=hrel;by_cases LA:q<ni
   .obtain⟨b2,q2,z,rfl,jU,vz,ez⟩:=si.get LA;have hz:=HR.o _ (aC Q.o) z (aC ez.o);rw[<-S.o]at hz;obtain⟨y,rfl⟩:=bJ hz.1;have hy:y<m+1:=om;have Gl:=D.frozen y;have hcy:=D.cell (a5 (show y<J.length by rw[r.o];exact hy));have hK:=D.av y ((j:Int)+1);have HK:=ae hK;have Uy:Hx (ol j (ins.drop (q+1)) (J.set y ((j:Int)+1))=ol j ins b):=ae (by
     obtain⟨h1,h2⟩:=a8.1 ez.o;rw[<-HQ.o,ed h1,h2];rfl)
    clear hK D hz;go_wp2_with fail;go_roundw;exact⟨q+1,_,om,by go_num,HK,ae (by rw[d3];exact r),Uy,⟨(aP u wr).setCell (p:=⟨g,y,none⟩) Uu _⟩⟩;exact xV2
   obtain rfl:q=ni:=om;have Uz:Hx (J=ol j ins b):=ae (by rw[<-HQ.o,eF (by rw[<-HI.o];exact al _)];rfl);go_wp2_with fail;go_roundw;exact⟨j+1,J,om,by go_num,D,r,by rw[Uz.o];exact HN,hp⟩;exact xV2
  obtain rfl:j=m:=om;(have hcw:b=W:=by rw[<-R.o,eF (by rw[G.o];exact al _)];rfl);subst hcw;go_wp2_with fail;go_ret2;exact⟨some ⟨g,0,none⟩,j+1,by rw[r.o];rfl,by have:=aB.gK D Z (by rw[r.o];omega);rwa[r.o]at this,aF⟩
 obtain rfl:W=[]:=by rw[<-hV.o,q3,hE.o,ag c1]
 obtain⟨⟨O,L,l⟩,M⟩:=kS (dB N);have K:=hE;obtain⟨y,G⟩:=kS O.length;have b0:(E !=0)=true:=by simp[c1]
 clear c1;go_wp2_with (go_at_call 60;refine(kA hf hs K M G).mono ?_;rintro e u ⟨AO,cO,rfl,sO,oO,pO⟩);go_ret2;exact⟨none,0,rfl,aB.nil _ _ _,aF⟩
def aaY(h:iR N=0):bo N=0/\(ly N).1.length=N.nodes+1/\(ly N).2.1.length=N.nodes+1:=by
 have e:bo N=0:=by unfold iR at h;split at h;assumption;exact h
 obtain⟨O,L,l,b,j,-,-⟩:=look_ok e;refine⟨e,?_,?_⟩
 .rw[ly,ah h,b];(have r:eV L=0:=by rw[iR,ah e,b,IL]at h;dsimp only at h;split at h;assumption;exact h);simp[kP,r,j.len]
 rw[ly,ah h,b];simp[j3]
variable{u wr:World}{A':Option Addr}{c':Nat}{z:Int}{Y:List Int}
structure AH(u wr:World)(A:Option Addr)(c:Nat)(X:List Int)(B:Option Addr)(d:Nat)(Y:List Int):Prop where
 r1:aB wr u.1.size 3 A c X
 r2:aB wr u.1.size 3 B d Y
 oT:∀a b,A=some a->B=some b->a.block≠b.block
 prev:aj wr u
def LQ(N:bm):Int:=if iR N=0 then(if chainB N then 0 else 27)else iR N
def YE(N:bm):List Int:=if LQ N=0 then(ly N).1.headD 0::(eL N).map (λid=>(ly N).1.getD id.toNat 0)else[]
def YF(N:bm):List Int:=if LQ N=0 then(eL N).map (λid=>(ly N).2.1.getD id.toNat 0)else[]
def aaZ(w:aa)(E:Int)(W C:au)(e:Ending)(w':aa):Prop:=∃A c B d,e=.returned (.tuple #[.slice A W c,.slice B C d,E])/\aB w' w.1.size 3 A c W/\aB w' w.1.size 3 B d C/\aj w' w
variable{X X':List Int}
def AH.ZZ(h:AH u wr A c X B d Y)(y:aB w' u.1.size 3 A' c' X')(j:dm A A' wr w'):AH u w' A' c' X' B d Y where
 r1:=y
 r2:=h.r2.jt j (λa a' l r=>h.oT a' a r l)
 oT a b l eb:=by
  rcases j.new a l with⟨a0,z,D⟩|tx
  .rw[D];exact h.oT a0 b z eb
  .have:=h.r2.lt b eb;omega
 prev:=⟨h.prev.st.trans (j.below (λF e=>h.r1.fresh F e) h.prev.st.size)⟩
def AH.swap(h:AH u wr A c X B d Y):AH u wr B d Y A c X:=⟨h.r2,h.r1,λa b e j=>(h.oT b a j e).symm,h.prev⟩
def AH.aci(h:AH u wr B d Y A c X)(b:aB w' u.1.size 3 A' c' X')(e:dm A A' wr w'):AH u w' B d Y A' c' X':=(h.swap.ZZ b e).swap
def h4{L:au}(h:L[j]?=some z):L.getD j 0=z:=by rw[aQ,h];rfl
def xV1(h:Γ:=by go_ret3;exact⟨none,0,none,0,rfl,aB.nil _ _ _,aB.nil _ _ _,aF⟩):=h
def Ql[a:aW w A n B m N](hf:Hx N.fits)(hs:Hx N.small)(hE:Hx (LQ N=E))(hW:Hx (YE N=W))(hC:Hx (YF N=C)):() 146 #[.agg #[(A,n,c),(B,m,d)]] w (aaZ w E W C):=by
 obtain⟨CB,CP,FB⟩:=ia;have HM:Hx (m=N.nodes):=a.len;have hm:m<=1000:=by rw[HM.o];exact hs.o.1
 obtain⟨⟨PW,PC,PT⟩,G⟩:=lh (ly N);have U:=ae G;have D:=hE.o;have r:=hW.o;have F:=hC.o;rw[LQ]at D;rw[YE,hE.o,G]at r;rw[YF,hE.o,G]at F;dsimp only at r F;go_in;by_cases c1:iR N=0
 .rw[ah c1]at D;have J:=ae c1;obtain⟨h1,h2,h3⟩:=aaY c1;rw[G]at h2 h3;have I:Hx (PW=m+1):=ae (by rw[HM.o];exact h2);have K:Hx (PC=m+1):=ae (by rw[HM.o];exact h3);clear G c1 h2 h3;obtain⟨cb,V⟩:=lh (chainB N);rw[V]at D;have HCB:=ae V;clear V;rcases cb with _|_
  .obtain rfl:E=27:=D.symm;rw[ag om]at r F;subst r F;clear h1;go_wp2_with (first|(go_at_call 9;refine(rZ hf hs J U I K).mono ?_;rintro e u ⟨AW,cW,AC,cC,rfl,sW,sC,oW,oC,pP⟩)|(go_at_call 196;refine(IH hf hs HCB).mono ?_;rintro e u ⟨rfl,_⟩));exact xV1
  obtain rfl:E=0:=D.symm;obtain⟨O,L,l,qA,M,-,-⟩:=look_ok h1;rw[ah rfl,M.ord]at r F;have UA:=ae h1;have lb:=ae qA;have Z:Hx (O=m):=ae (by rw[M.sB,HM.o]);(have xE:Hx (∀id∈O,1<=id/\id<=m):=ae λid hid=>by have:=bn.1 (M.kh.ids id hid);rw[<-HM.o]at this;exact this);obtain⟨W0,Wt,hP⟩:∃a t,PW=a::t:=by
   cases PW with
   |nil=>have:=I.o;simp at this
   |cons a t=>exact⟨a,t,rfl⟩
  have hh:PW.headD 0=W0:=by rw[hP];rfl
  rw[hh]at r;have HW0:Hx (PW[0]?=some W0):=ae (by rw[hP];rfl);have HW1:=ae r;have Gt:=ae F;clear r F M qA h1 hh hP;go_upto_region 9 with(first|(go_at_call 9;refine(rZ hf hs J U I K).mono ?_;rintro e u ⟨AW,cW,AC,cC,rfl,sW,sC,oW,oC,pP⟩)|(go_at_call 196;refine(IH hf hs HCB).mono ?_;rintro e u ⟨rfl,_⟩)|(go_at_call 60;refine(kA hf hs UA lb Z).mono ?_;rintro e u ⟨AO,cO,rfl,sO,oO,pO⟩));have sP:=sW;obtain⟨b2,q2,z,rfl,jU,vz,ez⟩:=sP.get (tO _);(obtain rfl:z=W0:=by have:=ez.o;rw[HW0.o]at this;injection this with e;exact e.symm);rw[ef]at vz;go_wp2_with fail
  have P:AH u (u.alloc (.cells #[z] 3)) (some ⟨u.1.size,0,none⟩) 1 [z] none 0 []:=
   ⟨aB.gK (Own.new u 3 [z]) (al _) aD,aB.nil _ _ _,λa b ea eb=>(by cases eb),aF⟩
  go_loopw [2,3,35] (λs t i wr=>∃(j:Nat) (A:bF) (c:Nat) (X:au) (B:bF) (d:Nat) (Y:au),j<=m/\i=.int .i64 j/\s=.slice A X c/\t=.slice B Y d/\AH u wr A c X B d Y/\Hx (X=j+1/\Y=j)/\Hx (X=z::(O.take j).map (λid=>PW.getD id.toNat 0)/\Y=(O.take j).map (λid=>PC.getD id.toNat 0))) (λ_ _ i _=>m-(intOf i).toNat);exact⟨0,_,_,[z],none,0,[],aM _,rfl,rfl,rfl,P,ae ⟨rfl,rfl⟩,ae ⟨aD,aD⟩⟩;clear P;obtain⟨j,A',c',X,B',d',Y,hj,rfl,rfl,rfl,P,Q,R⟩:=hrel;have pT:=P.prev;have sOw:Sl wr AO m O:=aq;by_cases bE:j<m
  .obtain⟨b9,q9,id,rfl,T6,v9,Ai⟩:=sOw.get bE;have hid:=xE.o id (aC Ai.o);obtain⟨y,rfl⟩:=bJ (show 0<=id by omega);have hy:y<m+1:=om;obtain⟨zW,hzW⟩:∃x,PW[y]?=some x:=⟨_,a5 (by rw[I.o];exact hy)⟩;have hcW:=sP.rd.all hzW;obtain⟨bC,qC,zC,rfl,obC,vC,eC⟩:=sC.get hy;have pQ:=ae (take_at Ai.o);(have hXb:X.length<=1001:=by rw[Q.o.1];omega);(have hYb:Y.length<=1001:=by rw[Q.o.2];omega);have HGW:=ae (h4 hzW);have HGC:=ae (h4 eC.o);clear hzW hid;go_wp2_with (first|(at_builtin;refine iL rfl _ _ _ rfl 3 underlying24 ao u.1.size B' d' Y rfl S.r2 zC rfl om S.prev.st.size ?_;intro A5 c5 w5 X1 acj _)|(at_builtin;refine iL rfl _ _ _ rfl 3 underlying24 ao u.1.size A' c' X rfl P.r1 zW rfl om P.prev.st.size ?_;intro A3 c3 w3 qe ack _;have S:=P.ZZ qe ack;have p3:=S.prev));go_roundw;exact⟨j+1,A3,c3,_,A5,c5,_,om,by go_num,aD,aD,S.aci X1 acj,ae ⟨by simp[Q.o.1],by simp[Q.o.2]⟩,ae ⟨by rw[pQ.o,c9,di,jz,R.o.1,aZ,HGW.o];rfl,by rw[pQ.o,c9,di,jz,R.o.2,aZ,HGC.o]⟩⟩;exact xV2
  obtain rfl:j=m:=om;(have hx:X=W:=by rw[R.o.1,<-HW1.o,bY (by rw[Z.o];exact al _)]);(have hy:Y=C:=by rw[R.o.2,<-Gt.o,bY (by rw[Z.o];exact al _)]);subst hx hy;go_wp2_with fail;go_ret3;exact⟨A',c',B',d',rfl,P.r1.more ai,P.r2.more ai,aF⟩
 rw[ag c1]at D;have J:=ae D;have js:E≠0:=by rw[<-D];exact c1
 rw[ag js]at r F;subst r F;obtain⟨x,I⟩:=kS PW.length;obtain⟨y,K⟩:=kS PC.length;have b0:(E !=0)=true:=by simp[js]
 clear G D c1 js;go_wp2_with (go_at_call 9;refine(rZ hf hs J U I K).mono ?_;rintro e u ⟨AW,cW,AC,cC,rfl,sW,sC,oW,oC,pP⟩);exact xV1
end Go.Proofs.YtmkjnlifimffkaaGreat
