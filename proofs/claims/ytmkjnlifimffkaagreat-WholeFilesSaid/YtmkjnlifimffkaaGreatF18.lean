/- Lemmas. -/
import Derived.Test.YtmkjnlifimffkaaGreatF17
namespace Go.Proofs.YtmkjnlifimffkaaGreat
open Go.RowKit Tryz
set_option linter.all false
set_option maxRecDepth 100000
set_option maxHeartbeats 0
variable{w':World}{A B:Option Addr}{c d m:Nat}{E:Int}{O:List Int}{L:List (List Int)}{ss:List Sp}
def sQ(L:fV)(v:dV):Int:=Ir v.o v.P (cy v.o v.P (eD v L))
def I4(L:fV)(v:dV):Int:=It v.o v.P (cy v.o v.P (eD v L))
def hW(L:fV):List dV->Int
 |[]=>0
 |v::t=>if I4 L v=0 then hW L t else I4 L v
def iJ(N:aU)(L:fV):List Int:=0::N.nodes.map (sQ L)
def F1(N:aU)(L:fV):Int:=if er L=0 then(if hW L N.nodes=0 then sK (iJ N L)else hW L N.nodes)else er L
def hB(N:aU):Int:=if a6 N=0 then F1 N (dh N).2.1 else a6 N
def it(N:aU):List Int×List Int×Int:=if hB N=0 then(jE (dh N).2.1,iJ N (dh N).2.1,uH (iJ N (dh N).2.1))else([],[],0)
def Rm(w:ay)(E:Int)(W C:av)(T:Int)(e:Ending)(w':ay):Prop:=∃A c B d,e=.returned (.tuple #[.agg #[.slice A W c,.slice B C d,T],E])/\az w' w.1.size 3 A c W/\az w' w.1.size 3 B d C/\aj w' w
section
variable{w:World}{n:Nat}{N:aU}{T:Int}{W C:List Int}
def wD(hE:hB N=E)(hV:it N=(W,C,T))(h:E≠0):[]=W/\[]=C/\0=T:=by
 rw[it,hE,ag h]at hV;simpa using hV
def qd(p:aj w' w):Rm w E [] [] 0 (.returned (.tuple #[.agg #[(),(),au],E])) w':=
 ⟨none,0,none,0,rfl,az.nil _ _ _,az.nil _ _ _,p⟩
def rs{l:Int}[aQ w A n B m N](j:Hx N.fits)(hs:Hx N.small)(r:Hx (a6 N=E))(u:Hx (dh N=(O,L,l))){x:Nat}(y:Hx (L=x)):
  () 28 #[.agg #[.slice A n c,(B,m,d)]] w λe w'=>∃A c b,e=.returned (.tuple #[.slice A x c,E])/\du w' A x b/\Le x c/\Hx (aW b=L)/\aj w' w/\m0 w.1.size A b:=by
 obtain rfl:=y.o;exact Bc j hs r u
def yf[du w B n ss](j:n<=1000000)(hL:Hx (aW ss=L))(l:Hx (∀z∈L,z.length<=1000000)){E:Int}{V:av}(hE:Hx (er L=E))(hV:Hx (jE L=V)){x:Nat}(r:Hx (V=x)):
  () 29 #[.slice B n c] w λe w'=>∃A c,e=.returned (.tuple #[.slice A x c,E])/\Sl w' A x V/\az w' w.1.size 3 A c V/\aj w' w:=by
 obtain rfl:=hL.o;obtain rfl:=r.o;exact(ND j l hE hV).mono λe w' ⟨A,c,u,b,y⟩=>⟨A,c,u,⟨b.rd,rfl⟩,b,y⟩
def ZO[a:aQ w A n B m N](hf:Hx N.fits)(hs:Hx N.small)(hE:Hx (hB N=E))(hV:Hx (it N=(W,C,T))):() 9 #[.agg #[(A,n,c),(B,m,d)]] w (Rm w E W C T):=by
 obtain⟨CB,CP,FB⟩:=ha;have HM:Hx (m=N.nodes):=a.len;have hm:m<=1000:=by rw[HM.o];exact hs.o.1
 go_in
 by_cases c1:a6 N=0
 .obtain⟨O,L,l,nN,Y,-,-⟩:=look_ok c1;have J:F1 N L=E:=by rw[<-hE.o,hB,ah c1,nN]
  have Z:=ae c1;have K:=ae nN;have pg:=ae Y;have R:Hx (L=m+1):=ae (by rw[Y.len,HM.o]);have FL:Hx (∀z∈L,z.length<=1000000):=λz hz=>by
   have:=(x8 _ _ _ Y.lay (λz hz=>by
    rcases bT.1 hz with rfl|hz
    .exact hf.o.2.1
    .rw[iA hz];simp)).2 z hz
   omega
  clear Y nN c1;obtain⟨SE,M⟩:=lh (er L);obtain⟨SV,S⟩:=lh (jE L);rw[F1,M]at J;have HSE:=ae M;have vt:=ae S;by_cases r:SE=0
  .rw[ah r]at J;subst r;have F3:Hx (SV=m+1):=ae (by rw[<-S,jE,ah M,br,R.o]);have vj:=ae J;clear J M S;have pt:∀W:World,(Instr.makeSlice 24 ((m:Int)+1:Int) ((m:Int)+1:Int)).run prog W=.ok (.slice (some ⟨W.1.size,0,none⟩) (m+1) (m+1)) (W.alloc (.cells (ints (List.replicate (m+1) 0)) 3)):=λW=>by
    have h:=jh (m+1) om W;rwa[fH]at h
   go_wp2_with (first|(go_at_call 28;(with_reducible refine(rs hf hs Z K R).mono ?_);rintro e u ⟨A4,c4,ss,rfl,VJ,lc4,Q,p4,fS⟩)|(go_at_call 29;(with_reducible refine(yf om Q FL HSE vt F3).mono ?_);rintro e u ⟨AW,cW,rfl,sW,oW,pW⟩))
   refine aw (λv _ kv=>?_);obtain⟨g,hg⟩:=lg u.1.size;have Rn:u.1.size<=g:=dE hg.symm;have kC:Own v g 3 ((0:Int)::((N.nodes.take 0).map (sQ L)++List.replicate (m-0) 0)):=by rw[hg];exact kv.al
   rw[<-hg];clear pt hg;go_loopw [40] (λi wr=>∃k:Nat,k<=m/\i=.int .i64 k/\Own wr g 3 ((0:Int)::((N.nodes.take k).map (sQ L)++List.replicate (m-k) 0))/\Hx (hW L (N.nodes.drop k)=hW L N.nodes)/\aj wr u) (λi _=>m-(intOf i).toNat)
   .exact⟨0,aT _,rfl,kC,ae rfl,aK⟩
   ·
    clear kC kv;obtain⟨k,hk,rfl,kC,HD,hp⟩:=hrel;by_cases bK:k<m
    .obtain⟨b0,q0,o,A1,n1,c1,I,ni,ci,ins,P,np,cp,ps,rfl,ob,⟨v0,v1,v2,v3,v4,v5,v6,v7,v8,IV⟩,s1,si,sp,l1,li,lp,ik,D⟩:=a.node bK;have vp:ni<=1000:=by have:=hs.o.2 _ (aC D.o);rw[si.len];exact this
     have HI:Hx (ni=ins):=si.len;have Vz:np<=100000:=by have:=(hf.o.2.2 _ (aC D.o)).2.2.1;rw[cj]at this;rw[sp.len];exact this
     have oY:n1<=100000:=by have:=(hf.o.2.2 _ (aC D.o)).2.1;rw[s1.len];exact this
     have FM:=kz ni om
     go_wp2_with fail
     obtain⟨v1,rfl⟩:=lg wr;refine n6 (λx0 x _ _ kx Zw X=>?_);have kCx:=kC.at (w':=x0);clear FM;have U:Hx (∀(q:Nat) (z:Int),ins[q]?=some z->ins.take (q+1)=ins.take q++[z]):=λq z h=>take_at h;go_loopw [52] (λi wy=>∃(q:Nat) (G:List Sp),q<=ni/\i=.int .i64 q/\Hx (G.length=q/\aW G=(ins.take q).map λi=>L.getD i.toNat [])/\aB wy (v1.1.size+1) 25 (fP (G++List.replicate (ni-q) dj))/\Hx (∀y∈G,y∈ss)/\aj wy x0) (λi _=>ni-(intOf i).toNat)
     .exact⟨0,[],aT _,rfl,ae ⟨rfl,rfl⟩,by simpa using X.al,ae aG,aK⟩
     ·
      clear X;obtain⟨q,G,hq,rfl,F,X,sw,vq⟩:=hrel;by_cases IW:q<ni
      .obtain⟨b2,q2,z,rfl,jf,vz,ez⟩:=si.get IW;have hz:=pg.o.jS _ (aC D.o) z (aC ez.o);rw[<-HM.o]at hz;obtain⟨y,rfl⟩:=cf hz.1;have hy:y<m+1:=om;obtain⟨⟨A3,m3,c3,z3⟩,he⟩:∃e0,ss[y]?=some e0:=⟨_,bc (by rw[<-VJ.len];exact hy)⟩;obtain⟨b7,o7,rfl,ZP,vc,rd7,ln7,le7⟩:=VJ.rd y _ he;dsimp only at vc;have od7:Old b7 _:=⟨ZP⟩;have ve:=X.cell q;rw[show(fP (G++List.replicate (ni-q) dj))[q]?=some (.slice none 0 0)from by
        rw[hI (x:=dj)]
        .rfl
        .rw[ew (by rw[F.o.1];exact an _),F.o.1,eB,ix,ah om]]at ve
       have Du:=X.frozen q;have hK:=X.ax q (A3,m3,c3);rw[FK (x:=⟨A3,m3,c3,z3⟩) G F.o.1 IW]at hK;have kR:=ae hK;have ky:Hx ((G++[(⟨A3,m3,c3,z3⟩:Sp)]).length=q+1/\aW (G++[(⟨A3,m3,c3,z3⟩:Sp)])=(ins.take (q+1)).map λi=>L.getD i.toNat []):=ae (by
        refine⟨by simp[F.o.1],?_⟩;rw[U.o q _ ez.o,cJ,<-F.o.2];simp only[aW,cJ,dX,jZ];congr 2;rw[<-Q.o,bI,aX,EY he];rfl)
       have QU:Hx (∀y∈G++[(⟨A3,m3,c3,z3⟩:Sp)],y∈ss):=λy hy=>by
        rcases bJ.1 hy with h|h
        .exact sw.o y h
        .rw[cF.1 h];exact aC he
       clear hK hz he F sw X
       go_wp2_with fail
       go_roundw
       .exact⟨q+1,_,om,by go_num,ky,kR,QU,⟨(a7 x0 wr).setCell (p:=⟨v1.1.size+1,q,none⟩) Zw _⟩⟩
       .simp[intOf];omega
      .obtain rfl:q=ni:=om;have HX:Hx (aW G=eD ⟨o,ins,aW ps⟩ L):=ae (by rw[F.o.2,HI.o,dJ];rfl);have xT:du wr (v1.1.size+1:Nat) q G:=⟨λj x hj=>by
        obtain⟨j2,IU⟩:=eA (sw.o x (aC hj));have s9:du wr A4 (m+1) ss:=ao;obtain⟨_,_,_,_,_,h1,h2,h3⟩:=s9.rd j2 x IU;exact⟨v1.1.size+1,0,rfl,X.lt,by rw[bX,X.cell,hI (x:=x) (by rw[lI (a5.1 hj).1];exact hj)],h1,h2,h3⟩,F.o.1.symm⟩
       have HZZ:Hx (∀z∈aW ps++aW G,z.length<=1000000):=λz hz=>by
        rcases bJ.1 hz with h|h
        .have:=(hf.o.2.2 _ (aC D.o)).2.2.2 z h;omega
        .obtain⟨y,hy,rfl⟩:=bC.1 h;exact FL.o y.zs (by rw[<-Q.o];exact bC.2 ⟨y,sw.o y hy,rfl⟩)
       have HSH:Hx (da o (aW ps) (aW G)=0):=ae (by rw[HX.o];exact(pg.o.node k _ D.o).1);obtain⟨cv,I5⟩:=lh (sQ L ⟨o,ins,aW ps⟩);obtain⟨ce,NH⟩:=lh (I4 L ⟨o,ins,aW ps⟩);have Ro:Hx (Ir o (aW ps) (cy o (aW ps) (aW G))=cv/\It o (aW ps) (cy o (aW ps) (aW G))=ce):=ae (by rw[HX.o];exact⟨I5,NH⟩);have ZQ:Hx (hW L N.nodes=if ce=0 then hW L (N.nodes.drop (k+1))else ce):=ae (by
        obtain⟨h1,h2⟩:=a5.1 D.o;rw[<-HD.o,ei h1,h2,hW,NH])
       have pz:=ae (take_at D.o);have xF:Hx ((N.nodes.take k).length=k):=ae (by rw[bB,<-HM.o];omega);have VK:=ae I5;have HKC:=ae (kCx.at (w':=wr));clear I5 NH X kCx kC U;by_cases r:ce=0
       .subst r;have Ra:Hx (hW L (N.nodes.drop (k+1))=hW L N.nodes):=ae (by rw[ZQ.o,ah rfl]);have HZE:Hx (((0:Int)::((N.nodes.take k).map (sQ L)++List.replicate (m-k) 0))[k+1]?=some 0):=ae (by
         rw[nh,ew (by rw[br,xF.o];exact an _),br,xF.o,eB,ix,ah om])
        go_wp2_with (go_at_call 30;refine mv (Fj om om om HZZ HSH Ro) λu9 _=>?_;have kU:=HKC.o.at (w':=u9);have acx:=kU.frozen (k+1);have acy:=kU.cell HZE)
        go_roundw
        ·
         have hk9:=(HKC.o.at (w':=u9)).ax (k+1) cv;rw[r5,show m-k=(m-(k+1))+1 from om,kI,kH _ _ (by rw[br,xF.o];exact an _),br,xF.o,eB,jq]at hk9;exact⟨k+1,om,by go_num,by rw[pz.o,cJ,dX,jZ,VK.o,dg];exact hk9,Ra,⟨(a7 u u9).setCell (p:=⟨g,k+1,none⟩) Rn _⟩⟩
        .simp[intOf];omega
       .have h1:hW L N.nodes=ce:=by rw[ZQ.o,ag r]
        obtain rfl:E=ce:=by rw[<-vj.o,h1,ag r]
        obtain⟨rfl,rfl,rfl⟩:=wD hE hV r;have b0:(E !=0)=true:=by simp[r]
        clear r h1 ZQ vj
        go_wp2_with (go_at_call 30;refine mv (Fj om om om HZZ HSH Ro) λu9 _=>?_)
        refine a8 (v:=.tuple #[.agg #[(),(),au],E]) ?_ rfl (qd ed);rw[b8 rfl];go_simp
    .obtain rfl:k=m:=om;have h1:hW L N.nodes=0:=by rw[<-HD.o,ey (by rw[<-HM.o];exact an _)];rfl
     have ZR:sK (iJ N L)=E:=by have:=vj.o;rwa[ah h1]at this
     have kD:Own wr g 3 (iJ N L):=by
      rw[eB,bR (by rw[<-HM.o];exact an _)]at kC;simpa[iJ]using kC
     have V:Hx ((iJ N L).length=k+1):=ae (by simp[iJ,HM.o]);obtain⟨CV,hCV⟩:=lh (iJ N L);have b:=hV.o;rw[it,hE.o,K.o]at b;dsimp only at b;rw[hCV]at b ZR kD V;obtain⟨TV,ZS⟩:=lh (uH CV);rw[ZS,vt.o]at b;have Rp:=ae ZS;have Rq:=ae ZR;have sC:Sl wr (some ⟨g,0,none⟩) (k+1) CV:=⟨kD.rd,V.o.symm⟩;have I7:=ae kD;have abf:(dh N).2.1=L:=by rw[K.o]
     clear hCV ZS ZR kC kD h1 abf;by_cases r:E=0
     .subst r;rw[ah rfl]at b;obtain⟨rfl,rfl,rfl⟩:SV=W/\CV=C/\TV=T:=by simpa using b
      clear b
      go_wp2_with (go_at_call 31;refine mv (wC om Rp Rq) λu9 _=>?_)
      have hug:w.1.size+1<u.1.size:=(ao:Bx u (w.1.size+1) _ _).al.lt;have hoC:=az.gz (B:=w.1.size+2) (I7.o.at (w':=u9)) om (by rw[V.o];omega);rw[V.o]at hoC;refine a8 (v:=.tuple #[.agg #[.slice AW (k+1) cW,.slice g (k+1) (k+1),TV],au]) ?_ rfl ⟨AW,cW,some ⟨g,0,none⟩,k+1,by rw[F3.o,V.o],xY (oW.at (w':=u9)) (Bx.al (g:=w.1.size+1)).lt,xY hoC (p5 _),ed⟩;rw[b8 rfl];go_simp
     .obtain⟨rfl,rfl,rfl⟩:=wD hE hV r;have b0:(E !=0)=true:=by simp[r]
      clear r b
      go_wp2_with (go_at_call 31;refine mv (wC om Rp Rq) λu9 _=>?_)
      refine a8 (v:=.tuple #[.agg #[(),(),au],E]) ?_ rfl (qd ed);rw[b8 rfl];go_simp
  .rw[ag r]at J;obtain rfl:=J;obtain⟨rfl,rfl,rfl⟩:=wD hE hV r;have b0:(SE !=0)=true:=by simp[r]
   have F3:Hx (SV.length=0):=ae (by rw[<-S,jE,M,ag r];rfl);clear M S r
   go_wp2_with (first|(go_at_call 28;(with_reducible refine(rs hf hs Z K R).mono ?_);rintro e u ⟨A4,c4,ss,rfl,VJ,lc4,Q,p4,fS⟩)|(go_at_call 29;(with_reducible refine(yf om Q FL HSE vt F3).mono ?_);rintro e u ⟨AW,cW,rfl,sW,oW,pW⟩))
   refine a8 (v:=.tuple #[.agg #[(),(),au],SE]) ?_ rfl (qd ed);rw[b8 rfl];go_simp
 .obtain rfl:E=a6 N:=by rw[<-hE.o,hB,ag c1]
  obtain⟨E1,ZT⟩:=lh (a6 N);obtain⟨rfl,rfl,rfl⟩:=wD hE hV c1;obtain⟨⟨O,L,l⟩,K⟩:=lC (dh N);rw[ZT]at c1⊢;have Z:=ae ZT;obtain⟨y,R⟩:=lC L.length;have b0:(E1 !=0)=true:=by simp[c1]
  clear ZT c1
  go_wp2_with (go_at_call 28;(with_reducible refine(rs hf hs Z K R).mono ?_);rintro e u ⟨A4,c4,ss,rfl,VJ,lc4,Q,p4,fS⟩)
  refine a8 (v:=.tuple #[.agg #[(),(),au],E1]) ?_ rfl (qd ed);rw[b8 rfl];go_simp
end
variable{j:Nat}
def mC(p:Nat)(ins:av)(L:av):List Int:=ins.foldl (λL z=>L.set z.toNat ((p:Int)+1)) L
def pC(N:aU):List Int->Nat->List Int->List Int
 |[],_,L=>L
 |id::r,p,L=>pC N r (p+1) (mC p (bG N id) L)
def pD(N:aU):List Int:=if a6 N=0 then pC N (d7 N) 0 (List.replicate (N.nodes.length+1) 0)else[]
section
variable{w:World}{n:Nat}{N:aU}{T:Int}{W C:List Int}
def io{l:Int}[aQ w A n B m N](j:Hx N.fits)(hs:Hx N.small)(r:Hx (a6 N=E))(u:Hx (dh N=(O,L,l))){x:Nat}(y:Hx (O=x)):
  () 60 #[.agg #[.slice A n c,(B,m,d)]] w λe w'=>∃A c,e=.returned (.tuple #[.slice A x c,E])/\Sl w' A x O/\az w' w.1.size 3 A c O/\aj w' w:=by
 obtain rfl:=y.o;exact(Rb j hs r u).mono λe w' ⟨A,c,z,b,D⟩=>⟨A,c,z,⟨b.rd,rfl⟩,b,D⟩
def oc[aQ w A n B m N](r:Hx N.fits)(hs:Hx N.small)(hE:Hx (hB N=E))(hV:Hx (it N=(W,C,T))){x:Nat}(u:Hx (W=x))(z:Hx (C=j)):
  () 9 #[.agg #[.slice A n c,.slice B m d]] w λe w'=>∃A c B d,e=.returned (.tuple #[.agg #[.slice A x c,.slice B j d,T],E])/\Sl w' A x W/\Sl w' B j C/\az w' w.1.size 3 A c W/\az w' w.1.size 3 B d C/\aj w' w:=by
 obtain rfl:=u.o;obtain rfl:=z.o;exact(ZO r hs hE hV).mono λe w' ⟨A,c,B,d,D,b,l,F⟩=>⟨A,c,B,d,D,⟨b.rd,rfl⟩,⟨l.rd,rfl⟩,b,l,F⟩
def yg(p:Nat):∀(ins L:av),(mC p ins L).length=L
 |[],L=>rfl
 |z::t,L=>by
  rw[show mC p (z::t) L=mC p t (L.set z.toNat ((p:Int)+1))from rfl,yg p t,ej]
def yh:∀(r:av) (p:Nat) (L:av),(pC N r p L).length=L
 |[],_,_=>rfl
 |id::r,p,L=>by rw[pC,yh r,yg]
def Rr[a:aQ w A n B m N](hf:Hx N.fits)(hs:Hx N.small)(hE:Hx (a6 N=E))(hV:Hx (pD N=W)):() 133 #[.agg #[(A,n,c),(B,m,d)]] w (sJ w E W):=by
 obtain⟨CB,CP⟩:=h5;have S:Hx (m=N.nodes):=a.len;have hm:m<=1000:=by rw[S.o];exact hs.o.1
 go_in
 by_cases c1:E=0
 .subst c1;obtain⟨O,L,l,U,F,-,-⟩:=look_ok hE;have K:=hE;have M:=ae U;have G:Hx (O=m):=ae (by rw[F.sM,S.o]);have X:Hx (∀id∈O,1<=id/\id<=m):=ae λid hid=>by have:=bn.1 (F.j7.ids id hid);rw[<-S.o]at this;exact this
  have HR:=ae F.jS;have hW:pC N O 0 (List.replicate (m+1) 0)=W:=by rw[<-hV.o,pD,ah hE.o,F.ord,S.o]
  clear F U;have Y:∀W:World,(Instr.makeSlice 24 ((m:Int)+1:Int) ((m:Int)+1:Int)).run prog W=.ok (.slice (some ⟨W.1.size,0,none⟩) (m+1) (m+1)) (W.alloc (.cells (ints (List.replicate (m+1) 0)) 3)):=λW=>by
   have h:=jh (m+1) om W;rwa[fH]at h
  have R:=ae hW;clear hW
  go_wp2_with (go_at_call 60;(with_reducible refine(io hf hs K M G).mono ?_);rintro e u ⟨AO,cO,rfl,sO,oO,pO⟩)
  refine aw (λv _ kv=>?_);obtain⟨g,hg⟩:=lg u.1.size;have Z:w.1.size<=g:=by rw[hg];exact ai
  have Rn:u.1.size<=g:=dE hg.symm;have D:Own v g 3 (List.replicate (m+1) 0):=by rw[hg];exact kv.al
  rw[<-hg];clear Y hg;go_loopw [26] (λi wr=>∃(j:Nat) (b:av),j<=m/\i=.int .i64 j/\Own wr g 3 b/\Hx (b=m+1)/\Hx (pC N (O.drop j) j b=W)/\aj wr u) (λi _=>m-(intOf i).toNat)
  .exact⟨0,_,aT _,rfl,D,ae aG,R,aK⟩
  ·
   clear D kv R;obtain⟨j,b,hj,rfl,D,r,R,hp⟩:=hrel;have sW:Sl wr AO m O:=ao;by_cases bK:j<m
   .obtain⟨b9,q9,id,rfl,QT,v9,V⟩:=sW.get bK;obtain⟨Dw,Dx⟩:=X.o id (aC V.o);obtain⟨t,ht⟩:=cf (show 0<=id-1 by omega);obtain rfl:id=(t:Int)+1:=by omega
    have xR:t<m:=om;have w2:(t:Int)+1-1=t:=by omega
    obtain⟨b0,q0,o,A1,n1,c1,I,ni,ci,ins,P,np,cp,ps,rfl,ob,⟨v0,v1,v2,v3,v4,v5,v6,v7,v8,IV⟩,s1,si,sp,l1,li,lp,ik,Q⟩:=a.node xR;have vp:ni<=1000:=by have:=hs.o.2 _ (aC Q.o);rw[si.len];exact this
    have HI:Hx (ni=ins):=si.len;have HN:Hx (pC N (O.drop (j+1)) (j+1) (mC j ins b)=W):=ae (by
     have h:=R.o;obtain⟨h1,h2⟩:=a5.1 V.o;rw[ei h1,h2,pC,bG,show((t:Int)+1-1).toNat=t from om,Q.o]at h;exact h)
    clear ht Dw Dx R
    go_wp2_with fail
    go_loopw [39] (λi wy=>∃(q:Nat) (J:av),q<=ni/\i=.int .i64 q/\Own wy g 3 J/\Hx (J=m+1)/\Hx (mC j (ins.drop q) J=mC j ins b)/\aj wy u) (λi _=>ni-(intOf i).toNat)
    .exact⟨0,b,aT _,rfl,D,r,ae rfl,hp⟩
    ·
     clear D r hp;obtain⟨q,J,hq,rfl,D,r,HQ,hp⟩:=hrel;by_cases IW:q<ni
     .obtain⟨b2,q2,z,rfl,jf,vz,ez⟩:=si.get IW;have hz:=HR.o _ (aC Q.o) z (aC ez.o);rw[<-S.o]at hz;obtain⟨y,rfl⟩:=cf hz.1;have hy:y<m+1:=om;have Du:=D.frozen y;have YB:=D.cell (bc (show y<J.length by rw[r.o];exact hy));have hK:=D.ax y ((j:Int)+1);have HK:=ae hK;have Rs:Hx (mC j (ins.drop (q+1)) (J.set y ((j:Int)+1))=mC j ins b):=ae (by
       obtain⟨h1,h2⟩:=a5.1 ez.o;rw[<-HQ.o,ei h1,h2];rfl)
      clear hK D hz
      go_wp2_with fail
      go_roundw
      .exact⟨q+1,_,om,by go_num,HK,ae (by rw[ej];exact r),Rs,⟨(a7 u wr).setCell (p:=⟨g,y,none⟩) Rn _⟩⟩
      .simp[intOf];omega
     .obtain rfl:q=ni:=om;have Rt:Hx (J=mC j ins b):=ae (by rw[<-HQ.o,ey (by rw[<-HI.o];exact an _)];rfl)
      go_wp2_with fail
      go_roundw
      .exact⟨j+1,J,om,by go_num,D,r,by rw[Rt.o];exact HN,hp⟩
      .simp[intOf];omega
   .obtain rfl:j=m:=om;have hcw:b=W:=by rw[<-R.o,ey (by rw[G.o];exact an _)];rfl
    subst hcw
    go_wp2_with fail
    go_ret2;exact⟨some ⟨g,0,none⟩,j+1,by rw[r.o];rfl,by have:=az.gz D Z (by rw[r.o];omega);rwa[r.o]at this,aK⟩
 .obtain rfl:W=[]:=by rw[<-hV.o,pD,hE.o,ag c1]
  obtain⟨⟨O,L,l⟩,M⟩:=lC (dh N);have K:=hE;obtain⟨y,G⟩:=lC O.length;have b0:(E !=0)=true:=by simp[c1]
  clear c1
  go_wp2_with (go_at_call 60;(with_reducible refine(io hf hs K M G).mono ?_);rintro e u ⟨AO,cO,rfl,sO,oO,pO⟩)
  go_ret2;exact⟨none,0,rfl,az.nil _ _ _,aK⟩
def ZU(h:hB N=0):a6 N=0/\(it N).1.length=N.nodes+1/\(it N).2.1.length=N.nodes+1:=by
 have e:a6 N=0:=by
  unfold hB at h
  split at h
  .assumption
  .exact h
 obtain⟨O,L,l,b,j,-,-⟩:=look_ok e;refine⟨e,?_,?_⟩
 .rw[it,ah h,b];have r:er L=0:=by
   rw[hB,ah e,b,F1]at h;dsimp only at h
   split at h
   .assumption
   .exact h
  simp[jE,r,j.len]
 .rw[it,ah h,b];simp[iJ]
end
variable{u wr:World}{A':Option Addr}{c':Nat}{z:Int}{Y:List Int}
structure yi(u wr:World)(A:Option Addr)(c:Nat)(X:List Int)(B:Option Addr)(d:Nat)(Y:List Int):Prop where
 r1:az wr u.1.size 3 A c X
 r2:az wr u.1.size 3 B d Y
 m3:∀a b,A=some a->B=some b->a.block≠b.block
 prev:aj wr u
def yj(N:aU):Int:=if hB N=0 then(if chainB N then 0 else 27)else hB N
def NI(N:aU):List Int:=if yj N=0 then(it N).1.headD 0::(d7 N).map (λid=>(it N).1.getD id.toNat 0)else[]
def I8(N:aU):List Int:=if yj N=0 then(d7 N).map (λid=>(it N).2.1.getD id.toNat 0)else[]
def ZV(w:ay)(E:Int)(W C:av)(e:Ending)(w':ay):Prop:=∃A c B d,e=.returned (.tuple #[.slice A W c,.slice B C d,E])/\az w' w.1.size 3 A c W/\az w' w.1.size 3 B d C/\aj w' w
section
variable{w:World}{n:Nat}{N:aU}{T:Int}{W C X X':List Int}
def yi.W6(h:yi u wr A c X B d Y)(y:az w' u.1.size 3 A' c' X')(j:cP A A' wr w'):yi u w' A' c' X' B d Y where
 r1:=y
 r2:=h.r2.hD j (λa a' l r=>h.m3 a' a r l)
 m3 a b l eb:=by
  rcases j.new a l with⟨a0,z,D⟩|rG
  .rw[D];exact h.m3 a0 b z eb
  .have:=h.r2.lt b eb;omega
 prev:=⟨h.prev.st.trans (j.below (λF e=>h.r1.fresh F e) h.prev.st.size)⟩
def yi.swap(h:yi u wr A c X B d Y):yi u wr B d Y A c X:=⟨h.r2,h.r1,λa b e j=>(h.m3 b a j e).symm,h.prev⟩
def yi.abg(h:yi u wr B d Y A c X)(b:az w' u.1.size 3 A' c' X')(e:cP A A' wr w'):yi u w' B d Y A' c' X':=(h.swap.W6 b e).swap
def f8{L:av}(h:L[j]?=some z):L.getD j 0=z:=by rw[aX,h];rfl
def qe[a:aQ w A n B m N](hf:Hx N.fits)(hs:Hx N.small)(hE:Hx (yj N=E))(hW:Hx (NI N=W))(hC:Hx (I8 N=C)):() 146 #[.agg #[(A,n,c),(B,m,d)]] w (ZV w E W C):=by
 obtain⟨CB,CP,FB⟩:=ha;have HM:Hx (m=N.nodes):=a.len;have hm:m<=1000:=by rw[HM.o];exact hs.o.1
 obtain⟨⟨PW,PC,PT⟩,G⟩:=lh (it N);have U:=ae G;have D:=hE.o;have r:=hW.o;have F:=hC.o;rw[yj]at D;rw[NI,hE.o,G]at r;rw[I8,hE.o,G]at F;dsimp only at r F
 go_in
 by_cases c1:hB N=0
 .rw[ah c1]at D;have J:=ae c1;obtain⟨h1,h2,h3⟩:=ZU c1;rw[G]at h2 h3;have I:Hx (PW=m+1):=ae (by rw[HM.o];exact h2);have K:Hx (PC=m+1):=ae (by rw[HM.o];exact h3);clear G c1 h2 h3;obtain⟨cb,V⟩:=lh (chainB N);rw[V]at D;have HCB:=ae V;clear V;rcases cb with _|_
  .obtain rfl:E=27:=D.symm;rw[ag om]at r F;subst r F;clear h1
   go_wp2_with (first|(go_at_call 9;(with_reducible refine(oc hf hs J U I K).mono ?_);rintro e u ⟨AW,cW,AC,cC,rfl,sW,sC,oW,oC,pP⟩)|(go_at_call 196;(with_reducible refine(FV hf hs HCB).mono ?_);rintro e u ⟨rfl,_⟩))
   go_ret3
   exact⟨none,0,none,0,rfl,az.nil _ _ _,az.nil _ _ _,aK⟩
  .obtain rfl:E=0:=D.symm;obtain⟨O,L,l,nN,M,-,-⟩:=look_ok h1;rw[ah rfl,M.ord]at r F;have I9:=ae h1;have nT:=ae nN;have Z:Hx (O=m):=ae (by rw[M.sM,HM.o]);have vu:Hx (∀id∈O,1<=id/\id<=m):=ae λid hid=>by have:=bn.1 (M.j7.ids id hid);rw[<-HM.o]at this;exact this
   obtain⟨W0,Wt,hP⟩:∃a t,PW=a::t:=by
    cases PW with
    |nil=>have:=I.o;simp at this
    |cons a t=>exact⟨a,t,rfl⟩
   have hh:PW.headD 0=W0:=by rw[hP];rfl
   rw[hh]at r;have ZW:Hx (PW[0]?=some W0):=ae (by rw[hP];rfl);have HW1:=ae r;have Nz:=ae F;clear r F M nN h1 hh hP
   go_upto_region 9 with(first|(go_at_call 9;(with_reducible refine(oc hf hs J U I K).mono ?_);rintro e u ⟨AW,cW,AC,cC,rfl,sW,sC,oW,oC,pP⟩)|(go_at_call 196;(with_reducible refine(FV hf hs HCB).mono ?_);rintro e u ⟨rfl,_⟩)|(go_at_call 60;(with_reducible refine(io hf hs I9 nT Z).mono ?_);rintro e u ⟨AO,cO,rfl,sO,oO,pO⟩))
   have sP:=sW;obtain⟨b2,q2,z,rfl,jf,vz,ez⟩:=sP.get (rY _);obtain rfl:z=W0:=by have:=ez.o;rw[ZW.o]at this;injection this with e;exact e.symm
   rw[gE]at vz
   go_wp2_with fail
   have P:yi u (u.alloc (.cells #[z] 3)) (some ⟨u.1.size,0,none⟩) 1 [z] none 0 []:=
    ⟨az.gz (Own.new u 3 [z]) (an _) aG,az.nil _ _ _,λa b ea eb=>(by cases eb),aK⟩
   go_loopw [2,3,35] (λs t i wr=>∃(j:Nat) (A:cD) (c:Nat) (X:av) (B:cD) (d:Nat) (Y:av),j<=m/\i=.int .i64 j/\s=.slice A X c/\t=.slice B Y d/\yi u wr A c X B d Y/\Hx (X=j+1/\Y=j)/\Hx (X=z::(O.take j).map (λid=>PW.getD id.toNat 0)/\Y=(O.take j).map (λid=>PC.getD id.toNat 0))) (λ_ _ i _=>m-(intOf i).toNat)
   .exact⟨0,_,_,[z],none,0,[],aT _,rfl,rfl,rfl,P,ae ⟨rfl,rfl⟩,ae ⟨aG,aG⟩⟩
   ·
    clear P;obtain⟨j,A',c',X,B',d',Y,hj,rfl,rfl,rfl,P,Q,R⟩:=hrel;have pT:=P.prev;have sOw:Sl wr AO m O:=ao;by_cases bK:j<m
    .obtain⟨b9,q9,id,rfl,QT,v9,xQ⟩:=sOw.get bK;have hid:=vu.o id (aC xQ.o);obtain⟨y,rfl⟩:=cf (show 0<=id by omega);have hy:y<m+1:=om;obtain⟨zW,ZX⟩:∃x,PW[y]?=some x:=⟨_,bc (by rw[I.o];exact hy)⟩;have hcW:=sP.rd.all ZX;obtain⟨bC,qC,zC,rfl,obC,vC,eC⟩:=sC.get hy;have pz:=ae (take_at xQ.o);have hXb:X.length<=1001:=by rw[Q.o.1];omega
     have hYb:Y.length<=1001:=by rw[Q.o.2];omega
     have HGW:=ae (f8 ZX);have HGC:=ae (f8 eC.o);clear ZX hid
     go_wp2_with (first|(at_builtin;refine hG rfl _ _ _ rfl 3 underlying24 aq u.1.size B' d' Y rfl S.r2 zC rfl om S.prev.st.size ?_;intro A5 c5 w5 ho5 abh _)|(at_builtin;refine hG rfl _ _ _ rfl 3 underlying24 aq u.1.size A' c' X rfl P.r1 zW rfl om P.prev.st.size ?_;intro A3 c3 w3 qm abi _;have S:=P.W6 qm abi;have p3:=S.prev))
     go_roundw
     .exact⟨j+1,A3,c3,_,A5,c5,_,om,by go_num,aG,aG,S.abg ho5 abh,ae ⟨by simp[Q.o.1],by simp[Q.o.2]⟩,ae ⟨by rw[pz.o,cJ,dX,jZ,R.o.1,bI,HGW.o];rfl,by rw[pz.o,cJ,dX,jZ,R.o.2,bI,HGC.o]⟩⟩
     .simp[intOf];omega
    .obtain rfl:j=m:=om;have hx:X=W:=by rw[R.o.1,<-HW1.o,bR (by rw[Z.o];exact an _)]
     have hy:Y=C:=by rw[R.o.2,<-Nz.o,bR (by rw[Z.o];exact an _)]
     subst hx hy
     go_wp2_with fail
     go_ret3
     exact⟨A',c',B',d',rfl,P.r1.more ai,P.r2.more ai,aK⟩
 .rw[ag c1]at D;have J:=ae D;have lA:E≠0:=by rw[<-D];exact c1
  rw[ag lA]at r F;subst r F;obtain⟨x,I⟩:=lC PW.length;obtain⟨y,K⟩:=lC PC.length;have b0:(E !=0)=true:=by simp[lA]
  clear G D c1 lA
  go_wp2_with (go_at_call 9;(with_reducible refine(oc hf hs J U I K).mono ?_);rintro e u ⟨AW,cW,AC,cC,rfl,sW,sC,oW,oC,pP⟩)
  go_ret3
  exact⟨none,0,none,0,rfl,az.nil _ _ _,az.nil _ _ _,aK⟩
end
