/- Lemmas. No condition. -/
import Derived.Test.YtmkjnlifimffkaaGreatS25
namespace Go.Proofs.YtmkjnlifimffkaaGreat
open Go.RowKit
set_option linter.all false
set_option maxRecDepth 100000
set_option maxHeartbeats 16000000
def Em(L:List (List Int))(v:dJ):Int:=uU v.o v.P (dZ v.o v.P (iO v L))
def JE(L:List (List Int))(v:dJ):Int:=vZ v.o v.P (dZ v.o v.P (iO v L))
def tX(L:List (List Int)):List dJ->Int
 |[]=>0
 |v::t=>if JE L v=0 then tX L t else JE L v
def iP(N:aI)(L:List (List Int)):List Int:=0::N.nodes.map (Em L)
def Gv(N:aI)(L:List (List Int)):Int:=if mi L=0 then(if tX L N.nodes=0 then oG (iP N L)else tX L N.nodes)else mi L
def fQ(N:aI):Int:=if bU N=0 then Gv N (gZ N).2.1 else bU N
def fU(N:aI):List Int×List Int×Int:=if fQ N=0 then(xS (gZ N).2.1,iP N (gZ N).2.1,oD (iP N (gZ N).2.1))else([],[],0)
def abf(w:World)(E:Int)(W C:List Int)(T:Int)(e:Ending)(w':World):Prop:=∃A c B d,e=.returned (.tuple #[.agg #[.slice A W.length c,.slice B C.length d,T],E])/\aG w' w.heap.size 3 A c W/\aG w' w.heap.size 3 B d C/\ak w' w
section
variable{w w':World}{A B:Option Addr}{n m c d:Nat}{N:aI}{E T:Int}{W C:List Int}
theorem N8(hE:fQ N=E)(hV:fU N=(W,C,T))(h:E≠0):[]=W/\[]=C/\0=T:=by
 rw[fU,hE,if_neg h]at hV;simpa using hV
theorem N9(p:ak w' w):abf w E [] [] 0 (.returned (.tuple #[.agg #[.slice none 0 0,.slice none 0 0,(0:Int)],E])) w':=
 ⟨none,0,none,0,rfl,aG.nil _ _ _,aG.nil _ _ _,p⟩
theorem TL{O:List Int}{L:List (List Int)}{l:Int}[aX w A n B m N](b:Hid N.fits)(hs:Hid N.small)(j:Hid (bU N=E))(r:Hid (gZ N=(O,L,l))){x:Nat}(u:Hid (L.length=x)):
  Calls Tryz.prog 28 #[.agg #[.slice A n c,.slice B m d]] w fun e w'=>∃A c ss,e=.returned (.tuple #[.slice A x c,E])/\dA w' A x ss/\Le x c/\Hid (aJ ss=L)/\ak w' w/\uY w.heap.size A ss:=by
 obtain rfl:=u.out;exact aaY b hs j r
theorem abg{ss:List Sp}[dA w B n ss](j:n<=1000000){L:List (List Int)}(hL:Hid (aJ ss=L))(l:Hid (∀z∈L,z.length<=1000000)){E:Int}{V:List Int}(hE:Hid (mi L=E))(hV:Hid (xS L=V)){x:Nat}(r:Hid (V.length=x)):
  Calls Tryz.prog 29 #[.slice B n c] w fun e w'=>∃A c,e=.returned (.tuple #[.slice A x c,E])/\Sl w' A x V/\aG w' w.heap.size 3 A c V/\ak w' w:=by
 obtain rfl:=hL.out;obtain rfl:=r.out;exact(amz j l hE hV).mono fun e w' ⟨A,c,u,b,y⟩=>⟨A,c,u,⟨b.rd,rfl⟩,b,y⟩
theorem amI[a:aX w A n B m N](hf:Hid N.fits)(hs:Hid N.small)(hE:Hid (fQ N=E))(hV:Hid (fU N=(W,C,T))):Calls Tryz.prog 9 #[.agg #[.slice A n c,.slice B m d]] w (abf w E W C T):=by
 obtain⟨CB,CP,FB⟩:=iK;have HM:Hid (m=N.nodes.length):=ae a.len;have hm:m<=1000:=by rw[HM.out];exact hs.out.1
 go_enter Tryz.func9,Tryz.ntmps9;by_cases c1:bU N=0
 ·obtain⟨O,L,l,hlv,Y,-,-⟩:=look_ok c1;have G:Gv N L=E:=by rw[<-hE.out,fQ,if_pos c1,hlv]
  have Z:=ae c1;have J:=ae hlv;have pV:=ae Y;have Q:Hid (L.length=m+1):=ae (by rw[Y.len,HM.out]);have Cm:Hid (∀z∈L,z.length<=1000000):=ae fun z R=>by
   have:=(Tk _ _ _ Y.lay (fun z R=>by
    rcases dz.1 R with rfl|R
    ·exact hf.out.2.1
    ·rw[su R];simp)).2 z R
   omega
  clear Y hlv c1;obtain⟨SE,K⟩:=lh (mi L);obtain⟨SV,S⟩:=lh (xS L);rw[Gv,K]at G;have HSE:=ae K;have wG:=ae S;by_cases r:SE=0
  ·rw[if_pos r]at G;subst r;have Cu:Hid (SV.length=m+1):=ae (by rw[<-S,xS,if_pos K,dF,Q.out]);have HE2:=ae G;clear G K S;have hmk:∀W:World,(Instr.makeSlice 24 (.int .i64 ((m:Int)+1)) (.int .i64 ((m:Int)+1))).run Tryz.prog W=.ok (.slice (some ⟨W.heap.size,0,none⟩) (m+1) (m+1)) (W.alloc (.cells (ints (List.replicate (m+1) 0)) 3)):=fun W=>by
    have h:=Gl (m+1) om W;rwa[mF]at h
   go_wp2_with (first|(go_at_call 28;(with_reducible refine(TL hf hs Z J Q).mono ?_);rintro e u ⟨A4,c4,ss,rfl,Oa,lc4,M,p4,fS⟩)|(go_at_call 29;(with_reducible refine(abg om M Cm HSE wG Cu).mono ?_);rintro e u ⟨AW,cW,rfl,sW,oW,pW⟩))
   refine bI (fun v _ kv=>?_);obtain⟨g,hg⟩:=lg u.heap.size;have hgu:u.heap.size<=g:=lH hg.symm;have kC:Own v g 3 ((0:Int)::((N.nodes.take 0).map (Em L)++List.replicate (m-0) 0)):=by rw[hg];exact kv.blk
   rw[<-hg];clear hmk hg;go_loopw [40] (fun i wr=>∃k:Nat,k<=m/\i=.int .i64 k/\Own wr g 3 ((0:Int)::((N.nodes.take k).map (Em L)++List.replicate (m-k) 0))/\Hid (tX L (N.nodes.drop k)=tX L N.nodes)/\ak wr u) (fun i _=>m-(intOf i).toNat)
   case atStart=>exact⟨0,aS _,rfl,kC,ae rfl,ai _ _⟩
   case round=>
    clear kC kv;obtain⟨k,hk,rfl,kC,HD,hp⟩:=hrel;by_cases hlt:k<m
    ·obtain⟨b0,q0,o,A1,n1,c1,I,ni,ci,ins,P,np,cp,ps,rfl,ob,⟨v0,v1,v2,v3,v4,v5,v6,v7,v8,Ed⟩,s1,si,sp,l1,li,lp,ik,D⟩:=a.node hlt;have hni:ni<=1000:=by have:=hs.out.2 _ (aK D.out);rw[si.len];exact this
     have HI:Hid (ni=ins.length):=ae si.len;have NL:np<=100000:=by have:=(hf.out.2.2 _ (aK D.out)).2.2.1;rw[jM]at this;rw[sp.len];exact this
     have hn1:n1<=100000:=by have:=(hf.out.2.2 _ (aK D.out)).2.1;rw[s1.len];exact this
     have Js:=NJ ni om
     go_wp2_with fail
     obtain⟨v1,rfl⟩:=lg wr;refine NK (fun x0 x _ _ kx hzx X=>?_);have kCx:=kC.at (w':=x0);clear Js;have U:Hid (∀(q:Nat) (z:Int),ins[q]?=some z->ins.take (q+1)=ins.take q++[z]):=ae fun q z h=>take_at h;go_loopw [52] (fun i wy=>∃(q:Nat) (ts:List Sp),q<=ni/\i=.int .i64 q/\Hid (ts.length=q/\aJ ts=(ins.take q).map fun i=>L.getD i.toNat [])/\aD wy (v1.heap.size+1) 25 (fP (ts++List.replicate (ni-q) fD))/\Hid (∀y∈ts,y∈ss)/\ak wy x0) (fun i _=>ni-(intOf i).toNat)
     case atStart=>exact⟨0,[],aS _,rfl,ae ⟨rfl,rfl⟩,by simpa using X.blk,ae au,ai _ _⟩
     case round=>
      clear X;obtain⟨q,ts,hq,rfl,F,X,pX,hp2⟩:=hrel;by_cases Ee:q<ni
      ·obtain⟨b2,q2,z,rfl,jT,vz,ez⟩:=si.get Ee;have R:=pV.out.iR _ (aK D.out) z (aK ez.out);rw[<-HM.out]at R;obtain⟨y,rfl⟩:=eF R.1;have hy:y<m+1:=om;obtain⟨⟨A3,m3,c3,z3⟩,he⟩:∃e0,ss[y]?=some e0:=⟨_,aW (by rw[<-Oa.len];exact hy)⟩;obtain⟨b7,o7,rfl,TM,vc,rd7,ln7,le7⟩:=Oa.rd y _ he;dsimp only at vc;have od7:Old b7 _:=⟨TM⟩;have hc2:=X.cell q;rw[show(fP (ts++List.replicate (ni-q) fD))[q]?=some (.slice none 0 0)from by
        rw[zm (x:=fD)]
        ·rfl
        ·rw[lC (by rw[F.out.1];exact az _),F.out.1,l9,sj,if_pos om]]at hc2
       have hfr:=X.frozen q;have hK:=X.aF q (.slice A3 m3 c3);rw[aaw (x:=⟨A3,m3,c3,z3⟩) ts F.out.1 Ee]at hK;have lN:=ae hK;have HT2:Hid ((ts++[(⟨A3,m3,c3,z3⟩:Sp)]).length=q+1/\aJ (ts++[(⟨A3,m3,c3,z3⟩:Sp)])=(ins.take (q+1)).map fun i=>L.getD i.toNat []):=ae (by
        refine⟨by simp[F.out.1],?_⟩;rw[U.out q _ ez.out,gV,<-F.out.2];simp only[aJ,gV,fe,lG];congr 2;rw[<-M.out,dD,aQ,YO he];rfl)
       have Jt:Hid (∀y∈ts++[(⟨A3,m3,c3,z3⟩:Sp)],y∈ss):=ae fun y hy=>by
        rcases dP.1 hy with h|h
        ·exact pX.out y h
        ·rw[gm.1 h];exact aK he
       clear hK R he F pX X
       go_wp2_with fail
       go_roundw
       case rel=>exact⟨q+1,_,om,by go_num,HT2,lN.out,Jt,⟨(aL x0 wr).setCell (p:=⟨v1.heap.size+1,q,none⟩) hzx _⟩⟩
       case measure=>simp[intOf];omega
      ·obtain rfl:q=ni:=om;have HX:Hid (aJ ts=iO ⟨o,ins,aJ ps⟩ L):=ae (by rw[F.out.2,HI.out,jq];rfl);have xT:dA wr (some ⟨v1.heap.size+1,0,none⟩) q ts:=⟨fun j x hj=>by
        obtain⟨j2,hj2⟩:=jF (pX.out x (aK hj));have s9:dA wr A4 (m+1) ss:=iin;obtain⟨_,_,_,_,_,h1,h2,h3⟩:=s9.rd j2 x hj2;exact⟨v1.heap.size+1,0,rfl,X.lt,by rw[fo,X.cell,zm (x:=x) (by rw[Bn (aY.1 hj).1];exact hj)],h1,h2,h3⟩,F.out.1.symm⟩
       have HZZ:Hid (∀z∈aJ ps++aJ ts,z.length<=1000000):=ae fun z R=>by
        rcases dP.1 R with h|h
        ·have:=(hf.out.2.2 _ (aK D.out)).2.2.2 z h;omega
        ·obtain⟨y,hy,rfl⟩:=dG.1 h;exact Cm.out y.zs (by rw[<-M.out];exact dG.2 ⟨y,pX.out y hy,rfl⟩)
       have HSH:Hid (iw o (aJ ps) (aJ ts)=0):=ae (by rw[HX.out];exact(pV.out.node k _ D.out).1);obtain⟨cv,hcv⟩:=lh (Em L ⟨o,ins,aJ ps⟩);obtain⟨ce,hce⟩:=lh (JE L ⟨o,ins,aJ ps⟩);have JF:Hid (uU o (aJ ps) (dZ o (aJ ps) (aJ ts))=cv/\vZ o (aJ ps) (dZ o (aJ ps) (aJ ts))=ce):=ae (by rw[HX.out];exact⟨hcv,hce⟩);have TN:Hid (tX L N.nodes=if ce=0 then tX L (N.nodes.drop (k+1))else ce):=ae (by
        obtain⟨h1,h2⟩:=aY.1 D.out;rw[<-HD.out,jE h1,h2,tX,hce])
       have qh:=ae (take_at D.out);have xK:Hid ((N.nodes.take k).length=k):=ae (by rw[dO,<-HM.out];omega);have Ob:=ae hcv;have HKC:=ae (kCx.at (w':=wr));clear hcv hce X kCx kC U;by_cases r:ce=0
       ·subst r;have Jy:Hid (tX L (N.nodes.drop (k+1))=tX L N.nodes):=ae (by rw[TN.out,if_pos rfl]);have HZE:Hid (((0:Int)::((N.nodes.take k).map (Em L)++List.replicate (m-k) 0))[k+1]?=some 0):=ae (by
         rw[CY,lC (by rw[dF,xK.out];exact az _),dF,xK.out,l9,sj,if_pos om])
        go_wp2_with (go_at_call 30;refine(Ze om om om HZZ HSH.out JF).mono ?_;rintro e u9 ⟨rfl,_⟩;have kU:=HKC.out.at (w':=u9);have hfr2:=kU.frozen (k+1);have amA:=kU.cell HZE.out)
        go_roundw
        case rel=>
         have hk9:=(HKC.out.at (w':=u9)).aF (k+1) cv;rw[WC,show m-k=(m-(k+1))+1 from om,uo,yA _ _ (by rw[dF,xK.out];exact az _),dF,xK.out,l9,yC]at hk9;exact⟨k+1,om,by go_num,by rw[qh.out,gV,fe,lG,Ob.out,jX];exact hk9,Jy,⟨(aL u u9).setCell (p:=⟨g,k+1,none⟩) hgu _⟩⟩
        case measure=>simp[intOf];omega
       ·have h1:tX L N.nodes=ce:=by rw[TN.out,if_neg r]
        obtain rfl:E=ce:=by rw[<-HE2.out,h1,if_neg r]
        obtain⟨rfl,rfl,rfl⟩:=N8 hE.out hV.out r;have b0:(E !=0)=true:=by simp[r]
        clear r h1 TN HE2
        go_wp2_with (go_at_call 30;refine(Ze om om om HZZ HSH.out JF).mono ?_;rintro e u9 ⟨rfl,_⟩)
        refine bM (v:=.tuple #[.agg #[.slice none 0 0,.slice none 0 0,(0:Int)],E]) ?_ rfl (N9 tV);rw[eG rfl];go_simp
    ·obtain rfl:k=m:=om;have h1:tX L N.nodes=0:=by rw[<-HD.out,kL (by rw[<-HM.out];exact az _)];rfl
     have TR:oG (iP N L)=E:=by have:=HE2.out;rwa[if_pos h1]at this
     have kD:Own wr g 3 (iP N L):=by
      rw[l9,dB (by rw[<-HM.out];exact az _)]at kC;simpa[iP]using kC
     have V:Hid ((iP N L).length=k+1):=ae (by simp[iP,HM.out]);obtain⟨CV,hCV⟩:=lh (iP N L);have b:=hV.out;rw[fU,hE.out,J.out]at b;dsimp only at b;rw[hCV]at b TR kD V;obtain⟨TV,TS⟩:=lh (oD CV);rw[TS,wG.out]at b;have Oc:=ae TS;have Od:=ae TR;have sC:Sl wr (some ⟨g,0,none⟩) (k+1) CV:=⟨kD.rd,V.out.symm⟩;have En:=ae kD;have hlv1:(gZ N).2.1=L:=by rw[J.out]
     clear hCV TS TR kC kD h1 hlv1;by_cases r:E=0
     ·subst r;rw[if_pos rfl]at b;obtain⟨rfl,rfl,rfl⟩:SV=W/\CV=C/\TV=T:=by simpa using b
      clear b
      go_wp2_with (go_at_call 31;refine(Gs om Oc Od).mono ?_;rintro e u9 ⟨rfl,_⟩)
      have hug:w.heap.size+1<u.heap.size:=(iin:Bx u (w.heap.size+1) _ _).blk.lt;have hoC:=aG.sZ (B:=w.heap.size+2) (En.out.at (w':=u9)) om (by rw[V.out];omega);rw[V.out]at hoC;refine bM (v:=.tuple #[.agg #[.slice AW (k+1) cW,.slice g (k+1) (k+1),TV],(0:Int)]) ?_ rfl ⟨AW,cW,some ⟨g,0,none⟩,k+1,by rw[Cu.out,V.out],Tj (oW.at (w':=u9)) (Bx.blk (g:=w.heap.size+1)).lt,Tj hoC (Hy _),tV⟩;rw[eG rfl];go_simp
     ·obtain⟨rfl,rfl,rfl⟩:=N8 hE.out hV.out r;have b0:(E !=0)=true:=by simp[r]
      clear r b
      go_wp2_with (go_at_call 31;refine(Gs om Oc Od).mono ?_;rintro e u9 ⟨rfl,_⟩)
      refine bM (v:=.tuple #[.agg #[.slice none 0 0,.slice none 0 0,(0:Int)],E]) ?_ rfl (N9 tV);rw[eG rfl];go_simp
  ·rw[if_neg r]at G;obtain rfl:=G;obtain⟨rfl,rfl,rfl⟩:=N8 hE.out hV.out r;have b0:(SE !=0)=true:=by simp[r]
   have Cu:Hid (SV.length=0):=ae (by rw[<-S,xS,K,if_neg r];rfl);clear K S r
   go_wp2_with (first|(go_at_call 28;(with_reducible refine(TL hf hs Z J Q).mono ?_);rintro e u ⟨A4,c4,ss,rfl,Oa,lc4,M,p4,fS⟩)|(go_at_call 29;(with_reducible refine(abg om M Cm HSE wG Cu).mono ?_);rintro e u ⟨AW,cW,rfl,sW,oW,pW⟩))
   refine bM (v:=.tuple #[.agg #[.slice none 0 0,.slice none 0 0,(0:Int)],SE]) ?_ rfl (N9 tV);rw[eG rfl];go_simp
 ·obtain rfl:E=bU N:=by rw[<-hE.out,fQ,if_neg c1]
  obtain⟨E1,hE1⟩:=lh (bU N);obtain⟨rfl,rfl,rfl⟩:=N8 hE.out hV.out c1;obtain⟨⟨O,L,l⟩,J⟩:=jS (gZ N);rw[hE1]at c1⊢;have Z:=ae hE1;obtain⟨y,Q⟩:=jS L.length;have b0:(E1 !=0)=true:=by simp[c1]
  clear hE1 c1
  go_wp2_with (first|(go_at_call 28;(with_reducible refine(TL hf hs Z J Q).mono ?_);rintro e u ⟨A4,c4,ss,rfl,Oa,lc4,M,p4,fS⟩))
  refine bM (v:=.tuple #[.agg #[.slice none 0 0,.slice none 0 0,(0:Int)],E1]) ?_ rfl (N9 tV);rw[eG rfl];go_simp
end
def zA(p:Nat)(ins:List Int)(L:List Int):List Int:=ins.foldl (fun L z=>L.set z.toNat ((p:Int)+1)) L
def Cv(N:aI):List Int->Nat->List Int->List Int
 |[],_,L=>L
 |id::r,p,L=>Cv N r (p+1) (zA p (bG N id) L)
def zB(N:aI):List Int:=if bU N=0 then Cv N (iB N) 0 (List.replicate (N.nodes.length+1) 0)else[]
def TT(W:List Int):Int:=if oG W=0 then oG [oD W,oD W-W.headD 0]else oG W
def TW(W:List Int):Int:=if oG W=0 then oD [oD W,oD W-W.headD 0]else 0
def Oe(N:aI):Int:=if fQ N=0 then TT (fU N).1 else fQ N
def xX(N:aI):Int:=if fQ N=0 then TW (fU N).1 else 0
section
variable{w w':World}{A B:Option Addr}{n m c d:Nat}{N:aI}{E T:Int}{W C:List Int}
theorem Eo{O:List Int}{L:List (List Int)}{l:Int}[aX w A n B m N](j:Hid N.fits)(hs:Hid N.small)(r:Hid (bU N=E))(u:Hid (gZ N=(O,L,l))){x:Nat}(y:Hid (O.length=x)):
  Calls Tryz.prog 60 #[.agg #[.slice A n c,.slice B m d]] w fun e w'=>∃A c,e=.returned (.tuple #[.slice A x c,E])/\Sl w' A x O/\aG w' w.heap.size 3 A c O/\ak w' w:=by
 obtain rfl:=y.out;exact(aml j hs r u).mono fun e w' ⟨A,c,z,b,D⟩=>⟨A,c,z,⟨b.rd,rfl⟩,b,D⟩
theorem xY[aX w A n B m N](l:Hid N.fits)(hs:Hid N.small)(hE:Hid (fQ N=E))(hV:Hid (fU N=(W,C,T))){x y:Nat}(r:Hid (W.length=x))(u:Hid (C.length=y)):
  Calls Tryz.prog 9 #[.agg #[.slice A n c,.slice B m d]] w fun e w'=>∃A c B d,e=.returned (.tuple #[.agg #[.slice A x c,.slice B y d,T],E])/\Sl w' A x W/\Sl w' B y C/\aG w' w.heap.size 3 A c W/\aG w' w.heap.size 3 B d C/\ak w' w:=by
 obtain rfl:=r.out;obtain rfl:=u.out;exact(amI l hs hE hV).mono fun e w' ⟨A,c,B,d,z,b,j,D⟩=>⟨A,c,B,d,z,⟨b.rd,rfl⟩,⟨j.rd,rfl⟩,b,j,D⟩
theorem abr(p:Nat):∀(ins L:List Int),(zA p ins L).length=L.length
 |[],L=>rfl
 |z::t,L=>by
  rw[show zA p (z::t) L=zA p t (L.set z.toNat ((p:Int)+1))from rfl,abr p t,jQ]
theorem abt:∀(r:List Int) (p:Nat) (L:List Int),(Cv N r p L).length=L.length
 |[],_,_=>rfl
 |id::r,p,L=>by rw[Cv,abt r,abr]
theorem amK[a:aX w A n B m N](hf:Hid N.fits)(hs:Hid N.small)(hE:Hid (bU N=E))(hV:Hid (zB N=W)):Calls Tryz.prog 133 #[.agg #[.slice A n c,.slice B m d]] w (Jz w E W):=by
 obtain⟨CB,CP⟩:=lM;have R:Hid (m=N.nodes.length):=ae a.len;have hm:m<=1000:=by rw[R.out];exact hs.out.1
 go_enter Tryz.func133,Tryz.ntmps133;by_cases c1:E=0
 ·subst c1;obtain⟨O,L,l,S,D,-,-⟩:=look_ok hE.out;have J:=hE;have K:=ae S;have F:Hid (O.length=m):=ae (by rw[D.zz,R.out]);have V:Hid (∀id∈O,1<=id/\id<=m):=ae fun id hid=>by have:=dR.1 (D.lV.ids id hid);rw[<-R.out]at this;exact this
  have HR:=ae D.iR;have hW:Cv N O 0 (List.replicate (m+1) 0)=W:=by rw[<-hV.out,zB,if_pos hE.out,D.ord,R.out]
  clear D S;have X:∀W:World,(Instr.makeSlice 24 (.int .i64 ((m:Int)+1)) (.int .i64 ((m:Int)+1))).run Tryz.prog W=.ok (.slice (some ⟨W.heap.size,0,none⟩) (m+1) (m+1)) (W.alloc (.cells (ints (List.replicate (m+1) 0)) 3)):=fun W=>by
   have h:=Gl (m+1) om W;rwa[mF]at h
  have Q:=ae hW;clear hW
  go_wp2_with (first|(go_at_call 60;(with_reducible refine(Eo hf hs J K F).mono ?_);rintro e u ⟨AO,cO,rfl,sO,oO,pO⟩))
  refine bI (fun v _ kv=>?_);obtain⟨g,hg⟩:=lg u.heap.size;have Y:w.heap.size<=g:=by rw[hg];exact aH
  have Z:u.heap.size<=g:=lH hg.symm;have r:Own v g 3 (List.replicate (m+1) 0):=by rw[hg];exact kv.blk
  rw[<-hg];clear X hg;go_loopw [26] (fun i wr=>∃(j:Nat) (cur:List Int),j<=m/\i=.int .i64 j/\Own wr g 3 cur/\Hid (cur.length=m+1)/\Hid (Cv N (O.drop j) j cur=W)/\ak wr u) (fun i _=>m-(intOf i).toNat)
  case atStart=>exact⟨0,_,aS _,rfl,r,ae au,Q,ai _ _⟩
  case round=>
   clear r kv Q;obtain⟨j,cur,hj,rfl,r,b,Q,hp⟩:=hrel;have sW:Sl wr AO m O:=iin;by_cases hlt:j<m
   ·obtain⟨b9,q9,id,rfl,Jr,v9,U⟩:=sW.get hlt;obtain⟨Aw,Ay⟩:=V.out id (aK U.out);obtain⟨t,ht⟩:=eF (show 0<=id-1 by omega);obtain rfl:id=(t:Int)+1:=by omega
    have xR:t<m:=om;have w2:(t:Int)+1-1=t:=by omega
    obtain⟨b0,q0,o,A1,n1,c1,I,ni,ci,ins,P,np,cp,ps,rfl,ob,⟨v0,v1,v2,v3,v4,v5,v6,v7,v8,Ed⟩,s1,si,sp,l1,li,lp,ik,M⟩:=a.node xR;have hni:ni<=1000:=by have:=hs.out.2 _ (aK M.out);rw[si.len];exact this
    have HI:Hid (ni=ins.length):=ae si.len;have HN:Hid (Cv N (O.drop (j+1)) (j+1) (zA j ins cur)=W):=ae (by
     have h:=Q.out;obtain⟨h1,h2⟩:=aY.1 U.out;rw[jE h1,h2,Cv,bG,show((t:Int)+1-1).toNat=t from om,M.out]at h;exact h)
    clear ht Aw Ay Q
    go_wp2_with fail
    go_loopw [39] (fun i wy=>∃(q:Nat) (G:List Int),q<=ni/\i=.int .i64 q/\Own wy g 3 G/\Hid (G.length=m+1)/\Hid (zA j (ins.drop q) G=zA j ins cur)/\ak wy u) (fun i _=>ni-(intOf i).toNat)
    case atStart=>exact⟨0,cur,aS _,rfl,r,b,ae rfl,hp⟩
    case round=>
     clear r b hp;obtain⟨q,G,hq,rfl,r,b,HQ,hp⟩:=hrel;by_cases Ee:q<ni
     ·obtain⟨b2,q2,z,rfl,jT,vz,ez⟩:=si.get Ee;have hz:=HR.out _ (aK M.out) z (aK ez.out);rw[<-R.out]at hz;obtain⟨y,rfl⟩:=eF hz.1;have hy:y<m+1:=om;have hfr:=r.frozen y;have hcy:=r.cell (aW (show y<G.length by rw[b.out];exact hy));have hK:=r.aF y ((j:Int)+1);have HK:=ae hK;have JG:Hid (zA j (ins.drop (q+1)) (G.set y ((j:Int)+1))=zA j ins cur):=ae (by
       obtain⟨h1,h2⟩:=aY.1 ez.out;rw[<-HQ.out,jE h1,h2];rfl)
      clear hK r hz
      go_wp2_with fail
      go_roundw
      case rel=>exact⟨q+1,_,om,by go_num,HK.out,ae (by rw[jQ];exact b.out),JG,⟨(aL u wr).setCell (p:=⟨g,y,none⟩) Z _⟩⟩
      case measure=>simp[intOf];omega
     ·obtain rfl:q=ni:=om;have JH:Hid (G=zA j ins cur):=ae (by rw[<-HQ.out,kL (by rw[<-HI.out];exact az _)];rfl)
      go_wp2_with fail
      go_roundw
      case rel=>exact⟨j+1,G,om,by go_num,r,b,by rw[JH.out];exact HN,hp⟩
      case measure=>simp[intOf];omega
   ·obtain rfl:j=m:=om;have hcw:cur=W:=by rw[<-Q.out,kL (by rw[F.out];exact az _)];rfl
    subst hcw
    go_wp2_with fail
    go_ret2;exact⟨some ⟨g,0,none⟩,j+1,by rw[b.out];rfl,by have:=aG.sZ r Y (by rw[b.out];omega);rwa[b.out]at this,ai _ _⟩
 ·obtain rfl:W=[]:=by rw[<-hV.out,zB,hE.out,if_neg c1]
  obtain⟨⟨O,L,l⟩,K⟩:=jS (gZ N);have J:=hE;obtain⟨y,F⟩:=jS O.length;have b0:(E !=0)=true:=by simp[c1]
  clear c1
  go_wp2_with (first|(go_at_call 60;(with_reducible refine(Eo hf hs J K F).mono ?_);rintro e u ⟨AO,cO,rfl,sO,oO,pO⟩))
  go_ret2;exact⟨none,0,rfl,aG.nil _ _ _,ai _ _⟩
theorem abu(h:fQ N=0):bU N=0/\(fU N).1.length=N.nodes.length+1/\(fU N).2.1.length=N.nodes.length+1:=by
 have e:bU N=0:=by
  unfold fQ at h
  split at h
  ·assumption
  ·exact h
 obtain⟨O,L,l,b,j,-,-⟩:=look_ok e;refine⟨e,?_,?_⟩
 ·rw[fU,if_pos h,b];have r:mi L=0:=by
   rw[fQ,if_pos e,b,Gv]at h;dsimp only at h
   split at h
   ·assumption
   ·exact h
  simp[xS,r,j.len]
 ·rw[fU,if_pos h,b];simp[iP]
theorem amL[a:aX w A n B m N](R:Hid N.fits)(hs:Hid N.small){V:Int}(hE:Hid (Oe N=E))(hV:Hid (xX N=V)):Calls Tryz.prog 10 #[.agg #[.slice A n c,.slice B m d]] w (aM w (.tuple #[V,E])):=by
 obtain⟨CB,CP,FB⟩:=iK;have S:Hid (m=N.nodes.length):=ae a.len;have hm:m<=1000:=by rw[S.out];exact hs.out.1
 obtain⟨⟨W,C,T⟩,l⟩:=lh (fU N);have G:=ae l;have b:=hE.out;have j:=hV.out;rw[Oe,l]at b;rw[xX,l]at j;go_enter Tryz.func10,Tryz.ntmps10;by_cases c1:fQ N=0
 ·rw[if_pos c1]at b j;have D:=ae c1;obtain⟨-,U,X⟩:=abu c1;rw[l]at U X;have r:Hid (W.length=m+1):=ae (by rw[S.out];exact U);have F:Hid (C.length=m+1):=ae (by rw[S.out];exact X);clear l c1 U X;obtain⟨K,hK⟩:=lh (oD W);obtain⟨J,I⟩:=lh (oG W);rw[TT,I,hK]at b;rw[TW,I,hK]at j;have L:=ae hK;have M:=ae I;by_cases O:J=0
  ·subst O;rw[if_pos rfl]at b j;have hb:∀z∈W,0<=z/\z<=1099511627776:=fun z Y=>by
    have:W.all iZ=true:=by
     unfold oG at I
     split at I
     ·assumption
     ·omega
    have:=fK.1 this z Y;simpa[iZ]using this
   have hK0:0<=K/\K<=1099511627776:=by
    rw[<-hK,oD]
    split
    ·rename_i h;simp only[dm,dU]at h;exact⟨NW fun z Y=>(hb z Y).1,h.2⟩
    ·omega
   obtain⟨P,Wt,Q⟩:∃a t,W=a::t:=by
    cases W with
    |nil=>have:=r.out;simp at this
    |cons a t=>exact⟨a,t,rfl⟩
   have hW0:=hb P (by rw[Q];exact dN);have hh:W.headD 0=P:=by rw[Q];rfl
   rw[hh]at b j;have Z:=ae b;have FK:=ae j;have HW0:Hid (W[0]?=some P):=ae (by rw[Q];rfl);clear b j hK I hb hh Q
   go_upto_region 7 with(first|(first|(go_at_call 9;(with_reducible refine(xY R hs D G r F).mono ?_);rintro e u ⟨AW,cW,AC,cC,rfl,sW,sC,oW,oC,pP⟩))|(go_at_call 31;refine(Gs om L M).mono ?_;rintro e u9 ⟨rfl,_⟩))
   obtain⟨b2,q2,z,rfl,jT,vz,ez⟩:=sW.get (Fp _);obtain rfl:z=P:=by have:=ez.out;rw[HW0.out]at this;injection this with e;exact e.symm
   rw[nA]at vz
   go_wp2_with (go_at_call 31;(with_reducible refine qZ (fun u10 _ _=>?_));(with_reducible refine(Gs om FK Z).mono ?_);rintro e u11 ⟨rfl,_⟩)
   go_ret2;exact⟨rfl,ai _ _⟩
  ·rw[if_neg O]at b j;obtain rfl:=b;obtain rfl:=j;have b0:(J !=0)=true:=by simp[O]
   clear hK I O
   go_wp2_with (first|(first|(go_at_call 9;(with_reducible refine(xY R hs D G r F).mono ?_);rintro e u ⟨AW,cW,AC,cC,rfl,sW,sC,oW,oC,pP⟩))|(go_at_call 31;refine(Gs om L M).mono ?_;rintro e u9 ⟨rfl,_⟩))
   go_ret2;exact⟨rfl,ai _ _⟩
 ·rw[if_neg c1]at b j;obtain rfl:=j;have D:=ae b;obtain⟨x,r⟩:=jS W.length;obtain⟨y,F⟩:=jS C.length;have b0:(E !=0)=true:=by rw[<-b];simp[c1]
  clear l b c1
  go_wp2_with (first|(go_at_call 9;(with_reducible refine(xY R hs D G r F).mono ?_);rintro e u ⟨AW,cW,AC,cC,rfl,sW,sC,oW,oC,pP⟩))
  go_ret2;exact⟨rfl,ai _ _⟩
end
structure Two(u wr:World)(A:Option Addr)(c:Nat)(X:List Int)(B:Option Addr)(d:Nat)(Y:List Int):Prop where
 r1:aG wr u.heap.size 3 A c X
 r2:aG wr u.heap.size 3 B d Y
 mU:∀a b,A=some a->B=some b->a.block≠b.block
 prev:ak wr u
def Ep(N:aI):Int:=if fQ N=0 then(if chainB N then 0 else 27)else fQ N
def Og(N:aI):List Int:=if Ep N=0 then(fU N).1.headD 0::(iB N).map (fun id=>(fU N).1.getD id.toNat 0)else[]
def Oh(N:aI):List Int:=if Ep N=0 then(iB N).map (fun id=>(fU N).2.1.getD id.toNat 0)else[]
def amM(w:World)(E:Int)(W C:List Int)(e:Ending)(w':World):Prop:=∃A c B d,e=.returned (.tuple #[.slice A W.length c,.slice B C.length d,E])/\aG w' w.heap.size 3 A c W/\aG w' w.heap.size 3 B d C/\ak w' w
section
variable{w w' u wr:World}{A B A':Option Addr}{n m c d c':Nat}{N:aI}{E T:Int}{W C X X' Y:List Int}
theorem Two.abv(h:Two u wr A c X B d Y)(y:aG w' u.heap.size 3 A' c' X')(j:bS A A' wr w'):Two u w' A' c' X' B d Y where
 r1:=y
 r2:=h.r2.iq j (fun a a' l r=>h.mU a' a r l)
 mU a b l eb:=by
  rcases j.new a l with⟨a0,z,D⟩|F
  ·rw[D];exact h.mU a0 b z eb
  ·have:=h.r2.lt b eb;omega
 prev:=⟨h.prev.st.trans (j.below (fun ad e=>h.r1.fresh ad e) h.prev.st.size)⟩
theorem Two.swap(h:Two u wr A c X B d Y):Two u wr B d Y A c X:=⟨h.r2,h.r1,fun a b e j=>(h.mU b a j e).symm,h.prev⟩
theorem Two.amN(h:Two u wr B d Y A c X)(b:aG w' u.heap.size 3 A' c' X')(e:bS A A' wr w'):Two u w' B d Y A' c' X':=(h.swap.abv b e).swap
theorem xZ{L:List Int}{y:Nat}{z:Int}(h:L[y]?=some z):L.getD y 0=z:=by rw[aQ,h];rfl
theorem amO[a:aX w A n B m N](hf:Hid N.fits)(hs:Hid N.small)(hE:Hid (Ep N=E))(hW:Hid (Og N=W))(hC:Hid (Oh N=C)):Calls Tryz.prog 146 #[.agg #[.slice A n c,.slice B m d]] w (amM w E W C):=by
 obtain⟨CB,CP,FB⟩:=iK;have HM:Hid (m=N.nodes.length):=ae a.len;have hm:m<=1000:=by rw[HM.out];exact hs.out.1
 obtain⟨⟨PW,PC,PT⟩,G⟩:=lh (fU N);have U:=ae G;have D:=hE.out;have r:=hW.out;have F:=hC.out;rw[Ep]at D;rw[Og,hE.out,G]at r;rw[Oh,hE.out,G]at F;dsimp only at r F;go_enter Tryz.func146,Tryz.ntmps146;by_cases c1:fQ N=0
 ·rw[if_pos c1]at D;have J:=ae c1;obtain⟨h1,h2,h3⟩:=abu c1;rw[G]at h2 h3;have I:Hid (PW.length=m+1):=ae (by rw[HM.out];exact h2);have K:Hid (PC.length=m+1):=ae (by rw[HM.out];exact h3);clear G c1 h2 h3;obtain⟨cb,V⟩:=lh (chainB N);rw[V]at D;have HCB:=ae V;clear V;rcases cb with _|_
  ·obtain rfl:E=27:=D.symm;rw[if_neg om]at r F;subst r F;clear h1
   go_wp2_with (first|(go_at_call 9;(with_reducible refine(xY hf hs J U I K).mono ?_);rintro e u ⟨AW,cW,AC,cC,rfl,sW,sC,oW,oC,pP⟩)|(go_at_call 196;(with_reducible refine(aaZ hf hs HCB).mono ?_);rintro e u ⟨rfl,_⟩))
   go_ret3
   exact⟨none,0,none,0,rfl,aG.nil _ _ _,aG.nil _ _ _,ai _ _⟩
  ·obtain rfl:E=0:=D.symm;obtain⟨O,L,l,hlv,M,-,-⟩:=look_ok h1;rw[if_pos rfl,M.ord]at r F;have zD:=ae h1;have lS:=ae hlv;have Z:Hid (O.length=m):=ae (by rw[M.zz,HM.out]);have wH:Hid (∀id∈O,1<=id/\id<=m):=ae fun id hid=>by have:=dR.1 (M.lV.ids id hid);rw[<-HM.out]at this;exact this
   obtain⟨W0,Wt,hP⟩:∃a t,PW=a::t:=by
    cases PW with
    |nil=>have:=I.out;simp at this
    |cons a t=>exact⟨a,t,rfl⟩
   have hh:PW.headD 0=W0:=by rw[hP];rfl
   rw[hh]at r;have HW0:Hid (PW[0]?=some W0):=ae (by rw[hP];rfl);have HW1:=ae r;have Gq:=ae F;clear r F M hlv h1 hh hP
   go_upto_region 9 with(first|(go_at_call 9;(with_reducible refine(xY hf hs J U I K).mono ?_);rintro e u ⟨AW,cW,AC,cC,rfl,sW,sC,oW,oC,pP⟩)|(go_at_call 196;(with_reducible refine(aaZ hf hs HCB).mono ?_);rintro e u ⟨rfl,_⟩)|(go_at_call 60;(with_reducible refine(Eo hf hs zD lS Z).mono ?_);rintro e u ⟨AO,cO,rfl,sO,oO,pO⟩))
   have sP:=sW;obtain⟨b2,q2,z,rfl,jT,vz,ez⟩:=sP.get (Fp _);obtain rfl:z=W0:=by have:=ez.out;rw[HW0.out]at this;injection this with e;exact e.symm
   rw[nA]at vz
   go_wp2_with fail
   have P:Two u (u.alloc (.cells #[z] 3)) (some ⟨u.heap.size,0,none⟩) 1 [z] none 0 []:=
    ⟨aG.sZ (Own.new u 3 [z]) (az _) au,aG.nil _ _ _,fun a b ea eb=>(by cases eb),ai _ _⟩
   go_loopw [2,3,35] (fun s t i wr=>∃(j:Nat) (A:Option Addr) (c:Nat) (X:List Int) (B:Option Addr) (d:Nat) (Y:List Int),j<=m/\i=.int .i64 j/\s=.slice A X.length c/\t=.slice B Y.length d/\Two u wr A c X B d Y/\Hid (X.length=j+1/\Y.length=j)/\Hid (X=z::(O.take j).map (fun id=>PW.getD id.toNat 0)/\Y=(O.take j).map (fun id=>PC.getD id.toNat 0))) (fun _ _ i _=>m-(intOf i).toNat)
   case atStart=>exact⟨0,_,_,[z],none,0,[],aS _,rfl,rfl,rfl,P,ae ⟨rfl,rfl⟩,ae ⟨au,au⟩⟩
   case round=>
    clear P;obtain⟨j,A',c',X,B',d',Y,hj,rfl,rfl,rfl,P,Q,R⟩:=hrel;have pT:=P.prev;have sOw:Sl wr AO m O:=iin;by_cases hlt:j<m
    ·obtain⟨b9,q9,id,rfl,Jr,v9,xQ⟩:=sOw.get hlt;have hid:=wH.out id (aK xQ.out);obtain⟨y,rfl⟩:=eF (show 0<=id by omega);have hy:y<m+1:=om;obtain⟨zW,TY⟩:∃x,PW[y]?=some x:=⟨_,aW (by rw[I.out];exact hy)⟩;have hcW:=sP.rd.all TY;obtain⟨bC,qC,zC,rfl,obC,vC,eC⟩:=sC.get hy;have qh:=ae (take_at xQ.out);have hXb:X.length<=1001:=by rw[Q.out.1];omega
     have hYb:Y.length<=1001:=by rw[Q.out.2];omega
     have HGW:=ae (xZ TY);have HGC:=ae (xZ eC.out);clear TY hid
     go_wp2_with (first|(at_builtin;refine Ij rfl _ _ _ rfl 3 Tryz.underlying24 aj u.heap.size B' d' Y rfl S.r2 zC rfl om S.prev.st.size ?_;intro A5 c5 w5 ho5 amT _)|(at_builtin;refine Ij rfl _ _ _ rfl 3 Tryz.underlying24 aj u.heap.size A' c' X rfl P.r1 zW rfl om P.prev.st.size ?_;intro A3 c3 w3 ho3 amU _;have S:=P.abv ho3 amU;have p3:=S.prev))
     go_roundw
     case rel=>exact⟨j+1,A3,c3,_,A5,c5,_,om,by go_num,au,au,S.amN ho5 amT,ae ⟨by simp[Q.out.1],by simp[Q.out.2]⟩,ae ⟨by rw[qh.out,gV,fe,lG,R.out.1,dD,HGW.out];rfl,by rw[qh.out,gV,fe,lG,R.out.2,dD,HGC.out]⟩⟩
     case measure=>simp[intOf];omega
    ·obtain rfl:j=m:=om;have hx:X=W:=by rw[R.out.1,<-HW1.out,dB (by rw[Z.out];exact az _)]
     have hy:Y=C:=by rw[R.out.2,<-Gq.out,dB (by rw[Z.out];exact az _)]
     subst hx hy
     go_wp2_with fail
     go_ret3
     exact⟨A',c',B',d',rfl,P.r1.more aH,P.r2.more aH,ai _ _⟩
 ·rw[if_neg c1]at D;have J:=ae D;have hne:E≠0:=by rw[<-D];exact c1
  rw[if_neg hne]at r F;subst r F;obtain⟨x,I⟩:=jS PW.length;obtain⟨y,K⟩:=jS PC.length;have b0:(E !=0)=true:=by simp[hne]
  clear G D c1 hne
  go_wp2_with (first|(go_at_call 9;(with_reducible refine(xY hf hs J U I K).mono ?_);rintro e u ⟨AW,cW,AC,cC,rfl,sW,sC,oW,oC,pP⟩))
  go_ret3
  exact⟨none,0,none,0,rfl,aG.nil _ _ _,aG.nil _ _ _,ai _ _⟩
end
end Go.Proofs.YtmkjnlifimffkaaGreat
