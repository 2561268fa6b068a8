/- Lemmas. -/
import Derived.Test.YtmkjnlifimffkaaGreatG10
namespace Go.Proofs.YtmkjnlifimffkaaGreat
open Go.RowKit Tryz
set_option linter.all false
set_option maxRecDepth 100000
set_option maxHeartbeats 0
variable{Γ:Prop}
attribute[local irreducible]Calls
variable{w':World}{A B:Option Addr}{c d j m:Nat}{E:Int}{O:List Int}{L:List (List Int)}
def oU(p:Nat)(ins:au)(L:au):List Int:=ins.foldl (λL z=>L.set z.toNat ((p:Int)+1)) L
def rX(N:a6):List Int->Nat->List Int->List Int
 |[],_,L=>L
 |id::r,p,L=>rX N r (p+1) (oU p (bS N id) L)
def rY(N:a6):List Int:=if bm N=0 then rX N (eC N) 0 (List.replicate (N.nodes.length+1) 0)else[]
section
variable{w:World}{n:Nat}{N:a6}{T:Int}{W C:List Int}
def jC{l:Int}[aW w A n B m N](j:Z N.fits)(hs:Z N.small)(r:Z (bm N=E))(u:Z (dz N=(O,L,l))){x:Nat}(y:Z (O=x)):
  () 60 #[.agg #[.slice A n c,(B,m,d)]] w λe w'=>∃A c,e=.returned (.tuple #[.slice A x c,E])/\Sl w' A x O/\aD w' w.1.size 3 A c O/\aj w' w:=by
 obtain rfl:=y.o;exact(Ck j hs r u).mono λe w' ⟨A,c,z,b,D⟩=>⟨A,c,z,⟨b.rd,rfl⟩,b,D⟩
def qo[aW w A n B m N](r:Z N.fits)(hs:Z N.small)(hE:Z (iy N=E))(hV:Z (jG N=(W,C,T))){x:Nat}(u:Z (W=x))(z:Z (C=j)):
  () 9 #[.agg #[.slice A n c,.slice B m d]] w λe w'=>∃A c B d,e=.returned (.tuple #[.agg #[.slice A x c,.slice B j d,T],E])/\Sl w' A x W/\Sl w' B j C/\aD w' w.1.size 3 A c W/\aD w' w.1.size 3 B d C/\aj w' w:=by
 obtain rfl:=u.o;obtain rfl:=z.o;exact(adr r hs hE hV).mono λe w' ⟨A,c,B,d,D,b,l,F⟩=>⟨A,c,B,d,D,⟨b.rd,rfl⟩,⟨l.rd,rfl⟩,b,l,F⟩
def Ct(p:Nat):∀(ins L:au),(oU p ins L).length=L
 |[],L=>rfl
 |z::t,L=>by rw[show oU p (z::t) L=oU p t (L.set z.toNat ((p:Int)+1))from rfl,Ct p t,ei]
def Cu:∀(r:au) (p:Nat) (L:au),(rX N r p L).length=L
 |[],_,_=>rfl
 |id::r,p,L=>by rw[rX,Cu r,Ct]
def X4[a:aW w A n B m N](hf:Z N.fits)(hs:Z N.small)(hE:Z (bm N=E))(hV:Z (rY N=W)):() 133 #[.agg #[(A,n,c),(B,m,d)]] w (we w E W):=by
 obtain⟨CB,CP⟩:=hY;have S:Z (m=N.nodes):=a.len;have hm:m<=1000:=by rw[S.o];exact hs.o.1
 go_in;by_cases c1:E=0
 .subst c1;obtain⟨O,L,l,V,F,-,-⟩:=look_ok hE;have K:=hE;have M:=U V;have G:Z (O=m):=U (by rw[F.tI,S.o]);(have wa:Z (∀id∈O,1<=id/\id<=m):=U λid hid=>by have:=bt.1 (F.m8.ids id hid);rw[<-S.o]at this;exact this);have HR:=U F.ko;(have hW:rX N O 0 (List.replicate (m+1) 0)=W:=by rw[<-hV.o,rY,ah hE.o,F.ord,S.o]);clear F V;(have jF:∀W:World,(Instr.makeSlice 24 ((m:Int)+1:Int) ((m:Int)+1:Int)).run prog W=.ok (.slice (some ⟨W.1.size,0,none⟩) (m+1) (m+1)) (W.alloc (.cells (ints (List.replicate (m+1) 0)) 3)):=λW=>by have h:=kL (m+1) Y W;rwa[en]at h);have R:=U hW;clear hW;go_wp2_with (go_at_call 60;refine(jC hf hs K M G).mono ?_;rintro e u ⟨AO,cO,rfl,sO,oO,pO⟩);refine aa (λv _ kv=>?_);obtain⟨g,hg⟩:=lg u.1.size;(have ru:w.1.size<=g:=by rw[hg];exact ai);have X1:u.1.size<=g:=dT hg.symm;(have D:Own v g 3 (List.replicate (m+1) 0):=by rw[hg];exact kv.ak);rw[<-hg];clear jF hg;go_loopw [26] (λi wr=>∃(j:Nat) (b:au),j<=m/\i=.int .i64 j/\Own wr g 3 b/\Z (b=m+1)/\Z (rX N (O.drop j) j b=W)/\aj wr u) (λi _=>m-(intOf i).toNat);exact⟨0,_,aR _,rfl,D,U aI,R,aC⟩;clear D kv R;obtain⟨j,b,hj,rfl,D,r,R,hp⟩:=hrel;have sW:Sl wr AO m O:=am;by_cases bD:j<m
  .obtain⟨b9,q9,id,rfl,XG,v9,X⟩:=sW.get bD;obtain⟨Ik,B7⟩:=wa.o id (aK X.o);obtain⟨t,ht⟩:=bO (show 0<=id-1 by omega);(obtain rfl:id=(t:Int)+1:=by omega);have B8:t<m:=Y;(have w2:(t:Int)+1-1=t:=by omega);obtain⟨b0,q0,o,A1,n1,c1,I,ni,ci,ins,P,np,cp,ps,rfl,ob,⟨v0,v1,v2,v3,v4,v5,v6,v7,v8,Oj⟩,s1,si,sp,l1,li,lp,ik,Q⟩:=a.node B8;have ra:ni<=1000:=by have:=hs.o.2 _ (aK Q.o);rwa[si.len]
   have HI:Z (ni=ins):=si.len;have HN:Z (rX N (O.drop (j+1)) (j+1) (oU j ins b)=W):=U (by
    have h:=R.o;obtain⟨h1,h2⟩:=bj.1 X.o;rw[e7 h1,h2,rX,bS,show((t:Int)+1-1).toNat=t from Y,Q.o]at h;exact h)
   clear ht Ik B7 R;go_wp2_with fail;go_loopw [39] (λi wy=>∃(q:Nat) (J:au),q<=ni/\i=.int .i64 q/\Own wy g 3 J/\Z (J=m+1)/\Z (oU j (ins.drop q) J=oU j ins b)/\aj wy u) (λi _=>ni-(intOf i).toNat);exact⟨0,b,aR _,rfl,D,r,U rfl,hp⟩;clear D r hp;obtain⟨q,J,hq,rfl,D,r,HQ,hp⟩:=hrel;by_cases Ol:q<ni
   .obtain⟨b2,q2,z,rfl,iM,vz,ez⟩:=si.get Ol;have hz:=HR.o _ (aK Q.o) z (aK ez.o);rw[<-S.o]at hz;obtain⟨y,rfl⟩:=bO hz.1;have hy:y<m+1:=Y;have D7:=D.frozen y;have hcy:=D.cell (bk (show y<J.length by rw[r.o];exact hy));have hK:=D.av y ((j:Int)+1);have HK:=U hK;have X5:Z (oU j (ins.drop (q+1)) (J.set y ((j:Int)+1))=oU j ins b):=U (by
     obtain⟨h1,h2⟩:=bj.1 ez.o;rw[<-HQ.o,e7 h1,h2];rfl)
    clear hK D hz;go_wp2_with fail;go_roundw;exact⟨q+1,_,Y,by go_num,HK,U (by rwa[ei]),X5,⟨(aO u wr).setCell (p:=⟨g,y,none⟩) X1 _⟩⟩;simp[intOf];omega
   obtain rfl:q=ni:=Y;have X6:Z (J=oU j ins b):=U (by rw[<-HQ.o,eU (by rw[<-HI.o];exact al _)];rfl);go_wp2_with fail;go_roundw;exact⟨j+1,J,Y,by go_num,D,r,by rw[X6.o];exact HN,hp⟩;simp[intOf];omega
  obtain rfl:j=m:=Y;(have hcw:b=W:=by rw[<-R.o,eU (by rw[G.o];exact al _)];rfl);subst hcw;go_wp2_with fail;go_ret2;exact⟨some ⟨g,0,none⟩,j+1,by rw[r.o];rfl,by have:=aD.gJ D ru (by rw[r.o];omega);rwa[r.o]at this,aC⟩
 obtain rfl:W=[]:=by rw[<-hV.o,rY,hE.o,ag c1]
 obtain⟨⟨O,L,l⟩,M⟩:=l8 (dz N);have K:=hE;obtain⟨y,G⟩:=l8 O.length;have b0:(E !=0)=true:=by simp[c1]
 clear c1;go_wp2_with (go_at_call 60;refine(jC hf hs K M G).mono ?_;rintro e u ⟨AO,cO,rfl,sO,oO,pO⟩);go_ret2;exact⟨none,0,rfl,aD.nil _ _ _,aC⟩
def ads(h:iy N=0):bm N=0/\(jG N).1.length=N.nodes+1/\(jG N).2.1.length=N.nodes+1:=by
 have e:bm N=0:=by unfold iy at h;split at h;assumption;exact h
 obtain⟨O,L,l,b,j,-,-⟩:=look_ok e;refine⟨e,?_,?_⟩
 .rw[jG,ah h,b];(have r:eZ L=0:=by rw[iy,ah e,b,KW]at h;dsimp only at h;split at h;assumption;exact h);simp[k5,r,j.len]
 rw[jG,ah h,b];simp[j7]
end
variable{u wr:World}{A':Option Addr}{c':Nat}{z:Int}
structure Cv(u wr:World)(A:Option Addr)(c:Nat)(X:List Int)(B:Option Addr)(d:Nat)(MJ:List Int):Prop where
 r1:aD wr u.1.size 3 A c X
 r2:aD wr u.1.size 3 B d MJ
 qk:∀a b,A=some a->B=some b->a.block≠b.block
 prev:aj wr u
def Cw(N:a6):Int:=if iy N=0 then(if chainB N then 0 else 27)else iy N
def T4(N:a6):List Int:=if Cw N=0 then(jG N).1.headD 0::(eC N).map (λid=>(jG N).1.getD id.toNat 0)else[]
def OF(N:a6):List Int:=if Cw N=0 then(eC N).map (λid=>(jG N).2.1.getD id.toNat 0)else[]
def adt(w:ab)(E:Int)(W C:au)(e:Ending)(w':ab):Prop:=∃A c B d,e=.returned (.tuple #[.slice A W c,.slice B C d,E])/\aD w' w.1.size 3 A c W/\aD w' w.1.size 3 B d C/\aj w' w
section
variable{w:World}{n:Nat}{N:a6}{T:Int}{W C X X' MJ:List Int}
def Cv.acp(h:Cv u wr A c X B d MJ)(y:aD w' u.1.size 3 A' c' X')(j:dj A A' wr w'):Cv u w' A' c' X' B d MJ where
 r1:=y
 r2:=h.r2.jE j (λa a' l r=>h.qk a' a r l)
 qk a b l eb:=by
  rcases j.new a l with⟨a0,z,D⟩|Au
  .rw[D];exact h.qk a0 b z eb
  .have:=h.r2.lt b eb;omega
 prev:=⟨h.prev.st.trans (j.below (λF e=>h.r1.fresh F e) h.prev.st.size)⟩
def Cv.swap(h:Cv u wr A c X B d MJ):Cv u wr B d MJ A c X:=⟨h.r2,h.r1,λa b e j=>(h.qk b a j e).symm,h.prev⟩
def Cv.aeV(h:Cv u wr B d MJ A c X)(b:aD w' u.1.size 3 A' c' X')(e:dj A A' wr w'):Cv u w' B d MJ A' c' X':=(h.swap.acp b e).swap
def g3{L:au}(h:L[j]?=some z):L.getD j 0=z:=by rw[a5,h];rfl
def zK0(h:Γ:=by go_ret3;exact⟨none,0,none,0,rfl,aD.nil _ _ _,aD.nil _ _ _,aC⟩):=h
def s4[a:aW w A n B m N](hf:Z N.fits)(hs:Z N.small)(hE:Z (Cw N=E))(hW:Z (T4 N=W))(hC:Z (OF N=C)):() 146 #[.agg #[(A,n,c),(B,m,d)]] w (adt w E W C):=by
 obtain⟨CB,CP,FB⟩:=gW;have HM:Z (m=N.nodes):=a.len;have hm:m<=1000:=by rw[HM.o];exact hs.o.1
 obtain⟨⟨PW,PC,PT⟩,G⟩:=lh (jG N);have V:=U G;have D:=hE.o;have r:=hW.o;have F:=hC.o;rw[Cw]at D;rw[T4,hE.o,G]at r;rw[OF,hE.o,G]at F;dsimp only at r F;go_in;by_cases c1:iy N=0
 .rw[ah c1]at D;have J:=U c1;obtain⟨h1,h2,h3⟩:=ads c1;rw[G]at h2 h3;have I:Z (PW=m+1):=U (by rw[HM.o];exact h2);have K:Z (PC=m+1):=U (by rw[HM.o];exact h3);clear G c1 h2 h3;obtain⟨cb,xm⟩:=lh (chainB N);rw[xm]at D;have HCB:=U xm;clear xm;rcases cb with _|_
  .obtain rfl:E=27:=D.symm;rw[ag Y]at r F;subst r F;clear h1;go_wp2_with (first|(go_at_call 9;refine(qo hf hs J V I K).mono ?_;rintro e u ⟨AW,cW,AC,cC,rfl,sW,sC,oW,oC,pP⟩)|(go_at_call 196;refine(KR hf hs HCB).mono ?_;rintro e u ⟨rfl,_⟩));exact zK0
  obtain rfl:E=0:=D.symm;obtain⟨O,L,l,pZ,M,-,-⟩:=look_ok h1;rw[ah rfl,M.ord]at r F;have uq:=U h1;have iO:=U pZ;have t2:Z (O=m):=U (by rw[M.tI,HM.o]);(have wa:Z (∀id∈O,1<=id/\id<=m):=U λid hid=>by have:=bt.1 (M.m8.ids id hid);rw[<-HM.o]at this;exact this);obtain⟨W0,Wt,hP⟩:∃a t,PW=a::t:=by
   cases PW with
   |nil=>have:=I.o;simp at this
   |cons a t=>exact⟨a,t,rfl⟩
  have hh:PW.headD 0=W0:=by rw[hP];rfl
  rw[hh]at r;have HW0:Z (PW[0]?=some W0):=U (by rw[hP];rfl);have VN:=U r;have Iq:=U F;clear r F M pZ h1 hh hP;go_upto_region 9 with(first|(go_at_call 9;refine(qo hf hs J V I K).mono ?_;rintro e u ⟨AW,cW,AC,cC,rfl,sW,sC,oW,oC,pP⟩)|(go_at_call 196;refine(KR hf hs HCB).mono ?_;rintro e u ⟨rfl,_⟩)|(go_at_call 60;refine(jC hf hs uq iO t2).mono ?_;rintro e u ⟨AO,cO,rfl,sO,oO,pO⟩));have sP:=sW;obtain⟨b2,q2,z,rfl,iM,vz,ez⟩:=sP.get (PQ _);(obtain rfl:z=W0:=by have:=ez.o;rw[HW0.o]at this;injection this with e;exact e.symm);rw[d9]at vz;go_wp2_with fail
  have P:Cv u (u.alloc (.cells #[z] 3)) (some ⟨u.1.size,0,none⟩) 1 [z] none 0 []:=
   ⟨aD.gJ (Own.new u 3 [z]) (al _) aI,aD.nil _ _ _,λa b ea eb=>(by cases eb),aC⟩
  go_loopw [2,3,35] (λs t i wr=>∃(j:Nat) (A:bz) (c:Nat) (X:au) (B:bz) (d:Nat) (MJ:au),j<=m/\i=.int .i64 j/\s=.slice A X c/\t=.slice B MJ d/\Cv u wr A c X B d MJ/\Z (X=j+1/\MJ=j)/\Z (X=z::(O.take j).map (λid=>PW.getD id.toNat 0)/\MJ=(O.take j).map (λid=>PC.getD id.toNat 0))) (λ_ _ i _=>m-(intOf i).toNat);exact⟨0,_,_,[z],none,0,[],aR _,rfl,rfl,rfl,P,U ⟨rfl,rfl⟩,U ⟨aI,aI⟩⟩;clear P;obtain⟨j,A',c',X,B',d',MJ,hj,rfl,rfl,rfl,P,Q,R⟩:=hrel;have pT:=P.prev;have sOw:Sl wr AO m O:=am;by_cases bD:j<m
  .obtain⟨b9,q9,id,rfl,XG,v9,B3⟩:=sOw.get bD;have hid:=wa.o id (aK B3.o);obtain⟨y,rfl⟩:=bO (show 0<=id by omega);have hy:y<m+1:=Y;obtain⟨zW,hzW⟩:∃x,PW[y]?=some x:=⟨_,bk (by rwa[I.o])⟩;have hcW:=sP.rd.all hzW;obtain⟨bC,qC,zC,rfl,obC,vC,eC⟩:=sC.get hy;have ql:=U (take_at B3.o);(have hXb:X.length<=1001:=by rw[Q.o.1];omega);(have hYb:MJ.length<=1001:=by rw[Q.o.2];omega);have HGW:=U (g3 hzW);have HGC:=U (g3 eC.o);clear hzW hid;go_wp2_with (first|(at_builtin;refine iV rfl _ _ _ rfl 3 underlying24 ap u.1.size B' d' MJ rfl S.r2 zC rfl Y S.prev.st.size ?_;intro A5 c5 w5 ho5 aeW _)|(at_builtin;refine iV rfl _ _ _ rfl 3 underlying24 ap u.1.size A' c' X rfl P.r1 zW rfl Y P.prev.st.size ?_;intro A3 c3 w3 lN aeX _;have S:=P.acp lN aeX;have p3:=S.prev));go_roundw;exact⟨j+1,A3,c3,_,A5,c5,_,Y,by go_num,aI,aI,S.aeV ho5 aeW,U ⟨by simp[Q.o.1],by simp[Q.o.2]⟩,U ⟨by rw[ql.o,c9,eh,lM,R.o.1,a9,HGW.o];rfl,by rw[ql.o,c9,eh,lM,R.o.2,a9,HGC.o]⟩⟩;simp[intOf];omega
  obtain rfl:j=m:=Y;(have hx:X=W:=by rw[R.o.1,<-VN.o,bV (by rw[t2.o];exact al _)]);(have hy:MJ=C:=by rw[R.o.2,<-Iq.o,bV (by rw[t2.o];exact al _)]);subst hx hy;go_wp2_with fail;go_ret3;exact⟨A',c',B',d',rfl,P.r1.more ai,P.r2.more ai,aC⟩
 rw[ag c1]at D;have J:=U D;have ia:E≠0:=by rwa[<-D]
 rw[ag ia]at r F;subst r F;obtain⟨x,I⟩:=l8 PW.length;obtain⟨y,K⟩:=l8 PC.length;have b0:(E !=0)=true:=by simp[ia]
 clear G D c1 ia;go_wp2_with (go_at_call 9;refine(qo hf hs J V I K).mono ?_;rintro e u ⟨AW,cW,AC,cC,rfl,sW,sC,oW,oC,pP⟩);exact zK0
end
