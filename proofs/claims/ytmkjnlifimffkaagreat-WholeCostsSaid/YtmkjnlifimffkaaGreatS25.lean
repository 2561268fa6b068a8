/- Lemmas. No condition. -/
import Derived.Test.YtmkjnlifimffkaaGreatS24
import Derived.Test.YtmkjnlifimffkaaGreatS22
namespace Go.Proofs.YtmkjnlifimffkaaGreat
open Go.RowKit
set_option linter.all false
set_option maxRecDepth 100000
set_option maxHeartbeats 16000000
def Gr(N:aI):Int->List Int->Bool
 |_,[]=>true
 |b,id::r=>if bG N id=[b]then Gr N id r else false
def chainB(N:aI):Bool:=if bU N=0 then Gr N 0 (iB N)else false
def Jz(w:World)(E:Int)(O:List Int)(e:Ending)(w':World):Prop:=∃A c,e=.returned (.tuple #[.slice A O.length c,E])/\aG w' w.heap.size 3 A c O/\ak w' w
section
variable{w w':World}{A B:Option Addr}{n m c d:Nat}{N:aI}{E l:Int}{O:List Int}{L:List (List Int)}
theorem zy[aX w A n B m N](b:Hid N.fits)(hs:Hid N.small)(j:Hid (bU N=E)):Calls Tryz.prog 40 #[.agg #[.slice A n c,.slice B m d]] w (aM w (.int .i64 E)):=by
 have F:=@bf;have G:=@dV;obtain⟨⟨O,L,l⟩,r⟩:=jS (gZ N);go_enter Tryz.func40,Tryz.ntmps40
 go_wp2_with (first|(go_at_call 72;(with_reducible refine(Gp b hs j r).mono ?_);rintro e u ⟨AO,cO,AL,cL,I,rfl,y,z,C,D,J,K⟩))
 go_ret;exact⟨rfl,ai _ _⟩
theorem aml[aX w A n B m N](j:Hid N.fits)(hs:Hid N.small)(r:Hid (bU N=E))(y:Hid (gZ N=(O,L,l))):Calls Tryz.prog 60 #[.agg #[.slice A n c,.slice B m d]] w (Jz w E O):=by
 have F:=@bf;have G:=@dV;go_enter Tryz.func60,Tryz.ntmps60
 go_wp2_with (first|(go_at_call 72;(with_reducible refine(Gp j hs r y).mono ?_);rintro e u ⟨AO,cO,AL,cL,I,rfl,b,z,C,D,J,K⟩))
 go_ret2;exact⟨AO,cO,rfl,b.at.more aH,ai _ _⟩
theorem aaY[aX w A n B m N](r:Hid N.fits)(hs:Hid N.small)(y:Hid (bU N=E))(z:Hid (gZ N=(O,L,l))):Calls Tryz.prog 28 #[.agg #[.slice A n c,.slice B m d]] w (aat w L E):=by
 have I:=@bf;have J:=@dV;go_enter Tryz.func28,Tryz.ntmps28
 go_wp2_with (first|(go_at_call 72;(with_reducible refine(Gp r hs y z).mono ?_);rintro e u ⟨AO,cO,AL,cL,C,rfl,D,F,b,j,K,G⟩))
 go_ret2;exact⟨AL,cL,C,rfl,iin,b,j,ai _ _,G.less aH⟩
theorem Tz[aX w A n B m N](b:Hid N.fits)(hs:Hid N.small)(j:Hid (bU N=E))(r:Hid (gZ N=(O,L,l))):Calls Tryz.prog 61 #[.agg #[.slice A n c,.slice B m d]] w (aM w (.tuple #[l,E])):=by
 have F:=@bf;have G:=@dV;go_enter Tryz.func61,Tryz.ntmps61
 go_wp2_with (first|(go_at_call 72;(with_reducible refine(Gp b hs j r).mono ?_);rintro e u ⟨AO,cO,AL,cL,I,rfl,y,z,C,D,J,K⟩))
 go_ret2;exact⟨rfl,ai _ _⟩
theorem aaZ[a:aX w A n B m N](hf:Hid N.fits)(hs:Hid N.small){b:Bool}(HB:Hid (chainB N=b)):Calls Tryz.prog 196 #[.agg #[.slice A n c,.slice B m d]] w (aM w (.bool b)):=by
 obtain⟨CB,CP,FB⟩:=iK;have HM:Hid (m=N.nodes.length):=ae a.len;have hm:m<=1000:=by rw[HM.out];exact hs.out.1
 obtain⟨⟨O,L,l⟩,hV⟩:=lh (gZ N);obtain⟨E,hE⟩:=lh (bU N);have y:=HB.out;rw[chainB,hE]at y;have T:=ae hE;have HV:=ae hV;clear hE;go_enter Tryz.func196,Tryz.ntmps196;by_cases Q:E=0
 ·subst Q;rw[if_pos rfl]at y;have hO:iB N=O:=by have h:=hV;rw[gZ,T.out,if_pos rfl]at h;exact(nD h).1
  rw[hO]at y;have r:ll N O:=hO▸NU _ _ ll.nil;have U:Hid (∀id∈O,1<=id/\id<=m):=ae fun id hid=>by have:=dR.1 (r.ids id hid);rw[<-HM.out]at this;exact this
  have hOl:O.length<=1000:=by have:=r.len;have:=hs.out.1;omega
  have F:=ae y;clear y hO r hV
  go_wp2_with (first|(go_at_call 72;(with_reducible refine(Gp hf hs T HV).mono ?_);rintro e u ⟨AO,cO,AL,cL,sL,rfl,G,V,X,Y,pL,fL⟩))
  have sO:Sl _ AO O.length O:=⟨G.rd,rfl⟩;refine bI (fun x _ _=>?_);go_loopw [5,19] (fun s i wr=>∃(j:Nat) (C:Int),j<=O.length/\i=.int .i64 j/\s=.int .i64 C/\Hid (Gr N C (O.drop j)=b)/\ak wr x) (fun _ i _=>O.length-(intOf i).toNat)
  case atStart=>exact⟨0,0,aS _,rfl,rfl,F,⟨bq _ _⟩⟩
  case round=>
   clear F;obtain⟨j,C,hj,rfl,rfl,Z,hp⟩:=hrel;have sW:Sl wr AO O.length O:=iin;by_cases hlt:j<O.length
   ·obtain⟨b9,q9,id,rfl,Jr,v9,J⟩:=sW.get hlt;obtain⟨Aw,Ay⟩:=U.out id (aK J.out);obtain⟨t,ht⟩:=eF (show 0<=id-1 by omega);obtain rfl:id=(t:Int)+1:=by omega
    have xR:t<m:=om;have w2:(t:Int)+1-1=t:=by omega
    obtain⟨b0,q0,o,A1,n1,c1,I,ni,ci,ins,P,np,cp,ps,rfl,ob,⟨v0,v1,v2,v3,v4,v5,v6,v7,v8,Ed⟩,s1,R,sp,l1,li,lp,ik,K⟩:=a.node xR;have hni:ni<=1000:=by have:=hs.out.2 _ (aK K.out);rw[R.len];exact this
    have D:Hid ((if ins=[C]then Gr N ((t:Int)+1) (O.drop (j+1))else false)=b):=ae (by
     have h:=Z.out;obtain⟨M,h2⟩:=aY.1 J.out;rw[jE M,h2,Gr,bG,show((t:Int)+1-1).toNat=t from om,K.out]at h;exact h)
    clear ht Aw Ay Z;by_cases M:ni=1
    ·subst M;obtain⟨z,rfl⟩:∃z,ins=[z]:=List.length_eq_one_iff.1 R.len.symm;obtain⟨b2,q2,z',rfl,jT,vz,ez⟩:=R.get (Hy 0);obtain rfl:z=z':=by have:=ez.out;simpa using this
     rw[nA]at vz;by_cases S:z=C
     ·subst S;have HD2:Hid (Gr N ((t:Int)+1) (O.drop (j+1))=b):=ae (by have:=D.out;rwa[if_pos rfl]at this);clear D
      go_wp2_with fail
      go_roundw
      case rel=>exact⟨j+1,_,om,by go_num,rfl,HD2,ai _ _⟩
      case measure=>simp[intOf];omega
     ·obtain rfl:b=false:=by have:=D.out;rw[if_neg (by simpa using S)]at this;exact this.symm
      have b0:(z !=C)=true:=by simp[S]
      clear D S
      go_wp2_with fail
      go_ret;exact⟨rfl,ai _ _⟩
    ·obtain rfl:b=false:=by
      have:=D.out;rw[if_neg (fun e=>M (by rw[R.len,e];rfl))]at this;exact this.symm
     have b0:((ni:Int) !=1)=true:=by simp;omega
     clear D M
     go_wp2_with fail
     go_ret;exact⟨rfl,ai _ _⟩
   ·obtain rfl:b=true:=by have:=Z.out;rw[kL om]at this;exact this.symm
    have hj2:j=O.length:=om;subst hj2
    go_wp2_with fail
    go_ret;exact⟨rfl,ai _ _⟩
 ·obtain rfl:b=false:=by rw[if_neg Q]at y;exact y.symm
  have b0:(E !=0)=true:=by simp[Q]
  clear Q hV y
  go_wp2_with (first|(go_at_call 72;(with_reducible refine(Gp hf hs T HV).mono ?_);rintro e u ⟨AO,cO,AL,cL,sL,rfl,G,V,X,Y,pL,fL⟩))
  go_ret;exact⟨rfl,ai _ _⟩
end
theorem amm{P:Program}{w:World}{F:Array Oper}{rest:List Oper}{o:Oper}{a:Act}{Q:Exit->Act->World->Prop}(J:o.guard=none)(s x:Operand)(t:TypeId)
  (Z:o.op=.call {callee:=.builtin .append,args:= #[s,x],argTypes:= #[t,t]}) (E:TypeId) (ht:P.underlying t=some (.slice E)) (k bytes:Nat) (z:Value)
  (y:(P.info? E).map (fun i=>(i.zero,i.size,i.bytes))=some (some z,k,bytes)) (K:z.cells.size=k) (T:0<k) (L:bytes<=1000)
  (B:Nat) (A:Option Addr) (c n:Nat) (vs:List Value) (hs:a.eval s=.slice A n c) (G:aP w B E k A c n vs) (ad:Addr) (m c2:Nat) (news:List Value) (hx:a.eval x=.slice (some ad) m c2) (hl:news.length=m*k)
  (C:∀j u,news[j]?=some u->w.cell? (ad.add j)=some u) (h1:∀u∈news,u.oneCell'=true) (U:n+m<=1000000000) (hB:B<=w.heap.size)
  (h:∀A' c' w',aP w' B E k A' c' (n+m) (vs++news)->bS A A' w w'->wpList P F Q rest (a.put o.dst (.slice A' (n+m) c')) w'):
  wpList P F Q (o::rest) a w:=by
 obtain⟨i,hi,I⟩:=bN.1 y;simp only[jZ]at I;obtain⟨M,N,O⟩:=I;refine Lu w J s x t Z B E i z k bytes ht hi M N O K T _ _ _ hs G ad m c2 news hx hl C h1 (by unfold maxLen;omega) ?_ hB ?_
 ·have:=EX (n+m) L;omega
 ·intro v' w' l hg _ r;have V:∀A' X c',v'=.slice A' X c'->bS A A' w w':=fun A' X c' hv=>by
   subst hv;rw[xn,xn]at r;refine⟨(bq 0 w).grown hg om (fun k T=>aS _),hg.size,fun b hb R=>hg.block b hb ?_,fun tC e=>?_⟩
   ·rw[xn];intro e;obtain⟨a0,S,rfl⟩:=bN.1 e.symm;exact R a0 S rfl
   ·subst e;rcases r with r|r
    ·obtain⟨a0,h3,h4⟩:=bN.1 r.symm;exact .inl ⟨a0,h3,h4.symm⟩
    ·right;injection r with r
     exact lH r.symm
  rcases l.2 with⟨hv,Y⟩|⟨g,cap,cur,hv,hBg,hgg,hnc,hcm,hcs,htk⟩
  ·have D:=V none 0 0 hv;rw[hv]at l⊢;have:=h none 0 w' (by rw[Y]at l⊢;exact l) D;rwa[Y]at this
  ·have D:=V _ _ _ hv;rw[hv]at l⊢;exact h _ _ _ l D
theorem Rd.iq{w w':World}{A A' X:Option Addr}{zs:List Int}(h:Rd w X zs)(m:bS A A' w w')(l:∀ad bd,X=some ad->A=some bd->bd.block≠ad.block):Rd w' X zs:=by
 intro j z r;obtain⟨b,off,e,hb,u⟩:=h j z r;exact⟨b,off,e,bV hb m.size,(jG (m.off b hb fun bd y=>l _ bd e y)).trans u⟩
structure jd(w:World)(B:Nat)(A:Option Addr)(c:Nat)(ss:List Sp):Prop where
 row:aP w B 25 1 A c ss.length (fP ss).toList
 el:∀x∈ss,Rd w x.A x.zs/\x.m=x.zs.length/\x.m<=x.c/\bn B x.A
 ne:∀x∈ss,∀ad bd,x.A=some ad->A=some bd->bd.block≠ad.block
 lt:∀x∈ss,∀ad,x.A=some ad->ad.block<w.heap.size
def amn(w:World)(L:List (List Int))(e:Ending)(w':World):Prop:=∃g ss,e=.returned (.slice (some ⟨g,0,none⟩) L.length L.length)/\nJ w' g ss/\Hid (aJ ss=L/\∀x∈ss,∀ad,x.A=some ad->ad.block<w'.heap.size)/\w.heap.size<=g/\ak w' w
def iU(N:aI):List (List Int):=N.nodes.flatMap (·.P)
section
variable{w w':World}{A B:Option Addr}{n m c d:Nat}{N:aI}{ss:List Sp}
theorem amo{x:Sp}(ts:List Sp){n j:Nat}(b:ts.length=j)(h:j<n):(ts++List.replicate (n-j) fD).set j x=(ts++[x])++List.replicate (n-(j+1)) fD:=by
 rw[show n-j=(n-(j+1))+1 from om,uo,yA _ _ om,b,l9,yC];simp
theorem amq[a:dA w B n ss](L:n<=1000000)(M:Hid (∀z∈aJ ss,z.length<=1000000)):Calls Tryz.prog 117 #[.slice B n c] w (amn w (aJ ss)):=by
 have U:=@kQ;have C:=NJ n L;have J:Hid (n=(aJ ss).length):=ae (by rw[jM];exact a.len);go_enter Tryz.func117,Tryz.ntmps117
 go_wp2_with fail
 refine bI (fun v _ _=>?_);have r:nJ v w.heap.size (List.replicate n fD):=nJ.new (Bx.blk (w:=v) (g:=w.heap.size));clear C;go_loopw [11] (fun i wr=>∃(j:Nat) (ts:List Sp),j<=n/\i=.int .i64 j/\Hid (ts.length=j/\aJ ts=(aJ ss).take j/\∀x∈ts,∀ad,x.A=some ad->ad.block<wr.heap.size)/\nJ wr w.heap.size (ts++List.replicate (n-j) fD)/\ak wr w) (fun i _=>n-(intOf i).toNat)
 case atStart=>exact⟨0,[],aS _,rfl,ae ⟨rfl,rfl,au⟩,r,ai _ _⟩
 case round=>
  clear r;obtain⟨j,ts,V,rfl,b,hS,hp⟩:=hrel;by_cases y:j<n
  ·obtain⟨X,q0,Y,m1,c1,zs,rfl,ob,v0,O,l1,K⟩:=a.get y;have D:m1<=1000000:=by rw[O.len];exact M.out _ (aK K.out)
   have E:=ae (take_at K.out);have P:Hid ((fP (ts++List.replicate (n-j) fD))[j]?=some (.slice none 0 0)):=ae (by
    rw[zm (x:=fD)]
    ·rfl
    ·rw[lC (by rw[b.out.1];exact az _),b.out.1,l9,sj,if_pos om])
   go_wp2_with (go_at_call 103;refine(Y2 D).mono ?_;rintro e u ⟨Q,rfl,F,oS,R⟩;have G:=hS.at (w':=u);have S:=(G.blk.cell j).trans P.out;have T:=G.blk.frozen j)
   go_roundw
   case rel=>
    have I:=hS.blk.lt;have l:=G.aF (x:=⟨some ⟨Q,0,none⟩,zs.length,zs.length,zs⟩) j oS.rd rfl (az _) ⟨fun ad e=>by injection e with e;subst e;exact aZ I F⟩;rw[amo ts b.out.1 y]at l;refine⟨j+1,_,om,by go_num,ae ⟨by simp[b.out.1],?_,fun x l ad e=>?_⟩,l,⟨(aL w u).setCell (p:=⟨w.heap.size,j,none⟩) (az _) _⟩⟩
    ·rw[E.out,<-b.out.2.1];simp[aJ]
    ·have:=R.st.size;rcases dP.1 l with l|l
     ·have:=b.out.2.2 x l ad e;simp;omega
     ·rw[gm.1 l]at e;injection e with e;subst e
      have:=oS.lt;simpa using this
   case measure=>simp[intOf];omega
  ·obtain rfl:j=n:=om
   go_wp2_with fail
   go_ret;refine⟨w.heap.size,ts,by rw[<-J.out];rfl,by simpa using hS,ae ⟨by rw[b.out.2.1,dB (by rw[<-J.out];exact az _)],b.out.2.2⟩,az _,hp⟩
theorem jd.at(h:jd w d A c ss)[l:Later w w']:jd w' d A c ss:=
 ⟨h.row.at,fun x b=>⟨(h.el x b).1.below l.st,(h.el x b).2⟩,h.ne,fun x b ad e=>bV (h.lt x b ad e) l.st.size⟩
theorem jd.nil:jd w d none 0 []:=⟨Qb w d _ 1,au,au,au⟩
theorem jd.grow{ts:List Sp}{g c':Nat}{A':Option Addr}(h:jd w d A c ss)(hb:nJ w g ts)(D:∀x∈ts,∀ad,x.A=some ad->ad.block<w.heap.size)(hd:d<=g)(E:∀bd,A=some bd->bd.block<g)(y:bS A A' w w')
  (hr:aP w' d 25 1 A' c' (ss++ts).length (fP (ss++ts)).toList):jd w' d A' c' (ss++ts):=by
 have u:∀x∈ss++ts,∀ad,x.A=some ad->ad.block<w.heap.size:=fun x b ad e=>by
  rcases dP.1 b with b|b
  ·exact h.lt x b ad e
  ·exact D x b ad e
 have l:∀x∈ss++ts,∀ad bd,x.A=some ad->A=some bd->bd.block≠ad.block:=fun x b ad bd e j=>by
  rcases dP.1 b with b|b
  ·exact h.ne x b ad bd e j
  ·have:=(hb.el x b).2.2.2.out ad e;have:=E bd j;omega
 refine⟨hr,fun x b=>?_,fun x b ad bd e j=>?_,fun x b ad e=>bV (u x b ad e) y.size⟩
 ·rcases dP.1 b with r|r
  ·obtain⟨z,C⟩:=h.el x r;exact⟨z.iq y fun ad bd e j=>l x b ad bd e j,C⟩
  ·obtain⟨z,C,F,G⟩:=hb.el x r;exact⟨z.iq y fun ad bd e j=>l x b ad bd e j,C,F,G.less om⟩
 ·rcases y.new bd j with⟨a0,I,J⟩|K
  ·rw[J];exact l x b ad a0 e I
  ·have:=u x b ad e;omega
theorem amr:∀u∈(fP ss).toList,u.oneCell'=true:=fun u hu=>by
 simp only[fP,List.toList_toArray,dG]at hu;obtain⟨x,_,rfl⟩:=hu;rfl
theorem ams:(fP ss).toList.length=ss.length:=by simp[fP]
theorem aa0{ts:List Sp}:(fP (ss++ts)).toList=(fP ss).toList++(fP ts).toList:=by simp[fP]
def amt(w:World)(L:List (List Int))(e:Ending)(w':World):Prop:=∃A c ss,e=.returned (.slice A L.length c)/\jd w' w.heap.size A c ss/\Hid (aJ ss=L)/\ak w' w
theorem TA(h:N.fits)(k:Nat):((N.nodes.take k).flatMap (·.P)).length<=(N.nodes.take k).length*100000:=by
 have:∀l:List dJ,(∀v∈l,v.P.length<=100000)->(l.flatMap (·.P)).length<=l.length*100000:=fun l=>by
  induction l with
  |nil=>intro _;simp
  |cons v t b=>
   intro hv;rw[sG,cu,iJ];have j:=hv v dN;have r:=b fun x e=>hv x (fI _ e);omega
 exact this _ fun v hv=>(h.2.2 v (gU hv)).2.2.1
theorem aa1[a:aX w A n B m N](C:Hid N.fits)(hs:Hid N.small):Calls Tryz.prog 68 #[.agg #[.slice A n c,.slice B m d]] w (amt w (iU N)):=by
 obtain⟨Y,Z,FB⟩:=iK;have L:Hid (m=N.nodes.length):=ae a.len;have hm:m<=1000:=by rw[L.out];exact hs.out.1
 go_enter Tryz.func68,Tryz.ntmps68
 go_wp2_with fail
 refine bI (fun v _ _=>?_);go_loopw [3,9] (fun s i wr=>∃(k:Nat) (A':Option Addr) (c':Nat) (ss:List Sp),k<=m/\i=.int .i64 k/\s=.slice A' ss.length c'/\jd wr w.heap.size A' c' ss/\Hid (aJ ss=(N.nodes.take k).flatMap (·.P))/\ak wr w) (fun _ i _=>m-(intOf i).toNat)
 case atStart=>exact⟨0,none,0,[],aS _,rfl,rfl,jd.nil,ae rfl,ai _ _⟩
 case round=>
  obtain⟨k,A',c',ss,hk,rfl,rfl,hS,D,hp⟩:=hrel;by_cases E:k<m
  ·obtain⟨b0,q0,o,A1,n1,c1,I,ni,ci,ins,P,np,cp,ps,rfl,ob,⟨v0,v1,v2,v3,v4,v5,v6,v7,v8,v9⟩,s1,si,sp,l1,li,lp,ik,b⟩:=a.node E;have F:np<=100000:=by have:=(C.out.2.2 _ (aK b.out)).2.2.1;rw[jM]at this;rw[sp.len];exact this
   have G:Hid (∀z∈aJ ps,z.length<=1000000):=ae fun z Q=>by have:=(C.out.2.2 _ (aK b.out)).2.2.2 z Q;omega
   have J:Hid ((N.nodes.take (k+1)).flatMap (·.P)=aJ ss++aJ ps):=ae (by rw[take_at b.out,Bq,D.out];simp);have R:ss.length<=100000000:=by
    have S:=TA C.out k;rw[<-D.out,jM]at S;have:(N.nodes.take k).length<=1000:=by have:=hs.out.1;simp;omega
    omega
   have T:(aJ ps).length<=100000:=by rw[jM,<-sp.len];exact F
   go_wp2_with (first|(go_at_call 117;(with_reducible refine qZ (fun u0 _ _=>?_));(with_reducible refine(amq om G).mono ?_);rintro e u ⟨g,ts,rfl,M,y,hg,pu⟩)|(at_builtin;refine amm rfl _ _ _ rfl 25 Tryz.underlying82 1 24 (.slice none 0 0) aj rfl ah ah w.heap.size A' c' ss.length (fP ss).toList rfl (hS.at (w':=u)).row ⟨g,0,none⟩ _ _ (fP ts).toList rfl (by rw[ams,nR,<-jM,y.out.1]) (fun j x U=>by rw[eu,fo,M.blk.cell j];simpa using U) amr om aH ?_;intro V c3 w3 K l))
   go_roundw
   case rel=>
    have r:(ss++ts).length=ss.length+(aJ ps).length:=by rw[cu,<-y.out.1,jM]
    have X:wr.heap.size<=g:=aZ aH hg;refine⟨k+1,V,c3,ss++ts,om,by go_num,by rw[r],(hS.at (w':=u)).grow M y.out.2 (aZ aH hg) (fun bd e=>by have:=hS.row.lt bd e;omega) l (by rw[r,aa0];exact K),ae (by rw[J.out,<-y.out.1];simp[aJ]),⟨(aL w u).trans (l.below (fun ad e=>hS.row.ge ad e) aH)⟩⟩
   case measure=>simp[intOf];omega
  ·obtain rfl:k=m:=om;have O:Hid (aJ ss=iU N):=ae (by rw[D.out,dB (by rw[<-L.out];exact az _)];rfl)
   go_wp2_with fail
   go_ret;exact⟨A',c',ss,by rw[<-O.out,jM];rfl,hS,O,hp⟩
end
section
theorem TB(zs:List Int)(z:Int):(zs++[z]).sum=zs.sum+z:=by simp
theorem NW:∀{zs:List Int},(∀z∈zs,0<=z)->0<=zs.sum
 |[],_=>au
 |z::t,h=>by
  have:=h z dN;have:=NW (zs:=t) fun x b=>h x (fI _ b);simp;omega
theorem amu{zs:List Int}(h:∀z∈zs,0<=z)(k:Nat):(zs.take k).sum<=zs.sum:=by
 have e:zs.sum=(zs.take k).sum+(zs.drop k).sum:=by rw[<-E5,iX]
 have:=NW (zs:=zs.drop k) fun z b=>h z (jo b);omega
theorem aa2(w:World)(p z:Int)(hp:0<=p)(m:0<=z)(j:p<=1099511627776)(l:z<=1099511627776){b:Bool}(hb:Hid (decide (p+z<=1099511627776)=b)):
  Calls Tryz.prog 78 #[z,.pointer w.heap.size] (w.alloc (.cells #[p] 3)) fun e w'=>e=.returned (.bool b)/\w.alloc (.cells #[.int .i64 (p+z)] 3)=w':=by
 go_enter Tryz.func78,Tryz.ntmps78
 go_wp2
 go_ret;exact⟨jD hb.out,rfl⟩
def amv(w:World)(zs:List Int)(e:Ending)(w':World):Prop:=
 e=.returned (.bool (decide (zs.sum<=1099511627776)))/\∃p,w'=w.alloc (.cells #[.int .i64 p] 3)/\(zs.sum<=1099511627776->p=zs.sum)
theorem amw(A:Option Addr)(c:Nat)(zs:List Int)(w:World)(hs:zs.length<=1000000)(h:Rd w A zs)(j:Hid (∀z∈zs,0<=z/\z<=1099511627776)):
  Calls Tryz.prog 76 #[.slice A zs.length c,.func (.func 78) #[] #[.pointer w.heap.size]] (w.alloc (.cells #[(0:Int)] 3)) (amv w zs):=by
 have I:=h.alloc (.cells #[(0:Int)] 3);go_enter Tryz.func76,Tryz.ntmps76
 go_wp2_with fail
 go_loopw [9] (fun i wr=>∃k:Nat,k<=zs.length/\i=.int .i64 k/\(zs.take k).sum<=1099511627776/\wr=w.alloc (.cells #[.int .i64 (zs.take k).sum] 3)) (fun i _=>zs.length-(intOf i).toNat)
 case atStart=>exact⟨0,aS _,rfl,au,rfl⟩
 case round=>
  obtain⟨k,L,rfl,m,rfl⟩:=hrel;have u:0<=(zs.take k).sum:=NW fun z r=>(j.out z (gU r)).1;by_cases C:k<zs.length
  ·have E:=h.alloc (.cells #[.int .i64 (zs.take k).sum] 3);obtain⟨b,off,z,rfl,hb,M,r⟩:=h.get C;obtain⟨y,B⟩:=j.out z (aK r.out);have J:=E.all r.out;clear I E;by_cases l:(zs.take k).sum+z<=1099511627776
   ·have D:Hid (decide ((zs.take k).sum+z<=1099511627776)=true):=ae (by simpa using l)
    go_wp2_with fail
    refine(aa2 w _ z u y m B D).mono ?_;rintro e w' ⟨rfl,rfl⟩
    go_wp2_with fail
    go_roundw
    case rel=>exact⟨k+1,om,by go_num,by rw[take_at r.out,TB];exact l,by rw[take_at r.out,TB]⟩
    case measure=>simp[intOf];omega
   ·have D:Hid (decide ((zs.take k).sum+z<=1099511627776)=false):=ae (by simpa using l);have F:Hid (1099511627776<zs.sum):=ae (by
     have:=amu (fun z r=>(j.out z r).1) (k+1);rw[take_at r.out,TB]at this;omega)
    go_wp2_with fail
    refine(aa2 w _ z u y m B D).mono ?_;rintro e w' ⟨rfl,rfl⟩
    go_wp2_with fail
    go_ret;exact⟨jD (by simpa using F.out),_,rfl,fun K=>absurd K (by have:=F.out;omega)⟩
  ·have G:Hid (zs.take k=zs):=dB om
   go_wp2_with fail
   go_ret;rw[G.out]at m;exact⟨jD (by simpa using m),_,rfl,fun _=>by rw[G.out]⟩
def oD(zs:List Int):Int:=if zs.all iZ&&decide (zs.sum<=1099511627776)then zs.sum else 0
def oG(zs:List Int):Int:=if zs.all iZ then(if zs.sum<=1099511627776 then 0 else 17)else 11
def mi:List (List Int)->Int
 |[]=>0
 |z::t=>if eT z=0 then mi t else eT z
def xS(L:List (List Int)):List Int:=if mi L=0 then L.map bJ else[]
def xU(zs:List Int):Int:=zs.foldl max 0
section
variable{w w':World}{A B:Option Addr}{n m c d:Nat}{zs:List Int}{ss:List Sp}
theorem Gs[a:Sl w A n zs](C:n<=1000000){V E:Int}(hV:Hid (oD zs=V))(hE:Hid (oG zs=E)):Calls Tryz.prog 31 #[.slice A n c] w (aM w (.tuple #[V,E])):=by
 obtain⟨h,rfl⟩:=a;have r:=ae (Qj 77 iZ Qi (fun _ _=>rfl) A c zs w C h);rcases h1:zs.all iZ with _|_
 ·obtain rfl:V=0:=by rw[<-hV.out];simp[oD,h1]
  obtain rfl:E=11:=by rw[<-hE.out];simp[oG,h1]
  have l:=ae h1;clear h1;go_enter Tryz.func31,Tryz.ntmps31
  go_wp2_with fail
  refine r.out.mono ?_;rintro e w' ⟨rfl,rfl⟩;rw[l.out]
  go_wp2_with fail
  go_ret2;exact⟨rfl,⟨bq _ _⟩⟩
 ·have l:=ae h1;have j:Hid (∀z∈zs,0<=z/\z<=1099511627776):=ae fun z F=>by
   have a:=fK.1 h1 z F;simpa[iZ]using a
  have D:=ae (amw A c zs w C h j);by_cases b:zs.sum<=1099511627776
  ·obtain rfl:V=zs.sum:=by rw[<-hV.out];simp[oD,h1,b]
   obtain rfl:E=0:=by rw[<-hE.out];simp[oG,h1,b]
   have u:Hid (decide (zs.sum<=1099511627776)=true):=ae (by simpa using b);have y:=ae b;clear h1 b;go_enter Tryz.func31,Tryz.ntmps31
   go_wp2_with fail
   refine r.out.mono ?_;rintro e w' ⟨rfl,rfl⟩;rw[l.out]
   go_wp2_with fail
   refine D.out.mono ?_;rintro e w' ⟨rfl,p,rfl,hp⟩;obtain rfl:=hp y.out;rw[u.out]
   go_wp2_with fail
   go_ret2;exact⟨rfl,ai _ _⟩
  ·obtain rfl:V=0:=by rw[<-hV.out];simp[oD,h1,b]
   obtain rfl:E=17:=by rw[<-hE.out];simp[oG,h1,b]
   have u:Hid (decide (zs.sum<=1099511627776)=false):=ae (by simpa using b);clear h1 b;go_enter Tryz.func31,Tryz.ntmps31
   go_wp2_with fail
   refine r.out.mono ?_;rintro e w' ⟨rfl,rfl⟩;rw[l.out]
   go_wp2_with fail
   refine D.out.mono ?_;rintro e w' ⟨rfl,p,rfl,hp⟩;rw[u.out]
   go_wp2_with fail
   go_ret2;exact⟨rfl,ai _ _⟩
theorem amx{z:Int}:xU (zs++[z])=max (xU zs) z:=by simp[xU]
theorem amy[a:Sl w A n zs](C:n<=1000000){V:Int}(hV:Hid (xU zs=V)):Calls Tryz.prog 38 #[.slice A n c] w (aM w (.int .i64 V)):=by
 have r:Hid (n=zs.length):=ae a.len;go_enter Tryz.func38,Tryz.ntmps38
 go_wp2_with fail
 go_loop [3,8] (fun s i=>∃k:Nat,k<=n/\i=.int .i64 k/\s=.int .i64 (xU (zs.take k))) (fun _ i=>n-(intOf i).toNat)
 case atStart=>exact⟨0,aS _,rfl,rfl⟩
 case round=>
  obtain⟨k,D,rfl,rfl⟩:=hrel;by_cases e:k<n
  ·obtain⟨b,q,z,rfl,ob,v0,u⟩:=a.get e;have j:Hid (xU (zs.take (k+1))=max (xU (zs.take k)) z):=ae (by rw[take_at u.out,amx]);obtain⟨M,l⟩:=lh (xU (zs.take k));rw[l]at j⊢;clear l
   go_wp2_with fail
   go_round
   case rel=>exact⟨k+1,om,by go_num,by rw[j.out];try rfl⟩
   case measure=>simp[intOf];omega
  ·have y:Hid (xU (zs.take k)=V):=ae (by rw[dB (by rw[<-r.out];omega)];exact hV.out);rw[y.out]
   go_wp2_with fail
   go_ret;exact⟨rfl,⟨bq _ _⟩⟩
theorem amz[a:dA w B n ss](hn:n<=1000000)(hz:Hid (∀z∈aJ ss,z.length<=1000000)){E:Int}{V:List Int}(hE:Hid (mi (aJ ss)=E))(hV:Hid (xS (aJ ss)=V)):Calls Tryz.prog 29 #[.slice B n c] w (Jz w E V):=by
 have CP:=@kQ;have N:=Gl n hn;have M:Hid (n=(aJ ss).length):=ae (by rw[jM];exact a.len);go_enter Tryz.func29,Tryz.ntmps29
 go_wp2_with fail
 obtain⟨v,hv⟩:=lg (w.alloc (.cells (ints (List.replicate n 0)) 3));have T:ak v w:=hv▸ai _ _;have r:Own v w.heap.size 3 (((aJ ss).take 0).map bJ++List.replicate (n-0) 0):=by rw[hv];exact Own.new _ _ _
 rw[<-hv];clear N hv;go_loopw [14] (fun i wr=>∃j:Nat,j<=n/\i=.int .i64 j/\Own wr w.heap.size 3 (((aJ ss).take j).map bJ++List.replicate (n-j) 0)/\Hid (mi ((aJ ss).drop j)=mi (aJ ss))/\ak wr w) (fun i _=>n-(intOf i).toNat)
 case atStart=>exact⟨0,aS _,rfl,r,ae rfl,T⟩
 case round=>
  clear r T;obtain⟨j,hj,rfl,r,U,hp⟩:=hrel;by_cases O:j<n
  ·obtain⟨b0,q0,A1,m1,c1,zs,rfl,ob,v0,s1,l1,P⟩:=a.get O;have G:m1<=1000000:=by rw[s1.len];exact hz.out _ (aK P.out)
   have y:Hid (mi (aJ ss)=if eT zs=0 then mi ((aJ ss).drop (j+1))else eT zs):=ae (by
    obtain⟨h1,h2⟩:=aY.1 P.out;rw[<-U.out,jE h1,h2];rfl)
   have Q:=ae (take_at P.out);obtain⟨V6,I⟩:=lh (bJ zs);obtain⟨X,C⟩:=lh (eT zs);have D:=ae I;have J:=ae C;have K:((aJ ss).take j).length=j:=by rw[dO,<-M.out];omega
   have b:=ae K;rw[C]at y;clear I C K;by_cases l:X=0
   ·subst l;have R:Hid (mi ((aJ ss).drop (j+1))=mi (aJ ss)):=ae (by rw[y.out,if_pos rfl]);have Y:=ae r;clear r
    go_wp2_with (go_at_call 73;refine(yV G D J).mono ?_;rintro e u ⟨rfl,_⟩;have Z:=Y.out.at (w':=u);have hfr2:=Z.frozen j;have amA:=Z.cell (i:=j) (z:=0) (by rw[lC (by rw[dF,b.out];exact az _),dF,b.out,l9,sj,if_pos om]))
    go_roundw
    case rel=>
     have hk:=(Y.out.at (w':=u)).aF j V6;rw[show n-j=(n-(j+1))+1 from om,uo,yA _ _ (by rw[dF,b.out];exact az _),dF,b.out,l9,yC]at hk;exact⟨j+1,om,by go_num,by rw[Q.out,gV,fe,lG,D.out,jX];exact hk,R,⟨(aL w u).setCell (p:=⟨w.heap.size,j,none⟩) (az _) _⟩⟩
    case measure=>simp[intOf];omega
   ·have L:E=X:=by rw[<-hE.out,y.out,if_neg l]
    obtain rfl:V=[]:=by rw[<-hV.out,xS,hE.out,L,if_neg l]
    subst L;have b0:(E !=0)=true:=by simp[l]
    clear l
    go_wp2_with (go_at_call 73;refine(yV G D J).mono ?_;rintro e u ⟨rfl,_⟩)
    go_ret2;exact⟨none,0,rfl,aG.nil _ _ _,ai _ _⟩
  ·obtain rfl:j=n:=om;have l:mi (aJ ss)=0:=by rw[<-U.out,kL (by rw[<-M.out];exact az _)];rfl
   obtain rfl:E=0:=by rw[<-hE.out,l]
   have hvv:V=(aJ ss).map bJ:=by rw[<-hV.out,xS,if_pos l]
   have S:Own wr w.heap.size 3 V:=by rw[hvv];rw[l9,dB (by rw[<-M.out];exact az _)]at r;simpa using r
   have F:Hid (V.length=j):=ae (by rw[hvv,dF,<-M.out]);clear l hvv r
   go_wp2_with fail
   go_ret2;exact⟨some ⟨w.heap.size,0,none⟩,j,by rw[F.out];rfl,by have:=aG.sZ S (az _) (by rw[F.out];omega);rwa[F.out]at this,hp⟩
end
end
def Gt(N:aI):List Int->List Int->Prop
 |_,[]=>True
 |D,id::r=>mR N D id=0/\Gt N (D++[id]) r
section
variable{N:aI}{L L':List (List Int)}{D r:List Int}{id:Int}
theorem aa3:∀(f:Nat) (D:List Int),∃r,tT N f D=D++r/\Gt N D r
 |0,D=>⟨[],by simp[tT],bO⟩
 |f+1,D=>by
  rcases h:qL N D with _|⟨id,t⟩
  ·exact⟨[],by rw[aaI h];simp,bO⟩
  ·obtain⟨r,b,e⟩:=aa3 f (D++[id]);exact⟨id::r,by rw[aaL h,b];simp,(Eh h).2.2,e⟩
theorem TC{v:Int}(h:mR N D v=0):∀z∈bG N v,z=0\/z∈D:=fun z e=>by
 have:=Lv.1 h z e;by_cases b:z=0
 ·exact .inl b
 ·right;simpa[b]using this
theorem getD_set_ne{x:List Int}{i j:Nat}(h:i≠j):(L.set i x).getD j []=L.getD j []:=by
 rw[aQ,nQ,if_neg h,<-aQ]
theorem NY:∀(r:List Int) (L L':List (List Int)),jO N r L=(0,L')->∀q:Nat,(∀id∈r,id.toNat≠q)->L'.getD q []=L.getD q []
 |[],L,L',h,q,_=>by
  rw[jO]at h;rw[(nD h).2]
 |id::r,L,L',h,q,hq=>by
  rw[jO]at h
  split at h
  ·rw[(nD h).2]
  ·split at h
   ·rw[NY r _ L' h q fun x b=>hq x (fI _ b),getD_set_ne (hq id dN)]
   ·exact absurd (nD h).1 (by assumption)
theorem aa4:∀(r D:List Int) (L L':List (List Int)),jO N r L=(0,L')->(D++r).Nodup->(∀x∈D++r,x∈N.ids)->Gt N D r->L.length=N.nodes.length+1->
  ∀id∈r,∀v,N.nodes[(id-1).toNat]?=some v->iw v.o v.P (iO v L')=0/\L'.getD id.toNat []=dZ v.o v.P (iO v L')
 |[],_,_,_,_,_,_,_,_,_,h,_,_=>absurd h au
 |x::r,D,L,L',h,C,hi,hd,K,id,hid,v,hv=>by
  have b:((D++[x])++r).Nodup:=by simpa using C
  have E:∀y∈(D++[x])++r,y∈N.ids:=fun y l=>hi y (by simpa using l);have S:=dR.1 (hi x au);rw[jO]at h
  split at h
  ·rename_i F;rw[Pt]at F;omega
  ·rename_i u hu
   split at h
   ·rename_i M;rcases dz.1 hid with rfl|hid
    ·rw[hu]at hv;obtain rfl:=eP hv;have G:∀y∈r,y.toNat≠id.toNat:=fun y l e=>by
      have:=dR.1 (hi y (by simp[l]));have m:y=id:=om;rw[Bv]at b;exact b.2.2 id au y l m.symm
     have O:iO u L'=iO u L:=by
      unfold iO;refine oZ fun z Q=>?_;have I:z∈bG N id:=by rw[bG,hu];exact Q
      have B:=TC hd.1 z I;have hq:∀y∈r,y.toNat≠z.toNat:=fun y l e=>by
       have R:=dR.1 (hi y (by simp[l]));rcases B with rfl|j
       ·simp at e;omega
       ·have J:=dR.1 (hi z (by simp[j]));have m:y=z:=om;rw[Bv]at b;exact b.2.2 z (by simp[j]) y l m.symm
      rw[NY r _ L' h z.toNat hq,getD_set_ne fun e=>?_];rcases B with rfl|j
      ·simp at e;omega
      ·have J:=dR.1 (hi z (by simp[j]));have m:id=z:=om;rw[Bv]at C;exact C.2.2 z j id au m.symm
     rw[O];refine⟨M,?_⟩;rw[NY r _ L' h id.toNat G,aQ,nQ,if_pos rfl,if_pos om];rfl
    ·exact aa4 r (D++[x]) _ L' h b E hd.2 (by rw[jQ];exact K) id hid v hv
   ·exact absurd (nD h).1 (by assumption)
theorem aa5:∀(r:List Int) (L L':List (List Int)),jO N r L=(0,L')->L'.length=L.length
 |[],L,L',h=>by
  rw[jO]at h;rw[(nD h).2]
 |id::r,L,L',h=>by
  rw[jO]at h
  split at h
  ·rw[(nD h).2]
  ·split at h
   ·rw[aa5 r _ L' h,jQ]
   ·exact absurd (nD h).1 (by assumption)
theorem amB(h:qi N.nodes.length N.nodes=0):N.iR:=fun v hv id hid=>by
 have:=Tp h v hv;unfold zx at this
 split at this
 ·split at this
  ·rename_i h;have:=fK.1 h id hid;simpa using this
  ·omega
 ·omega
theorem aa6{q:Nat}{x:List Int}(h:q<L.length)(e:L.getD q []=x):L[q]?=some x:=by
 rw[aQ,aW h]at e;rw[aW h];exact eD some e
theorem aa7(h:ll N D)(m:D.length=N.nodes.length){v:Int}(hv:v∈N.ids):v∈D:=by
 by_cases hm:v∈D
 ·exact hm
 ·exfalso;have u:=S9 (L:=N.ids.erase v) h.nd fun x b=>(List.mem_erase_of_ne (fun e:x=v=>hm (e▸b))).2 (h.ids x b);have j:=WH hv;have l:=WM hv;rw[Eg]at j l;omega
structure dX(N:aI)(O:List Int)(L:List (List Int))(l:Nat):Prop where
 ord:iB N=O
 lay:jO N O (qc N)=(0,L)
 len:L.length=N.nodes.length+1
 zz:O.length=N.nodes.length
 lV:ll N O
 dep:Gt N [] O
 iH:iH N=l
 xV:1<=l
 vk:l<=N.nodes.length
 iR:N.iR
 inp:aU N.inp=true
 node:∀(i:Nat) (v:dJ),N.nodes[i]?=some v->iw v.o v.P (iO v L)=0/\L[i+1]?=some (dZ v.o v.P (iO v L))
 zero:L[0]?=some N.inp
theorem look_ok(h:bU N=0):∃(O:List Int) (L:List (List Int)) (l:Nat),gZ N=(O,L,(l:Int))/\dX N O L l/\N.nodes.length<=512/\bJ (L.getD l [])=1:=by
 have hV:gZ N=(iB N,(jO N (iB N) (qc N)).2,iH N):=by rw[gZ,if_pos h]
 unfold bU at h
 split at h
 ·rename_i hm
  split at h
  ·rename_i hr
   split at h
   ·rename_i J;unfold Ei at h
    split at h
    ·rename_i I
     split at h
     ·rename_i j
      split at h
      ·rename_i hb
       split at h
       ·rename_i B;obtain⟨q,hq,C⟩:=aaX (N:=N);obtain⟨LE,E,hL⟩:∃a b,jO N (iB N) (qc N)=(a,b):=⟨_,_,rfl⟩;rw[hL]at j hV;obtain rfl:LE=0:=j;have e:ll N (iB N):=NU _ _ ll.nil;obtain⟨r,F,G⟩:=aa3 (N:=N) N.nodes.length [];have m:Gt N [] (iB N):=by rw[show iB N=r from by rw[iB,F];rfl];exact G
        have y:E.length=N.nodes.length+1:=by rw[aa5 _ _ _ hL];simp[qc]
        have u:=aa4 (iB N) [] (qc N) E hL (by simpa using e.nd) (fun x K=>e.ids x (by simpa using K)) m (by simp[qc]);have M:iH N≠0:=by
         unfold zl at hb;simp only[dm,dU]at hb;exact hb.2
        refine⟨iB N,E,q,by rw[hV,hq],⟨rfl,hL,y,I,e,m,hq,om,C,amB J,hr,fun i v hv=>?_,?_⟩,hm.2,?_⟩
        ·have hi:=(aY.1 hv).1;obtain⟨P,z⟩:=u ((i:Int)+1) (aa7 e I (dR.2 om)) v (by rw[show((i:Int)+1-1).toNat=i from om];exact hv);rw[show((i:Int)+1).toNat=i+1 from om]at z;exact⟨P,aa6 om z⟩
        ·refine aa6 om ?_;rw[NY _ _ _ hL 0 fun id hid=>by have:=dR.1 (e.ids id hid);omega];rfl
        ·have z:=B.2;rw[NT,hL,hq]at z;simpa using z
       ·omega
      ·omega
     ·exact absurd h (by assumption)
    ·omega
   ·exact absurd h (by assumption)
  ·omega
 ·omega
end
section
set_option linter.unusedVariables false
abbrev T0:TV:=([],[])
def jy(vals:List TV)(ins:List Int):List TV:=ins.map fun z=>vals.getD z.toNat T0
def gJ(N:aI)(k:Nat):Nat:=((N.nodes.take k).flatMap (·.P)).length
def oH(N:aI)(P:List TV)(k:Nat)(v:dJ):List TV:=(P.drop (gJ N k)).take v.P.length
structure rJ(N:aI)(P:List TV)(x:TV):Prop where
 ps:P.map (·.1)=iU N
 pok:∀t∈P,TV.ok t
 xs:x.1=N.inp
 Cq:TV.ok x
 k6:∀v∈N.nodes,aR v.o.k
 kk:∀v∈N.nodes,gF v.o
noncomputable def wI(N:aI)(P vals:List TV)(k:Nat)(v:dJ):TV:=(dZ v.o v.P ((jy vals v.ins).map (·.1)),xP v.o (oH N P k v) (jy vals v.ins))
noncomputable def TD(N:aI)(P vals:List TV)(id:Int):List TV:=
 match N.nodes[(id-1).toNat]? with
 |none=>vals
 |some v=>vals.set id.toNat (wI N P vals (id-1).toNat v)
noncomputable def NZ(N:aI)(P:List TV)(vals:List TV)(O:List Int):List TV:=O.foldl (TD N P) vals
def TG(N:aI)(x:TV):List TV:=x::List.replicate N.nodes.length T0
structure rM(N:aI)(L:List (List Int))(P:List TV)(x:TV)(D:List Int)(vals:List TV):Prop where
 len:vals.length=N.nodes.length+1
 zero:vals.getD 0 T0=x
 sh:∀id∈D,(vals.getD id.toNat T0).1=L.getD id.toNat []/\TV.ok (vals.getD id.toNat T0)
 eq:∀id∈D,∀v,N.nodes[(id-1).toNat]?=some v->vals.getD id.toNat T0=wI N P vals (id-1).toNat v
section
variable{N:aI}{O D:List Int}{L:List (List Int)}{l:Nat}{P vals:List TV}{x:TV}
theorem vo{L:List TV}{i j:Nat}{t:TV}(h:i<L.length):(L.set i t).getD j T0=if i=j then t else L.getD j T0:=by
 by_cases e:i=j
 ·subst e;rw[if_pos rfl,aQ,qX h];rfl
 ·rw[if_neg e,aQ,Bp e,<-aQ]
theorem amD{nodes:List dJ}{k:Nat}{v:dJ}(h:nodes[k]?=some v):((nodes.flatMap (·.P)).drop ((nodes.take k).flatMap (·.P)).length).take v.P.length=v.P:=by
 obtain⟨b,hv⟩:=aY.1 h;have e:nodes=nodes.take k++(v::nodes.drop (k+1)):=by rw[<-hv,<-jE b,iX]
 have j:nodes.flatMap (·.P)=(nodes.take k).flatMap (·.P)++(v.P++(nodes.drop (k+1)).flatMap (·.P)):=by
  conv=>lhs;rw[e]
  rw[Bq,sG]
 rw[j,Db rfl,qz rfl]
theorem rJ.par(h:rJ N P x){k:Nat}{v:dJ}(hv:N.nodes[k]?=some v):(oH N P k v).map (·.1)=v.P/\∀t∈oH N P k v,TV.ok t:=by
 refine⟨?_,fun t ht=>h.pok t (jo (gU ht))⟩;unfold oH;rw[yJ,Dh,h.ps];exact amD hv
theorem dX.at(h:dX N O L l){id:Int}(hid:id∈N.ids):∃v,N.nodes[(id-1).toNat]?=some v/\iw v.o v.P (iO v L)=0/\L.getD id.toNat []=dZ v.o v.P (iO v L)/\bG N id=v.ins/\v∈N.nodes:=by
 have hi:=dR.1 hid;have b:(id-1).toNat<N.nodes.length:=om;have hv:=aW b;obtain⟨e,j⟩:=h.node _ _ hv;refine⟨_,hv,e,?_,by rw[bG,hv];rfl,uA b⟩;rw[aQ,show id.toNat=(id-1).toNat+1 from om,j];rfl
theorem dX.mem(h:dX N O L l){id:Int}:id∈O↔id∈N.ids:=⟨fun hm=>h.lV.ids id hm,fun hm=>aa7 h.lV h.zz hm⟩
theorem TH:∀(a D r:List Int) (id:Int),Gt N D (a++id::r)->mR N (D++a) id=0
 |[],D,r,id,h=>by rw[oV];exact h.1
 |x::a,D,r,id,h=>by
  have:=TH a (D++[x]) r id h.2;simpa using this
theorem dX.JA(h:dX N O L l){j:Nat}{id:Int}(m:O[j]?=some id):∀z∈bG N id,z=0\/z∈O.take j:=by
 obtain⟨b,r⟩:=aY.1 m;have e:O=O.take j++id::O.drop (j+1):=by rw[<-r,<-jE b,iX]
 have:=h.dep;rw[e]at this;have:=TH _ _ _ _ this;rw[Bo]at this;exact TC this
theorem dX.amE(h:dX N O L l){j:Nat}{id:Int}(m:O[j]?=some id):id∉O.take j:=by
 obtain⟨b,r⟩:=aY.1 m;have e:O=O.take j++id::O.drop (j+1):=by rw[<-r,<-jE b,iX]
 have:=h.lV.nd;rw[e,Bv]at this;exact fun hm=>this.2.2 id hm id dN rfl
theorem dX.shx(h:dX N O L l):L.getD 0 []=N.inp:=by rw[aQ,h.zero];rfl
theorem rM.pick(hN:dX N O L l)(hF:rJ N P x)(h:rM N L P x D vals){v:dJ}(hd:∀z∈v.ins,z=0\/z∈D):(jy vals v.ins).map (·.1)=iO v L/\∀t∈jy vals v.ins,TV.ok t:=by
 refine⟨?_,fun t ht=>?_⟩
 ·unfold jy iO;rw[Fh];refine oZ fun z b=>?_;rcases hd z b with rfl|b
  ·show(vals.getD 0 T0).1=_
   rw[h.zero,hF.xs];exact hN.shx.symm
  ·exact(h.sh z b).1
 ·obtain⟨z,b,rfl⟩:=dG.1 ht;rcases hd z b with rfl|b
  ·show TV.ok (vals.getD 0 T0)
   rw[h.zero];exact hF.Cq
  ·exact(h.sh z b).2
theorem rM.node(hN:dX N O L l)(hF:rJ N P x)(h:rM N L P x D vals){id:Int}(hid:id∈N.ids)(hd:∀z∈bG N id,z=0\/z∈D):
  ∃v,N.nodes[(id-1).toNat]?=some v/\v∈N.nodes/\bG N id=v.ins/\(jy vals v.ins).map (·.1)=iO v L/\(∀t∈jy vals v.ins,TV.ok t)/\(oH N P (id-1).toNat v).map (·.1)=v.P/\(∀t∈oH N P (id-1).toNat v,TV.ok t)/\
   iw v.o v.P (iO v L)=0/\wI N P vals (id-1).toNat v=(L.getD id.toNat [],xP v.o (oH N P (id-1).toNat v) (jy vals v.ins))/\TV.ok (wI N P vals (id-1).toNat v):=by
 obtain⟨v,hv,hE,hS,hi,hm⟩:=hN.at hid;rw[hi]at hd;obtain⟨b,j⟩:=h.pick hN hF hd;obtain⟨e,m⟩:=hF.par hv;refine⟨v,hv,hm,hi,b,j,e,m,hE,?_,?_⟩
 ·rw[wI,b,hS]
 ·have:=alz (o:=v.o) (ps:=oH N P (id-1).toNat v) (xs:=jy vals v.ins) (by rw[e,b];exact hE) (hF.kk v hm) m j (hF.k6 v hm);rw[e]at this;exact this
theorem rM.step(hN:dX N O L l)(hF:rJ N P x)(h:rM N L P x D vals)(B:∀y∈D,y∈N.ids/\∀z∈bG N y,z=0\/z∈D){id:Int}(hid:id∈N.ids)(C:id∉D)(hd:∀z∈bG N id,z=0\/z∈D):rM N L P x (D++[id]) (TD N P vals id):=by
 obtain⟨v,hv,hm,hi,I,J,K,M,hE,hS,E⟩:=h.node hN hF hid hd;have hr:=dR.1 hid;have j:id.toNat<vals.length:=by rw[h.len];omega
 have hg:∀z,z∈N.ids->z≠id->(vals.set id.toNat (wI N P vals (id-1).toNat v)).getD z.toNat T0=vals.getD z.toNat T0:=fun z m G=>by
  have:=dR.1 m;rw[vo j,if_neg om]
 have hp:∀ins:List Int,(∀z∈ins,z=0\/z∈D)->jy (vals.set id.toNat (wI N P vals (id-1).toNat v)) ins=jy vals ins:=fun ins r=>by
  refine oZ fun z m=>?_;rcases r z m with rfl|m
  ·rw[vo j,if_neg (by show¬id.toNat=0;omega)]
  ·exact hg z (B z m).1 fun e=>C (e▸m)
 have F:∀(k:Nat) (u:dJ),(∀z∈u.ins,z=0\/z∈D)->wI N P (vals.set id.toNat (wI N P vals (id-1).toNat v)) k u=wI N P vals k u:=fun k u hu=>by
  have:=hp u.ins hu;generalize vals.set id.toNat (wI N P vals (id-1).toNat v)=W at this⊢;unfold wI;rw[this]
 unfold TD;rw[hv];dsimp only;refine⟨by rw[jQ];exact h.len,?_,fun y b=>?_,fun y b u hu=>?_⟩
 ·rw[vo j,if_neg om];exact h.zero
 ·rcases dP.1 b with b|b
  ·rw[hg y (B y b).1 fun e=>C (e▸b)];exact h.sh y b
  ·rw[gm.1 b,vo j,if_pos rfl];exact⟨by rw[hS],E⟩
 ·rcases dP.1 b with b|b
  ·rw[hg y (B y b).1 fun e=>C (e▸b),F _ u (by have:=(B y b).2;rw[bG,hu]at this;exact this)];exact h.eq y b u hu
  ·have e:=gm.1 b;subst e;rw[hv]at hu;obtain rfl:=eP hu;rw[F _ v (by rw[hi]at hd;exact hd),vo j,if_pos rfl]
theorem aa9(hN:dX N O L l)(hF:rJ N P x):∀j,j<=O.length->rM N L P x (O.take j) (NZ N P (TG N x) (O.take j))
 |0,_=>by
  rw[jr];exact⟨by simp[NZ,TG],rfl,fun id h=>(mG h).elim,fun id h=>(mG h).elim⟩
 |j+1,hj=>by
  have u:=aa9 hN hF j om;have m:j<O.length:=om;have hO:=aW m;have e:O.take (j+1)=O.take j++[O[j]]:=by rw[vO,hO];rfl
  rw[e];have:=u.step hN hF (fun y r=>?_) (hN.lV.ids _ (aK hO)) (hN.amE hO) (hN.JA hO)
  ·unfold NZ at this⊢;rw[C9];exact this
  ·refine⟨hN.lV.ids _ (gU r),fun z B=>?_⟩;obtain⟨i,hi⟩:=jF r;rw[l7]at hi
   split at hi
   ·rcases hN.JA hi z B with b|b
    ·exact .inl b
    ·right;have:O.take i=(O.take j).take i:=by rw[kM,iY om]
     rw[this]at b;exact gU b
   ·cases hi
noncomputable def ed(N:aI)(P:List TV)(x:TV):List TV:=NZ N P (TG N x) (iB N)
theorem Cr(hN:dX N O L l)(hF:rJ N P x):rM N L P x O (ed N P x):=by
 have:=aa9 hN hF O.length (az _);rw[jq]at this;rw[ed,hN.ord];exact this
end
end
end Go.Proofs.YtmkjnlifimffkaaGreat
