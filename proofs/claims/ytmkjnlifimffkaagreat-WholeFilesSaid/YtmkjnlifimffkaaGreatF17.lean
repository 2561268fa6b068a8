/- Lemmas. -/
import Derived.Test.YtmkjnlifimffkaaGreatF16
import Derived.Test.YtmkjnlifimffkaaGreatF15
namespace Go.Proofs.YtmkjnlifimffkaaGreat
open Go.RowKit Tryz
set_option linter.all false
set_option maxRecDepth 100000
set_option maxHeartbeats 0
section
variable{P:Program}{ops:Array Oper}{a:Act}{Q:Exit->Act->World->Prop}{w':World}{A B C:Option Addr}{zs:List Int}{c d g j m:Nat}{ss:List Sp}
def vv{w:ay}{rest:List Oper}{o:Oper}(J:o.guard=none)(s x:Operand)(t:TypeId)
  (ho:o.op=.call {callee:=.builtin .append,args:= #[s,x],argTypes:= #[t,t]}) (E:TypeId) (ht:P.underlying t=some (.slice E)) (k bytes:Nat) (z:Value)
  (r:(P.info? E).map (λi=>(i.zero,i.size,i.bytes))=some (some z,k,bytes)) (K:z.cells.size=k) (U:0<k) (L:bytes<=1000)
  (B:Nat) (A:cD) (c n:Nat) (V:iP) (hs:a.eval s=.slice A n c) (F:aI w B E k A c n V) (M:Addr) (m c2:Nat) (news:iP) (hx:a.eval x=.slice (some M) m c2) (hl:news.length=m*k)
  (y:∀j u,news[j]?=some u->w.cell? (M.add j)=some u) (h1:∀u∈news,u.oneCell'=true) (X:n+m<=1000000000) (hB:B<=w)
  (h:∀C G w',aI w' B E k C G (n+m) (V++news)->cP A C w w'->wpList P ops Q rest (a.put o.dst (.slice C (n+m) G)) w'):
  wpList P ops Q (o::rest) a w:=by
 obtain⟨i,hi,I⟩:=bD.1 r;simp only[dL]at I;obtain⟨N,O,R⟩:=I;refine vU w J s x t ho B E i z k bytes ht hi N O R K U _ _ _ hs F M m c2 news hx hl y h1 (by unfold maxLen;omega) ?_ hB ?_
 .have:=pS (n+m) L;omega
 .intro v' w' l hg _ hn;have Y:∀C Z G,v'=.slice C Z G->cP A C w w':=λC Z G hv=>by
   subst hv;rw[b0,b0]at hn;refine⟨(aY 0 w).grown hg om (λk U=>aT _),hg.size,λb hb S=>hg.block b hb ?_,λUv e=>?_⟩
   .rw[b0];intro e;obtain⟨a0,T,rfl⟩:=bD.1 e.symm;exact S a0 T rfl
   .subst e;rcases hn with hn|hn
    .obtain⟨a0,h3,h4⟩:=bD.1 hn.symm;exact .inl ⟨a0,h3,h4.symm⟩
    .right;injection hn with hn
     exact dE hn.symm
  rcases l.2 with⟨hv,h0⟩|⟨g,cap,cur,hv,hBg,Cz,CC,LG,Xw,Xx⟩
  .have D:=Y none 0 0 hv;rw[hv]at l⊢;have:=h none 0 w' (by rw[h0]at l⊢;exact l) D;rwa[h0]at this
  .have D:=Y _ _ _ hv;rw[hv]at l⊢;exact h _ _ _ l D
def Rd.hD{w:ay}{X:cD}(h:Rd w X zs)(m:cP A B w w')(l:∀r bd,X=some r->A=some bd->bd.block≠r.block):Rd w' X zs:=by
 intro j z u;obtain⟨b,off,e,hb,y⟩:=h j z u;exact⟨b,off,e,bu hb m.size,(dY (m.off b hb λbd C=>l _ bd e C)).trans y⟩
structure jV(w:World)(B:Nat)(A:Option Addr)(c:Nat)(ss:List Sp):Prop where
 row:aI w B 25 1 A c ss.length (fP ss).toList
 el:∀x∈ss,Rd w x.A x.zs/\x.m=x.zs.length/\x.m<=x.c/\bV B x.A
 ne:∀x∈ss,∀ad bd,x.A=some ad->A=some bd->bd.block≠ad.block
 lt:∀x∈ss,∀ad,x.A=some ad->ad.block<w.1.size
def ZJ(w:ay)(L:fV)(e:Ending)(w':ay):Prop:=∃g b,e=.returned (.slice (some ⟨g,0,none⟩) L L.length)/\n5 w' g b/\Hx (aW b=L/\∀x∈b,∀j,x.A=some j->j.block<w'.1.size)/\w.1.size<=g/\aj w' w
def bS(N:aU):List (List Int):=N.nodes.flatMap (·.P)
section
variable{w:World}{n:Nat}{N:aU}
def Rc{x:Sp}(b:List Sp){n:Nat}(e:b=j)(h:j<n):(b++List.replicate (n-j) dj).set j x=(b++[x])++List.replicate (n-(j+1)) dj:=by
 rw[show n-j=(n-(j+1))+1 from om,kI,kH _ _ om,e,eB,jq];simp
def NB[a:du w B n ss](M:n<=1000000)(O:Hx (∀z∈aW ss,z.length<=1000000)):() 117 #[(B,n,c)] w (ZJ w (aW ss)):=by
 have V:=@bL;have D:=kz n M;have K:Hx (n=(aW ss).length):=ae (by rw[cj];exact a.len)
 go_in
 go_wp2_with fail
 refine aw (λv _ _=>?_);have r:n5 v w.1.size (List.replicate n dj):=n5.new (Bx.al (w:=v) (g:=w.1.size));clear D;go_loopw [11] (λi wr=>∃(j:Nat) (b:List Sp),j<=n/\i=.int .i64 j/\Hx (b=j/\aW b=(aW ss).take j/\∀x∈b,∀y,x.A=some y->y.block<wr.1.size)/\n5 wr w.1.size (b++List.replicate (n-j) dj)/\aj wr w) (λi _=>n-(intOf i).toNat)
 .exact⟨0,[],aT _,rfl,ae ⟨rfl,rfl,aG⟩,r,aK⟩
 ·
  clear r;obtain⟨j,b,X,rfl,l,hS,hp⟩:=hrel;by_cases C:j<n
  .obtain⟨Y,q0,Z,m1,c1,zs,rfl,ob,v0,P,l1,L⟩:=a.get C;have E:m1<=1000000:=by rw[P.len];exact O.o _ (aC L.o)
   have F:=ae (take_at L.o);have Q:Hx ((fP (b++List.replicate (n-j) dj))[j]?=some (.slice none 0 0)):=ae (by
    rw[hI (x:=dj)]
    .rfl
    .rw[ew (by rw[l.o.1];exact an _),l.o.1,eB,ix,ah om])
   go_wp2_with (go_at_call 103;refine(AP E).mono ?_;rintro e u ⟨R,rfl,G,oS,S⟩;have I:=hS.at (w':=u);have T:=(I.al.cell j).trans Q;have U:=I.al.frozen j)
   go_roundw
   ·
    have J:=hS.al.lt;have hx:=I.ax (x:=⟨some ⟨R,0,none⟩,zs.length,zs.length,zs⟩) j oS.rd rfl (an _) ⟨λy e=>by cases e;exact aO J G⟩;rw[Rc b l.o.1 C]at hx;refine⟨j+1,_,om,by go_num,ae ⟨by simp[l.o.1],?_,λx hx y e=>?_⟩,hx,⟨(a7 w u).setCell (p:=⟨w.1.size,j,none⟩) (an _) _⟩⟩
    .rw[F.o,<-l.o.2.1];simp[aW]
    .have:=S.st.size;rcases bJ.1 hx with hx|hx
     .have:=l.o.2.2 x hx y e;simp;omega
     .rw[cF.1 hx]at e;cases e;have:=oS.lt;simpa using this
   .simp[intOf];omega
  .obtain rfl:j=n:=om
   go_wp2_with fail
   go_ret;refine⟨w.1.size,b,by rw[<-K.o];rfl,by simpa using hS,ae ⟨by rw[l.o.2.1,bR (by rw[<-K.o];exact an _)],l.o.2.2⟩,an _,hp⟩
def jV.at(h:jV w d A c ss)[l:aF w w']:jV w' d A c ss:=
 ⟨h.row.at,λx b=>⟨(h.el x b).1.below l.st,(h.el x b).2⟩,h.ne,λx b j e=>bu (h.lt x b j e) l.st.size⟩
def jV.nil:jV w d none 0 []:=⟨wo w d _ 1,aG,aG,aG⟩
def jV.grow{r:List Sp}(h:jV w d A c ss)(hb:n5 w g r)(F:∀x∈r,∀b,x.A=some b->b.block<w.1.size)(hd:d<=g)(G:∀bd,A=some bd->bd.block<g)(z:cP A C w w')
  (hr:aI w' d 25 1 C j (ss++r).length (fP (ss++r)).toList):jV w' d C j (ss++r):=by
 have y:∀x∈ss++r,∀b,x.A=some b->b.block<w.1.size:=λx hx b e=>by
  rcases bJ.1 hx with hx|hx
  .exact h.lt x hx b e
  .exact F x hx b e
 have u:∀x∈ss++r,∀b bd,x.A=some b->A=some bd->bd.block≠b.block:=λx hx b bd e l=>by
  rcases bJ.1 hx with hx|hx
  .exact h.ne x hx b bd e l
  .have:=(hb.el x hx).2.2.2.o b e;have:=G bd l;omega
 refine⟨hr,λx hx=>?_,λx hx b bd e l=>?_,λx hx b e=>bu (y x hx b e) z.size⟩
 .rcases bJ.1 hx with ZK|ZK
  .obtain⟨D,E⟩:=h.el x ZK;exact⟨D.hD z λb bd e l=>u x hx b bd e l,E⟩
  .obtain⟨D,E,I,J⟩:=hb.el x ZK;exact⟨D.hD z λb bd e l=>u x hx b bd e l,E,I,J.less om⟩
 .rcases z.new bd l with⟨a0,K,L⟩|rG
  .rw[L];exact u x hx b a0 e K
  .have:=y x hx b e;omega
def Re:∀u∈(fP ss).toList,u.oneCell'=true:=λu hu=>by
 simp only[fP,List.toList_toArray,bC]at hu;obtain⟨x,_,rfl⟩:=hu;rfl
def Rf:(fP ss).toList.length=ss:=by simp[fP]
def FW{b:List Sp}:(fP (ss++b)).toList=(fP ss).toList++(fP b).toList:=by simp[fP]
def ZL(w:ay)(L:fV)(e:Ending)(w':ay):Prop:=∃A c ss,e=.returned (.slice A L c)/\jV w' w.1.size A c ss/\Hx (aW ss=L)/\aj w' w
def rp(h:N.fits)(k:Nat):((N.nodes.take k).flatMap (·.P)).length<=(N.nodes.take k).length*100000:=by
 have:∀l:List dV,(∀v∈l,v.P.length<=100000)->(l.flatMap (·.P)).length<=l.length*100000:=λl=>by
  induction l with
  |nil=>intro _;simp
  |cons v t b=>
   intro hv;rw[g8,a1,dm];have j:=hv v cm;have r:=b λx e=>hv x (dl _ e);omega
 exact this _ λv hv=>(h.2.2 v (cG hv)).2.2.1
def Bd[a:aQ w A n B m N](E:Hx N.fits)(hs:Hx N.small):() 68 #[.agg #[(A,n,c),(B,m,d)]] w (ZL w (bS N)):=by
 obtain⟨CB,CP,FB⟩:=ha;have Q:Hx (m=N.nodes):=a.len;have hm:m<=1000:=by rw[Q.o];exact hs.o.1
 go_in
 go_wp2_with fail
 refine aw (λv _ _=>?_);go_loopw [3,9] (λs i wr=>∃(k:Nat) (l:cD) (r:Nat) (ss:List Sp),k<=m/\i=.int .i64 k/\s=.slice l ss r/\jV wr w.1.size l r ss/\Hx (aW ss=(N.nodes.take k).flatMap (·.P))/\aj wr w) (λ_ i _=>m-(intOf i).toNat)
 .exact⟨0,none,0,[],aT _,rfl,rfl,jV.nil,ae rfl,aK⟩
 ·
  obtain⟨k,l,r,ss,hk,rfl,rfl,hS,F,hp⟩:=hrel;by_cases G:k<m
  .obtain⟨b0,q0,o,A1,n1,c1,I,ni,ci,ins,P,np,cp,ps,rfl,ob,⟨v0,v1,v2,v3,v4,v5,v6,v7,v8,v9⟩,s1,si,sp,l1,li,lp,ik,b⟩:=a.node G;have J:np<=100000:=by have:=(E.o.2.2 _ (aC b.o)).2.2.1;rw[cj]at this;rw[sp.len];exact this
   have K:Hx (∀z∈aW ps,z.length<=1000000):=ae λz T=>by have:=(E.o.2.2 _ (aC b.o)).2.2.2 z T;omega
   have L:Hx ((N.nodes.take (k+1)).flatMap (·.P)=aW ss++aW ps):=ae (by rw[take_at b.o,jr,F.o];simp);have U:ss.length<=100000000:=by
    have V:=rp E k;rw[<-F.o,cj]at V;have:(N.nodes.take k).length<=1000:=by have:=hs.o.1;simp;omega
    omega
   have X:(aW ps).length<=100000:=by rw[cj,<-sp.len];exact J
   go_wp2_with (first|(go_at_call 117;(with_reducible refine dO (λu0 _ _=>?_));(with_reducible refine(NB om K).mono ?_);rintro e u ⟨g,M,rfl,R,D,hg,pu⟩)|(at_builtin;refine vv rfl _ _ _ rfl 25 underlying82 1 24 () aq rfl ak ak w.1.size l r ss.length (fP ss).toList rfl (hS.at (w':=u)).row ⟨g,0,none⟩ _ _ (fP M).toList rfl (by rw[Rf,eG,<-cj,D.o.1]) (λj x Y=>by rw[bQ,bX,R.al.cell j];simpa using Y) Re om ai ?_;intro Z c3 w3 O y))
   go_roundw
   ·
    have C:(ss++M).length=ss+(aW ps).length:=by rw[a1,<-D.o.1,cj]
    have MN:wr.1.size<=g:=aO ai hg;refine⟨k+1,Z,c3,ss++M,om,by go_num,by rw[C],(hS.at (w':=u)).grow R D.o.2 (aO ai hg) (λbd e=>by have:=hS.row.lt bd e;omega) y (by rw[C,FW];exact O),ae (by rw[L.o,<-D.o.1];simp[aW]),⟨(a7 w u).trans (y.below (λad e=>hS.row.ge ad e) ai)⟩⟩
   .simp[intOf];omega
  .obtain rfl:k=m:=om;have S:Hx (aW ss=bS N):=ae (by rw[F.o,bR (by rw[<-Q.o];exact an _)];rfl)
   go_wp2_with fail
   go_ret;exact⟨l,r,ss,by rw[<-S.o,cj];rfl,hS,S,hp⟩
end
end
variable{zs:List Int}{w':World}{A B:Option Addr}{c d m:Nat}{ss:List Sp}{E z:Int}
section
def tP(zs:av)(z:Int):(zs++[z]).sum=zs.sum+z:=by simp
def px:∀{zs:av},(∀z∈zs,0<=z)->0<=zs.sum
 |[],_=>aG
 |z::t,h=>by
  have:=h z cm;have:=px (zs:=t) λx b=>h x (dl _ b);simp;omega
def DH(h:∀z∈zs,0<=z)(k:Nat):(zs.take k).sum<=zs.sum:=by
 have e:zs.sum=(zs.take k).sum+(zs.drop k).sum:=by rw[<-pY,de]
 have:=px (zs:=zs.drop k) λz b=>h z (dC b);omega
def FB(w:ay)(p z:Int)(hp:0<=p)(m:0<=z)(j:p<=1099511627776)(l:z<=1099511627776){b:Bool}(hb:Hx (decide (p+z<=1099511627776)=b)):
  () 78 #[z,.pointer w.1.size] (w.alloc (.cells #[p] 3)) λe w'=>e=.returned (.bool b)/\w.alloc (.cells #[.int .i64 (p+z)] 3)=w':=by
 go_in
 go_wp2
 go_ret;exact⟨bP hb,rfl⟩
def NC(w:ay)(zs:av)(e:Ending)(w':ay):Prop:=
 e=.returned (.bool (decide (zs.sum<=1099511627776)))/\∃p,w'=w.alloc (.cells #[.int .i64 p] 3)/\(zs.sum<=1099511627776->p=zs.sum)
def vw(A:cD)(c:Nat)(zs:av)(w:ay)(hs:zs.length<=1000000)(h:Rd w A zs)(j:Hx (∀z∈zs,0<=z/\z<=1099511627776)):
  () 76 #[.slice A zs c,.func (.func 78) #[] #[.pointer w.1.size]] (w.alloc (.cells #[au] 3)) (NC w zs):=by
 have I:=h.alloc (.cells #[au] 3)
 go_in
 go_wp2_with fail
 go_loopw [9] (λi wr=>∃k:Nat,k<=zs/\i=.int .i64 k/\(zs.take k).sum<=1099511627776/\wr=w.alloc (.cells #[.int .i64 (zs.take k).sum] 3)) (λi _=>zs.length-(intOf i).toNat)
 .exact⟨0,aT _,rfl,aG,rfl⟩
 ·
  obtain⟨k,L,rfl,m,rfl⟩:=hrel;have u:0<=(zs.take k).sum:=px λz r=>(j.o z (cG r)).1;by_cases C:k<zs
  .have E:=h.alloc (.cells #[.int .i64 (zs.take k).sum] 3);obtain⟨b,off,z,rfl,hb,M,r⟩:=h.get C;obtain⟨y,B⟩:=j.o z (aC r.o);have J:=E.all r.o;clear I E;by_cases l:(zs.take k).sum+z<=1099511627776
   .have D:Hx (decide ((zs.take k).sum+z<=1099511627776)=true):=ae (by simpa using l)
    go_wp2_with fail
    refine(FB w _ z u y m B D).mono ?_;rintro e w' ⟨rfl,rfl⟩
    go_wp2_with fail
    go_roundw
    .exact⟨k+1,om,by go_num,by rw[take_at r.o,tP];exact l,by rw[take_at r.o,tP]⟩
    .simp[intOf];omega
   .have D:Hx (decide ((zs.take k).sum+z<=1099511627776)=false):=ae (by simpa using l);have F:Hx (1099511627776<zs.sum):=ae (by
     have:=DH (λz r=>(j.o z r).1) (k+1);rw[take_at r.o,tP]at this;omega)
    go_wp2_with fail
    refine(FB w _ z u y m B D).mono ?_;rintro e w' ⟨rfl,rfl⟩
    go_wp2_with fail
    go_ret;exact⟨bP (by simpa using F.o),_,rfl,λK=>absurd K (by have:=F.o;omega)⟩
  .have G:Hx (zs.take k=zs):=bR om
   go_wp2_with fail
   go_ret;rw[G.o]at m;exact⟨bP (by simpa using m),_,rfl,λ_=>by rw[G.o]⟩
def uH(zs:av):Int:=if zs.all dN&&decide (zs.sum<=1099511627776)then zs.sum else 0
def sK(zs:av):Int:=if zs.all dN then(if zs.sum<=1099511627776 then 0 else 17)else 11
def er:List (List Int)->Int
 |[]=>0
 |z::t=>if cg z=0 then er t else cg z
def jE(L:fV):List Int:=if er L=0 then L.map bt else[]
def pA(zs:av):Int:=zs.foldl max 0
section
variable{w:World}{n:Nat}
def wC[a:Sl w A n zs](C:n<=1000000){V:Int}(hV:Hx (uH zs=V))(hE:Hx (sK zs=E)):() 31 #[(A,n,c)] w (aD w (.tuple #[V,E])):=by
 obtain⟨h,rfl⟩:=a;have r:=ae (iZ 77 dN lU (λ_ _=>rfl) A c zs w C h);rcases h1:zs.all dN with _|_
 .obtain rfl:V=0:=by rw[<-hV.o];simp[uH,h1]
  obtain rfl:E=11:=by rw[<-hE.o];simp[sK,h1]
  have l:=ae h1;clear h1
  go_in
  go_wp2_with fail
  refine r.o.mono ?_;rintro e w' ⟨rfl,rfl⟩;rw[l.o]
  go_wp2_with fail
  go_ret2;exact⟨rfl,⟨aY _ _⟩⟩
 .have l:=ae h1;have j:Hx (∀z∈zs,0<=z/\z<=1099511627776):=λz F=>by
   have a:=cZ.1 h1 z F;simpa[dN]using a
  have D:=ae (vw A c zs w C h j);by_cases b:zs.sum<=1099511627776
  .obtain rfl:V=zs.sum:=by rw[<-hV.o];simp[uH,h1,b]
   obtain rfl:E=0:=by rw[<-hE.o];simp[sK,h1,b]
   have u:Hx (decide (zs.sum<=1099511627776)=true):=ae (by simpa using b);have y:=ae b;clear h1 b
   go_in
   go_wp2_with fail
   refine r.o.mono ?_;rintro e w' ⟨rfl,rfl⟩;rw[l.o]
   go_wp2_with fail
   refine D.o.mono ?_;rintro e w' ⟨rfl,p,rfl,hp⟩;obtain rfl:=hp y;rw[u.o]
   go_wp2_with fail
   go_ret2;exact bq
  .obtain rfl:V=0:=by rw[<-hV.o];simp[uH,h1,b]
   obtain rfl:E=17:=by rw[<-hE.o];simp[sK,h1,b]
   have u:Hx (decide (zs.sum<=1099511627776)=false):=ae (by simpa using b);clear h1 b
   go_in
   go_wp2_with fail
   refine r.o.mono ?_;rintro e w' ⟨rfl,rfl⟩;rw[l.o]
   go_wp2_with fail
   refine D.o.mono ?_;rintro e w' ⟨rfl,p,rfl,hp⟩;rw[u.o]
   go_wp2_with fail
   go_ret2;exact bq
def I1:pA (zs++[z])=max (pA zs) z:=by simp[pA]
def VH[a:Sl w A n zs](C:n<=1000000){V:Int}(hV:Hx (pA zs=V)):() 38 #[(A,n,c)] w (aD w V):=by
 have r:Hx (n=zs):=a.len
 go_in
 go_wp2_with fail
 go_loop [3,8] (λs i=>∃k:Nat,k<=n/\i=.int .i64 k/\s=.int .i64 (pA (zs.take k))) (λ_ i=>n-(intOf i).toNat)
 .exact⟨0,aT _,rfl,rfl⟩
 ·
  obtain⟨k,D,rfl,rfl⟩:=hrel;by_cases e:k<n
  .obtain⟨b,q,z,rfl,ob,v0,u⟩:=a.get e;have j:Hx (pA (zs.take (k+1))=max (pA (zs.take k)) z):=ae (by rw[take_at u.o,I1]);obtain⟨M,l⟩:=lh (pA (zs.take k));rw[l]at j⊢;clear l
   go_wp2_with fail
   go_round
   .exact⟨k+1,om,by go_num,by rw[j.o];try rfl⟩
   .simp[intOf];omega
  .have y:Hx (pA (zs.take k)=V):=ae (by rw[bR (by rw[<-r.o];omega)];exact hV);rw[y.o]
   go_wp2_with fail
   go_ret;exact⟨rfl,⟨aY _ _⟩⟩
def ND[a:du w B n ss](hn:n<=1000000)(hz:Hx (∀z∈aW ss,z.length<=1000000)){V:av}(hE:Hx (er (aW ss)=E))(hV:Hx (jE (aW ss)=V)):() 29 #[(B,n,c)] w (sJ w E V):=by
 have CP:=@bL;have M:=jh n hn;have L:Hx (n=(aW ss).length):=ae (by rw[cj];exact a.len)
 go_in
 go_wp2_with fail
 obtain⟨v,hv⟩:=lg (w.alloc (.cells (ints (List.replicate n 0)) 3));have pv:aj v w:=hv▸aK;have l:Own v w.1.size 3 (((aW ss).take 0).map bt++List.replicate (n-0) 0):=by rw[hv];exact Own.new _ _ _
 rw[<-hv];clear M hv;go_loopw [14] (λi wr=>∃j:Nat,j<=n/\i=.int .i64 j/\Own wr w.1.size 3 (((aW ss).take j).map bt++List.replicate (n-j) 0)/\Hx (er ((aW ss).drop j)=er (aW ss))/\aj wr w) (λi _=>n-(intOf i).toNat)
 .exact⟨0,aT _,rfl,l,ae rfl,pv⟩
 ·
  clear l pv;obtain⟨j,hj,rfl,l,S,hp⟩:=hrel;by_cases N:j<n
  .obtain⟨b0,q0,A1,m1,c1,zs,rfl,ob,v0,s1,l1,O⟩:=a.get N;have F:m1<=1000000:=by rw[s1.len];exact hz.o _ (aC O.o)
   have r:Hx (er (aW ss)=if cg zs=0 then er ((aW ss).drop (j+1))else cg zs):=ae (by
    obtain⟨h1,h2⟩:=a5.1 O.o;rw[<-S.o,ei h1,h2];rfl)
   have P:=ae (take_at O.o);obtain⟨V6,G⟩:=lh (bt zs);obtain⟨T,y⟩:=lh (cg zs);have C:=ae G;have I:=ae y;have J:((aW ss).take j).length=j:=by rw[bB,<-L.o];omega
   have b:=ae J;rw[y]at r;clear G y J;by_cases e:T=0
   .subst e;have Q:Hx (er ((aW ss).drop (j+1))=er (aW ss)):=ae (by rw[r.o,ah rfl]);have U:=ae l;clear l
    go_wp2_with (go_at_call 73;refine mv (hH F C I) λu _=>?_;have X:=U.o.at (w':=u);have Y:=X.frozen j;have Z:=X.cell (i:=j) (z:=0) (by rw[ew (by rw[br,b.o];exact an _),br,b.o,eB,ix,ah om]))
    go_roundw
    ·
     have hk:=(U.o.at (w':=u)).ax j V6;rw[show n-j=(n-(j+1))+1 from om,kI,kH _ _ (by rw[br,b.o];exact an _),br,b.o,eB,jq]at hk;exact⟨j+1,om,by go_num,by rw[P.o,cJ,dX,jZ,C.o,dg];exact hk,Q,⟨(a7 w u).setCell (p:=⟨w.1.size,j,none⟩) (an _) _⟩⟩
    .simp[intOf];omega
   .have K:E=T:=by rw[<-hE.o,r.o,ag e]
    obtain rfl:V=[]:=by rw[<-hV.o,jE,hE.o,K,ag e]
    subst K;have b0:(E !=0)=true:=by simp[e]
    clear e
    go_wp2_with (go_at_call 73;refine mv (hH F C I) λu _=>?_)
    go_ret2;exact⟨none,0,rfl,az.nil _ _ _,aK⟩
  .obtain rfl:j=n:=om;have e:er (aW ss)=0:=by rw[<-S.o,ey (by rw[<-L.o];exact an _)];rfl
   obtain rfl:E=0:=by rw[<-hE.o,e]
   have rq:V=(aW ss).map bt:=by rw[<-hV.o,jE,ah e]
   have R:Own wr w.1.size 3 V:=by rw[rq];rw[eB,bR (by rw[<-L.o];exact an _)]at l;simpa using l
   have D:Hx (V=j):=ae (by rw[rq,br,<-L.o]);clear e rq l
   go_wp2_with fail
   go_ret2;exact⟨some ⟨w.1.size,0,none⟩,j,by rw[D.o];rfl,by have:=az.gz R (an _) (by rw[D.o];omega);rwa[D.o]at this,hp⟩
end
end
variable{L:List (List Int)}{D:List Int}{id:Int}{i j q:Nat}
def Be(N:aU):List Int->List Int->Prop
 |_,[]=>True
 |D,id::r=>im N D id=0/\Be N (D++[id]) r
section
variable{N:aU}{L':List (List Int)}{r:List Int}
def Bf:∀(f:Nat) (D:av),∃r,l8 N f D=D++r/\Be N D r
 |0,D=>⟨[],by simp[l8],bA⟩
 |f+1,D=>by
  rcases h:fd N D with _|⟨id,t⟩
  .exact⟨[],by rw[xX h];simp,bA⟩
  .obtain⟨r,b,e⟩:=Bf f (D++[id]);exact⟨id::r,by rw[FP h,b];simp,(h2 h).2.2,e⟩
def x9{v:Int}(h:im N D v=0):∀z∈bG N v,z=0\/z∈D:=λz e=>by
 have:=vV.1 h z e;by_cases b:z=0
 .exact .inl b
 .right;simpa[b]using this
def getD_set_ne{x:av}(h:i≠j):(L.set i x).getD j []=L.getD j []:=by
 rw[aX,eZ,ag h,<-aX]
def sL:∀(r:av) (L L':fV),fE N r L=(0,L')->∀q:Nat,(∀id∈r,id.toNat≠q)->L'.getD q []=L.getD q []
 |[],L,L',h,q,_=>by
  rw[fE]at h;rw[(en h).2]
 |id::r,L,L',h,q,hq=>by
  rw[fE]at h
  split at h
  .rw[(en h).2]
  .split at h
   .rw[sL r _ L' h q λx b=>hq x (dl _ b),getD_set_ne (hq id cm)]
   .exact absurd (en h).1 (by assumption)
def K6:∀(r D:av) (L L':fV),fE N r L=(0,L')->(D++r).Nodup->(∀x∈D++r,x∈N.ids)->Be N D r->L=N.nodes.length+1->
  ∀id∈r,∀v,N.nodes[(id-1).toNat]?=some v->da v.o v.P (eD v L')=0/\L'.getD id.toNat []=cy v.o v.P (eD v L')
 |[],_,_,_,_,_,_,_,_,_,h,_,_=>absurd h aG
 |x::r,D,L,L',h,B,hi,hd,J,id,hid,v,hv=>by
  have b:((D++[x])++r).Nodup:=by simpa using B
  have C:∀y∈(D++[x])++r,y∈N.ids:=λy j=>hi y (by simpa using j);have R:=bn.1 (hi x aG);rw[fE]at h
  split at h
  .rename_i E;rw[B8]at E;omega
  .rename_i u hu
   split at h
   .rename_i K;rcases bT.1 hid with rfl|hid
    .rw[hu]at hv;obtain rfl:=cn hv;have F:∀y∈r,y.toNat≠id.toNat:=λy j e=>by
      have:=bn.1 (hi y (by simp[j]));have l:y=id:=om;rw[pW]at b;exact b.2.2 id aG y j l.symm
     have M:eD u L'=eD u L:=by
      unfold eD;refine fj λz O=>?_;have G:z∈bG N id:=by rw[bG,hu];exact O
      have m:=x9 hd.1 z G;have hq:∀y∈r,y.toNat≠z.toNat:=λy j e=>by
       have Q:=bn.1 (hi y (by simp[j]));rcases m with rfl|Rg
       .simp at e;omega
       .have I:=bn.1 (hi z (by simp[Rg]));have l:y=z:=om;rw[pW]at b;exact b.2.2 z (by simp[Rg]) y j l.symm
      rw[sL r _ L' h z.toNat hq,getD_set_ne λe=>?_];rcases m with rfl|Rg
      .simp at e;omega
      .have I:=bn.1 (hi z (by simp[Rg]));have l:id=z:=om;rw[pW]at B;exact B.2.2 z Rg id aG l.symm
     rw[M];refine⟨K,?_⟩;rw[sL r _ L' h id.toNat F,aX,eZ,ah rfl,ah om];rfl
    .exact K6 r (D++[x]) _ L' h b C hd.2 (by rw[ej];exact J) id hid v hv
   .exact absurd (en h).1 (by assumption)
def Bg:∀(r:av) (L L':fV),fE N r L=(0,L')->L'.length=L.length
 |[],L,L',h=>by
  rw[fE]at h;rw[(en h).2]
 |id::r,L,L',h=>by
  rw[fE]at h
  split at h
  .rw[(en h).2]
  .split at h
   .rw[Bg r _ L' h,ej]
   .exact absurd (en h).1 (by assumption)
def Rh(h:jU N.nodes.length N.nodes=0):N.jS:=λv hv id hid=>by
 have:=tO h v hv;unfold Ao at this
 split at this
 .split at this
  .rename_i h;have:=cZ.1 h id hid;simpa using this
  .omega
 .omega
def uI{x:av}(h:q<L)(e:L.getD q []=x):L[q]?=some x:=by
 rw[aX,bc h]at e;rw[bc h];exact cv some e
def ya(h:eE N D)(m:D.length=N.nodes.length){v:Int}(hv:v∈N.ids):v∈D:=by
 by_cases hm:v∈D
 .exact hm
 .exfalso;have u:=tK (L:=N.ids.erase v) h.nd λx b=>(List.mem_erase_of_ne (λe:x=v=>hm (e▸b))).2 (h.ids x b);have j:=Kk hv;have l:=Ko hv;rw[k7]at j l;omega
structure db(N:aU)(O:List Int)(L:List (List Int))(l:Nat):Prop where
 ord:d7 N=O
 lay:fE N O (jT N)=(0,L)
 len:L=N.nodes.length+1
 sM:O.length=N.nodes.length
 j7:eE N O
 dep:Be N [] O
 e1:e1 N=l
 n9:1<=l
 mB:l<=N.nodes
 jS:N.jS
 dd:aA N.dd=true
 node:∀(i:Nat) (v:dV),N.nodes[i]?=some v->da v.o v.P (eD v L)=0/\L[i+1]?=some (cy v.o v.P (eD v L))
 zero:L[0]?=some N.dd
def look_ok(h:a6 N=0):∃(O:av) (L:fV) (l:Nat),dh N=(O,L,(l:Int))/\db N O L l/\N.nodes.length<=512/\bt (L.getD l [])=1:=by
 have hV:dh N=(d7 N,(fE N (d7 N) (jT N)).2,e1 N):=by rw[dh,ah h]
 unfold a6 at h
 split at h
 .rename_i hm
  split at h
  .rename_i hr
   split at h
   .rename_i J;unfold qa at h
    split at h
    .rename_i I
     split at h
     .rename_i j
      split at h
      .rename_i hb
       split at h
       .rename_i B;obtain⟨q,hq,C⟩:=FU (N:=N);obtain⟨LE,E,hL⟩:∃a b,fE N (d7 N) (jT N)=(a,b):=⟨_,_,rfl⟩;rw[hL]at j hV;obtain rfl:LE=0:=j;have e:eE N (d7 N):=n7 _ _ eE.nil;obtain⟨r,F,G⟩:=Bf (N:=N) N.nodes.length [];have m:Be N [] (d7 N):=by rw[show d7 N=r from by rw[d7,F];rfl];exact G
        have y:E=N.nodes.length+1:=by rw[Bg _ _ _ hL];simp[jT]
        have u:=K6 (d7 N) [] (jT N) E hL (by simpa using e.nd) (λx K=>e.ids x (by simpa using K)) m (by simp[jT]);have M:e1 N≠0:=by
         unfold pu at hb;simp only[bW,cu]at hb;exact hb.2
        refine⟨d7 N,E,q,by rw[hV,hq],⟨rfl,hL,y,I,e,m,hq,om,C,Rh J,hr,λi v hv=>?_,?_⟩,hm.2,?_⟩
        .have hi:=(a5.1 hv).1;obtain⟨P,z⟩:=u ((i:Int)+1) (ya e I (bn.2 om)) v (by rw[show((i:Int)+1-1).toNat=i from om];exact hv);rw[show((i:Int)+1).toNat=i+1 from om]at z;exact⟨P,uI om z⟩
        .refine uI om ?_;rw[sL _ _ _ hL 0 λid hid=>by have:=bn.1 (e.ids id hid);omega];rfl
        .have z:=B.2;rw[wA,hL,hq]at z;simpa using z
       .omega
      .omega
     .exact absurd h (by assumption)
    .omega
   .exact absurd h (by assumption)
  .omega
 .omega
end
variable{O:List Int}{l:Nat}{vals:List TV}
section
set_option linter.unusedVariables false
abbrev T0:TV:=([],[])
def dQ(b:List TV)(ins:List Int):List TV:=ins.map λz=>b.getD z.toNat T0
def dH(N:aU)(k:Nat):Nat:=((N.nodes.take k).flatMap (·.P)).length
def iT(N:aU)(P:List TV)(k:Nat)(v:dV):List TV:=(P.drop (dH N k)).take v.P.length
structure la(N:aU)(P:List TV)(x:TV):Prop where
 ps:P.map (·.1)=bS N
 pok:∀t∈P,TV.ok t
 xs:x.1=N.dd
 FX:TV.ok x
 k6:∀v∈N.nodes,bo v.o.k
 kk:∀v∈N.nodes,f7 v.o
noncomputable def vx(N:aU)(P b:List TV)(k:Nat)(v:dV):TV:=(cy v.o v.P ((dQ b v.ins).map (·.1)),xL v.o (iT N P k v) (dQ b v.ins))
noncomputable def ZM(N:aU)(P b:List TV)(id:Int):List TV:=
 match N.nodes[(id-1).toNat]? with
 |none=>b
 |some v=>b.set id.toNat (vx N P b (id-1).toNat v)
noncomputable def VI(N:aU)(P:List TV)(b:List TV)(O:List Int):List TV:=O.foldl (ZM N P) b
def ZN(N:aU)(x:TV):List TV:=x::List.replicate N.nodes.length T0
structure rr(N:aU)(L:List (List Int))(P:List TV)(x:TV)(D:List Int)(vals:List TV):Prop where
 len:vals.length=N.nodes.length+1
 zero:vals.getD 0 T0=x
 sh:∀id∈D,(vals.getD id.toNat T0).1=L.getD id.toNat []/\TV.ok (vals.getD id.toNat T0)
 eq:∀id∈D,∀v,N.nodes[(id-1).toNat]?=some v->vals.getD id.toNat T0=vx N P vals (id-1).toNat v
section
variable{N:aU}{P:List TV}{x:TV}
def dR{L:List TV}{t:TV}(h:i<L.length):(L.set i t).getD j T0=if i=j then t else L.getD j T0:=by
 by_cases e:i=j
 .subst e;rw[ah rfl,aX,h0 h];rfl
 .rw[ag e,aX,lJ e,<-aX]
def I2{nodes:List dV}{k:Nat}{v:dV}(h:nodes[k]?=some v):((nodes.flatMap (·.P)).drop ((nodes.take k).flatMap (·.P)).length).take v.P.length=v.P:=by
 obtain⟨b,hv⟩:=a5.1 h;have e:nodes=nodes.take k++(v::nodes.drop (k+1)):=by rw[<-hv,<-ei b,de]
 have j:nodes.flatMap (·.P)=(nodes.take k).flatMap (·.P)++(v.P++(nodes.drop (k+1)).flatMap (·.P)):=by
  conv=>lhs;rw[e]
  rw[jr,g8]
 rw[j,nt rfl,e9 rfl]
def la.par(h:la N P x){k:Nat}{v:dV}(hv:N.nodes[k]?=some v):(iT N P k v).map (·.1)=v.P/\∀t∈iT N P k v,TV.ok t:=by
 refine⟨?_,λt ht=>h.pok t (dC (cG ht))⟩;unfold iT;rw[jw,nz,h.ps];exact I2 hv
def db.at(h:db N O L l)(hid:id∈N.ids):∃v,N.nodes[(id-1).toNat]?=some v/\da v.o v.P (eD v L)=0/\L.getD id.toNat []=cy v.o v.P (eD v L)/\bG N id=v.ins/\v∈N.nodes:=by
 have hi:=bn.1 hid;have b:(id-1).toNat<N.nodes.length:=om;have hv:=bc b;obtain⟨e,j⟩:=h.node _ _ hv;refine⟨_,hv,e,?_,by rw[bG,hv];rfl,nb b⟩;rw[aX,show id.toNat=(id-1).toNat+1 from om,j];rfl
def db.mem(h:db N O L l):id∈O↔id∈N.ids:=⟨λhm=>h.j7.ids id hm,λhm=>ya h.j7 h.sM hm⟩
def yb:∀(a D r:List Int) (id:Int),Be N D (a++id::r)->im N (D++a) id=0
 |[],D,r,id,h=>by rw[fG];exact h.1
 |x::a,D,r,id,h=>by
  have:=yb a (D++[x]) r id h.2;simpa using this
def db.sN(h:db N O L l)(m:O[j]?=some id):∀z∈bG N id,z=0\/z∈O.take j:=by
 obtain⟨b,r⟩:=a5.1 m;have e:O=O.take j++id::O.drop (j+1):=by rw[<-r,<-ei b,de]
 have:=h.dep;rw[e]at this;have:=yb _ _ _ _ this;rw[kj]at this;exact x9 this
def db.NE(h:db N O L l)(m:O[j]?=some id):id∉O.take j:=by
 obtain⟨b,r⟩:=a5.1 m;have e:O=O.take j++id::O.drop (j+1):=by rw[<-r,<-ei b,de]
 have:=h.j7.nd;rw[e,pW]at this;exact λhm=>this.2.2 id hm id cm rfl
def db.shx(h:db N O L l):L.getD 0 []=N.dd:=by rw[aX,h.zero];rfl
def rr.pick(hN:db N O L l)(hF:la N P x)(h:rr N L P x D vals){v:dV}(hd:∀z∈v.ins,z=0\/z∈D):(dQ vals v.ins).map (·.1)=eD v L/\∀t∈dQ vals v.ins,TV.ok t:=by
 refine⟨?_,λt ht=>?_⟩
 .unfold dQ eD;rw[p4];refine fj λz hz=>?_;rcases hd z hz with rfl|hz
  .show(vals.getD 0 T0).1=_
   rw[h.zero,hF.xs];exact hN.shx.symm
  .exact(h.sh z hz).1
 .obtain⟨z,hz,rfl⟩:=bC.1 ht;rcases hd z hz with rfl|hz
  .show TV.ok (vals.getD 0 T0)
   rw[h.zero];exact hF.FX
  .exact(h.sh z hz).2
def rr.node(hN:db N O L l)(hF:la N P x)(h:rr N L P x D vals)(hid:id∈N.ids)(hd:∀z∈bG N id,z=0\/z∈D):
  ∃v,N.nodes[(id-1).toNat]?=some v/\v∈N.nodes/\bG N id=v.ins/\(dQ vals v.ins).map (·.1)=eD v L/\(∀t∈dQ vals v.ins,TV.ok t)/\(iT N P (id-1).toNat v).map (·.1)=v.P/\(∀t∈iT N P (id-1).toNat v,TV.ok t)/\
   da v.o v.P (eD v L)=0/\vx N P vals (id-1).toNat v=(L.getD id.toNat [],xL v.o (iT N P (id-1).toNat v) (dQ vals v.ins))/\TV.ok (vx N P vals (id-1).toNat v):=by
 obtain⟨v,hv,hE,hS,hi,hm⟩:=hN.at hid;rw[hi]at hd;obtain⟨b,j⟩:=h.pick hN hF hd;obtain⟨e,m⟩:=hF.par hv;refine⟨v,hv,hm,hi,b,j,e,m,hE,?_,?_⟩
 .rw[vx,b,hS]
 .have:=Vx (o:=v.o) (ps:=iT N P (id-1).toNat v) (xs:=dQ vals v.ins) (by rw[e,b];exact hE) (hF.kk v hm) m j (hF.k6 v hm);rw[e]at this;exact this
def rr.step(hN:db N O L l)(hF:la N P x)(h:rr N L P x D vals)(m:∀y∈D,y∈N.ids/\∀z∈bG N y,z=0\/z∈D)(hid:id∈N.ids)(r:id∉D)(hd:∀z∈bG N id,z=0\/z∈D):rr N L P x (D++[id]) (ZM N P vals id):=by
 obtain⟨v,hv,hm,hi,F,G,I,J,hE,hS,B⟩:=h.node hN hF hid hd;have hr:=bn.1 hid;have b:id.toNat<vals.length:=by rw[h.len];omega
 have hg:∀z,z∈N.ids->z≠id->(vals.set id.toNat (vx N P vals (id-1).toNat v)).getD z.toNat T0=vals.getD z.toNat T0:=λz hz E=>by
  have:=bn.1 hz;rw[dR b,ag om]
 have hp:∀ins:List Int,(∀z∈ins,z=0\/z∈D)->dQ (vals.set id.toNat (vx N P vals (id-1).toNat v)) ins=dQ vals ins:=λins j=>by
  refine fj λz hz=>?_;rcases j z hz with rfl|hz
  .rw[dR b,ag (by show¬id.toNat=0;omega)]
  .exact hg z (m z hz).1 λe=>r (e▸hz)
 have C:∀(k:Nat) (u:dV),(∀z∈u.ins,z=0\/z∈D)->vx N P (vals.set id.toNat (vx N P vals (id-1).toNat v)) k u=vx N P vals k u:=λk u hu=>by
  have:=hp u.ins hu;generalize vals.set id.toNat (vx N P vals (id-1).toNat v)=W at this⊢;unfold vx;rw[this]
 unfold ZM;rw[hv];dsimp only;refine⟨by rw[ej];exact h.len,?_,λy hy=>?_,λy hy u hu=>?_⟩
 .rw[dR b,ag om];exact h.zero
 .rcases bJ.1 hy with hy|hy
  .rw[hg y (m y hy).1 λe=>r (e▸hy)];exact h.sh y hy
  .rw[cF.1 hy,dR b,ah rfl];exact⟨by rw[hS],B⟩
 .rcases bJ.1 hy with hy|hy
  .rw[hg y (m y hy).1 λe=>r (e▸hy),C _ u (by have:=(m y hy).2;rw[bG,hu]at this;exact this)];exact h.eq y hy u hu
  .have e:=cF.1 hy;subst e;rw[hv]at hu;obtain rfl:=cn hu;rw[C _ v (by rw[hi]at hd;exact hd),dR b,ah rfl]
def Bh(hN:db N O L l)(hF:la N P x):∀j,j<=O.length->rr N L P x (O.take j) (VI N P (ZN N x) (O.take j))
 |0,_=>by
  rw[dK];exact⟨by simp[VI,ZN],rfl,λid h=>(kG h).elim,λid h=>(kG h).elim⟩
 |j+1,hj=>by
  have r:=Bh hN hF j om;have b:j<O.length:=om;have hO:=bc b;have e:O.take (j+1)=O.take j++[O[j]]:=by rw[fb,hO];rfl
  rw[e];have:=r.step hN hF (λy m=>?_) (hN.j7.ids _ (aC hO)) (hN.NE hO) (hN.sN hO)
  .unfold VI at this⊢;rw[nr];exact this
  .refine⟨hN.j7.ids _ (cG m),λz u=>?_⟩;obtain⟨i,hi⟩:=eA m;rw[eY]at hi
   split at hi
   .rcases hN.sN hi z u with h0|h0
    .exact .inl h0
    .right;have:O.take i=(O.take j).take i:=by rw[ez,dt om]
     rw[this]at h0;exact cG h0
   .cases hi
noncomputable def eI(N:aU)(P:List TV)(x:TV):List TV:=VI N P (ZN N x) (d7 N)
def ma(hN:db N O L l)(hF:la N P x):rr N L P x O (eI N P x):=by
 have:=Bh hN hF O.length (an _);rw[dJ]at this;rw[eI,hN.ord];exact this
end
end
variable{gr:List TV}{y:Int}
section
set_option linter.unusedVariables false
def hJ(g more:TV):TV:=if g.2=[]then more else(g.1,g.2.zipWith cA more.2)
def j8(gr:List TV):List Int->List TV->List TV
 |z::zs,t::b=>j8 (gr.set z.toNat (hJ (gr.getD z.toNat T0) t)) zs b
 |_,_=>gr
noncomputable def pB(N:aU)(P b gr:List TV)(id:Int)(v:dV):List TV:=qF v.o (iT N P (id-1).toNat v) (dQ b v.ins) (gr.getD id.toNat T0).1 (gr.getD id.toNat T0).2
noncomputable def FY(N:aU)(P b gr:List TV)(id:Int)(v:dV):List TV:=Ak v.o (iT N P (id-1).toNat v) (dQ b v.ins) (gr.getD id.toNat T0).1 (gr.getD id.toNat T0).2
def sO(G gp:List TV)(a:Nat):List TV:=G.take a++gp++G.drop (a+gp.length)
noncomputable def Ri(N:aU)(P b:List TV)(s:List TV×List TV)(id:Int):List TV×List TV:=
 match N.nodes[(id-1).toNat]? with
 |none=>s
 |some v=>(j8 s.1 v.ins (pB N P b s.1 id v),sO s.2 (FY N P b s.1 id v) (dH N (id-1).toNat))
noncomputable def Rj(N:aU)(P b:List TV)(s:List TV×List TV)(R:List Int):List TV×List TV:=R.foldl (Ri N P b) s
def oM(S:List Int):TV:=(S,List.replicate (aN S).toNat 4294967296)
def vy(N:aU)(L:List (List Int))(l:Nat)(P:List TV):List TV×List TV:=((List.replicate (N.nodes.length+1) T0).set l (oM (L.getD l [])),List.replicate P.length T0)
def Bi(L:List (List Int))(gr:List TV)(z:Int):Prop:=gr.getD z.toNat T0=T0\/((gr.getD z.toNat T0).1=L.getD z.toNat []/\TV.ok (gr.getD z.toNat T0))
structure yc(N:aU)(L:List (List Int))(l:Nat)(P:List TV)(R:List Int)(s:List TV×List TV):Prop where
 len:s.1.length=N.nodes.length+1
 abe:s.2.length=P.length
 sh:∀z:Int,0<=z->z<=N.nodes.length->Bi L s.1 z
 ne:∀z:Int,0<=z->z<=N.nodes.length->((s.1.getD z.toNat T0).2≠[]↔z=l\/∃u∈R,z∈bG N u)
 Rk:∀t∈s.2,t=T0\/TV.ok t
section
variable{N:aU}{R:List Int}{P:List TV}{x:TV}{s:List TV×List TV}
def TV.ok.ne{t:TV}(h:TV.ok t):t.2≠[]:=λe=>by
 obtain⟨n,b,j,_⟩:=cV h.right;have:=h.len;rw[e,b]at this;simp at this;omega
def TV.ok.add{g t:TV}(hg:TV.ok g)(ht:TV.ok t)(h:t.1=g.1):TV.ok (g.1,g.2.zipWith cA t.2):=by
 have e:=hg.len;have b:=ht.len;rw[h]at b;exact tJ hg.right (by rw[Cf];omega) Nc
def FZ{g t:TV}{S:List Int}(hg:g=T0\/g.1=S/\TV.ok g)(ht:t.1=S)(h:TV.ok t):(hJ g t).1=S/\TV.ok (hJ g t):=by
 unfold hJ;rcases hg with rfl|⟨b,e⟩
 .rw[ah rfl];exact⟨ht,h⟩
 .rw[ag e.ne];exact⟨b,e.add h (by rw[ht,b])⟩
def yd{m:Nat}:∀(zs:List Int) (b:List TV) (gr:List TV),gr.length=m+1->(∀z∈zs,0<=z/\z<=m)->b.map (·.1)=zs.map (λz=>L.getD z.toNat [])->(∀t∈b,TV.ok t)->(∀z:Int,0<=z->z<=m->Bi L gr z)->
  (j8 gr zs b).length=m+1/\(∀z:Int,0<=z->z<=m->Bi L (j8 gr zs b) z)/\(∀z:Int,0<=z->z<=m->(((j8 gr zs b).getD z.toNat T0).2≠[]↔(gr.getD z.toNat T0).2≠[]\/z∈zs))/\∀z:Int,0<=z->z∉zs->(j8 gr zs b).getD z.toNat T0=gr.getD z.toNat T0
 |[],b,gr,B,_,_,_,hg=>by
  have e:j8 gr [] b=gr:=by cases b<;>rfl
  rw[e];exact⟨B,hg,λz _ _=>aG,λz _ _=>rfl⟩
 |y::zs,[],gr,_,_,hs,_,_=>by simp at hs
 |y::zs,t::b,gr,B,F,hs,ht,hg=>by
  rw[j8];simp only[dX,List.cons.injEq]at hs;have G:=F y cm;have C:y.toNat<gr.length:=by rw[B];omega
  obtain⟨K,I⟩:=FZ (hg y G.1 G.2) hs.1 (ht t cm);have r:∀z:Int,0<=z->(gr.set y.toNat (hJ (gr.getD y.toNat T0) t)).getD z.toNat T0=if y=z then hJ (gr.getD y.toNat T0) t else gr.getD z.toNat T0:=λz j=>by
   rw[dR C];by_cases e:y=z
   .rw[ah e,ah (by rw[e])]
   .rw[ag e,ag om]
  obtain⟨r1,r2,M,Q⟩:=yd zs b (gr.set y.toNat (hJ (gr.getD y.toNat T0) t)) (by rw[ej];exact B) (λz h=>F z (dl _ h)) hs.2 (λu h=>ht u (dl _ h)) λz j E=>by
   unfold Bi;rw[r z j]
   split
   .rename_i e;subst e;exact .inr ⟨K,I⟩
   .exact hg z j E
  refine⟨r1,r2,λz j E=>?_,λz j J=>?_⟩
  .rw[M z j E,r z j,bT];by_cases e:y=z
   .subst e;rw[ah rfl];exact⟨λ_=>.inr (.inl rfl),λ_=>.inl I.ne⟩
   .rw[ag e];constructor
    .rintro(h|h)
     .exact .inl h
     .exact .inr (.inr h)
    .rintro(h|h|h)
     .exact .inl h
     .exact absurd h.symm e
     .exact .inr h
  .rw[Q z j λh=>J (dl _ h),r z j,ag λe=>J (by rw[<-e];exact cm)]
def ye{S:List Int}(h:aA S=true):TV.ok (oM S):=by
 obtain⟨n,b,j,m⟩:=cV h;refine tJ h (by rw[fg,b];simp) λz e=>?_;rw[iA e];exact⟨ak,ak⟩
def db.right(hN:db N O L l)(hF:la N P x){z:Int}(b:0<=z)(j:z<=N.nodes.length):aA (L.getD z.toNat [])=true:=by
 by_cases e:z=0
 .subst e
  show aA (L.getD 0 [])=true
  rw[hN.shx];exact hN.dd
 .have hid:z∈N.ids:=bn.2 om;have:=(ma hN hF).sh z (hN.mem.2 hid);rw[<-this.1];exact this.2.right
def NG(hN:db N O L l)(hF:la N P x):yc N L l P [] (vy N L l P):=by
 have r:=hN.mB;have m:l<(List.replicate (N.nodes.length+1) T0).length:=by rw[fg];omega
 have hr:=hN.right hF (z:=(l:Int)) om om;rw[bI]at hr;have b:=ye hr;have j:∀z:Int,(List.replicate (N.nodes.length+1) T0).getD z.toNat T0=T0:=λz=>by
  rw[aX,ix];split<;>rfl
 refine⟨by simp[vy],by simp[vy],λz y B=>?_,λz y B=>?_,λt ht=>.inl (iA ht)⟩
 .unfold Bi;rw[vy,dR m]
  split
  .rename_i e;rw[<-e];exact .inr ⟨rfl,b⟩
  .exact .inl (j z)
 .rw[vy,dR m]
  split
  .rename_i e;exact⟨λ_=>.inl om,λ_=>b.ne⟩
  .rename_i e;rw[j z];constructor
   .intro h;exact absurd rfl h
   .rintro(h|⟨u,hu,_⟩)
    .omega
    .cases hu
def m5(h:O.reverse[d]?=some id):d<O.length/\O[O.length-1-d]?=some id:=by
 have hd:=(a5.1 h).1;rw[List.length_reverse]at hd;rw[B2 hd]at h;exact⟨hd,h⟩
def m6(h:y∈D.take j):∃i,i<j/\D[i]?=some y:=by
 obtain⟨i,hi⟩:=eA h;rw[eY]at hi
 split at hi
 .exact⟨i,by assumption,hi⟩
 .cases hi
def Bj(hi:i<j)(h:D[i]?=some y):y∈D.take j:=by
 refine aC (i:=i) ?_;rw[eY,ah hi];exact h
def Bk(u:D.Nodup)(hi:D[i]?=some y)(z:D[j]?=some y):i=j:=by
 obtain⟨b,e⟩:=a5.1 hi;obtain⟨m,r⟩:=a5.1 z;have hp:=mn.1 u;rcases Cc i j with h|h|h
 .exact absurd (e.trans r.symm) (hp i j b m h)
 .exact h
 .exact absurd (r.trans e.symm) (hp j i m b h)
def db.F0(hN:db N O L l)(h:O.reverse[d]?=some id)(hu:z∈N.ids)(hi:id∈bG N z):z∈O.reverse.take d:=by
 obtain⟨hd,h⟩:=m5 h;have hid:=hN.j7.ids id (aC h);have y:=bn.1 hid;obtain⟨j,b⟩:=eA (hN.mem.2 hu);have m:=(a5.1 b).1;rcases hN.sN b id hi with h0|h0
 .omega
 .obtain⟨i,r,e⟩:=m6 h0;have:=Bk hN.j7.nd e h;refine Bj (i:=O.length-1-j) om ?_;rw[B2 om,show O.length-1-(O.length-1-j)=j from om];exact b
def I3(h:a6 N=0)(hid:id∈N.ids)(b:id≠e1 N):∃u∈N.ids,id∈bG N u:=by
 have j:pu N=true:=by
  unfold a6 at h
  split at h
  .split at h
   .split at h
    .unfold qa at h
     split at h
     .split at h
      .split at h
       .assumption
       .omega
      .rename_i e;exact absurd h e
     .omega
    .rename_i e;exact absurd h e
   .omega
  .omega
 simp only[pu,bW,cu]at j;have hr:=bn.1 hid;rcases hq:hc N N.nodes.length 0 id.toNat with _|_
 .exfalso;have hm:id.toNat∈Al N:=by
   unfold Al;rw[p2,hM];exact⟨om,by rw[hq];rfl⟩
  match hu:Al N,j.1 with
  |[a],_=>
   rw[hu]at hm;have:=cF.1 hm;apply b;rw[e1,hu]
   show id=((a:Nat):Int)
   omega
 .unfold hc at hq;rw[dK,bR (an _)]at hq;simp only[List.contains_nil,r3,B3]at hq;obtain⟨v,hv,m⟩:=hq;obtain⟨i,hi⟩:=eA hv;have r:=(a5.1 hi).1;refine⟨(i:Int)+1,bn.2 om,?_⟩;rw[bG,show((i:Int)+1-1).toNat=i from om,hi];have:(id.toNat:Int)=id:=om;rw[this]at m;simpa using m
def yc.there(hN:db N O L l)(hE:a6 N=0)(h:yc N L l P (O.reverse.take d) s)(hd:O.reverse[d]?=some id):(s.1.getD id.toNat T0).1=L.getD id.toNat []/\TV.ok (s.1.getD id.toNat T0):=by
 have hid:=hN.j7.ids id (aC (m5 hd).2);have hr:=bn.1 hid;have b:(s.1.getD id.toNat T0).2≠[]:=by
  rw[h.ne id om hr.2];by_cases e:id=l
  .exact .inl e
  .obtain⟨u,hu,hi⟩:=I3 hE hid (by rw[hN.e1];exact e);exact .inr ⟨u,hN.F0 hd hu hi,hi⟩
 rcases h.sh id om hr.2 with h0|h0
 .rw[h0]at b;exact absurd rfl b
 .exact h0
def yc.parts(hN:db N O L l)(hF:la N P x)(hv:rr N L P x O vals)(hid:id∈N.ids)(hg:(gr.getD id.toNat T0).1=L.getD id.toNat []/\TV.ok (gr.getD id.toNat T0)):
  ∃v,N.nodes[(id-1).toNat]?=some v/\v∈N.nodes/\bG N id=v.ins/\(dQ vals v.ins).map (·.1)=eD v L/\(∀t∈dQ vals v.ins,TV.ok t)/\(iT N P (id-1).toNat v).map (·.1)=v.P/\(∀t∈iT N P (id-1).toNat v,TV.ok t)/\da v.o v.P (eD v L)=0/\cy v.o v.P (eD v L)=(gr.getD id.toNat T0).1/\
   (pB N P vals gr id v).map (·.1)=eD v L/\(∀t∈pB N P vals gr id v,TV.ok t)/\(FY N P vals gr id v).map (·.1)=v.P/\∀t∈FY N P vals gr id v,TV.ok t:=by
 obtain⟨v,C,hm,hi,u,B,y,E,hE,hS,-⟩:=hv.node hN hF hid λz F=>by
  obtain⟨v,hv,_,_,hi,hm⟩:=hN.at hid;rw[hi]at F;have:=hN.jS v hm z F;by_cases e:z=0
  .exact .inl e
  .exact .inr (hN.mem.2 (bn.2 om))
 obtain⟨G,b,_,j,_,_⟩:=hN.at hid;obtain rfl:v=G:=by rw[C]at b;exact cn b
 have m:da v.o ((iT N P (id-1).toNat v).map (·.1)) ((dQ vals v.ins).map (·.1))=0:=by rw[y,u];exact hE
 have r:cy v.o ((iT N P (id-1).toNat v).map (·.1)) ((dQ vals v.ins).map (·.1))=(gr.getD id.toNat T0).1:=by rw[y,u,<-j,hg.1]
 obtain⟨x1,x2⟩:=FE m (hF.kk v hm) B (hF.k6 v hm) r (g:=(gr.getD id.toNat T0).2) hg.2;obtain⟨p1,I⟩:=K0 m (hF.kk v hm) E B r (g:=(gr.getD id.toNat T0).2) hg.2;rw[u]at x1;rw[y]at p1;exact⟨v,C,hm,hi,u,B,y,E,hE,by rw[<-j,hg.1],x1,x2,p1,I⟩
def Rl(hF:la N P x){k:Nat}{v:dV}(hv:N.nodes[k]?=some v):dH N k+v.P.length<=P.length:=by
 have b:P.length=(bS N).length:=by rw[<-hF.ps,br]
 obtain⟨j,m⟩:=a5.1 hv;have e:N.nodes=N.nodes.take k++(v::N.nodes.drop (k+1)):=by rw[<-m,<-ei j,de]
 have r:bS N=(N.nodes.take k).flatMap (·.P)++(v.P++(N.nodes.drop (k+1)).flatMap (·.P)):=by
  conv=>lhs;rw[bS,e]
  rw[jr,g8]
 rw[b,r,a1,a1,dH];omega
def yc.step(hN:db N O L l)(hE:a6 N=0)(hF:la N P x)(hv:rr N L P x O vals)(h:yc N L l P (O.reverse.take d) s)(hd:O.reverse[d]?=some id):yc N L l P (O.reverse.take (d+1)) (Ri N P vals s id):=by
 have hid:=hN.j7.ids id (aC (m5 hd).2);obtain⟨v,r,hm,hi,I,J,K,M,B,C,x1,x2,p1,E⟩:=yc.parts hN hF hv hid (h.there hN hE hd);have j:∀z∈v.ins,0<=z/\z<=N.nodes.length:=hN.jS v hm;obtain⟨r1,r2,F,Q⟩:=yd (L:=L) v.ins (pB N P vals s.1 id v) s.1 h.len j x1 x2 h.sh;have e:O.reverse.take (d+1)=O.reverse.take d++[id]:=by rw[fb,hd];rfl
 have m:(FY N P vals s.1 id v).length=v.P.length:=by rw[<-br (f:=(·.1)),p1]
 have G:=Rl hF r;unfold Ri;rw[r];dsimp only;refine⟨r1,?_,r2,λz y b=>?_,λt ht=>?_⟩
 .rw[sO,a1,a1,bB,dZ,h.abe,m];omega
 .rw[F z y b,h.ne z y b,e];constructor
  .rintro((h|⟨u,hu,b⟩)|h)
   .exact .inl h
   .exact .inr ⟨u,lK _ hu,b⟩
   .exact .inr ⟨id,aG,by rw[hi];exact h⟩
  .rintro(h|⟨u,hu,b⟩)
   .exact .inl (.inl h)
   .rcases bJ.1 hu with hu|hu
    .exact .inl (.inr ⟨u,hu,b⟩)
    .rw[cF.1 hu,hi]at b;exact .inr b
 .rw[sO]at ht;rcases bJ.1 ht with ht|ht
  .rcases bJ.1 ht with ht|ht
   .exact h.Rk t (cG ht)
   .exact .inr (E t ht)
  .exact h.Rk t (dC ht)
def Bl(hN:db N O L l)(hE:a6 N=0)(hF:la N P x)(hv:rr N L P x O vals):∀d,d<=O.length->yc N L l P (O.reverse.take d) (Rj N P vals (vy N L l P) (O.reverse.take d))
 |0,_=>by rw[dK];exact NG hN hF
 |d+1,hd=>by
  have j:=Bl hN hE hF hv d om;have b:d<O.reverse.length:=by rw[List.length_reverse];omega
  have hO:=bc b;have:=j.step hN hE hF hv hO;have e:O.reverse.take (d+1)=O.reverse.take d++[O.reverse[d]]:=by rw[fb,hO];rfl
  rw[e]at this⊢;unfold Rj at this⊢;rw[nr];exact this
noncomputable def sP(N:aU)(P:List TV)(x:TV):List TV×List TV:=Rj N P (eI N P x) (vy N (dh N).2.1 (dh N).2.2.toNat P) (d7 N).reverse
noncomputable def uJ(N:aU)(P:List TV)(x:TV):Int:=((eI N P x).getD (e1 N).toNat T0).2.getD 0 0
end
end
