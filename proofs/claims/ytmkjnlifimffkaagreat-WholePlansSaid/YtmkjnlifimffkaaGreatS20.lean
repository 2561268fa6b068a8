/- Lemmas. -/
import Derived.Test.YtmkjnlifimffkaaGreatS19
import Derived.Test.YtmkjnlifimffkaaGreatS18
namespace Go.Proofs.YtmkjnlifimffkaaGreat
open Go.RowKit Tryz
set_option linter.all false
set_option maxRecDepth 100000
set_option maxHeartbeats 0
variable{Γ:Prop}
attribute[local irreducible]Calls
section
variable{P:Program}{w w':World}{ops:Array Oper}{a:Act}{Q:Exit->Act->World->Prop}{A B C:Option Addr}{zs:List Int}{c d g j m n:Nat}{N:bm}{ss:List Sp}
def xF{rest:List Oper}{o:Oper}(J:o.guard=none)(s x:Operand)(t:TypeId)
  (ho:o.op=.call {callee:=.builtin .append,args:= #[s,x],argTypes:= #[t,t]}) (E:TypeId) (ht:P.underlying t=some (.slice E)) (k bytes:Nat) (z:Value)
  (r:(P.info? E).map (λi=>(i.zero,i.size,i.bytes))=some (some z,k,bytes)) (K:z.cells.size=k) (U:0<k) (L:bytes<=1000)
  (B:Nat) (A:bF) (c n:Nat) (V:j7) (hs:a.eval s=.slice A n c) (F:aU w B E k A c n V) (M:Addr) (m c2:Nat) (news:j7) (hx:a.eval x=.slice (some M) m c2) (hl:news.length=m*k)
  (y:∀j u,news[j]?=some u->w.cell? (M.add j)=some u) (h1:∀u∈news,u.oneCell'=true) (X:n+m<=1000000000) (hB:B<=w)
  (h:∀C G w',aU w' B E k C G (n+m) (V++news)->dm A C w w'->wpList P ops Q rest (a.put o.dst (.slice C (n+m) G)) w'):
  wpList P ops Q (o::rest) a w:=by
 obtain⟨i,hi,I⟩:=bt.1 r;simp only[eP]at I;obtain⟨N,O,R⟩:=I;refine tK w J s x t ho B E i z k bytes ht hi N O R K U _ _ _ hs F M m c2 news hx hl y h1 (by unfold maxLen;omega) ?_ hB ?_;have:=fS (n+m) L;omega;intro v' w' l hg _ hn;have Y:∀C Z G,v'=.slice C Z G->dm A C w w':=λC Z G hv=>by subst hv;rw[c5,c5]at hn;refine⟨(aV 0 w).grown hg om (λk U=>aM _),hg.size,λb hb S=>hg.block b hb ?_,λW5 e=>?_⟩;rw[c5];intro e;obtain⟨a0,T,rfl⟩:=bt.1 e.symm;exact S a0 T rfl;subst e;rcases hn with hn|hn;obtain⟨a0,h3,h4⟩:=bt.1 hn.symm;exact .inl ⟨a0,h3,h4.symm⟩;right;injection hn with hn;exact ei hn.symm
 rcases l.2 with⟨hv,h0⟩|⟨g,cap,cur,hv,hBg,qp,EU,WT,JT,WU⟩;have D:=Y none 0 0 hv;rw[hv]at l⊢;have:=h none 0 w' (by rw[h0]at l⊢;exact l) D;rwa[h0]at this;have D:=Y _ _ _ hv;rw[hv]at l⊢;exact h _ _ _ l D
def Rd.jt{X:bF}(h:Rd w X zs)(m:dm A B w w')(l:∀r bd,X=some r->A=some bd->bd.block≠r.block):Rd w' X zs:=by
 intro j z u;obtain⟨b,off,e,hb,y⟩:=h j z u;exact⟨b,off,e,bu hb m.size,(d9 (m.off b hb λbd C=>l _ bd e C)).trans y⟩
structure lu(w:World)(B:Nat)(A:Option Addr)(c:Nat)(ss:List Sp):Prop where
 row:aU w B 25 1 A c ss.length (gR ss).toList
 el:∀x∈ss,Rd w x.A x.zs/\x.m=x.zs.length/\x.m<=x.c/\bG B x.A
 ne:∀x∈ss,∀ad bd,x.A=some ad->A=some bd->bd.block≠ad.block
 lt:∀x∈ss,∀ad,x.A=some ad->ad.block<w.1.size
def aaV(w:aa)(L:f0)(e:Ending)(w':aa):Prop:=∃g b,e=.returned (.slice (some ⟨g,0,none⟩) L L.length)/\pM w' g b/\Hx (aS b=L/\∀x∈b,∀j,x.A=some j->j.block<w'.1.size)/\w.1.size<=g/\aj w' w
def bH(N:bm):List (List Int):=N.nodes.flatMap (·.P)
def Ul{x:Sp}(ts:List Sp){n:Nat}(b:ts=j)(h:j<n):(ts++List.replicate (n-j) dM).set j x=(ts++[x])++List.replicate (n-(j+1)) dM:=by
 rw[show n-j=(n-(j+1))+1 from om,jA,lA _ _ om,b,fe,iS];simp
def xU1(h:Γ:=by simp[intOf];omega):=h
def Qd[a:dZ w B n ss](L:n<=1000000)(M:Hx (∀z∈aS ss,z.length<=1000000)):() 117 #[(B,n,c)] w (aaV w (aS ss)):=by
 have U:=@bW;have C:=l3 n L;have J:Hx (n=(aS ss).length):=ae (by rw[cX];exact a.len);go_in;go_wp2_with fail;refine aE (λv _ _=>?_);have l:pM v w.1.size (List.replicate n dM):=pM.new (Bx.ak (w:=v) (g:=w.1.size));clear C;go_loopw [11] (λi wr=>∃(j:Nat) (ts:List Sp),j<=n/\i=.int .i64 j/\Hx (ts=j/\aS ts=(aS ss).take j/\∀x∈ts,∀r,x.A=some r->r.block<wr.1.size)/\pM wr w.1.size (ts++List.replicate (n-j) dM)/\aj wr w) (λi _=>n-(intOf i).toNat);exact⟨0,[],aM _,rfl,ae ⟨rfl,rfl,aD⟩,l,aF⟩;clear l;obtain⟨j,ts,V,rfl,b,hS,hp⟩:=hrel;by_cases y:j<n
 .obtain⟨X,q0,Y,m1,c1,zs,rfl,ob,v0,O,l1,K⟩:=a.get y;have D:m1<=1000000:=by rw[O.len];exact M.o _ (aC K.o)
  have E:=ae (take_at K.o);have P:Hx ((gR (ts++List.replicate (n-j) dM))[j]?=some (.slice none 0 0)):=ae (by
   rw[iP (x:=dM)]
   .rfl
   .rw[eE (by rw[b.o.1];exact al _),b.o.1,fe,jy,ah om])
  go_wp2_with (go_at_call 103;refine(C7 D).mono ?_;rintro e u ⟨Q,rfl,F,oS,R⟩;have G:=hS.at (w':=u);have S:=(G.ak.cell j).trans P;have T:=G.ak.frozen j);go_roundw;have I:=hS.ak.lt;have hx:=G.av (x:=⟨some ⟨Q,0,none⟩,zs.length,zs.length,zs⟩) j oS.rd rfl (al _) ⟨λr e=>by cases e;exact aL I F⟩;rw[Ul ts b.o.1 y]at hx;refine⟨j+1,_,om,by go_num,ae ⟨by simp[b.o.1],?_,λx hx r e=>?_⟩,hx,⟨(aP w u).setCell (p:=⟨w.1.size,j,none⟩) (al _) _⟩⟩;rw[E.o,<-b.o.2.1];simp[aS];have:=R.st.size;rcases bM.1 hx with hx|hx;have:=b.o.2.2 x hx r e;simp;omega;rw[cZ.1 hx]at e;cases e;have:=oS.lt;simpa using this;exact xU1
 obtain rfl:j=n:=om;go_wp2_with fail;go_ret;refine⟨w.1.size,ts,by rw[<-J.o];rfl,by simpa using hS,ae ⟨by rw[b.o.2.1,bY (by rw[<-J.o];exact al _)],b.o.2.2⟩,al _,hp⟩
def lu.at(h:lu w d A c ss)[l:aT w w']:lu w' d A c ss:=
 ⟨h.row.at,λx b=>⟨(h.el x b).1.below l.st,(h.el x b).2⟩,h.ne,λx b j e=>bu (h.lt x b j e) l.st.size⟩
def lu.nil:lu w d none 0 []:=⟨ER w d _ 1,aD,aD,aD⟩
def lu.grow{ts:List Sp}(h:lu w d A c ss)(hb:pM w g ts)(E:∀x∈ts,∀b,x.A=some b->b.block<w.1.size)(hd:d<=g)(F:∀bd,A=some bd->bd.block<g)(y:dm A C w w')
  (hr:aU w' d 25 1 C j (ss++ts).length (gR (ss++ts)).toList):lu w' d C j (ss++ts):=by
 have u:∀x∈ss++ts,∀b,x.A=some b->b.block<w.1.size:=λx hx b e=>by rcases bM.1 hx with hx|hx;exact h.lt x hx b e;exact E x hx b e
 have r:∀x∈ss++ts,∀b bd,x.A=some b->A=some bd->bd.block≠b.block:=λx hx b bd e l=>by rcases bM.1 hx with hx|hx;exact h.ne x hx b bd e l;have:=(hb.el x hx).2.2.2.o b e;have:=F bd l;omega
 refine⟨hr,λx hx=>?_,λx hx b bd e l=>?_,λx hx b e=>bu (u x hx b e) y.size⟩;rcases bM.1 hx with hx'|hx';obtain⟨z,D⟩:=h.el x hx';exact⟨z.jt y λb bd e l=>r x hx b bd e l,D⟩;obtain⟨z,D,G,I⟩:=hb.el x hx';exact⟨z.jt y λb bd e l=>r x hx b bd e l,D,G,I.less om⟩;rcases y.new bd l with⟨a0,J,K⟩|tx;rw[K];exact r x hx b a0 e J;have:=u x hx b e;omega
def Um:∀u∈(gR ss).toList,u.oneCell'=true:=λu hu=>by
 simp only[gR,List.toList_toArray,bw]at hu;obtain⟨x,_,rfl⟩:=hu;rfl
def Un:(gR ss).toList.length=ss:=by simp[gR]
def II{ts:List Sp}:(gR (ss++ts)).toList=(gR ss).toList++(gR ts).toList:=by simp[gR]
def aaW(w:aa)(L:f0)(e:Ending)(w':aa):Prop:=∃A c ss,e=.returned (.slice A L c)/\lu w' w.1.size A c ss/\Hx (aS ss=L)/\aj w' w
def td(h:N.fits)(k:Nat):((N.nodes.take k).flatMap (·.P)).length<=(N.nodes.take k).length*100000:=by
 have:∀l:List et,(∀v∈l,v.P.length<=100000)->(l.flatMap (·.P)).length<=l.length*100000:=λl=>by
  induction l with
  |nil=>intro _;simp
  |cons v t b=>intro hv;rw[g6,bh,dj];have j:=hv v cm;have r:=b λx e=>hv x (dp _ e);omega
 exact this _ λv hv=>(h.2.2 v (cE hv)).2.2.1
def Dz[a:aW w A n B m N](E:Hx N.fits)(hs:Hx N.small):() 68 #[.agg #[(A,n,c),(B,m,d)]] w (aaW w (bH N)):=by
 obtain⟨CB,CP,FB⟩:=ia;have O:Hx (m=N.nodes):=a.len;have hm:m<=1000:=by rw[O.o];exact hs.o.1
 go_in;go_wp2_with fail;refine aE (λv _ _=>?_);go_loopw [3,9] (λs i wr=>∃(k:Nat) (l:bF) (r:Nat) (ss:List Sp),k<=m/\i=.int .i64 k/\s=.slice l ss r/\lu wr w.1.size l r ss/\Hx (aS ss=(N.nodes.take k).flatMap (·.P))/\aj wr w) (λ_ i _=>m-(intOf i).toNat);exact⟨0,none,0,[],aM _,rfl,rfl,lu.nil,ae rfl,aF⟩;obtain⟨k,l,r,ss,hk,rfl,rfl,hS,F,hp⟩:=hrel;by_cases G:k<m
 .obtain⟨b0,q0,o,A1,n1,c1,I,ni,ci,ins,P,np,cp,ps,rfl,ob,⟨v0,v1,v2,v3,v4,v5,v6,v7,v8,v9⟩,s1,si,sp,l1,li,lp,ik,b⟩:=a.node G;(have J:np<=100000:=by have:=(E.o.2.2 _ (aC b.o)).2.2.1;rw[cX]at this;rw[sp.len];exact this);(have K:Hx (∀z∈aS ps,z.length<=1000000):=ae λz S=>by have:=(E.o.2.2 _ (aC b.o)).2.2.2 z S;omega);have L:Hx ((N.nodes.take (k+1)).flatMap (·.P)=aS ss++aS ps):=ae (by rw[take_at b.o,jG,F.o];simp);(have T:ss.length<=100000000:=by have U:=td E k;rw[<-F.o,cX]at U;(have:(N.nodes.take k).length<=1000:=by have:=hs.o.1;simp;omega);omega);(have V:(aS ps).length<=100000:=by rw[cX,<-sp.len];exact J);go_wp2_with (first|(go_at_call 117;refine ey (λu0 _ _=>?_);refine(Qd om K).mono ?_;rintro e u ⟨g,ts,rfl,Q,D,hg,pu⟩)|(at_builtin;refine xF rfl _ _ _ rfl 25 underlying82 1 24 () ao rfl am am w.1.size l r ss.length (gR ss).toList rfl (hS.at (w':=u)).row ⟨g,0,none⟩ _ _ (gR ts).toList rfl (by rw[Un,fp,<-cX,D.o.1]) (λj x X=>by rw[cn,cf,Q.ak.cell j];simpa using X) Um om ai ?_;intro Y c3 w3 M y));go_roundw;(have C:(ss++ts).length=ss+(aS ps).length:=by rw[bh,<-D.o.1,cX]);have Z:wr.1.size<=g:=aL ai hg;refine⟨k+1,Y,c3,ss++ts,om,by go_num,by rw[C],(hS.at (w':=u)).grow Q D.o.2 (aL ai hg) (λbd e=>by have:=hS.row.lt bd e;omega) y (by rw[C,II];exact M),ae (by rw[L.o,<-D.o.1];simp[aS]),⟨(aP w u).trans (y.below (λad e=>hS.row.ge ad e) ai)⟩⟩;exact xU1
 obtain rfl:k=m:=om;have R:Hx (aS ss=bH N):=ae (by rw[F.o,bY (by rw[<-O.o];exact al _)];rfl);go_wp2_with fail;go_ret;exact⟨l,r,ss,by rw[<-R.o,cX];rfl,hS,R,hp⟩
end
variable{V zs:List Int}{w w':World}{A B:Option Addr}{c d m n:Nat}{ss:List Sp}{E y z:Int}
def vT(zs:au)(z:Int):(zs++[z]).sum=zs.sum+z:=by simp
def qZ:∀{zs:au},(∀z∈zs,0<=z)->0<=zs.sum
 |[],_=>aD
 |z::t,h=>by have:=h z cm;have:=qZ (zs:=t) λx b=>h x (dp _ b);simp;omega
def Gu(h:∀z∈zs,0<=z)(k:Nat):(zs.take k).sum<=zs.sum:=by
 have e:zs.sum=(zs.take k).sum+(zs.drop k).sum:=by rw[<-nk,dC]
 have:=qZ (zs:=zs.drop k) λz b=>h z (dA b);omega
def IJ(w:aa)(p z:Int)(hp:0<=p)(m:0<=z)(j:p<=1099511627776)(l:z<=1099511627776){b:Bool}(hb:Hx (decide (p+z<=1099511627776)=b)):
  () 78 #[z,.pointer w.1.size] (w.alloc (.cells #[p] 3)) λe w'=>e=.returned (.bool b)/\w.alloc (.cells #[.int .i64 (p+z)] 3)=w':=by
 go_in;go_wp2;go_ret;exact⟨bU hb,rfl⟩
def Qe(w:aa)(zs:au)(e:Ending)(w':aa):Prop:=
 e=.returned (.bool (decide (zs.sum<=1099511627776)))/\∃p,w'=w.alloc (.cells #[.int .i64 p] 3)/\(zs.sum<=1099511627776->p=zs.sum)
def xG(A:bF)(c:Nat)(zs:au)(w:aa)(hs:zs.length<=1000000)(h:Rd w A zs)(j:Hx (∀z∈zs,0<=z/\z<=1099511627776)):
  () 76 #[.slice A zs c,.func (.func 78) #[] #[.pointer w.1.size]] (w.alloc (.cells #[an] 3)) (Qe w zs):=by
 have I:=h.alloc (.cells #[an] 3);go_in;go_wp2_with fail;go_loopw [9] (λi wr=>∃k:Nat,k<=zs/\i=.int .i64 k/\(zs.take k).sum<=1099511627776/\wr=w.alloc (.cells #[.int .i64 (zs.take k).sum] 3)) (λi _=>zs.length-(intOf i).toNat);exact⟨0,aM _,rfl,aD,rfl⟩;obtain⟨k,L,rfl,m,rfl⟩:=hrel;have u:0<=(zs.take k).sum:=qZ λz r=>(j.o z (cE r)).1;by_cases C:k<zs
 .have E:=h.alloc (.cells #[.int .i64 (zs.take k).sum] 3);obtain⟨b,off,z,rfl,hb,M,r⟩:=h.get C;obtain⟨y,B⟩:=j.o z (aC r.o);have J:=E.all r.o;clear I E;by_cases l:(zs.take k).sum+z<=1099511627776
  .have D:Hx (decide ((zs.take k).sum+z<=1099511627776)=true):=ae (by simpa using l);go_wp2_with fail;refine(IJ w _ z u y m B D).mono ?_;rintro e w' ⟨rfl,rfl⟩;go_wp2_with fail;go_roundw;exact⟨k+1,om,by go_num,by rw[take_at r.o,vT];exact l,by rw[take_at r.o,vT]⟩;exact xU1
  have D:Hx (decide ((zs.take k).sum+z<=1099511627776)=false):=ae (by simpa using l);have F:Hx (1099511627776<zs.sum):=ae (by
   have:=Gu (λz r=>(j.o z r).1) (k+1);rw[take_at r.o,vT]at this;omega)
  go_wp2_with fail;refine(IJ w _ z u y m B D).mono ?_;rintro e w' ⟨rfl,rfl⟩;go_wp2_with fail;go_ret;exact⟨bU (by simpa using F.o),_,rfl,λK=>absurd K (by have:=F.o;omega)⟩
 have G:Hx (zs.take k=zs):=bY om;go_wp2_with fail;go_ret;rw[G.o]at m;exact⟨bU (by simpa using m),_,rfl,λ_=>by rw[G.o]⟩
def wX(zs:au):Int:=if zs.all gJ&&decide (zs.sum<=1099511627776)then zs.sum else 0
def uG(zs:au):Int:=if zs.all gJ then(if zs.sum<=1099511627776 then 0 else 17)else 11
def eV:List (List Int)->Int
 |[]=>0
 |z::t=>if cA z=0 then eV t else cA z
def kP(L:f0):List Int:=if eV L=0 then L.map bz else[]
def q6(zs:au):Int:=zs.foldl max 0
def xU2(h:Γ:=by rw[u.o];go_wp2_with fail;go_ret2;exact bB):=h
def yF[a:Sl w A n zs](D:n<=1000000)(hV:Hx (wX zs=y))(hE:Hx (uG zs=E)):() 31 #[(A,n,c)] w (aJ w (.tuple #[y,E])):=by
 obtain⟨h,rfl⟩:=a;have r:=ae (kl 77 gJ qu (λ_ _=>rfl) A c zs w D h);rcases h1:zs.all gJ with _|_
 .obtain rfl:y=0:=by rw[<-hV.o];simp[wX,h1]
  obtain rfl:E=11:=by rw[<-hE.o];simp[uG,h1]
  have l:=ae h1;clear h1;go_in;go_wp2_with fail;refine r.o.mono ?_;rintro e w' ⟨rfl,rfl⟩;rw[l.o];go_wp2_with fail;go_ret2;exact⟨rfl,⟨aV _ _⟩⟩
 have l:=ae h1;have j:Hx (∀z∈zs,0<=z/\z<=1099511627776):=λz G=>by have a:=dz.1 h1 z G;simpa[gJ]using a
 have F:=ae (xG A c zs w D h j);by_cases b:zs.sum<=1099511627776
 .obtain rfl:y=zs.sum:=by rw[<-hV.o];simp[wX,h1,b]
  obtain rfl:E=0:=by rw[<-hE.o];simp[uG,h1,b]
  have u:Hx (decide (zs.sum<=1099511627776)=true):=ae (by simpa using b);have C:=ae b;clear h1 b;go_in;go_wp2_with fail;refine r.o.mono ?_;rintro e w' ⟨rfl,rfl⟩;rw[l.o];go_wp2_with fail;refine F.o.mono ?_;rintro e w' ⟨rfl,p,rfl,hp⟩;obtain rfl:=hp C;exact xU2
 obtain rfl:y=0:=by rw[<-hV.o];simp[wX,h1,b]
 obtain rfl:E=17:=by rw[<-hE.o];simp[uG,h1,b]
 have u:Hx (decide (zs.sum<=1099511627776)=false):=ae (by simpa using b);clear h1 b;go_in;go_wp2_with fail;refine r.o.mono ?_;rintro e w' ⟨rfl,rfl⟩;rw[l.o];go_wp2_with fail;refine F.o.mono ?_;rintro e w' ⟨rfl,p,rfl,hp⟩;exact xU2
def LH:q6 (zs++[z])=max (q6 zs) z:=by simp[q6]
def Yz[a:Sl w A n zs](D:n<=1000000)(hV:Hx (q6 zs=y)):() 38 #[(A,n,c)] w (aJ w y):=by
 have r:Hx (n=zs):=a.len;go_in;go_wp2_with fail;go_loop [3,8] (λs i=>∃k:Nat,k<=n/\i=.int .i64 k/\s=.int .i64 (q6 (zs.take k))) (λ_ i=>n-(intOf i).toNat);exact⟨0,aM _,rfl,rfl⟩;obtain⟨k,E,rfl,rfl⟩:=hrel;by_cases e:k<n
 .obtain⟨b,q,z,rfl,ob,v0,u⟩:=a.get e;have j:Hx (q6 (zs.take (k+1))=max (q6 (zs.take k)) z):=ae (by rw[take_at u.o,LH]);obtain⟨M,l⟩:=lh (q6 (zs.take k));rw[l]at j⊢;clear l;go_wp2_with fail;go_round;exact⟨k+1,om,by go_num,by rw[j.o];try rfl⟩;exact xU1
 have C:Hx (q6 (zs.take k)=y):=ae (by rw[bY (by rw[<-r.o];omega)];exact hV);rw[C.o];go_wp2_with fail;go_ret;exact⟨rfl,⟨aV _ _⟩⟩
def xU4(h:Γ:=by rw[bj,b.o];exact al _):=h
def Qf[a:dZ w B n ss](hn:n<=1000000)(hz:Hx (∀z∈aS ss,z.length<=1000000))(hE:Hx (eV (aS ss)=E))(hV:Hx (kP (aS ss)=V)):() 29 #[(B,n,c)] w (uF w E V):=by
 have CP:=@bW;have M:=kz n hn;have L:Hx (n=(aS ss).length):=ae (by rw[cX];exact a.len);go_in;go_wp2_with fail;obtain⟨v,hv⟩:=lg (w.alloc (.cells (ints (List.replicate n 0)) 3));have S:aj v w:=hv▸aF;have l:Own v w.1.size 3 (((aS ss).take 0).map bz++List.replicate (n-0) 0):=by rw[hv];exact Own.new _ _ _
 rw[<-hv];clear M hv;go_loopw [14] (λi wr=>∃j:Nat,j<=n/\i=.int .i64 j/\Own wr w.1.size 3 (((aS ss).take j).map bz++List.replicate (n-j) 0)/\Hx (eV ((aS ss).drop j)=eV (aS ss))/\aj wr w) (λi _=>n-(intOf i).toNat);exact⟨0,aM _,rfl,l,ae rfl,S⟩;clear l S;obtain⟨j,hj,rfl,l,T,hp⟩:=hrel;by_cases N:j<n
 .obtain⟨b0,q0,A1,m1,c1,zs,rfl,ob,v0,s1,l1,O⟩:=a.get N;have F:m1<=1000000:=by rw[s1.len];exact hz.o _ (aC O.o)
  have r:Hx (eV (aS ss)=if cA zs=0 then eV ((aS ss).drop (j+1))else cA zs):=ae (by
   obtain⟨h1,h2⟩:=a8.1 O.o;rw[<-T.o,ed h1,h2];rfl)
  have P:=ae (take_at O.o);obtain⟨V6,G⟩:=lh (bz zs);obtain⟨U,y⟩:=lh (cA zs);have C:=ae G;have I:=ae y;(have J:((aS ss).take j).length=j:=by rw[bO,<-L.o];omega);have b:=ae J;rw[y]at r;clear G y J;by_cases e:U=0
  .subst e;have Q:Hx (eV ((aS ss).drop (j+1))=eV (aS ss)):=ae (by rw[r.o,ah rfl]);have X:=ae l;clear l;go_wp2_with (go_at_call 73;refine mv (h5 F C I) λu _=>?_;have Y:=X.o.at (w':=u);have Z:=Y.frozen j;have acf:=Y.cell (i:=j) (z:=0) (by rw[eE xU4,bj,b.o,fe,jy,ah om]));go_roundw;have hk:=(X.o.at (w':=u)).av j V6;rw[show n-j=(n-(j+1))+1 from om,jA,lA _ _ xU4,bj,b.o,fe,iS]at hk;exact⟨j+1,om,by go_num,by rw[P.o,c9,di,jz,C.o,eO];exact hk,Q,⟨(aP w u).setCell (p:=⟨w.1.size,j,none⟩) (al _) _⟩⟩;exact xU1
  have K:E=U:=by rw[<-hE.o,r.o,ag e]
  obtain rfl:V=[]:=by rw[<-hV.o,kP,hE.o,K,ag e]
  subst K;(have b0:(E !=0)=true:=by simp[e]);clear e;go_wp2_with (go_at_call 73;refine mv (h5 F C I) λu _=>?_);go_ret2;exact⟨none,0,rfl,aB.nil _ _ _,aF⟩
 obtain rfl:j=n:=om;have e:eV (aS ss)=0:=by rw[<-T.o,eF (by rw[<-L.o];exact al _)];rfl
 obtain rfl:E=0:=by rw[<-hE.o,e]
 have ti:V=(aS ss).map bz:=by rw[<-hV.o,kP,ah e]
 have R:Own wr w.1.size 3 V:=by rw[ti];rw[fe,bY (by rw[<-L.o];exact al _)]at l;simpa using l
 have D:Hx (V=j):=ae (by rw[ti,bj,<-L.o]);clear e ti l;go_wp2_with fail;go_ret2;exact⟨some ⟨w.1.size,0,none⟩,j,by rw[D.o];rfl,by have:=aB.gK R (al _) (by rw[D.o];omega);rwa[D.o]at this,hp⟩
variable{N:bm}{L:List (List Int)}{id:Int}{i j q:Nat}
def DC(N:bm):List Int->List Int->Prop
 |_,[]=>True
 |D,id::r=>jq N D id=0/\DC N (D++[id]) r
variable{L':List (List Int)}{D r:List Int}
def DD:∀(f:Nat) (D:au),∃r,nF N f D=D++r/\DC N D r
 |0,D=>⟨[],by simp[nF],bX⟩
 |f+1,D=>by rcases h:fV N D with _|⟨id,t⟩;exact⟨[],by rw[Aq h];simp,bX⟩;obtain⟨r,b,e⟩:=DD f (D++[id]);exact⟨id::r,by rw[IC h,b];simp,(jb h).2.2,e⟩
def Aw{v:Int}(h:jq N D v=0):∀z∈bS N v,z=0\/z∈D:=λz e=>by
 have:=ya.1 h z e;by_cases b:z=0;exact .inl b;right;simpa[b]using this
def getD_set_ne{x:au}(h:i≠j):(L.set i x).getD j []=L.getD j []:=by
 rw[aQ,iD,ag h,<-aQ]
def xU3(h:Γ:=by assumption):=h
def xU0(h:Γ:=by exact absurd (eQ h).1 xU3):=h
def uH:∀(r:au) (L L':f0),gw N r L=(0,L')->∀q:Nat,(∀id∈r,id.toNat≠q)->L'.getD q []=L.getD q []
 |[],L,L',h,q,_=>by rw[gw]at h;rw[(eQ h).2]
 |id::r,L,L',h,q,hq=>by rw[gw]at h;split at h;rw[(eQ h).2];split at h;rw[uH r _ L' h q λx b=>hq x (dp _ b),getD_set_ne (hq id cm)];exact xU0
def NL:∀(r D:au) (L L':f0),gw N r L=(0,L')->(D++r).Nodup->(∀x∈D++r,x∈N.ids)->DC N D r->L=N.nodes.length+1->
  ∀id∈r,∀v,N.nodes[(id-1).toNat]?=some v->dr v.o v.P (d8 v L')=0/\L'.getD id.toNat []=cJ v.o v.P (d8 v L')
 |[],_,_,_,_,_,_,_,_,_,h,_,_=>absurd h aD
 |x::r,D,L,L',h,B,hi,hd,J,id,hid,v,hv=>by (have b:((D++[x])++r).Nodup:=by simpa using B);have C:∀y∈(D++[x])++r,y∈N.ids:=λy j=>hi y (by simpa using j);have R:=bn.1 (hi x aD);rw[gw]at h;split at h;rename_i E;rw[En]at E;omega;rename_i u hu;split at h;rename_i K;rcases cw.1 hid with rfl|hid;rw[hu]at hv;obtain rfl:=cH hv;(have F:∀y∈r,y.toNat≠id.toNat:=λy j e=>by have:=bn.1 (hi y (by simp[j]));have l:y=id:=om;rw[rr]at b;exact b.2.2 id aD y j l.symm);(have M:d8 u L'=d8 u L:=by unfold d8;refine iA λz O=>?_;(have G:z∈bS N id:=by rw[bS,hu];exact O);have m:=Aw hd.1 z G;(have hq:∀y∈r,y.toNat≠z.toNat:=λy j e=>by have Q:=bn.1 (hi y (by simp[j]));rcases m with rfl|Uo;simp at e;omega;have I:=bn.1 (hi z (by simp[Uo]));have l:y=z:=om;rw[rr]at b;exact b.2.2 z (by simp[Uo]) y j l.symm);rw[uH r _ L' h z.toNat hq,getD_set_ne λe=>?_];rcases m with rfl|Uo;simp at e;omega;have I:=bn.1 (hi z (by simp[Uo]));have l:id=z:=om;rw[rr]at B;exact B.2.2 z Uo id aD l.symm);rw[M];refine⟨K,?_⟩;rw[uH r _ L' h id.toNat F,aQ,iD,ah rfl,ah om];rfl;exact NL r (D++[x]) _ L' h b C hd.2 (by rw[d3];exact J) id hid v hv;exact xU0
def DE:∀(r:au) (L L':f0),gw N r L=(0,L')->L'.length=L.length
 |[],L,L',h=>by rw[gw]at h;rw[(eQ h).2]
 |id::r,L,L',h=>by rw[gw]at h;split at h;rw[(eQ h).2];split at h;rw[DE r _ L' h,d3];exact xU0
def Up(h:lr N.nodes.length N.nodes=0):N.kc:=λv hv id hid=>by
 have:=vS h v hv;unfold CH at this;split at this
 .split at this;rename_i h;have:=dz.1 h id hid;simpa using this;omega
 omega
def wY{x:au}(h:q<L)(e:L.getD q []=x):L[q]?=some x:=by
 rw[aQ,a5 h]at e;rw[a5 h];exact cq some e
def Ax(h:e3 N D)(m:D.length=N.nodes.length){v:Int}(hv:v∈N.ids):v∈D:=by
 by_cases hm:v∈D;exact hm;exfalso;have u:=vO (L:=N.ids.erase v) h.nd λx b=>(List.mem_erase_of_ne (λe:x=v=>hm (e▸b))).2 (h.ids x b);have j:=MN hv;have l:=MQ hv;rw[mN]at j l;omega
structure dF(N:bm)(O:List Int)(L:List (List Int))(l:Nat):Prop where
 ord:eL N=O
 lay:gw N O (lq N)=(0,L)
 len:L=N.nodes.length+1
 sB:O.length=N.nodes.length
 kh:e3 N O
 dep:DC N [] O
 fj:fj N=l
 oo:1<=l
 lE:l<=N.nodes
 kc:N.kc
 dV:aA N.dV=true
 node:∀(i:Nat) (v:et),N.nodes[i]?=some v->dr v.o v.P (d8 v L)=0/\L[i+1]?=some (cJ v.o v.P (d8 v L))
 zero:L[0]?=some N.dV
def look_ok(h:bo N=0):∃(O:au) (L:f0) (l:Nat),dB N=(O,L,(l:Int))/\dF N O L l/\N.nodes.length<=512/\bz (L.getD l [])=1:=by
 have hV:dB N=(eL N,(gw N (eL N) (lq N)).2,fj N):=by rw[dB,ah h]
 unfold bo at h;split at h
 .rename_i hm;split at h
  .rename_i hr;split at h
   .rename_i J;unfold rT at h;split at h
    .rename_i I;split at h
     .rename_i j;split at h
      .rename_i hb;split at h;rename_i B;obtain⟨q,hq,C⟩:=IG (N:=N);obtain⟨LE,E,hL⟩:∃a b,gw N (eL N) (lq N)=(a,b):=⟨_,_,rfl⟩;rw[hL]at j hV;obtain rfl:LE=0:=j;have e:e3 N (eL N):=pO _ _ e3.nil;obtain⟨r,F,G⟩:=DD (N:=N) N.nodes.length [];(have m:DC N [] (eL N):=by rw[show eL N=r from by rw[eL,F];rfl];exact G);(have y:E=N.nodes.length+1:=by rw[DE _ _ _ hL];simp[lq]);have u:=NL (eL N) [] (lq N) E hL (by simpa using e.nd) (λx K=>e.ids x (by simpa using K)) m (by simp[lq]);(have M:fj N≠0:=by unfold qX at hb;simp only[bK,bZ]at hb;exact hb.2);refine⟨eL N,E,q,by rw[hV,hq],⟨rfl,hL,y,I,e,m,hq,om,C,Up J,hr,λi v hv=>?_,?_⟩,hm.2,?_⟩;have hi:=(a8.1 hv).1;obtain⟨P,z⟩:=u ((i:Int)+1) (Ax e I (bn.2 om)) v (by rw[show((i:Int)+1-1).toNat=i from om];exact hv);rw[show((i:Int)+1).toNat=i+1 from om]at z;exact⟨P,wY om z⟩;refine wY om ?_;rw[uH _ _ _ hL 0 λid hid=>by have:=bn.1 (e.ids id hid);omega];rfl;have z:=B.2;rw[yD,hL,hq]at z;simpa using z;omega
      omega
     exact absurd h xU3
    omega
   exact absurd h xU3
  omega
 omega
variable{O:List Int}{k l:Nat}{vals:List TV}
abbrev T0:TV:=([],[])
def cM(b:List TV)(ins:au):List TV:=ins.map λz=>b.getD z.toNat T0
def dJ(N:bm)(k:Nat):Nat:=((N.nodes.take k).flatMap (·.P)).length
def iy(N:bm)(P:List TV)(k:Nat)(v:et):List TV:=(P.drop (dJ N k)).take v.P.length
structure mQ(N:bm)(P:List TV)(x:TV):Prop where
 ps:P.map (·.1)=bH N
 pok:∀t∈P,TV.ok t
 xs:x.1=N.dV
 CI:TV.ok x
 k6:∀v∈N.nodes,bb v.o.k
noncomputable def uI(N:bm)(P b:List TV)(k:Nat)(v:et):TV:=(cJ v.o v.P ((cM b v.ins).map (·.1)),vL v.o (iy N P k v) (cM b v.ins))
noncomputable def Uq(N:bm)(P b:List TV)(id:Int):List TV:=
 match N.nodes[(id-1).toNat]? with
 |none=>b
 |some v=>b.set id.toNat (uI N P b (id-1).toNat v)
noncomputable def LI(N:bm)(P:List TV)(b:List TV)(O:au):List TV:=O.foldl (Uq N P) b
def Qg(N:bm)(x:TV):List TV:=x::List.replicate N.nodes.length T0
structure tj(N:bm)(L:List (List Int))(P:List TV)(x:TV)(D:List Int)(vals:List TV):Prop where
 len:vals=N.nodes.length+1
 zero:vals.getD 0 T0=x
 sh:∀id∈D,(vals.getD id.toNat T0).1=L.getD id.toNat []/\TV.ok (vals.getD id.toNat T0)
 eq:∀id∈D,∀v,N.nodes[(id-1).toNat]?=some v->vals.getD id.toNat T0=uI N P vals (id-1).toNat v
variable{P:List TV}{x:TV}
def eh{L:List TV}{t:TV}(h:i<L):(L.set i t).getD j T0=if i=j then t else L.getD j T0:=by
 by_cases e:i=j;subst e;rw[ah rfl,aQ,fF h];rfl;rw[ag e,aQ,kH e,<-aQ]
def LJ{nodes:List et}{v:et}(h:nodes[k]?=some v):((nodes.flatMap (·.P)).drop ((nodes.take k).flatMap (·.P)).length).take v.P.length=v.P:=by
 obtain⟨b,hv⟩:=a8.1 h;have e:nodes=nodes.take k++(v::nodes.drop (k+1)):=by rw[<-hv,<-ed b,dC]
 have j:nodes.flatMap (·.P)=(nodes.take k).flatMap (·.P)++(v.P++(nodes.drop (k+1)).flatMap (·.P)):=by (conv=>lhs;rw[e]);rw[jG,g6]
 rw[j,o7 rfl,gE rfl]
def mQ.par(h:mQ N P x){v:et}(hv:N.nodes[k]?=some v):(iy N P k v).map (·.1)=v.P/\∀t∈iy N P k v,TV.ok t:=by
 refine⟨?_,λt ht=>h.pok t (dA (cE ht))⟩;unfold iy;rw[gI,kK,h.ps];exact LJ hv
def dF.at(h:dF N O L l)(hid:id∈N.ids):∃v,N.nodes[(id-1).toNat]?=some v/\dr v.o v.P (d8 v L)=0/\L.getD id.toNat []=cJ v.o v.P (d8 v L)/\bS N id=v.ins/\v∈N.nodes:=by
 have hi:=bn.1 hid;have b:(id-1).toNat<N.nodes:=om;have hv:=a5 b;obtain⟨e,j⟩:=h.node _ _ hv;refine⟨_,hv,e,?_,by rw[bS,hv];rfl,o0 b⟩;rw[aQ,show id.toNat=(id-1).toNat+1 from om,j];rfl
def dF.mem(h:dF N O L l):id∈O↔id∈N.ids:=⟨λhm=>h.kh.ids id hm,λhm=>Ax h.kh h.sB hm⟩
def Ay:∀(a D r:au) (id:Int),DC N D (a++id::r)->jq N (D++a) id=0
 |[],D,r,id,h=>by rw[en];exact h.1
 |x::a,D,r,id,h=>by have:=Ay a (D++[x]) r id h.2;simpa using this
def dF.rW(h:dF N O L l)(m:O[j]?=some id):∀z∈bS N id,z=0\/z∈O.take j:=by
 obtain⟨b,r⟩:=a8.1 m;have e:O=O.take j++id::O.drop (j+1):=by rw[<-r,<-ed b,dC]
 have:=h.dep;rw[e]at this;have:=Ay _ _ _ _ this;rw[jE]at this;exact Aw this
def dF.Qh(h:dF N O L l)(m:O[j]?=some id):id∉O.take j:=by
 obtain⟨b,r⟩:=a8.1 m;have e:O=O.take j++id::O.drop (j+1):=by rw[<-r,<-ed b,dC]
 have:=h.kh.nd;rw[e,rr]at this;exact λhm=>this.2.2 id hm id cm rfl
def dF.shx(h:dF N O L l):L.getD 0 []=N.dV:=by rw[aQ,h.zero];rfl
def tj.pick(hN:dF N O L l)(hF:mQ N P x)(h:tj N L P x D vals){v:et}(hd:∀z∈v.ins,z=0\/z∈D):(cM vals v.ins).map (·.1)=d8 v L/\∀t∈cM vals v.ins,TV.ok t:=by
 refine⟨?_,λt ht=>?_⟩;unfold cM d8;rw[lT];refine iA λz hz=>?_;rcases hd z hz with rfl|hz;show(vals.getD 0 T0).1=_;rw[h.zero,hF.xs];exact hN.shx.symm;exact(h.sh z hz).1;obtain⟨z,hz,rfl⟩:=bw.1 ht;rcases hd z hz with rfl|hz;show TV.ok (vals.getD 0 T0);rw[h.zero];exact hF.CI;exact(h.sh z hz).2
def tj.node(hN:dF N O L l)(hF:mQ N P x)(h:tj N L P x D vals)(hid:id∈N.ids)(hd:∀z∈bS N id,z=0\/z∈D):
  ∃v,N.nodes[(id-1).toNat]?=some v/\v∈N.nodes/\bS N id=v.ins/\(cM vals v.ins).map (·.1)=d8 v L/\(∀t∈cM vals v.ins,TV.ok t)/\(iy N P (id-1).toNat v).map (·.1)=v.P/\(∀t∈iy N P (id-1).toNat v,TV.ok t)/\
   dr v.o v.P (d8 v L)=0/\uI N P vals (id-1).toNat v=(L.getD id.toNat [],vL v.o (iy N P (id-1).toNat v) (cM vals v.ins))/\TV.ok (uI N P vals (id-1).toNat v):=by
 obtain⟨v,hv,hE,hS,hi,hm⟩:=hN.at hid;rw[hi]at hd;obtain⟨b,j⟩:=h.pick hN hF hd;obtain⟨e,m⟩:=hF.par hv;refine⟨v,hv,hm,hi,b,j,e,m,hE,?_,?_⟩;rw[uI,b,hS];have:=Yq (o:=v.o) (ps:=iy N P (id-1).toNat v) (xs:=cM vals v.ins) (by rw[e,b];exact hE) m j (hF.k6 v hm);rw[e]at this;exact this
def tj.step(hN:dF N O L l)(hF:mQ N P x)(h:tj N L P x D vals)(m:∀y∈D,y∈N.ids/\∀z∈bS N y,z=0\/z∈D)(hid:id∈N.ids)(r:id∉D)(hd:∀z∈bS N id,z=0\/z∈D):tj N L P x (D++[id]) (Uq N P vals id):=by
 obtain⟨v,hv,hm,hi,F,G,I,J,hE,hS,B⟩:=h.node hN hF hid hd;have hr:=bn.1 hid;have b:id.toNat<vals.length:=by rw[h.len];omega
 have hg:∀z,z∈N.ids->z≠id->(vals.set id.toNat (uI N P vals (id-1).toNat v)).getD z.toNat T0=vals.getD z.toNat T0:=λz hz E=>by have:=bn.1 hz;rw[eh b,ag om]
 have hp:∀ins:List Int,(∀z∈ins,z=0\/z∈D)->cM (vals.set id.toNat (uI N P vals (id-1).toNat v)) ins=cM vals ins:=λins j=>by refine iA λz hz=>?_;rcases j z hz with rfl|hz;rw[eh b,ag (by show¬id.toNat=0;omega)];exact hg z (m z hz).1 λe=>r (e▸hz)
 have C:∀(k:Nat) (u:et),(∀z∈u.ins,z=0\/z∈D)->uI N P (vals.set id.toNat (uI N P vals (id-1).toNat v)) k u=uI N P vals k u:=λk u hu=>by have:=hp u.ins hu;generalize vals.set id.toNat (uI N P vals (id-1).toNat v)=W at this⊢;unfold uI;rw[this]
 unfold Uq;rw[hv];dsimp only;refine⟨by rw[d3];exact h.len,?_,λy hy=>?_,λy hy u hu=>?_⟩;rw[eh b,ag om];exact h.zero;rcases bM.1 hy with hy|hy;rw[hg y (m y hy).1 λe=>r (e▸hy)];exact h.sh y hy;rw[cZ.1 hy,eh b,ah rfl];exact⟨by rw[hS],B⟩;rcases bM.1 hy with hy|hy;rw[hg y (m y hy).1 λe=>r (e▸hy),C _ u (by have:=(m y hy).2;rw[bS,hu]at this;exact this)];exact h.eq y hy u hu;have e:=cZ.1 hy;subst e;rw[hv]at hu;obtain rfl:=cH hu;rw[C _ v (by rw[hi]at hd;exact hd),eh b,ah rfl]
def vU(hN:dF N O L l)(hF:mQ N P x):∀j,j<=O.length->tj N L P x (O.take j) (LI N P (Qg N x) (O.take j))
 |0,_=>by rw[dW];exact⟨by simp[LI,Qg],rfl,λid h=>(nR h).elim,λid h=>(nR h).elim⟩
 |j+1,hj=>by have r:=vU hN hF j om;have b:j<O.length:=om;have hO:=a5 b;(have e:O.take (j+1)=O.take j++[O[j]]:=by rw[jC,hO];rfl);rw[e];have:=r.step hN hF (λy m=>?_) (hN.kh.ids _ (aC hO)) (hN.Qh hO) (hN.rW hO);unfold LI at this⊢;rw[lN];exact this;refine⟨hN.kh.ids _ (cE m),λz u=>?_⟩;obtain⟨i,hi⟩:=eN m;rw[eG]at hi;split at hi;rcases hN.rW hi z u with h0|h0;exact .inl h0;right;(have:O.take i=(O.take j).take i:=by rw[fd,dQ om]);rw[this]at h0;exact cE h0;cases hi
noncomputable def dU(N:bm)(P:List TV)(x:TV):List TV:=LI N P (Qg N x) (eL N)
def kQ(hN:dF N O L l)(hF:mQ N P x):tj N L P x O (dU N P x):=by
 have:=vU hN hF O.length (al _);rw[dR]at this;rw[dU,hN.ord];exact this
variable{gr:List TV}
def iz(g more:TV):TV:=if g.2=[]then more else(g.1,g.2.zipWith bQ more.2)
def iQ(gr:List TV):List Int->List TV->List TV
 |z::zs,t::ts=>iQ (gr.set z.toNat (iz (gr.getD z.toNat T0) t)) zs ts
 |_,_=>gr
noncomputable def oU(N:bm)(P b gr:List TV)(id:Int)(v:et):List TV:=jZ v.o (iy N P (id-1).toNat v) (cM b v.ins) (gr.getD id.toNat T0).1 (gr.getD id.toNat T0).2
noncomputable def Az(N:bm)(P b gr:List TV)(id:Int)(v:et):List TV:=ql v.o (iy N P (id-1).toNat v) (cM b v.ins) (gr.getD id.toNat T0).1 (gr.getD id.toNat T0).2
def q8(G gp:List TV)(a:Nat):List TV:=G.take a++gp++G.drop (a+gp.length)
noncomputable def LK(N:bm)(P b:List TV)(s:List TV×List TV)(id:Int):List TV×List TV:=
 match N.nodes[(id-1).toNat]? with
 |none=>s
 |some v=>(iQ s.1 v.ins (oU N P b s.1 id v),q8 s.2 (Az N P b s.1 id v) (dJ N (id-1).toNat))
noncomputable def LL(N:bm)(P b:List TV)(s:List TV×List TV)(R:au):List TV×List TV:=R.foldl (LK N P b) s
def nH(S:au):TV:=(S,List.replicate (ax S).toNat 4294967296)
def q2(N:bm)(L:f0)(l:Nat)(P:List TV):List TV×List TV:=((List.replicate (N.nodes.length+1) T0).set l (nH (L.getD l [])),List.replicate P.length T0)
def AA(L:f0)(gr:List TV)(z:Int):Prop:=gr.getD z.toNat T0=T0\/((gr.getD z.toNat T0).1=L.getD z.toNat []/\TV.ok (gr.getD z.toNat T0))
structure vV(N:bm)(L:List (List Int))(l:Nat)(P:List TV)(R:List Int)(s:List TV×List TV):Prop where
 len:s.1=N.nodes.length+1
 acg:s.2.length=P.length
 sh:∀z:Int,0<=z->z<=N.nodes->AA L s.1 z
 ne:∀z:Int,0<=z->z<=N.nodes->((s.1.getD z.toNat T0).2≠[]↔z=l\/∃u∈R,z∈bS N u)
 Qi:∀t∈s.2,t=T0\/TV.ok t
variable{R:List Int}{s:List TV×List TV}
def TV.ok.ne{t:TV}(h:TV.ok t):t.2≠[]:=λe=>by
 obtain⟨n,b,j,_⟩:=cP h.right;have:=h.len;rw[e,b]at this;simp at this;omega
def TV.ok.add{g t:TV}(hg:TV.ok g)(ht:TV.ok t)(h:t.1=g.1):TV.ok (g.1,g.2.zipWith bQ t.2):=by
 have e:=hg.len;have b:=ht.len;rw[h]at b;exact qW hg.right (by rw[yi];omega) Dp
def AB{g t:TV}{S:au}(hg:g=T0\/g.1=S/\TV.ok g)(ht:t.1=S)(h:TV.ok t):(iz g t).1=S/\TV.ok (iz g t):=by
 unfold iz;rcases hg with rfl|⟨b,e⟩;rw[ah rfl];exact⟨ht,h⟩;rw[ag e.ne];exact⟨b,e.add h (by rw[ht,b])⟩
def uJ{m:Nat}:∀(zs:au) (ts:List TV) (gr:List TV),gr=m+1->(∀z∈zs,0<=z/\z<=m)->ts.map (·.1)=zs.map (λz=>L.getD z.toNat [])->(∀t∈ts,TV.ok t)->(∀z:Int,0<=z->z<=m->AA L gr z)->
  (iQ gr zs ts).length=m+1/\(∀z:Int,0<=z->z<=m->AA L (iQ gr zs ts) z)/\(∀z:Int,0<=z->z<=m->(((iQ gr zs ts).getD z.toNat T0).2≠[]↔(gr.getD z.toNat T0).2≠[]\/z∈zs))/\∀z:Int,0<=z->z∉zs->(iQ gr zs ts).getD z.toNat T0=gr.getD z.toNat T0
 |[],ts,gr,r,_,_,_,hg=>by (have e:iQ gr [] ts=gr:=by cases ts<;>rfl);rw[e];exact⟨r,hg,λz _ _=>aD,λz _ _=>rfl⟩
 |y::zs,[],gr,_,_,hs,_,_=>by simp at hs
 |y::zs,t::ts,gr,r,E,hs,ht,hg=>by rw[iQ];simp only[di,List.cons.injEq]at hs;have F:=E y cm;(have B:y.toNat<gr.length:=by rw[r];omega);obtain⟨J,G⟩:=AB (hg y F.1 F.2) hs.1 (ht t cm);(have j:∀z:Int,0<=z->(gr.set y.toNat (iz (gr.getD y.toNat T0) t)).getD z.toNat T0=if y=z then iz (gr.getD y.toNat T0) t else gr.getD z.toNat T0:=λz b=>by rw[eh B];by_cases e:y=z;rw[ah e,ah (by rw[e])];rw[ag e,ag om]);(obtain⟨r1,r2,K,M⟩:=uJ zs ts (gr.set y.toNat (iz (gr.getD y.toNat T0) t)) (by rw[d3];exact r) (λz h=>E z (dp _ h)) hs.2 (λu h=>ht u (dp _ h)) λz b C=>by unfold AA;rw[j z b];split;rename_i e;subst e;exact .inr ⟨J,G⟩;exact hg z b C);refine⟨r1,r2,λz b C=>?_,λz b I=>?_⟩;rw[K z b C,j z b,cw];by_cases e:y=z;subst e;rw[ah rfl];exact⟨λ_=>.inr (.inl rfl),λ_=>.inl G.ne⟩;rw[ag e];constructor;rintro(h|h);exact .inl h;exact .inr (.inr h);rintro(h|h|h);exact .inl h;exact absurd h.symm e;exact .inr h;rw[M z b λh=>I (dp _ h),j z b,ag λe=>I (by rw[<-e];exact cm)]
def uL{S:au}(h:aA S=true):TV.ok (nH S):=by
 obtain⟨n,b,j,m⟩:=cP h;refine qW h (by rw[eY,b];simp) λz e=>?_;rw[eH e];exact⟨am,am⟩
def dF.right(hN:dF N O L l)(hF:mQ N P x)(b:0<=z)(j:z<=N.nodes):aA (L.getD z.toNat [])=true:=by
 by_cases e:z=0;subst e;show aA (L.getD 0 [])=true;rw[hN.shx];exact hN.dV;have hid:z∈N.ids:=bn.2 om;have:=(kQ hN hF).sh z (hN.mem.2 hid);rw[<-this.1];exact this.2.right
def Qj(hN:dF N O L l)(hF:mQ N P x):vV N L l P [] (q2 N L l P):=by
 have r:=hN.lE;have m:l<(List.replicate (N.nodes.length+1) T0).length:=by rw[eY];omega
 have hr:=hN.right hF (z:=(l:Int)) om om;rw[aZ]at hr;have b:=uL hr;have j:∀z:Int,(List.replicate (N.nodes.length+1) T0).getD z.toNat T0=T0:=λz=>by rw[aQ,jy];split<;>rfl
 refine⟨by simp[q2],by simp[q2],λz y B=>?_,λz y B=>?_,λt ht=>.inl (eH ht)⟩
 .unfold AA;rw[q2,eh m];split;rename_i e;rw[<-e];exact .inr ⟨rfl,b⟩;exact .inl (j z)
 rw[q2,eh m];split;rename_i e;exact⟨λ_=>.inl om,λ_=>b.ne⟩;rename_i e;rw[j z];constructor;intro h;exact absurd rfl h;rintro(h|⟨u,hu,_⟩);omega;cases hu
def oV(h:O.reverse[d]?=some id):d<O/\O[O.length-1-d]?=some id:=by
 have hd:=(a8.1 h).1;rw[List.length_reverse]at hd;rw[xU hd]at h;exact⟨hd,h⟩
def oW(h:y∈D.take j):∃i,i<j/\D[i]?=some y:=by
 obtain⟨i,hi⟩:=eN h;rw[eG]at hi;split at hi;exact⟨i,by assumption,hi⟩;cases hi
def DF(hi:i<j)(h:D[i]?=some y):y∈D.take j:=by
 refine aC (i:=i) ?_;rw[eG,ah hi];exact h
def DG(u:D.Nodup)(hi:D[i]?=some y)(z:D[j]?=some y):i=j:=by
 obtain⟨b,e⟩:=a8.1 hi;obtain⟨m,r⟩:=a8.1 z;have hp:=nS.1 u;rcases Et i j with h|h|h;exact absurd (e.trans r.symm) (hp i j b m h);exact h;exact absurd (r.trans e.symm) (hp j i m b h)
def dF.IK(hN:dF N O L l)(h:O.reverse[d]?=some id)(hu:z∈N.ids)(hi:id∈bS N z):z∈O.reverse.take d:=by
 obtain⟨hd,h⟩:=oV h;have hid:=hN.kh.ids id (aC h);have y:=bn.1 hid;obtain⟨j,b⟩:=eN (hN.mem.2 hu);have m:=(a8.1 b).1;rcases hN.rW b id hi with h0|h0;omega;obtain⟨i,r,e⟩:=oW h0;have:=DG hN.kh.nd e h;refine DF (i:=O.length-1-j) om ?_;rw[xU om,show O.length-1-(O.length-1-j)=j from om];exact b
def LM(h:bo N=0)(hid:id∈N.ids)(b:id≠fj N):∃u∈N.ids,id∈bS N u:=by
 have j:qX N=true:=by
  unfold bo at h;split at h
  .split at h
   .split at h
    .unfold rT at h;split at h
     .split at h
      .split at h;assumption;omega
      rename_i e;exact absurd h e
     omega
    rename_i e;exact absurd h e
   omega
  omega
 simp only[qX,bK,bZ]at j;have hr:=bn.1 hid;rcases hq:iI N N.nodes.length 0 id.toNat with _|_
 .exfalso;(have hm:id.toNat∈CC N:=by unfold CC;rw[rx,iU];exact⟨om,by rw[hq];rfl⟩);match hu:CC N,j.1 with
  |[a],_=>rw[hu]at hm;have:=cZ.1 hm;apply b;rw[fj,hu];show id=((a:Nat):Int);omega
 unfold iI at hq;rw[dW,bY (al _)]at hq;simp only[List.contains_nil,tR,Ej]at hq;obtain⟨v,hv,m⟩:=hq;obtain⟨i,hi⟩:=eN hv;have r:=(a8.1 hi).1;refine⟨(i:Int)+1,bn.2 om,?_⟩;rw[bS,show((i:Int)+1-1).toNat=i from om,hi];have:(id.toNat:Int)=id:=om;rw[this]at m;simpa using m
def vV.there(hN:dF N O L l)(hE:bo N=0)(h:vV N L l P (O.reverse.take d) s)(hd:O.reverse[d]?=some id):(s.1.getD id.toNat T0).1=L.getD id.toNat []/\TV.ok (s.1.getD id.toNat T0):=by
 have hid:=hN.kh.ids id (aC (oV hd).2);have hr:=bn.1 hid;have b:(s.1.getD id.toNat T0).2≠[]:=by rw[h.ne id om hr.2];by_cases e:id=l;exact .inl e;obtain⟨u,hu,hi⟩:=LM hE hid (by rw[hN.fj];exact e);exact .inr ⟨u,hN.IK hd hu hi,hi⟩
 rcases h.sh id om hr.2 with h0|h0;rw[h0]at b;exact absurd rfl b;exact h0
def vV.parts(hN:dF N O L l)(hF:mQ N P x)(hv:tj N L P x O vals)(hid:id∈N.ids)(hg:(gr.getD id.toNat T0).1=L.getD id.toNat []/\TV.ok (gr.getD id.toNat T0)):
  ∃v,N.nodes[(id-1).toNat]?=some v/\v∈N.nodes/\bS N id=v.ins/\(cM vals v.ins).map (·.1)=d8 v L/\(∀t∈cM vals v.ins,TV.ok t)/\(iy N P (id-1).toNat v).map (·.1)=v.P/\(∀t∈iy N P (id-1).toNat v,TV.ok t)/\dr v.o v.P (d8 v L)=0/\cJ v.o v.P (d8 v L)=(gr.getD id.toNat T0).1/\
   (oU N P vals gr id v).map (·.1)=d8 v L/\(∀t∈oU N P vals gr id v,TV.ok t)/\(Az N P vals gr id v).map (·.1)=v.P/\∀t∈Az N P vals gr id v,TV.ok t:=by
 obtain⟨v,C,hm,hi,u,B,y,E,hE,hS,-⟩:=hv.node hN hF hid λz F=>by obtain⟨v,hv,_,_,hi,hm⟩:=hN.at hid;rw[hi]at F;have:=hN.kc v hm z F;by_cases e:z=0;exact .inl e;exact .inr (hN.mem.2 (bn.2 om))
 obtain⟨G,b,_,j,_,_⟩:=hN.at hid;obtain rfl:v=G:=by rw[C]at b;exact cH b
 have m:dr v.o ((iy N P (id-1).toNat v).map (·.1)) ((cM vals v.ins).map (·.1))=0:=by rw[y,u];exact hE
 have r:cJ v.o ((iy N P (id-1).toNat v).map (·.1)) ((cM vals v.ins).map (·.1))=(gr.getD id.toNat T0).1:=by rw[y,u,<-j,hg.1]
 obtain⟨x1,x2⟩:=It m B (hF.k6 v hm) r (g:=(gr.getD id.toNat T0).2) hg.2;obtain⟨p1,I⟩:=NE m E B r (g:=(gr.getD id.toNat T0).2) hg.2;rw[u]at x1;rw[y]at p1;exact⟨v,C,hm,hi,u,B,y,E,hE,by rw[<-j,hg.1],x1,x2,p1,I⟩
def Us(hF:mQ N P x){v:et}(hv:N.nodes[k]?=some v):dJ N k+v.P.length<=P:=by
 have b:P=(bH N).length:=by rw[<-hF.ps,bj]
 obtain⟨j,m⟩:=a8.1 hv;have e:N.nodes=N.nodes.take k++(v::N.nodes.drop (k+1)):=by rw[<-m,<-ed j,dC]
 have r:bH N=(N.nodes.take k).flatMap (·.P)++(v.P++(N.nodes.drop (k+1)).flatMap (·.P)):=by (conv=>lhs;rw[bH,e]);rw[jG,g6]
 rw[b,r,bh,bh,dJ];omega
def vV.step(hN:dF N O L l)(hE:bo N=0)(hF:mQ N P x)(hv:tj N L P x O vals)(h:vV N L l P (O.reverse.take d) s)(hd:O.reverse[d]?=some id):vV N L l P (O.reverse.take (d+1)) (LK N P vals s id):=by
 have hid:=hN.kh.ids id (aC (oV hd).2);obtain⟨v,r,hm,hi,I,J,K,M,B,C,x1,x2,p1,E⟩:=vV.parts hN hF hv hid (h.there hN hE hd);have j:∀z∈v.ins,0<=z/\z<=N.nodes.length:=hN.kc v hm;obtain⟨r1,r2,F,Q⟩:=uJ (L:=L) v.ins (oU N P vals s.1 id v) s.1 h.len j x1 x2 h.sh;have e:O.reverse.take (d+1)=O.reverse.take d++[id]:=by rw[jC,hd];rfl
 have m:(Az N P vals s.1 id v).length=v.P:=by rw[<-bj (f:=(·.1)),p1]
 have G:=Us hF r;unfold LK;rw[r];dsimp only;refine⟨r1,?_,r2,λz y b=>?_,λt ht=>?_⟩;rw[q8,bh,bh,bO,eo,h.acg,m];omega;rw[F z y b,h.ne z y b,e];constructor;rintro((h|⟨u,hu,b⟩)|h);exact .inl h;exact .inr ⟨u,nb _ hu,b⟩;exact .inr ⟨id,aD,by rw[hi];exact h⟩;rintro(h|⟨u,hu,b⟩);exact .inl (.inl h);rcases bM.1 hu with hu|hu;exact .inl (.inr ⟨u,hu,b⟩);rw[cZ.1 hu,hi]at b;exact .inr b;rw[q8]at ht;rcases bM.1 ht with ht|ht;rcases bM.1 ht with ht|ht;exact h.Qi t (cE ht);exact .inr (E t ht);exact h.Qi t (dA ht)
def rX(hN:dF N O L l)(hE:bo N=0)(hF:mQ N P x)(hv:tj N L P x O vals):∀d,d<=O.length->vV N L l P (O.reverse.take d) (LL N P vals (q2 N L l P) (O.reverse.take d))
 |0,_=>by rw[dW];exact Qj hN hF
 |d+1,hd=>by have j:=rX hN hE hF hv d om;(have b:d<O.reverse.length:=by rw[List.length_reverse];omega);have hO:=a5 b;have:=j.step hN hE hF hv hO;(have e:O.reverse.take (d+1)=O.reverse.take d++[O.reverse[d]]:=by rw[jC,hO];rfl);rw[e]at this⊢;unfold LL at this⊢;rw[lN];exact this
noncomputable def lw(N:bm)(P:List TV)(x:TV):List TV×List TV:=LL N P (dU N P x) (q2 N (dB N).2.1 (dB N).2.2.toNat P) (eL N).reverse
noncomputable def ra(N:bm)(P:List TV)(x:TV):Int:=((dU N P x).getD (fj N).toNat T0).2.getD 0 0
end Go.Proofs.YtmkjnlifimffkaaGreat
