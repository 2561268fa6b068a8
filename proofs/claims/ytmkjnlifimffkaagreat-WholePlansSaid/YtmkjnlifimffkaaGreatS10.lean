/- Lemmas. -/
import Derived.RangeFuncNested
import Derived.RangeFuncBound
import Derived.RangeFuncCalls
import Derived.RangeFuncLeaves
import Derived.OwnWalkIn
import Derived.TacticsInMore
import Derived.LoopNIn
import Derived.LoopIn
import Derived.Test.YtmkjnlifimffkaaGreatS09
import Derived.Test.YtmkjnlifimffkaaGreatS08
namespace Go.Proofs.YtmkjnlifimffkaaGreat
open Go.RowKit Tryz
set_option linter.all false
set_option maxRecDepth 100000
set_option maxHeartbeats 0
variable{Γ:Prop}
attribute[local irreducible]Calls
variable{W u w:World}{l n:Nat}
structure db{β:Type}(B:Nat)(I:β->World->Prop):Prop where
 grow:∀s A C,I s A->Below A.1.size A C->I s C
 iO:∀s A l o o',I s A->B<=l->A.heap[l]?=some o->o.isCells=false->I s (A.putObj l o')
def eR(W:aa)(o:Obj):Below W.1.size W (W.alloc o):=(aV _ _).alloc (al _) _
def zC{n₀:Nat}{o:Obj}(b:Obj)(h:W.heap[l]?=some o)(j:n₀<=l):Below n₀ W (W.putObj l b):=
 (aV n₀ W).grown (grownBy_putObj' W l b) (by have:=(dP.1 h).1;omega) (λk e=>by cases e;exact j)
variable{β:Type}{B:Nat}
def db.and{I J:β->World->Prop}(h:db B I)(k:db B J):db B (λs W=>I s W/\J s W):=
 ⟨λs A C hi hb=>⟨h.grow s A C hi.1 hb,k.grow s A C hi.2 hb⟩,λs A l o b hi e j m=>⟨h.iO s A l o b hi.1 e j m,k.iO s A l o b hi.2 e j m⟩⟩
def db.pure(p:β->Prop):db B (λs _=>p s):=⟨λ_ _ _ h _=>h,λ_ _ _ _ _ h _ _ _=>h⟩
def db.none_:db B (λ(_:β) _=>False):=db.pure λ_=>False
def db.ak(g:β->Nat)(T:TypeId)(cs:β->Array Value):db B (λs W=>az W (g s) T (cs s)):=
 ⟨λ_ _ _ h hb=>h.keep hb,λ_ _ _ _ _ h _ b e=>by
  refine(World.putObj_heap_other ?_).trans h;rintro rfl;unfold az at h;rw[h]at b;injection b with b
  subst b;cases e⟩
def db.own(g:β->Nat)(T:TypeId)(zs:β->List Int):db B (λs W=>Own W (g s) T (zs s)):=
 ⟨λ_ _ _ h hb=>h.keep hb,λ_ _ _ _ _ h _ b e=>by
  refine(World.putObj_heap_other ?_).trans h;rintro rfl;unfold Own at h;rw[h]at b;injection b with b
  subst b;cases e⟩
def db.below(b:n<=w.1.size)(h:n<=B):db B (λ(_:β) W=>Below n w W):=
 ⟨λ_ _ _ hi hb=>hi.trans (hb.mono (aL b hi.size)),λ_ _ _ _ e hi j l _=>hi.trans ((zC (n₀:=n) e l (aL h j)))⟩
def kv{B:Nat}(h:Below W.1.size W u):KeepsFrom B W u:=
 KeepsOthers.from ⟨h.size,λk _ b _=>(h.block k (dP.1 b).1).trans b⟩ B
def mE{B:Nat}(h:KeepsFrom B W u)(p:Addr)(v:Value):KeepsFrom B W (u.setCell p v):=h.trans ((KeepsOthers.setCell _ _ _).from B)
section
variable{g:Nat}{T:TypeId}{cs:Array Value}{P:Program}{Q:Exit->Act->World->Prop}{a:Act}
structure dL(n:Nat)(A B:World):Prop where
 size:A.1.size<=B.1.size
 same:∀k,n<=k->k<A.1.size->B.heap[k]?=A.heap[k]?
def dL.trans{A B C:aa}(h:dL n A B)(k:dL n B C):dL n A C:=⟨aL h.size k.size,λi hi b=>(k.same i hi (bu b h.size)).trans (h.same i hi b)⟩
def dL.below{A B:aa}(h:Below A.1.size A B):dL n A B:=⟨h.size,λk _ b=>h.block k b⟩
def dL.av{A:aa}{p:Addr}(v:Value)(hp:p.block<n):dL n A (A.setCell p v):=⟨aD,λk b _=>ba A p v k om⟩
def dL.put{A:aa}{o:Obj}(b:Obj)(h:A.heap[l]?=some o)(e:l<n):dL n A (A.putObj l b):=
 ⟨(zC (n₀:=0) b h (aM _)).size,λk j _=>World.putObj_heap_other om⟩
def dL.ak{A B:aa}(h:dL n A B)(hb:az A g T cs)(hg:n<=g):az B g T cs:=(h.same g hg hb.lt).trans hb
def SO{α:Type}(P:Program)(u:Nat)(y z:m0)(m:α->Array Value)(C:List α->α->Prop)(S Sp:List α->Prop)(w:aa):Prop:=
 ∀(l:Nat) (J r:List α->World->Prop) (W:aa),Below w.1.size w W->
  (∀s A B,J s A->Below A.1.size A B->J s B)->(∀s A B,r s A->Below A.1.size A B->r s B)->
  (∀b x W1,J b W1->C b x->YieldAt Fence.wide 1 P l (m x) W1 λe j=>
   (e=.returned (.bool true)/\J (b++[x]) j/\dL W.1.size W1 j)\/(e=.returned (.bool false)/\r (b++[x]) j))->
  J [] W->
  CallsIn Fence.wide 2 P u (y++ #[.func (.yield l) #[] #[]]++z) W λe j=>(∃v,e=.returned v)/\((∃xs,S xs/\J xs j)\/(∃b,Sp b/\r b j))
def KT{α:Type}(B n:Nat)(I:List α->World->Prop)(b:Code->List α->World->Prop)(xs:List α)(W:aa):Exit->Act->World->Prop
 |.normal,_,W'=>KeepsFrom B W W'/\dL n W W'/\I xs W'
 |.ret,_,W'=>KeepsFrom B W W'/\b .ret xs W'
 |.exit id,_,W'=>KeepsFrom B W W'/\b (.exit id) xs W'
 |.goto t,_,W'=>KeepsFrom B W W'/\b (.goto t) xs W'
 |.panic _,_,_=>False
 |.outgrown,_,_=>False
def C9{α:Type}{g:Operand}{ps:Array Tmp}{assign body:Code}{gf:Nat}{fb lb:m0}
  (hg:a.eval g=.func (.func gf) fb lb) (eg:∀args w,(callFunc gf args).run P w=.ok (.enter gf args) w)
  {r:α->Array Value} {Px:List α->α->Prop} {S Sp:List α->Prop}  (U:SO P gf fb lb r Px S Sp u)
  (hb0:Below u.1.size u w) (xp:∀x,(r x).size=ps.size)
  (I:List α->World->Prop) (Ix:Code->List α->World->Prop) (M:db w.1.size I) (C:∀c,db w.1.size (Ix c))
  (h0:I [] w) (a₁:α->World->Act) (J:α->World->World) (Ax:α->Nat->World->Prop) (V:∀x W,Below W.1.size W (J x W)) (hAx:∀x W,Ax x W.1.size (J x W))
  (hAt:∀x n A l o o',Ax x n A->A.heap[l]?=some o->o.isCells=false->Ax x n (A.putObj l o'))
  (E:∀(l:Nat) (x:α) (W:aa) (K:Act->World->Prop),K (a₁ x W) (J x W)->
   assign.wpIn (Fence.wide.inRound l) 1 P (Exit.then K (λ_ _ _=>False)) {tmps:=(ps.zip (r x)).foldl (λt (p,v)=>t.setIfInBounds p v) a.tmps,defers:=[]} W)
  (N:∀(l:Nat) (j:List α) (x:α) (y W:aa),I j W->Px j x->w.1.size+2<=y.1.size->y.1.size<=W.1.size->Ax x y.1.size W->
   body.wpIn (Fence.wide.inRound l) 1 P (KT w.1.size (w.1.size+2) I Ix (j++[x]) W) (a₁ x y) W)
  (O:∀(D:Nat) (xs:List α) (W:aa),w.1.size<=D->S xs->I xs W->W.heap[D]?=some (.deferred (some []))->Q .normal {a with defers:={target:=.collected D,args:= #[]}::a.defers} W)
  (R:∀(D:Nat) (c:Code) (j:List α) (W:aa),w.1.size<=D->Sp j->Ix c j W->W.heap[D]?=some (.deferred (some []))->c.wpIn Fence.wide 3 P Q {a with defers:={target:=.collected D,args:= #[]}::a.defers} W):
  (Code.rangeFunc g ps assign body).wpIn Fence.wide 3 P Q a w:=by
 refine wpIn_rangeFunc ?_;intro fn hfn;let lp:LoopState->Option Code->Loop:=λst pe=>{state:=st,pending:=pe,fn,tmps:=a.tmps,params:=ps,assign,body,defers:=w.1.size};let W1:World:=(w.alloc (.deferred (some []))).alloc (.loop (lp .ready none));have X:W1.heap[w.1.size+1]?=some (.loop (lp .ready none)):=by have:=World.alloc_heap_new (w.alloc (.deferred (some []))) (.loop (lp .ready none));rwa[MW]at this
 have Y:W1.heap[w.1.size]?=some (.deferred (some [])):=(nj _ _ _ aD).trans (World.alloc_heap_new w _);have Z:I [] W1:=M.grow _ _ _ (M.grow _ _ _ h0 (eR _ _)) (eR _ _);have abN:Below u.1.size u W1:=du hb0 (du (eR _ _) (eR _ _));have e1:W1.1.size=w.1.size+2:=by simp[W1]
 refine⟨w.1.size+1,[{target:=.collected w.1.size,args:= #[]}],W1,{target:=.fn (.func gf) lb,args:=fb++ #[.func (.yield (w.1.size+1)) #[] #[]]},W1,gf,
  fb++ #[.func (.yield (w.1.size+1)) #[] #[]]++lb,W1,run_enterLoop_outer _ _ _ _ _,?_,?_,?_,λ_=>om,?_⟩
 .simp only[resolve,hg];simp[go_sem]
 intro f' _;trivial
 .simp[invoke,go_sem,eg]
 refine(U (w.1.size+1)
  (λj W=>I j W/\W.heap[w.1.size+1]?=some (.loop (lp .ready none))/\W.heap[w.1.size]?=some (.deferred (some [])))
  (λj W=>∃c,Ix c j W/\W.heap[w.1.size+1]?=some (.loop (lp .done (some c)))/\W.heap[w.1.size]?=some (.deferred (some [])))
  W1 abN ?_ ?_ ?_ ⟨Z,X,Y⟩).mono ?_
 rintro s A B ⟨hi,m,hd⟩ hb;exact⟨M.grow _ _ _ hi hb,(hb.block _ (dP.1 m).1).trans m,(hb.block _ (dP.1 hd).1).trans hd⟩;rintro s A B ⟨c,hi,m,hd⟩ hb;exact⟨c,(C c).grow _ _ _ hi hb,(hb.block _ (dP.1 m).1).trans m,(hb.block _ (dP.1 hd).1).trans hd⟩
 .rintro j x y ⟨E6,T,oK⟩ hx;have abO:w.1.size+1<y.1.size:=(dP.1 T).1;let W:World:=J x y;have bA:Below y.1.size y W:=V x y;have hi:I j W:=M.grow _ _ _ E6 bA;have m:W.heap[w.1.size+1]?=some (.loop (lp .ready none)):=(bA.block _ abO).trans T;have hd:W.heap[w.1.size]?=some (.deferred (some [])):=(bA.block _ (dP.1 oK).1).trans oK;have bE:w.1.size+1<W.1.size:=(dP.1 m).1;refine⟨fn,_,assign,body,run_yield (P:=P) (args:=r x) T (xp x),roundIn_of_wpIn hfn (E _ x y _ ⟨_,run_beginRound m rfl,?_⟩)⟩;let W2:World:=W.putObj (w.1.size+1) (.loop {lp .ready none with state:=.busy});have abP:W2.heap[w.1.size+1]?=some (.loop {lp .ready none with state:=.busy}):=World.putObj_heap_same bE;have abQ:W2.heap[w.1.size]?=some (.deferred (some [])):=(World.putObj_heap_other om).trans hd;have L:dL (w.1.size+2) y W2:=(dL.below bA).trans (dL.put _ m om);refine wpIn_mono (N _ j x y W2 (M.iO _ _ _ _ _ hi om m rfl) hx om L.size (hAt _ _ _ _ _ _ (hAx x y) m rfl)) ?_
  have fin:∀(b:Option Code) (z:aa),KeepsFrom w.1.size W2 z->
    (Instr.endRound (w.1.size+1) b).run P z=.ok (.bool b.isNone) (z.putObj (w.1.size+1) (.loop (lp (if b.isNone then .ready else .done) b)))/\
    z.heap[w.1.size+1]?=some (.loop {lp .ready none with state:=.busy})/\
    (z.putObj (w.1.size+1) (.loop (lp (if b.isNone then .ready else .done) b))).heap[w.1.size+1]?=some (.loop (lp (if b.isNone then .ready else .done) b))/\
    (z.putObj (w.1.size+1) (.loop (lp (if b.isNone then .ready else .done) b))).heap[w.1.size]?=some (.deferred (some [])):=λb z G=>by
   have F:=G.same _ _ om abP rfl;exact⟨run_endRound (P:=P) b F,F,World.putObj_heap_same (dP.1 F).1,(World.putObj_heap_other om).trans (G.same _ _ (al _) abQ rfl)⟩
  rintro e a3 z hp;cases e with
  |normal=>have⟨G,hb,KU⟩:=hp;have⟨hr,xe,B9,KV⟩:=fin none z G;exact⟨_,_,hr,.inl ⟨rfl,⟨M.iO _ _ _ _ _ KU om xe rfl,B9,KV⟩,by rw[e1];exact(L.trans hb).trans (dL.put _ xe om)⟩⟩
  |ret=>have⟨G,KU⟩:=hp;have⟨hr,xe,B9,KV⟩:=fin (some .ret) z G;exact⟨_,_,hr,.inr ⟨rfl,.ret,(C _).iO _ _ _ _ _ KU om xe rfl,B9,KV⟩⟩
  |exit id=>have⟨G,KU⟩:=hp;have⟨hr,xe,B9,KV⟩:=fin (some (.exit id)) z G;exact⟨_,_,hr,.inr ⟨rfl,.exit id,(C _).iO _ _ _ _ _ KU om xe rfl,B9,KV⟩⟩
  |goto t=>have⟨G,KU⟩:=hp;have⟨hr,xe,B9,KV⟩:=fin (some (.goto t)) z G;exact⟨_,_,hr,.inr ⟨rfl,.goto t,(C _).iO _ _ _ _ _ KU om xe rfl,B9,KV⟩⟩
  |panic ch=>exact hp.elim
  |outgrown=>exact hp.elim
 rintro e W2 ⟨⟨v,rfl⟩,(⟨xs,hS,hi,m,hd⟩|⟨j,hSp,c,hi,m,hd⟩)⟩;exact⟨none,_,run_endLoop (P:=P) m (by simp[lp]),O _ xs _ (al _) hS (M.iO _ _ _ _ _ hi om m rfl) ((World.putObj_heap_other om).trans hd)⟩;exact⟨some c,_,run_endLoop (P:=P) m (by simp[lp]),R _ c j _ (al _) hSp ((C c).iO _ _ _ _ _ hi om m rfl) ((World.putObj_heap_other om).trans hd)⟩
end
variable{b i j k m q:Nat}
structure CF where
 O:Nat
 C:Nat
 K:Nat
 L:Nat
 H:Nat
 W:Nat
 M:Nat
 N:Nat
 S:Nat
abbrev gY:=Nat×Nat×Nat
section
variable(f:CF)
def CF.place(p i j:Nat):Nat:=(p*f.M+i)*f.N+j
def CF.wt(p q t u:Nat):Nat:=(p*f.C+q)*(f.K*f.L)+t*f.L+u
def CF.SP(i j q t u:Nat):Nat:=q*(f.H*f.W)+(i*f.S*f.W+j*f.S)+t*f.W+u
def CF.KW(p i j q t u:Nat):gY:=(f.place p i j,f.wt p q t u,f.SP i j q t u)
def CF.uT(p i j q t u:Nat):List gY:=(List.range u).flatMap λu=>[f.KW p i j q t u]
def CF.tT(p i j q t:Nat):List gY:=(List.range t).flatMap λt=>f.uT p i j q t f.L
def CF.qT(p i j q:Nat):List gY:=(List.range q).flatMap λq=>f.tT p i j q f.K
def CF.cT(p i j:Nat):List gY:=f.qT p i j f.C
def CF.jT(p i j:Nat):List gY:=(List.range j).flatMap λj=>f.cT p i j
def CF.iT(p i:Nat):List gY:=(List.range i).flatMap λi=>f.jT p i f.N
def CF.pT(p:Nat):List gY:=(List.range p).flatMap λp=>f.iT p f.M
def CF.all:List gY:=f.pT f.O
end
def k9{α:Type}(g:Nat->List α)(n:Nat):(List.range (n+1)).flatMap g=(List.range n).flatMap g++g n:=by simp[g5]
def l9{α:Type}(g:Nat->List α)(h:k<n):∃r,(List.range n).flatMap g=(List.range k).flatMap g++(g k++r):=by
 induction n with
 |zero=>omega
 |succ n b=>by_cases e:k=n;subst e;exact⟨[],by rw[k9,en]⟩;have⟨r,hr⟩:=b om;exact⟨r++g n,by rw[k9,hr];simp⟩
variable{f:CF}
def HM{T e b:List gY}{p t:Nat}(r:T=e++(f.cT p i j++b))(hq:q<f.C)(ht:t<f.K)(hu:m<f.L):
  ∃l,T=(e++(f.qT p i j q++(f.tT p i j q t++f.uT p i j q t m)))++f.KW p i j q t m::l:=by
 have⟨r1,h1⟩:=l9 (λq=>f.tT p i j q f.K) hq;have⟨r2,h2⟩:=l9 (λt=>f.uT p i j q t f.L) ht;have⟨r3,h3⟩:=l9 (λm=>[f.KW p i j q t m]) hu;refine⟨r3++(r2++(r1++b)),?_⟩;rw[r,CF.cT,CF.qT,h1,CF.tT,h2,CF.uT,h3];simp[CF.qT,CF.tT,CF.uT]
def HN{p:Nat}(hp:p<f.O)(hi:i<f.M)(e:j<f.N):∃b,f.all=(f.pT p++(f.iT p i++f.jT p i j))++(f.cT p i j++b):=by
 have⟨r1,h1⟩:=l9 (λp=>f.iT p f.M) hp;have⟨r2,h2⟩:=l9 (λi=>f.jT p i f.N) hi;have⟨r3,h3⟩:=l9 (λj=>f.cT p i j) e;refine⟨r3++(r2++r1),?_⟩;rw[CF.all,CF.pT,h1,CF.iT,h2,CF.jT,h3];simp[CF.pT,CF.iT,CF.jT]
def SQ(p i j q t u:Nat):f.uT p i j q t (u+1)=f.uT p i j q t u++[f.KW p i j q t u]:=k9 _ _
def SR(p i j q t:Nat):f.tT p i j q (t+1)=f.tT p i j q t++f.uT p i j q t f.L:=k9 _ _
def SS(p i j q:Nat):f.qT p i j (q+1)=f.qT p i j q++f.tT p i j q f.K:=k9 _ _
def SU(p i j:Nat):f.jT p i (j+1)=f.jT p i j++f.cT p i j:=k9 _ _
def SV(p i:Nat):f.iT p (i+1)=f.iT p i++f.jT p i f.N:=k9 _ _
def SW(p:Nat):f.pT (p+1)=f.pT p++f.iT p f.M:=k9 _ _
structure zD(f:CF):Prop where
 h:∀i,i<f.M->i*f.S+f.K<=f.H
 w:∀j,j<f.N->j*f.S+f.L<=f.W
 ow:f.O*(f.C*(f.K*f.L))<=65536
 ox:f.C*(f.H*f.W)<=65536
 oy:f.O*(f.M*f.N)<=65536
 o1:1<=f.O
 c1:1<=f.C
 k1:1<=f.K
 l1:1<=f.L
 m1:1<=f.M
 n1:1<=f.N
 s2:f.S<=1024
variable{p t u:Nat}
def lex_lt{a A B:Nat}(e:a<A)(hb:b<B):a*B+b<A*B:=by
 have:(a+1)*B<=A*B:=cU _ e;rw[d5]at this;omega
def Da(hp:p<f.O)(hi:i<f.M)(b:j<f.N):f.place p i j<f.O*(f.M*f.N):=by
 rw[<-tQ];exact lex_lt (lex_lt hp hi) b
def aaD(hp:p<f.O)(hq:q<f.C)(ht:t<f.K)(hu:u<f.L):f.wt p q t u<f.O*(f.C*(f.K*f.L)):=by
 have b:=lex_lt ht hu;have e:=lex_lt (lex_lt hp hq) b;rw[<-tQ];unfold CF.wt;omega
def Xy(b:zD f)(hi:i<f.M)(e:j<f.N)(hq:q<f.C)(ht:t<f.K)(hu:u<f.L):f.SP i j q t u<f.C*(f.H*f.W):=by
 have r:=b.h i hi;have y:=b.w j e;have l:(i*f.S+t)*f.W+(j*f.S+u)<f.H*f.W:=lex_lt om om;have m:=lex_lt hq l;rw[hx]at m;unfold CF.SP;omega
def rN{α:Type}{g:Nat->List α}{x:α}(h:x∈(List.range n).flatMap g):∃k,k<n/\x∈g k:=by
 have⟨k,hk,hx⟩:=jI.1 h;exact⟨k,iU.1 hk,hx⟩
def SX{x:gY}(h:x∈f.all):∃p i j q t u,p<f.O/\i<f.M/\j<f.N/\q<f.C/\t<f.K/\u<f.L/\x=f.KW p i j q t u:=by
 have⟨p,hp,h⟩:=rN h;have⟨i,hi,h⟩:=rN h;have⟨j,hj,h⟩:=rN h;have⟨q,hq,h⟩:=rN h;have⟨t,ht,h⟩:=rN h;have⟨u,hu,h⟩:=rN h;exact⟨p,i,j,q,t,u,hp,hi,hj,hq,ht,hu,by simpa using h⟩
def No(e:zD f){x:gY}(h:x∈f.all):x.1<f.O*(f.M*f.N)/\x.2.1<f.O*(f.C*(f.K*f.L))/\x.2.2<f.C*(f.H*f.W):=by
 obtain⟨p,i,j,q,t,u,hp,hi,b,hq,ht,hu,rfl⟩:=SX h;exact⟨Da hp hi b,aaD hp hq ht hu,Xy e hi b hq ht hu⟩
def uq(f:CF):Value:=.agg #[f.O,f.C,f.K,f.L,f.H,f.W,f.M,f.N,f.S,f.L,.int .i64 ((f.K*f.L:Nat):Int),.int .i64 ((f.H*f.W:Nat):Int)]
def ur(x:gY):Array Value:= #[.agg #[x.1,x.2.1,x.2.2]]
def SY(P:Program)(l n0:Nat)(T:List gY)(J m:List gY->World->Prop):Prop:=
 (∀s A B,J s A->Below A.1.size A B->J s B)/\(∀s A B,m s A->Below A.1.size A B->m s B)/\
  ∀b x W1,J b W1->(∃j,T=b++x::j)->YieldAt Fence.wide 1 P l (ur x) W1 λe r=>
   (e=.returned (.bool true)/\J (b++[x]) r/\dL n0 W1 r)\/(e=.returned (.bool false)/\m (b++[x]) r)
def O2(n0:Nat)(T:List gY)(J m:List gY->World->Prop)(all:List gY)(w:aa)(e:Ending)(l:aa):Prop:=
 (e=.returned (.bool true)/\J all l/\dL n0 w l)\/(e=.returned (.bool false)/\∃b,(∃j,T=b++j)/\m b l)
def HO(f)(D:Hx (zD f))(p i j)(hp:p<f.O)(hi:i<f.M)(hj:j<f.N)(l n0)(T b)(hT:Hx (∃B,T=b++(f.cT p i j++B)))(J Jx:List gY->World->Prop)(w)
  (hh:Hx (SY prog l n0 T J Jx)) (hn:n0<=w.1.size) (h0:J b w):
  CallsIn Fence.wide 2 prog 263 #[uq f,p,i,j,.func (.yield l) #[] #[]] w (O2 n0 T J Jx (b++f.cT p i j) w):=by
 have k1:=D.o.k1;have l1:=D.o.l1;have c1:=D.o.c1;have n1:=D.o.n1;have ow:=D.o.ow;have ox:=D.o.ox;have oy:=D.o.oy;have hfh:=D.o.h i hi;have hfw:=D.o.w j hj;have CB:=@ay;obtain⟨m,r⟩:=lh (f.K*f.L);obtain⟨z,y⟩:=lh (f.H*f.W);obtain⟨A1,R⟩:=lh (p*f.M);obtain⟨A2,E⟩:=lh ((A1+i)*f.N);obtain⟨B1,hB1⟩:=lh (i*f.S);obtain⟨B2,U⟩:=lh (B1*f.W);obtain⟨B3,hB3⟩:=lh (j*f.S);obtain⟨V,F⟩:=lh (p*f.C);obtain⟨PL,X⟩:=lh (A2+j);obtain⟨CO,hCO⟩:=lh (B2+B3);have bPL:PL<f.O*(f.M*f.N):=by have:=Da hp hi hj;unfold CF.place at this;rw[R,E,X]at this;exact this
 have bA1:A1+i<=A2:=by rw[<-E];exact Ep _ n1
 have w1:1<=f.W:=om;have bW:f.H<=z/\f.W<=z:=⟨by rw[<-y];exact Ep _ w1,by rw[<-y];exact Eu _ om⟩;have bHW:z<=65536:=by have:1*z<=f.C*z:=cU _ c1;rw[y]at ox;omega
 have bB2:B2<=z:=by rw[<-U,<-y];exact cU _ om
 have bKL:m<=65536/\f.O*f.C<=65536/\1<=m/\f.C<=65536:=by (have SZ:1<=m:=by rw[<-r];exact jK k1 l1);rw[r,<-tQ]at ow;have G:1*m<=f.O*f.C*m:=cU _ (jK om c1);have e2:f.O*f.C*1<=f.O*f.C*m:=fS _ SZ;have e3:1*f.C<=f.O*f.C:=cU _ om;omega
 have bK:f.K<=m/\f.L<=m:=⟨by rw[<-r];exact Ep _ l1,by rw[<-r];exact Eu _ k1⟩;have bD1:V<=65536:=by have:p*f.C<=f.O*f.C:=cU _ (fq hp);omega
 have bp:p<=65536/\i<=65536/\j<=65536:=by have G:1*f.C<=f.O*f.C:=cU _ om;have e2:f.O*1<=f.O*f.C:=fS _ c1;omega
 have m1:(p:Int)*(f.M:Int)=(A1:Int):=by rw[<-R,b8]
 have m2:((A1:Int)+(i:Int))*(f.N:Int)=(A2:Int):=by rw[<-E,b8,ee]
 have m3:(A2:Int)+(j:Int)=(PL:Int):=by rw[<-X,ee]
 have m4:(i:Int)*(f.S:Int)=(B1:Int):=by rw[<-hB1,b8]
 have m5:(B1:Int)*(f.W:Int)=(B2:Int):=by rw[<-U,b8]
 have m6:(j:Int)*(f.S:Int)=(B3:Int):=by rw[<-hB3,b8]
 have m7:(B2:Int)+(B3:Int)=(CO:Int):=by rw[<-hCO,ee]
 have m8:(p:Int)*(f.C:Int)=(V:Int):=by rw[<-F,b8]
 have adB:PL<=65536/\A2<=65536:=om;have bB:B1<=f.H/\B3<=f.W/\CO<=131072:=om;rw[show uq f=.agg #[f.O,f.C,f.K,f.L,f.H,f.W,f.M,f.N,f.S,f.L,m,z]from by rw[uq,r,y]];have FC:Hx (f.place p i j=PL):=ae (by rw[CF.place,R,E,X]);have HWT:Hx (∀q t u,f.wt p q t u=(V+q)*m+t*f.L+u):=λq t u=>by rw[CF.wt,F,r]
 have Cd:Hx (∀q t u,f.SP i j q t u=q*z+CO+t*f.W+u):=λq t u=>by rw[CF.SP,hB1,U,hB3,y,hCO]
 have HOW:Hx (f.O*(f.C*m)<=65536):=ae (by rw[<-r];exact ow);have HOX:Hx (f.C*z<=65536):=ae (by rw[<-y];exact ox);change Hx _ at r y F;refine callsIn_of_wp func263 rfl bX ?_;simp only[ntmps263,ij,dj,iW,Nat.reduceAdd,Nat.reduceSub,Array.replicate_succ,Array.replicate_zero,List.push_toArray,List.append_toArray,jE,tP];gi_wp2;gi_loopw [46] (λv wr=>∃q:Nat,q<=f.C/\v=.int .i64 q/\J (b++f.qT p i j q) wr/\Bx wr w.1.size 327 #[f.O,f.C,f.K,f.L,f.H,f.W,f.M,f.N,f.S,f.L,m,z]/\dL n0 w wr) (λv _=>f.C-(intOf v).toNat);exact⟨0,aM _,rfl,by rw[show f.qT p i j 0=[]from rfl,en];exact hh.o.1 _ _ _ h0 (eR _ _),aq,dL.below (eR _ _)⟩;obtain⟨q,hq,rfl,P,Y,Q⟩:=hrel;by_cases hlq:q<f.C
 .obtain⟨D2,I⟩:=lh ((V+q)*m);obtain⟨E1,Z⟩:=lh (q*z);(have bDq:V+q<f.O*f.C:=by rw[<-F.o];exact lex_lt hp hlq);(have bD2:D2+m<=65536:=by have G:(V+q+1)*m<=f.O*f.C*m:=cU _ bDq;have e2:=HOW.o;rw[<-tQ]at e2;rw[d5,I]at G;omega);(have bE1:E1<=65536:=by have G:q*z<=f.C*z:=cU _ hq;have e2:=HOX.o;omega);(have m9:((V:Int)+(q:Int))*(m:Int)=(D2:Int):=by rw[<-I,b8,ee]);(have m10:(q:Int)*(z:Int)=(E1:Int):=by rw[<-Z,b8]);change Hx _ at I Z;gi_wp2;gi_loopw [61] (λv wr=>∃t:Nat,t<=f.K/\v=.int .i64 t/\J (b++(f.qT p i j q++f.tT p i j q t)) wr/\Bx wr w.1.size 327 #[f.O,f.C,f.K,f.L,f.H,f.W,f.M,f.N,f.S,f.L,m,z]/\dL n0 w wr) (λv _=>f.K-(intOf v).toNat);exact⟨0,aM _,rfl,by rw[show f.tT p i j q 0=[]from rfl,en];exact P,Y,Q⟩;obtain⟨t,ht,rfl,P,Y,Q⟩:=hrel;by_cases bE:t<f.K
  .obtain⟨E2,hE2⟩:=lh (t*f.W);obtain⟨F1,hF1⟩:=lh (t*f.L);obtain⟨FR,hFR⟩:=lh (E1+CO+E2);obtain⟨G1,hG1⟩:=lh (D2+F1);(have bE2:E2<=131072:=by have sf:=D.o.h i hi;have G:t*f.W<=f.H*f.W:=cU _ om;rw[y.o]at G;omega);(have bF1:F1+f.L<=m:=by have G:(t+1)*f.L<=f.K*f.L:=cU _ bE;rw[d5,hF1,r.o]at G;exact G);(have m11:(t:Int)*(f.W:Int)=(E2:Int):=by rw[<-hE2,b8]);(have m12:(E1:Int)+(CO:Int)+(E2:Int)=(FR:Int):=by rw[<-hFR,ee,ee]);(have m13:(t:Int)*(f.L:Int)=(F1:Int):=by rw[<-hF1,b8]);(have HL:(D2:Int)+(F1:Int)=(G1:Int):=by rw[<-hG1,ee]);have bFR:FR<=1000000:=om;have bG1:G1+f.L<=65536:=om;(have HX:Hx (∀u,f.KW p i j q t u=(PL,G1+u,FR+u)):=λu=>by rw[CF.KW,FC.o,HWT.o,Cd.o,I.o,Z.o,hE2,hF1,hFR,hG1]);gi_wp2;gi_loopw [78] (λv wr=>∃u:Nat,u<=f.L/\v=.int .i64 u/\J (b++(f.qT p i j q++(f.tT p i j q t++f.uT p i j q t u))) wr/\Bx wr w.1.size 327 #[f.O,f.C,f.K,f.L,f.H,f.W,f.M,f.N,f.S,f.L,m,z]/\dL n0 w wr) (λv _=>f.L-(intOf v).toNat);exact⟨0,aM _,rfl,by rw[show f.uT p i j q t 0=[]from rfl,en];exact P,Y,Q⟩;obtain⟨u,hu,rfl,P,Y,Q⟩:=hrel;by_cases hlu:u<f.L
   .have⟨B,hT0⟩:=hT.o;have⟨post,S0⟩:=HM hT0 hlq bE hlu;obtain⟨WT,hWT⟩:=lh (G1+u);obtain⟨FM,hFM⟩:=lh (FR+u);have hx:=HX.o u;rw[hWT,hFM]at hx;rw[hx]at S0;(have m15:(G1:Int)+(u:Int)=(WT:Int):=by rw[<-hWT,ee]);(have O3:(FR:Int)+(u:Int)=(FM:Int):=by rw[<-hFM,ee]);have bWT:WT<=65536:=om;have bFM:FM<=2000000:=om;have⟨fn,tmps,assign,body,hy,hR⟩:=hh.o.2.2 _ (PL,WT,FM) wr P ⟨post,S0⟩;simp only[ur]at hy;change Hx _ at hx S0;gi_wp2;refine hR.mono ?_;rintro e W' (⟨rfl,hJ',hk⟩|⟨rfl,abR⟩)
    .gi_wp2;go_roundw;exact⟨u+1,om,by go_num,by rw[SQ,hx.o];simpa using hJ',⟨hk.ak Y.ak hn⟩,Q.trans hk⟩;simp[intOf];omega
    gi_wp2;go_ret;exact .inr ⟨rfl,_,⟨post,by rw[S0.o];simp⟩,abR⟩
   obtain rfl:u=f.L:=om;gi_wp2;go_roundw;exact⟨t+1,om,by go_num,by rw[SR];exact P,Y,Q⟩;simp[intOf];omega
  obtain rfl:t=f.K:=om;gi_wp2;go_roundw;exact⟨q+1,om,by go_num,by rw[SS];exact P,Y,Q⟩;simp[intOf];omega
 obtain rfl:q=f.C:=om;gi_wp2;go_ret;exact .inl ⟨rfl,P,Q⟩
def Xz(T e:List gY)(x:gY):Prop:=∃b,T=e++x::b
def XC(T e:List gY):Prop:=∃b,T=e++b
def zE(f)(r:Hx (zD f))(w):SO prog 221 #[uq f] #[] ur (Xz f.all) (λxs=>xs=f.all) (XC f.all) w:=by
 intro l J Z W hb hJ Q hY R;have HH:Hx (SY prog l W.1.size f.all J Z):=ae ⟨hJ,Q,λu x W1 h1 h2=>hY u x W1 h1 h2⟩;have ow:=r.o.ow;have ox:=r.o.ox;have oy:=r.o.oy;have o1:=r.o.o1;have m1:=r.o.m1;have n1:=r.o.n1;have CB:=@ay;obtain⟨I,T⟩:=lh (f.K*f.L);obtain⟨P,U⟩:=lh (f.H*f.W);have y:uq f=.agg #[f.O,f.C,f.K,f.L,f.H,f.W,f.M,f.N,f.S,f.L,I,P]:=by rw[uq,T,U]
 have bO:f.O<=65536/\f.M<=65536/\f.N<=65536:=by have e1:f.O*1<=f.O*(f.M*f.N):=fS _ (jK m1 n1);have e2:1*(f.M*f.N)<=f.O*(f.M*f.N):=cU _ o1;have e3:f.M*1<=f.M*f.N:=fS _ n1;have e4:1*f.N<=f.M*f.N:=cU _ m1;omega
 have CC:=ae λp i j hp hi hj z hT w1 hn R=>HO f r p i j hp hi hj l W.1.size f.all z hT J Z w1 HH hn R;rw[y]at CC;have V:=ae y;refine callsIn_of_wp func221 rfl bX ?_;rw[V.o];simp only[ntmps221,ij,dj,iW,Nat.reduceAdd,Nat.reduceSub,Array.replicate_succ,Array.replicate_zero,List.push_toArray,List.append_toArray,jE,tP];gi_wp2;gi_loopw [9] (λv wr=>∃p:Nat,p<=f.O/\v=.int .i64 p/\J (f.pT p) wr/\Bx wr W.1.size 327 #[f.O,f.C,f.K,f.L,f.H,f.W,f.M,f.N,f.S,f.L,I,P]) (λv _=>f.O-(intOf v).toNat);exact⟨0,aM _,rfl,hJ _ _ _ R (eR _ _),aq⟩;obtain⟨p,hp,rfl,b,m⟩:=hrel;by_cases B:p<f.O
 .gi_wp2;gi_loopw [15] (λv wr=>∃i:Nat,i<=f.M/\v=.int .i64 i/\J (f.pT p++f.iT p i) wr/\Bx wr W.1.size 327 #[f.O,f.C,f.K,f.L,f.H,f.W,f.M,f.N,f.S,f.L,I,P]) (λv _=>f.M-(intOf v).toNat);exact⟨0,aM _,rfl,by rw[show f.iT p 0=[]from rfl,en];exact b,m⟩;obtain⟨i,hi,rfl,b,m⟩:=hrel;by_cases D:i<f.M
  .gi_wp2;gi_loopw [21] (λv wr=>∃j:Nat,j<=f.N/\v=.int .i64 j/\J (f.pT p++(f.iT p i++f.jT p i j)) wr/\Bx wr W.1.size 327 #[f.O,f.C,f.K,f.L,f.H,f.W,f.M,f.N,f.S,f.L,I,P]) (λv _=>f.N-(intOf v).toNat);exact⟨0,aM _,rfl,by rw[show f.jT p i 0=[]from rfl,en];exact b,m⟩;obtain⟨j,hj,rfl,b,m⟩:=hrel;by_cases E:j<f.N
   .have X:W.1.size<=wr.1.size:=fq m.ak.lt;have hs:=HN B D E;gi_wp2;refine⟨bX,(callsIn_wide.2 (callsIn_wide.1 (CC.o p i j B D E _ hs wr X b))).mono ?_⟩;rintro e W' (⟨rfl,Y,hk⟩|⟨rfl,u,F,G⟩)
    .gi_wp2;go_roundw;exact⟨j+1,om,by go_num,by rw[SU];simpa using Y,⟨hk.ak m.ak (al _)⟩⟩;simp[intOf];omega
    gi_wp2;exact aX (results_none rfl _ _ _) rfl<|⟨⟨_,rfl⟩,.inr ⟨u,F,G⟩⟩
   obtain rfl:j=f.N:=om;gi_wp2;go_roundw;exact⟨i+1,om,by go_num,by rw[SV];exact b,m⟩;simp[intOf];omega
  obtain rfl:i=f.M:=om;gi_wp2;go_roundw;exact⟨p+1,om,by go_num,by rw[SW];exact b,m⟩;simp[intOf];omega
 obtain rfl:p=f.O:=om;gi_wp2;go_end0;exact⟨⟨_,rfl⟩,.inl ⟨_,rfl,b⟩⟩
section
variable{g:Nat}{T:TypeId}{P:Program}{zs:List Int}
def Own.setRow{l:au}(h:Own w g T l)(b:au):Own (w.setRow g (ints b)) g T b:=by
 unfold Own at h⊢;simp[World.setRow,vf,h]
def l0(w:aa)(g k:Nat)(cs:m0)(h:k≠g):(w.setRow g cs).heap[k]?=w.heap[k]?:=by
 simp only[World.setRow,vf];rw[ag om]
def below_setRow{B:Nat}{a:aa}(h:Below B a w)(hg:B<=g)(cs:m0):Below B a (w.setRow g cs):=
 h.trans ⟨rfl,rfl,rfl,by simp[World.setRow],λk b=>l0 _ _ _ _ om⟩
def over(l zs:au)(o:Nat):List Int:=l.take o++zs++l.drop (o+zs.length)
def fK(u y B m:TypeId)(hu:P.underlying u=some (.slice m))(hs:(P.info? m).map (·.size)=some 1)
     {l:au} (C:Own w g T l) {oa o dLen dCap sLen sCap:Nat} (h:Rd w (some ⟨b,oa,none⟩) zs) (D:zs.length=Nat.min sLen dLen) (r:o+zs.length<=l.length):
  (Builtin.copy_ #[u,y] B #[.slice (some ⟨g,o,none⟩) dLen dCap,.slice (some ⟨b,oa,none⟩) sLen sCap]).run P w=.ok (.int .i64 zs.length) (w.setRow g (ints (over l zs o))):=by
 have:=run_copy_row (P:=P) w u y B m g o dLen dCap ⟨b,oa,none⟩ sLen sCap (ints l) T (zs.map (Value.int .i64)) hu hs C (by simpa using D) (λj v hv=>by
  rw[bf]at hv;obtain⟨z,E,rfl⟩:=bt.1 hv;have:=h.all E;unfold Addr.add
  split
  .rename_i e;subst e;exact this
  .exact this) (by simpa[yH]using r) (by simp[Value.oneCell'])
 rw[this];have e:((ints l).toList.take o++zs.map (Value.int .i64)++(ints l).toList.drop (o+(zs.map (Value.int .i64)).length)).toArray=ints (over l zs o):=by simp[ints,over]
 rw[e];simp[goInt]
end
section
variable{P:Program}{M c d e off:Nat}{xs:List Int}{A B D:Option Addr}
def kw(t)(ht:P.underlying t=some (.slice (P.elem t)))(hs:(P.info? (P.elem t)).map (·.size)=some 1)(b off m d lo)(l:lo<=m)(r:lo<d):
  ∀w,(Instr.slice t (.slice (some ⟨b,off,none⟩) m d) (some (.int .i64 (lo:Int))) none none).run P w=.ok (.slice (some ⟨b,off+lo,none⟩) (m-lo) (d-lo)) w:=by
 intro w;rw[dN w t _ m d ht .i64 lo om om,h1 hs];have e:d≠lo:=om;by_cases j:lo=0;subst j;simp[Result.andThen,sliced,Addr.add,e];simp[Result.andThen,sliced,Addr.add,e,j]
theorem Sl.cut(h:Sl w (some ⟨b,off,none⟩) m xs){F W:Nat}(hF:F+W<=m):Sl w (some ⟨b,off+F,none⟩) W ((xs.drop F).take W):=by
 refine⟨λj z l=>?_,by have:=h.len;simp;omega⟩;rw[eG]at l;split at l;rw[fb]at l;obtain⟨C,r,e,hb,u⟩:=h.rd _ z l;injection e with e;injection e with y B;subst y;subst B;exact⟨b,off+F,rfl,hb,by rw[lM];exact u⟩;cases l
def xK6(h:Γ:=by exact(((((O1.av 2 1).av 3 1).av 4 1).av 5 1).av 6 1).av 7 1):=h
def xK8(h:Γ:=by exact Own.new j 327 [(O:Int),C,0,0,0,0,0,0,S,0,0,0]):=h
def xKb(h:Γ:=by simp[results,results220,go_sem,r0,r1,r2,r3,r4,r5,r6,r7,r8,r9,r10,r11]):=h
def HP{O C L W N S:Nat}[a:Sl w A 3 [(O:Int),C,L]][b:Sl w B 2 [(C:Int),W]][g:Sl w D 2 [(O:Int),N]](h3:3<=c)(h2:2<=d)(he:2<=e)(hL:L<=1024)(hW:W<=1024):
  () 220 #[(A,3,c),(B,2,d),(D,2,e),S] w (aJ w (uq ⟨O,C,1,L,1,W,1,N,S⟩)):=by
 obtain⟨CB,CP⟩:=kU;obtain⟨ba,oa,z,rfl,oba,ca0,hz⟩:=a.get (k:=0) om;obtain rfl:z=(O:Int):=by have:=hz.o;simpa using this.symm
 have ca1:=a.rd.all (k:=1) (z:=(C:Int)) rfl;obtain⟨bb,ob,z,rfl,XD,-,-⟩:=b.get (k:=0) om;obtain⟨bg,og,z,rfl,obg,-,-⟩:=g.get (k:=0) om;simp only[ef]at ca0;clear hz;go_in;go_wp2_with fail;have FB:=@aO;refine ab w ao (λj _=>?_);refine qL [0,1,2,3,4,5,6,7] ?_;refine aK 8 λK hK=>?_;go_simp;refine aG hK<|aK 9 λK hK=>?_;go_simp;refine aG hK<|a9 ?_;obtain⟨V,r⟩:=lg (j.alloc (.cells #[O,C,an,an,an,an,an,an,S,an,an,an] 327));rw[<-r];have O1:Own V j.1.size 327 [(O:Int),C,0,0,0,0,0,0,S,0,0,0]:=by rw[r];exact xK8
 have p1:aj V j:=r▸aj.alloc _ _;have hB:Bx V j.1.size 327 #[O,C,an,an,an,an,an,an,S,an,an,an]:=⟨O1⟩;clear r;go_upto_region 3 with fail;obtain⟨v2,u⟩:=lg ((((((V.setCell (j.1.size,2) (1:Int)).setCell (j.1.size,3) (1:Int)).setCell (j.1.size,4) (1:Int)).setCell (j.1.size,5) (1:Int)).setCell (j.1.size,6) (1:Int)).setCell (j.1.size,7) (1:Int));rw[<-u];have O2:Own v2 j.1.size 327 [(O:Int),C,1,1,1,1,1,1,S,0,0,0]:=by rw[u];exact xK6
 have p2:aj v2 j:=⟨by rw[u];exact((((((aP j V).setCell (al _) _).setCell (al _) _).setCell (al _) _).setCell (al _) _).setCell (al _) _).setCell (al _) _⟩;clear u hB p1 O1;have l1:=kw (P:=prog) 25 ao ao bg og 2 e 1 om om;have l2:=kw (P:=prog) 25 ao ao ba oa 3 c 2 om om;have l3:=kw (P:=prog) 25 ao ao bb ob 2 d 1 om om;simp only[EE,Nat.reduceSub]at l1 l2 l3;have sa:Sl w (some ⟨ba,oa+2,none⟩) 1 [(L:Int)]:=a.cut (F:=2) (W:=1) om;have sb:Sl w (some ⟨bb,ob+1,none⟩) 1 [(W:Int)]:=b.cut (F:=1) (W:=1) om;have sg:Sl w (some ⟨bg,og+1,none⟩) 1 [(N:Int)]:=g.cut (F:=1) (W:=1) om;go_wp2_with fail;refine ab j ao (λQ _=>?_);refine qL [0,1,2,3,4] ?_;refine aK 5 λK hK=>?_;have m:=λX=>fK (P:=prog) 24 25 X 3 underlying24 ao ((O2).at (w':=Q)) (o:=3) (dLen:=1) (dCap:=1) (sLen:=1) (sCap:=c-2) (zs:=[(L:Int)]) ((sa).rd.at (w':=Q)) rfl aD;go_simp;refine qt hK (λ_=>?_) ⟨below_setRow (aP j Q) (al _) _⟩;clear hK K m;refine a9 ?_;obtain⟨v3,y⟩:=lg ((Q).setRow j.1.size (ints (over [(O:Int),C,1,1,1,1,1,1,S,0,0,0] [(L:Int)] 3)));rw[<-y];have O3:Own v3 j.1.size 327 [(O:Int),C,1,L,1,1,1,1,S,0,0,0]:=by rw[y];exact((O2).at (w':=Q)).setRow [(O:Int),C,1,L,1,1,1,1,S,0,0,0]
 have p3:aj v3 j:=⟨by rw[y];exact below_setRow (aP j Q) (al _) _⟩;clear y;go_wp2_with fail;refine ab j ao (λR _=>?_);refine qL [0,1,2,3,4] ?_;refine aK 5 λK hK=>?_;have m:=λX=>fK (P:=prog) 24 25 X 3 underlying24 ao ((O3).at (w':=R)) (o:=5) (dLen:=1) (dCap:=1) (sLen:=1) (sCap:=d-1) (zs:=[(W:Int)]) ((sb).rd.at (w':=R)) rfl aD;go_simp;refine qt hK (λ_=>?_) ⟨below_setRow (aP j R) (al _) _⟩;clear hK K m;refine a9 ?_;obtain⟨v4,E⟩:=lg ((R).setRow j.1.size (ints (over [(O:Int),C,1,L,1,1,1,1,S,0,0,0] [(W:Int)] 5)));rw[<-E];have O4:Own v4 j.1.size 327 [(O:Int),C,1,L,1,W,1,1,S,0,0,0]:=by rw[E];exact((O3).at (w':=R)).setRow [(O:Int),C,1,L,1,W,1,1,S,0,0,0]
 have p4:aj v4 j:=⟨by rw[E];exact below_setRow (aP j R) (al _) _⟩;clear E;go_wp2_with fail;refine ab j ao (λT _=>?_);refine qL [0,1,2,3,4] ?_;refine aK 5 λK hK=>?_;have m:=λX=>fK (P:=prog) 24 25 X 3 underlying24 ao ((O4).at (w':=T)) (o:=7) (dLen:=1) (dCap:=1) (sLen:=1) (sCap:=e-1) (zs:=[(N:Int)]) ((sg).rd.at (w':=T)) rfl aD;go_simp;refine qt hK (λ_=>?_) ⟨below_setRow (aP j T) (al _) _⟩;clear hK K m;refine a9 ?_;obtain⟨Y,G⟩:=lg ((T).setRow j.1.size (ints (over [(O:Int),C,1,L,1,W,1,1,S,0,0,0] [(N:Int)] 7)));rw[<-G];have O5:Own Y j.1.size 327 [(O:Int),C,1,L,1,W,1,N,S,0,0,0]:=by rw[G];exact((O4).at (w':=T)).setRow [(O:Int),C,1,L,1,W,1,N,S,0,0,0]
 have p5:aj Y j:=⟨by rw[G];exact below_setRow (aP j T) (al _) _⟩;clear G;have B5:Bx Y j.1.size 327 #[O,C,(1:Int),L,(1:Int),W,(1:Int),N,S,an,an,an]:=⟨O5⟩;go_upto_region 8 with fail;obtain⟨Z,I⟩:=lg ((Y).setCell (j.1.size,9) (L:Int));rw[<-I];have O6:Own Z j.1.size 327 [(O:Int),C,1,L,1,W,1,N,S,L,0,0]:=by rw[I];exact(O5).av 9 (L:Int)
 have p6:aj Z j:=⟨by rw[I];exact(aP j Y).setCell (al _) _⟩;clear I;have B6:Bx Z j.1.size 327 #[O,C,(1:Int),L,(1:Int),W,(1:Int),N,S,L,an,an]:=⟨O6⟩;go_upto_region 9 with fail;obtain⟨v7,J⟩:=lg ((Z).setCell (j.1.size,10) (L:Int));rw[<-J];have O7:Own v7 j.1.size 327 [(O:Int),C,1,L,1,W,1,N,S,L,L,0]:=by rw[J];exact(O6).av 10 (L:Int)
 have p7:aj v7 j:=⟨by rw[J];exact(aP j Z).setCell (al _) _⟩;clear J;have B7:Bx v7 j.1.size 327 #[O,C,(1:Int),L,(1:Int),W,(1:Int),N,S,L,L,an]:=⟨O7⟩;go_upto_region 10 with fail;obtain⟨U,M⟩:=lg ((v7).setCell (j.1.size,11) (W:Int));rw[<-M];have O8:Own U j.1.size 327 [(O:Int),C,1,L,1,W,1,N,S,L,L,W]:=by rw[M];exact(O7).av 11 (W:Int)
 have p8:aj U j:=⟨by rw[M];exact(aP j v7).setCell (al _) _⟩;clear M;have B8:Bx U j.1.size 327 #[O,C,(1:Int),L,(1:Int),W,(1:Int),N,S,L,L,W]:=⟨O8⟩;have BR:Bx U w.1.size 327 #[an,an,an,an,an,an,an,an,an,an,an,an]:=aq;go_wp2_with fail;have OR0:Own U w.1.size 327 [0,0,0,0,0,0,0,0,0,0,0,0]:=(BR).ak;have l:=(((((((((((OR0.av 0 (O:Int)).av 1 (C:Int)).av 2 1).av 3 (L:Int)).av 4 1).av 5 (W:Int)).av 6 1).av 7 (N:Int)).av 8 (S:Int)).av 9 (L:Int)).av 10 (L:Int)).av 11 (W:Int);have BF:=((((((((((((aP w U).setCell (p:=⟨w.1.size,0,none⟩) (al _) (O:Int)).setCell (p:=⟨w.1.size,1,none⟩) (al _) (C:Int)).setCell (p:=⟨w.1.size,2,none⟩) (al _) (1:Int)).setCell (p:=⟨w.1.size,3,none⟩) (al _) (L:Int)).setCell (p:=⟨w.1.size,4,none⟩) (al _) (1:Int)).setCell (p:=⟨w.1.size,5,none⟩) (al _) (W:Int)).setCell (p:=⟨w.1.size,6,none⟩) (al _) (1:Int)).setCell (p:=⟨w.1.size,7,none⟩) (al _) (N:Int)).setCell (p:=⟨w.1.size,8,none⟩) (al _) (S:Int)).setCell (p:=⟨w.1.size,9,none⟩) (al _) (L:Int)).setCell (p:=⟨w.1.size,10,none⟩) (al _) (L:Int)).setCell (p:=⟨w.1.size,11,none⟩) (al _) (W:Int);have r0:=l.cell (i:=0) (z:=(O:Int)) rfl;have r1:=l.cell (i:=1) (z:=(C:Int)) rfl;have r2:=l.cell (i:=2) (z:=1) rfl;have r3:=l.cell (i:=3) (z:=(L:Int)) rfl;have r4:=l.cell (i:=4) (z:=1) rfl;have r5:=l.cell (i:=5) (z:=(W:Int)) rfl;have r6:=l.cell (i:=6) (z:=1) rfl;have r7:=l.cell (i:=7) (z:=(N:Int)) rfl;have r8:=l.cell (i:=8) (z:=(S:Int)) rfl;have r9:=l.cell (i:=9) (z:=(L:Int)) rfl;have r10:=l.cell (i:=10) (z:=(L:Int)) rfl;have r11:=l.cell (i:=11) (z:=(W:Int)) rfl;exact aX (v:=.agg #[O,C,(1:Int),L,(1:Int),W,(1:Int),N,S,L,L,W]) xKb rfl<|⟨by rw[uq,lS,lS]<;>rfl,⟨BF⟩⟩
def FD{O C L H W N S:Nat}[a:Sl w A 4 [(O:Int),C,m,L]][b:Sl w B 3 [(C:Int),H,W]][g:Sl w D 3 [(O:Int),M,N]](h3:4<=c)(h2:3<=d)(he:3<=e)(hK:m<=1024)(hL:L<=1024)(hH:H<=1024)(hW:W<=1024):
  () 220 #[(A,4,c),(B,3,d),(D,3,e),S] w (aJ w (uq ⟨O,C,m,L,H,W,M,N,S⟩)):=by
 obtain⟨CB,CP⟩:=kU;obtain⟨ba,oa,z,rfl,oba,ca0,hz⟩:=a.get (k:=0) om;obtain rfl:z=(O:Int):=by have:=hz.o;simpa using this.symm
 have ca1:=a.rd.all (k:=1) (z:=(C:Int)) rfl;obtain⟨bb,ob,z,rfl,XD,-,-⟩:=b.get (k:=0) om;obtain⟨bg,og,z,rfl,obg,-,-⟩:=g.get (k:=0) om;simp only[ef]at ca0;obtain⟨l,E⟩:=lh (m*L);obtain⟨y,G⟩:=lh (H*W);have m1:(m:Int)*(L:Int)=(l:Int):=by rw[<-E,b8]
 have m2:(H:Int)*(W:Int)=(y:Int):=by rw[<-G,b8]
 have bKL:l<=1048576:=by rw[<-E];exact yr hK hL
 have bHW:y<=1048576:=by rw[<-G];exact yr hH hW
 have zF:=ae E;have HHW:=ae G;clear hz E G;go_in;go_wp2_with fail;have FB:=@aO;refine ab w ao (λj _=>?_);refine qL [0,1,2,3,4,5,6,7] ?_;refine aK 8 λK hK=>?_;go_simp;refine aG hK<|aK 9 λK hK=>?_;go_simp;refine aG hK<|a9 ?_;obtain⟨v1,I⟩:=lg (j.alloc (.cells #[O,C,an,an,an,an,an,an,S,an,an,an] 327));rw[<-I];have O1:Own v1 j.1.size 327 [(O:Int),C,0,0,0,0,0,0,S,0,0,0]:=by rw[I];exact xK8
 have p1:aj v1 j:=I▸aj.alloc _ _;have hB:Bx v1 j.1.size 327 #[O,C,an,an,an,an,an,an,S,an,an,an]:=⟨O1⟩;clear I;go_upto_region 3 with fail;obtain⟨v2,J⟩:=lg ((((((v1.setCell (j.1.size,2) (1:Int)).setCell (j.1.size,3) (1:Int)).setCell (j.1.size,4) (1:Int)).setCell (j.1.size,5) (1:Int)).setCell (j.1.size,6) (1:Int)).setCell (j.1.size,7) (1:Int));rw[<-J];have O2:Own v2 j.1.size 327 [(O:Int),C,1,1,1,1,1,1,S,0,0,0]:=by rw[J];exact xK6
 have p2:aj v2 j:=⟨by rw[J];exact((((((aP j v1).setCell (al _) _).setCell (al _) _).setCell (al _) _).setCell (al _) _).setCell (al _) _).setCell (al _) _⟩;clear J hB p1 O1;have l1:=kw (P:=prog) 25 ao ao bg og 3 e 1 om om;have l2:=kw (P:=prog) 25 ao ao ba oa 4 c 2 om om;have l3:=kw (P:=prog) 25 ao ao bb ob 3 d 1 om om;simp only[EE,Nat.reduceSub]at l1 l2 l3;have sa:Sl w (some ⟨ba,oa+2,none⟩) 2 [(m:Int),L]:=a.cut (F:=2) (W:=2) om;have sb:Sl w (some ⟨bb,ob+1,none⟩) 2 [(H:Int),W]:=b.cut (F:=1) (W:=2) om;have sg:Sl w (some ⟨bg,og+1,none⟩) 2 [(M:Int),N]:=g.cut (F:=1) (W:=2) om;go_wp2_with fail;refine ab j ao (λY _=>?_);refine qL [0,1,2,3,4] ?_;refine aK 5 λK hK=>?_;have u:=λty=>fK (P:=prog) 24 25 ty 3 underlying24 ao ((O2).at (w':=Y)) (o:=2) (dLen:=2) (dCap:=2) (sLen:=2) (sCap:=c-2) (zs:=[(m:Int),L]) ((sa).rd.at (w':=Y)) rfl aD;go_simp;refine qt hK (λ_=>?_) ⟨below_setRow (aP j Y) (al _) _⟩;clear hK K u;refine a9 ?_;obtain⟨v3,Q⟩:=lg ((Y).setRow j.1.size (ints (over [(O:Int),C,1,1,1,1,1,1,S,0,0,0] [(m:Int),L] 2)));rw[<-Q];have O3:Own v3 j.1.size 327 [(O:Int),C,m,L,1,1,1,1,S,0,0,0]:=by rw[Q];exact((O2).at (w':=Y)).setRow [(O:Int),C,m,L,1,1,1,1,S,0,0,0]
 have p3:aj v3 j:=⟨by rw[Q];exact below_setRow (aP j Y) (al _) _⟩;clear Q;go_wp2_with fail;refine ab j ao (λZ _=>?_);refine qL [0,1,2,3,4] ?_;refine aK 5 λK hK=>?_;have u:=λty=>fK (P:=prog) 24 25 ty 3 underlying24 ao ((O3).at (w':=Z)) (o:=4) (dLen:=2) (dCap:=2) (sLen:=2) (sCap:=d-1) (zs:=[(H:Int),W]) ((sb).rd.at (w':=Z)) rfl aD;go_simp;refine qt hK (λ_=>?_) ⟨below_setRow (aP j Z) (al _) _⟩;clear hK K u;refine a9 ?_;obtain⟨v4,R⟩:=lg ((Z).setRow j.1.size (ints (over [(O:Int),C,m,L,1,1,1,1,S,0,0,0] [(H:Int),W] 4)));rw[<-R];have O4:Own v4 j.1.size 327 [(O:Int),C,m,L,H,W,1,1,S,0,0,0]:=by rw[R];exact((O3).at (w':=Z)).setRow [(O:Int),C,m,L,H,W,1,1,S,0,0,0]
 have p4:aj v4 j:=⟨by rw[R];exact below_setRow (aP j Z) (al _) _⟩;clear R;go_wp2_with fail;refine ab j ao (λu6 _=>?_);refine qL [0,1,2,3,4] ?_;refine aK 5 λK hK=>?_;have u:=λty=>fK (P:=prog) 24 25 ty 3 underlying24 ao ((O4).at (w':=u6)) (o:=6) (dLen:=2) (dCap:=2) (sLen:=2) (sCap:=e-1) (zs:=[(M:Int),N]) ((sg).rd.at (w':=u6)) rfl aD;go_simp;refine qt hK (λ_=>?_) ⟨below_setRow (aP j u6) (al _) _⟩;clear hK K u;refine a9 ?_;obtain⟨v5,T⟩:=lg ((u6).setRow j.1.size (ints (over [(O:Int),C,m,L,H,W,1,1,S,0,0,0] [(M:Int),N] 6)));rw[<-T];have O5:Own v5 j.1.size 327 [(O:Int),C,m,L,H,W,M,N,S,0,0,0]:=by rw[T];exact((O4).at (w':=u6)).setRow [(O:Int),C,m,L,H,W,M,N,S,0,0,0]
 have p5:aj v5 j:=⟨by rw[T];exact below_setRow (aP j u6) (al _) _⟩;clear T;have B5:Bx v5 j.1.size 327 #[O,C,m,L,H,W,M,N,S,an,an,an]:=⟨O5⟩;go_upto_region 8 with fail;obtain⟨v6,U⟩:=lg ((v5).setCell (j.1.size,9) (L:Int));rw[<-U];have O6:Own v6 j.1.size 327 [(O:Int),C,m,L,H,W,M,N,S,L,0,0]:=by rw[U];exact(O5).av 9 (L:Int)
 have p6:aj v6 j:=⟨by rw[U];exact(aP j v5).setCell (al _) _⟩;clear U;have B6:Bx v6 j.1.size 327 #[O,C,m,L,H,W,M,N,S,L,an,an]:=⟨O6⟩;go_upto_region 9 with fail;obtain⟨v7,V⟩:=lg ((v6).setCell (j.1.size,10) (l:Int));rw[<-V];have O7:Own v7 j.1.size 327 [(O:Int),C,m,L,H,W,M,N,S,L,l,0]:=by rw[V];exact(O6).av 10 (l:Int)
 have p7:aj v7 j:=⟨by rw[V];exact(aP j v6).setCell (al _) _⟩;clear V;have B7:Bx v7 j.1.size 327 #[O,C,m,L,H,W,M,N,S,L,l,an]:=⟨O7⟩;go_upto_region 10 with fail;obtain⟨v8,X⟩:=lg ((v7).setCell (j.1.size,11) (y:Int));rw[<-X];have O8:Own v8 j.1.size 327 [(O:Int),C,m,L,H,W,M,N,S,L,l,y]:=by rw[X];exact(O7).av 11 (y:Int)
 have p8:aj v8 j:=⟨by rw[X];exact(aP j v7).setCell (al _) _⟩;clear X;have B8:Bx v8 j.1.size 327 #[O,C,m,L,H,W,M,N,S,L,l,y]:=⟨O8⟩;have BR:Bx v8 w.1.size 327 #[an,an,an,an,an,an,an,an,an,an,an,an]:=aq;go_wp2_with fail;have OR0:Own v8 w.1.size 327 [0,0,0,0,0,0,0,0,0,0,0,0]:=(BR).ak;have r:=(((((((((((OR0.av 0 (O:Int)).av 1 (C:Int)).av 2 (m:Int)).av 3 (L:Int)).av 4 (H:Int)).av 5 (W:Int)).av 6 (M:Int)).av 7 (N:Int)).av 8 (S:Int)).av 9 (L:Int)).av 10 (l:Int)).av 11 (y:Int);have BF:=((((((((((((aP w v8).setCell (p:=⟨w.1.size,0,none⟩) (al _) (O:Int)).setCell (p:=⟨w.1.size,1,none⟩) (al _) (C:Int)).setCell (p:=⟨w.1.size,2,none⟩) (al _) (m:Int)).setCell (p:=⟨w.1.size,3,none⟩) (al _) (L:Int)).setCell (p:=⟨w.1.size,4,none⟩) (al _) (H:Int)).setCell (p:=⟨w.1.size,5,none⟩) (al _) (W:Int)).setCell (p:=⟨w.1.size,6,none⟩) (al _) (M:Int)).setCell (p:=⟨w.1.size,7,none⟩) (al _) (N:Int)).setCell (p:=⟨w.1.size,8,none⟩) (al _) (S:Int)).setCell (p:=⟨w.1.size,9,none⟩) (al _) (L:Int)).setCell (p:=⟨w.1.size,10,none⟩) (al _) (l:Int)).setCell (p:=⟨w.1.size,11,none⟩) (al _) (y:Int);have r0:=r.cell (i:=0) (z:=(O:Int)) rfl;have r1:=r.cell (i:=1) (z:=(C:Int)) rfl;have r2:=r.cell (i:=2) (z:=(m:Int)) rfl;have r3:=r.cell (i:=3) (z:=(L:Int)) rfl;have r4:=r.cell (i:=4) (z:=(H:Int)) rfl;have r5:=r.cell (i:=5) (z:=(W:Int)) rfl;have r6:=r.cell (i:=6) (z:=(M:Int)) rfl;have r7:=r.cell (i:=7) (z:=(N:Int)) rfl;have r8:=r.cell (i:=8) (z:=(S:Int)) rfl;have r9:=r.cell (i:=9) (z:=(L:Int)) rfl;have r10:=r.cell (i:=10) (z:=(l:Int)) rfl;have r11:=r.cell (i:=11) (z:=(y:Int)) rfl;exact aX (v:=.agg #[O,C,m,L,H,W,M,N,S,L,l,y]) xKb rfl<|⟨by rw[uq,zF.o,HHW.o]<;>rfl,⟨BF⟩⟩
end
variable{ws xs:List Int}{S y z:Int}{c d:Nat}{A B:Option Addr}
def qF(b xs:au):Bool:=aA b&&aA xs&&decide (2<=xs.length)&&decide (xs.length<=3)&&decide (b.length=xs.length+1)&&decide (b.getD 1 0=xs.getD 0 0)
def oc(b xs:au)(S:Int)(i:Nat):Bool:=f7 (xs.getD (i+1) 0) (b.getD (i+2) 0) S
def jW(b xs:au)(S:Int)(k:Nat):List Int:=(List.range k).map λi=>kT (xs.getD (i+1) 0) (b.getD (i+2) 0) S
def su(b xs:au)(S:Int):List Int:=b.getD 0 0::jW b xs S (xs.length-1)
def qG(b xs:au)(S:Int):Bool:=(List.range (xs.length-1)).all λi=>oc b xs S i
def oh(b xs:au)(S:Int):Int:=if qF b xs then(if qG b xs S then(if aA (su b xs S)then 0 else 20)else 11)else 20
def qj(b xs:au)(S:Int):List Int:=if oh b xs S=0 then su b xs S else[]
def FB(k):jW ws xs S (k+1)=jW ws xs S k++[kT (xs.getD (k+1) 0) (ws.getD (k+2) 0) S]:=by simp[jW,g5]
def HS(k):(jW ws xs S k).length=k:=by simp[jW]
def O4(hi:i<xs.length-1)(h:oc ws xs S i=false):qG ws xs S=false:=by
 rcases e:qG ws xs S with _|_;rfl;rw[qG,dz]at e;rw[e i (iU.2 hi)]at h;cases h
def KX(h:∀i,i<xs.length-1->oc ws xs S i=true):qG ws xs S=true:=by
 rw[qG,dz];exact λi hi=>h i (iU.1 hi)
def S3(h:qF ws xs=false):oh ws xs S=20/\qj ws xs S=[]:=by
 have:oh ws xs S=20:=by rw[oh,h];rfl
 exact⟨this,by rw[qj,this];rfl⟩
def wO{a c:Int}{v:Int}(hv:Hx (kT a z c=v))(j:Hx (jh a z c=y)):() 190 #[a,z,c] w (aJ w (.tuple #[v,y])):=by
 rw[<-hv.o,<-j.o];exact kW (yR a z c w)
def dl[a:Sl w A n xs](e:n<=1000000){b:Bool}(hb:Hx (aA xs=b)):() 119 #[(A,n,c)] w (aJ w (.bool b)):=by
 obtain⟨a,rfl⟩:=a;rw[<-hb.o];exact(dq A c xs w e a).mono λ_ _ ⟨j,hb⟩=>⟨j,⟨hb⟩⟩
def xK0(h:Γ:=by go_ret2;exact⟨none,0,rfl,Sl.empty,⟨al _⟩,bG.none,aF⟩):=h
def Ce[a:Sl w A n ws][b:Sl w B m xs](V:n<=1000000)(hm:m<=1000000)(j:qF ws xs=false):
  () 126 #[(A,n,c),(B,m,d),S] w (jP w [] 20):=by
 have X:=@bW;obtain⟨a,rfl⟩:=a;have a:Sl w A ws ws:=⟨a,rfl⟩;obtain⟨b,rfl⟩:=b;have b:Sl w B xs xs:=⟨b,rfl⟩;rcases h1:aA ws with _|_
 .have l:=ae h1;go_in;go_wp2_with (go_at_call 119;refine mv (dl om l) λu _=>?_);exact xK0
 have l:=ae h1;rcases h2:aA xs with _|_
 .have y:=ae h2;go_in;go_wp2_with (first|(go_at_call 119;refine mv (dl om l) λu _=>?_)|(go_at_call 119;refine mv (dl om y) λu _=>?_));exact xK0
 have y:=ae h2;by_cases Y:xs.length<2
 .have d1:decide ((xs.length:Int)<2)=true:=by simp;omega
  go_in;go_wp2_with (first|(go_at_call 119;refine mv (dl om l) λu _=>?_)|(go_at_call 119;refine mv (dl om y) λu _=>?_));refine aw ao (λC _=>?_);refine qL [0,1,2,3,504,505,506,7,8,509,510,511,512,513,514,15,16,517,518,519,520,521,522,523,24] ?_;refine a9 ?_;go_wp2;exact xK0
 have d1:decide ((xs.length:Int)<2)=false:=by simp;omega
 by_cases Z:3<xs.length
 .have N:decide (3<(xs.length:Int))=true:=by simp;omega
  go_in;go_wp2_with (first|(go_at_call 119;refine mv (dl om l) λu _=>?_)|(go_at_call 119;refine mv (dl om y) λu _=>?_));refine aw ao (λC _=>?_);refine qL [0,1,2,3,4,5,6,7,8,509,510,511,512,513,514,15,16,517,518,519,520,521,522,523,24] ?_;refine a9 ?_;go_wp2;exact xK0
 have N:decide (3<(xs.length:Int))=false:=by simp;omega
 have y1:IntKind.i64.wrap ((xs.length:Int)+1)=(xs.length:Int)+1:=hD _ om;by_cases D:ws.length=xs.length+1;rotate_left
 .have O:((ws.length:Int) !=(xs.length:Int)+1)=true:=by simp;omega
  go_in;go_wp2_with (first|(go_at_call 119;refine(dl om l).mono ?_;rintro e u ⟨rfl,_⟩)|(go_at_call 119;refine(dl om y).mono ?_;rintro e u ⟨rfl,_⟩));refine aw ao (λC _=>?_);refine qL [0,1,2,3,4,5,6,7,8,9,10,11,12,13,14,15,16,517,518,519,520,521,522,523,24] ?_;refine a9 ?_;go_wp2_with fail;exact xK0
 have O:((ws.length:Int) !=(xs.length:Int)+1)=false:=by simp;omega
 have K:3<=ws.length/\ws.length<=4:=om;have P:=ae D;clear D;have x1:(1:Int)<(ws.length:Int):=by omega
 have x2:0<xs.length:=om;obtain⟨ba,oa,z0,rfl,Q,E,F⟩:=a.get (k:=0) om;obtain⟨z1,r⟩:∃z,ws[1]?=some z:=⟨_,a5 om⟩;have R:=a.rd.all r;obtain⟨bb,ob,x0,rfl,T,G,I⟩:=b.get (k:=0) om;simp only[ef]at E G;have U:ws.getD 0 0=z0:=by rw[aQ,F.o];rfl
 have L:ws.getD 1 0=z1:=by rw[aQ,r];rfl
 have M:xs.getD 0 0=x0:=by rw[aQ,I.o];rfl
 by_cases J:z1=x0;rotate_left
 .have d4:(z1 !=x0)=true:=by simpa using J
  clear h1 h2 U L M r J j;go_in;go_wp2_with (first|(go_at_call 119;refine(dl om l).mono ?_;rintro e u ⟨rfl,_⟩)|(go_at_call 119;refine(dl om y).mono ?_;rintro e u ⟨rfl,_⟩));refine aw ao (λC _=>?_);refine qL [0,1,2,3,4,5,6,7,8,9,10,11,12,13,14,15,16,17,18,19,20,21,22,23,24] ?_;refine a9 ?_;go_wp2;exact xK0
 exfalso;have D:=P.o;rw[qF,h1,h2,L,M,J]at j;simp at j;omega
variable{V:List Int}{E:Int}
def FE[a:Sl w A n ws][b:Sl w B m xs][ld:Le m d](r:qF ws xs=true)(hE:Hx (oh ws xs S=E))(hV:Hx (qj ws xs S=V)):
  () 126 #[(A,n,c),(B,m,d),S] w (jP w V E):=by
 have CP:=@bW;obtain⟨a,rfl⟩:=a;have a:Sl w A ws ws:=⟨a,rfl⟩;obtain⟨b,rfl⟩:=b;have b:Sl w B xs xs:=⟨b,rfl⟩;have hp:=r;simp only[qF,bK,bZ]at hp;obtain⟨⟨⟨⟨⟨h1,h2⟩,h3⟩,h4⟩,h5⟩,h6⟩:=hp;have H1:=ae h1;have H2:=ae h2;have d1:decide ((xs.length:Int)<2)=false:=by simp;omega
 have d2:decide (3<(xs.length:Int))=false:=by simp;omega
 have y1:IntKind.i64.wrap ((xs.length:Int)+1)=(xs.length:Int)+1:=hD _ om;have d3:((ws.length:Int) !=(xs.length:Int)+1)=false:=by simp;omega
 have hlen:3<=ws.length/\ws.length<=4:=om;have x1:(1:Int)<(ws.length:Int):=by omega
 have x2:0<xs.length:=om;obtain⟨F,C⟩:=lh (xs.length-1);have N:F+2=ws.length/\F<=2/\F+1=xs.length:=om;have D:=ae N;obtain⟨ba,oa,z0,rfl,oba,X,O⟩:=a.get (k:=0) om;obtain⟨z1,J⟩:∃z,ws[1]?=some z:=⟨_,a5 om⟩;have ca1:=a.rd.all J;obtain⟨bb,ob,x0,rfl,XD,Y,Q⟩:=b.get (k:=0) om;simp only[ef]at X Y;have g0:ws.getD 0 0=z0:=by rw[aQ,O.o];rfl
 obtain rfl:z1=x0:=by (have g1:ws.getD 1 0=z1:=by rw[aQ,J];rfl);(have g2:xs.getD 0 0=x0:=by rw[aQ,Q.o];rfl);rw[<-g1,h6,g2]
 have hld:=ld.le;have l1:=kw (P:=prog) 25 ao ao bb ob xs.length d 1 om om;rw[C]at l1;simp only[EE]at l1;have Z:Hx (su ws xs S=z0::jW ws xs S F):=ae (by rw[su,g0,C]);have HP:=ae r;have R:=ae C;clear g0 O Q r h1 h2 J h5 h6 C N;go_in;go_wp2_with (first|(go_at_call 119;refine(dl om H1).mono ?_;rintro e u ⟨rfl,_⟩)|(go_at_call 119;refine(dl om H2).mono ?_;rintro e u ⟨rfl,_⟩));refine aw ao (λl _=>?_);refine qL [0,1,2,3,4,5,6,7,8,9,10,11,12,13,14,15,16,17,18,19,20,21,22,23,24] ?_;refine a9 ?_;go_upto_region 6 with fail;obtain⟨v,hv⟩:=lg (l.alloc (.cells #[z0] 3));have pv:aj v l:=hv▸aj.alloc _ _;have ho:aB v l.1.size 3 (some ⟨l.1.size,0,none⟩) 1 [z0]:=by rw[hv];exact aB.gK (zs:=[z0]) (Own.new l 3 [z0]) (al _) aD
 rw[<-hv];clear hv;obtain⟨A0,T⟩:=lh ((some ⟨l.1.size,0,none⟩:bF));rw[T]at ho⊢;clear T;go_wp2_with fail;go_loopw [8,53] (λp q wr=>∃(k:Nat) (M:bF) (U:Nat) (L:au),k<=F/\q=.int .i64 k/\p=.slice M L U/\Hx (L=z0::jW ws xs S k)/\L.length<=10/\Hx (∀i,i<k->oc ws xs S i=true)/\aB wr l.1.size 3 M U L/\aj wr l) (λ_ q _=>F-(intOf q).toNat);case atStart=>exact⟨0,A0,1,[z0],aM _,rfl,rfl,ae rfl,aD,ae λi hi=>om,ho,aF⟩
 case round=>
  clear ho;obtain⟨k,M,U,L,hk,rfl,rfl,HL,hL,HW,j,hp⟩:=hrel;by_cases bE:k<F
  .obtain⟨x,hx⟩:∃x,xs[1+k]?=some x:=⟨_,a5 (by have:=D.o;omega)⟩;obtain⟨y,hy⟩:∃y,ws[k+2]?=some y:=⟨_,a5 (by have:=D.o;omega)⟩;have cx:=b.rd.all hx;have cy:=a.rd.all hy;rw[<-lM]at cx;(have XE:k+2<ws.length:=by have:=D.o;omega);(have gx:xs.getD (k+1) 0=x:=by rw[aQ,tU k 1,hx];rfl);(have gy:ws.getD (k+2) 0=y:=by rw[aQ,hy];rfl);obtain⟨q,hq⟩:=lh (kT x y S);have HQ:=ae hq;rcases hw:f7 x y S with _|_
   .have HE:Hx (jh x y S=11):=ae (by simp[jh,hw]);(have G:oh ws xs S=11:=by rw[oh,HP.o,O4 (i:=k) (by rw[R.o];exact bE) (by rw[oc,gx,gy];exact hw)];rfl);(obtain rfl:E=11:=by rw[<-hE.o,G]);(obtain rfl:V=[]:=by rw[<-hV.o,qj,G];rfl);go_wp2_with (go_at_call 190;refine mv (wO HQ HE) λu _=>?_);exact xK0
   have HE:Hx (jh x y S=0):=ae (by simp[jh,hw]);(have S4:Hx (∀i,i<k+1->oc ws xs S i=true):=λi hi=>by by_cases h:i=k;subst h;rw[oc,gx,gy];exact hw;exact HW.o i om);have HN:Hx (L++[q]=z0::jW ws xs S (k+1)):=ae (by rw[FB,gx,gy,hq,HL.o];rfl);go_wp2_with (first|(go_at_call 190;refine mv (wO HQ HE) λu _=>?_)|(at_builtin;refine iJ rfl _ _ _ rfl 3 underlying25 ao l.1.size M U L rfl j.at q rfl om ai ?_;intro A3 c3 w3 qe qv _ _));have:aj w3 l:=⟨(aP l _).trans qv⟩;go_roundw;exact⟨k+1,A3,c3,L++[q],om,by go_num,aD,HN,by have:=cq List.length HN;rw[dj,HS]at this;have:=D.o;omega,S4,qe,aF⟩;simp[intOf];omega
  obtain rfl:F=k:=om;have I:qG ws xs S=true:=KX (by rw[R.o];exact HW);have sL:Sl wr M L L:=⟨j.rd,rfl⟩;(have K:su ws xs S=L:=by rw[Z.o,HL.o]);rcases hr:aA L with _|_
  .have HR:=ae hr;(have G:oh ws xs S=20:=by rw[oh,HP.o,I,K,hr];rfl);(obtain rfl:E=20:=by rw[<-hE.o,G]);(obtain rfl:V=[]:=by rw[<-hV.o,qj,G];rfl);go_wp2_with (go_at_call 119;refine mv (dl om HR) λu _=>?_);exact xK0
  have HR:=ae hr;(have G:oh ws xs S=0:=by rw[oh,HP.o,I,K,hr];rfl);(obtain rfl:E=0:=by rw[<-hE.o,G]);(obtain rfl:L=V:=by rw[<-hV.o,qj,G,K];rfl);go_wp2_with (go_at_call 119;refine mv (dl om HR) λu _=>?_);go_ret2;exact⟨M,U,rfl,aq,⟨j.ii⟩,⟨λad e=>aL (ai (w:=w) (w':=l)) (j.fresh ad e)⟩,aF⟩
def rO[Sl w A n ws][Sl w B m xs][Le m d](b:n<=1000000)(hm:m<=1000000)(hE:Hx (oh ws xs S=E))(hV:Hx (qj ws xs S=V)):
  () 126 #[(A,n,c),(B,m,d),S] w (jP w V E):=by
 rcases hp:qF ws xs with _|_;have⟨e1,e2⟩:=S3 (S:=S) hp;obtain rfl:E=20:=by rw[<-hE.o,e1]
 obtain rfl:V=[]:=by rw[<-hV.o,e2]
 exact Ce b hm hp;exact FE hp hE hV
variable{w':World}{C:Option Addr}{e:Nat}{zs:List Int}{ss:List Sp}{side:Int}
def FG(b:Int):List Int->List (List Int)->Int
 |_,[]=>0
 |s,t::l=>if ea s t b=0 then FG b (dD s t b) l else ea s t b
def Cf(b:Int):List Int->List (List Int)->List Int
 |s,[]=>s
 |s,t::l=>Cf b (dD s t b) l
def zG(b:Int):List (List Int)->Int
 |[]=>0
 |t::l=>if l.isEmpty&& !(decide (0<=b)&&decide (b<t.length))then 11 else FG b t l
def Cg(b:Int)(L:f0):List Int:=if zG b L=0 then Cf b (L.headD []) L.tail else[]
variable{N:Nat}{ps bs:List Int}
def HR{ts:au}:(dD zs ts side).length<=zs.length:=by
 unfold dD hR;split<;>simp
def xK2(h:Γ:=by go_ret2;exact⟨none,0,rfl,Sl.empty,Le.same _,bG.none,aF⟩):=h
def KY[a:dZ w B n ss][le:Le n c](h1:1<=n)(hn:n<=1000000)(hR:Hx (∀z∈aS ss,aA z=true))(hV:Hx (Cg side (aS ss)=V))(hE:Hx (zG side (aS ss)=E)):
  () 128 #[side,.slice B n c] w (jP w V E):=by
 have CP:=@bW;have K:=le.le;obtain⟨L,hL⟩:=lh (aS ss);have LN:Hx (n=L.length):=ae (by rw[<-hL];exact a.len.trans cX.symm);have HG:Hx (∀k:Nat,k<n->∃b off A m c zs,B=some ⟨b,off,none⟩/\Old b w/\w.cell? (b,off+k)=some (.slice A m c)/\Sl w A m zs/\Le m c/\m<=4/\Hx (L[k]?=some zs)):=λk hk=>by have⟨b,o,A,m,c,z,e1,e2,e3,e4,e5,e6⟩:=a.get hk;exact⟨b,o,A,m,c,z,e1,e2,e3,e4,e5,by rw[e4.len];exact cG (hR.o _ (h8 e6.o)),ae (by rw[<-hL];exact e6.o)⟩
 rw[hL]at hV hE;obtain⟨b,o,A0,U,c0,z0,rfl,ob,v0,Y,_,m4,e0⟩:=HG.o 0 om;have v0':w.cell? (b,o)=some (.slice A0 U c0):=v0;obtain⟨r,hr⟩:∃r,L=z0::r:=by
  have:=e0.o;cases L with
  |nil=>cases this
  |cons x r=>injection this with e;exact⟨r,by rw[e]⟩
 obtain⟨l,rfl⟩:∃l,n=l+1:=⟨n-1,om⟩;subst hr;have X:Hx (r.length=l):=ae (by have:=LN.o;simp at this;omega);have Z:z0.length<=4:=by rw[<-Y.len];exact m4
 have F:=hE.o;have G:=hV.o;rw[Cg]at G;by_cases y:l=0/\¬(0<=side/\side<z0.length)
 .obtain⟨rfl,ade⟩:=y;obtain rfl:r=[]:=hB X.o;(have M:zG side [z0]=11:=by simp[zG];omega);(obtain rfl:E=11:=by rw[<-F,M]);(obtain rfl:V=[]:=by rw[<-G,M];rfl);have hm0:U=z0.length:=Y.len;by_cases sa:side<0
  .go_in;go_wp2;exact xK2
  have zb:(U:Int)<=side:=by omega
  go_in;go_wp2;exact xK2
 have HJ:Hx (FG side z0 r=E):=ae (by
  rw[<-F,zG,ag];intro K;simp at K;obtain⟨rfl,K⟩:=K;exact y ⟨by simpa using X.o.symm,om⟩)
 have HS:Hx (V=if E=0 then Cf side z0 r else[]):=ae (by rw[<-G,F];rfl);have HQ:Hx (l=0->0<=side/\side<U):=λh=>by have:=Y.len;rcases Classical.em (0<=side/\side<z0.length)with h'|h';omega;exact absurd ⟨h,h'⟩ y
 have⟨A',ko,ha⟩:=un b o l c K;have HA:=ae ha;by_cases O:l=0
 .have⟨p0,p1⟩:=HQ.o O;subst O;obtain rfl:r=[]:=hB X;obtain rfl:E=0:=HJ.o.symm;(obtain rfl:V=z0:=by rw[HS.o];rfl);go_in;go_wp2_with (go_at_call 103;refine(k3 om).mono ?_;rintro e u ⟨gS,rfl,sS,fS,_⟩);refine lR 1 ?_;rw[gH];go_wp2;go_ret2;exact⟨_,_,rfl,sS,Le.same _,fS.less ai,aF⟩
 have HU:0<l:=om;obtain rfl:=HA.o HU;go_in;go_wp2_with (go_at_call 103;refine(k3 om).mono ?_;rintro e u ⟨gS,rfl,sS,fS,_⟩);go_loopw [6,33] (λs i wr=>∃(k:Nat) (P:bF) (c2:Nat) (T:au),k<=l/\i=.int .i64 k/\s=.slice P T c2/\Sl wr P T T/\Le T.length c2/\bG w.1.size P/\T.length<=4/\Hx (FG side T (r.drop k)=E)/\Hx (Cf side T (r.drop k)=Cf side z0 r)/\aj wr u) (λ_ i _=>l-(intOf i).toNat);exact⟨0,_,_,z0,aM _,rfl,rfl,sS,Le.same _,fS.less ai,Z,HJ,ae rfl,aF⟩;obtain⟨k,P,c2,T,hk,rfl,rfl,sT,lT,fT,hT,I,Q,hp⟩:=hrel;by_cases bE:k<l
 .have⟨b',o',A1,m1,c1,z1,eb,ob',v1,s1,_,HL,ht⟩:=HG.o (k+1) om;cases eb;have O1:w.cell? (b,o+1+k)=some (.slice A1 m1 c1):=by rw[show o+1+k=o+(k+1)from om];exact v1
  have HD:Hx (r.drop k=z1::r.drop (k+1)):=ae (by
   have⟨SZ,e⟩:=a8.1 (show r[k]?=some z1 from ht.o);rw[<-e];exact ed SZ)
  obtain⟨J,R⟩:=lh (ea T z1 side);obtain⟨V1,j⟩:=lh (dD T z1 side);change Hx _ at R j;by_cases D:J=0
  .subst D;go_wp2_with (go_at_call 191;refine(ul om om R j).mono ?_;rintro e u ⟨A',c',rfl,sJ,lJ,fJ,_⟩);go_roundw;exact⟨k+1,A',c',V1,om,by go_num,rfl,sJ,lJ,fJ.less ai,by rw[<-j.o];have:=HR (zs:=T) (ts:=z1) (side:=side);omega,ae (by have:=I.o;rw[HD.o]at this;simpa[FG,R.o,j.o]using this),ae (by have:=Q.o;rw[HD.o]at this;simpa[Cf,j.o]using this),aF⟩;simp[intOf];omega
  have e1:(J !=0)=true:=by simp[D]
  obtain rfl:E=J:=by have:=I.o;rw[HD.o]at this;simp[FG,R.o,D]at this;exact this.symm
  obtain rfl:V=[]:=by rw[HS.o,ag D]
  go_wp2_with (go_at_call 191;refine(ul om om R j).mono ?_;rintro e u ⟨A',c',rfl,sJ,lJ,fJ,_⟩);exact xK2
 have S:Hx (r.drop k=[]):=eF (by rw[X.o];omega);obtain rfl:E=0:=by have:=I.o;rw[S.o]at this;exact this.symm
 obtain rfl:V=T:=by rw[HS.o,ah rfl,<-Q.o,S.o];rfl
 go_wp2;go_ret2;exact⟨P,c2,rfl,sT,lT,fT,aF⟩
variable{A1 D:Option Addr}{R c' c1 cx g m1 mx np nx:Nat}{T:TypeId}{L:List (List Int)}
structure ir where
 kd:Int
 k:Int
 wd:Int
 st:Int
 sd:Int
 fr:Int
 tt:Int
 S:List Int
def cY(o:ir)(ps xs:f0):Int:=
 if o.kd=8 then mD (ps.getD 0 []) (ps.getD 1 []) (xs.getD 0 [])else if o.kd=9 then oJ [ps.getD 0 [],xs.getD 0 []]else if o.kd=10 then oh (ps.getD 0 []) (xs.getD 0 []) o.st
 else if o.kd=11\/o.kd=12 then sU (xs.getD 0 []) o.wd o.st else if o.kd=13 then zG o.sd xs else if o.kd=14 then gm (xs.getD 0 []) o.sd o.fr o.tt else if o.kd=15 then up (xs.getD 0 []) o.S else oJ xs
def dd(o:ir)(ps xs:f0):List Int:=
 if o.kd=8 then mC (ps.getD 0 []) (ps.getD 1 []) (xs.getD 0 [])else if o.kd=9 then oI [ps.getD 0 [],xs.getD 0 []]else if o.kd=10 then qj (ps.getD 0 []) (xs.getD 0 []) o.st
 else if o.kd=11\/o.kd=12 then sV (xs.getD 0 []) o.wd o.st else if o.kd=13 then Cg o.sd xs else if o.kd=14 then hG (xs.getD 0 []) o.sd o.fr o.tt else if o.kd=15 then zB (xs.getD 0 []) o.S else oI xs
def ir.right(o:ir):Bool:=r6 o.kd o.k o.wd o.st o.sd o.fr o.tt o.S
def ir.cnt(o:ir)(np nx:Nat):Int:=mA o.kd o.k o.wd o.st o.sd o.fr o.tt o.S np nx
def dr(o:ir)(ps xs:f0):Int:=
 if o.cnt ps.length xs.length=0 then(if ps.all aA&&xs.all aA then cY o ps xs else 20)else o.cnt ps.length xs.length
def cJ(o:ir)(ps xs:f0):List Int:=if dr o ps xs=0 then dd o ps xs else[]
section
variable{ts:List Sp}
def pE{v:Bool}[Sl w A n zs](b:n<=1000000)(hv:Hx (aA zs=v)):() 119 #[(A,n,c)] w (aJ w (.bool v)):=vw (rM b) (by rw[hv.o])
def wP{o:ir}(h:o.cnt np nx=0):o.right=true/\gN o.kd<=nx/\(nx:Int)<=i9 o.kd/\(np:Int)=fv o.kd:=by
 unfold ir.cnt mA at h;split at h
 .rename_i hr;split at h;omega;rename_i b;exact⟨hr,om,om,om⟩
 omega
theorem O5{c0:Nat}{z0 z1:au}[h:Bx w g T #[(D,b,c0),(A1,m1,c1)]][r:Sl w D b z0][y:Le b c0][u:Sl w A1 m1 z1][l1:Le m1 c1]:
  dZ w g 2 [⟨D,b,c0,z0⟩,⟨A1,m1,c1,z1⟩]:=
 ⟨λj x l=>by
  match j with
  |0=>simp at l;subst l;exact⟨g,0,rfl,h.ak.lt,h.ak.cell 0,r.rd,r.len,y.le⟩
  |1=>simp at l;subst l;exact⟨g,0,rfl,h.ak.lt,h.ak.cell 1,u.rd,u.len,l1.le⟩
  |j+2=>simp at l,rfl⟩
end
def HQ(h:oJ L≠0):oI L=[]:=by
 unfold oJ at h;unfold oI;split at h;omega;rename_i b;rw[ag b]
def S5{o:ir}{ps xs:f0}(h:cY o ps xs≠0):dd o ps xs=[]:=by
 unfold cY at h;unfold dd;split
 .rename_i b;rw[ah b]at h;unfold mD at h;unfold mC;split at h;omega;rename_i y;rw[ag y]
 rename_i z;rw[ag z]at h;split;rename_i b;rw[ah b]at h;exact HQ h;rename_i B;rw[ag B]at h;split;rename_i b;rw[ah b]at h;unfold qj;rw[ag h];rename_i j;rw[ag j]at h;split
 .rename_i b;rw[ah b]at h;unfold sU at h;unfold sV;split at h
  .rename_i hr;rw[hr];unfold jh at h;split at h;omega;rename_i C;rw[ag];intro e;rw[bK]at e;exact C e.2
  rename_i hr;rw[ag];intro e;rw[bK]at e;exact hr e.1
 rename_i l;rw[ag l]at h;split;rename_i b;rw[ah b]at h;unfold Cg;rw[ag h];rename_i m;rw[ag m]at h;split;rename_i b;rw[ah b]at h;unfold hG;rw[ag h];rename_i r;rw[ag r]at h;split;rename_i b;rw[ah b]at h;unfold zB;rw[ag h];rename_i u;rw[ag u]at h;exact HQ h
section
variable{ts:List Sp}{o:ir}
def dZ.all(h:dZ w B n ss)(hL:aS ss=L):Hx (n=L.length/\∀k:Nat,k<n->∃b off A m c zs,B=some ⟨b,off,none⟩/\Old b w/\w.cell? (b,off+k)=some (.slice A m c)/\Sl w A m zs/\Le m c/\Hx (L[k]?=some zs)):=
 ae ⟨by rw[<-hL];exact h.len.trans cX.symm,λk j=>by
  obtain⟨b,o,A,m,c,z,l,r,u,y,D,F⟩:=h.get j;exact⟨b,o,A,m,c,z,l,r,u,y,D,ae (by rw[<-hL];exact F.o)⟩⟩
def xK1(h:Γ:=by refine a9 ?_;go_wp2_with fail;go_ret2;exact⟨T,c',rfl,U,Y,Z.less ai,aF⟩):=h
def xK3(h:Γ:=by have Hv:=ae hv;have l2:=ae (pD HT G.o hv);clear hv G;go_wp2_with (go_at_call 119;refine(pE HL Hv).mono ?_;rintro e u ⟨rfl,_⟩);go_roundw;exact⟨j+1,om,by go_num,l2,aF⟩;simp[intOf];omega):=h
def xK4(h:Γ:=by have Hv:=ae hv;clear hv G;go_wp2_with (go_at_call 119;refine(pE HL Hv).mono ?_;rintro e u ⟨rfl,_⟩);exact xK2):=h
def xK5(h:Γ:=by rintro e ux ⟨T,c',rfl,U,Y,Z,_⟩;dsimp only;refine aG hK ?_;refine qL [10,11,12,13] ?_;exact xK1):=h
def xK7(h:Γ:=by rcases K11.o with e|e;rw[e]at vB;cases vB;simpa using e):=h
def xK9(h:Γ:=by go_ret2;exact⟨T,c',rfl,U,Y,Z.less ai,aF⟩):=h
def xKa(h:Γ:=by rw[<-hV.o,<-hE.o,cJ,G];exact⟨rfl,rfl⟩):=h
def ma[Sl w A n o.S](hn:n<=1000000)[a:dZ w B m ss][x:dZ w C nx ts][Le nx cx](hm:m<=1000000)(hx:nx<=1000000)(hz:Hx (∀z∈aS ss++aS ts,z.length<=1000000))(hV:Hx (cJ o (aS ss) (aS ts)=V))(hE:Hx (dr o (aS ss) (aS ts)=E)):
  () 74 #[.agg (gM o.kd o.k o.wd o.st o.sd o.fr o.tt (A,n,d)),(B,m,e),(C,nx,cx)] w (jP w V E):=by
 obtain⟨CB,CP⟩:=kU;obtain⟨P,hP⟩:=lh (aS ss);obtain⟨X,hX⟩:=lh (aS ts);have GA:=a.all hP;have GX:=x.all hX;have HX:=ae hX;rw[hP,hX]at hV hE hz;clear hP hX a;obtain⟨ce,Q⟩:=lh (o.cnt P.length X.length);have HC:Hx (mA o.kd o.k o.wd o.st o.sd o.fr o.tt o.S m nx=ce):=ae (by rw[<-Q,ir.cnt,GA.o.1,GX.o.1]);by_cases h0:ce=0;rotate_left
 .have b0:(ce !=0)=true:=by simp[h0]
  obtain⟨rfl,rfl⟩:V=[]/\ce=E:=by (have G:dr o P X=ce:=by rw[dr,Q,ag h0]);rw[<-hV.o,<-hE.o,cJ,G,ag h0];exact⟨rfl,rfl⟩
  clear Q h0;go_in;go_wp2_with (go_at_call 104;refine(ch hn HC).mono ?_;rintro e u ⟨rfl,_⟩);exact xK2
 subst h0;obtain⟨hr,i1,i2,i3⟩:=wP Q;rw[<-GA.o.1]at i3;rw[<-GX.o.1]at i1 i2;have I:=ae (And.intro i1 (And.intro i2 i3));have lb:Hx (P.all aA=true->X.all aA=true->V=(if cY o P X=0 then dd o P X else[])/\E=cY o P X):=λh1 F=>by (have G:dr o P X=cY o P X:=by rw[dr,ah Q,h1,F];rfl);exact xKa
 have HN0:Hx (P.all aA=false\/X.all aA=false->V=[]/\E=20):=λh1=>by (have G:dr o P X=20:=by rw[dr,ah Q,ag];rcases h1 with h1|h1<;>simp[h1]);exact xKa
 clear Q hV hE i1 i2 i3;go_in;go_wp2_with (go_at_call 104;refine(ch hn HC).mono ?_;rintro e u ⟨rfl,_⟩);go_loopw [24] (λi wr=>∃j:Nat,j<=m/\i=.int .i64 j/\Hx ((P.take j).all aA=true)/\aj wr u) (λi _=>m-(intOf i).toNat);exact⟨0,aM _,rfl,ae rfl,aF⟩;obtain⟨j,hj,rfl,HT,hp⟩:=hrel;by_cases bE:j<m;obtain⟨b,q,A1,m1,c1,z1,rfl,ob,v1,s1,_,G⟩:=GA.o.2 j bE;have HL:m1<=1000000:=by rw[s1.len];exact hz.o _ (nb _ (h8 G.o))
 rcases hv:aA z1 with _|_;obtain⟨rfl,rfl⟩:=HN0.o (.inl (vy G.o hv));exact xK4;exact xK3;have HA:Hx (P.all aA=true):=vz HT (by rw[<-GA.o.1];omega);clear HT;go_wp2_with fail;go_loopw [34] (λi wr=>∃j:Nat,j<=nx/\i=.int .i64 j/\Hx ((X.take j).all aA=true)/\aj wr u) (λi _=>nx-(intOf i).toNat);exact⟨0,aM _,rfl,ae rfl,aF⟩;rename_i wr1 _;obtain⟨j,hj,rfl,HT,hp⟩:=hrel;by_cases bE:j<nx;obtain⟨b,q,A1,m1,c1,z1,rfl,ob,v1,s1,_,G⟩:=GX.o.2 j bE;have HL:m1<=1000000:=by rw[s1.len];exact hz.o _ (nf _ (h8 G.o))
 rcases hv:aA z1 with _|_;obtain⟨rfl,rfl⟩:=HN0.o (.inr (vy G.o hv));exact xK4;exact xK3
 have HB:Hx (X.all aA=true):=vz HT (by rw[<-GX.o.1];omega);have HW:Hx (dd o P X=V/\cY o P X=E):=ae (by
  obtain⟨h1,F⟩:=lb.o HA HB;refine⟨?_,F.symm⟩;rw[h1]
  split
  .rfl
  .rename_i h;exact S5 h)
 have HRA:Hx (∀z∈P,aA z=true):=λz hz=>dz.1 HA z hz;have XF:Hx (∀z∈X,aA z=true):=λz hz=>dz.1 HB z hz;clear HT lb HN0 HA HB hz;obtain⟨b0,q0,A0,m0,c0,x0,rfl,ob0,v0,s0,lx0,e0⟩:=GX.o.2 0 (by have:=I.o.1;unfold gN at this;split at this<;>omega);have m0l:m0<=4:=by rw[s0.len];exact cG (XF.o _ (h8 e0.o))
 have x1:0<nx:=by have:=I.o.1;unfold gN at this;split at this<;>omega
 have v0':w.cell? (b0,q0)=some (.slice A0 m0 c0):=v0;clear v0;have D0:Hx (X.getD 0 []=x0):=ae (by rw[aQ,e0.o];rfl);obtain⟨b9,B9⟩:=lh ((o.kd==9));by_cases y:o.kd=8
 .have HD:m=2:=by have:=I.o.2.2;rw[fv,ah y]at this;omega
  obtain⟨b1,q1,A1,m1,c1,p0,rfl,pq,v1,s1,_,G⟩:=GA.o.2 0 om;obtain⟨b2,q2,A2,m2,c2,p1,eb,jU,v2,s2,_,e2⟩:=GA.o.2 1 om;injection eb with eb;injection eb with eb1 eb2;subst eb1 eb2
  have O1:w.cell? (b1,q1)=some (.slice A1 m1 c1):=v1;have L:Hx (mC p0 p1 x0=V/\mD p0 p1 x0=E):=ae (by
   obtain⟨h1,F⟩:=HW.o;have d1:P.getD 0 []=p0:=by rw[aQ,G.o];rfl
   have d2:P.getD 1 []=p1:=by rw[aQ,e2.o];rfl
   rw[dd,ah y,d1,d2,D0.o]at h1;rw[cY,ah y,d1,d2,D0.o]at F;exact⟨h1,F⟩)
  have g1:0<m:=om;(have g2:(1:Int)<(m:Int):=by omega);(have b8:(o.kd==8)=true:=by simpa using y);clear y HD v1;go_upto_region 18 with fail;refine aw ao (λux _=>?_);refine qL [0,1,2,3,4,5,6,7,8] ?_;refine aK 9 λK hK=>?_;go_simp;refine(O0 om (ae L.o.1) (ae L.o.2)).mono ?_;exact xK5
 have b8:(o.kd==8)=false:=by simpa using y
 by_cases J:o.kd=9
 .have k8:m=1:=by have:=I.o.2.2;rw[fv,ag y,ah (.inl J)]at this;omega
  obtain⟨b1,q1,A1,m1,c1,p0,rfl,pq,v1,s1,lp1,G⟩:=GA.o.2 0 om;have O1:w.cell? (b1,q1)=some (.slice A1 m1 c1):=v1;have L:Hx (oI (aS [⟨A1,m1,c1,p0⟩,⟨A0,m0,c0,x0⟩])=V/\oJ (aS [⟨A1,m1,c1,p0⟩,⟨A0,m0,c0,x0⟩])=E):=ae (by
   obtain⟨h1,F⟩:=HW.o;have d1:P.getD 0 []=p0:=by rw[aQ,G.o];rfl
   rw[dd,ag y,ah J,d1,D0.o]at h1;rw[cY,ag y,ah J,d1,D0.o]at F;exact⟨h1,F⟩)
  have vA:Hx (∀z∈aS [⟨A1,m1,c1,p0⟩,⟨A0,m0,c0,x0⟩],aA z=true):=ae (by
   intro z hz;simp[aS]at hz;rcases hz with rfl|rfl
   .exact HRA.o _ (h8 G.o)
   .exact XF.o _ (h8 e0.o))
  have g1:0<m:=om;(have b9:(o.kd==9)=true:=by simpa using J);clear y J k8 v1 B9;go_upto_region 20 with fail;refine aw ao (λux _=>?_);refine qL [0,1,2,3,4,5] ?_;refine aK 6 λK hK=>?_;go_simp;refine aG hK<|bc (λux _ _=>?_);refine aK 7 λK hK=>?_;go_simp;refine(HK (ss:=[⟨A1,m1,c1,p0⟩,⟨A0,m0,c0,x0⟩]) (a:=O5) om om vA (ae L.o.1) (ae L.o.2)).mono ?_;rintro e ux ⟨T,c',rfl,U,Y,Z,_⟩;dsimp only;refine aG hK ?_;refine qL [8,9,10,11] ?_;exact xK1
 have b9:(o.kd==9)=false:=by simpa using J
 by_cases l:o.kd=10
 .have k8:m=1:=by have:=I.o.2.2;rw[fv,ag y,ah (.inr l)]at this;omega
  obtain⟨b1,q1,A1,m1,c1,p0,rfl,pq,v1,s1,lp1,G⟩:=GA.o.2 0 om;have O1:w.cell? (b1,q1)=some (.slice A1 m1 c1):=v1;have m1l:m1<=4:=by rw[s1.len];exact cG (HRA.o _ (h8 G.o))
  have L:Hx (qj p0 x0 o.st=V/\oh p0 x0 o.st=E):=ae (by
   obtain⟨h1,F⟩:=HW.o;have d1:P.getD 0 []=p0:=by rw[aQ,G.o];rfl
   rw[dd,ag y,ag J,ah l,d1,D0.o]at h1;rw[cY,ag y,ag J,ah l,d1,D0.o]at F;exact⟨h1,F⟩)
  have g1:0<m:=om;(have b10:(o.kd==10)=true:=by simpa using l);clear y J l k8 v1 B9;go_upto_region 22 with fail;refine aw ao (λux _=>?_);refine qL [0,1,2,3,4,5,6,7] ?_;refine aK 8 λK hK=>?_;go_simp;refine(rO om om (ae L.o.2) (ae L.o.1)).mono ?_;rintro e ux ⟨T,c',rfl,U,Y,Z,_⟩;dsimp only;refine aG hK ?_;refine qL [9,10,11,12] ?_;exact xK1
 have b10:(o.kd==10)=false:=by simpa using l
 by_cases r:o.kd=11\/o.kd=12
 .have L:Hx (sV x0 o.wd o.st=V/\sU x0 o.wd o.st=E):=ae (by
   obtain⟨h1,F⟩:=HW.o;rw[dd,ag y,ag J,ag l,ah r,D0.o]at h1;rw[cY,ag y,ag J,ag l,ah r,D0.o]at F;exact⟨h1,F⟩)
  have K11:=ae r;clear y J l r B9;rcases vB:(o.kd==11)with _|_;(focus have FH:(o.kd==12)=true:=xK7);rotate_left;all_goals go_upto_region 25 with fail;refine aw ao (λux _=>?_);refine qL [0,1,2,3,4,5,6] ?_;refine aK 7 λK hK=>?_;go_simp;refine(wN om (ae L.o.2) (ae L.o.1)).mono ?_;rintro e ux ⟨T,c',rfl,U,Y,Z,_⟩;dsimp only;refine aG hK ?_;refine qL [8,9,10,11] ?_;refine a9 ?_;go_wp2_with fail;go_ret2;exact⟨T,c',rfl,U,Y,Z.less ai,aF⟩
 have b11:(o.kd==11)=false:=by simp;omega
 have b12:(o.kd==12)=false:=by simp;omega
 by_cases D:o.kd=13
 .have L:Hx (Cg o.sd X=V/\zG o.sd X=E):=ae (by
   obtain⟨h1,F⟩:=HW.o;rw[dd,ag y,ag J,ag l,ag r,ah D]at h1;rw[cY,ag y,ag J,ag l,ag r,ah D]at F;exact⟨h1,F⟩)
  have b13:(o.kd==13)=true:=by simpa using D
  clear y J l r D B9;have J1:Hx (∀z∈aS ts,aA z=true):=ae (by rw[HX.o];exact XF);have J2:=L.o.1;have J3:=L.o.2;rw[<-HX.o]at J2 J3;have J4:=ae J2;have J5:=ae J3;clear J2 J3;go_wp2_with (go_at_call 128;refine(KY om om J1 J4 J5).mono ?_;rintro e u ⟨T,c',rfl,U,Y,Z,_⟩);exact xK9
 have b13:(o.kd==13)=false:=by simpa using D
 by_cases M:o.kd=14
 .have L:Hx (hG x0 o.sd o.fr o.tt=V/\gm x0 o.sd o.fr o.tt=E):=ae (by
   obtain⟨h1,F⟩:=HW.o;rw[dd,ag y,ag J,ag l,ag r,ag D,ah M,D0.o]at h1;rw[cY,ag y,ag J,ag l,ag r,ag D,ah M,D0.o]at F;exact⟨h1,F⟩)
  have b14:(o.kd==14)=true:=by simpa using M
  clear y J l r D M B9;go_upto_region 29 with fail;refine aw ao (λux _=>?_);refine qL [0,1,2,3,4,5,6,7,8] ?_;refine aK 9 λK hK=>?_;go_simp;refine(Nj om (ae L.o.2) (ae L.o.1)).mono ?_;exact xK5
 have b14:(o.kd==14)=false:=by simpa using M
 by_cases O:o.kd=15
 .have L:Hx (zB x0 o.S=V/\up x0 o.S=E):=ae (by
   obtain⟨h1,F⟩:=HW.o;rw[dd,ag y,ag J,ag l,ag r,ag D,ag M,ah O,D0.o]at h1;rw[cY,ag y,ag J,ag l,ag r,ag D,ag M,ah O,D0.o]at F;exact⟨h1,F⟩)
  have b15:(o.kd==15)=true:=by simpa using O
  clear y J l r D M O B9;go_upto_region 31 with fail;refine aw ao (λux _=>?_);refine qL [0,1,2,3,4] ?_;refine aK 5 λK hK=>?_;go_simp;refine(KS om om (ae L.o.1) (ae L.o.2)).mono ?_;rintro e ux ⟨T,c',rfl,U,Y,Z,_⟩;dsimp only;refine aG hK ?_;refine qL [6,7,8,9] ?_;exact xK1
 have b15:(o.kd==15)=false:=by simpa using O
 have L:Hx (oI X=V/\oJ X=E):=ae (by
  obtain⟨h1,F⟩:=HW.o;rw[dd,ag y,ag J,ag l,ag r,ag D,ag M,ag O]at h1;rw[cY,ag y,ag J,ag l,ag r,ag D,ag M,ag O]at F;exact⟨h1,F⟩)
 clear y J l r D M O B9;have J1:Hx (∀z∈aS ts,aA z=true):=ae (by rw[HX.o];exact XF);have J2:=L.o.1;have J3:=L.o.2;rw[<-HX.o]at J2 J3;have J4:=ae J2;have J5:=ae J3;clear J2 J3;go_wp2_with (go_at_call 125;refine(HK om om J1 J4 J5).mono ?_;rintro e u ⟨T,c',rfl,U,Y,Z,_⟩);exact xK9
end
section
variable{o:ir}{P X:List (List Int)}
def HT{v:Int}(hr:aA zs=true)(e:zs[n]?=some z)(m:1<=v)(hv:v<=z):aA (zs.set n v)=true:=by
 obtain⟨r1,r,b,j⟩:=(a2 zs).1 hr;have u:=(a8.1 e).1;refine(a2 _).2 ⟨by simpa using r1,by simpa using r,px b n m (by have:=(dH b e).2;omega),?_⟩;rw[py v u];rw[iq e]at j;refine EN (rp (xM hv ?_) ?_) j;have:=i5 (l:=zs.drop (n+1)) λz e=>(b0 (nW b _) e).1;omega;have:=i5 (l:=zs.take n) λz e=>(b0 (nU b _) e).1;omega
def wQ(b:L≠[])(h:∀z∈L,aA z=true)(hE:oJ L=0):aA (oI L)=true:=by
 unfold oJ at hE;unfold oI;split at hE
 .rename_i hs;rw[ah hs];cases L with
  |nil=>exact absurd rfl b
  |cons a l=>exact h a cm
 omega
def FI{ts:au}(h:ea zs ts z=0):aA (dD zs ts z)=true:=by
 unfold dD;rw[ah h];unfold ea at h;split at h
 .split at h
  .split at h;rename_i b;simp only[bK]at b;exact b.2;omega
  omega
 omega
def zH{b:Int}:∀{l:f0} {s:au},aA s=true->FG b s l=0->aA (Cf b s l)=true
 |[],_,h,_=>h
 |t::l,s,_,hE=>by unfold FG at hE;unfold Cf;split at hE;rename_i e;exact zH (FI e) hE;rename_i e;exact absurd hE e
def HV(j:o.cnt P.length X.length=0)(hP:P.all aA=true)(J:X.all aA=true)(h:cY o P X=0):aA (dd o P X)=true:=by
 obtain⟨hr,i1,i2,i3⟩:=wP j;have x1:0<X.length:=by unfold gN at i1;split at i1<;>omega
 have r:∀z∈X,aA z=true:=dz.1 J;have K:∀z∈P,aA z=true:=dz.1 hP;have m:aA (X.getD 0 [])=true:=r _ (by rw[aQ,a5 x1];exact o0 x1);have u:0<P.length->aA (P.getD 0 [])=true:=λp1=>K _ (by rw[aQ,a5 p1];exact o0 p1);unfold cY at h;unfold dd;generalize P.getD 0 []=p0 at h u⊢;generalize X.getD 0 []=x0 at h m⊢;split
 .rename_i b;rw[ah b]at h;have p1:=u (by rw[fv,ah b]at i3;omega);unfold mD at h;unfold mC;split at h;rename_i j;rw[ah j];simp only[iG,bK,bZ]at j;obtain⟨O,Q,L,T⟩:=(a2 _).1 p1;have:=dH L (a5 (show 0<p0.length by omega));(have e:p0.getD 0 0=p0[0]'om:=by rw[aQ,a5 om];rfl);rw[e];refine(a2 _).2 ⟨aD,aD,by simp[ct];omega,?_⟩;simp[ax];omega;omega
 rename_i F;rw[ag F]at h;split;rename_i b;rw[ah b]at h;have p1:=u (by rw[fv,ag F,ah (.inl b)]at i3;omega);refine wQ aD (λz G=>?_) h;simp only[cw,nR,o2]at G;rcases G with rfl|rfl;exact p1;exact m;rename_i M;rw[ag M]at h;split
 .rename_i b;rw[ah b]at h;unfold qj;rw[ah h];unfold oh at h;split at h
  .split at h
   .split at h;assumption;omega
   omega
  omega
 rename_i y;rw[ag y]at h;split;rename_i b;rw[ah b]at h;obtain⟨R,Z,n,W,S,_,_,pw⟩:=PW.of h;exact pw.Nn;rename_i B;rw[ag B]at h;split
 .rename_i b;rw[ah b]at h;unfold Cg;rw[ah h];cases X with
  |nil=>simp at x1
  |cons t l=>unfold zG at h;dsimp only at h;split at h;exact absurd h am;exact zH (r t cm) h
 rename_i C;rw[ag C]at h;split
 .rename_i b;rw[ah b]at h;unfold hG;rw[ah h];unfold gm at h;rw[ah m]at h;split at h;rename_i j;simp only[bK,bZ]at j;obtain⟨⟨⟨⟨U,V⟩,a0⟩,I⟩,Y⟩:=j;have N:o.sd.toNat<x0.length:=om;have hg:=a5 N;rw[aQ,hg]at I;exact HT m hg om (by simp at I;omega);exact absurd h am
 rename_i D;rw[ag D]at h;split
 .rename_i b;rw[ah b]at h;unfold zB;rw[ah h];unfold up at h;rw[ah m]at h;split at h;assumption;exact absurd h am
 rename_i E;rw[ag E]at h;exact wQ (by intro e;rw[e]at x1;simp at x1) r h
def ja(h:dr o P X=0):o.cnt P.length X.length=0/\P.all aA=true/\X.all aA=true/\cY o P X=0:=by
 unfold dr at h;split at h
 .rename_i b;split at h;rename_i e;rw[bK]at e;exact⟨b,e.1,e.2,h⟩;omega
 rename_i b;exact absurd h b
def lj(h:dr o P X=0):aA (cJ o P X)=true:=by
 obtain⟨b,hP,e,j⟩:=ja h;rw[cJ,ah h];exact HV b hP e j
end
def O6(o:ir)(P:f0)(V:au):List Int:=if o.kd=10 then[ax V,Int.tdiv (ax (P.getD 0 [])) ((P.getD 0 []).getD 0 0)]else[ax V,o.wd]
def KZ(o:ir)(P:f0)(V:au):Int:=
 if o.kd=8 then ax (P.getD 0 [])else if o.kd=10\/o.kd=11\/o.kd=12 then mh (O6 o P V)else ax V
def K0(o:ir)(P:f0)(V:au):Int:=if o.kd=10\/o.kd=11\/o.kd=12 then mi (O6 o P V)else 0
section
variable{ts:List Sp}{F:Int}{o:ir}
def HW[a:Sl w A n zs](b:n<=1000000){v e:Int}(hv:Hx (mh zs=v/\mi zs=e)):() 75 #[(A,n,c)] w (aJ w (.tuple #[v,e])):=by
 obtain⟨a,rfl⟩:=a;rw[<-hv.o.1,<-hv.o.2];exact(vh A c zs w b a).mono λe w' ⟨j,l⟩=>⟨j,⟨l⟩⟩
def xKc(h:Γ:=by assumption):=h
def HY[Sl w A n o.S](hn:n<=1000000)[a:dZ w B m ss][dZ w C nx ts][Le nx cx](hm:m<=1000000)(hx:nx<=1000000)(hz:Hx (∀z∈aS ss++aS ts,z.length<=1000000))(hE:dr o (aS ss) (aS ts)=0){v e:Int}
  (hv:Hx (KZ o (aS ss) (cJ o (aS ss) (aS ts))=v/\K0 o (aS ss) (cJ o (aS ss) (aS ts))=e)):
  () 30 #[.agg (gM o.kd o.k o.wd o.st o.sd o.fr o.tt (A,n,d)),(B,m,c),(C,nx,cx)] w (aJ w (.tuple #[v,e])):=by
 obtain⟨CB,CP⟩:=kU;obtain⟨L,hP,U,X⟩:=ja hE;have I:=lj hE;obtain⟨Y,i1,i2,i3⟩:=wP L;have Z:=ae hE;obtain⟨V,hV⟩:=lh (cJ o (aS ss) (aS ts));rw[hV]at I hv;have HV:=ae hV;have vl:V.length<=4:=cG I;obtain⟨z,j⟩:=lh (ax V);have HS:Hx (bz V=z/\cA V=0):=ae ⟨by rw[bz,I];exact j,by rw[cA,I];rfl⟩;have GA:=a.all rfl;have M:Hx (∀z∈aS ss,aA z=true):=λz hz=>dz.1 hP z hz;have I3:Hx ((m:Int)=fv o.kd):=ae (by rw[GA.o.1];exact i3);by_cases l:o.kd=8
 .obtain⟨b1,O,A1,m1,c1,J,rfl,pq,P,Q,_,K⟩:=GA.o.2 0 (by have:=I3.o;rw[fv,ah l]at this;omega);have O1:w.cell? (b1,O)=some (.slice A1 m1 c1):=P;have r1:=M.o _ (h8 K.o);(have m1l:m1<=4:=by rw[Q.len];exact cG r1);have g1:0<m:=by have:=I3.o;rw[fv,ah l]at this;omega
  have HZ:Hx (bz J=v/\cA J=0):=ae ⟨by
   rw[<-hv.o.1,KZ,ah l,bz,r1,aQ,K.o];rfl,by rw[cA,r1];rfl⟩
  obtain rfl:e=0:=by rw[<-hv.o.2,K0,ag om]
  have b8:(o.kd==8)=true:=by simpa using l
  clear l P r1 L hP U X Y i1 i2 i3 I hV j K hE;go_in;go_wp2_with (first|(go_at_call 74;refine(ma om om om xKc HV Z).mono ?_;rintro e u ⟨A',c',rfl,sJ,lJ,fJ,_⟩)|(go_at_call 73;refine(ez om HS).mono ?_;rintro e u ⟨rfl,_⟩)|(go_at_call 73;refine(ez om HZ).mono ?_;rintro e u ⟨rfl,_⟩));go_ret2;exact bB
 have b8:(o.kd==8)=false:=by simpa using l
 by_cases b:o.kd=10
 .have g1:0<m:=by have:=I3.o;rw[fv,ag l,ah (.inr b)]at this;omega
  obtain⟨b1,O,A1,m1,c1,J,rfl,pq,P,Q,_,K⟩:=GA.o.2 0 om;have O1:w.cell? (b1,O)=some (.slice A1 m1 c1):=P;have r1:=M.o _ (h8 K.o);(have m1l:m1<=4:=by rw[Q.len];exact cG r1);obtain⟨h1,h2,h3,h4⟩:=(a2 _).1 r1;have m1p:0<m1:=by rw[Q.len];omega
  obtain⟨b2,q2,y,rfl,jU,u0,e2⟩:=Q.get (k:=0) m1p;have u0':w.cell? (b2,q2)=some (.int .i64 y):=u0;have y1:=dH h3 e2.o;obtain⟨D,G⟩:=lh (ax J);have kb:=pd _ h3 h2;rw[G]at kb;have HZ:Hx (bz J=D/\cA J=0):=ae ⟨by rw[bz,r1];exact G,by rw[cA,r1];rfl⟩;have HM:Hx (mh [z,D.tdiv y]=v/\mi [z,D.tdiv y]=e):=ae (by
   have d1:(aS ss).getD 0 []=J:=by rw[aQ,K.o];rfl
   have d2:J.getD 0 0=y:=by rw[aQ,e2.o];rfl
   have T:O6 o (aS ss) V=[z,D.tdiv y]:=by rw[O6,ah b,d1,d2,G,j]
   refine⟨?_,?_⟩
   .rw[<-hv.o.1,KZ,ag l,ah (.inl b),T]
   .rw[<-hv.o.2,K0,ah (.inl b),T])
  have b10:(o.kd==10)=true:=by simpa using b
  have q0:0<=D.tdiv y:=Int.tdiv_nonneg om om;(have O:D.tdiv y<=D:=by have:=Int.tdiv_le_self y (show 0<=D by omega);exact this);obtain⟨qq,hqq⟩:=lh (D.tdiv y);rw[hqq]at HM q0 O;clear l b P r1 L hP U X Y i1 i2 i3 I hV j K hE h1 h2 h3 h4 G u0 e2;go_in;go_wp2_with (first|(go_at_call 74;refine(ma om om om xKc HV Z).mono ?_;rintro e u ⟨A',c',rfl,sJ,lJ,fJ,_⟩)|(go_at_call 73;refine(ez om HS).mono ?_;rintro e u ⟨rfl,_⟩)|(go_at_call 73;refine(ez om HZ).mono ?_;rintro e u ⟨rfl,_⟩)|(go_at_call 75;refine(HW om HM).mono ?_;rintro e u ⟨rfl,_⟩));go_ret2;exact bB
 have b10:(o.kd==10)=false:=by simpa using b
 by_cases r:o.kd=11\/o.kd=12
 .have K11:=ae r;have HM:Hx (mh [z,o.wd]=v/\mi [z,o.wd]=e):=ae (by
   have T:O6 o (aS ss) V=[z,o.wd]:=by rw[O6,ag b,j]
   refine⟨?_,?_⟩
   .rw[<-hv.o.1,KZ,ag l,ah (.inr r),T]
   .rw[<-hv.o.2,K0,ah (.inr r),T])
  clear l b r L hP U X Y i1 i2 i3 I hV j hE;rcases vB:(o.kd==11)with _|_;(focus have FH:(o.kd==12)=true:=xK7);rotate_left;all_goals go_in;go_wp2_with (first|(go_at_call 74;refine(ma om om om xKc HV Z).mono ?_;rintro e u ⟨A',c',rfl,sJ,lJ,fJ,_⟩)|(go_at_call 73;refine(ez om HS).mono ?_;rintro e u ⟨rfl,_⟩)|(go_at_call 75;refine(HW om HM).mono ?_;rintro e u ⟨rfl,_⟩));go_ret2;exact bB
 have b11:(o.kd==11)=false:=by simp;omega
 have b12:(o.kd==12)=false:=by simp;omega
 obtain⟨rfl,rfl⟩:z=v/\e=0:=⟨by rw[<-hv.o.1,KZ,ag l,ag om,j],by rw[<-hv.o.2,K0,ag om]⟩;clear l b r L hP U X Y i1 i2 i3 I hV j hE;go_in;go_wp2_with (first|(go_at_call 74;refine(ma om om om xKc HV Z).mono ?_;rintro e u ⟨A',c',rfl,sJ,lJ,fJ,_⟩)|(go_at_call 73;refine(ez om HS).mono ?_;rintro e u ⟨rfl,_⟩));go_ret2;exact bB
end
def Db(w:aa)(T:TypeId)(zs:au)(cs:m0)(h:cs=ints zs):Own (w.alloc (.cells cs T)) w.1.size T zs:=by subst h;exact Own.new _ _ _
def Ch(zs xs ts b:au):List Int:=if cR zs xs ts b then zs else[]
def Ci(zs xs ts b:au):List Int:=if cR zs xs ts b then xs.zipWith bQ b else[]
def O7(zs xs ts b:au):Int:=if cR zs xs ts b then 0 else 20
def aaE(A B C D)(c d e d')(zs xs ts b)(w)(m:zs.length<=1000000)(ht:ts.length<=1000000)
  (j:Rd w A zs) (r:Rd w B xs) (l:Rd w C ts) (u:Rd w D b) (y:Hx (∀z∈xs,bb z)) (E:Hx (∀z∈b,bb z)):
  () 115 #[.agg #[.slice A zs c,.slice B xs d],.agg #[.slice C ts e,.slice D b d']] w (fH w (Ch zs xs ts b) (Ci zs xs ts b) (O7 zs xs ts b)):=by
 rcases hr:cR zs xs ts b with _|_;have:=ON A B C D c d e d' zs xs ts b w m ht j l hr;simpa[Ch,Ci,O7,hr]using this;have:=zp A B C D c d e d' zs xs ts b w j r l u y E hr;simpa[Ch,Ci,O7,hr]using this
end Go.Proofs.YtmkjnlifimffkaaGreat
