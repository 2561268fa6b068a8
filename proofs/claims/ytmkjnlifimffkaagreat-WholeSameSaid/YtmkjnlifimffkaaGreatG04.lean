/- Lemmas. -/
import Derived.Test.YtmkjnlifimffkaaGreatG01
import Derived.Lib.MinMax
import Derived.StillTailTactics
import Derived.Deep.DeepCutAuto
import Derived.RangeFuncNested
import Derived.RangeFuncBound
import Derived.RangeFuncCalls
import Derived.RangeFuncLeaves
import Derived.OwnWalkIn
import Derived.TacticsInMore
import Derived.LoopNIn
import Derived.LoopIn
namespace Go.Proofs.YtmkjnlifimffkaaGreat
open Go.RowKit Tryz
set_option linter.all false
set_option maxRecDepth 100000
set_option maxHeartbeats 0
variable{Γ:Prop}
attribute[local irreducible]Calls
section
variable{P:Program}{ops:Array Oper}{a:Act}{Q:Exit->Act->World->Prop}
def y9{w:ab}{rest:List Oper}{o:Oper}(K:o.guard=none)(s x:Operand)(t:TypeId)
  (S:o.op=.call {callee:=.builtin .append,args:= #[s,x],argTypes:= #[t,t]}) (E:TypeId) (ht:P.underlying t=some (.slice E))
  (r:(P.info? E).map (λi=>(i.zero,i.size,i.bytes))=some (some (.int .i64 0),1,8))
  (B:Nat) (A:bz) (c:Nat) (zs:au) (hs:a.eval s=.slice A zs c) (m:aD w B E A c zs) (F:Addr) (cc:Nat) (l:au)
  (T:a.eval x=.slice (some F) l cc) (L:Rd w (some F) l) (O:zs.length+l.length<=1000000000) (V:B<=w.1.size)
  (h:∀G I w',aD w' B E G I (zs++l)->Below B w w'->(∀k,k<w.1.size->(∀F,A=some F->F.block≠k)->w'.heap[k]?=w.heap[k]?)->w.1.size<=w'.1.size->
   wpList P ops Q rest (a.put o.dst (.slice G (zs++l).length I)) w'):
  wpList P ops Q (o::rest) a w:=by
 have⟨i,hi,e6⟩:=bJ.1 r;simp only[dS]at e6;have⟨fN,gu,jR⟩:=e6
 refine uU w K s x t S B E i an 1 8 ht hi fN gu jR rfl ao _ _ _ hs m F l.length cc (l.map (Value.int .i64)) T aI
  (λj u hu=>?_) (by simp[Value.oneCell']) (by unfold maxLen;omega) Y V ?_
 .rw[bo]at hu;obtain⟨y,X,rfl⟩:=bJ.1 hu;have⟨b,off,e,_,hc⟩:=L j y X;cases e;unfold Addr.add;split;rename_i e;subst e;exact hc;exact hc
 intro v' w' z hg R _;have M:(zs++l).length=zs.length+l.length:=aI;obtain⟨G,I,rfl⟩:∃G I,v'=.slice G (zs++l).length I:=by rcases z.2 with⟨hv,hn⟩|⟨g,cap,cur,hv,_⟩;exact⟨none,0,by rw[hv,M,hn]⟩;exact⟨_,cap,by rw[M];exact hv⟩
 refine h _ _ _ ?_ ?_ ?_ hg.size;unfold aD;rw[c9];rw[M]at z⊢;exact z;refine(aY B w).grown hg Y ?_;intro k J;have:Value.ownBlock (.slice A zs c)=A.map (·.block):=by cases A<;>rfl
 rw[this]at J;obtain⟨C,D,rfl⟩:=bJ.1 J;exact m.fresh C D;intro k J N;refine hg.block k J ?_;have:Value.ownBlock (.slice A zs c)=A.map (·.block):=by cases A<;>rfl
 rw[this];intro e;obtain⟨C,D,rfl⟩:=bJ.1 e.symm;exact N C D rfl
def e1{t:TypeId}(hs:(P.info? (P.elem t)).map (·.size)=some 1)(w):(sizeOf (P.elem t)).run P w=.ok 1 w:=by
 have⟨i,hi,e⟩:=bJ.1 hs;simp[sizeOf,typeInfo,hi,e]
section
variable(t:TypeId)(ht:P.underlying t=some (.slice (P.elem t)))(hs:(P.info? (P.elem t)).map (·.size)=some 1)
include ht hs
theorem nV(A:bz)(l c k:Nat)(i:Int)(hi:i=(k:Int))(C:k<=l)(u:l<=c):
  ∃m,(∀w,(Instr.slice t (A,l,c) (some (.int .i64 i)) none none).run P w=.ok (.slice m (l-k) (c-k)) w)/\(∀w zs,zs.length=l->Rd w A zs->Rd w m (zs.drop k)):=by
 subst hi;refine⟨if c=k then A else A.map (·.add k),λw=>?_,λw zs D h j z e=>?_⟩;rw[dB w t A l c ht .i64 k Y Y,e1 hs];simp[Result.andThen,sliced];rw[iF]at e;obtain⟨b,off,rfl,hb,y⟩:=h _ z e;have B:=(bj.1 e).1;rw[ag Y];by_cases r:k=0;subst r;exact⟨b,off,by simp[Addr.add],hb,by simpa using y⟩;exact⟨b,off+k,by simp[Addr.add,r],hb,ay⟩
def Sd(A:bz)(l c k:Nat)(i:Int)(hi:i=(k:Int))(r:k<=l)(m:l<=c):
  ∃e,(∀w,(Instr.slice t (A,l,c) none (some (.int .i64 i)) none).run P w=.ok (.slice e k c) w)/\(∀w zs,zs.length=l->Rd w A zs->Rd w e (zs.take k)):=by
 subst hi;refine⟨A,λw=>?_,λw zs u h j z b=>?_⟩;rw[kV w t A l c ht .i64 k Y Y,e1 hs];cases A<;>simp[Result.andThen,sliced,Addr.add];rw[ji]at b;split at b;exact h j z b;cases b
def rq(A:bz)(l c k m:Nat)(i j:Int)(hi:i=(k:Int))(e:j=(m:Int))(D:k<=m)(hm:m<=l)(B:l<=c):
  ∃r,(∀w,(Instr.slice t (A,l,c) (some (.int .i64 i)) (some (.int .i64 j)) none).run P w=.ok (.slice r (m-k) (c-k)) w)/\(∀w zs,zs.length=l->Rd w A zs->Rd w r ((zs.drop k).take (m-k))):=by
 subst hi e;refine⟨if c=k then A else A.map (·.add k),λw=>?_,λw zs E h j z e=>?_⟩;rw[kW w t A l c ht .i64 .i64 k m Y Y Y,e1 hs];simp[Result.andThen,sliced];rw[ji]at e;split at e;rw[iF]at e;obtain⟨b,off,rfl,hb,u⟩:=h _ z e;have C:=(bj.1 e).1;rw[ag Y];by_cases y:k=0;subst y;exact⟨b,off,by simp[Addr.add],hb,by simpa using u⟩;exact⟨b,off+k,by simp[Addr.add,y],hb,by rw[pG];exact u⟩;cases e
end
def w9(w)(base)(t l e)(i:TypeInfo)(size)(ht:P.underlying t=some (.slice e))(hi:P.info? e=some i)
  (v) (n) (xs) (b:w.ownsRow base e size v n xs) (c):(Builtin.append_ #[t,t] l #[v,.slice none 0 c]).run P w=.ok v w:=by
 rcases b.2 with⟨rfl,rfl⟩|⟨g,cap,m,rfl,_,_,j,_⟩;simp[Builtin.append_,eu ht,sizeOf,typeInfo,hi,Builtin.lenOf,Builtin.firstCells];simp[Builtin.append_,eu ht,sizeOf,typeInfo,hi,Builtin.lenOf,Builtin.firstCells,j,storeCells]
def qM{w:ab}{rest:List Oper}{o:Oper}(r:o.guard=none)(s x:Operand)(t:TypeId)
  (G:o.op=.call {callee:=.builtin .append,args:= #[s,x],argTypes:= #[t,t]}) (E:TypeId) (ht:P.underlying t=some (.slice E))
  (j:(P.info? E).map (λi=>(i.zero,i.size,i.bytes))=some (some (.int .i64 0),1,8))
  (B:Nat) (A:bz) (c:Nat) (zs:au) (hs:a.eval s=.slice A zs c) (l:aD w B E A c zs) (D:bz) (I cc:Nat) (m:au) (F:m.length=I)
  (J:a.eval x=.slice D I cc) (u:Rd w D m) (z:zs.length+m.length<=1000000000) (N:B<=w.1.size)
  (h:∀L M w',aD w' B E L M (zs++m)->Below B w w'->(∀k,k<w.1.size->(∀C,A=some C->C.block≠k)->w'.heap[k]?=w.heap[k]?)->w.1.size<=w'.1.size->
   wpList P ops Q rest (a.put o.dst (.slice L (zs++m).length M)) w'):
  wpList P ops Q (o::rest) a w:=by
 subst F;cases D with
 |some C=>exact y9 r s x t G E ht j B A c zs hs l C cc m J u z N h
 |none=>
  have O:m=[]:=by
   cases m with
   |nil=>rfl
   |cons y m=>obtain⟨b,off,e,_⟩:=u 0 y rfl;cases e
  subst O;have⟨i,hi,_⟩:=bJ.1 j;refine wpList_plain r λK hK=>?_;have hr:=w9 w B t o.type E i 1 ht hi _ _ _ l cc;unfold Oper.wp execOp;simp only[G,resolve,invoke,builtin,uP,zO,uI,zG,eh,lM,hs,J,ja,hr];have:=h A c w (by simpa using l) (aY _ _) (λ_ _ _=>rfl) (al _);rw[ev]at this;exact hK _ _ this
end
section
variable{w':World}{A:Option Addr}{b b' c f:Nat}{O xs zs:List Int}{E z:Int}{T:TypeId}{P:Program}{args:Array Value}
@[grind cases]structure bL(B:Nat)(A:Option Addr):Prop where
 o:∀ad,A=some ad->B<=ad.block
section
variable{w:World}{n:Nat}
def bL.none:bL b none:=⟨λ_ h=>by cases h⟩
theorem bL.less(h:bL b A)(hb:b'<=b):bL b' A:=⟨ay⟩
def aD.fre(h:aD w b T A c zs):bL b A:=⟨h.fresh⟩
theorem Sl.setCell{p:Addr}(h:Sl w A n zs)(f:bL b A)(hp:p.block<b)(v):Sl (w.setCell p v) A n zs:=
 ⟨λj z l=>by
  have⟨k,off,e,hb,hc⟩:=h.rd j z l;refine⟨k,off,e,by simpa using hb,?_⟩;rw[<-hc];have:=f.o _ e;exact d4 (bb w p v k ay),h.len⟩
theorem Sl.bH{p:Nat}(h:Sl w A n zs)(f:bL b A)(hp:p<b)(v0 e):Sl ((w.setCell (p,0) v0).setCell (p,1) e) A n zs:=
 (h.setCell (p:=⟨p,0,none⟩) f hp v0).setCell (p:=⟨p,1,none⟩) f hp e
def dM(w:ab)(zs xs:au)(E:Int)(e:Ending)(w':ab):Prop:=
 ∃A c B d,e=.returned (.tuple #[.agg #[.slice A zs c,.slice B xs d],E])/\Sl w' A zs zs/\Sl w' B xs xs/\Le zs.length c/\Le xs.length d/\bL w.1.size A/\bL w.1.size B/\aj w' w
def t1(h:Calls P f args w (fF w zs xs E)):Calls P f args w (dM w zs xs E):=
 h.mono λ_ _ ⟨A,c,B,d,l,e,j,hb⟩=>⟨A,c,B,d,l,⟨e.rd,rfl⟩,⟨j.rd,rfl⟩,⟨e.hD⟩,⟨j.hD⟩,⟨e.fresh⟩,⟨j.fresh⟩,⟨hb⟩⟩
def Se{e:au}(h:Calls P f args w (dM w zs xs E))(j:zs=O)(l:xs=e)(hE:E=z):Calls P f args w (dM w O e z):=by
 subst j l hE;exact h
def jX(w:ab)(zs:au)(E:Int)(e:Ending)(w':ab):Prop:=
 ∃A c,e=.returned (.tuple #[.slice A zs c,E])/\Sl w' A zs zs/\Le zs.length c/\bL w.1.size A/\aj w' w
def Wl(h:Calls P f args w (he w zs E)):Calls P f args w (jX w zs E):=
 h.mono λ_ _ ⟨A,c,e,j,hb,l,m⟩=>⟨A,c,e,⟨j,rfl⟩,⟨m⟩,⟨l⟩,⟨hb⟩⟩
def ac2(w:ab)(zs:au)(e:Ending)(w':ab):Prop:=
 ∃g,e=.returned (.slice (some ⟨g,0,none⟩) zs zs.length)/\Sl w' (some ⟨g,0,none⟩) zs zs/\bL w.1.size (some ⟨g,0,none⟩)/\aj w' w
def ly[a:Sl w A n zs](j:n<=1000000):() 103 #[(A,n,c)] w (ac2 w zs):=by
 obtain⟨a,rfl⟩:=a;exact(mC A c zs w j a).mono λ_ _ ⟨g,l,hg,m,hb⟩=>⟨g,l,⟨m.rd,rfl⟩,⟨λr e=>by cases e;exact hg⟩,⟨hb⟩⟩
end
end
section
variable{P:Program}{args:Array Value}{v:Value}
def Qv{f:FuncId}{w:ab}{n:Nat}
  (h:Calls P f args (w.drewN n) λe w'=>e=.returned v/\w.drewN n=w'):Calls P f args (w.drewN n) λe b=>e=.returned v/\∃m,b=w.drewN m:=
 h.mono λ_ _ ⟨j,hm⟩=>⟨j,n,hm.symm⟩
def Qw{f:FuncId}{w:ab}{a n:Nat}
  (h:Calls P f args (w.drewN (a+n)) λe w'=>e=.returned v/\w.drewN (a+n)=w'):Calls P f args (w.drewN (a+n)) λe b=>e=.returned v/\∃m,b=w.drewN (a+m):=
 h.mono λ_ _ ⟨j,hm⟩=>⟨j,n,hm.symm⟩
def vB(l:List (Int×Int)):Int:=l.foldl (λs p=>bB s (bw p.1 p.2)) 0
def Bh(l:List (Int×Int))(x y:Int):vB (l++[(x,y)])=bB (vB l) (bw x y):=by simp[vB]
def Bk(l:List (Int×Int)):bf (vB l):=by
 rcases List.eq_nil_or_concat l with rfl|⟨m,x,rfl⟩;exact⟨ao,ao⟩;rw[List.concat_eq_append,Bh];exact hW _ _
def yz(w:ab)(n:Int)(e:Ending)(w':ab):Prop:=e=.returned n/\∃m,w'=w.drewN m
def zD9(h:Γ:=by simp[intOf];omega):=h
theorem Wm(A B:bz)(c d:Nat)(xs j:au)(w:ab)(hs:xs.length<=1000000)(_hs':j.length<=1000000)(F:Z (∀z∈xs,bf z))(G:Z (∀z∈j,bf z))(h:Rd w A xs)(I:Rd w B j):
  () 210 #[.slice A xs c,.slice B j d] w (yz w (vB (xs.zip j))):=by
 obtain⟨N,hN⟩:∃N:Nat,Z (min xs.length j.length=N):=⟨_,U rfl⟩;have Q:min (xs.length:Int) (j.length:Int)=(N:Int):=by have:=hN.o;omega
 have J:N<=xs.length:=by have:=hN.o;omega
 have K:N<=j.length:=by have:=hN.o;omega
 have L:Z ((xs.zip j).length=N):=ay;go_in;go_wp2;go_loopw [5,12] (λs i wr=>∃k m:Nat,k<=N/\i=.int .i64 k/\s=.int .i64 (vB ((xs.zip j).take k))/\wr=w.drewN m) (λ_ i _=>N-(intOf i).toNat);exact⟨0,0,aR _,rfl,rfl,rfl⟩;obtain⟨k,m,R,rfl,rfl,rfl⟩:=hrel;by_cases M:k<N
 .obtain⟨b,off,x,rfl,hb,S,u⟩:=h.get (k:=k) Y;obtain⟨T,E,y,rfl,O,P,C⟩:=I.get (k:=k) Y;have l:=F.o x (aK u.o);have r:=G.o y (aK C.o);have D:Z ((xs.zip j)[k]?=some (x,y)):=U (by rw[aaK];exact⟨u.o,C.o⟩);have l1:k<xs.length:=Y;have V:k<j.length:=Y;go_wp2;go_big_quiet ((first|(go_at_call 170;exact Qv (rc x y _ l r))|(go_at_call 170;exact Qw (rc x y _ l r))|(go_at_call 171;exact Qv (mE _ _ _ (Bk _) (jU l r)))|(go_at_call 171;exact Qw (mE _ _ _ (Bk _) (jU l r)))));go_wp2;go_roundw;exact⟨k+1,_,Y,by go_num,by rw[take_at D.o,Bh],rfl⟩;exact zD9
 have e:Z ((xs.zip j).take k=xs.zip j):=bV (by rw[L.o];omega);go_wp2;go_ret;exact⟨bI (by rw[e.o]),_,rfl⟩
end
section
variable{P:Program}{args:Array Value}{v:Value}{O xs zs:List Int}{x y:Int}
def rr{f:FuncId}{w:ab}(h:Calls P f args w λe w'=>e=.returned v/\w=w'):Calls P f args w λe w'=>e=.returned v/\w'=w:=
 h.mono λ_ _ ⟨b,j⟩=>⟨b,j.symm⟩
def cP(zs xs ts b:au):Bool:=aw zs xs&&aw ts b&&decide (zs=ts)
def JG(A B C D:bz)(c d l d':Nat)(zs xs ts b:au)(w:ab)(G:zs.length<=1000000)(ht:ts.length<=1000000)
  (I:Rd w A zs) (J:Rd w C ts):
  () 183 #[.agg #[.slice A zs c,.slice B xs d],.agg #[.slice C ts l,.slice D b d']] w (o0 w (.bool (cP zs xs ts b))):=by
 have r:=((aY w.1.size w).alloc (al _) (.cells #[.slice A zs c,.slice B xs d] 28)).alloc aI (.cells #[.slice C ts l,.slice D b d'] 28);have k0:=(aA.new w 28 #[.slice A zs c,.slice B xs d]).alloc (.cells #[.slice C ts l,.slice D b d'] 28);have u:=aA.eF (w.alloc (.cells #[.slice A zs c,.slice B xs d] 28)) 28 #[.slice C ts l,.slice D b d'] (n:=w.1.size+1) aI;rcases hr:aw zs xs with _|_
 .have y:=U hr;have z:Z (cP zs xs ts b=false):=U (by simp[cP,hr]);go_in;go_wp2_with fail;refine(eO A B c d zs xs _ G (I.below r)).mono ?_;rintro e w1 ⟨rfl,hb⟩;rw[y.o];go_wp2;go_ret;exact⟨bR z.o.symm,dm r hb⟩
 rcases o5:aw ts b with _|_
 .have y:=U hr;have m:=U o5;have z:Z (cP zs xs ts b=false):=U (by simp[cP,o5]);go_in;go_wp2_with fail;refine(eO A B c d zs xs _ G (I.below r)).mono ?_;rintro e w1 ⟨rfl,hb⟩;rw[y.o];have E:=dm r hb;have⟨q0,q1⟩:=bM (u.keep hb);go_wp2_with fail;refine(eO C D l d' ts b _ ht (J.below E)).mono ?_;rintro e w2 ⟨rfl,j⟩;rw[m.o];go_wp2;go_ret;exact⟨bR z.o.symm,dm E j⟩
 have y:=U hr;have m:=U o5;have z:Z (cP zs xs ts b=decide (zs=ts)):=U (by simp[cP,hr,o5]);go_in;go_wp2_with fail;refine(eO A B c d zs xs _ G (I.below r)).mono ?_;rintro e w1 ⟨rfl,hb⟩;rw[y.o];have E:=dm r hb;have k1:=k0.keep hb;have F:=u.keep hb;have⟨q0,q1⟩:=bM F;go_wp2_with fail;refine(eO C D l d' ts b _ ht (J.below E)).mono ?_;rintro e w2 ⟨rfl,j⟩;rw[m.o];have K:=dm E j;have⟨p0,p1⟩:=bM (k1.keep j);have⟨q0,q1⟩:=bM (F.keep j);go_wp2_with fail;refine(mj A C c l zs ts _ G ht (I.below K) (J.below K)).mono ?_;rintro e w3 ⟨rfl,n,rfl⟩;go_wp2;go_ret;exact⟨bR z.o.symm,below_drewN K n⟩
def mL(xs b:au)(k:Nat):List Int:=(xs.take k).zipWith bB (b.take k)++xs.drop k
theorem Sf{k:Nat}(e:xs.length=O.length)(b:xs[k]?=some x):(mL xs O k)[k]?=some x:=by
 have⟨hk,_⟩:=bj.1 b;rw[mL,eT ch];grind
def Nb{k:Nat}(l:xs.length=O.length)(b:xs[k]?=some x)(e:O[k]?=some y):(mL xs O k).set k (bB x y)=mL xs O (k+1):=by
 have⟨hk,_⟩:=bj.1 b;have j:((xs.take k).zipWith bB (O.take k)).length=k:=by simp;omega
 rw[mL,ky _ _ Y,j,eV,AD b,i4,mL,take_at b,take_at e,List.zipWith_append ch];simp
def Nc{k:Nat}(b:xs.length=O.length)(e:¬k<xs.length):mL xs O k=xs.zipWith bB O:=by
 rw[mL,bV Y,bV Y,eU Y,ev]
def Nf{ts:au}(h:cP zs xs ts O=true):zs=ts/\xs.length=O.length/\aw zs xs=true/\aw ts O=true/\xs.length<=65536/\zs.length<=4:=by
 simp only[cP,bU,b9]at h;have⟨⟨h1,h2⟩,h3⟩:=h;have b:=(aS _ _).1 h1;have e:=(aS _ _).1 h2;subst h3;have⟨n,hn,_,hn6⟩:=cG b.1;exact⟨rfl,Y,h1,h2,Y,((ba zs).1 b.1).2.1⟩
def Sg(A B C D:bz)(c d j d':Nat)(zs xs ts b:au)(w:ab)(m:zs.length<=1000000)(ht:ts.length<=1000000)
  (r:Rd w A zs) (u:Rd w C ts) (hr:Z (cP zs xs ts b=false)):
  () 115 #[.agg #[.slice A zs c,.slice B xs d],.agg #[.slice C ts j,.slice D b d']] w (fF w [] [] 20):=by
 have l:=(((aY w.1.size w).alloc (al _) (.cells #[.slice A zs c,.slice B xs d] 28)).alloc aI (.cells #[.slice C ts j,.slice D b d'] 28)).alloc ch (.cells #[(),()] 28);have k0:=aA.eF ((w.alloc (.cells #[.slice A zs c,.slice B xs d] 28)).alloc (.cells #[.slice C ts j,.slice D b d'] 28)) 28 #[(),()] (n:=w.1.size+1+1) aI;go_in;go_wp2_with fail;refine(JG A B C D c d j d' zs xs ts b _ m ht (r.below l) (u.below l)).mono ?_;rintro e w1 ⟨rfl,hb⟩;rw[hr.o];have k1:=k0.keep hb;have y:=dm l hb;have⟨q0,q1⟩:=bM k1;have F:=k1.frozen 0;have f1:=k1.frozen 1;go_wp2;have z:=k1.bP () ();have E:=bA y (p:=w.1.size+1+1) Y () ();have⟨q0,q1⟩:=bM z;exact aZ (v:=.tuple #[.agg #[(),()],(20:Int)]) (by simp[results,results115,go_sem,q0,q1]) rfl<|fF.no rfl rfl E _ rfl
def Bl(A B C D:bz)(c d J d':Nat)(zs xs ts j:au)(w:ab)
  (h1:Rd w A zs) (h2:Rd w B xs) (h3:Rd w C ts) (h4:Rd w D j) (hx:Z (∀z∈xs,bf z)) (hy:Z (∀z∈j,bf z)) (hr:Z (cP zs xs ts j=true)):
  () 115 #[.agg #[.slice A zs c,.slice B xs d],.agg #[.slice C ts J,.slice D j d']] w (fF w zs (xs.zipWith bB j) 0):=by
 obtain⟨M,hl,_,_,Bm,T⟩:=Nf hr.o;have K:=U hl;have ht4:ts.length<=4:=by rwa[<-M]
 clear hl M;have V:=(((aY w.1.size w).alloc (al _) (.cells #[.slice A zs c,.slice B xs d] 28)).alloc aI (.cells #[.slice C ts J,.slice D j d'] 28)).alloc ch (.cells #[(),()] 28);have k0:=aA.eF ((w.alloc (.cells #[.slice A zs c,.slice B xs d] 28)).alloc (.cells #[.slice C ts J,.slice D j d'] 28)) 28 #[(),()] (n:=w.1.size+1+1) aI;have m0:=((aA.new w 28 #[.slice A zs c,.slice B xs d]).alloc (.cells #[.slice C ts J,.slice D j d'] 28)).alloc (.cells #[(),()] 28);have n0:=(aA.eF (w.alloc (.cells #[.slice A zs c,.slice B xs d] 28)) 28 #[.slice C ts J,.slice D j d'] (n:=w.1.size+1) aI).alloc (.cells #[(),()] 28);go_in;go_wp2_with fail;refine(JG A B C D c d J d' zs xs ts j _ Y Y (h1.below V) (h3.below V)).mono ?_;rintro e w1 ⟨rfl,hb⟩;rw[hr.o];have k1:=k0.keep hb;have m1:=m0.keep hb;have n1:=n0.keep hb;have S:=dm V hb;obtain⟨q0,L⟩:=bM m1;clear k0 m0 n0;go_wp2_with fail;refine(pS A B c d zs xs _ Y Y (h1.below S) (h2.below S)).mono ?_;rintro e w2 ⟨g,l,rfl,hg,y7,ho,X,F⟩;have k2:=k1.keep F;have n2:=n1.keep F;have B2:=dm S F;have agh:=S.size;have N:=B2.size;clear q0 L m1 k1 n1;obtain⟨q0,L⟩:=bM (n2.alloc (.cells #[.slice g zs zs.length,.slice l xs xs.length] 28));go_wp2_with fail;go_loopw [19] (λi wr=>∃k:Nat,k<=j.length/\i=.int .i64 k/\Own wr g 3 zs/\Own wr l 65 (mL xs j k)/\aA wr (w.1.size+1+1) 28 #[(),()]/\aA wr w2.1.size 28 #[.slice g zs zs.length,.slice l xs xs.length]/\Below w.1.size w wr) (λi _=>j.length-(intOf i).toNat);case atStart=>exact⟨0,aR _,rfl,ho.alloc _,by simpa[mL]using X.alloc _,k2.alloc _,aA.new _ _ _,B2.alloc N _⟩
 case round=>
  clear q0 L;obtain⟨k,hk,rfl,o1,r,u,mb,m⟩:=hrel;by_cases G:k<j.length
  .have O:k<xs.length:=by rwa[K.o]
   obtain⟨b,off,y,rfl,hbb,hcy,P⟩:=(h4.below m).get G;obtain⟨x,I⟩:∃x,Z (xs[k]?=some x):=⟨_,U (bk O)⟩;have hcx:=r.cell (Sf K I.o);have hfx:=r.frozen k;have hxi:=hx.o x (aK I.o);have hyi:=hy.o y (aK P.o);have Q:=U (r.av k (bB x y)).drew;rw[Nb K.o I.o P.o]at Q;have O1:=(o1.aV (p:=⟨l,k,none⟩) (o1.aF (cs:=ints (mL xs j k)) (T':=65) r ao) (bB x y:Int)).drew;have KB:=(u.aV (p:=⟨l,k,none⟩) (r.aF u ao).symm (bB x y:Int)).drew;have MB:=(mb.aV (p:=⟨l,k,none⟩) (r.aF mb ao).symm (bB x y:Int)).drew;have HB:=(m.setCell (p:=⟨l,k,none⟩) (by show w.1.size<=l;omega) (bB x y:Int)).drew;have⟨p0,p1⟩:=bM mb;have CA:=U (rr (mE x y wr.drew hxi hyi));go_wp2;refine wp_region_still_tail 11 ap ap ?_;change wpStill _ _ (wr).drew _ _ _;simp only[f6,d8,iH,fl];(iterate 9 still_step);still_call CA;(repeat still_step);refine gH ?_;go_wp2;go_roundw;exact⟨k+1,Y,by go_num,O1,Q,KB,MB,HB⟩;exact zD9
  rw[Nc K.o (by rwa[K.o])]at r;have Q:=U r;have⟨p0,p1⟩:=bM mb;have⟨q0,L⟩:=bM u;have f0:=u.frozen 0;have f1:=u.frozen 1;have l1:=o1.aF u ao;have l2:=Q.o.aF u ao;(have R:(xs.zipWith bB j).length=xs.length:=by have:=K.o;simp;omega);have E:=U R;go_wp2;have k3:=u.bP (.slice g zs zs.length) (.slice l xs xs.length);have B3:=bA m (p:=w.1.size+1+1) Y (.slice g zs zs.length) (.slice l xs xs.length);have o3:=o1.bH l1 (.slice g zs zs.length) (.slice l xs xs.length);have o4:=Q.o.bH l2 (.slice g zs zs.length) (.slice l xs xs.length);obtain⟨q0,L⟩:=bM k3;exact aZ (v:=.tuple #[.agg #[.slice g zs zs.length,.slice l xs xs.length],an]) (by simp[results,results115,go_sem,q0,L]) rfl<|fF.yes Y Y Y (by rw[E.o];omega) o3 o4 B3 _ (by rw[E.o])
end
variable{xs zs:List Int}
def fp(h:aw zs xs=true):xs.length<=65536/\zs.length<=4:=by
 have b:=(aS _ _).1 h;have⟨n,hn,_,hn6⟩:=cG b.1;exact⟨Y,((ba zs).1 b.1).2.1⟩
variable{x z:Int}
def cF(row lo len:Nat)(xs:au)(n:Nat):List Int:=(List.range n).flatMap λj=>(xs.drop (j*row+lo)).take len
theorem mN(row lo len)(xs)(n):cF row lo len xs (n+1)=cF row lo len xs n++(xs.drop (n*row+lo)).take len:=by
 simp[cF,iK,nK]
theorem kD{row lo len:Nat}{n:Nat}(h:n*row<=xs.length)(b:lo+len<=row):(cF row lo len xs n).length=n*len:=by
 induction n with
 |zero=>simp[cF]
 |succ n e=>grind [Nat.succ_mul,mN,List.length_append,List.length_take,List.length_drop]
theorem oK{row lo len:Nat}{n:Nat}(h:z∈cF row lo len xs n):z∈xs:=by
 grind [cF,List.mem_of_mem_drop,List.mem_of_mem_take]
theorem iq{n:Nat}(b:zs[n]?=some z):aB zs=aB (zs.take n)*(z*aB (zs.drop (n+1))):=by
 have e:zs=zs.take n++(z::zs.drop (n+1)):=by rw[<-AD b,d3]
 grind [oz,yr]
def lw(h:1<=x):∃n:Nat,x=(n:Int)/\1<=n:=⟨x.toNat,Y,Y⟩
theorem mO{n:Nat}(b:cj zs=true)(j:zs[n]?=some z):
  ∃P m I:Nat,aB (zs.take n)=(P:Int)/\z=(m:Int)/\aB (zs.drop (n+1))=(I:Int)/\1<=P/\1<=m/\1<=I/\aB zs=((P*(m*I):Nat):Int):=by
 have hp:∀y∈zs,1<=y:=λy e=>(bW b e).1;have⟨P,hP,Ee⟩:=lw (jk (l:=zs.take n) ay);have⟨I,hI,Sh⟩:=lw (jk (l:=zs.drop (n+1)) ay);have⟨m,hZ,Ng⟩:=lw (hp z ay);refine⟨P,m,I,hP,hZ,hI,Ee,Ng,Sh,?_⟩;grind [iq,Int.natCast_mul]
theorem p2(h:cj zs=true)(n){v:Int}(e:1<=v)(j:v<=1024):cj (zs.set n v)=true:=by
 refine dL.2 λy b=>?_;rcases ij b with hm|rfl;exact dL.1 h y hm;grind
theorem p3{n:Nat}(v)(b:n<zs.length):aB (zs.set n v)=aB (zs.take n)*(v*aB (zs.drop (n+1))):=by
 have e:(zs.set n v)[n]?=some v:=by rw[jK b]
 rw[iq e,sG (al n),z8,ah Y]
section
variable{P:Program}
def Qx(A:bz)(c:Nat)(zs:au)(w:ab)(y:zs.length<=4)(j:Z (cj zs=true))(h:Rd w A zs):
  () 223 #[.slice A zs c] w λe w'=>e=.returned (aB zs:Int)/\w=w':=by
 go_in;go_wp2_with fail;go_loop [3,8] (λn i=>∃k:Nat,k<=zs.length/\i=.int .i64 k/\n=.int .i64 (aB (zs.take k))) (λ_ i=>zs.length-(intOf i).toNat);case atStart=>exact⟨0,aR _,rfl,rfl⟩
 case round=>
  obtain⟨k,B,rfl,rfl⟩:=hrel;obtain⟨l,m⟩:=mz zs j y k;by_cases r:k<zs.length
  .obtain⟨b,off,z,rfl,hb,C,u⟩:=h.get r;have⟨gu,jR⟩:=dI j u.o;have⟨lz,vC⟩:=l9 l m gu jR;go_wp2;go_round;(case rel=>exact⟨k+1,Y,by go_num,by rw[take_at u.o,jr]⟩);case measure=>exact ou
  have e:Z (zs.take k=zs):=bV Y;go_wp2;go_ret;exact⟨bI (by rw[e.o]),rfl⟩
def ac3(w:ab)(zs:au)(e:Ending)(w':ab):Prop:=
 ∃g,e=.returned (.tuple #[.slice (some ⟨g,0,none⟩) zs zs.length,an])/\w.1.size<=g/\Own w' g 3 zs/\Below w.1.size w w'
def JH(A:bz)(c:Nat)(zs:au)(n:Nat)(z a b:Int)(w:ab)(hs:zs.length<=1000000)(hr:Z (aH zs=true))(j:Z (zs[n]?=some z))(N:0<=a)(C:a<b)(D:b<=z)(h:Rd w A zs):
  () 129 #[.slice A zs c,n,a,b] w (ac3 w (zs.set n (b-a))):=by
 obtain⟨r1,O,u,E⟩:=(ba zs).1 hr;have F:n<zs.length:=(bj.1 j).1;obtain⟨P,off,G,rfl,I,Q,y⟩:=h.get F;obtain rfl:z=G:=by have:=j.o.symm.trans y.o;injection this
 have⟨gu,jR⟩:=dI u j;go_in;go_wp2_with fail;refine(dq _ c zs w hs h).mono ?_;rintro e w1 ⟨rfl,hb⟩;rw[hr.o];have J:=(h.below hb).all j;go_wp2_with fail;refine(mC _ c zs w1 hs (h.below hb)).mono ?_;rintro e w2 ⟨g,rfl,hg,r,B⟩;have K:=r.cell j;have L:=r.frozen n;have M:=U (r.av n (b-a));clear r;have l:(zs.set n (b-a)).length=zs.length:=aI;have m:=U l;go_wp2_with fail;go_ret2;exact⟨g,by rw[m.o];rfl,aQ hb.size hg,M.o,(dm hb B).setCell (aQ hb.size hg) _⟩
def oL(t e:TypeId)(ht:P.underlying t=some (.slice e))(b:(P.info? e).map (λi=>(i.zero,i.size,i.bytes))=some (some (.int .i64 0),1,8))(n:Nat)(j:n<=1000000)(W:ab):
  (Instr.makeSlice t an (n:Int)).run P W=.ok (W,0,n) (W.alloc (.cells (ints (List.replicate n 0)) e)):=by
 have⟨i,hi,e6⟩:=bJ.1 b;simp only[dS]at e6;have⟨hz,hs,hb⟩:=e6;have:=run_make (P:=P) W t e i an ht hi hz .i64 .i64 0 n (eb _) Y (by rw[hb];omega) Y;rw[this,hs,<-jh];simp[Value.cells]
def xb(W:ab)(E:TypeId)(n:Nat)(b:n<=1000000):aD (W.alloc (.cells (ints (List.replicate n 0)) E)) W.1.size E W n []:=
 World.ownsRow_made W _ n (al _) (by unfold maxLen;omega) (by simp[ints])
def gL(zs xs:au)(e a b:Int):Int:=if aw zs xs then gz zs e a b else 20
def zDg(h:Γ:=by simp[results,results178,go_sem,q0,q1]):=h
def Si(A B:bz)(c d:Nat)(zs xs:au)(j a b:Int)(w:ab)(r:zs.length<=1000000)(u:Rd w A zs)(hr:Z (gL zs xs j a b≠0)):
  () 178 #[.agg #[.slice A zs c,.slice B xs d],j,a,b] w (fF w [] [] (gL zs xs j a b)):=by
 have m:=((aY w.1.size w).alloc (al _) (.cells #[.slice A zs c,.slice B xs d] 28)).alloc aI (.cells #[(),()] 28);have k1:=(aA.new w 28 #[.slice A zs c,.slice B xs d]).alloc (.cells #[(),()] 28);have l:=aA.eF (w.alloc (.cells #[.slice A zs c,.slice B xs d] 28)) 28 #[(),()] (n:=w.1.size+1) aI;rcases ht:aw zs xs with _|_
 .have y:=U ht;have z:Z (gL zs xs j a b=20):=U (by simp[gL,ht]);go_in;go_wp2_with fail;refine(eO A B c d zs xs _ r (u.below m)).mono ?_;rintro e w1 ⟨rfl,hb⟩;rw[y.o];replace l:=l.keep hb;replace m:=dm m hb;have⟨q0,q1⟩:=bM l;have E:=l.frozen 0;have f1:=l.frozen 1;go_wp2;have C:=l.bP () ();have D:=bA m (p:=w.1.size+1) Y () ();have⟨q0,q1⟩:=bM C;exact aZ (v:=.tuple #[.agg #[(),()],(20:Int)]) zDg rfl<|fF.no rfl rfl D _ (by rw[z.o])
 have y:=U ht;have z:Z (gL zs xs j a b=gz zs j a b):=U (by simp[gL,ht]);rw[z.o]at hr⊢;have F:Z (hH zs j a b=[]):=U (by simp[hH,hr.o]);have G:(gz zs j a b !=0)=true:=by simpa using hr.o
 go_in;go_wp2_with fail;refine(eO A B c d zs xs _ r (u.below m)).mono ?_;rintro e w1 ⟨rfl,hb⟩;rw[y.o];replace k1:=k1.keep hb;replace l:=l.keep hb;replace m:=dm m hb;have⟨p0,p1⟩:=bM k1;go_wp2_with fail;refine(Qe A c zs j a b w1 r (u.below m)).mono ?_;rintro e w2 ⟨I,c1,rfl,-,hb,-,-⟩;rw[F.o];replace l:=l.keep hb;replace m:=dm m hb;have⟨q0,q1⟩:=bM l;have E:=l.frozen 0;have f1:=l.frozen 1;go_wp2;have C:=l.bP () ();have D:=bA m (p:=w.1.size+1) Y () ();have⟨q0,q1⟩:=bM C;exact aZ (v:=.tuple #[.agg #[(),()],.int .i64 (gz zs j a b)]) zDg rfl<|fF.no rfl rfl D _ rfl
end
def zDh(h:Γ:=by omega):=h
def Nh(A B:bz)(c d:Nat)(zs xs:au)(n P aa I F T:Nat)(w:ab)(hr:Z (aw zs xs=true))(hz:Z (zs[n]?=some (aa:Int)))(hP:Z (aB (zs.take n)=(P:Int)))(hI:Z (aB (zs.drop (n+1))=(I:Int)))
  (Ni:F<T) (Hq:T<=aa) (hd:xs.length<=d) (h1:Rd w A zs) (h2:Rd w B xs):
  () 178 #[.agg #[.slice A zs c,.slice B xs d],n,F,T] w (fF w (zs.set n ((T:Int)-F)) (cF (aa*I) (F*I) ((T-F)*I) xs P) 0):=by
 obtain⟨Q,jY⟩:=(aS _ _).1 hr.o;obtain⟨r1,r4,q9,rpr⟩:=(ba zs).1 Q;have HRZ:=U Q;have E:=U q9;have hn:n<zs.length:=(bj.1 hz.o).1;clear Q q9;have y:=((aY w.1.size w).alloc (al _) (.cells #[.slice A zs c,.slice B xs d] 28)).alloc aI (.cells #[(),()] 28);have k1:=(aA.new w 28 #[.slice A zs c,.slice B xs d]).alloc (.cells #[(),()] 28);have kR:=aA.eF (w.alloc (.cells #[.slice A zs c,.slice B xs d] 28)) 28 #[(),()] (n:=w.1.size+1) aI;have oI:=U jY;clear jY;go_in;go_wp2_with fail;refine(eO A B c d zs xs _ Y (h1.below y)).mono ?_;rintro e w1 ⟨rfl,hb⟩;rw[hr.o];replace k1:=k1.keep hb;replace kR:=kR.keep hb;replace y:=dm y hb;clear hb;obtain⟨p0,p1⟩:=bM k1;go_wp2_with fail;refine(JH A c zs n aa F T w1 Y HRZ hz Y Y Y (h1.below y)).mono ?_;rintro e w2 ⟨g,rfl,hg,ho,hb⟩;clear p0 p1;have ru:w.1.size<=g:=aQ y.size hg;replace k1:=k1.keep hb;replace kR:=kR.keep hb;replace y:=dm y hb;clear hb;obtain⟨p0,p1⟩:=bM k1;obtain⟨AS,kE,JI⟩:=nV (P:=prog) 25 ap ap g zs.length zs.length (n+1) ((n:Int)+1) Y Y (al _);have M:(zs.set n ((T:Int)-F)).drop (n+1)=zs.drop (n+1):=by rw[z8,ah zDh]
 have RS:Rd w2 AS (zs.drop (n+1)):=by rw[<-M];exact JI w2 _ aI ho.rd
 have V:=U (Qx AS (zs.length-(n+1)) (zs.drop (n+1)) w2 ch (U (oB E.o _)) RS);rw[e2,hI.o]at V;clear M JI;go_wp2_with fail;refine V.o.mono ?_;rintro e w3 ⟨rfl,rfl⟩;obtain⟨gu,jR⟩:=dI E.o hz.o;obtain⟨P',Z',I',eP,eZ,eI,Ee,Ng,Sh,eN⟩:=mO E.o hz.o;obtain rfl:P=P':=by have:=hP.o.symm.trans eP;omega
 obtain rfl:aa=Z':=Y;obtain rfl:I=I':=by have:=hI.o.symm.trans eI;omega
 have z:xs.length=P*(aa*I):=by have:=oI.o;rw[eN]at this;exact GR this
 have Bm:xs.length<=65536:=by have:=oI.o;omega
 clear eP eZ eI eN;obtain⟨R,O⟩:=lh (aa*I);obtain⟨m,G⟩:=lh (F*I);obtain⟨X,J⟩:=lh (T*I);obtain⟨b,r⟩:=lh ((T-F)*I);obtain⟨N,hN⟩:=lh (P*b);have hHR:X<=R:=by rw[<-J,<-O];exact cV _ Hq
 have Sj:m+b=X:=by rw[<-G,<-r,<-J,<-im];congr 1;omega
 have za:1<=R:=by rw[<-O];exact kY Ng Sh
 have hRx:R<=xs.length:=by rw[z,O];exact zT _ Ee
 have hNx:N<=xs.length:=by rw[z,O,<-hN];exact fS _ Y
 rw[O]at z;have mR:(aa:Int)*(I:Int)=(R:Int):=by rw[<-O,cH]
 have mLO:(F:Int)*(I:Int)=(m:Int):=by rw[<-G,cH]
 have mHI:(T:Int)*(I:Int)=(X:Int):=by rw[<-J,cH]
 have hN2:aB (zs.set n ((T:Int)-F))=(N:Int):=by rw[p3 _ hn,hP.o,hI.o,<-hN,<-r,cH,cH,Int.natCast_sub Y]
 obtain⟨b0,agi,z',rfl,hb0,mG,DX⟩:=(h1.below y).get hn;obtain rfl:(aa:Int)=z':=by have:=hz.o.symm.trans DX.o;injection this
 have HR':=U O;have HLO:=U G;have Vu:=U r;have HXN:=U z;have CN:=U (Qx g zs.length (zs.set n ((T:Int)-F)) w2 ch (U (p2 E.o n Y Y)) ho.rd);rw[hN2,ei]at CN;have jF:=λW=>oL (P:=prog) 26 65 underlying26 ap N Y W;clear O G J r z hN hN2 DX V;go_wp2_with fail;refine CN.o.mono ?_;rintro e w3 ⟨rfl,rfl⟩;have aep:=y.size;go_wp2_with fail;clear p0 p1 mG;go_loopw [14,15] (λv i wr=>∃(j S:Nat) (K:bz) (L:Nat),j<=P/\Z (j*R=S)/\i=.int .i64 S/\v=.slice K (cF R m b xs j).length L/\aD wr w2.1.size 65 K L (cF R m b xs j)/\Below w2.1.size w2 wr) (λ_ i _=>xs.length-(intOf i).toNat);case atStart=>exact⟨0,0,_,_,aR _,U aI,rfl,rfl,xb _ _ _ Y,(aY _ _).alloc (al _) _⟩
 case round=>
  obtain⟨j,S,K,L,hj,hS,rfl,rfl,C,l⟩:=hrel;have k1r:=k1.keep l;obtain⟨p0,p1⟩:=bM k1r;by_cases hjP:j<P
  .have hSx:S+R<=xs.length:=by rw[HXN.o,<-hS.o,<-f7];exact cV _ hjP
   obtain⟨A2,Fa,D⟩:=rq (P:=prog) 26 ap ap B xs.length d (S+m) (S+X) ((S:Int)+m) ((S:Int)+X) Y Y Y Y hd;have e1:S+X-(S+m)=b:=Y;rw[e1]at Fa D;have R2:=D wr xs rfl ((h2.below y).below l);(have vi:((xs.drop (S+m)).take b).length=b:=by simp;omega);(have vj:(cF R m b xs j).length<=65536:=by rw[kD (by rw[hS.o];omega) Y];have h1:j*b<=j*R:=fS _ Y;have h2:=hS.o;omega);have ESX:S<xs.length:=Y;clear D e1;go_wp2_with (at_builtin;refine qM rfl (.tmp 56) (.tmp 69) 26 rfl 65 underlying26 ap w2.1.size K L (cF R m b xs j) rfl C A2 b _ ((xs.drop (S+m)).take b) vi rfl R2 Y l.size ?_;intro A3 c3 w3 lN s9 agj ab6);refine⟨⟨j+1,S+R,A3,c3,Y,U (by rw[f7,hS.o]),by go_num,?_,?_,l.trans s9⟩,by simp[intOf];omega⟩;rw[mN,hS.o,bh,vi];rwa[mN,hS.o]
  obtain rfl:j=P:=Y;(have hSx:xs.length=S:=by rw[HXN.o,hS.o]);have agk:¬S<xs.length:=Y;have u:=kR.keep l;have hor:=ho.keep l;have⟨q0,q1⟩:=bM u;have f0:=u.frozen 0;have f1:=u.frozen 1;have l1:=hor.aF u ao;have l2:=C.aF u ao;have B2:=dm y l;go_wp2;have k3:=u.bP (.slice g zs zs.length) (.slice K (cF R m b xs j).length L);have B3:=bA B2 (p:=w.1.size+1) Y (.slice g zs zs.length) (.slice K (cF R m b xs j).length L);have o3:=hor.bH l1 (.slice g zs zs.length) (.slice K (cF R m b xs j).length L);have o4:=C.bH l2 (.slice g zs zs.length) (.slice K (cF R m b xs j).length L);have⟨q0,q1⟩:=bM k3;refine aZ (v:=.tuple #[.agg #[.slice g zs zs.length,.slice K (cF R m b xs j).length L],an]) zDg rfl ?_;rw[HR'.o,HLO.o,Vu.o];exact⟨_,_,_,_,by rw[ei],by have:=aD.gJ o3 ru ch;rw[ei]at this;exact this,o4.more aep,B3⟩
def zb{ts:au}{n:Nat}(h:f9 zs ts n=true):zs.take n=ts.take n/\zs.drop (n+1)=ts.drop (n+1):=by
 simpa[f9]using h
theorem Bn{ts:au}(h:ec zs ts z=0):
  ∃n P b Z2 I:Nat,z=(n:Int)/\aH zs=true/\aH ts=true/\zs.length=ts.length/\n<zs.length/\zs[n]?=some (b:Int)/\ts[n]?=some (Z2:Int)/\1<=b/\1<=Z2/\1<=P/\1<=I/\
   aB (zs.take n)=(P:Int)/\aB (zs.drop (n+1))=(I:Int)/\aB (ts.take n)=(P:Int)/\aB (ts.drop (n+1))=(I:Int)/\aB zs=((P*(b*I):Nat):Int)/\aB ts=((P*(Z2*I):Nat):Int)/\
   hT zs ts n=zs.set n ((b:Int)+Z2)/\f9 zs ts n=true/\aH (zs.set n ((b:Int)+Z2))=true/\zs.set n (Z2:Int)=ts:=by
 unfold ec at h;split at h
 .rename_i hg;simp only[bU,b9]at hg;have⟨⟨hr,o5⟩,hl⟩:=hg;split at h
  .rename_i hs;simp only[bU,b9]at hs;obtain⟨n,rfl⟩:=bO hs.1;rw[a9]at h;split at h;rename_i m;simp only[bU]at m;have r:n<zs.length:=Y;have⟨_,_,q9,_⟩:=(ba zs).1 hr;have⟨_,_,aeq,_⟩:=(ba ts).1 o5;obtain⟨P,b,I,u,J,y,hP,K,L,M⟩:=mO q9 (bk r);obtain⟨N,Z2,O,e,B,j,_,C,_,D⟩:=mO aeq (bk (show n<ts.length by omega));have⟨s1,s2⟩:=zb m.1;rw[<-s1,u]at e;rw[<-s2,y]at j;obtain rfl:P=N:=GR e;obtain rfl:I=O:=GR j;(have E:zs[n]?=some (b:Int):=by rw[bk r,J]);(have F:ts[n]?=some (Z2:Int):=by rw[bk zDh,B]);(have G:hT zs ts n=zs.set n ((b:Int)+Z2):=by rw[hT];simp[List.getD,E,F]);refine⟨n,P,b,Z2,I,rfl,hr,o5,hl,r,E,F,K,C,hP,L,u,y,by rw[<-s1];exact u,by rw[<-s2];exact y,M,D,G,m.1,by rw[<-G];exact m.2,?_⟩;apply eo;intro i;by_cases hi:i=n;grind;rw[zB Y];rcases zL hi with Q|hgt;have:=di (λl=>l[i]?) s1;grind;have:=di (λl=>l[i-(n+1)]?) s2;grind;cases h
  cases h
 cases h

variable{I:Nat}
@[grind cases]structure JW(n P I qab:Nat)(s:List Int):Prop where
 right:aH s=true
 lt:n<s
 at_:s[n]?=some (qab:Int)
 ahead:aB (s.take n)=(P:Int)
 behind:aB (s.drop (n+1))=(I:Int)
 p1:1<=P
 i1:1<=I
 z1:1<=qab
section
variable{n P qab:Nat}{s:List Int}
def JW.prod(h:JW n P I qab s):aB s=((P*(qab*I):Nat):Int):=by
 rw[iq h.at_,h.ahead,h.behind];simp
def JW.small(h:JW n P I qab s):P*(qab*I)<=65536:=by
 have:=h.prod;have⟨_,_,_,h4⟩:=(ba s).1 h.right;rw[this]at h4;omega
def JW.cells(h:JW n P I qab s)(hr:aw s xs=true):xs.length=P*(qab*I):=by
 have:=((aS _ _).1 hr).2;rw[h.prod]at this;omega
def JW.of{n:Nat}(hr:aH s=true)(b:n<s.length):∃P I qab,JW n P I qab s:=by
 have⟨_,_,q9,_⟩:=(ba s).1 hr;obtain⟨P,qab,I,e,j,l,hP,m,r,-⟩:=mO q9 (bk b);exact⟨P,I,qab,hr,b,by rw[bk b,j],e,l,hP,r,m⟩
end
variable{R i m:Nat}{side:Int}{t:Tn}
def xc(b:Int):List Int->List Tn->Int
 |_,[]=>0
 |s,t::l=>if aw t.zs t.xs then(if ec s t.zs b=0 then xc b (dF s t.zs b) l else ec s t.zs b)else 20
def zc(b:Int):List Int->List Tn->List Int
 |s,[]=>s
 |s,t::l=>zc b (dF s t.zs b) l
def zd(b:Int):List Tn->Int
 |[]=>20
 |t::l=>if aw t.zs t.xs then(if l.isEmpty&& !(decide (0<=b)&&decide (b<t.zs.length))then 11 else xc b t.zs l)else 20
def xd(b)(t)(l):zd b (t::l)=if aw t.zs t.xs then(if l.isEmpty&& !(decide (0<=b)&&decide (b<t.zs.length))then 11 else xc b t.zs l)else 20:=rfl
def vD(b:Int):List Tn->List Int
 |[]=>[]
 |t::l=>zc b t.zs l
section
variable{n P qab:Nat}{s s':List Int}{l:List Tn}
theorem JW.step(h:JW n P I qab s)(hs:side=(n:Int))(m:ec s t.zs side=0):∃Z2,JW n P I Z2 t.zs/\JW n P I (qab+Z2) (dF s t.zs side)/\dF s t.zs side=s.set n ((qab:Int)+Z2)/\s.set n (Z2:Int)=t.zs:=by
 obtain⟨z,B,r,Z2,C,e,r1,r2,O,Q,D,E,z1,F,p1,i1,u,G,b,j,-,-,J,-,K,L⟩:=Bn m;obtain rfl:n=z:=Y;have M:=h.ahead;have N:=h.behind;have a3:=h.at_;rw[u]at M;rw[G]at N;rw[D]at a3;obtain rfl:B=P:=Y;obtain rfl:C=I:=Y;obtain rfl:r=qab:=ay;have y:dF s t.zs side=s.set n ((r:Int)+Z2):=by rw[dF,ah m,hs,a9,J]
 refine⟨Z2,⟨r2,Y,E,b,j,p1,i1,F⟩,?_,y,L⟩;rw[y];exact⟨K,by simp;omega,ay,by rw[sG (al _)];exact u,by grind [List.drop_set_of_lt],p1,i1,Y⟩
def dC(P:Nat)(l:List Tn):Nat:=(l.map λt=>t.xs.length/P).sum
theorem JW.row(h:JW n P I qab s)(hr:aw s xs=true):xs.length/P=qab*I:=by
 rw[h.cells hr,Nat.mul_div_cancel_left _ ay]
theorem Fb{s:au}{n:Nat}(h:s[n]?=some z):s.set n z=s:=by
 apply eo;grind
theorem JW.all(hs:side=(n:Int)):∀{l:List Tn} {qab:Nat} {s:au},JW n P I qab s->xc side s l=0->(∃R:Nat,JW n P I R (zc side s l)/\R*I=qab*I+dC P l/\zc side s l=s.set n (R:Int))/\∀t∈l,aw t.zs t.xs=true/\∃e:Nat,JW n P I e t.zs/\s.set n (e:Int)=t.zs
 |[],qab,s,h,_=>⟨⟨qab,h,by simp[dC],(Fb h.at_).symm⟩,λt ht=>by cases ht⟩
 |t::l,qab,s,h,b=>
  by
   unfold xc at b;split at b
   .rename_i hr;split at b;rename_i j;have⟨Z2,w2,w,ev,es⟩:=h.step hs j;have⟨⟨R,h1,h3,h4⟩,h2⟩:=JW.all hs w b;refine⟨⟨R,h1,?_,?_⟩,λu hu=>?_⟩;rw[h3,im,dC,dC,eh,jL,w2.row hr];omega;grind [zc,dF,List.set_set];rcases dE.1 hu with rfl|hu;grind;grind [List.set_set];grind
   omega
def zN(n:Nat)(t:Tn):Nat:=(t.zs.getD n 0).toNat
theorem JW.zN{t:Tn}(h:JW n P I qab t.zs):zN n t=qab:=by
 grind [zN]
def eA(n:Nat)(ts:List Tn)(k:Nat):Nat:=((ts.take k).map (zN n)).sum
def yA{ts:List Tn}{k:Nat}{t:Tn}(h:ts[k]?=some t):eA n ts (k+1)=eA n ts k+zN n t:=by
 rw[eA,take_at h];simp[eA]
def Fc(ts)(k):eA n ts k<=eA n ts ts.length:=by
 have e:eA n ts ts.length=eA n ts k+((ts.drop k).map (Go.Proofs.YtmkjnlifimffkaaGreat.zN n)).sum:=by unfold eA;rw[bV (al _),<-sA,<-c9,d3]
 omega
def Nj{ts:List Tn}(h:∀t∈ts,aw t.zs t.xs=true/\∃b:Nat,JW n P I b t.zs):dC P ts=eA n ts ts.length*I:=by
 unfold eA;rw[bV (al _)];induction ts with
 |nil=>simp[dC]
 |cons t l e=>have⟨hr,b,hw⟩:=h t dD;have:=e λu hu=>h u (iD _ hu);rw[dC,eh,jL,eh,jL,hw.row hr,hw.zN,im];rw[dC]at this;omega
theorem Bo{ts:List Tn}(h:zd side ts=0):∃n P I qab:Nat,side=(n:Int)/\JW n P I qab (vD side ts)/\0<ts.length/\(∀t∈ts,aw t.zs t.xs=true/\JW n P I (zN n t) t.zs/\(vD side ts).set n (zN n t:Int)=t.zs)/\qab*I=dC P ts/\eA n ts ts.length=qab:=by
 cases ts with
 |nil=>simp[zd]at h
 |cons t l=>
  rw[xd]at h;split at h
  .rename_i hr;have m:=((aS _ _).1 hr).1;split at h;omega;rename_i y;have:∃n:Nat,side=(n:Int)/\n<t.zs.length:=by
    cases l with
    |nil=>simp at y;exact⟨side.toNat,Y,Y⟩
    |cons u l=>
     unfold xc at h;split at h
     .split at h;rename_i z;have⟨n',_,_,_,_,e,_,_,_,hn,_⟩:=Bn z;grind;grind
     omega
   have⟨n,hs,hn⟩:=this;have⟨P,I,qab,hw⟩:=JW.of m hn;have⟨⟨R,h1,h3,h4⟩,h2⟩:=hw.all hs h;(have j:∀u∈t::l,aw u.zs u.xs=true/\JW n P I (zN n u) u.zs/\(vD side (t::l)).set n (zN n u:Int)=u.zs:=λu hu=>by rcases dE.1 hu with rfl|hu;exact⟨hr,by rw[hw.zN];exact hw,by show(zc side u.zs l).set n _=_;rw[h4,P6,hw.zN,Fb hw.at_]⟩;have⟨a,Zu,b,c⟩:=h2 u hu;exact⟨a,by rw[b.zN];exact b,by show(zc side t.zs l).set n _=_;rw[h4,P6,b.zN,c]⟩);(have r:R*I=dC P (t::l):=by rw[h3,dC,dC,eh,jL,hw.row hr]);refine⟨n,P,I,R,hs,h1,aI,j,r,?_⟩;rw[Nj λu hu=>⟨(j u hu).1,_,(j u hu).2.1⟩]at r;grind [Nat.eq_of_mul_eq_mul_right]
  omega
theorem Nk(P)(l)(m):dC P (l.take m)<=dC P l:=by
 grind [dC,List.take_append_drop]
end
def p6(P i:Nat)(xs:au):List Int:=(xs.drop (i*(xs.length/P))).take (xs.length/P)
def e9(P i:Nat)(ts:List Tn)(m:Nat):List Int:=(ts.take m).flatMap λt=>p6 P i t.xs
def p7(P:Nat)(ts:List Tn)(i:Nat):List Int:=(List.range i).flatMap λj=>e9 P j ts ts.length
theorem xe(P)(ts)(i):p7 P ts (i+1)=p7 P ts i++e9 P i ts ts.length:=by simp[p7,iK]
def Hr{P:Nat}{ts:List Tn}(h:ts[m]?=some t):e9 P i ts (m+1)=e9 P i ts m++p6 P i t.xs:=by
 rw[e9,take_at h];simp[e9]
theorem Nl(P i)(xs):(p6 P i xs).length<=xs.length/P:=by simp[p6];omega
theorem yB(P i)(ts)(m):(e9 P i ts m).length<=dC P ts:=by
 refine aQ ?_ (Nk P ts m);unfold e9 dC;induction ts.take m with
 |nil=>simp
 |cons t l b=>grind [List.length_append,Nl]
theorem Wn(P)(ts)(i):(p7 P ts i).length<=i*dC P ts:=by
 induction i with
 |zero=>simp[p7]
 |succ i b=>grind [xe,List.length_append,Nat.succ_mul,yB]
theorem Nn{P:Nat}(h:z∈p6 P i xs):z∈xs:=hJ (eS h)
theorem Wo{P:Nat}{ts:List Tn}(h:z∈p7 P ts i):∃t∈ts,z∈t.xs:=by
 grind [p7,e9,List.mem_of_mem_take,Nn]
variable{w':World}{A B C D:Option Addr}{b b' c c' d d' m':Nat}{ys:List Int}{E y:Int}
section
variable{w:World}{n:Nat}{ts:List Int}
def vE[a:Sl w A n zs][b:Sl w B m ts](e:n<=1000000)(hm:m<=1000000){V:au}(j:Z (ec zs ts side=z))(hV:Z (dF zs ts side=V)):() 191 #[(A,n,c),(B,m,d),side] w (jX w V z):=by
 obtain⟨a,rfl⟩:=a;obtain⟨b,rfl⟩:=b;rw[<-j.o,<-hV.o];exact Wl (Vp A B c d zs ts side w e hm a b)
def Qy[a:Sl w A n zs](e:n<=1000000){V:au}(j:Z (gz zs side x y=z))(hV:Z (hH zs side x y=V)):() 129 #[(A,n,c),side,x,y] w (jX w V z):=by
 obtain⟨a,rfl⟩:=a;rw[<-j.o,<-hV.o];exact Wl (Qe A c zs side x y w e a)
def h5[a:Sl w A n zs](e:n<=1000000){V:Int}(hV:Z (bG zs=V))(j:Z (cB zs=z)):() 73 #[(A,n,c)] w (aL w (.tuple #[V,z])):=by
 obtain⟨a,rfl⟩:=a;rw[<-j.o,<-hV.o];exact Vx (vh A c zs w e a)
def sM[a:Sl w A n zs][b:Sl w B m xs](e:n<=1000000)(hm:m<=1000000)(h:aw zs xs=true):() 25 #[(A,n,c),(B,m,d)] w (dM w zs xs 0):=by
 obtain⟨a,rfl⟩:=a;obtain⟨b,rfl⟩:=b;exact t1 (RH A B c d zs xs w e hm a b h)
def No[a:Sl w A n zs][b:Sl w B m xs](e:n<=1000000)(h:aw zs xs=false):() 25 #[(A,n,c),(B,m,d)] w (dM w [] [] 20):=by
 obtain⟨a,rfl⟩:=a;obtain⟨b,rfl⟩:=b;exact t1 (Vw A B c d zs xs w e a h)
def rv{n:Nat}(e:zs[n]?=some z):aB (zs.drop n)=z*aB (zs.drop (n+1)):=by
 rw[AD e,yr]
def JJ(zs xs:au)(side x y:Int):List Int:=if gL zs xs side x y=0 then hH zs side x y else[]
def Hs(zs xs:au)(side x y:Int):List Int:=
 if gL zs xs side x y=0 then cF (aB (zs.drop side.toNat)).toNat (x*aB (zs.drop (side.toNat+1))).toNat ((y-x)*aB (zs.drop (side.toNat+1))).toNat xs (aB (zs.take side.toNat)).toNat else[]
def Qz[a:Sl w A n zs][b:Sl w B m xs][Q:Le m d](V:n<=1000000){S X:au}(G:Z (gL zs xs side x y=z))(hS:Z (JJ zs xs side x y=S))(K:Z (Hs zs xs side x y=X)):
  () 178 #[.agg #[(A,n,c),(B,m,d)],side,x,y] w (dM w S X z):=by
 obtain⟨a,rfl⟩:=a;obtain⟨b,rfl⟩:=b;by_cases j:gL zs xs side x y=0
 .rw[<-G.o,j];have e:=j;unfold gL at e;split at e
  .rename_i hq;have l:=e;unfold gz at l;split at l
   .rename_i hr;split at l;rename_i L;simp only[bU,b9]at L;have⟨⟨⟨⟨s0,s1⟩,x0⟩,y1⟩,xy⟩:=L;obtain⟨k,rfl⟩:=bO s0;obtain⟨F,rfl⟩:=bO x0;obtain⟨T,rfl⟩:=bO (show 0<=y by omega);have M:k<zs.length:=Y;have⟨_,_,q9,_⟩:=(ba zs).1 hr;obtain⟨P,aa,I,N,eZ,O,hP,hZ,hI,-⟩:=mO q9 (bk M);(have r:zs[k]?=some (aa:Int):=by rw[bk M,eZ]);(have u:T<=aa:=by rw[a9,a5,r]at y1;simp at y1;omega);have:=t1 (Nh A B c d zs xs k P aa I F T w hq r N O Y u Q.le a b);refine Se this ?_ ?_ rfl;rw[<-hS.o,JJ,ah j,hH,ah e,a9];rw[<-K.o,Hs,ah j,a9,rv r,O,N];rw[show((T:Int)-F)=((T-F:Nat):Int)from Y,<-cH,<-cH,<-cH];rfl;cases l
   cases l
  omega
 rw[<-G.o,<-hS.o,<-K.o,JJ,Hs,ag j,ag j];exact t1 (Si A B c d zs xs side x y w V a j)
end
variable{L:List (List Int)}
structure Sp where
 A:Option Addr
 m:Nat
 c:Nat
 zs:List Int
def QB(w:ab)(B:bz)(e:List Sp):Prop:=
 ∀(j:Nat) (x:Sp),e[j]?=some x->∃b off,B=some ⟨b,off,none⟩/\b<w.1.size/\w.cell? (b,off+j)=some (.slice x.A x.m x.c)/\Rd w x.A x.zs/\x.m=x.zs.length/\x.m<=x.c
def QB.below{w w':ab}{B:bz}{l:List Sp}(h:QB w B l)(hb:Below w.1.size w w'):QB w' B l:=λj x m=>by
 have⟨b,off,e,bD,h1,h2,h3,h4⟩:=h j x m;exact⟨b,off,e,bN bD hb.size,(hb.cell (p:=⟨b,off+j,none⟩) bD).trans h1,h2.below hb,h3,h4⟩
class dX(w:World)(B:Option Addr)(n:Nat)(ss:outParam (List Sp)):Prop where
 rd:QB w B ss
 len:n=ss
def aX(b:List Sp):List (List Int):=b.map (·.zs)
section
variable{w:World}{n N:Nat}{ts:List Int}{ss:List Sp}
instance(priority:=low) dX.step[p:aj w' w][h:dX w B n ss]:dX w' B n ss:=⟨h.rd.below p.st,h.len⟩
def cR:(aX ss).length=ss.length:=bn _
def JK{k:Nat}{x:Sp}(h:ss[k]?=some x):(aX ss)[k]?=some x.zs:=by unfold aX;rw[bo,h];rfl
def dX.get(h:dX w B n ss){k:Nat}(j:k<n):∃b off A m c zs,B=some ⟨b,off,none⟩/\Old b w/\w.cell? (b,off+k)=some (.slice A m c)/\Sl w A m zs/\Le m c/\Z ((aX ss)[k]?=some zs):=by
 have e:ss[k]?=some (ss[k]'(by rwa[<-h.len])):=bk _;obtain⟨b,off,rfl,hb,l,r,u,y⟩:=h.rd k _ e;exact⟨b,off,_,_,_,_,rfl,⟨hb⟩,l,⟨r,u⟩,⟨y⟩,U (JK e)⟩
def h8{k:Nat}(h:L[k]?=some zs):zs∈L:=aK h
def cv(h:aH zs=true):zs.length<=4:=((ba zs).1 h).2.1
def vF(b o l c)(r:l+1<=c):
  ∃j,(∀w,(Instr.slice 82 (.slice (some ⟨b,o,none⟩) (l+1) c) (some (.int .i64 1)) none none).run prog w=.ok (.slice j l (c-1)) w)/\(0<l->j=some ⟨b,o+1,none⟩):=by
 have hs:∀w,(sizeOf (prog.elem 82)).run prog w=.ok 1 w:=λw=>by have⟨i,hi,e⟩:=bJ.1 (show(prog.info? (prog.elem 82)).map (·.size)=some 1 from by kernel_rfl);simp[sizeOf,typeInfo,hi,e]
 refine⟨if c=1 then some ⟨b,o,none⟩else some ⟨b,o+1,none⟩,λw=>?_,λh=>ag Y⟩;rw[dB w 82 (some ⟨b,o,none⟩) (l+1) c ap .i64 1 Y Y,hs];simp[Result.andThen,sliced,Addr.add]
end
section
variable{W X u w0:World}{Mx T T':TypeId}{AM args kx:Array Value}{f g j:Nat}{v v0 v1 v3 v4 v5 v6 v7 x0 x1 x2 x3 x4 x5 x6 x7:Value}{act:Act}{Ht Hu Wr k' kd sd st tt:Int}{P:Program}{O:List Int}
abbrev gM(kd k wd st sd fr tt:Int)(S:Value):Array Value:= #[kd,k,wd,st,sd,fr,tt,S]
def JL{Q:World->Prop}{cs:dw}(h:∀u,aj u X->Bx u X.1.size T cs->Bx u (X.1.size+1) T' kx->Q u):Q ((X.alloc (.cells cs T)).alloc (.cells kx T')):=
 h _ (aC) am am
def Sk(w:ab)(d:Nat)(a a':Int):(Op.equalIn (d+1) 2 a a').run prog w=.ok (a==a') w:=by
 simp[Op.equalIn,eu underlying2]
def Sm(w:ab){xs:dw}(h:xs[i]?=some v):(part 2 xs i).run prog w=.ok v w:=by
 simp[part,isAgg,eu underlying2,h]
theorem JM(w:ab)(a b c d e f g a' j l d' m r u:Int):(Op.equalIn 10000 332 (.agg #[a,b,c,d,e,f,g]) (.agg #[a',j,l,d',m,r,u])).run prog w=.ok (a==a'&&b==j&&c==l&&d==d'&&e==m&&f==r&&g==u) w:=by
 have h:∀n:Nat,(Op.equalIn (n+2) 332 (.agg #[a,b,c,d,e,f,g]) (.agg #[a',j,l,d',m,r,u])).run prog w=if a=a' then(if b=j then(if c=l then(if d=d' then(if e=m then(if f=r then(if g=u then Result.ok true w else Result.ok false w)else Result.ok false w)else Result.ok false w)else Result.ok false w)else Result.ok false w)else Result.ok false w)else Result.ok false w:=by intro n;rw[Op.equalIn];simp[eu underlying332,List.range',Sk,Sm]
 grind
def kG{Q:World->Prop}{cs:dw}(h:∀u,aj u X->Bx u X.1.size T cs->Bx u (X.1.size+1) T' kx->Bx u (X.1.size+1+1) Mx AM->Q u):Q (((X.alloc (.cells cs T)).alloc (.cells kx T')).alloc (.cells AM Mx)):=
 h _ (aC) am am am
def t9{Q:World->Prop}{cs:dw}(h:∀b u,aj b X->aj u b->Bx b X.1.size T cs->Bx b (X.1.size+1) T' kx->b.1.size<=X.1.size+1+1->Bx u (X.1.size+1+1) Mx AM->Q u):Q (((X.alloc (.cells cs T)).alloc (.cells kx T')).alloc (.cells AM Mx)):=
 h ((X.alloc (.cells cs T)).alloc (.cells kx T')) _ (aC) (aC) am am aI am
def jZ{b:Value}(h:∀i,W.cell? ⟨g,i,none⟩= #[v0,v1,b,v3,v4,v5,v6,v7][i]?):
  W.cell? ⟨g,0,none⟩=some v0/\W.cell? ⟨g,1,none⟩=some v1/\W.cell? ⟨g,2,none⟩=some b/\W.cell? ⟨g,3,none⟩=some v3/\W.cell? ⟨g,4,none⟩=some v4/\W.cell? ⟨g,5,none⟩=some v5/\W.cell? ⟨g,6,none⟩=some v6/\W.cell? ⟨g,7,none⟩=some v7:=
 ⟨h 0,h 1,h 2,h 3,h 4,h 5,h 6,h 7⟩
section
variable{T0:TypeId}{rB:Nat}{v2:Value}
def Wp(u:ab)(rB:Nat)(v0 v1 v2 v3 v4 v5 v6 v7:Value):World:=(((((((u.setCell (rB,0) v0).setCell (rB,1) v1).setCell (rB,2) v2).setCell (rB,3) v3).setCell (rB,4) v4).setCell (rB,5) v5).setCell (rB,6) v6).setCell (rB,7) v7
def Np(h:aA u rB T0 #[x0,x1,x2,x3,x4,x5,x6,x7]):aA (Wp u rB v0 v1 v2 v3 v4 v5 v6 v7) rB T0 #[v0,v1,v2,v3,v4,v5,v6,v7]:=by
 have b:aA _ rB T0 #[v0,x1,x2,x3,x4,x5,x6,x7]:=h.av 0 v0;have e:aA _ rB T0 #[v0,v1,x2,x3,x4,x5,x6,x7]:=b.av 1 v1;have j:aA _ rB T0 #[v0,v1,v2,x3,x4,x5,x6,x7]:=e.av 2 v2;have l:aA _ rB T0 #[v0,v1,v2,v3,x4,x5,x6,x7]:=j.av 3 v3;have m:aA _ rB T0 #[v0,v1,v2,v3,v4,x5,x6,x7]:=l.av 4 v4;have r:aA _ rB T0 #[v0,v1,v2,v3,v4,v5,x6,x7]:=m.av 5 v5;have y:aA _ rB T0 #[v0,v1,v2,v3,v4,v5,v6,x7]:=r.av 6 v6;exact y.av 7 v7
def Nq(h:Below w0.1.size w0 u)(hr:w0.1.size<=rB):Below w0.1.size w0 (Wp u rB v0 v1 v2 v3 v4 v5 v6 v7):=by
 have b:=h.setCell (p:=⟨rB,0,none⟩) hr v0;have e:=b.setCell (p:=⟨rB,1,none⟩) hr v1;have j:=e.setCell (p:=⟨rB,2,none⟩) hr v2;have l:=j.setCell (p:=⟨rB,3,none⟩) hr v3;have m:=l.setCell (p:=⟨rB,4,none⟩) hr v4;have r:=m.setCell (p:=⟨rB,5,none⟩) hr v5;have y:=r.setCell (p:=⟨rB,6,none⟩) hr v6;exact y.setCell (p:=⟨rB,7,none⟩) hr v7
def Nr{F:Func}[aM w0 u](h:aA u rB T0 #[x0,x1,x2,x3,x4,x5,x6,x7])(hr:w0.1.size<=rB)(hd:act.defers=[])
  (b:∀W:World,(∀i,W.cell? ⟨rB,i,none⟩= #[v0,v1,v2,v3,v4,v5,v6,v7][i]?)->(results F act.tmps).run prog W=.ok v W):
  bodyPost prog F (aL w0 v) .ret act ((((((((u.setCell ⟨rB,0,none⟩ v0).setCell ⟨rB,1,none⟩ v1).setCell ⟨rB,2,none⟩ v2).setCell ⟨rB,3,none⟩ v3).setCell ⟨rB,4,none⟩ v4).setCell ⟨rB,5,none⟩ v5).setCell ⟨rB,6,none⟩ v6).setCell ⟨rB,7,none⟩ v7):=by
 have e:=Np (v0:=v0) (v1:=v1) (v2:=v2) (v3:=v3) (v4:=v4) (v5:=v5) (v6:=v6) (v7:=v7) h;have j:=Nq (v0:=v0) (v1:=v1) (v2:=v2) (v3:=v3) (v4:=v4) (v5:=v5) (v6:=v6) (v7:=v7) (aO w0 u) hr;exact aZ (b _ e.cell) hd ⟨rfl,⟨j⟩⟩
end
section
variable{w:World}{n p:Nat}{k wd fr:Int}{S:List Int}
def aa4{b:Value}(h:∀i,W.cell? ⟨g,i,none⟩= #[v0,v1,b,v3,v4,v5,v6][i]?):
  W.cell? ⟨g,0,none⟩=some v0/\W.cell? ⟨g,1,none⟩=some v1/\W.cell? ⟨g,2,none⟩=some b/\W.cell? ⟨g,3,none⟩=some v3/\W.cell? ⟨g,4,none⟩=some v4/\W.cell? ⟨g,5,none⟩=some v5/\W.cell? ⟨g,6,none⟩=some v6:=
 ⟨h 0,h 1,h 2,h 3,h 4,h 5,h 6⟩
def nW:() 226 #[.agg (gM kd k wd st sd fr tt (A,n,p))] w (aL w (.agg #[kd,k,wd,st,sd,fr,tt])):=by
 have r:=@az;have y:=@aP;go_in;go_wp2_with fail;refine JL (λu _ _ b=>?_);obtain⟨r0,r1,r2,e,j,l,m⟩:=aa4 b.ak.cell;refine aZ (v:=.agg #[kd,k,wd,st,sd,fr,tt]) (by simp[results,results226,go_sem,r0,r1,r2,e,j,l,m]) rfl ⟨rfl,aC⟩
def xf{w:ab}{b:Value}(h:Calls P f args w (aL w v))(e:v=b):Calls P f args w (aL w b):=e▸h
def ua{v:Bool}[Sl w A n S][Sl w B m O](b:n<=1000000)(hm:m<=1000000)(hv:Z (decide (S=O)=v)):() 70 #[(A,n,p),(B,m,j)] w (aL w (.bool v)):=xf (ga b hm) (by rw[hv.o])
def Wq(a b c d e f g a' j l d' m r u:Int):Bool:=a==a'&&b==j&&c==l&&d==d'&&e==m&&f==r&&g==u
def zDe(h:Γ:=by refine a8 ?_;go_wp2_with fail;go_ret;exact bF):=h
def tD{v:Bool}[Sl w A n S][Sl w B m O](r:n<=1000000)(b:m<=1000000)(hv:Z (Wq kd k wd st sd fr tt z k' y E Wr Ht Hu=true))(hs:Z (decide (S=O)=v)):
  () 185 #[.agg (gM kd k wd st sd fr tt (A,n,p)),.agg (gM z k' y E Wr Ht Hu (B,m,j))] w (aL w (.bool v)):=by
 have u:=@az;have C:∀W,(Op.equalIn 10000 332 (.agg #[kd,k,wd,st,sd,fr,tt]) (.agg #[z,k',y,E,Wr,Ht,Hu])).run prog W=.ok true W:=λW=>by rw[JM,<-hv.o];rfl
 go_in;go_upto_region 1 with fail;refine aq ap (λl _=>?_);refine qL [0,2] ?_;refine aJ 1 λK hK=>?_;go_simp;refine(nW).mono ?_;rintro e l ⟨rfl,_⟩;dsimp only;refine aE hK<|aJ 3 λK hK=>?_;go_simp;refine(nW).mono ?_;rintro e l ⟨rfl,_⟩;dsimp only;refine aE hK ?_;refine qL [4,5,6,7,8,9] ?_;refine aJ 10 λK hK=>?_;go_simp;refine(ua r b hs).mono ?_;rintro e l ⟨rfl,_⟩;dsimp only;refine aE hK ?_;refine qL [11,12] ?_;exact zDe
def Hv(hv:Z (Wq kd k wd st sd fr tt z k' y E Wr Ht Hu=false)):
  () 185 #[.agg (gM kd k wd st sd fr tt (A,n,p)),.agg (gM z k' y E Wr Ht Hu (B,m,j))] w (aL w (.bool false)):=by
 have l:=@az;have r:∀W,(Op.equalIn 10000 332 (.agg #[kd,k,wd,st,sd,fr,tt]) (.agg #[z,k',y,E,Wr,Ht,Hu])).run prog W=.ok false W:=λW=>by rw[JM,<-hv.o];rfl
 go_in;go_upto_region 1 with fail;refine aq ap (λb _=>?_);refine qL [0,2] ?_;refine aJ 1 λK hK=>?_;go_simp;refine(nW).mono ?_;rintro e b ⟨rfl,_⟩;dsimp only;refine aE hK<|aJ 3 λK hK=>?_;go_simp;refine(nW).mono ?_;rintro e b ⟨rfl,_⟩;dsimp only;refine aE hK ?_;refine qL [4,5,506,507,508,509,510,11,12] ?_;exact zDe
def zD0(h:Γ:=by have y:=@az;have z:=@aP;go_in;go_wp2_with fail;refine kG (λu _ _ b _=>?_);obtain⟨r0,r1,r2,e,j,l,m,r⟩:=jZ b.ak.cell;refine aZ (by simp[results,results186,go_sem,r0,r1,r2,e,j,l,m,r]) rfl ⟨rfl,aC⟩):=h
def Sn:() 186 #[.agg (gM 2 k wd st sd fr tt (A,n,p))] w (aL w (.agg (gM 2 k 0 0 0 0 0 ()))):=by
 exact zD0
def Sq:() 186 #[.agg (gM 5 k wd st sd fr tt (A,n,p))] w (aL w (.agg (gM 5 k 0 0 0 0 0 ()))):=by
 exact zD0
def Ns:() 186 #[.agg (gM 10 k wd st sd fr tt (A,n,p))] w (aL w (.agg (gM 10 0 0 st 0 0 0 ()))):=by
 exact zD0
def Nt:() 186 #[.agg (gM 13 k wd st sd fr tt (A,n,p))] w (aL w (.agg (gM 13 0 0 0 sd 0 0 ()))):=by
 exact zD0
def Nu:() 186 #[.agg (gM 15 k wd st sd fr tt (A,n,p))] w (aL w (.agg (gM 15 0 0 0 0 0 0 (A,n,p)))):=by
 exact zD0
def zD2(h:Γ:=by have G:aj z b:=⟨r⟩;refine aE hK ?_ ⟨r⟩;clear hK K l;obtain⟨e,rfl⟩:=lg z;refine a8 ?_;go_wp2_with fail;refine Nr (rB:=w.1.size+1) (Bx.ak (w:=e) (g:=w.1.size+1)) (db _) rfl (λW C=>?_);obtain⟨r0,r1,r2,I,J,L,M,N⟩:=jZ C;clear C;simp[results,results186,go_sem,r0,r1,r2,I,J,L,M,N]):=h
def zDb(h:Γ:=by rw[j];exact(aO b e).setCell (p:=⟨w.1.size+1+1,2,none⟩) B _):=h
def zDc(h:Γ:=by rw[l];exact(aO b e).setCell (p:=⟨w.1.size+1+1,3,none⟩) B _):=h
def Nv:() 186 #[.agg (gM 11 k wd st sd fr tt (A,n,p))] w (aL w (.agg (gM 11 0 wd st 0 0 0 ()))):=by
 have O:=@az;have P:=@aP;go_in;go_upto_region 10 with fail;refine t9 (λb u _ _ k1 k2 B Q=>?_);refine ax b ap (λe _=>?_);refine qL [0,1,2,3,4] ?_;refine aJ 5 λK hK=>?_;go_simp;obtain⟨y,j⟩:=lg (e.setCell (w.1.size+1+1,2) wd);rw[<-j];have m:Below (World.heap b).size b y:=zDb;have D:Bx y (w.1.size+1+1) _ #[(11:Int),an,wd,an,an,an,an,()]:=⟨by rw[j];exact aA.av (Bx.ak (w:=e) (g:=w.1.size+1+1)) 2 _⟩;have E:aj y b:=⟨m⟩;refine aE hK ?_ ⟨m⟩;clear hK K j;obtain⟨e,rfl⟩:=lg y;refine eE 6 ?_;refine aJ 7 λK hK=>?_;go_simp;obtain⟨z,l⟩:=lg (e.setCell (w.1.size+1+1,3) st);rw[<-l];have r:Below (World.heap b).size b z:=zDc;have F:Bx z (w.1.size+1+1) _ #[(11:Int),an,wd,st,an,an,an,()]:=⟨by rw[l];exact aA.av (Bx.ak (w:=e) (g:=w.1.size+1+1)) 3 _⟩;exact zD2
def Nw:() 186 #[.agg (gM 12 k wd st sd fr tt (A,n,p))] w (aL w (.agg (gM 12 0 wd st 0 0 0 ()))):=by
 have O:=@az;have P:=@aP;go_in;go_upto_region 10 with fail;refine t9 (λb u _ _ k1 k2 B Q=>?_);refine ax b ap (λe _=>?_);refine qL [0,1,2,3,4] ?_;refine aJ 5 λK hK=>?_;go_simp;obtain⟨y,j⟩:=lg (e.setCell (w.1.size+1+1,2) wd);rw[<-j];have m:Below (World.heap b).size b y:=zDb;have D:Bx y (w.1.size+1+1) _ #[(12:Int),an,wd,an,an,an,an,()]:=⟨by rw[j];exact aA.av (Bx.ak (w:=e) (g:=w.1.size+1+1)) 2 _⟩;have E:aj y b:=⟨m⟩;refine aE hK ?_ ⟨m⟩;clear hK K j;obtain⟨e,rfl⟩:=lg y;refine eE 6 ?_;refine aJ 7 λK hK=>?_;go_simp;obtain⟨z,l⟩:=lg (e.setCell (w.1.size+1+1,3) st);rw[<-l];have r:Below (World.heap b).size b z:=zDc;have F:Bx z (w.1.size+1+1) _ #[(12:Int),an,wd,st,an,an,an,()]:=⟨by rw[l];exact aA.av (Bx.ak (w:=e) (g:=w.1.size+1+1)) 3 _⟩;exact zD2
def Ny:() 186 #[.agg (gM 14 k wd st sd fr tt (A,n,p))] w (aL w (.agg (gM 14 0 0 0 sd fr tt ()))):=by
 have V:=@az;have X:=@aP;go_in;go_upto_region 14 with fail;refine t9 (λb u _ _ k1 k2 E k3=>?_);refine ax b ap (λe _=>?_);refine qL [0,1,2,3,4,5,6] ?_;refine aJ 7 λK hK=>?_;go_simp;obtain⟨B,j⟩:=lg (e.setCell (w.1.size+1+1,4) sd);rw[<-j];have r:Below (World.heap b).size b B:=by rw[j];exact(aO b e).setCell (p:=⟨w.1.size+1+1,4,none⟩) E _
 have G:Bx B (w.1.size+1+1) _ #[(14:Int),an,an,an,sd,an,an,()]:=⟨by rw[j];exact aA.av (Bx.ak (w:=e) (g:=w.1.size+1+1)) 4 _⟩;have I:aj B b:=⟨r⟩;refine aE hK ?_ ⟨r⟩;clear hK K j;obtain⟨e,rfl⟩:=lg B;refine eE 8 ?_;refine aJ 9 λK hK=>?_;go_simp;obtain⟨C,l⟩:=lg (e.setCell (w.1.size+1+1,5) fr);rw[<-l];have y:Below (World.heap b).size b C:=by rw[l];exact(aO b e).setCell (p:=⟨w.1.size+1+1,5,none⟩) E _
 have J:Bx C (w.1.size+1+1) _ #[(14:Int),an,an,an,sd,fr,an,()]:=⟨by rw[l];exact aA.av (Bx.ak (w:=e) (g:=w.1.size+1+1)) 5 _⟩;have L:aj C b:=⟨y⟩;refine aE hK ?_ ⟨y⟩;clear hK K l;obtain⟨e,rfl⟩:=lg C;refine eE 10 ?_;refine aJ 11 λK hK=>?_;go_simp;obtain⟨D,m⟩:=lg (e.setCell (w.1.size+1+1,6) tt);rw[<-m];have z:Below (World.heap b).size b D:=by rw[m];exact(aO b e).setCell (p:=⟨w.1.size+1+1,6,none⟩) E _
 have M:Bx D (w.1.size+1+1) _ #[(14:Int),an,an,an,sd,fr,tt,()]:=⟨by rw[m];exact aA.av (Bx.ak (w:=e) (g:=w.1.size+1+1)) 6 _⟩;have N:aj D b:=⟨z⟩;refine aE hK ?_ ⟨z⟩;clear hK K m;obtain⟨e,rfl⟩:=lg D;refine a8 ?_;go_wp2_with fail;refine Nr (rB:=w.1.size+1) (Bx.ak (w:=e) (g:=w.1.size+1)) (db _) rfl (λW F=>?_);obtain⟨r0,r1,r2,O,P,Q,R,T⟩:=jZ F;clear F;simp[results,results186,go_sem,r0,r1,r2,O,P,Q,R,T]
def Sr(F:(kd==2)=false)(G:(kd==5)=false)(b:(kd==10)=false)(e:(kd==11)=false)(j:(kd==12)=false)(l:(kd==13)=false)(m:(kd==14)=false)(r:(kd==15)=false):
  () 186 #[.agg (gM kd k wd st sd fr tt (A,n,p))] w (aL w (.agg (gM kd 0 0 0 0 0 0 ()))):=by
 have I:=@az;have J:=@aP;go_in;go_wp2_with fail;refine kG (λu _ _ y _=>?_);obtain⟨r0,r1,r2,z,B,C,D,E⟩:=jZ y.ak.cell;refine aZ (by simp[results,results186,go_sem,r0,r1,r2,z,B,C,D,E]) rfl ⟨rfl,aC⟩
end
end
variable{Ht Hu k' kd sd st tt:Int}
def uK(kd k:Int):Int:=if kd=2\/kd=5 then k else 0
def uW(kd k:Int):Int:=if kd=11\/kd=12 then k else 0
def Ws(kd k:Int):Int:=if kd=10\/kd=11\/kd=12 then k else 0
def Wu(kd k:Int):Int:=if kd=13\/kd=14 then k else 0
def Ef(kd k:Int):Int:=if kd=14 then k else 0
def uS(kd:Int)(S:au):List Int:=if kd=15 then S else[]
def tl(kd k wd st sd fr tt:Int)(S:au):Bool:=
 decide (1<=kd)&&decide (kd<=15)&&Wq kd k wd st sd fr tt kd (uK kd k) (uW kd wd) (Ws kd st) (Wu kd sd) (Ef kd fr) (Ef kd tt)&&decide (S=uS kd S)
section
variable{w:World}{n p:Nat}{k wd fr:Int}{S:List Int}
def yC(e:kd=15)(hv:Z ((k',z,y,E,Ht,Hu)=(uK kd k,uW kd wd,Ws kd st,Wu kd sd,Ef kd fr,Ef kd tt))):
  () 186 #[.agg (gM kd k wd st sd fr tt (A,n,p))] w (aL w (.agg (gM kd k' z y E Ht Hu (A,n,p)))):=by
 subst e;have h:=hv.o;injection h with b h;injection h with j h;injection h with l h;injection h with m h;injection h with r u;subst b j l m r u;exact Nu
theorem Bp(e:kd≠15)(hv:Z ((k',z,y,E,Ht,Hu)=(uK kd k,uW kd wd,Ws kd st,Wu kd sd,Ef kd fr,Ef kd tt))):
  () 186 #[.agg (gM kd k wd st sd fr tt (A,n,p))] w (aL w (.agg (gM kd k' z y E Ht Hu ()))):=by
 have h:=hv.o;injection h with l h;injection h with m h;injection h with r h;injection h with u h;injection h with B C;subst l m r u B C;by_cases h:kd=2\/kd=5\/kd=10\/kd=11\/kd=12\/kd=13\/kd=14;rcases h with rfl|rfl|rfl|rfl|rfl|rfl|rfl;exact Sn;exact Sq;exact Ns;exact Nv;exact Nw;exact Nt;exact Ny;have b:∀j:Int,(j=2\/j=5\/j=10\/j=11\/j=12\/j=13\/j=14\/j=15)->(kd==j)=false:=ay;have D:uK kd k=0:=ag Y;have F:uW kd wd=0:=ag Y;have G:Ws kd st=0:=ag Y;have I:Wu kd sd=0:=ag Y;have J:Ef kd fr=0:=ag Y;have K:Ef kd tt=0:=ag Y;rw[D,F,G,I,J,K];exact Sr (b 2 aI) (b 5 aI) (b 10 aI) (b 11 aI) (b 12 aI) (b 13 aI) (b 14 aI) (b 15 aI)
def zDa(h:Γ:=by refine a8 ?_;go_wp2_with fail;go_ret;exact⟨by rw[y.o];rfl,aC⟩):=h
theorem fh[Sl w A n S](G:n<=1000000):() 120 #[.agg (gM kd k wd st sd fr tt (A,n,p))] w (aL w (.bool (tl kd k wd st sd fr tt S))):=by
 have P:=@az;by_cases B:1<=kd;rotate_left
 .have y:Z (tl kd k wd st sd fr tt S=false):=U (by unfold tl;rw[ew B];rfl);have d1:decide (1<=kd)=false:=ew B;go_in;go_upto_region 1 with fail;refine aq ap (λb _=>?_);refine qL [0,1,2,3,504,505,506,7,8,509,510,511,512,13,14] ?_;exact zDa
 have d1:decide (1<=kd)=true:=ea B;by_cases C:kd<=15;rotate_left
 .have y:Z (tl kd k wd st sd fr tt S=false):=U (by unfold tl;rw[ew C];simp);have J:decide (kd<=15)=false:=ew C;go_in;go_upto_region 1 with fail;refine aq ap (λb _=>?_);refine qL [0,1,2,3,4,5,6,7,8,509,510,511,512,13,14] ?_;exact zDa
 have J:decide (kd<=15)=true:=ea C;obtain⟨k',j,l,m,r,u,hv⟩:∃k' j l m r u,(k',j,l,m,r,u)=(uK kd k,uW kd wd,Ws kd st,Wu kd sd,Ef kd fr,Ef kd tt):=ay;have E:=U hv;have D:tl kd k wd st sd fr tt S=(Wq kd k wd st sd fr tt kd k' j l m r u&&decide (S=uS kd S)):=by injection hv with B h;injection h with C h;injection h with L h;injection h with M h;injection h with N O;unfold tl;rw[d1,J,B,C,L,M,N,O];rfl
 clear hv;rcases hq:Wq kd k wd st sd fr tt kd k' j l m r u with _|_
 .have F:=U hq;have y:Z (tl kd k wd st sd fr tt S=false):=ay;clear hq D;by_cases e:kd=15;(focus have z:=U e;clear e;go_in;go_upto_region 1 with fail;refine aq ap (λb _=>?_);refine qL [0,1,2,3,4,5,6,7,8,9,10] ?_;refine aJ 11 λK hK=>?_;go_simp;refine(yC z.o E).mono ?_);rotate_left;(focus have z:=U e;clear e;go_in;go_upto_region 1 with fail;refine aq ap (λb _=>?_);refine qL [0,1,2,3,4,5,6,7,8,9,10] ?_;refine aJ 11 λK hK=>?_;go_simp;refine(Bp z.o E).mono ?_);all_goals rintro e b ⟨rfl,_⟩;dsimp only;refine aE hK<|aJ 12 λK hK=>?_;go_simp;refine(Hv F).mono ?_;rintro e b ⟨rfl,_⟩;dsimp only;refine aE hK ?_;refine qL [13,14] ?_;refine a8 ?_;go_wp2_with fail;go_ret;exact⟨by rw[y.o];rfl,aC⟩
 have F:=U hq;obtain⟨v,hv⟩:=lh (decide (S=uS kd S));have y:Z (tl kd k wd st sd fr tt S=v):=ay;clear hq D;by_cases e:kd=15;focus have I:Z (decide (S=S)=v):=U (by rw[<-hv,uS,ah e]);have z:=U e;clear e hv;go_in;go_upto_region 1 with fail;refine aq ap (λb _=>?_);refine qL [0,1,2,3,4,5,6,7,8,9,10] ?_;refine aJ 11 λK hK=>?_;go_simp;refine(yC z.o E).mono ?_;rintro e b ⟨rfl,_⟩;dsimp only;refine aE hK<|aJ 12 λK hK=>?_;go_simp;refine(tD G G F I).mono ?_
 rotate_left;focus have I:Z (decide (S=[])=v):=U (by rw[<-hv,uS,ag e]);have z:=U e;clear e hv;go_in;go_upto_region 1 with fail;refine aq ap (λb _=>?_);refine qL [0,1,2,3,4,5,6,7,8,9,10] ?_;refine aJ 11 λK hK=>?_;go_simp;refine(Bp z.o E).mono ?_;rintro e b ⟨rfl,_⟩;dsimp only;refine aE hK<|aJ 12 λK hK=>?_;go_simp;refine(tD G (aR _) F I).mono ?_
 all_goals rintro e b ⟨rfl,_⟩;dsimp only;refine aE hK ?_;refine qL [13,14] ?_;refine a8 ?_;go_wp2_with fail;go_ret;exact⟨by rw[y.o];rfl,aC⟩
def gN(kd:Int):Int:=if kd=6\/kd=7 then 2 else 1
def jl(kd:Int):Int:=if kd=6\/kd=7 then 2 else if kd=13 then 8 else 1
def fq(kd:Int):Int:=if kd=8 then 2 else if kd=9\/kd=10 then 1 else 0
theorem Ai(h:tl kd k wd st sd fr tt S=true):1<=kd/\kd<=15:=by
 unfold tl at h;grind
def Ss(h:Z (1<=kd/\kd<=5)):() 213 #[kd] w (aL w (1:Int)):=by
 have b:kd=1\/kd=2\/kd=3\/kd=4\/kd=5:=by have:=h.o;omega
 rcases b with rfl|rfl|rfl|rfl|rfl;all_goals go_in;go_wp2_with fail;go_ret;exact bF
def St(h:Z (kd=6\/kd=7)):() 213 #[kd] w (aL w (2:Int)):=by
 rcases h.o with rfl|rfl;all_goals go_in;go_wp2_with fail;go_ret;exact bF
def zDf(h:Γ:=by go_ret2;exact⟨by rw[j.o.1,j.o.2];rfl,aC⟩):=h
def Hw[Sl w A n S](l:n<=1000000)(hb:tl kd k wd st sd fr tt S=true):() 166 #[.agg (gM kd k wd st sd fr tt (A,n,p))] w (aL w (.tuple #[.int .i64 (gN kd),.int .i64 (jl kd)])):=by
 have B:=@az;obtain⟨k1,y⟩:=Ai hb;by_cases C:kd<=7
 .by_cases z:kd<=5
  .have j:Z (gN kd=1/\jl kd=1):=U ⟨ag Y,by unfold jl;rw[ag Y,ag Y]⟩;have m:Z (1<=kd/\kd<=5):=U ⟨k1,z⟩;go_in;go_wp2_with (first|(go_at_call 120;refine(fh l).mono ?_;rintro e u ⟨rfl,_⟩)|(go_at_call 213;refine(Ss m).mono ?_;rintro e u ⟨rfl,_⟩));exact zDf
  have j:Z (gN kd=2/\jl kd=2):=U ⟨ah Y,ah Y⟩;have m:Z (kd=6\/kd=7):=U Y;go_in;go_wp2_with (first|(go_at_call 120;refine(fh l).mono ?_;rintro e u ⟨rfl,_⟩)|(go_at_call 213;refine(St m).mono ?_;rintro e u ⟨rfl,_⟩));exact zDf
 by_cases b:kd=13;focus have j:Z (gN kd=1/\jl kd=8):=U ⟨ag Y,by unfold jl;rw[ag Y,ah b]⟩;have r:(kd==13)=true:=by simpa using b
 rotate_left;focus have j:Z (gN kd=1/\jl kd=1):=U ⟨ag Y,by unfold jl;rw[ag Y,ag b]⟩;have r:(kd==13)=false:=by simpa using b
 all_goals clear b;go_in;go_wp2_with (first|(go_at_call 120;refine(fh l).mono ?_;rintro e u ⟨rfl,_⟩));go_ret2;exact⟨by rw[j.o.1,j.o.2];rfl,aC⟩
def zD5(h:Γ:=by go_in;go_wp2_with (first|(go_at_call 120;refine(fh j).mono ?_;rintro e u ⟨rfl,_⟩));go_ret;exact bF):=h
def Nz[Sl w A n S](j:n<=1000000)(hb:tl kd k wd st sd fr tt S=true):() 167 #[.agg (gM kd k wd st sd fr tt (A,n,p))] w (aL w (fq kd:Int)):=by
 have z:=@az;by_cases l:kd=8;subst l;exact zD5;by_cases m:kd=9;subst m;exact zD5;by_cases b:kd=10;subst b;exact zD5;have r:Z (fq kd=0):=U (by unfold fq;rw[ag l,ag Y]);have B:(kd==8)=false:=by simpa using l
 have C:(kd==9)=false:=by simpa using m
 have y:(kd==10)=false:=by simpa using b
 clear l m b;go_in;go_wp2_with (first|(go_at_call 120;refine(fh j).mono ?_;rintro e u ⟨rfl,_⟩));go_ret;exact⟨by rw[r.o];rfl,aC⟩
def mP(kd k wd st sd fr tt:Int)(S:au)(np nx:Int):Int:=if tl kd k wd st sd fr tt S then(if nx<gN kd\/jl kd<nx\/np≠fq kd then 20 else 0)else 21
def zD4(h:Γ:=by have j:Z (mP kd k wd st sd fr tt S np nx=20):=ay;go_in;go_wp2_with (first|(go_at_call 120;refine(fh b).mono ?_;rintro e u ⟨rfl,_⟩)|(go_at_call 166;refine(Hw b hb).mono ?_;rintro e u ⟨rfl,_⟩));go_ret;exact⟨by rw[j.o];rfl,aC⟩):=h
theorem NA{np nx:Int}[Sl w A n S](b:n<=1000000):() 104 #[.agg (gM kd k wd st sd fr tt (A,n,p)),np,nx] w (aL w (mP kd k wd st sd fr tt S np nx:Int)):=by
 have C:=@az;rcases hb:tl kd k wd st sd fr tt S with _|_
 .have j:Z (mP kd k wd st sd fr tt S np nx=21):=U (by unfold mP;rw[hb];rfl);go_in;go_wp2_with (first|(go_at_call 120;refine(fh b).mono ?_;rintro e u ⟨rfl,_⟩));go_ret;exact⟨by rw[j.o];rfl,aC⟩
 obtain⟨lo,m⟩:=lh (gN kd);obtain⟨hi,r⟩:=lh (jl kd);obtain⟨l,y⟩:=lh (fq kd);have D:Z (mP kd k wd st sd fr tt S np nx=if nx<lo\/hi<nx\/np≠l then 20 else 0):=U (by unfold mP;rw[hb,m,r,y];rfl);by_cases E:nx<lo;exact zD4;by_cases F:hi<nx;exact zD4;by_cases z:np=l;focus have j:Z (mP kd k wd st sd fr tt S np nx=0):=ay;have B:(np !=l)=false:=by simpa using z
 rotate_left;focus have j:Z (mP kd k wd st sd fr tt S np nx=20):=ay;have B:(np !=l)=true:=by simpa using z
 all_goals clear z;go_in;go_wp2_with (first|(go_at_call 120;refine(fh b).mono ?_;rintro e u ⟨rfl,_⟩)|(go_at_call 166;refine(Hw b hb).mono ?_;rintro e u ⟨rfl,_⟩)|(go_at_call 167;refine(Nz b hb).mono ?_;rintro e u ⟨rfl,_⟩));go_ret;exact⟨by rw[j.o];rfl,aC⟩
def bY{np nx:Int}{v:Int}[Sl w A n S](b:n<=1000000)(hv:Z (mP kd k wd st sd fr tt S np nx=v)):() 104 #[.agg (gM kd k wd st sd fr tt (A,n,p)),np,nx] w (aL w v):=xf (NA b) (by rw[hv.o])
end
def hG(l:au):Nat->Int
 |0=>-1
 |k+1=>if hG l k<0\/l.getD (hG l k).toNat 0<l.getD k 0 then(k:Int)else hG l k
def Br(l:au):Int:=hG l l.length
def p5{l:au}:∀{k:Nat},0<k->∃b:Nat,hG l k=(b:Int)/\b<k/\(∀i,i<k->l.getD i 0<=l.getD b 0)/\∀i,i<b->l.getD i 0<l.getD b 0
 |0,h=>absurd h Y
 |k+1,_=>by unfold hG;by_cases m:k=0;subst m;refine⟨0,by simp[hG],Y,λi hi=>?_,λi hi=>Y⟩;obtain rfl:i=0:=Y;exact eb _;have⟨b,e,hb,h1,h2⟩:=p5 (l:=l) (k:=k) Y;rw[e];simp only[a9];split;rename_i hc;(have hc:l.getD b 0<l.getD k 0:=by rcases hc with hc|hc;omega;exact hc);refine⟨k,rfl,Y,λi hi=>?_,λi hi=>?_⟩;by_cases j:i=k;subst j;exact eb _;have:=h1 i Y;omega;have:=h1 i Y;omega;rename_i hc;have hc:¬l.getD b 0<l.getD k 0:=λh=>hc (.inr h);refine⟨b,rfl,Y,λi hi=>?_,h2⟩;by_cases j:i=k;subst j;omega;exact h1 i Y
def Hy:List Int->Int
 |[]=>0
 |x::l=>l.foldl max x
def ze(l:au):∀x:Int,(l.foldl max x=x\/l.foldl max x∈l)/\x<=l.foldl max x/\∀y∈l,y<=l.foldl max x:=by
 induction l with
 |nil=>intro x;exact⟨.inl rfl,eb _,λy hy=>by cases hy⟩
 |cons a l b=>intro x;have⟨h1,h2,h3⟩:=b (max x a);simp only[uF];refine⟨?_,Y,λy hy=>?_⟩;rcases h1 with h1|h1;rcases Int.le_total x a with h|h;right;rw[h1];rw[show max x a=a from Y];exact dD;left;rw[h1];omega;exact .inr (iD _ h1);rcases dE.1 hy with rfl|hy;omega;exact h3 y hy
def Fe{l:au}(h:l≠[]):Hy l∈l/\∀y∈l,y<=Hy l:=by
 cases l with
 |nil=>exact absurd rfl h
 |cons x l=>have⟨h1,h2,h3⟩:=ze l x;refine⟨?_,λy hy=>?_⟩;rcases h1 with h1|h1;show l.foldl max x∈x::l;rw[h1];exact dD;exact iD _ h1;rcases dE.1 hy with rfl|hy;exact h2;exact h3 y hy
def Su{l:au}{m:Int}(e:m∈l)(j:∀y∈l,y<=m):m=Hy l:=by
 have b:l≠[]:=by rintro rfl;cases e
 have⟨g1,g2⟩:=Fe b;have:=j _ g1;have:=g2 _ e;omega
def Bt{l:au}(h:l≠[]):∃b:Nat,Br l=(b:Int)/\b<l.length/\l[b]?=some (Hy l):=by
 obtain⟨b,e,hb,j,-⟩:=p5 (l:=l) (k:=l.length) (PT.2 h);refine⟨b,e,hb,?_⟩;have g:l.getD b 0=l[b]:=by simp[a5,hb]
 have:l[b]=Hy l:=Su (Av hb) λy m=>by obtain⟨i,hi,rfl⟩:=List.mem_iff_getElem.1 m;have:=j i hi;rw[g]at this;simpa[a5,hi]using this
 rw[bk hb,this]
def j0(v:List Int->Int)(xs:au)(b n step W m:Nat):List Int:=(List.range m).map λi=>v ((xs.drop (i/n*b+i%n*step)).take W)
theorem iX(v:List Int->Int)(xs:au)(b n step W m:Nat):(j0 v xs b n step W m).length=m:=by simp[j0]
def JN(v:List Int->Int)(xs:au)(b n step W m:Nat):j0 v xs b n step W (m+1)=j0 v xs b n step W m++[v ((xs.drop (m/n*b+m%n*step)).take W)]:=by simp[j0,iK]
section
variable{P:Program}{f:Nat}{args:Array Value}{v:Value}{O:List Int}
def cn{w:ab}{b:Value}(h:Calls P f args w (aL w v))(e:v=b):Calls P f args w (aL w b):=e▸h
def gO(h:aw zs xs=true):xs.length<=65536/\1<=xs.length/\zs.length<=4:=by
 have⟨h1,h2⟩:=(aS _ _).1 h;have⟨n,hn,h3,h4⟩:=cG h1;have⟨_,h5,_,_⟩:=(ba _).1 h1;omega
def sN(h:aw zs xs=true)(b:aw zs O=true):xs.length=O.length:=by
 have e:=((aS _ _).1 h).2;have j:=((aS _ _).1 b).2;omega
section
variable{w:World}{n:Nat}
def kI[Sl w A n zs][Sl w B m zs](b:n<=1000000)(hm:m<=1000000):() 70 #[(A,n,c),(B,m,d)] w (aL w (.bool true)):=cn (ga b hm) aI
end
end
section
variable{w:World}{n:Nat}
def zD8(h:Γ:=by go_wp2;go_round;(case rel=>exact⟨k+1,Y,by go_num,by rw[I.o]⟩);case measure=>exact ou):=h
def Wv[a:Sl w A n zs](N:n<=1000000):() 175 #[(A,n,c)] w (aL w (Br zs:Int)):=by
 obtain⟨a,rfl⟩:=a;have a:Sl w A zs zs:=⟨a,rfl⟩;go_in;go_wp2_with fail;go_loop [3,8] (λb i=>∃k:Nat,k<=zs.length/\i=.int .i64 k/\b=.int .i64 (hG zs k)) (λ_ i=>zs.length-(intOf i).toNat);case atStart=>exact⟨0,aR _,rfl,rfl⟩
 case round=>
  obtain⟨k,O,rfl,rfl⟩:=hrel;by_cases D:k<zs.length
  .obtain⟨b,off,z,rfl,ob,J,K⟩:=a.get D;by_cases E:k=0
   .subst E;simp only[d9]at J;rw[show hG zs 0= -1 from rfl];go_wp2;go_round;(case rel=>exact⟨1,Y,rfl,by simp[hG]⟩);case measure=>exact ou
   obtain⟨j,e,P,Q,R⟩:=p5 (l:=zs) (k:=k) Y;have F:j<zs.length:=Y;have⟨b2,Ff,y,r,iM,hcy,hy⟩:=a.get F;injection r with r;injection r with r G;subst r G;(have u:hG zs (k+1)=if y<z then(k:Int)else(j:Int):=by (have L:zs.getD j 0=y:=by rw[a5,hy.o];rfl);(have M:zs.getD k 0=z:=by rw[a5,K.o];rfl);rw[hG,e,a9,L,M];by_cases h:y<z;rw[ah (.inr h),ah h];rw[ag Y,ag h]);rw[e];by_cases C:y<z;have I:Z (hG zs (k+1)=(k:Int)):=U (by rw[u,ah C]);exact zD8;have I:Z (hG zs (k+1)=(j:Int)):=U (by rw[u,ag C]);exact zD8
  obtain rfl:k=zs.length:=Y;go_wp2;go_ret;exact bF
end
theorem sO{W S:Nat}(h:f8 (m:Int) (W:Int) (S:Int)=true):∃n:Nat,lb (m:Int) (W:Int) (S:Int)=(n:Int)/\1<=n/\1<=W/\1<=S/\W<=1024/\S<=1024/\m<=1024/\(∀j,j<n->j*S+W<=m)/\m<n*S+W/\n<=m:=by
 have e:=h;simp only[f8,bU,b9,pO]at h;have⟨h1,h2,h3,h4,h5,h6,h7⟩:=h;have hS:0<S:=Y;refine⟨1+(m-W)/S,?_,Nat.le_add_right _ _,Y,Y,Y,Y,Y,λj r=>?_,?_,?_⟩;rw[lb,ah e,show(m:Int)-(W:Int)=((m-W:Nat):Int)from Y,<-Aa,en];rfl;have l:j*S<=(m-W)/S*S:=cV _ Y;have b:=Nat.div_mul_le_self (m-W) S;omega;have l:=Nat.div_add_mod (m-W) S;have b:=Nat.mod_lt (m-W) hS;grind;have b:=uV (m-W) S;omega
variable{gs:List Int}{kind:Int}
def dP(zs:au):Int:=zs.getD (zs.length-1) 0
def ub(zs:au)(W S:Int):Int:=if aH zs then js (dP zs) W S else 20
def uc(zs:au)(W S:Int):List Int:=if aH zs&&f8 (dP zs) W S then zs.set (zs.length-1) (lb (dP zs) W S)else[]
@[grind cases]structure PW(zs V:List Int)(R qab n W S:Nat):Prop where
 right:aH zs=true
 at_:zs[zs.length-1]?=some (qab:Int)
 len:1<=zs.length
 v:V=zs.set (zs.length-1) (n:Int)
 QC:aH V=true
 size:aB zs=((R*qab:Nat):Int)
 xh:aB V=((R*n:Nat):Int)
 R1:1<=R
 n1:1<=n
 W1:1<=W
 S1:1<=S
 W2:W<=1024
 S2:S<=1024
 Z2:qab<=1024
 fit:∀j,j<n->j*S+W<=qab
 ab7:qab<n*S+W
 small:R*qab<=65536
 nZ:n<=qab
 pl:uc zs (W:Int) (S:Int)=V
theorem PW.of{zs:au}{W S:Int}(h:ub zs W S=0):∃R G n l m:Nat,W=(l:Int)/\S=(m:Int)/\PW zs (uc zs W S) R G n l m:=by
 unfold ub at h;split at h
 .rename_i hr;obtain⟨r1,F,B,C⟩:=(ba zs).1 hr;obtain⟨P,I,G,b⟩:=JW.of hr (show zs.length-1<zs.length by omega);(have z:dP zs=(G:Int):=by rw[dP,a5,b.at_];rfl);(have j:f8 (dP zs) W S=true:=by unfold js at h;split at h;assumption;omega);have r:=j;simp only[f8,bU,b9,pO]at r;obtain⟨l,rfl⟩:=bO (show 0<=W by omega);obtain⟨m,rfl⟩:=bO (show 0<=S by omega);rw[z]at j;have⟨n,e,n1,w1,s1,w2,s2,z2,fit,ab7,nZ⟩:=sO j;(have D:I=1:=by have:=b.behind;rw[eU Y]at this;simp[aB]at this;omega);subst D;(have hv:uc zs l m=zs.set (zs.length-1) (n:Int):=by rw[uc,z,j,hr];simp[e]);(have u:aB zs=((P*G:Nat):Int):=by rw[iq b.at_,b.ahead,b.behind];simp);(have y:aB (zs.set (zs.length-1) (n:Int))=((P*n:Nat):Int):=by rw[p3 _ Y,b.ahead,b.behind];simp);have E:P*n<=P*G:=fS _ nZ;refine⟨P,G,n,l,m,rfl,rfl,⟨hr,b.at_,r1,hv,?_,u,by rw[hv,y],b.p1,n1,w1,s1,w2,s2,z2,fit,ab7,Y,nZ,rfl⟩⟩;grind [ba,p2]
 omega
section
variable{V:List Int}{qab n W S:Nat}
def PW.none(h:PW zs V R qab n W S):ub zs W S=0:=by
 have b:dP zs=(qab:Int):=by rw[dP,a5,h.at_];rfl
 have:=h.fit 0 h.n1;have e:=h.Z2;have j:=h.W1;have l:=h.W2;have m:=h.S1;have r:=h.S2;rw[ub,ah h.right,b,js,ah];simp only[f8,bU,b9];omega
theorem PW.Eg(h:PW zs V R qab n W S)(hi:i<R*n):i/n<R/\i%n<n/\i%n*S+W<=qab/\i/n*qab+i%n*S+W<=R*qab:=by
 have b:0<n:=h.n1;have e:i/n<R:=Nat.div_lt_of_lt_mul ay;have j:=Nat.mod_lt i b;have l:=h.fit _ j;have m:(i/n+1)*qab<=R*qab:=cV _ e;grind
end
def tab(N:Nat)(F:Nat->Int):List Int:=(List.range N).map F
section
variable{N:Nat}{F G:Nat->Int}
def h2:(tab N F).length=N:=by simp[tab]
theorem vG{k:Nat}(h:k<N):(tab N F)[k]?=some (F k):=by grind [tab,List.getElem?_range]
def mQ(h:∀q,q<N->F q=G q):tab N F=tab N G:=iG λq hq=>h q (pF.1 hq)
theorem JO(k)(z):(tab N F).set k z=tab N λq=>if q=k then z else F q:=by
 apply eo;intro q;rw[iI];by_cases hq:q<N;rw[vG hq,vG hq];by_cases b:k=q;subst b;rw[ah rfl,ah (by rwa[h2]),ah rfl];grind;have e:(tab N F)[q]?=none:=ej (by rw[h2];omega);have j:(tab N λq=>if q=k then z else F q)[q]?=none:=ej (by rw[h2];omega);grind
def Sv:tab N (λ_=>0)=List.replicate N 0:=by rw[tab,List.map_const',List.length_range]
end
def ib(b:Int)(W:Nat)(l:au):Int:=if b=1 then Hy l else fdiv (o8 l) (mF W)
def Ww(b:Int)(W:Nat)(l:au)(f q:Nat):Bool:=if b=1 then decide (q=f+(Br ((l.drop f).take W)).toNat)else decide (f<=q)&&decide (q<f+W)
def NB(b:Int)(W:Nat)(y:Int):Int:=if b=1 then y else fdiv y (mF W)
def j3(b:Int)(xs gs:au)(e n S W:Nat):Nat->Nat->Int
 |0,_=>0
 |i+1,q=>if Ww b W xs (i/n*e+i%n*S) q then bB (j3 b xs gs e n S W i q) (NB b W (gs.getD i 0))else j3 b xs gs e n S W i q
section
variable{P:Program}{j off:Nat}{S:Int}
def Sw(t:TypeId)(ht:P.underlying t=some (.slice (P.elem t)))(hs:(P.info? (P.elem t)).map (·.size)=some 1)(b off m d lo hi:Nat)(i j:Int)(r:i=(lo:Int))(u:j=(hi:Int))(y:lo<=hi)(z:hi<=m)(B:m<=d)(C:lo<d):
  ∀w,(Instr.slice t (.slice (some ⟨b,off,none⟩) m d) (some (.int .i64 i)) (some (.int .i64 j)) none).run P w=.ok (.slice (some ⟨b,off+lo,none⟩) (hi-lo) (d-lo)) w:=by
 subst r u;intro w;rw[kW w t _ m d ht .i64 .i64 lo hi Y Y Y,e1 hs];have e:d≠lo:=Y;by_cases l:lo=0;subst l;simp[Result.andThen,sliced,Addr.add,e];simp[Result.andThen,sliced,Addr.add,e,l]
section
variable{w:World}{n:Nat}
theorem Sl.part(h:Sl w (some ⟨b,off,none⟩) m xs){F W:Nat}(hF:F+W<=m):Sl w (some ⟨b,off+F,none⟩) W ((xs.drop F).take W):=by
 refine⟨λj z l=>?_,by have:=h.len;simp;omega⟩;rw[ji]at l;split at l;rw[iF]at l;obtain⟨D,r,e,hb,u⟩:=h.rd _ z l;injection e with e;injection e with y C;subst y;subst C;exact⟨b,off+F,rfl,hb,by rw[pG];exact u⟩;cases l
def p8{P N W S F:Nat}(hm:m<=65536)(hd:m<=d)(hF:Z (P/N*j+P%N*S=F))(hN:1<=N)(D:N<=1024)(hP:P<=65536)(K:1<=W)(l:F+W<=m):
  () 174 #[.slice (some ⟨b,off,none⟩) m d,P,j,N,W,S] w (aL w (.slice (some ⟨b,off+F,none⟩) W (d-F))):=by
 obtain⟨q,hq⟩:=lh (P/N);obtain⟨r,hr⟩:=lh (P%N);have e:=hF.o;rw[hq,hr]at e;obtain⟨x,z⟩:=lh (q*j);obtain⟨y,C⟩:=lh (r*S);rw[z,C]at e;have E:q<=P:=hq▸uV _ _;have G:x<=65536:=Y;have I:y<=65536:=Y;have m1:(P:Int)/(N:Int)=(q:Int):=by rw[<-Aa,hq]
 have L:¬N=0:=Y;have J:IntKind.i64.wrap (q:Int)=(q:Int):=hC _ Y;have M:(P:Int).tmod (N:Int)=(r:Int):=by rw[Int.tmod_eq_emod_of_nonneg zDh,<-Int.natCast_emod,hr]
 have O:IntKind.i64.wrap ((q:Int)*(j:Int))=(x:Int):=by rw[<-cH,z];exact hC _ zDh
 have m4:IntKind.i64.wrap ((r:Int)*(S:Int))=(y:Int):=by rw[<-cH,C];exact hC _ zDh
 have Q:IntKind.i64.wrap ((x:Int)+(y:Int))=(F:Int):=by rw[<-en,e];exact hC _ zDh
 have u:=Sw (P:=prog) 26 ap ap b off m d F (F+W) (F:Int) ((F:Int)+(W:Int)) rfl Y Y l hd Y;rw[uN]at u;go_in;go_wp2;refine aq ap (λR _=>?_);refine qL [0,1,2,3,4,5,6,7,8,9,10,11] ?_;refine a8 ?_;go_wp2;go_ret;exact bF
def sP[a:Sl w A n zs](e:n<=1000000):() 119 #[(A,n,c)] w (aL w (.bool (aH zs))):=by
 obtain⟨a,rfl⟩:=a;exact(dq A c zs w e a).mono λ_ _ ⟨j,hb⟩=>⟨j,⟨hb⟩⟩
def Bu{a b c:Int}:() 190 #[a,b,c] w (aL w (.tuple #[.int .i64 (lb a b c),.int .i64 (js a b c)])):=ll (AH a b c w)
def ac4(w:ab)(zs:au)(e:Ending)(w':ab):Prop:=
 ∃g,e=.returned (.slice (some ⟨g,0,none⟩) zs zs.length)/\w.1.size<=g/\Own w' g 3 zs/\aj w' w
def Fg[a:Sl w A n zs](e:n<=1000000):() 103 #[(A,n,c)] w (ac4 w zs):=by
 obtain⟨a,rfl⟩:=a;exact(mC A c zs w e a).mono λ_ _ ⟨g,j,hg,l,hb⟩=>⟨g,j,hg,l,⟨hb⟩⟩
def zD7(h:Γ:=by go_ret2;exact⟨none,0,rfl,Sl.empty,⟨al _⟩,bL.none,aC⟩):=h
def yD[a:Sl w A n zs](N:n<=1000000){W:Int}{V:au}(hE:Z (ub zs W S=E))(hV:Z (uc zs W S=V)):
  () 127 #[(A,n,c),W,S] w (jX w V E):=by
 obtain⟨a,rfl⟩:=a;have a:Sl w A zs zs:=⟨a,rfl⟩;have O:=@bX;rcases hr:aH zs with _|_
 .obtain rfl:E=20:=by rw[<-hE.o,ub,hr];rfl
  obtain rfl:V=[]:=by rw[<-hV.o,uc,hr];rfl
  go_in;go_wp2_with (go_at_call 119;refine mv (sP Y) λu _=>?_);exact zD7
 obtain⟨r1,P,-,-⟩:=(ba zs).1 hr;obtain⟨Q,R,z,rfl,I,J,K⟩:=a.get (k:=zs.length-1) Y;have y:dP zs=z:=by rw[dP,a5,K.o];rfl
 have m1:((zs.length:Int)-1)=((zs.length-1:Nat):Int):=Y;obtain⟨k,F⟩:=lh (zs.length-1);rw[F]at m1 J;have C:k<zs.length:=Y;rcases ho:f8 z W S with _|_
 .have D:js z W S=11:=by simp[js,ho]
  obtain rfl:E=11:=by rw[<-hE.o,ub,ah hr,y,D]
  obtain rfl:V=[]:=by rw[<-hV.o,uc,y,ho];simp
  go_in;go_wp2_with (first|(go_at_call 119;refine mv (sP Y) λu _=>?_)|(go_at_call 190;refine mv (Bu) λu _=>?_));exact zD7
 have D:js z W S=0:=by simp[js,ho]
 obtain⟨v,hv⟩:=lh (lb z W S);obtain rfl:E=0:=by rw[<-hE.o,ub,ah hr,y,D]
 have j:Z (zs.set k v=V):=U (by rw[<-hV.o,uc,y,ho,hr,F,hv];rfl);go_in;go_wp2_with (first|(go_at_call 119;refine mv (sP Y) λu _=>?_)|(go_at_call 190;refine mv (Bu) λu _=>?_));refine(Fg Y).mono ?_;rintro e w1 ⟨g,rfl,hg,oS,_⟩;have L:=oS.cell (bk C);have M:=oS.frozen k;go_wp2;go_ret2;have l:w.1.size<=g:=aQ (ai (w:=w) (w':=u)) hg;have G:=oS.av k v;rw[j.o]at G;have r:V.length=zs.length:=by rw[<-j.o,ei]
 rw[<-r];exact⟨_,_,rfl,⟨G.rd,rfl⟩,⟨al _⟩,⟨λT e=>by cases e;exact l⟩,⟨(aO w w1).setCell (p:=⟨g,k,none⟩) l _⟩⟩
def Hz(e:Int)(zs xs:au)(W S:Int):Int:=if e≠1/\e≠2 then 21 else if aw zs xs then ub zs W S else 20
def JP(e:Int)(zs xs:au)(W S:Int):List Int:=if Hz e zs xs W S=0 then uc zs W S else[]
def aa5{zs:au}{W:Int}(h:¬ub zs W S=0):uc zs W S=[]:=by
 unfold ub at h;unfold uc;split at h
 .rename_i hr;unfold js at h;split at h;omega;rename_i e;simp[e]
 rename_i hr;simp[hr]
def Fh[Sl w A n zs][Sl w B m xs](K:n<=1000000){W:Int}{V:au}(hE:Z (Hz z zs xs W S=E))(hV:Z (JP z zs xs W S=V)):
  () 173 #[z,.agg #[(A,n,c),(B,m,d)],W,S] w (jX w V E):=by
 have L:=@az;by_cases l:z≠1/\z≠2
 .obtain rfl:E=21:=by rw[<-hE.o,Hz,ah l]
  obtain rfl:V=[]:=by rw[<-hV.o,JP,hE.o];simp
  have k1:(z !=1)=true:=by simpa using l.1
  have k2:(z !=2)=true:=by simpa using l.2
  go_in;go_wp2;exact zD7
 have M:=U l;rcases hr:aw zs xs with _|_
 .obtain rfl:E=20:=by rw[<-hE.o,Hz,ag l,hr];rfl
  obtain rfl:V=[]:=by rw[<-hV.o,JP,hE.o];simp
  have j:z=1\/z=2:=Y;rcases j with rfl|rfl;rotate_left;all_goals go_in;go_wp2_with (go_at_call 69;refine mv (bK Y) λu _=>?_);go_ret2;exact⟨none,0,rfl,Sl.empty,⟨al _⟩,bL.none,aC⟩
 have r:Z (ub zs W S=E):=U (by rw[<-hE.o,Hz,ag l,hr];rfl);have y:Z (uc zs W S=V):=U (by
  rw[<-hV.o,JP,hE.o]
  split
  .rfl
  .rename_i C;exact aa5 (by rwa[r.o]))
 have j:z=1\/z=2:=Y;rcases j with rfl|rfl;rotate_left;all_goals go_in;go_wp2_with (first|(go_at_call 69;refine mv (bK Y) λu _=>?_)|(go_at_call 127;refine(yD Y r y).mono ?_;rintro e u ⟨D,F,rfl,G,I,J,_⟩));go_ret2;exact⟨D,F,rfl,G,I,J.less ai,aC⟩
end
end
variable{e:Nat}{ss:List Sp}
def iN(p b x:au):Bool:=decide (p.length=2)&&decide (b.length=1)&&decide (b.getD 0 0=p.getD 0 0)&&aH x&&decide (aB x=p.getD 1 0)
def mR(p b x:au):List Int:=if iN p b x then[p.getD 0 0]else[]
def mS(p b x:au):Int:=if iN p b x then 0 else 20
def JQ(L:f0):Bool:=L.all λz=>decide (z=L.headD [])
def pd(L:f0):List Int:=if JQ L then L.headD []else[]
def pf(L:f0):Int:=if JQ L then 0 else 20
section
variable{w:World}{n k N:Nat}{ps bs:List Int}{V:List Int}
def Sl.two(h:Sl w A n ps)(G:n=2):∃b o z0 z1,A=some ⟨b,o,none⟩/\Old b w/\w.cell? (b,o)=some (.int .i64 z0)/\w.cell? (b,o+1)=some (.int .i64 z1)/\Z (ps=[z0,z1]):=by
 obtain⟨b,o,z0,rfl,ob,v0,r⟩:=h.get (k:=0) Y;obtain⟨I,J,z1,e,u,y,z⟩:=h.get (k:=1) Y;injection e with e;injection e with D F;subst D F;have j:=h.len;refine⟨b,o,z0,z1,rfl,ob,v0,y,U ?_⟩;match ps,j,r.o,z.o with
 |[a,b],_,h0,h1=>simp at h0 h1;rw[h0,h1]
 |[],j,_,_=>simp at j;omega
 |[a],j,_,_=>simp at j;omega
 |a::b::c::l,j,_,_=>simp at j;omega
def Sl.one(h:Sl w A n ps)(u:n=1):∃b o z0,A=some ⟨b,o,none⟩/\Old b w/\w.cell? (b,o)=some (.int .i64 z0)/\Z (ps=[z0]):=by
 obtain⟨b,o,z0,rfl,ob,v0,r⟩:=h.get (k:=0) Y;have j:=h.len;refine⟨b,o,z0,rfl,ob,v0,U ?_⟩;match ps,j,r.o with
 |[a],_,h0=>simp at h0;rw[h0]
 |[],j,_=>simp at j;omega
 |a::b::l,j,_=>simp at j;omega
def zD3(h:Γ:=by go_in;go_upto_region 1 with fail;refine aq ap (λD _=>?_);refine qL [0,1,2,3,4,5,6,7,8,9,10,11,12,13,14,15,16] ?_;refine a8 ?_;go_wp2_with (first|(go_at_call 73;refine(h5 Y I l).mono ?_;rintro e u ⟨rfl,_⟩));go_ret2;exact⟨none,0,rfl,Sl.empty,Le.same _,bL.none,aC⟩):=h
def zD6(h:Γ:=by refine a8 ?_;go_wp2_with fail;go_ret2;exact⟨none,0,rfl,Sl.empty,Le.same _,bL.none,aC⟩):=h
def zDd(h:Γ:=by exact⟨rfl,rfl⟩):=h
def Sx[a:Sl w A n ps][b:Sl w B m bs][Sl w C k xs](X:k<=1000000)(hV:Z (mR ps bs xs=V))(hE:Z (mS ps bs xs=E)):
  () 124 #[(A,n,c),(B,m,d),.slice C k e] w (jX w V E):=by
 have CP:=@bX;have L:=U a.len;have M:=U b.len;have no:∀(hb:iN ps bs xs=false),V=[]/\E=20:=λhb=>by rw[<-hV.o,<-hE.o,mR,mS,hb];exact zDd
 by_cases r:n=2;rotate_left
 .obtain⟨rfl,rfl⟩:=no (by unfold iN;rw[ew (by rwa[<-L.o])];rfl);(have O:((n:Int) !=2)=true:=by rw[jc];omega);clear r;go_in;go_upto_region 1 with fail;refine aq ap (λD _=>?_);refine qL [0,1,2,3,504,505,506,7,8,509,510,511,512,513,514,515,16] ?_;exact zD6
 have O:((n:Int) !=2)=false:=by simp;omega
 obtain⟨b9,o9,z0,z1,rfl,P,v0,v1,K⟩:=a.two r;by_cases F:m=1;rotate_left
 .obtain⟨rfl,rfl⟩:=no (by unfold iN;rw[ew (show¬bs.length=1 from by rw[<-M.o];exact F)];simp);(have Q:((m:Int) !=1)=true:=by rw[jc];omega);clear F r;go_in;go_upto_region 1 with fail;refine aq ap (λD _=>?_);refine qL [0,1,2,3,4,5,6,7,8,509,510,511,512,513,514,515,16] ?_;exact zD6
 have Q:((m:Int) !=1)=false:=by simp;omega
 obtain⟨b8,o8,G,rfl,R,u0,S⟩:=b.one F;have j:iN ps bs xs=(decide (G=z0)&&aH xs&&decide (aB xs=z1)):=by unfold iN;rw[K.o,S.o];rfl
 by_cases y:G=z0;rotate_left
 .obtain⟨rfl,rfl⟩:=no (by rw[j,ew y];rfl);(have J:(G !=z0)=true:=by rwa[jc]);have n1:0<n:=Y;have m1:0<m:=Y;clear y j no F r;go_in;go_upto_region 1 with fail;refine aq ap (λD _=>?_);refine qL [0,1,2,3,4,5,6,7,8,9,10,11,12,13,14,15,16] ?_;exact zD6
 have J:(G !=z0)=false:=by simp[y]
 rw[ea y,z9]at j;have n2:1<n:=Y;have n1:0<n:=Y;have m1:0<m:=Y;clear y F r;rcases hr:aH xs with _|_;obtain⟨rfl,rfl⟩:=no (by rw[j,hr];rfl);have I:Z (bG xs=0):=U (by rw[bG,hr];rfl);have l:Z (cB xs=20):=U (by rw[cB,hr];rfl);clear hr j no;exact zD3;obtain⟨q,hq⟩:=lh (aB xs);have I:Z (bG xs=q):=U (by rw[bG,hr,hq];rfl);have l:Z (cB xs=0):=U (by rw[cB,hr];rfl);rw[hr,hq,z9]at j;by_cases z:q=z1
 .obtain⟨rfl,rfl⟩:V=[z0]/\E=0:=by rw[<-hV.o,<-hE.o,mR,mS,j,ea z,K.o];exact zDd
  have T:(q !=z1)=false:=by simp[z]
  clear z hr j no hq;go_in;go_upto_region 1 with fail;refine aq ap (λD _=>?_);refine qL [0,1,2,3,4,5,6,7,8,9,10,11,12,13,14,15,16] ?_;refine a8 ?_;go_wp2_with (first|(go_at_call 73;refine(h5 Y I l).mono ?_;rintro e u ⟨rfl,_⟩));go_ret2;have:w.1.size<=u.1.size:=ai;exact⟨some ⟨u.1.size,0,none⟩,1,rfl,(Sl.AJ:Sl _ _ 1 [z0]),⟨aI⟩,⟨λad e=>by injection e with e;subst e;exact this⟩,aC⟩
 obtain⟨rfl,rfl⟩:=no (by rw[j,ew z]);have T:(q !=z1)=true:=by rwa[jc]
 clear z hr j no hq;exact zD3
def ac5{z0:au}(h:L[0]?=some z0):JQ L=L.all λz=>decide (z=z0):=by
 cases L with
 |nil=>cases h
 |cons a l=>injection h with h;subst h;rfl
def aa6{z0:au}(h:L[0]?=some z0):L.headD []=z0:=by
 cases L with
 |nil=>cases h
 |cons a l=>injection h
def xi{α:Type}{f:α->Bool}{l:List α}{k:Nat}{x:α}(h:l[k]?=some x)(b:f x=false):l.all f=false:=by
 rw[pI];exact⟨x,aK h,by simp[b]⟩
def p9{α:Type}{f:α->Bool}{l:List α}{k:Nat}{x:α}(h:(l.take k).all f=true)(b:l[k]?=some x)(j:f x=true):(l.take (k+1)).all f=true:=by
 rw[i5,va,h,b];simp[j]
def xj{α:Type}{f:α->Bool}{l:List α}{k:Nat}(h:(l.take k).all f=true)(b:l.length<=k):l.all f=true:=by rwa[bV b]at h
def JR[a:dX w B n ss][le:Le n c](h1:1<=n)(hn:n<=1000000)(O:Z (∀z∈aX ss,aH z=true))(hV:Z (pd (aX ss)=V))(hE:Z (pf (aX ss)=E)):
  () 125 #[(B,n,c)] w (jX w V E):=by
 have CP:=@bX;have X:=le.le;have LN:Z (n=(aX ss).length):=U (a.len.trans cR.symm);obtain⟨b,o,A0,P,c0,z0,rfl,ob,v0,s0,_,D⟩:=a.get (k:=0) Y;have m4:P<=4:=by rw[s0.len];exact cv (O.o _ (h8 D.o))
 have Q:=U (ac5 D.o);have v0':w.cell? (b,o)=some (.slice A0 P c0):=v0;clear v0;obtain⟨l,rfl⟩:∃l,n=l+1:=⟨n-1,Y⟩;obtain⟨A',kE,R⟩:=vF b o l c X;have HA:=U R;clear R;go_in;go_wp2_with fail;go_loopw [9] (λi wr=>∃j:Nat,j<=l/\i=.int .i64 j/\Z (((aX ss).take (j+1)).all (λz=>decide (z=z0))=true)/\aj wr w) (λi _=>l-(intOf i).toNat);case atStart=>exact⟨0,aR _,rfl,U (p9 (k:=0) rfl D.o (ea rfl)),aC⟩
 case round=>
  obtain⟨j,hj,rfl,S,hp⟩:=hrel;by_cases bD:j<l
  .obtain rfl:=HA.o Y;obtain⟨b',o',A1,m1,c1,z1,G,I,T,s1,_,r⟩:=a.get (k:=j+1) Y;injection G with G;injection G with J K;subst J K;(have Sy:w.cell? (b,o+1+j)=some (.slice A1 m1 c1):=by rwa[show o+1+j=o+(j+1)from Y]);(have JS:m1<=4:=by rw[s1.len];exact cv (O.o _ (h8 r.o)));clear T I;by_cases F:z1=z0
   .have y:Z (decide (z1=z0)=true):=U (ea F);have L:=U (p9 S.o r.o y.o);clear F r;go_wp2_with (go_at_call 70;refine mv (ua Y Y y) λu _=>?_);go_roundw;(case rel=>exact⟨j+1,Y,by go_num,L,aC⟩);case measure=>exact ou
   have y:Z (decide (z1=z0)=false):=U (ew F);have M:Z (JQ (aX ss)=false):=U (by rw[Q.o];exact xi r.o y.o);(obtain⟨rfl,rfl⟩:V=[]/\E=20:=by rw[<-hV.o,<-hE.o,pd,pf,M.o];exact zDd);clear F r;go_wp2_with (go_at_call 70;refine mv (ua Y Y y) λu _=>?_);go_ret2;exact⟨none,0,rfl,Sl.empty,Le.same _,bL.none,aC⟩
  have M:Z (JQ (aX ss)=true):=U (by rw[Q.o];exact xj S.o (by rw[<-LN.o];omega));(obtain⟨rfl,rfl⟩:V=z0/\E=0:=by rw[<-hV.o,<-hE.o,pd,pf,M.o,aa6 D.o];exact zDd);go_wp2_with (first|(go_at_call 103;refine(ly Y).mono ?_;rintro e u ⟨gS,rfl,sS,fS,_⟩));go_ret2;exact⟨some ⟨gS,0,none⟩,_,rfl,sS,Le.same _,fS.less ai,aC⟩
def eG[Sl w A n ps](b:n<=1000000){v e:Int}(hv:Z (bG ps=v/\cB ps=e)):() 73 #[(A,n,c)] w (aL w (.tuple #[v,e])):=h5 b (U hv.o.1) (U hv.o.2)
def vH(xs ps:au):Int:=if aH xs then(if aH ps then(if aB ps=aB xs then 0 else 20)else 20)else 20
def Bv(xs ps:au):List Int:=if vH xs ps=0 then ps else[]
def zD1(h:Γ:=by go_in;go_wp2_with (first|(first|(go_at_call 73;refine(eG y z).mono ?_;rintro e u ⟨rfl,_⟩))|(first|(go_at_call 73;refine(eG hm D).mono ?_;rintro e u ⟨rfl,_⟩)));go_ret2;exact⟨none,0,rfl,Sl.empty,Le.same _,bL.none,aC⟩):=h
def NC[Sl w A n xs][Sl w B m ps](y:n<=1000000)(hm:m<=1000000)(hV:Z (Bv xs ps=V))(hE:Z (vH xs ps=E)):
  () 130 #[(A,n,c),(B,m,d)] w (jX w V E):=by
 have no:vH xs ps=20->V=[]/\E=20:=λh=>by rw[<-hV.o,<-hE.o,Bv,h];exact zDd
 obtain⟨l,ex,b⟩:∃v e,bG xs=v/\cB xs=e:=⟨_,_,rfl,rfl⟩;obtain⟨r,I,hp⟩:∃v e,bG ps=v/\cB ps=e:=⟨_,_,rfl,rfl⟩;have z:=U b;have D:=U hp;rcases r1:aH xs with _|_;obtain⟨rfl,rfl⟩:=no (by rw[vH,r1];rfl);obtain rfl:ex=20:=by rw[<-b.2,cB,r1];rfl
 clear b hp r1 no;exact zD1;obtain rfl:ex=0:=by rw[<-b.2,cB,r1];rfl
 rcases r2:aH ps with _|_;obtain⟨rfl,rfl⟩:=no (by rw[vH,r1,r2];rfl);obtain rfl:I=20:=by rw[<-hp.2,cB,r2];rfl
 clear b hp r1 r2 no;exact zD1;obtain rfl:I=0:=by rw[<-hp.2,cB,r2];rfl
 have F:aB xs=l:=by rw[<-b.1,bG,r1];rfl
 have G:aB ps=r:=by rw[<-hp.1,bG,r2];rfl
 have j:vH xs ps=if r=l then 0 else 20:=by rw[vH,r1,r2,F,G];rfl
 by_cases h:r=l
 .rw[ah h]at j;(obtain⟨rfl,rfl⟩:V=ps/\E=0:=by rw[<-hV.o,<-hE.o,Bv,j];exact zDd);(have J:(r !=l)=false:=by simp[h]);clear b hp r1 r2 no F G j h;go_in;go_wp2_with (first|(first|(go_at_call 73;refine(eG y z).mono ?_;rintro e u ⟨rfl,_⟩))|(first|(go_at_call 73;refine(eG hm D).mono ?_;rintro e u ⟨rfl,_⟩))|(first|(go_at_call 103;refine(ly Y).mono ?_;rintro e u ⟨K,rfl,L,M,_⟩)));go_ret2;exact⟨some ⟨K,0,none⟩,_,rfl,L,Le.same _,M.less ai,aC⟩
 rw[ag h]at j;obtain⟨rfl,rfl⟩:=no j;have J:(r !=l)=true:=by rwa[jc]
 clear b hp r1 r2 no F G j h;exact zD1
end

variable{W u:World}{l:Nat}
structure c5{β:Type}(B:Nat)(I:β->World->Prop):Prop where
 grow:∀s A C,I s A->Below A.1.size A C->I s C
 iY:∀s A l o o',I s A->B<=l->A.heap[l]?=some o->o.isCells=false->I s (A.putObj l o')
def eX(W:ab)(o:Obj):Below W.1.size W (W.alloc o):=(aY _ _).alloc (al _) _
def Bw{n₀:Nat}{o:Obj}(b:Obj)(h:W.heap[l]?=some o)(j:n₀<=l):Below n₀ W (W.putObj l b):=
 (aY n₀ W).grown (grownBy_putObj' W l b) (by have:=(fY.1 h).1;omega) (λk e=>by cases e;exact j)
variable{β:Type}{B:Nat}
def c5.and{I J:β->World->Prop}(h:c5 B I)(k:c5 B J):c5 B (λs W=>I s W/\J s W):=
 ⟨λs A C hi hb=>⟨h.grow s A C hi.1 hb,k.grow s A C hi.2 hb⟩,λs A l o b hi e j m=>⟨h.iY s A l o b hi.1 e j m,k.iY s A l o b hi.2 e j m⟩⟩
def c5.pure(p:β->Prop):c5 B (λs _=>p s):=⟨λ_ _ _ h _=>h,λ_ _ _ _ _ h _ _ _=>h⟩
def c5.none_:c5 B (λ(_:β) _=>False):=c5.pure λ_=>False
def c5.ak(g:β->Nat)(T:TypeId)(cs:β->Array Value):c5 B (λs W=>aA W (g s) T (cs s)):=
 ⟨λ_ _ _ h hb=>h.keep hb,λ_ _ _ _ _ h _ b e=>by
  refine(World.putObj_heap_other ?_).trans h;rintro rfl;unfold aA at h;rw[h]at b;injection b with b
  subst b;cases e⟩
def c5.own(g:β->Nat)(T:TypeId)(zs:β->List Int):c5 B (λs W=>Own W (g s) T (zs s)):=
 ⟨λ_ _ _ h hb=>h.keep hb,λ_ _ _ _ _ h _ b e=>by
  refine(World.putObj_heap_other ?_).trans h;rintro rfl;unfold Own at h;rw[h]at b;injection b with b
  subst b;cases e⟩
def c5.below{n:Nat}{w:ab}(b:n<=w.1.size)(h:n<=B):c5 B (λ(_:β) W=>Below n w W):=
 ⟨λ_ _ _ hi hb=>hi.trans (hb.mono (aQ b hi.size)),λ_ _ _ _ e hi j l _=>hi.trans ((Bw (n₀:=n) e l (aQ h j)))⟩
def gh{B:Nat}(h:Below W.1.size W u):KeepsFrom B W u:=
 KeepsOthers.from ⟨h.size,λk _ b _=>(h.block k (fY.1 b).1).trans b⟩ B
def h9{B:Nat}(h:KeepsFrom B W u)(p:Addr)(v:Value):KeepsFrom B W (u.setCell p v):=h.trans ((KeepsOthers.setCell _ _ _).from B)
section
variable{g:Nat}{T:TypeId}{P:Program}{Q:Exit->Act->World->Prop}{a:Act}
structure dg(n:Nat)(A B:World):Prop where
 size:A.1.size<=B.1.size
 same:∀k,n<=k->k<A.1.size->B.heap[k]?=A.heap[k]?
def dg.trans{n:Nat}{A B C:ab}(h:dg n A B)(k:dg n B C):dg n A C:=⟨aQ h.size k.size,λi hi b=>(k.same i hi (bN b h.size)).trans (h.same i hi b)⟩
def dg.below{n:Nat}{A B:ab}(h:Below A.1.size A B):dg n A B:=⟨h.size,λk _ b=>h.block k b⟩
def dg.av{n:Nat}{A:ab}{p:Addr}(v:Value)(hp:p.block<n):dg n A (A.setCell p v):=⟨aI,λk b _=>bb A p v k Y⟩
def dg.put{n:Nat}{A:ab}{o:Obj}(b:Obj)(h:A.heap[l]?=some o)(e:l<n):dg n A (A.putObj l b):=
 ⟨(Bw (n₀:=0) b h (aR _)).size,λk j _=>World.putObj_heap_other Y⟩
def dg.ak{n:Nat}{A B:ab}{cs:dw}(h:dg n A B)(hb:aA A g T cs)(hg:n<=g):aA B g T cs:=(h.same g hg hb.lt).trans hb
def Wx{α:Type}(P:Program)(u:Nat)(y z:dw)(m:α->Array Value)(C:List α->α->Prop)(S Sp:List α->Prop)(w:ab):Prop:=
 ∀(l:Nat) (J r:List α->World->Prop) (W:ab),Below w.1.size w W->
  (∀s A B,J s A->Below A.1.size A B->J s B)->(∀s A B,r s A->Below A.1.size A B->r s B)->
  (∀b x W1,J b W1->C b x->YieldAt Fence.wide 1 P l (m x) W1 λe j=>
   (e=.returned (.bool true)/\J (b++[x]) j/\dg W.1.size W1 j)\/(e=.returned (.bool false)/\r (b++[x]) j))->
  J [] W->
  CallsIn Fence.wide 2 P u (y++ #[.func (.yield l) #[] #[]]++z) W λe j=>(∃v,e=.returned v)/\((∃xs,S xs/\J xs j)\/(∃b,Sp b/\r b j))
def ND{α:Type}(B n:Nat)(I:List α->World->Prop)(b:Code->List α->World->Prop)(xs:List α)(W:ab):Exit->Act->World->Prop
 |.normal,_,W'=>KeepsFrom B W W'/\dg n W W'/\I xs W'
 |.ret,_,W'=>KeepsFrom B W W'/\b .ret xs W'
 |.exit id,_,W'=>KeepsFrom B W W'/\b (.exit id) xs W'
 |.goto t,_,W'=>KeepsFrom B W W'/\b (.goto t) xs W'
 |.panic _,_,_=>False
 |.outgrown,_,_=>False
def Fi{α:Type}{g:Operand}{ps:Array Tmp}{assign body:Code}{w:ab}{gf:Nat}{fb lb:dw}
  (hg:a.eval g=.func (.func gf) fb lb) (eg:∀args w,(callFunc gf args).run P w=.ok (.enter gf args) w)
  {r:α->Array Value} {Px:List α->α->Prop} {S Sp:List α->Prop}  (V:Wx P gf fb lb r Px S Sp u)
  (hb0:Below u.1.size u w) (Eh:∀x,(r x).size=ps.size)
  (I:List α->World->Prop) (Ix:Code->List α->World->Prop) (M:c5 w.1.size I) (C:∀c,c5 w.1.size (Ix c))
  (h0:I [] w) (a₁:α->World->Act) (J:α->World->World) (Ax:α->Nat->World->Prop) (X:∀x W,Below W.1.size W (J x W)) (hAx:∀x W,Ax x W.1.size (J x W))
  (hAt:∀x n A l o o',Ax x n A->A.heap[l]?=some o->o.isCells=false->Ax x n (A.putObj l o'))
  (E:∀(l:Nat) (x:α) (W:ab) (K:Act->World->Prop),K (a₁ x W) (J x W)->
   assign.wpIn (Fence.wide.inRound l) 1 P (Exit.then K (λ_ _ _=>False)) {tmps:=(ps.zip (r x)).foldl (λt (p,v)=>t.setIfInBounds p v) a.tmps,defers:=[]} W)
  (N:∀(l:Nat) (j:List α) (x:α) (y W:ab),I j W->Px j x->w.1.size+2<=y.1.size->y.1.size<=W.1.size->Ax x y.1.size W->
   body.wpIn (Fence.wide.inRound l) 1 P (ND w.1.size (w.1.size+2) I Ix (j++[x]) W) (a₁ x y) W)
  (O:∀(D:Nat) (xs:List α) (W:ab),w.1.size<=D->S xs->I xs W->W.heap[D]?=some (.deferred (some []))->Q .normal {a with defers:={target:=.collected D,args:= #[]}::a.defers} W)
  (R:∀(D:Nat) (c:Code) (j:List α) (W:ab),w.1.size<=D->Sp j->Ix c j W->W.heap[D]?=some (.deferred (some []))->c.wpIn Fence.wide 3 P Q {a with defers:={target:=.collected D,args:= #[]}::a.defers} W):
  (Code.rangeFunc g ps assign body).wpIn Fence.wide 3 P Q a w:=by
 refine wpIn_rangeFunc ?_;intro fn hfn;let lp:LoopState->Option Code->Loop:=λst pe=>{state:=st,pending:=pe,fn,tmps:=a.tmps,params:=ps,assign,body,defers:=w.1.size};let W1:World:=(w.alloc (.deferred (some []))).alloc (.loop (lp .ready none));have aer:W1.heap[w.1.size+1]?=some (.loop (lp .ready none)):=by have:=World.alloc_heap_new (w.alloc (.deferred (some []))) (.loop (lp .ready none));rwa[Qc]at this
 have aes:W1.heap[w.1.size]?=some (.deferred (some [])):=(nM _ _ _ aI).trans (World.alloc_heap_new w _);have inv1:I [] W1:=M.grow _ _ _ (M.grow _ _ _ h0 (eX _ _)) (eX _ _);have aet:Below u.1.size u W1:=dm hb0 (dm (eX _ _) (eX _ _));have e1:W1.1.size=w.1.size+2:=by simp[W1]
 refine⟨w.1.size+1,[{target:=.collected w.1.size,args:= #[]}],W1,{target:=.fn (.func gf) lb,args:=fb++ #[.func (.yield (w.1.size+1)) #[] #[]]},W1,gf,
  fb++ #[.func (.yield (w.1.size+1)) #[] #[]]++lb,W1,run_enterLoop_outer _ _ _ _ _,?_,?_,?_,λ_=>Y,?_⟩
 .simp only[resolve,hg];simp[go_sem]
 intro f' _;trivial
 .simp[invoke,go_sem,eg]
 refine(V (w.1.size+1)
  (λj W=>I j W/\W.heap[w.1.size+1]?=some (.loop (lp .ready none))/\W.heap[w.1.size]?=some (.deferred (some [])))
  (λj W=>∃c,Ix c j W/\W.heap[w.1.size+1]?=some (.loop (lp .done (some c)))/\W.heap[w.1.size]?=some (.deferred (some [])))
  W1 aet ?_ ?_ ?_ ⟨inv1,aer,aes⟩).mono ?_
 rintro s A B ⟨hi,m,hd⟩ hb;exact⟨M.grow _ _ _ hi hb,(hb.block _ (fY.1 m).1).trans m,(hb.block _ (fY.1 hd).1).trans hd⟩;rintro s A B ⟨c,hi,m,hd⟩ hb;exact⟨c,(C c).grow _ _ _ hi hb,(hb.block _ (fY.1 m).1).trans m,(hb.block _ (fY.1 hd).1).trans hd⟩
 .rintro j x y ⟨Hd,T,oM⟩ hx;have aeu:w.1.size+1<y.1.size:=(fY.1 T).1;let W:World:=J x y;have bA:Below y.1.size y W:=X x y;have hi:I j W:=M.grow _ _ _ Hd bA;have m:W.heap[w.1.size+1]?=some (.loop (lp .ready none)):=(bA.block _ aeu).trans T;have hd:W.heap[w.1.size]?=some (.deferred (some [])):=(bA.block _ (fY.1 oM).1).trans oM;have bD:w.1.size+1<W.1.size:=(fY.1 m).1;refine⟨fn,_,assign,body,run_yield (P:=P) (args:=r x) T (Eh x),roundIn_of_wpIn hfn (E _ x y _ ⟨_,run_beginRound m rfl,?_⟩)⟩;let W2:World:=W.putObj (w.1.size+1) (.loop {lp .ready none with state:=.busy});have aev:W2.heap[w.1.size+1]?=some (.loop {lp .ready none with state:=.busy}):=World.putObj_heap_same bD;have aew:W2.heap[w.1.size]?=some (.deferred (some [])):=(World.putObj_heap_other Y).trans hd;have L:dg (w.1.size+2) y W2:=(dg.below bA).trans (dg.put _ m Y);refine wpIn_mono (N _ j x y W2 (M.iY _ _ _ _ _ hi Y m rfl) hx Y L.size (hAt _ _ _ _ _ _ (hAx x y) m rfl)) ?_
  have fin:∀(b:Option Code) (z:ab),KeepsFrom w.1.size W2 z->
    (Instr.endRound (w.1.size+1) b).run P z=.ok (.bool b.isNone) (z.putObj (w.1.size+1) (.loop (lp (if b.isNone then .ready else .done) b)))/\
    z.heap[w.1.size+1]?=some (.loop {lp .ready none with state:=.busy})/\
    (z.putObj (w.1.size+1) (.loop (lp (if b.isNone then .ready else .done) b))).heap[w.1.size+1]?=some (.loop (lp (if b.isNone then .ready else .done) b))/\
    (z.putObj (w.1.size+1) (.loop (lp (if b.isNone then .ready else .done) b))).heap[w.1.size]?=some (.deferred (some [])):=λb z G=>by
   have F:=G.same _ _ Y aev rfl;exact⟨run_endRound (P:=P) b F,F,World.putObj_heap_same (fY.1 F).1,(World.putObj_heap_other Y).trans (G.same _ _ (al _) aew rfl)⟩
  rintro e a3 z hp;cases e with
  |normal=>have⟨G,hb,NE⟩:=hp;have⟨hr,vz,Bg,NG⟩:=fin none z G;exact⟨_,_,hr,.inl ⟨rfl,⟨M.iY _ _ _ _ _ NE Y vz rfl,Bg,NG⟩,by rw[e1];exact(L.trans hb).trans (dg.put _ vz Y)⟩⟩
  |ret=>have⟨G,NE⟩:=hp;have⟨hr,vz,Bg,NG⟩:=fin (some .ret) z G;exact⟨_,_,hr,.inr ⟨rfl,.ret,(C _).iY _ _ _ _ _ NE Y vz rfl,Bg,NG⟩⟩
  |exit id=>have⟨G,NE⟩:=hp;have⟨hr,vz,Bg,NG⟩:=fin (some (.exit id)) z G;exact⟨_,_,hr,.inr ⟨rfl,.exit id,(C _).iY _ _ _ _ _ NE Y vz rfl,Bg,NG⟩⟩
  |goto t=>have⟨G,NE⟩:=hp;have⟨hr,vz,Bg,NG⟩:=fin (some (.goto t)) z G;exact⟨_,_,hr,.inr ⟨rfl,.goto t,(C _).iY _ _ _ _ _ NE Y vz rfl,Bg,NG⟩⟩
  |panic ch=>exact hp.elim
  |outgrown=>exact hp.elim
 rintro e W2 ⟨⟨v,rfl⟩,(⟨xs,hS,hi,m,hd⟩|⟨j,hSp,c,hi,m,hd⟩)⟩;exact⟨none,_,run_endLoop (P:=P) m (by simp[lp]),O _ xs _ (al _) hS (M.iY _ _ _ _ _ hi Y m rfl) ((World.putObj_heap_other Y).trans hd)⟩;exact⟨some c,_,run_endLoop (P:=P) m (by simp[lp]),R _ c j _ (al _) hSp ((C c).iY _ _ _ _ _ hi Y m rfl) ((World.putObj_heap_other Y).trans hd)⟩
end
variable{j q:Nat}
structure CF where
 O:Nat
 C:Nat
 K:Nat
 L:Nat
 H:Nat
 W:Nat
 M:Nat
 N:Nat
 S:Nat
abbrev gZ:=Nat×Nat×Nat
section
variable(f:CF)
def CF.place(p i j:Nat):Nat:=(p*f.M+i)*f.N+j
def CF.wt(p q t u:Nat):Nat:=(p*f.C+q)*(f.K*f.L)+t*f.L+u
def CF.Wy(i j q t u:Nat):Nat:=q*(f.H*f.W)+(i*f.S*f.W+j*f.S)+t*f.W+u
def CF.NH(p i j q t u:Nat):gZ:=(f.place p i j,f.wt p q t u,f.Wy i j q t u)
def CF.uT(p i j q t u:Nat):List gZ:=(List.range u).flatMap λu=>[f.NH p i j q t u]
def CF.tT(p i j q t:Nat):List gZ:=(List.range t).flatMap λt=>f.uT p i j q t f.L
def CF.qT(p i j q:Nat):List gZ:=(List.range q).flatMap λq=>f.tT p i j q f.K
def CF.cT(p i j:Nat):List gZ:=f.qT p i j f.C
def CF.jT(p i j:Nat):List gZ:=(List.range j).flatMap λj=>f.cT p i j
def CF.iT(p i:Nat):List gZ:=(List.range i).flatMap λi=>f.jT p i f.N
def CF.pT(p:Nat):List gZ:=(List.range p).flatMap λp=>f.iT p f.M
def CF.all:List gZ:=f.pT f.O
end
def lA{α:Type}(g:Nat->List α)(n:Nat):(List.range (n+1)).flatMap g=(List.range n).flatMap g++g n:=by simp[iK]
def mm{α:Type}(g:Nat->List α){k n:Nat}(h:k<n):∃r,(List.range n).flatMap g=(List.range k).flatMap g++(g k++r):=by
 induction n with
 |zero=>omega
 |succ n b=>by_cases e:k=n;subst e;exact⟨[],by rw[lA,ev]⟩;have⟨r,hr⟩:=b Y;exact⟨r++g n,by rw[lA,hr];simp⟩
variable{f:CF}
def JT{T e b:List gZ}{p t:Nat}(r:T=e++(f.cT p i j++b))(hq:q<f.C)(ht:t<f.K)(hu:m<f.L):
  ∃l,T=(e++(f.qT p i j q++(f.tT p i j q t++f.uT p i j q t m)))++f.NH p i j q t m::l:=by
 have⟨r1,h1⟩:=mm (λq=>f.tT p i j q f.K) hq;have⟨r2,h2⟩:=mm (λt=>f.uT p i j q t f.L) ht;have⟨r3,h3⟩:=mm (λm=>[f.NH p i j q t m]) hu;refine⟨r3++(r2++(r1++b)),?_⟩;rw[r,CF.cT,CF.qT,h1,CF.tT,h2,CF.uT,h3];simp[CF.qT,CF.tT,CF.uT]
def JU{p:Nat}(hp:p<f.O)(hi:i<f.M)(e:j<f.N):∃b,f.all=(f.pT p++(f.iT p i++f.jT p i j))++(f.cT p i j++b):=by
 have⟨r1,h1⟩:=mm (λp=>f.iT p f.M) hp;have⟨r2,h2⟩:=mm (λi=>f.jT p i f.N) hi;have⟨r3,h3⟩:=mm (λj=>f.cT p i j) e;refine⟨r3++(r2++r1),?_⟩;rw[CF.all,CF.pT,h1,CF.iT,h2,CF.jT,h3];simp[CF.pT,CF.iT,CF.jT]
def Wz(p i j q t u:Nat):f.uT p i j q t (u+1)=f.uT p i j q t u++[f.NH p i j q t u]:=lA _ _
def WA(p i j q t:Nat):f.tT p i j q (t+1)=f.tT p i j q t++f.uT p i j q t f.L:=lA _ _
def WB(p i j q:Nat):f.qT p i j (q+1)=f.qT p i j q++f.tT p i j q f.K:=lA _ _
def WC(p i j:Nat):f.jT p i (j+1)=f.jT p i j++f.cT p i j:=lA _ _
def WD(p i:Nat):f.iT p (i+1)=f.iT p i++f.jT p i f.N:=lA _ _
def WE(p:Nat):f.pT (p+1)=f.pT p++f.iT p f.M:=lA _ _
structure By(f:CF):Prop where
 h:∀i,i<f.M->i*f.S+f.K<=f.H
 w:∀j,j<f.N->j*f.S+f.L<=f.W
 ow:f.O*(f.C*(f.K*f.L))<=65536
 ox:f.C*(f.H*f.W)<=65536
 oy:f.O*(f.M*f.N)<=65536
 o1:1<=f.O
 c1:1<=f.C
 k1:1<=f.K
 l1:1<=f.L
 m1:1<=f.M
 n1:1<=f.N
 s2:f.S<=1024
variable{p t u:Nat}
theorem lex_lt{a A B:Nat}(e:a<A)(hb:b<B):a*B+b<A*B:=by
 have:(a+1)*B<=A*B:=cV _ e;grind
def Fj(hp:p<f.O)(hi:i<f.M)(b:j<f.N):f.place p i j<f.O*(f.M*f.N):=by
 rw[<-zV];exact lex_lt (lex_lt hp hi) b
def ac6(hp:p<f.O)(hq:q<f.C)(ht:t<f.K)(hu:u<f.L):f.wt p q t u<f.O*(f.C*(f.K*f.L)):=by
 have b:=lex_lt ht hu;have e:=lex_lt (lex_lt hp hq) b;rw[<-zV];unfold CF.wt;omega
def aa7(b:By f)(hi:i<f.M)(e:j<f.N)(hq:q<f.C)(ht:t<f.K)(hu:u<f.L):f.Wy i j q t u<f.C*(f.H*f.W):=by
 have r:=b.h i hi;have y:=b.w j e;have l:(i*f.S+t)*f.W+(j*f.S+u)<f.H*f.W:=lex_lt Y Y;have m:=lex_lt hq l;rw[im]at m;unfold CF.Wy;omega
theorem sQ{α:Type}{g:Nat->List α}{n:Nat}{x:α}(h:x∈(List.range n).flatMap g):∃k,k<n/\x∈g k:=by
 grind
theorem WF{x:gZ}(h:x∈f.all):∃p i j q t u,p<f.O/\i<f.M/\j<f.N/\q<f.C/\t<f.K/\u<f.L/\x=f.NH p i j q t u:=by
 have⟨p,hp,h⟩:=sQ h;have⟨i,hi,h⟩:=sQ h;have⟨j,hj,h⟩:=sQ h;have⟨q,hq,h⟩:=sQ h;have⟨t,ht,h⟩:=sQ h;have⟨u,hu,h⟩:=sQ h;grind
def QD(e:By f){x:gZ}(h:x∈f.all):x.1<f.O*(f.M*f.N)/\x.2.1<f.O*(f.C*(f.K*f.L))/\x.2.2<f.C*(f.H*f.W):=by
 obtain⟨p,i,j,q,t,u,hp,hi,b,hq,ht,hu,rfl⟩:=WF h;exact⟨Fj hp hi b,ac6 hp hq ht hu,aa7 e hi b hq ht hu⟩
def vI(f:CF):Value:=.agg #[f.O,f.C,f.K,f.L,f.H,f.W,f.M,f.N,f.S,f.L,.int .i64 ((f.K*f.L:Nat):Int),.int .i64 ((f.H*f.W:Nat):Int)]
def vJ(x:gZ):Array Value:= #[.agg #[x.1,x.2.1,x.2.2]]
def WG(P:Program)(l n0:Nat)(T:List gZ)(J m:List gZ->World->Prop):Prop:=
 (∀s A B,J s A->Below A.1.size A B->J s B)/\(∀s A B,m s A->Below A.1.size A B->m s B)/\
  ∀b x W1,J b W1->(∃j,T=b++x::j)->YieldAt Fence.wide 1 P l (vJ x) W1 λe r=>
   (e=.returned (.bool true)/\J (b++[x]) r/\dg n0 W1 r)\/(e=.returned (.bool false)/\m (b++[x]) r)
def Sz(n0:Nat)(T:List gZ)(J m:List gZ->World->Prop)(all:List gZ)(w:ab)(e:Ending)(l:ab):Prop:=
 (e=.returned (.bool true)/\J all l/\dg n0 w l)\/(e=.returned (.bool false)/\∃b,(∃j,T=b++j)/\m b l)
theorem JV(f)(D:Z (By f))(p i j)(hp:p<f.O)(hi:i<f.M)(hj:j<f.N)(l n0)(T b)(hT:Z (∃B,T=b++(f.cT p i j++B)))(J Jx:List gZ->World->Prop)(w)
  (hh:Z (WG prog l n0 T J Jx)) (hn:n0<=w.1.size) (h0:J b w):
  CallsIn Fence.wide 2 prog 263 #[vI f,p,i,j,.func (.yield l) #[] #[]] w (Sz n0 T J Jx (b++f.cT p i j) w):=by
 have k1:=D.o.k1;have l1:=D.o.l1;have c1:=D.o.c1;have n1:=D.o.n1;have ow:=D.o.ow;have ox:=D.o.ox;have oy:=D.o.oy;have hfh:=D.o.h i hi;have hfw:=D.o.w j hj;have CB:=@az;obtain⟨m,r⟩:=lh (f.K*f.L);obtain⟨z,y⟩:=lh (f.H*f.W);obtain⟨A1,R⟩:=lh (p*f.M);obtain⟨A2,E⟩:=lh ((A1+i)*f.N);obtain⟨B1,hB1⟩:=lh (i*f.S);obtain⟨B2,V⟩:=lh (B1*f.W);obtain⟨B3,hB3⟩:=lh (j*f.S);obtain⟨X,F⟩:=lh (p*f.C);obtain⟨PL,hPL⟩:=lh (A2+j);obtain⟨CO,hCO⟩:=lh (B2+B3);have bPL:PL<f.O*(f.M*f.N):=by have:=Fj hp hi hj;unfold CF.place at this;rw[R,E,hPL]at this;exact this
 have bA1:A1+i<=A2:=by rw[<-E];exact GD _ n1
 have w1:1<=f.W:=Y;have bW:f.H<=z/\f.W<=z:=⟨by rw[<-y];exact GD _ w1,by rw[<-y];exact zT _ Y⟩;have bHW:z<=65536:=by have:1*z<=f.C*z:=cV _ c1;rw[y]at ox;omega
 have bB2:B2<=z:=by rw[<-V,<-y];exact cV _ Y
 have bKL:m<=65536/\f.O*f.C<=65536/\1<=m/\f.C<=65536:=by (have zf:1<=m:=by rw[<-r];exact kY k1 l1);rw[r,<-zV]at ow;have G:1*m<=f.O*f.C*m:=cV _ (kY Y c1);have e2:f.O*f.C*1<=f.O*f.C*m:=fS _ zf;have e3:1*f.C<=f.O*f.C:=cV _ Y;omega
 have bK:f.K<=m/\f.L<=m:=⟨by rw[<-r];exact GD _ l1,by rw[<-r];exact zT _ k1⟩;have bD1:X<=65536:=by have:p*f.C<=f.O*f.C:=cV _ (eW hp);omega
 have bp:p<=65536/\i<=65536/\j<=65536:=by have G:1*f.C<=f.O*f.C:=cV _ Y;have e2:f.O*1<=f.O*f.C:=fS _ c1;omega
 have m1:(p:Int)*(f.M:Int)=(A1:Int):=by rw[<-R,cH]
 have m2:((A1:Int)+(i:Int))*(f.N:Int)=(A2:Int):=by rw[<-E,cH,en]
 have m3:(A2:Int)+(j:Int)=(PL:Int):=by rw[<-hPL,en]
 have m4:(i:Int)*(f.S:Int)=(B1:Int):=by rw[<-hB1,cH]
 have m5:(B1:Int)*(f.W:Int)=(B2:Int):=by rw[<-V,cH]
 have m6:(j:Int)*(f.S:Int)=(B3:Int):=by rw[<-hB3,cH]
 have m7:(B2:Int)+(B3:Int)=(CO:Int):=by rw[<-hCO,en]
 have m8:(p:Int)*(f.C:Int)=(X:Int):=by rw[<-F,cH]
 have agl:PL<=65536/\A2<=65536:=Y;have bB:B1<=f.H/\B3<=f.W/\CO<=131072:=Y;rw[show vI f=.agg #[f.O,f.C,f.K,f.L,f.H,f.W,f.M,f.N,f.S,f.L,m,z]from by rw[vI,r,y]];have xk:Z (f.place p i j=PL):=U (by rw[CF.place,R,E,hPL]);have HWT:Z (∀q t u,f.wt p q t u=(X+q)*m+t*f.L+u):=λq t u=>by rw[CF.wt,F,r]
 have Ei:Z (∀q t u,f.Wy i j q t u=q*z+CO+t*f.W+u):=λq t u=>by rw[CF.Wy,hB1,V,hB3,y,hCO]
 have HOW:Z (f.O*(f.C*m)<=65536):=U ay;have HOX:Z (f.C*z<=65536):=ay;change Z _ at r y F;refine callsIn_of_wp func263 rfl bq ?_;simp only[ntmps263,i9,fD,ja,Nat.reduceAdd,Nat.reduceSub,Array.replicate_succ,Array.replicate_zero,List.push_toArray,List.append_toArray,jN,uZ];gi_wp2;gi_loopw [46] (λv wr=>∃q:Nat,q<=f.C/\v=.int .i64 q/\J (b++f.qT p i j q) wr/\Bx wr w.1.size 327 #[f.O,f.C,f.K,f.L,f.H,f.W,f.M,f.N,f.S,f.L,m,z]/\dg n0 w wr) (λv _=>f.C-(intOf v).toNat);exact⟨0,aR _,rfl,by rw[show f.qT p i j 0=[]from rfl,ev];exact hh.o.1 _ _ _ h0 (eX _ _),am,dg.below (eX _ _)⟩;obtain⟨q,hq,rfl,P,hB,Q⟩:=hrel;by_cases hlq:q<f.C
 .obtain⟨D2,I⟩:=lh ((X+q)*m);obtain⟨E1,NI⟩:=lh (q*z);(have bDq:X+q<f.O*f.C:=by rw[<-F.o];exact lex_lt hp hlq);(have bD2:D2+m<=65536:=by have G:(X+q+1)*m<=f.O*f.C*m:=cV _ bDq;have e2:=HOW.o;rw[<-zV]at e2;rw[f7,I]at G;omega);(have bE1:E1<=65536:=by have G:q*z<=f.C*z:=cV _ hq;have e2:=HOX.o;omega);(have m9:((X:Int)+(q:Int))*(m:Int)=(D2:Int):=by rw[<-I,cH,en]);(have m10:(q:Int)*(z:Int)=(E1:Int):=by rw[<-NI,cH]);change Z _ at I NI;gi_wp2;gi_loopw [61] (λv wr=>∃t:Nat,t<=f.K/\v=.int .i64 t/\J (b++(f.qT p i j q++f.tT p i j q t)) wr/\Bx wr w.1.size 327 #[f.O,f.C,f.K,f.L,f.H,f.W,f.M,f.N,f.S,f.L,m,z]/\dg n0 w wr) (λv _=>f.K-(intOf v).toNat);exact⟨0,aR _,rfl,by rw[show f.tT p i j q 0=[]from rfl,ev];exact P,hB,Q⟩;obtain⟨t,ht,rfl,P,hB,Q⟩:=hrel;by_cases bD:t<f.K
  .obtain⟨E2,hE2⟩:=lh (t*f.W);obtain⟨F1,hF1⟩:=lh (t*f.L);obtain⟨FR,hFR⟩:=lh (E1+CO+E2);obtain⟨G1,hG1⟩:=lh (D2+F1);(have bE2:E2<=131072:=by have nC:=D.o.h i hi;have G:t*f.W<=f.H*f.W:=cV _ Y;rw[y.o]at G;omega);(have bF1:F1+f.L<=m:=by have G:(t+1)*f.L<=f.K*f.L:=cV _ bD;rw[f7,hF1,r.o]at G;exact G);(have m11:(t:Int)*(f.W:Int)=(E2:Int):=by rw[<-hE2,cH]);(have m12:(E1:Int)+(CO:Int)+(E2:Int)=(FR:Int):=by rw[<-hFR,en,en]);(have m13:(t:Int)*(f.L:Int)=(F1:Int):=by rw[<-hF1,cH]);(have JS:(D2:Int)+(F1:Int)=(G1:Int):=by rw[<-hG1,en]);have bFR:FR<=1000000:=Y;have bG1:G1+f.L<=65536:=Y;(have HX:Z (∀u,f.NH p i j q t u=(PL,G1+u,FR+u)):=λu=>by rw[CF.NH,xk.o,HWT.o,Ei.o,I.o,NI.o,hE2,hF1,hFR,hG1]);gi_wp2;gi_loopw [78] (λv wr=>∃u:Nat,u<=f.L/\v=.int .i64 u/\J (b++(f.qT p i j q++(f.tT p i j q t++f.uT p i j q t u))) wr/\Bx wr w.1.size 327 #[f.O,f.C,f.K,f.L,f.H,f.W,f.M,f.N,f.S,f.L,m,z]/\dg n0 w wr) (λv _=>f.L-(intOf v).toNat);exact⟨0,aR _,rfl,by rw[show f.uT p i j q t 0=[]from rfl,ev];exact P,hB,Q⟩;obtain⟨u,hu,rfl,P,hB,Q⟩:=hrel;by_cases hlu:u<f.L
   .have⟨B,hT0⟩:=hT.o;have⟨post,WH⟩:=JT hT0 hlq bD hlu;obtain⟨WT,hWT⟩:=lh (G1+u);obtain⟨FM,hFM⟩:=lh (FR+u);have hx:=HX.o u;rw[hWT,hFM]at hx;rw[hx]at WH;(have m15:(G1:Int)+(u:Int)=(WT:Int):=by rw[<-hWT,en]);(have SB:(FR:Int)+(u:Int)=(FM:Int):=by rw[<-hFM,en]);have bWT:WT<=65536:=Y;have bFM:FM<=2000000:=Y;have⟨fn,tmps,assign,body,hy,hR⟩:=hh.o.2.2 _ (PL,WT,FM) wr P ⟨post,WH⟩;simp only[vJ]at hy;change Z _ at hx WH;gi_wp2;refine hR.mono ?_;rintro e W' (⟨rfl,hJ',hk⟩|⟨rfl,aex⟩)
    .gi_wp2;go_roundw;exact⟨u+1,Y,by go_num,by rw[Wz,hx.o];simpa using hJ',⟨hk.ak hB.ak hn⟩,Q.trans hk⟩;exact zD9
    gi_wp2;go_ret;exact .inr ⟨rfl,_,⟨post,by rw[WH.o];simp⟩,aex⟩
   obtain rfl:u=f.L:=Y;gi_wp2;go_roundw;exact⟨t+1,Y,by go_num,by rw[WA];exact P,hB,Q⟩;exact zD9
  obtain rfl:t=f.K:=Y;gi_wp2;go_roundw;exact⟨q+1,Y,by go_num,by rw[WB];exact P,hB,Q⟩;exact zD9
 obtain rfl:q=f.C:=Y;gi_wp2;go_ret;exact .inl ⟨rfl,P,Q⟩
def aa8(T e:List gZ)(x:gZ):Prop:=∃b,T=e++x::b
def aa9(T e:List gZ):Prop:=∃b,T=e++b
def Bz(f)(r:Z (By f))(w):Wx prog 221 #[vI f] #[] vJ (aa8 f.all) (λxs=>xs=f.all) (aa9 f.all) w:=by
 intro l J Jx W hb hJ Q hY R;have HH:Z (WG prog l W.1.size f.all J Jx):=U ⟨hJ,Q,λu x W1 h1 h2=>hY u x W1 h1 h2⟩;have ow:=r.o.ow;have ox:=r.o.ox;have oy:=r.o.oy;have o1:=r.o.o1;have m1:=r.o.m1;have n1:=r.o.n1;have CB:=@az;obtain⟨I,T⟩:=lh (f.K*f.L);obtain⟨P,V⟩:=lh (f.H*f.W);have y:vI f=.agg #[f.O,f.C,f.K,f.L,f.H,f.W,f.M,f.N,f.S,f.L,I,P]:=by rw[vI,T,V]
 have bO:f.O<=65536/\f.M<=65536/\f.N<=65536:=by have e1:f.O*1<=f.O*(f.M*f.N):=fS _ (kY m1 n1);have e2:1*(f.M*f.N)<=f.O*(f.M*f.N):=cV _ o1;have e3:f.M*1<=f.M*f.N:=fS _ n1;have e4:1*f.N<=f.M*f.N:=cV _ m1;omega
 have CC:=U λp i j hp hi hj z hT w1 hn R=>JV f r p i j hp hi hj l W.1.size f.all z hT J Jx w1 HH hn R;rw[y]at CC;have X:=U y;refine callsIn_of_wp func221 rfl bq ?_;rw[X.o];simp only[ntmps221,i9,fD,ja,Nat.reduceAdd,Nat.reduceSub,Array.replicate_succ,Array.replicate_zero,List.push_toArray,List.append_toArray,jN,uZ];gi_wp2;gi_loopw [9] (λv wr=>∃p:Nat,p<=f.O/\v=.int .i64 p/\J (f.pT p) wr/\Bx wr W.1.size 327 #[f.O,f.C,f.K,f.L,f.H,f.W,f.M,f.N,f.S,f.L,I,P]) (λv _=>f.O-(intOf v).toNat);exact⟨0,aR _,rfl,hJ _ _ _ R (eX _ _),am⟩;obtain⟨p,hp,rfl,b,m⟩:=hrel;by_cases B:p<f.O
 .gi_wp2;gi_loopw [15] (λv wr=>∃i:Nat,i<=f.M/\v=.int .i64 i/\J (f.pT p++f.iT p i) wr/\Bx wr W.1.size 327 #[f.O,f.C,f.K,f.L,f.H,f.W,f.M,f.N,f.S,f.L,I,P]) (λv _=>f.M-(intOf v).toNat);exact⟨0,aR _,rfl,by rw[show f.iT p 0=[]from rfl,ev];exact b,m⟩;obtain⟨i,hi,rfl,b,m⟩:=hrel;by_cases D:i<f.M
  .gi_wp2;gi_loopw [21] (λv wr=>∃j:Nat,j<=f.N/\v=.int .i64 j/\J (f.pT p++(f.iT p i++f.jT p i j)) wr/\Bx wr W.1.size 327 #[f.O,f.C,f.K,f.L,f.H,f.W,f.M,f.N,f.S,f.L,I,P]) (λv _=>f.N-(intOf v).toNat);exact⟨0,aR _,rfl,by rw[show f.jT p i 0=[]from rfl,ev];exact b,m⟩;obtain⟨j,hj,rfl,b,m⟩:=hrel;by_cases E:j<f.N
   .have Ej:W.1.size<=wr.1.size:=eW m.ak.lt;have hs:=JU B D E;gi_wp2;refine⟨bq,(callsIn_wide.2 (callsIn_wide.1 (CC.o p i j B D E _ hs wr Ej b))).mono ?_⟩;rintro e W' (⟨rfl,hJ',hk⟩|⟨rfl,u,F,G⟩)
    .gi_wp2;go_roundw;exact⟨j+1,Y,by go_num,by rw[WC];simpa using hJ',⟨hk.ak m.ak (al _)⟩⟩;exact zD9
    gi_wp2;exact aZ (results_none rfl _ _ _) rfl<|⟨⟨_,rfl⟩,.inr ⟨u,F,G⟩⟩
   obtain rfl:j=f.N:=Y;gi_wp2;go_roundw;exact⟨i+1,Y,by go_num,by rw[WD];exact b,m⟩;exact zD9
  obtain rfl:i=f.M:=Y;gi_wp2;go_roundw;exact⟨p+1,Y,by go_num,by rw[WE];exact b,m⟩;exact zD9
 obtain rfl:p=f.O:=Y;gi_wp2;go_end0;exact⟨⟨_,rfl⟩,.inl ⟨_,rfl,b⟩⟩
section
variable{g:Nat}{P:Program}{T:TypeId}
def Own.setRow{w:ab}{g:Nat}{T:TypeId}{l:au}(h:Own w g T l)(b:au):Own (w.setRow g (ints b)) g T b:=by
 unfold Own at h⊢;simp[World.setRow,pC,h]
theorem me(w:ab)(g k:Nat)(cs:dw)(h:k≠g):(w.setRow g cs).heap[k]?=w.heap[k]?:=by
 simp only[World.setRow,pC];grind
def below_setRow{B:Nat}{a w:ab}(h:Below B a w)(hg:B<=g)(cs:dw):Below B a (w.setRow g cs):=
 h.trans ⟨rfl,rfl,rfl,by simp[World.setRow],λk b=>me _ _ _ _ Y⟩
def over(l zs:au)(o:Nat):List Int:=l.take o++zs++l.drop (o+zs.length)
theorem fH(u y B m:TypeId)(hu:P.underlying u=some (.slice m))(hs:(P.info? m).map (·.size)=some 1)
  {w:ab}   {l:au} (C:Own w g T l) {oa o dLen dCap sLen sCap:Nat} (h:Rd w (some ⟨b,oa,none⟩) zs) (D:zs.length=Nat.min sLen dLen) (r:o+zs.length<=l.length):
  (Builtin.copy_ #[u,y] B #[.slice (some ⟨g,o,none⟩) dLen dCap,.slice (some ⟨b,oa,none⟩) sLen sCap]).run P w=.ok (.int .i64 zs.length) (w.setRow g (ints (over l zs o))):=by
 have:=run_copy_row (P:=P) w u y B m g o dLen dCap ⟨b,oa,none⟩ sLen sCap (ints l) T (zs.map (Value.int .i64)) hu hs C (by simpa using D) (λj v hv=>by
  rw[bo]at hv;obtain⟨z,E,rfl⟩:=bJ.1 hv;have:=h.all E;unfold Addr.add
  grind) (by simpa[At]using r) (by simp[Value.oneCell'])
 rw[this];have e:((ints l).toList.take o++zs.map (Value.int .i64)++(ints l).toList.drop (o+(zs.map (Value.int .i64)).length)).toArray=ints (over l zs o):=by simp[ints,over]
 rw[e];simp[goInt]
end
