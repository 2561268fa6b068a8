/- Lemmas. -/
import Derived.Test.YtmkjnlifimffkaaGreatS02
import Derived.Lib.MinMax
import Derived.StillTailTactics
namespace Go.Proofs.YtmkjnlifimffkaaGreat
open Go.RowKit Tryz
set_option linter.all false
set_option maxRecDepth 100000
set_option maxHeartbeats 0
variable{Γ:Prop}
section
variable{P:Program}{w:World}{ops:Array Oper}{a:Act}{Q:Exit->Act->World->Prop}
def xi{rest:List Oper}{o:Oper}(K:o.guard=none)(s x:Operand)(t:TypeId)
  (S:o.op=.call {callee:=.builtin .append,args:= #[s,x],argTypes:= #[t,t]}) (E:TypeId) (ht:P.underlying t=some (.slice E))
  (r:(P.info? E).map (λi=>(i.zero,i.size,i.bytes))=some (some (.int .i64 0),1,8))
  (B:Nat) (A:bF) (c:Nat) (zs:au) (hs:a.eval s=.slice A zs c) (m:aB w B E A c zs) (F:Addr) (cc:Nat) (l:au)
  (T:a.eval x=.slice (some F) l cc) (L:Rd w (some F) l) (O:zs.length+l.length<=1000000000) (U:B<=w.1.size)
  (h:∀G I w',aB w' B E G I (zs++l)->Below B w w'->(∀k,k<w.1.size->(∀F,A=some F->F.block≠k)->w'.heap[k]?=w.heap[k]?)->w.1.size<=w'.1.size->
   wpList P ops Q rest (a.put o.dst (.slice G (zs++l).length I)) w'):
  wpList P ops Q (o::rest) a w:=by
 have⟨i,hi,eZ⟩:=bt.1 r;simp only[eP]at eZ;have⟨hJ,hH,jM⟩:=eZ
 refine tK w K s x t S B E i an 1 8 ht hi hJ hH jM rfl am _ _ _ hs m F l.length cc (l.map (Value.int .i64)) T aD
  (λj u hu=>?_) (by simp[Value.oneCell']) (by unfold maxLen;omega) om U ?_
 .rw[bf]at hu;obtain⟨y,V,rfl⟩:=bt.1 hu;have⟨b,off,e,_,hc⟩:=L j y V;cases e;unfold Addr.add;split;rename_i e;subst e;exact hc;exact hc
 intro X w' z hg R _;have M:(zs++l).length=zs.length+l.length:=aD;obtain⟨G,I,rfl⟩:∃G I,X=.slice G (zs++l).length I:=by rcases z.2 with⟨hv,Y⟩|⟨g,cap,Z,hv,_⟩;exact⟨none,0,by rw[hv,M,Y]⟩;exact⟨_,cap,by rw[M];exact hv⟩
 refine h _ _ _ ?_ ?_ ?_ hg.size;unfold aB;rw[c9];rw[M]at z⊢;exact z;refine(aV B w).grown hg om ?_;intro k J;have:Value.ownBlock (.slice A zs c)=A.map (·.block):=by cases A<;>rfl
 rw[this]at J;obtain⟨C,D,rfl⟩:=bt.1 J;exact m.fresh C D;intro k J N;refine hg.block k J ?_;have:Value.ownBlock (.slice A zs c)=A.map (·.block):=by cases A<;>rfl
 rw[this];intro e;obtain⟨C,D,rfl⟩:=bt.1 e.symm;exact N C D rfl
def h1{t:TypeId}(hs:(P.info? (P.elem t)).map (·.size)=some 1)(w):(sizeOf (P.elem t)).run P w=.ok 1 w:=by
 have⟨i,hi,e⟩:=bt.1 hs;simp[sizeOf,typeInfo,hi,e]
section
variable(t:TypeId)(ht:P.underlying t=some (.slice (P.elem t)))(hs:(P.info? (P.elem t)).map (·.size)=some 1)
include ht hs
def qB(A:bF)(l c k:Nat)(i:Int)(hi:i=(k:Int))(C:k<=l)(y:l<=c):
  ∃m,(∀w,(Instr.slice t (A,l,c) (some (.int .i64 i)) none none).run P w=.ok (.slice m (l-k) (c-k)) w)/\(∀w zs,zs.length=l->Rd w A zs->Rd w m (zs.drop k)):=by
 subst hi;refine⟨if c=k then A else A.map (·.add k),λw=>?_,λw zs D h j z e=>?_⟩;rw[dN w t A l c ht .i64 k om om,h1 hs];simp[Result.andThen,sliced];rw[fb]at e;obtain⟨b,off,rfl,hb,r⟩:=h _ z e;have B:=(a8.1 e).1;rw[ag om];by_cases u:k=0;subst u;exact⟨b,off,by simp[Addr.add],hb,by simpa using r⟩;exact⟨b,off+k,by simp[Addr.add,u],hb,by rw[lM];exact r⟩
def OK(A:bF)(l c k:Nat)(i:Int)(hi:i=(k:Int))(r:k<=l)(m:l<=c):
  ∃e,(∀w,(Instr.slice t (A,l,c) none (some (.int .i64 i)) none).run P w=.ok (.slice e k c) w)/\(∀w zs,zs.length=l->Rd w A zs->Rd w e (zs.take k)):=by
 subst hi;refine⟨A,λw=>?_,λw zs u h j z b=>?_⟩;rw[lU w t A l c ht .i64 k om om,h1 hs];cases A<;>simp[Result.andThen,sliced,Addr.add];rw[eG]at b;split at b;exact h j z b;cases b
def qC(A:bF)(l c k m:Nat)(i j:Int)(hi:i=(k:Int))(e:j=(m:Int))(D:k<=m)(hm:m<=l)(B:l<=c):
  ∃r,(∀w,(Instr.slice t (A,l,c) (some (.int .i64 i)) (some (.int .i64 j)) none).run P w=.ok (.slice r (m-k) (c-k)) w)/\(∀w zs,zs.length=l->Rd w A zs->Rd w r ((zs.drop k).take (m-k))):=by
 subst hi e;refine⟨if c=k then A else A.map (·.add k),λw=>?_,λw zs E h j z e=>?_⟩;rw[kJ w t A l c ht .i64 .i64 k m om om om,h1 hs];simp[Result.andThen,sliced];rw[eG]at e;split at e;rw[fb]at e;obtain⟨b,off,rfl,hb,u⟩:=h _ z e;have C:=(a8.1 e).1;rw[ag om];by_cases y:k=0;subst y;exact⟨b,off,by simp[Addr.add],hb,by simpa using u⟩;exact⟨b,off+k,by simp[Addr.add,y],hb,by rw[lM];exact u⟩;cases e
end
def vp(w)(base)(t l e)(i:TypeInfo)(size)(ht:P.underlying t=some (.slice e))(hi:P.info? e=some i)
  (v) (n) (xs) (b:w.ownsRow base e size v n xs) (c):(Builtin.append_ #[t,t] l #[v,.slice none 0 c]).run P w=.ok v w:=by
 rcases b.2 with⟨rfl,rfl⟩|⟨g,cap,m,rfl,_,_,j,_⟩;simp[Builtin.append_,gF ht,sizeOf,typeInfo,hi,Builtin.lenOf,Builtin.firstCells];simp[Builtin.append_,gF ht,sizeOf,typeInfo,hi,Builtin.lenOf,Builtin.firstCells,j,storeCells]
def qa{rest:List Oper}{o:Oper}(r:o.guard=none)(s x:Operand)(t:TypeId)
  (G:o.op=.call {callee:=.builtin .append,args:= #[s,x],argTypes:= #[t,t]}) (E:TypeId) (ht:P.underlying t=some (.slice E))
  (j:(P.info? E).map (λi=>(i.zero,i.size,i.bytes))=some (some (.int .i64 0),1,8))
  (B:Nat) (A:bF) (c:Nat) (zs:au) (hs:a.eval s=.slice A zs c) (l:aB w B E A c zs) (D:bF) (I cc:Nat) (m:au) (F:m.length=I)
  (J:a.eval x=.slice D I cc) (u:Rd w D m) (z:zs.length+m.length<=1000000000) (N:B<=w.1.size)
  (h:∀L M w',aB w' B E L M (zs++m)->Below B w w'->(∀k,k<w.1.size->(∀C,A=some C->C.block≠k)->w'.heap[k]?=w.heap[k]?)->w.1.size<=w'.1.size->
   wpList P ops Q rest (a.put o.dst (.slice L (zs++m).length M)) w'):
  wpList P ops Q (o::rest) a w:=by
 subst F;cases D with
 |some C=>exact xi r s x t G E ht j B A c zs hs l C cc m J u z N h
 |none=>
  have O:m=[]:=by
   cases m with
   |nil=>rfl
   |cons y m=>obtain⟨b,off,e,_⟩:=u 0 y rfl;cases e
  subst O;have⟨i,hi,_⟩:=bt.1 j;refine wpList_plain r λK hK=>?_;have hr:=vp w B t o.type E i 1 ht hi _ _ _ l cc;unfold Oper.wp execOp;simp only[G,resolve,invoke,builtin,x8,xZ,xR,xO,di,jz,hs,J,iW,hr];have:=h A c w (by simpa using l) (aV _ _) (λ_ _ _=>rfl) (al _);rw[en]at this;exact hK _ _ this
end
section
variable{w w':World}{A:Option Addr}{b b' c f n:Nat}{O V xs zs:List Int}{E z:Int}{T:TypeId}{P:Program}{args:Array Value}
structure bG(B:Nat)(A:Option Addr):Prop where
 o:∀ad,A=some ad->B<=ad.block
def bG.none:bG b none:=⟨λ_ h=>by cases h⟩
def bG.less(h:bG b A)(hb:b'<=b):bG b' A:=⟨λj e=>aL hb (h.o j e)⟩
def aB.fre(h:aB w b T A c zs):bG b A:=⟨h.fresh⟩
theorem Sl.setCell{p:Addr}(h:Sl w A n zs)(f:bG b A)(hp:p.block<b)(v):Sl (w.setCell p v) A n zs:=
 ⟨λj z l=>by
  have⟨k,off,e,hb,hc⟩:=h.rd j z l;refine⟨k,off,e,by simpa using hb,?_⟩;rw[<-hc];have:=f.o _ e;exact d9 (ba w p v k (by simp only at this;omega)),h.len⟩
theorem Sl.bA{p:Nat}(h:Sl w A n zs)(f:bG b A)(hp:p<b)(v0 e):Sl ((w.setCell (p,0) v0).setCell (p,1) e) A n zs:=
 (h.setCell (p:=⟨p,0,none⟩) f hp v0).setCell (p:=⟨p,1,none⟩) f hp e
def dK(w:aa)(zs xs:au)(E:Int)(e:Ending)(w':aa):Prop:=
 ∃A c B d,e=.returned (.tuple #[.agg #[.slice A zs c,.slice B xs d],E])/\Sl w' A zs zs/\Sl w' B xs xs/\Le zs.length c/\Le xs.length d/\bG w.1.size A/\bG w.1.size B/\aj w' w
def sR(h:Calls P f args w (fH w zs xs E)):Calls P f args w (dK w zs xs E):=
 h.mono λ_ _ ⟨A,c,B,d,l,e,j,hb⟩=>⟨A,c,B,d,l,⟨e.rd,rfl⟩,⟨j.rd,rfl⟩,⟨e.ii⟩,⟨j.ii⟩,⟨e.fresh⟩,⟨j.fresh⟩,⟨hb⟩⟩
def OL(h:Calls P f args w (dK w zs xs E))(e:zs=V)(j:xs=O)(hE:E=z):Calls P f args w (dK w V O z):=by
 subst e j hE;exact h
def jP(w:aa)(zs:au)(E:Int)(e:Ending)(w':aa):Prop:=
 ∃A c,e=.returned (.tuple #[.slice A zs c,E])/\Sl w' A zs zs/\Le zs.length c/\bG w.1.size A/\aj w' w
def SC(h:Calls P f args w (g9 w zs E)):Calls P f args w (jP w zs E):=
 h.mono λ_ _ ⟨A,c,e,j,hb,l,m⟩=>⟨A,c,e,⟨j,rfl⟩,⟨m⟩,⟨l⟩,⟨hb⟩⟩
def aaz(w:aa)(zs:au)(e:Ending)(w':aa):Prop:=
 ∃g,e=.returned (.slice (some ⟨g,0,none⟩) zs zs.length)/\Sl w' (some ⟨g,0,none⟩) zs zs/\bG w.1.size (some ⟨g,0,none⟩)/\aj w' w
def k3[a:Sl w A n zs](j:n<=1000000):() 103 #[(A,n,c)] w (aaz w zs):=by
 obtain⟨a,rfl⟩:=a;exact(mj A c zs w j a).mono λ_ _ ⟨g,l,hg,m,hb⟩=>⟨g,l,⟨m.rd,rfl⟩,⟨λr e=>by cases e;exact hg⟩,⟨hb⟩⟩
end
section
variable{P:Program}{args:Array Value}{w:World}{n:Nat}{v:Value}
def Ng{f:FuncId}
  (h:Calls P f args (w.drewN n) λe w'=>e=.returned v/\w.drewN n=w'):Calls P f args (w.drewN n) λe b=>e=.returned v/\∃m,b=w.drewN m:=
 h.mono λ_ _ ⟨j,hm⟩=>⟨j,n,hm.symm⟩
def Nh{f:FuncId}{a:Nat}
  (h:Calls P f args (w.drewN (a+n)) λe w'=>e=.returned v/\w.drewN (a+n)=w'):Calls P f args (w.drewN (a+n)) λe b=>e=.returned v/\∃m,b=w.drewN (a+m):=
 h.mono λ_ _ ⟨j,hm⟩=>⟨j,n,hm.symm⟩
def uk(l:List (Int×Int)):Int:=l.foldl (λs p=>bQ s (bN p.1 p.2)) 0
def zn(l:List (Int×Int))(x y:Int):uk (l++[(x,y)])=bQ (uk l) (bN x y):=by simp[uk]
def zo(l:List (Int×Int)):bb (uk l):=by
 rcases List.eq_nil_or_concat l with rfl|⟨m,x,rfl⟩;exact⟨am,am⟩;rw[List.concat_eq_append,zn];exact hW _ _
def wJ(w:aa)(n:Int)(e:Ending)(w':aa):Prop:=e=.returned n/\∃m,w'=w.drewN m
def SD(A B:bF)(c d:Nat)(xs j:au)(w:aa)(hs:xs.length<=1000000)(_hs':j.length<=1000000)(F:Hx (∀z∈xs,bb z))(G:Hx (∀z∈j,bb z))(h:Rd w A xs)(I:Rd w B j):
  () 210 #[.slice A xs c,.slice B j d] w (wJ w (uk (xs.zip j))):=by
 obtain⟨N,hN⟩:∃N:Nat,Hx (min xs.length j.length=N):=⟨_,ae rfl⟩;have Q:min (xs.length:Int) (j.length:Int)=(N:Int):=by have:=hN.o;omega
 have J:N<=xs.length:=by have:=hN.o;omega
 have K:N<=j.length:=by have:=hN.o;omega
 have L:Hx ((xs.zip j).length=N):=ae (by rw[List.length_zip];exact hN.o);go_in;go_wp2;go_loopw [5,12] (λs i wr=>∃k m:Nat,k<=N/\i=.int .i64 k/\s=.int .i64 (uk ((xs.zip j).take k))/\wr=w.drewN m) (λ_ i _=>N-(intOf i).toNat);exact⟨0,0,aM _,rfl,rfl,rfl⟩;obtain⟨k,m,R,rfl,rfl,rfl⟩:=hrel;by_cases M:k<N
 .obtain⟨b,off,x,rfl,hb,S,u⟩:=h.get (k:=k) om;obtain⟨T,E,y,rfl,O,P,C⟩:=I.get (k:=k) om;have l:=F.o x (aC u.o);have r:=G.o y (aC C.o);have D:Hx ((xs.zip j)[k]?=some (x,y)):=ae (by rw[WP];exact⟨u.o,C.o⟩);have l1:k<xs.length:=om;have U:k<j.length:=om;go_wp2;go_big_quiet ((first|(go_at_call 170;exact Ng (qw x y _ l r))|(go_at_call 170;exact Nh (qw x y _ l r))|(go_at_call 171;exact Ng (mm _ _ _ (zo _) (hT l r)))|(go_at_call 171;exact Nh (mm _ _ _ (zo _) (hT l r)))));go_wp2;go_roundw;exact⟨k+1,_,om,by go_num,by rw[take_at D.o,zn],rfl⟩;simp[intOf];omega
 have e:Hx ((xs.zip j).take k=xs.zip j):=bY (by rw[L.o];omega);go_wp2;go_ret;exact⟨bC (by rw[e.o]),_,rfl⟩
end
section
variable{P:Program}{args:Array Value}{w:World}{v:Value}{V xs zs:List Int}{k:Nat}{x y:Int}
def qD{f:FuncId}(h:Calls P f args w λe w'=>e=.returned v/\w=w'):Calls P f args w λe w'=>e=.returned v/\w'=w:=
 h.mono λ_ _ ⟨b,j⟩=>⟨b,j.symm⟩
def cR(zs xs ts b:au):Bool:=ap zs xs&&ap ts b&&decide (zs=ts)
def Hz(A B C D:bF)(c d l d':Nat)(zs xs ts b:au)(w:aa)(G:zs.length<=1000000)(ht:ts.length<=1000000)
  (I:Rd w A zs) (J:Rd w C ts):
  () 183 #[.agg #[.slice A zs c,.slice B xs d],.agg #[.slice C ts l,.slice D b d']] w (ov w (.bool (cR zs xs ts b))):=by
 have r:=((aV w.1.size w).alloc (al _) (.cells #[.slice A zs c,.slice B xs d] 28)).alloc aD (.cells #[.slice C ts l,.slice D b d'] 28);have k0:=(az.new w 28 #[.slice A zs c,.slice B xs d]).alloc (.cells #[.slice C ts l,.slice D b d'] 28);have u:=az.ew (w.alloc (.cells #[.slice A zs c,.slice B xs d] 28)) 28 #[.slice C ts l,.slice D b d'] (n:=w.1.size+1) aD;rcases hr:ap zs xs with _|_
 .have y:=ae hr;have z:Hx (cR zs xs ts b=false):=ae (by simp[cR,hr]);go_in;go_wp2_with fail;refine(eJ A B c d zs xs _ G (I.below r)).mono ?_;rintro e L ⟨rfl,hb⟩;rw[y.o];go_wp2;go_ret;exact⟨bU z.o.symm,du r hb⟩
 rcases nX:ap ts b with _|_
 .have y:=ae hr;have m:=ae nX;have z:Hx (cR zs xs ts b=false):=ae (by simp[cR,nX]);go_in;go_wp2_with fail;refine(eJ A B c d zs xs _ G (I.below r)).mono ?_;rintro e L ⟨rfl,hb⟩;rw[y.o];have E:=du r hb;have⟨q0,q1⟩:=bI (u.keep hb);go_wp2_with fail;refine(eJ C D l d' ts b _ ht (J.below E)).mono ?_;rintro e M ⟨rfl,j⟩;rw[m.o];go_wp2;go_ret;exact⟨bU z.o.symm,du E j⟩
 have y:=ae hr;have m:=ae nX;have z:Hx (cR zs xs ts b=decide (zs=ts)):=ae (by simp[cR,hr,nX]);go_in;go_wp2_with fail;refine(eJ A B c d zs xs _ G (I.below r)).mono ?_;rintro e L ⟨rfl,hb⟩;rw[y.o];have E:=du r hb;have k1:=k0.keep hb;have F:=u.keep hb;have⟨q0,q1⟩:=bI F;go_wp2_with fail;refine(eJ C D l d' ts b _ ht (J.below E)).mono ?_;rintro e M ⟨rfl,j⟩;rw[m.o];have K:=du E j;have⟨p0,p1⟩:=bI (k1.keep j);have⟨q0,q1⟩:=bI (F.keep j);go_wp2_with fail;refine(l7 A C c l zs ts _ G ht (I.below K) (J.below K)).mono ?_;rintro e w3 ⟨rfl,n,rfl⟩;go_wp2;go_ret;exact⟨bU z.o.symm,below_drewN K n⟩
def mw(xs b:au)(k:Nat):List Int:=(xs.take k).zipWith bQ (b.take k)++xs.drop k
def OM(e:xs.length=V.length)(b:xs[k]?=some x):(mw xs V k)[k]?=some x:=by
 have⟨hk,_⟩:=a8.1 b;rw[mw,eE cr];simp only[yi,bO,fb];rw[show k+(k-min (min k xs.length) (min k V.length))=k from om];exact b
def Kv(l:xs.length=V.length)(b:xs[k]?=some x)(e:V[k]?=some y):(mw xs V k).set k (bQ x y)=mw xs V (k+1):=by
 have⟨hk,_⟩:=a8.1 b;have j:((xs.take k).zipWith bQ (V.take k)).length=k:=by simp;omega
 rw[mw,lA _ _ om,j,fe,yO b,iS,mw,take_at b,take_at e,List.zipWith_append cr];simp
def Kw(b:xs.length=V.length)(e:¬k<xs.length):mw xs V k=xs.zipWith bQ V:=by
 rw[mw,bY om,bY om,eF om,en]
def Kx{ts:au}(h:cR zs xs ts V=true):zs=ts/\xs.length=V.length/\ap zs xs=true/\ap ts V=true/\xs.length<=65536/\zs.length<=4:=by
 simp only[cR,bK,bZ]at h;have⟨⟨h1,h2⟩,h3⟩:=h;have b:=(aN _ _).1 h1;have e:=(aN _ _).1 h2;subst h3;have⟨n,hn,_,hn6⟩:=cP b.1;exact⟨rfl,om,h1,h2,om,((a2 zs).1 b.1).2.1⟩
def ON(A B C D:bF)(c d j d':Nat)(zs xs ts b:au)(w:aa)(m:zs.length<=1000000)(ht:ts.length<=1000000)
  (r:Rd w A zs) (u:Rd w C ts) (hr:Hx (cR zs xs ts b=false)):
  () 115 #[.agg #[.slice A zs c,.slice B xs d],.agg #[.slice C ts j,.slice D b d']] w (fH w [] [] 20):=by
 have l:=(((aV w.1.size w).alloc (al _) (.cells #[.slice A zs c,.slice B xs d] 28)).alloc aD (.cells #[.slice C ts j,.slice D b d'] 28)).alloc cr (.cells #[(),()] 28);have k0:=az.ew ((w.alloc (.cells #[.slice A zs c,.slice B xs d] 28)).alloc (.cells #[.slice C ts j,.slice D b d'] 28)) 28 #[(),()] (n:=w.1.size+1+1) aD;go_in;go_wp2_with fail;refine(Hz A B C D c d j d' zs xs ts b _ m ht (r.below l) (u.below l)).mono ?_;rintro e F ⟨rfl,hb⟩;rw[hr.o];have k1:=k0.keep hb;have y:=du l hb;have⟨q0,q1⟩:=bI k1;have G:=k1.frozen 0;have f1:=k1.frozen 1;go_wp2;have z:=k1.bP () ();have E:=br y (p:=w.1.size+1+1) om () ();have⟨q0,q1⟩:=bI z;refine aX (v:=.tuple #[.agg #[(),()],(20:Int)]) (by simp[results,results115,go_sem,q0,q1]) rfl ?_;exact fH.no rfl rfl E _ rfl
def zp(A B C D:bF)(c d J d':Nat)(zs xs ts j:au)(w:aa)
  (Z:Rd w A zs) (h2:Rd w B xs) (h3:Rd w C ts) (h4:Rd w D j) (hx:Hx (∀z∈xs,bb z)) (hy:Hx (∀z∈j,bb z)) (hr:Hx (cR zs xs ts j=true)):
  () 115 #[.agg #[.slice A zs c,.slice B xs d],.agg #[.slice C ts J,.slice D j d']] w (fH w zs (xs.zipWith bQ j) 0):=by
 obtain⟨M,hl,_,_,zq,T⟩:=Kx hr.o;have K:=ae hl;have ht4:ts.length<=4:=by rw[<-M];exact T
 clear hl M;have U:=(((aV w.1.size w).alloc (al _) (.cells #[.slice A zs c,.slice B xs d] 28)).alloc aD (.cells #[.slice C ts J,.slice D j d'] 28)).alloc cr (.cells #[(),()] 28);have k0:=az.ew ((w.alloc (.cells #[.slice A zs c,.slice B xs d] 28)).alloc (.cells #[.slice C ts J,.slice D j d'] 28)) 28 #[(),()] (n:=w.1.size+1+1) aD;have m0:=((az.new w 28 #[.slice A zs c,.slice B xs d]).alloc (.cells #[.slice C ts J,.slice D j d'] 28)).alloc (.cells #[(),()] 28);have n0:=(az.ew (w.alloc (.cells #[.slice A zs c,.slice B xs d] 28)) 28 #[.slice C ts J,.slice D j d'] (n:=w.1.size+1) aD).alloc (.cells #[(),()] 28);go_in;go_wp2_with fail;refine(Hz A B C D c d J d' zs xs ts j _ om om (Z.below U) (h3.below U)).mono ?_;rintro e w1 ⟨rfl,hb⟩;rw[hr.o];have k1:=k0.keep hb;have m1:=m0.keep hb;have n1:=n0.keep hb;have S:=du U hb;obtain⟨q0,L⟩:=bI m1;clear k0 m0 n0;go_wp2_with fail;refine(pg A B c d zs xs _ om om (Z.below S) (h2.below S)).mono ?_;rintro e w2 ⟨g,l,rfl,hg,zr,ho,V,F⟩;have k2:=k1.keep F;have n2:=n1.keep F;have B2:=du S F;have adx:=S.size;have N:=B2.size;clear q0 L m1 k1 n1;obtain⟨q0,L⟩:=bI (n2.alloc (.cells #[.slice g zs zs.length,.slice l xs xs.length] 28));go_wp2_with fail;go_loopw [19] (λi wr=>∃k:Nat,k<=j.length/\i=.int .i64 k/\Own wr g 3 zs/\Own wr l 65 (mw xs j k)/\az wr (w.1.size+1+1) 28 #[(),()]/\az wr w2.1.size 28 #[.slice g zs zs.length,.slice l xs xs.length]/\Below w.1.size w wr) (λi _=>j.length-(intOf i).toNat);case atStart=>exact⟨0,aM _,rfl,ho.alloc _,by simpa[mw]using V.alloc _,k2.alloc _,az.new _ _ _,B2.alloc N _⟩
 case round=>
  clear q0 L;obtain⟨k,hk,rfl,o1,r,u,mb,m⟩:=hrel;by_cases G:k<j.length
  .have O:k<xs.length:=by rw[K.o];exact G
   obtain⟨b,off,y,rfl,hbb,hcy,P⟩:=(h4.below m).get G;obtain⟨x,I⟩:∃x,Hx (xs[k]?=some x):=⟨_,ae (a5 O)⟩;have hcx:=r.cell (OM K I.o);have hfx:=r.frozen k;have X:=hx.o x (aC I.o);have Y:=hy.o y (aC P.o);have Q:=ae (r.av k (bQ x y)).drew;rw[Kv K.o I.o P.o]at Q;have O1:=(o1.aY (p:=⟨l,k,none⟩) (o1.aH (cs:=ints (mw xs j k)) (T':=65) r am) (bQ x y:Int)).drew;have KB:=(u.aY (p:=⟨l,k,none⟩) (r.aH u am).symm (bQ x y:Int)).drew;have MB:=(mb.aY (p:=⟨l,k,none⟩) (r.aH mb am).symm (bQ x y:Int)).drew;have HB:=(m.setCell (p:=⟨l,k,none⟩) (by show w.1.size<=l;omega) (bQ x y:Int)).drew;have⟨p0,p1⟩:=bI mb;have CA:=ae (qD (mm x y wr.drew X Y));go_wp2;refine wp_region_still_tail 11 ao ao ?_;change wpStill _ _ (wr).drew _ _ _;simp only[fX,dW,iB,fo];(iterate 9 still_step);still_call CA;(repeat still_step);refine gG ?_;go_wp2;go_roundw;exact⟨k+1,om,by go_num,O1,Q,KB,MB,HB⟩;simp[intOf];omega
  rw[Kw K.o (by rw[K.o];exact G)]at r;have Q:=ae r;have⟨p0,p1⟩:=bI mb;have⟨q0,L⟩:=bI u;have f0:=u.frozen 0;have f1:=u.frozen 1;have l1:=o1.aH u am;have l2:=Q.o.aH u am;(have R:(xs.zipWith bQ j).length=xs.length:=by have:=K.o;simp;omega);have E:=ae R;go_wp2;have k3:=u.bP (.slice g zs zs.length) (.slice l xs xs.length);have B3:=br m (p:=w.1.size+1+1) om (.slice g zs zs.length) (.slice l xs xs.length);have o3:=o1.bA l1 (.slice g zs zs.length) (.slice l xs xs.length);have o4:=Q.o.bA l2 (.slice g zs zs.length) (.slice l xs xs.length);obtain⟨q0,L⟩:=bI k3;refine aX (v:=.tuple #[.agg #[.slice g zs zs.length,.slice l xs xs.length],an]) (by simp[results,results115,go_sem,q0,L]) rfl ?_;exact fH.yes om om om (by rw[E.o];omega) o3 o4 B3 _ (by rw[E.o])
end
variable{xs zs:List Int}
def fu(h:ap zs xs=true):xs.length<=65536/\zs.length<=4:=by
 have b:=(aN _ _).1 h;have⟨n,hn,_,hn6⟩:=cP b.1;exact⟨om,((a2 zs).1 b.1).2.1⟩
variable{n:Nat}{x z:Int}
def cB(row lo len:Nat)(xs:au)(n:Nat):List Int:=(List.range n).flatMap λj=>(xs.drop (j*row+lo)).take len
def my(row lo len)(xs)(n):cB row lo len xs (n+1)=cB row lo len xs n++(xs.drop (n*row+lo)).take len:=by
 simp[cB,g5,jG]
def kr{row lo len:Nat}(h:n*row<=xs.length)(j:lo+len<=row):(cB row lo len xs n).length=n*len:=by
 induction n with
 |zero=>simp[cB]
 |succ n b=>have e:(n+1)*row=n*row+row:=d5 n row;rw[my,bh,b om];simp only[bO,eo];rw[d5];omega
def n8{row lo len:Nat}(h:z∈cB row lo len xs n):z∈xs:=by
 simp only[cB,jI]at h;have⟨j,_,hz⟩:=h;exact dA (cE hz)
def iq(b:zs[n]?=some z):ax zs=ax (zs.take n)*(z*ax (zs.drop (n+1))):=by
 have e:zs=zs.take n++(z::zs.drop (n+1)):=by rw[<-yO b,dC]
 conv=>lhs;rw[e];rw[nV,wA]
def k4(h:1<=x):∃n:Nat,x=(n:Int)/\1<=n:=⟨x.toNat,om,om⟩
def mz(e:ct zs=true)(j:zs[n]?=some z):
  ∃P Z I:Nat,ax (zs.take n)=(P:Int)/\z=(Z:Int)/\ax (zs.drop (n+1))=(I:Int)/\1<=P/\1<=Z/\1<=I/\ax zs=((P*(Z*I):Nat):Int):=by
 have hp:∀y∈zs,1<=y:=λy b=>(b0 e b).1;have⟨P,hP,Ca⟩:=k4 (i5 (l:=zs.take n) λy b=>hp y (cE b));have⟨I,hI,Ky⟩:=k4 (i5 (l:=zs.drop (n+1)) λy b=>hp y (dA b));have⟨Z,hZ,Kz⟩:=k4 (hp z (aC j));refine⟨P,Z,I,hP,hZ,hI,Ca,Kz,Ky,?_⟩;rw[iq j,hP,hI,hZ];simp[b8]
def px(h:ct zs=true)(n){v:Int}(b:1<=v)(e:v<=1024):ct (zs.set n v)=true:=by
 refine dz.2 λy j=>?_;rcases hA j with hm|rfl;exact dz.1 h y hm;simp[b,e]
def py(v)(b:n<zs.length):ax (zs.set n v)=ax (zs.take n)*(v*ax (zs.drop (n+1))):=by
 have e:(zs.set n v)[n]?=some v:=by rw[fF b]
 rw[iq e,rA (al n),yl,ah om]
section
variable{P:Program}
def Ni(A:bF)(c:Nat)(zs:au)(w:aa)(y:zs.length<=4)(j:Hx (ct zs=true))(h:Rd w A zs):
  () 223 #[.slice A zs c] w λe w'=>e=.returned (ax zs:Int)/\w=w':=by
 go_in;go_wp2_with fail;go_loop [3,8] (λn i=>∃k:Nat,k<=zs.length/\i=.int .i64 k/\n=.int .i64 (ax (zs.take k))) (λ_ i=>zs.length-(intOf i).toNat);case atStart=>exact⟨0,aM _,rfl,rfl⟩
 case round=>
  obtain⟨k,B,rfl,rfl⟩:=hrel;obtain⟨l,m⟩:=mg zs j y k;by_cases r:k<zs.length
  .obtain⟨b,off,z,rfl,hb,C,u⟩:=h.get r;have⟨hH,jM⟩:=dH j u.o;have⟨k8,HD⟩:=lV l m hH jM;go_wp2;go_round;(case rel=>exact⟨k+1,om,by go_num,by rw[take_at u.o,jg]⟩);case measure=>exact nT
  have e:Hx (zs.take k=zs):=bY om;go_wp2;go_ret;exact⟨bC (by rw[e.o]),rfl⟩
def aaA(w:aa)(zs:au)(e:Ending)(w':aa):Prop:=
 ∃g,e=.returned (.tuple #[.slice (some ⟨g,0,none⟩) zs zs.length,an])/\w.1.size<=g/\Own w' g 3 zs/\Below w.1.size w w'
def HA(A:bF)(c:Nat)(zs:au)(n:Nat)(z a b:Int)(w:aa)(hs:zs.length<=1000000)(hr:Hx (aA zs=true))(j:Hx (zs[n]?=some z))(O:0<=a)(C:a<b)(D:b<=z)(h:Rd w A zs):
  () 129 #[.slice A zs c,n,a,b] w (aaA w (zs.set n (b-a))):=by
 obtain⟨r1,P,u,E⟩:=(a2 zs).1 hr;have F:n<zs.length:=(a8.1 j).1;obtain⟨Q,off,G,rfl,I,R,y⟩:=h.get F;obtain rfl:z=G:=by have:=j.o.symm.trans y.o;injection this
 have⟨hH,jM⟩:=dH u j;go_in;go_wp2_with fail;refine(dq _ c zs w hs h).mono ?_;rintro e J ⟨rfl,hb⟩;rw[hr.o];have K:=(h.below hb).all j;go_wp2_with fail;refine(mj _ c zs J hs (h.below hb)).mono ?_;rintro e S ⟨g,rfl,hg,r,B⟩;have L:=r.cell j;have M:=r.frozen n;have N:=ae (r.av n (b-a));clear r;have l:(zs.set n (b-a)).length=zs.length:=aD;have m:=ae l;go_wp2_with fail;go_ret2;exact⟨g,by rw[m.o];rfl,aL hb.size hg,N.o,(du hb B).setCell (aL hb.size hg) _⟩
def n9(t e:TypeId)(ht:P.underlying t=some (.slice e))(b:(P.info? e).map (λi=>(i.zero,i.size,i.bytes))=some (some (.int .i64 0),1,8))(n:Nat)(j:n<=1000000)(W:aa):
  (Instr.makeSlice t an (n:Int)).run P W=.ok (W,0,n) (W.alloc (.cells (ints (List.replicate n 0)) e)):=by
 have⟨i,hi,eZ⟩:=bt.1 b;simp only[eP]at eZ;have⟨hz,hs,hb⟩:=eZ;have:=run_make (P:=P) W t e i an ht hi hz .i64 .i64 0 n (eI _) om (by rw[hb];omega) om;rw[this,hs,<-kj];simp[Value.cells]
def vq(W:aa)(E:TypeId)(n:Nat)(b:n<=1000000):aB (W.alloc (.cells (ints (List.replicate n 0)) E)) W.1.size E W n []:=
 World.ownsRow_made W _ n (al _) (by unfold maxLen;omega) (by simp[ints])
def gL(zs xs:au)(e a b:Int):Int:=if ap zs xs then gm zs e a b else 20
def zCa(h:Γ:=by simp[results,results178,go_sem,q0,q1]):=h
def OO(A B:bF)(c d:Nat)(zs xs:au)(j a b:Int)(w:aa)(r:zs.length<=1000000)(u:Rd w A zs)(hr:Hx (gL zs xs j a b≠0)):
  () 178 #[.agg #[.slice A zs c,.slice B xs d],j,a,b] w (fH w [] [] (gL zs xs j a b)):=by
 have m:=((aV w.1.size w).alloc (al _) (.cells #[.slice A zs c,.slice B xs d] 28)).alloc aD (.cells #[(),()] 28);have k1:=(az.new w 28 #[.slice A zs c,.slice B xs d]).alloc (.cells #[(),()] 28);have l:=az.ew (w.alloc (.cells #[.slice A zs c,.slice B xs d] 28)) 28 #[(),()] (n:=w.1.size+1) aD;rcases ht:ap zs xs with _|_
 .have y:=ae ht;have z:Hx (gL zs xs j a b=20):=ae (by simp[gL,ht]);go_in;go_wp2_with fail;refine(eJ A B c d zs xs _ r (u.below m)).mono ?_;rintro e E ⟨rfl,hb⟩;rw[y.o];replace l:=l.keep hb;replace m:=du m hb;have⟨q0,q1⟩:=bI l;have F:=l.frozen 0;have f1:=l.frozen 1;go_wp2;have C:=l.bP () ();have D:=br m (p:=w.1.size+1) om () ();have⟨q0,q1⟩:=bI C;refine aX (v:=.tuple #[.agg #[(),()],(20:Int)]) zCa rfl ?_;exact fH.no rfl rfl D _ (by rw[z.o])
 have y:=ae ht;have z:Hx (gL zs xs j a b=gm zs j a b):=ae (by simp[gL,ht]);rw[z.o]at hr⊢;have G:Hx (hG zs j a b=[]):=ae (by simp[hG,hr.o]);have I:(gm zs j a b !=0)=true:=by simpa using hr.o
 go_in;go_wp2_with fail;refine(eJ A B c d zs xs _ r (u.below m)).mono ?_;rintro e E ⟨rfl,hb⟩;rw[y.o];replace k1:=k1.keep hb;replace l:=l.keep hb;replace m:=du m hb;have⟨p0,p1⟩:=bI k1;go_wp2_with fail;refine(MY A c zs j a b E r (u.below m)).mono ?_;rintro e J ⟨K,c1,rfl,-,hb,-,-⟩;rw[G.o];replace l:=l.keep hb;replace m:=du m hb;have⟨q0,q1⟩:=bI l;have F:=l.frozen 0;have f1:=l.frozen 1;go_wp2;have C:=l.bP () ();have D:=br m (p:=w.1.size+1) om () ();have⟨q0,q1⟩:=bI C;refine aX (v:=.tuple #[.agg #[(),()],.int .i64 (gm zs j a b)]) zCa rfl ?_;exact fH.no rfl rfl D _ rfl
end
def KA(A B:bF)(c d:Nat)(zs xs:au)(n P Z I F T:Nat)(w:aa)(hr:Hx (ap zs xs=true))(Y:Hx (zs[n]?=some (Z:Int)))(hP:Hx (ax (zs.take n)=(P:Int)))(hI:Hx (ax (zs.drop (n+1))=(I:Int)))
  (hFT:F<T) (Fr:T<=Z) (hd:xs.length<=d) (h1:Rd w A zs) (h2:Rd w B xs):
  () 178 #[.agg #[.slice A zs c,.slice B xs d],n,F,T] w (fH w (zs.set n ((T:Int)-F)) (cB (Z*I) (F*I) ((T-F)*I) xs P) 0):=by
 obtain⟨U,jQ⟩:=(aN _ _).1 hr.o;obtain⟨r1,r4,tX,WW⟩:=(a2 zs).1 U;have HRZ:=ae U;have E:=ae tX;have hn:n<zs.length:=(a8.1 Y.o).1;clear U tX;have y:=((aV w.1.size w).alloc (al _) (.cells #[.slice A zs c,.slice B xs d] 28)).alloc aD (.cells #[(),()] 28);have k1:=(az.new w 28 #[.slice A zs c,.slice B xs d]).alloc (.cells #[(),()] 28);have kR:=az.ew (w.alloc (.cells #[.slice A zs c,.slice B xs d] 28)) 28 #[(),()] (n:=w.1.size+1) aD;have n7:=ae jQ;clear jQ;go_in;go_wp2_with fail;refine(eJ A B c d zs xs _ om (h1.below y)).mono ?_;rintro e w1 ⟨rfl,hb⟩;rw[hr.o];replace k1:=k1.keep hb;replace kR:=kR.keep hb;replace y:=du y hb;clear hb;obtain⟨p0,p1⟩:=bI k1;go_wp2_with fail;refine(HA A c zs n Z F T w1 om HRZ Y om om om (h1.below y)).mono ?_;rintro e M ⟨g,rfl,hg,ho,hb⟩;clear p0 p1;have xj:w.1.size<=g:=aL y.size hg;replace k1:=k1.keep hb;replace kR:=kR.keep hb;replace y:=du y hb;clear hb;obtain⟨p0,p1⟩:=bI k1;obtain⟨AS,ko,SE⟩:=qB (P:=prog) 25 ao ao g zs.length zs.length (n+1) ((n:Int)+1) om om (al _);have O:(zs.set n ((T:Int)-F)).drop (n+1)=zs.drop (n+1):=by rw[yl,ah (by omega)]
 have RS:Rd M AS (zs.drop (n+1)):=by rw[<-O];exact SE M _ aD ho.rd
 have V:=ae (Ni AS (zs.length-(n+1)) (zs.drop (n+1)) M cr (ae (nW E.o _)) RS);rw[eo,hI.o]at V;clear O SE;go_wp2_with fail;refine V.o.mono ?_;rintro e w3 ⟨rfl,rfl⟩;obtain⟨hH,jM⟩:=dH E.o Y.o;obtain⟨P',Z',I',eP,eZ,eI,Ca,Kz,Ky,eN⟩:=mz E.o Y.o;obtain rfl:P=P':=by have:=hP.o.symm.trans eP;omega
 obtain rfl:Z=Z':=om;obtain rfl:I=I':=by have:=hI.o.symm.trans eI;omega
 have z:xs.length=P*(Z*I):=by have:=n7.o;rw[eN]at this;exact EI this
 have zq:xs.length<=65536:=by have:=n7.o;omega
 clear eP eZ eI eN;obtain⟨R,Q⟩:=lh (Z*I);obtain⟨m,G⟩:=lh (F*I);obtain⟨X,J⟩:=lh (T*I);obtain⟨b,r⟩:=lh ((T-F)*I);obtain⟨N,hN⟩:=lh (P*b);have hHR:X<=R:=by rw[<-J,<-Q];exact cU _ Fr
 have OP:m+b=X:=by rw[<-G,<-r,<-J,<-hx];congr 1;omega
 have xk:1<=R:=by rw[<-Q];exact jK Kz Ky
 have hRx:R<=xs.length:=by rw[z,Q];exact Eu _ Ca
 have hNx:N<=xs.length:=by rw[z,Q,<-hN];exact fS _ om
 rw[Q]at z;have mR:(Z:Int)*(I:Int)=(R:Int):=by rw[<-Q,b8]
 have mLO:(F:Int)*(I:Int)=(m:Int):=by rw[<-G,b8]
 have mHI:(T:Int)*(I:Int)=(X:Int):=by rw[<-J,b8]
 have hN2:ax (zs.set n ((T:Int)-F))=(N:Int):=by rw[py _ hn,hP.o,hI.o,<-hN,<-r,b8,b8,Int.natCast_sub om]
 obtain⟨b0,ady,z',rfl,hb0,qf,xb⟩:=(h1.below y).get hn;obtain rfl:(Z:Int)=z':=by have:=Y.o.symm.trans xb.o;injection this
 have HR':=ae Q;have HLO:=ae G;have Rz:=ae r;have HXN:=ae z;have CN:=ae (Ni g zs.length (zs.set n ((T:Int)-F)) M cr (ae (px E.o n om om)) ho.rd);rw[hN2,d3]at CN;have la:=λW=>n9 (P:=prog) 26 65 underlying26 ao N om W;clear Q G J r z hN hN2 xb V;go_wp2_with fail;refine CN.o.mono ?_;rintro e w3 ⟨rfl,rfl⟩;have abL:=y.size;go_wp2_with fail;clear p0 p1 qf;go_loopw [14,15] (λv i wr=>∃(j S:Nat) (K:bF) (L:Nat),j<=P/\Hx (j*R=S)/\i=.int .i64 S/\v=.slice K (cB R m b xs j).length L/\aB wr M.1.size 65 K L (cB R m b xs j)/\Below M.1.size M wr) (λ_ i _=>xs.length-(intOf i).toNat);case atStart=>exact⟨0,0,_,_,aM _,ae aD,rfl,rfl,vq _ _ _ om,(aV _ _).alloc (al _) _⟩
 case round=>
  obtain⟨j,S,K,L,hj,hS,rfl,rfl,C,l⟩:=hrel;have k1r:=k1.keep l;obtain⟨p0,p1⟩:=bI k1r;by_cases hjP:j<P
  .have hSx:S+R<=xs.length:=by rw[HXN.o,<-hS.o,<-d5];exact cU _ hjP
   obtain⟨A2,C2,D⟩:=qC (P:=prog) 26 ao ao B xs.length d (S+m) (S+X) ((S:Int)+m) ((S:Int)+X) om om om om hd;have e1:S+X-(S+m)=b:=om;rw[e1]at C2 D;have R2:=D wr xs rfl ((h2.below y).below l);(have tZ:((xs.drop (S+m)).take b).length=b:=by simp;omega);(have xd:(cB R m b xs j).length<=65536:=by rw[kr (by rw[hS.o];omega) om];have h1:j*b<=j*R:=fS _ om;have h2:=hS.o;omega);have ESX:S<xs.length:=om;clear D e1;go_wp2_with (at_builtin;refine qa rfl (.tmp 56) (.tmp 69) 26 rfl 65 underlying26 ao M.1.size K L (cB R m b xs j) rfl C A2 b _ ((xs.drop (S+m)).take b) tZ rfl R2 om l.size ?_;intro A3 c3 w3 qe qv adz ZK);refine⟨⟨j+1,S+R,A3,c3,om,ae (by rw[d5,hS.o]),by go_num,?_,?_,l.trans qv⟩,by simp[intOf];omega⟩;rw[my,hS.o,bh,tZ];rw[my,hS.o];exact qe
  obtain rfl:j=P:=om;(have hSx:xs.length=S:=by rw[HXN.o,hS.o]);have adA:¬S<xs.length:=om;have u:=kR.keep l;have hor:=ho.keep l;have⟨q0,q1⟩:=bI u;have f0:=u.frozen 0;have f1:=u.frozen 1;have l1:=hor.aH u am;have l2:=C.aH u am;have B2:=du y l;go_wp2;have k3:=u.bP (.slice g zs zs.length) (.slice K (cB R m b xs j).length L);have B3:=br B2 (p:=w.1.size+1) om (.slice g zs zs.length) (.slice K (cB R m b xs j).length L);have o3:=hor.bA l1 (.slice g zs zs.length) (.slice K (cB R m b xs j).length L);have o4:=C.bA l2 (.slice g zs zs.length) (.slice K (cB R m b xs j).length L);have⟨q0,q1⟩:=bI k3;refine aX (v:=.tuple #[.agg #[.slice g zs zs.length,.slice K (cB R m b xs j).length L],an]) zCa rfl ?_;rw[HR'.o,HLO.o,Rz.o];exact⟨_,_,_,_,by rw[d3],by have:=aB.gK o3 xj cr;rw[d3]at this;exact this,o4.more abL,B3⟩
def xl{ts:au}(h:f8 zs ts n=true):zs.take n=ts.take n/\zs.drop (n+1)=ts.drop (n+1):=by
 simpa[f8]using h
def zt{ts:au}(h:ea zs ts z=0):
  ∃n P b Z2 I:Nat,z=(n:Int)/\aA zs=true/\aA ts=true/\zs.length=ts.length/\n<zs.length/\zs[n]?=some (b:Int)/\ts[n]?=some (Z2:Int)/\1<=b/\1<=Z2/\1<=P/\1<=I/\
   ax (zs.take n)=(P:Int)/\ax (zs.drop (n+1))=(I:Int)/\ax (ts.take n)=(P:Int)/\ax (ts.drop (n+1))=(I:Int)/\ax zs=((P*(b*I):Nat):Int)/\ax ts=((P*(Z2*I):Nat):Int)/\
   hR zs ts n=zs.set n ((b:Int)+Z2)/\f8 zs ts n=true/\aA (zs.set n ((b:Int)+Z2))=true/\zs.set n (Z2:Int)=ts:=by
 unfold ea at h;split at h
 .rename_i hg;simp only[bK,bZ]at hg;have⟨⟨hr,nX⟩,hl⟩:=hg;split at h
  .rename_i hs;simp only[bK,bZ]at hs;obtain⟨n,rfl⟩:=bJ hs.1;rw[aZ]at h;split at h;rename_i m;simp only[bK]at m;have r:n<zs.length:=om;have⟨_,_,tX,_⟩:=(a2 zs).1 hr;have⟨_,_,abM,_⟩:=(a2 ts).1 nX;obtain⟨P,b,I,u,K,y,hP,L,M,N⟩:=mz tX (a5 r);obtain⟨O,Z2,Q,e,B,j,_,C,_,D⟩:=mz abM (a5 (show n<ts.length by omega));have⟨s1,s2⟩:=xl m.1;rw[<-s1,u]at e;rw[<-s2,y]at j;obtain rfl:P=O:=EI e;obtain rfl:I=Q:=EI j;(have G:zs[n]?=some (b:Int):=by rw[a5 r,K]);(have E:ts[n]?=some (Z2:Int):=by rw[a5 (by omega),B]);(have J:hR zs ts n=zs.set n ((b:Int)+Z2):=by rw[hR];simp[List.getD,G,E]);refine⟨n,P,b,Z2,I,rfl,hr,nX,hl,r,G,E,L,C,hP,M,u,y,by rw[<-s1];exact u,by rw[<-s2];exact y,N,D,J,m.1,by rw[<-J];exact m.2,?_⟩;apply fZ;intro i;by_cases hi:i=n;subst hi;rw[fF r,E];rw[kH om];rcases ru hi with F|hgt;have:=cq (λl=>l[i]?) s1;simpa[eG,F]using this;have:=cq (λl=>l[i-(n+1)]?) s2;simp only[fb]at this;rwa[show n+1+(i-(n+1))=i from om]at this;cases h
  cases h
 cases h

variable{I Z:Nat}
structure JW(n P I Z:Nat)(s:List Int):Prop where
 right:aA s=true
 lt:n<s
 at_:s[n]?=some (Z:Int)
 ahead:ax (s.take n)=(P:Int)
 behind:ax (s.drop (n+1))=(I:Int)
 p1:1<=P
 i1:1<=I
 z1:1<=Z
variable{P:Nat}{s:List Int}
def JW.prod(h:JW n P I Z s):ax s=((P*(Z*I):Nat):Int):=by
 rw[iq h.at_,h.ahead,h.behind];simp
def JW.small(h:JW n P I Z s):P*(Z*I)<=65536:=by
 have:=h.prod;have⟨_,_,_,h4⟩:=(a2 s).1 h.right;rw[this]at h4;omega
def JW.cells(h:JW n P I Z s)(hr:ap s xs=true):xs.length=P*(Z*I):=by
 have:=((aN _ _).1 hr).2;rw[h.prod]at this;omega
def JW.of{n:Nat}(hr:aA s=true)(b:n<s.length):∃P I Z,JW n P I Z s:=by
 have⟨_,_,tX,_⟩:=(a2 s).1 hr;obtain⟨P,Z,I,e,j,l,hP,m,r,-⟩:=mz tX (a5 b);exact⟨P,I,Z,hr,b,by rw[a5 b,j],e,l,hP,r,m⟩
variable{R i k m:Nat}{side:Int}{t:Tn}
def vt(b:Int):List Int->List Tn->Int
 |_,[]=>0
 |s,t::l=>if ap t.zs t.xs then(if ea s t.zs b=0 then vt b (dD s t.zs b) l else ea s t.zs b)else 20
def xm(b:Int):List Int->List Tn->List Int
 |s,[]=>s
 |s,t::l=>xm b (dD s t.zs b) l
def xo(b:Int):List Tn->Int
 |[]=>20
 |t::l=>if ap t.zs t.xs then(if l.isEmpty&& !(decide (0<=b)&&decide (b<t.zs.length))then 11 else vt b t.zs l)else 20
def vu(b)(t)(l):xo b (t::l)=if ap t.zs t.xs then(if l.isEmpty&& !(decide (0<=b)&&decide (b<t.zs.length))then 11 else vt b t.zs l)else 20:=rfl
def um(b:Int):List Tn->List Int
 |[]=>[]
 |t::l=>xm b t.zs l
variable{s':List Int}{l:List Tn}
def JW.step(h:JW n P I Z s)(hs:side=(n:Int))(m:ea s t.zs side=0):∃Z2,JW n P I Z2 t.zs/\JW n P I (Z+Z2) (dD s t.zs side)/\dD s t.zs side=s.set n ((Z:Int)+Z2)/\s.set n (Z2:Int)=t.zs:=by
 obtain⟨B,C,r,Z2,D,e,r1,r2,Q,E,F,G,z1,J,p1,i1,u,y,b,j,-,-,K,-,L,M⟩:=zt m;obtain rfl:n=B:=om;have N:=h.ahead;have O:=h.behind;have a3:=h.at_;rw[u]at N;rw[y]at O;rw[F]at a3;obtain rfl:C=P:=om;obtain rfl:D=I:=om;obtain rfl:r=Z:=by injection a3 with a3;omega
 have z:dD s t.zs side=s.set n ((r:Int)+Z2):=by rw[dD,ah m,hs,aZ,K]
 refine⟨Z2,⟨r2,om,G,b,j,p1,i1,J⟩,?_,z,M⟩;rw[z];exact⟨L,by simp;omega,by rw[fF E];simp,by rw[rA (al _)];exact u,by rw[List.drop_set_of_lt om];exact y,p1,i1,om⟩
def e9(P:Nat)(l:List Tn):Nat:=(l.map λt=>t.xs.length/P).sum
def JW.row(h:JW n P I Z s)(hr:ap s xs=true):xs.length/P=Z*I:=by
 rw[h.cells hr,Nat.mul_div_cancel_left _ (by have:=h.p1;omega)]
def C3{s:au}{n:Nat}(h:s[n]?=some z):s.set n z=s:=by
 apply fZ;intro i;by_cases hi:i=n;subst hi;rw[fF (a8.1 h).1,h];rw[kH om]
def JW.all(hs:side=(n:Int)):∀{l:List Tn} {Z:Nat} {s:au},JW n P I Z s->vt side s l=0->(∃R:Nat,JW n P I R (xm side s l)/\R*I=Z*I+e9 P l/\xm side s l=s.set n (R:Int))/\∀t∈l,ap t.zs t.xs=true/\∃m:Nat,JW n P I m t.zs/\s.set n (m:Int)=t.zs
 |[],Z,s,h,_=>⟨⟨Z,h,by simp[e9],(C3 h.at_).symm⟩,λt ht=>by cases ht⟩
 |t::l,Z,s,h,e=>
  by
   unfold vt at e;split at e
   .rename_i hr;split at e;rename_i j;have⟨Z2,w2,w,ev,es⟩:=h.step hs j;have⟨⟨R,h1,h3,h4⟩,h2⟩:=JW.all hs w e;refine⟨⟨R,h1,?_,?_⟩,λu hu=>?_⟩;rw[h3,hx,e9,e9,di,fY,w2.row hr];omega;show xm side (dD s t.zs side) l=_;rw[h4,ev,yp];rcases cw.1 hu with rfl|hu;exact⟨hr,Z2,w2,es⟩;have⟨a,Zu,b,c⟩:=h2 u hu;rw[ev,yp]at c;exact⟨a,Zu,b,c⟩;rename_i j;exact absurd e j
   omega
def zN(n:Nat)(t:Tn):Nat:=(t.zs.getD n 0).toNat
def JW.zN{t:Tn}(h:JW n P I Z t.zs):zN n t=Z:=by
 unfold Go.Proofs.YtmkjnlifimffkaaGreat.zN;rw[aQ,h.at_];simp
def er(n:Nat)(ts:List Tn)(k:Nat):Nat:=((ts.take k).map (zN n)).sum
def wK{ts:List Tn}{t:Tn}(h:ts[k]?=some t):er n ts (k+1)=er n ts k+zN n t:=by
 rw[er,take_at h];simp[er]
def C4(ts)(k):er n ts k<=er n ts ts.length:=by
 have e:er n ts ts.length=er n ts k+((ts.drop k).map (Go.Proofs.YtmkjnlifimffkaaGreat.zN n)).sum:=by unfold er;rw[bY (al _),<-nk,<-c9,dC]
 omega
def KB{ts:List Tn}(h:∀t∈ts,ap t.zs t.xs=true/\∃b:Nat,JW n P I b t.zs):e9 P ts=er n ts ts.length*I:=by
 unfold er;rw[bY (al _)];induction ts with
 |nil=>simp[e9]
 |cons t l e=>have⟨hr,b,hw⟩:=h t cm;have:=e λu hu=>h u (dp _ hu);rw[e9,di,fY,di,fY,hw.row hr,hw.zN,hx];rw[e9]at this;omega
def zu{ts:List Tn}(h:xo side ts=0):∃n P I Z:Nat,side=(n:Int)/\JW n P I Z (um side ts)/\0<ts.length/\(∀t∈ts,ap t.zs t.xs=true/\JW n P I (zN n t) t.zs/\(um side ts).set n (zN n t:Int)=t.zs)/\Z*I=e9 P ts/\er n ts ts.length=Z:=by
 cases ts with
 |nil=>simp[xo]at h
 |cons t l=>
  rw[vu]at h;split at h
  .rename_i hr;have m:=((aN _ _).1 hr).1;split at h;omega;rename_i z;have:∃n:Nat,side=(n:Int)/\n<t.zs.length:=by
    cases l with
    |nil=>simp at z;exact⟨side.toNat,om,om⟩
    |cons u l=>
     unfold vt at h;split at h
     .split at h;rename_i r;have⟨n',_,_,_,_,e,_,_,_,hn,_⟩:=zt r;exact⟨n',e,hn⟩;rename_i r;exact absurd h r
     omega
   have⟨n,hs,hn⟩:=this;have⟨P,I,Z,hw⟩:=JW.of m hn;have⟨⟨R,h1,h3,h4⟩,h2⟩:=hw.all hs h;(have j:∀u∈t::l,ap u.zs u.xs=true/\JW n P I (zN n u) u.zs/\(um side (t::l)).set n (zN n u:Int)=u.zs:=λu hu=>by rcases cw.1 hu with rfl|hu;exact⟨hr,by rw[hw.zN];exact hw,by show(xm side u.zs l).set n _=_;rw[h4,yp,hw.zN,C3 hw.at_]⟩;have⟨a,Zu,b,c⟩:=h2 u hu;exact⟨a,by rw[b.zN];exact b,by show(xm side t.zs l).set n _=_;rw[h4,yp,b.zN,c]⟩);(have y:R*I=e9 P (t::l):=by rw[h3,e9,e9,di,fY,hw.row hr]);refine⟨n,P,I,R,hs,h1,aD,j,y,?_⟩;rw[KB λu hu=>⟨(j u hu).1,_,(j u hu).2.1⟩]at y;exact(Nat.eq_of_mul_eq_mul_right hw.i1 y).symm
  omega
def KC(P)(l)(m):e9 P (l.take m)<=e9 P l:=by
 have e:e9 P l=e9 P (l.take m)+e9 P (l.drop m):=by unfold e9;rw[<-nk,<-c9,dC]
 omega
def pz(P i:Nat)(xs:au):List Int:=(xs.drop (i*(xs.length/P))).take (xs.length/P)
def e1(P i:Nat)(ts:List Tn)(m:Nat):List Int:=(ts.take m).flatMap λt=>pz P i t.xs
def pA(P:Nat)(ts:List Tn)(i:Nat):List Int:=(List.range i).flatMap λj=>e1 P j ts ts.length
def vv(P)(ts)(i):pA P ts (i+1)=pA P ts i++e1 P i ts ts.length:=by simp[pA,g5]
def Fs{P:Nat}{ts:List Tn}(h:ts[m]?=some t):e1 P i ts (m+1)=e1 P i ts m++pz P i t.xs:=by
 rw[e1,take_at h];simp[e1]
def KD(P i)(xs):(pz P i xs).length<=xs.length/P:=by simp[pz];omega
def wL(P i)(ts)(m):(e1 P i ts m).length<=e9 P ts:=by
 refine aL ?_ (KC P ts m);unfold e1 e9;induction ts.take m with
 |nil=>simp
 |cons t l b=>simp only[g6,bh,di,fY];have:=KD P i t.xs;omega
def SF(P)(ts)(i):(pA P ts i).length<=i*e9 P ts:=by
 induction i with
 |zero=>simp[pA]
 |succ i b=>rw[vv,bh,d5];have:=wL P i ts ts.length;omega
def KE{P:Nat}(h:z∈pz P i xs):z∈xs:=dA (cE h)
def SG{P:Nat}{ts:List Tn}(h:z∈pA P ts i):∃t∈ts,z∈t.xs:=by
 simp only[pA,e1,jI]at h;have⟨_,_,t,ht,hz⟩:=h;exact⟨t,cE ht,KE hz⟩
variable{w w':World}{A B C D:Option Addr}{b b' c c' d d' m':Nat}{V ys:List Int}{E y:Int}
section
variable{ts:List Int}
def ul[a:Sl w A n zs][b:Sl w B m ts](e:n<=1000000)(hm:m<=1000000)(j:Hx (ea zs ts side=z))(hV:Hx (dD zs ts side=V)):() 191 #[(A,n,c),(B,m,d),side] w (jP w V z):=by
 obtain⟨a,rfl⟩:=a;obtain⟨b,rfl⟩:=b;rw[<-j.o,<-hV.o];exact SC (Rw A B c d zs ts side w e hm a b)
def Nj[a:Sl w A n zs](e:n<=1000000)(j:Hx (gm zs side x y=z))(hV:Hx (hG zs side x y=V)):() 129 #[(A,n,c),side,x,y] w (jP w V z):=by
 obtain⟨a,rfl⟩:=a;rw[<-j.o,<-hV.o];exact SC (MY A c zs side x y w e a)
def h5[a:Sl w A n zs](e:n<=1000000)(hV:Hx (bz zs=z))(j:Hx (cA zs=y)):() 73 #[(A,n,c)] w (aJ w (.tuple #[z,y])):=by
 obtain⟨a,rfl⟩:=a;rw[<-j.o,<-hV.o];exact RC (tW A c zs w e a)
def rJ[a:Sl w A n zs][b:Sl w B m xs](e:n<=1000000)(hm:m<=1000000)(h:ap zs xs=true):() 25 #[(A,n,c),(B,m,d)] w (dK w zs xs 0):=by
 obtain⟨a,rfl⟩:=a;obtain⟨b,rfl⟩:=b;exact sR (Og A B c d zs xs w e hm a b h)
def KF[a:Sl w A n zs][b:Sl w B m xs](e:n<=1000000)(h:ap zs xs=false):() 25 #[(A,n,c),(B,m,d)] w (dK w [] [] 20):=by
 obtain⟨a,rfl⟩:=a;obtain⟨b,rfl⟩:=b;exact sR (RB A B c d zs xs w e a h)
def qE{n:Nat}(e:zs[n]?=some z):ax (zs.drop n)=z*ax (zs.drop (n+1)):=by
 rw[yO e,wA]
def HB(zs xs:au)(side x y:Int):List Int:=if gL zs xs side x y=0 then hG zs side x y else[]
def Ft(zs xs:au)(side x y:Int):List Int:=
 if gL zs xs side x y=0 then cB (ax (zs.drop side.toNat)).toNat (x*ax (zs.drop (side.toNat+1))).toNat ((y-x)*ax (zs.drop (side.toNat+1))).toNat xs (ax (zs.take side.toNat)).toNat else[]
def Nk[a:Sl w A n zs][b:Sl w B m xs][Q:Le m d](U:n<=1000000){S X:au}(G:Hx (gL zs xs side x y=z))(hS:Hx (HB zs xs side x y=S))(K:Hx (Ft zs xs side x y=X)):
  () 178 #[.agg #[(A,n,c),(B,m,d)],side,x,y] w (dK w S X z):=by
 obtain⟨a,rfl⟩:=a;obtain⟨b,rfl⟩:=b;by_cases j:gL zs xs side x y=0
 .rw[<-G.o,j];have e:=j;unfold gL at e;split at e
  .rename_i hq;have l:=e;unfold gm at l;split at l
   .rename_i hr;split at l;rename_i L;simp only[bK,bZ]at L;have⟨⟨⟨⟨s0,s1⟩,x0⟩,y1⟩,xy⟩:=L;obtain⟨k,rfl⟩:=bJ s0;obtain⟨F,rfl⟩:=bJ x0;obtain⟨T,rfl⟩:=bJ (show 0<=y by omega);have M:k<zs.length:=om;have⟨_,_,tX,_⟩:=(a2 zs).1 hr;obtain⟨P,Z,I,N,V,O,hP,Y,hI,-⟩:=mz tX (a5 M);(have r:zs[k]?=some (Z:Int):=by rw[a5 M,V]);(have u:T<=Z:=by rw[aZ,aQ,r]at y1;simp at y1;omega);have:=sR (KA A B c d zs xs k P Z I F T w hq r N O om u Q.le a b);refine OL this ?_ ?_ rfl;rw[<-hS.o,HB,ah j,hG,ah e,aZ];rw[<-K.o,Ft,ah j,aZ,qE r,O,N];rw[show((T:Int)-F)=((T-F:Nat):Int)from om,<-b8,<-b8,<-b8];rfl;cases l
   cases l
  omega
 rw[<-G.o,<-hS.o,<-K.o,HB,Ft,ag j,ag j];exact sR (OO A B c d zs xs side x y w U a j)
end
variable{L:List (List Int)}
structure Sp where
 A:Option Addr
 m:Nat
 c:Nat
 zs:List Int
def Nl(w:aa)(B:bF)(e:List Sp):Prop:=
 ∀(j:Nat) (x:Sp),e[j]?=some x->∃b off,B=some ⟨b,off,none⟩/\b<w.1.size/\w.cell? (b,off+j)=some (.slice x.A x.m x.c)/\Rd w x.A x.zs/\x.m=x.zs.length/\x.m<=x.c
def Nl.below{l:List Sp}(h:Nl w B l)(hb:Below w.1.size w w'):Nl w' B l:=λj x m=>by
 have⟨b,off,e,bE,h1,h2,h3,h4⟩:=h j x m;exact⟨b,off,e,bu bE hb.size,(hb.cell (p:=⟨b,off+j,none⟩) bE).trans h1,h2.below hb,h3,h4⟩
class dZ(w:World)(B:Option Addr)(n:Nat)(ss:outParam (List Sp)):Prop where
 rd:Nl w B ss
 len:n=ss
def aS(b:List Sp):List (List Int):=b.map (·.zs)
section
variable{N:Nat}{ts:List Int}{ss:List Sp}
instance(priority:=low) dZ.step[p:aj w' w][h:dZ w B n ss]:dZ w' B n ss:=⟨h.rd.below p.st,h.len⟩
def cX:(aS ss).length=ss.length:=bj _
def HC{x:Sp}(h:ss[k]?=some x):(aS ss)[k]?=some x.zs:=by unfold aS;rw[bf,h];rfl
def dZ.get(h:dZ w B n ss)(j:k<n):∃b off A m c zs,B=some ⟨b,off,none⟩/\Old b w/\w.cell? (b,off+k)=some (.slice A m c)/\Sl w A m zs/\Le m c/\Hx ((aS ss)[k]?=some zs):=by
 have e:ss[k]?=some (ss[k]'(by rw[<-h.len];exact j)):=a5 _;obtain⟨b,off,rfl,hb,l,r,u,y⟩:=h.rd k _ e;exact⟨b,off,_,_,_,_,rfl,⟨hb⟩,l,⟨r,u⟩,⟨y⟩,ae (HC e)⟩
def h8(h:L[k]?=some zs):zs∈L:=aC h
def cG(h:aA zs=true):zs.length<=4:=((a2 zs).1 h).2.1
def un(b o l c)(r:l+1<=c):
  ∃j,(∀w,(Instr.slice 82 (.slice (some ⟨b,o,none⟩) (l+1) c) (some (.int .i64 1)) none none).run prog w=.ok (.slice j l (c-1)) w)/\(0<l->j=some ⟨b,o+1,none⟩):=by
 have hs:∀w,(sizeOf (prog.elem 82)).run prog w=.ok 1 w:=λw=>by have⟨i,hi,e⟩:=bt.1 (show(prog.info? (prog.elem 82)).map (·.size)=some 1 from by kernel_rfl);simp[sizeOf,typeInfo,hi,e]
 refine⟨if c=1 then some ⟨b,o,none⟩else some ⟨b,o+1,none⟩,λw=>?_,λh=>ag om⟩;rw[dN w 82 (some ⟨b,o,none⟩) (l+1) c ao .i64 1 om om,hs];simp[Result.andThen,sliced,Addr.add]
end
end Go.Proofs.YtmkjnlifimffkaaGreat
