/- Lemmas. -/
import Derived.Test.YtmkjnlifimffkaaGreatS02
import Derived.Laws.IdiomCopy
namespace Go.Proofs.YtmkjnlifimffkaaGreat
open Go.RowKit Tryz
set_option linter.all false
set_option maxRecDepth 100000
set_option maxHeartbeats 0
variable{Γ:Prop}
variable{u w w':World}{B' c c' g j k n:Nat}{T:TypeId}{A A' A2:Option Addr}{vs:List Value}{zs:List Int}{cs cur:Array Value}{v:Value}
def aU(w:aa)(B:Nat)(E:TypeId)(k:Nat)(A:bF)(c n:Nat)(b:j7):Prop:=w.ownsRow B E k (A,n,c) n b
structure dm(A A':Option Addr)(w w':World):Prop where
 base:Below 0 w w'
 size:w.1.size<=w'.1.size
 off:∀b,b<w.1.size->(∀ad,A=some ad->ad.block≠b)->w'.heap[b]?=w.heap[b]?
 new:∀W5,A'=some W5->(∃ad,A=some ad/\W5.block=ad.block)\/w.1.size<=W5.block
variable{B:Nat}{E:TypeId}{xs:List Value}
def dm.below(h:dm A A' w w')(l:∀j,A=some j->B<=j.block)(m:B<=w.1.size):Below B w w':=
 ⟨h.base.os,h.base.tape,h.base.output,h.size,λb hb=>h.off b (bu hb m) λj e=>by have:=l j e;omega⟩
def dm.trans(h:dm A A' w w')(l:dm A' A2 w' u):dm A A2 w u:=
 ⟨h.base.trans l.base,aL h.size l.size,λb hb j=>(l.off b (bu hb h.size) (λm e=>by
  rcases h.new m e with⟨r,C,y⟩|tx
  .rw[y];exact j r C
  .omega)).trans (h.off b hb j),λm e=>by
  rcases l.new m e with⟨z,y,D⟩|tx
  .rw[D];exact h.new z y
  .exact .inr (aL h.size tx)⟩
def aU.form(h:aU w B E k A c n vs):(A=none/\n=0/\c=0/\vs=[])\/∃g cur,A=some ⟨g,0,none⟩/\B<=g/\w.heap[g]?=some (.cells cur E (0,0))/\n<=c/\c<=maxLen/\cur.size=c*k/\cur.toList.take (n*k)=vs:=by
 rcases h.2 with⟨hv,j⟩|⟨g,cap,cur,hv,l,hg,m,hm,r,ht⟩;injection hv with b y e;exact .inl ⟨b,j,e,hB (by have:=h.1;rw[j]at this;simpa using this)⟩;injection hv with b y e;subst e;exact .inr ⟨g,cur,b,l,hg,m,hm,r,ht⟩
def aU.mk'(j:B<=g)(hg:w.heap[g]?=some (.cells cur E (0,0)))(b:n<=c)(hm:c<=maxLen)(e:cur.size=c*k)(ht:cur.toList.take (n*k)=vs):aU w B E k g c n vs:=
 ⟨by rw[<-ht,bO,iC,e];exact dQ (cU _ b),.inr ⟨g,c,cur,rfl,j,hg,b,hm,e,ht⟩⟩
def aU.le(h:aU w B E k A c n vs):n<=c:=by
 rcases h.form with⟨_,rfl,rfl,_⟩|⟨_,_,_,_,_,b,_⟩;exact al _;exact b
def aU.lt(h:aU w B E k A c n vs):∀b,A=some b->b.block<w.1.size:=by
 rcases h.form with⟨rfl,_⟩|⟨g,cur,rfl,j,hg,_⟩;intro b e;cases e;intro b e;cases e;exact(dP.1 hg).1
def aU.ge(h:aU w B E k A c n vs):∀b,A=some b->B<=b.block:=by
 rcases h.form with⟨rfl,_⟩|⟨g,cur,rfl,j,hg,_⟩;intro b e;cases e;intro b e;cases e;exact j
def aU.same(h:aU w B E k A c n vs)(e:∀b,A=some b->w'.heap[b.block]?=w.heap[b.block]?):aU w' B E k A c n vs:=by
 rcases h.form with⟨rfl,rfl,rfl,rfl⟩|⟨g,cur,rfl,j,hg,l,hm,m,ht⟩;exact⟨aD,.inl ⟨rfl,rfl⟩⟩;exact .mk' j ((e _ rfl).trans hg) l hm m ht
def aU.keep(h:aU w B E k A c n vs)(hb:Below w.1.size w w'):aU w' B E k A c n vs:=h.same λb e=>hb.block _ (h.lt b e)
def aU.at(h:aU w B E k A c n vs)[l:aT w w']:aU w' B E k A c n vs:=h.keep l.st
def aU.less(h:aU w B E k A c n vs)(b:B'<=B):aU w B' E k A c n vs:=by
 rcases h.form with⟨rfl,rfl,rfl,rfl⟩|⟨g,cur,rfl,hb,hg,e,hm,j,ht⟩;exact⟨aD,.inl ⟨rfl,rfl⟩⟩;exact .mk' (aL b hb) hg e hm j ht
def aU.cell(h:aU w B E k A c n vs)(b:vs[j]?=some v):∃g,A=some ⟨g,0,none⟩/\w.cell? (g,j)=some v:=by
 rcases h.form with⟨rfl,rfl,rfl,rfl⟩|⟨g,cur,rfl,l,hg,m,hm,r,ht⟩;simp at b;refine⟨g,rfl,?_⟩;have e:cur[j]?=some v:=by rw[<-ht,eG]at b;split at b;simpa using b;cases b
 simp[World.cell?,hg,e]
def aU.jt(h:aU w B E k A c n vs)(m:dm A' A2 w w')(b:∀a a',A=some a->A'=some a'->a'.block≠a.block):aU w' B E k A c n vs:=
 h.same λl e=>m.off _ (h.lt l e) λj r=>b l j e r
def dm.own{zs:au}(h:dm A A' w w')(o:Own w g T zs)(b:∀e,A=some e->e.block≠g):Own w' g T zs:=(h.off g o.lt b).trans o
def dm.ak(h:dm A A' w w')(o:az w g T cs)(b:∀e,A=some e->e.block≠g):az w' g T cs:=(h.off g o.lt b).trans o
def t1(cur:m0):Nat->List Value->Array Value
 |_,[]=>cur
 |o,v::r=>t1 (cur.setIfInBounds o v) (o+1) r
def io:∀(vs:j7) (cur:m0) (o:Nat),(t1 cur o vs).size=cur.size
 |[],_,_=>rfl
 |v::r,cur,o=>by rw[t1,io r];simp
def hV:∀(vs:j7) (cur:m0) (o:Nat),o+vs.length<=cur.size->(t1 cur o vs).toList=cur.toList.take o++vs++cur.toList.drop (o+vs.length)
 |[],cur,o,_=>by simp[t1]
 |v::r,cur,o,h=>by simp at h;rw[t1,hV r _ _ cr];rw[tA,yl,ah om,xP cr,rA (al o)];simp[tU];omega
def e0(b):∀(vs:j7) (o:Nat) (w:aa) (cur:m0) (T:TypeId) (e:Nat×Nat),w.heap[b]?=some (.cells cur T e)->(w.setCells b o vs).heap[b]?=some (.cells (t1 cur o vs) T e)
 |[],_,_,_,_,_,h=>h
 |v::r,o,w,cur,T,e,h=>by rw[World.setCells,t1];refine e0 b r (o+1) _ _ T e ?_;simp[World.setCell,vf,h]
def nm(b){x:Nat}(e:x≠b):∀(vs:j7) (o:Nat) (w:aa),(w.setCells b o vs).heap[x]?=w.heap[x]?
 |[],_,_=>rfl
 |v::r,o,w=>by rw[World.setCells,nm b e r];exact ba w ⟨b,o,none⟩ v x e
def qx(b):∀(vs:j7) (o:Nat) (w:aa),(w.setCells b o vs).1.size=w.1.size
 |[],_,_=>rfl
 |v::r,o,w=>by rw[World.setCells,qx b r];simp
def dm.setCells(o)(vs)(l:A=some ⟨g,0,none⟩)(h:dm A A w w'):dm A A w (w'.setCells g o vs):=
 ⟨dG (n:=0) (g:=g) (aM _) vs o h.base,by rw[qx];exact h.size,λb hb j=>by
  rw[nm g (λe=>j _ l (by rw[e]))];exact h.off b hb j,h.new⟩
def dm.refl(A)(w):dm A A w w:=⟨aV _ _,al _,λ_ _ _=>rfl,λb e=>.inl ⟨b,e,rfl⟩⟩
def dm.drewN(h:dm A A' w w')(q):dm A A' w (w'.drewN q):=⟨below_drewN h.base q,h.size,h.off,h.new⟩
def dm.drew(h:dm A A' w w'):dm A A' w w'.drew:=⟨h.base.drew,h.size,h.off,h.new⟩
def dm.fresh(hb:Below w.1.size w w')(hg:w.1.size<=g):dm A g w w':=
 ⟨hb.mono (aM _),hb.size,λb j _=>hb.block b j,λl e=>by cases e;exact .inr hg⟩
def J5{cur:m0}{cs vs:j7}{a:Nat}(e:a<=cs.length)(b:cur.toList.take cs.length=cs)(hr:cs.length+vs.length<=cur.size):
  (t1 (t1 cur (a+vs.length) (cs.drop a)) a vs).toList.take (cs.length+vs.length)=cs.take a++vs++cs.drop a:=by
 have hs:cur.toList.length=cur.size:=iC;rw[hV _ _ _ (by rw[io];omega),hV _ _ _ (by rw[eo];omega)];have j:(cur.toList.take (a+vs.length)++cs.drop a++cur.toList.drop (a+vs.length+(cs.drop a).length)).take a=cs.take a:=by rw[eO,fa (by rw[bO];omega),fd,dQ om];(conv=>rhs;rw[<-b]);rw[fd,dQ e]
 have l:(cur.toList.take (a+vs.length)++cs.drop a++cur.toList.drop (a+vs.length+(cs.drop a).length)).drop (a+vs.length)=cs.drop a++cur.toList.drop (a+vs.length+(cs.drop a).length):=by rw[eO,o7 (by rw[bO];omega)]
 rw[j,l,<-eO,fa cr,bY cr]
def RJ{cur:m0}{cs vs:j7}(b:cur.toList.take cs.length=cs)(hr:cs.length+vs.length<=cur.size):(t1 cur cs.length vs).toList.take (cs.length+vs.length)=cs++vs:=by
 rw[hV _ _ _ hr,b,fa aD,bY aD]
def Ol{cs vs Z:j7}{cur:m0}{a:Nat}(l:a<=cs.length)(b:cur.toList=cs.take a++Z)(m:vs.length+(cs.length-a)<=Z.length):
  (t1 (t1 cur a vs) (a+vs.length) (cs.drop a)).toList.take (cs.length+vs.length)=cs.take a++vs++cs.drop a:=by
 have hs:cur.toList.length=cur.size:=iC;have r:cur.toList.length=a+Z.length:=by rw[b];simp;omega
 rw[hV _ _ _ (by rw[io,eo];omega),hV _ _ _ om];have e:cur.toList.take a=cs.take a:=by rw[b,gE cr]
 have j:(cur.toList.take a++vs++cur.toList.drop (a+vs.length)).take (a+vs.length)=cs.take a++vs:=by rw[gE cr,e]
 rw[j,fa cr,bY cr]
section
variable{P:Program}{ops:Array Oper}{a:Act}{Q:Exit->Act->World->Prop}
def c5(A:bF)(n c:Nat):Value.ownBlock (A,n,c)=A.map (·.block):=by cases A<;>rfl
def kM{rest:List Oper}{o:Oper}(C:o.guard=none)(s x:Operand)(t:TypeId)
  (V:o.op=.call {callee:=.builtin .append,args:= #[s,x],argTypes:= #[t,t]}) (E:TypeId) (ht:P.underlying t=some (.slice E)) (k bytes:Nat) (z:Value)
  (l:(P.info? E).map (λi=>(i.zero,i.size,i.bytes))=some (some z,k,bytes)) (D:z.cells.size=k) (R:0<k) (F:bytes<=1000)
  (B:Nat) (A:bF) (c n:Nat) (G:j7) (hs:a.eval s=.slice A n c) (y:aU w B E k A c n G) (news:j7) (I:news.length=k) (X:∀u∈news,u.oneCell'=true)
  (Y:a.eval x=.slice w.1.size 1 1) (S:n<=100000000) (hB:B<=w.1.size)
  (h:∀J T w',aU w' B E k J T (n+1) (G++news)->dm A J w w'->w.1.size<w'.1.size->wpList P ops Q rest (a.put o.dst (.slice J (n+1) T)) w'):
  wpList P ops Q (o::rest) a (w.alloc (.cells news.toArray E)):=by
 have⟨i,hi,eZ⟩:=bt.1 l;simp only[eP]at eZ;obtain⟨K,L,M⟩:=eZ;have m:aU (w.alloc (.cells news.toArray E)) B E k A c n G:=y.keep ((aV _ w).alloc (al _) _)
 refine tK (w.alloc (.cells news.toArray E)) C s x t V B E i z k bytes ht hi K L M D R _ _ _ hs m ⟨w.1.size,0,none⟩ 1 1 news Y (by rw[I];omega)
  (λj u hu=>?_) X (by unfold maxLen;omega) ?_ cr ?_
 have e:(⟨w.1.size,0,none⟩:Addr).add j=⟨w.1.size,j,none⟩:=by rw[cn,cf]
 rw[e,(az.new w E news.toArray).cell j];simpa using hu;have:=fS (n+1) F;omega;intro v' w' r hg _ hn;rcases r.2 with⟨hv,h0⟩|⟨g,cap,Z,hv,hBg,qp,EU,WT,JT,WU⟩;omega;rw[hv]at r hn⊢;refine h _ _ _ r ⟨?_,by have:=hg.size;simp at this;omega,λb hb N=>?_,λU e=>?_⟩ (by have:=hg.size;simp at this;omega);exact((aV 0 w).alloc (aM _) _).grown hg om (λk R=>aM _);rw[hg.block b cr ?_,nj _ _ _ hb];rw[c5];intro e;obtain⟨U,O,rfl⟩:=bt.1 e.symm;exact N U O rfl;injection e with e;subst e;rw[c5,c5]at hn;rcases hn with hn|hn;have⟨ad0,h3,h4⟩:=bt.1 hn.symm;exact .inl ⟨ad0,h3,h4.symm⟩;right;simp at hn;show w.1.size<=g;omega
def iL{rest:List Oper}{o:Oper}(r:o.guard=none)(s x:Operand)(t:TypeId)
  (z:o.op=.call {callee:=.builtin .append,args:= #[s,x],argTypes:= #[t,t]}) (E:TypeId) (ht:P.underlying t=some (.slice E))
  (b:(P.info? E).map (λi=>(i.zero,i.size,i.bytes))=some (some (.int .i64 0),1,8))
  (B:Nat) (A:bF) (c:Nat) (zs:au) (hs:a.eval s=.slice A zs c) (e:aB w B E A c zs) (y:Int)
  (C:a.eval x=.slice w.1.size 1 1) (j:zs.length<=100000000) (D:B<=w.1.size)
  (h:∀l m w',aB w' B E l m (zs++[y])->dm A l w w'->w.1.size<w'.1.size->wpList P ops Q rest (a.put o.dst (.slice l (zs.length+1) m)) w'):
  wpList P ops Q (o::rest) a (w.alloc (.cells #[y] E)):=
 kM r s x t z E ht 1 8 _ b rfl am am B A c zs.length (zs.map (Value.int .i64)) hs e [.int .i64 y] rfl (λu hu=>by rw[cZ.1 hu];rfl) C j D λl m w' F G I=>by
 refine h l m w' ?_ G I;unfold aB;rw[bh,c9];exact F
end
section
variable{F':Nat->Prop}{p:World}{b m:Nat}
structure Kf(F F':Nat->Prop)(w w':World):Prop where
 base:Below 0 w w'
 size:w.1.size<=w'.1.size
 keep:∀b,b<w.1.size->¬F b->w'.heap[b]?=w.heap[b]?
 new:∀b,F' b->F b\/w.1.size<=b
def AF(A:bF)(b:Nat):Prop:=∃e,A=some e/\e.block=b
section
variable{F F2 G G':Nat->Prop}
def Kf.trans(h:Kf F F' w w')(e:Kf F' F2 w' u):Kf F F2 w u:=
 ⟨h.base.trans e.base,aL h.size e.size,λb hb l=>(e.keep b (bu hb h.size) λr=>(h.new b r).elim l λj=>absurd hb (hC.2 j)).trans (h.keep b hb l),
  λb hb=>(e.new b hb).elim (h.new b) λj=>.inr (aL h.size j)⟩
def Kf.refl(F)(w):Kf F F w w:=⟨aV _ _,al _,λ_ _ _=>rfl,λ_ h=>.inl h⟩
def Kf.later(F)[l:aT w w']:Kf F F w w':=⟨l.st.mono (aM _),l.st.size,λb hb _=>l.st.block b hb,λ_ h=>.inl h⟩
def Kf.more(h:Kf F F' w w')(j:∀b,F b->G b)(e:∀b,G' b->F' b\/G b\/w.1.size<=b):Kf G G' w w':=
 ⟨h.base,h.size,λb hb l=>h.keep b hb λr=>l (j b r),λb hb=>by
  rcases e b hb with h1|h1|h1
  .exact(h.new b h1).imp (j b) id
  .exact .inl h1
  .exact .inr h1⟩
theorem Kf.prev(h:Kf F F' w w')[l:aT p w](hF:∀b,F b->p.1.size<=b):aj w' p:=
 ⟨(l.st.mono (al _)).trans ⟨h.base.os,h.base.tape,h.base.output,h.size,λb hb=>h.keep b (bu hb l.st.size) λe=>absurd hb (hC.2 (hF b e))⟩⟩
def Kf.ak(h:Kf F F' w w')(o:az w g T cs)(hg:¬F g):az w' g T cs:=(h.keep g o.lt hg).trans o
def Kf.row(h:Kf F F' w w')(r:aU w B E k A c n vs)(l:∀b,AF A b->¬F b):aU w' B E k A c n vs:=r.same λj e=>h.keep _ (r.lt j e) (l _ ⟨j,e,rfl⟩)
def Kf.own(h:Kf F F' w w')(r:aB w B E A c zs)(l:∀b,AF A b->¬F b):aB w' B E A c zs:=r.same λj e=>h.keep _ (r.lt j e) (l _ ⟨j,e,rfl⟩)
def Kf.rd(h:Kf F F' w w')(r:Rd w A zs)(l:∀b,AF A b->¬F b):Rd w' A zs:=λj z y=>by
 have⟨b,off,e,hb,hc⟩:=r j z y;refine⟨b,off,e,bu hb h.size,?_⟩;rw[<-hc];exact d9 (h.keep b hb (l b ⟨_,e,rfl⟩))
theorem Kf.sl(h:Kf F F' w w')(r:Sl w A n zs)(e:∀b,AF A b->¬F b):Sl w' A n zs:=⟨h.rd r.rd e,r.len⟩
def Kf.jt(h:dm A A' w w'):Kf (AF A) (AF A') w w':=
 ⟨h.base,h.size,λb hb r=>h.off b hb λl e j=>r ⟨l,e,j⟩,λb ⟨l,e,j⟩=>by
  rcases h.new l e with⟨a0,y,z⟩|h1
  .exact .inl ⟨a0,y,by rw[<-z,j]⟩
  .exact .inr (by rw[<-j];exact h1)⟩
def Kf.av(h:Kf F F' w w'){q:Addr}(hq:F' q.block)(v):Kf F F' w (w'.setCell q v):=
 ⟨h.base.setCell (p:=q) (aM _) v,by have:=h.size;simpa using this,λb hb j=>by
  rw[ba w' q v b λe=>by
   subst e;exact(h.new _ hq).elim j λl=>absurd hb (hC.2 l)]
  exact h.keep b hb j,h.new⟩
def Kf.alloc(h:Kf F F' w w')(o):Kf F F' w (w'.alloc o):=⟨h.base.alloc (aM _) o,by have:=h.size;simp;omega,λb hb e=>(nj w' o b (bu hb h.size)).trans (h.keep b hb e),h.new⟩
def aU.af(h:aU w B E k A c n vs)(hb:AF A b):B<=b/\b<w.1.size/\∃j,w.heap[b]?=some (.cells j E (0,0)):=by
 obtain⟨r,e,rfl⟩:=hb;rcases h.form with⟨rfl,_⟩|⟨g,j,rfl,l,hg,_⟩;cases e;injection e with e;subst e;exact⟨l,(dP.1 hg).1,j,hg⟩
def aB.af(h:aB w B E A c zs)(hb:AF A b):B<=b/\b<w.1.size/\∃e,w.heap[b]?=some (.cells e E (0,0)):=aU.af (k:=1) h hb
def dw{o:Nat}:AF (some ⟨g,o,none⟩) b↔g=b:=⟨λ⟨j,e,h⟩=>by cases e;exact h,λh=>⟨_,rfl,h⟩⟩
end
end
variable{M i:Nat}{xs:List Int}
structure gj where
 h:Int
 fr:Nat
 wd:Nat
structure kX(bs:List gj)(N:Nat):Prop where
 pw:bs.Pairwise λb c=>b.fr+b.wd<=c.fr
 bd:∀b∈bs,1<=b.wd/\b.fr+b.wd<=N
def d4(bs:List gj)(i:Nat):Nat:=if i=0 then 0 else(bs[i-1]?.map λb=>b.fr+b.wd).getD 0
def cont(cs:au)(b:gj):List Int:=(cs.drop b.fr).take b.wd
def jO(cs:au)(p:Nat)(xs:au):List Int:=cs.take p++xs++cs.drop (p+xs.length)
variable{bs:List gj}{N p:Nat}{b c x:gj}{cs:List Int}
def kY(h:p+xs.length<=cs.length):(jO cs p xs).length=cs.length:=by simp[jO];omega
def M2(h:p+xs.length<=cs.length):(jO cs p xs)[k]?=if p<=k/\k<p+xs.length then xs[k-p]? else cs[k]?:=by
 unfold jO;by_cases e:k<p;rw[ag om,eO,lK cr,eG,ah e];by_cases l:k<p+xs.length;rw[ah ⟨om,l⟩,lK cr,eE cr];simp;congr 1;omega;rw[ag om,eE cr,fb];simp;congr 1;omega
def oD:(cont cs b)[k]?=if k<b.wd then cs[b.fr+k]? else none:=by
 unfold cont;rw[eG,fb]
def jj(h:b.fr+b.wd<=cs.length):(cont cs b).length=b.wd:=by simp[cont];omega
def vj(h:p+xs.length<=cs.length)(e:b.fr+b.wd<=p\/p+xs.length<=b.fr):cont (jO cs p xs) b=cont cs b:=by
 apply fZ;intro k;rw[oD,oD];split;rw[M2 h,ag om];rfl
def y2(h:p+xs.length<=cs.length)(e:b.fr=p)(l:b.wd=xs.length):cont (jO cs p xs) b=xs:=by
 apply fZ;intro k;rw[oD];split;rw[M2 h,ah om];congr 1;omega;rw[fc om]
def Om(h:b.fr+b.wd<=cs.length):cont (cs++xs) b=cont cs b:=by
 apply fZ;intro k;rw[oD,oD];split;rw[lK om];rfl
def kX.lt(h:kX bs N)(e:i<j)(hi:bs[i]?=some b)(l:bs[j]?=some c):b.fr+b.wd<=c.fr:=by
 obtain⟨m,rfl⟩:=a8.1 hi;obtain⟨r,rfl⟩:=a8.1 l;exact(nS.1 h.pw) i j m r e
def mo(h:bs[i]?=some b):d4 bs (i+1)=b.fr+b.wd:=by
 unfold d4;rw[ag om,show i+1-1=i from om,h];rfl
def kX.W6(h:kX bs N)(hi:i<=bs.length):d4 bs i<=N:=by
 match i with
 |0=>exact aM _
 |i+1=>have e:=a5 (show i<bs.length by omega);rw[mo e];exact(h.bd _ (aC e)).2
def kX.ahead(h:kX bs N)(r:j<i)(m:bs[j]?=some b)(hi:i<=bs.length):b.fr+b.wd<=d4 bs i:=by
 obtain⟨i,rfl⟩:∃k,i=k+1:=⟨i-1,om⟩;have e:=a5 (show i<bs.length by omega);rw[mo e];by_cases l:j=i;subst l;rw[m]at e;injection e with e;rw[<-e];exact al _;have:=h.lt (show j<i by omega) m e;omega
def kX.behind(h:kX bs N)(m:i<=j)(hi:bs[i]?=some b)(l:bs[j]?=some c):b.fr<=c.fr:=by
 by_cases e:i=j;subst e;rw[hi]at l;injection l with l;rw[l];exact al _;have:=h.lt (show i<j by omega) hi l;omega
def kX.E0(h:kX bs N)(hi:bs[i]?=some b):d4 bs i<=b.fr:=by
 match i with
 |0=>exact aM _
 |i+1=>have l:=(a8.1 hi).1;have e:=a5 (show i<bs.length by omega);rw[mo e];exact h.lt (o9 i) e hi
def t2{α:Type}{L:List α}{y:α}(h:y∈L.take i):∃k,k<i/\L[k]?=some y:=by
 have⟨k,hk⟩:=eN h;rw[eG]at hk;split at hk;exact⟨k,by assumption,hk⟩;cases hk
def t5{α:Type}{L:List α}{y:α}(h:y∈L.drop i):∃k,i<=k/\L[k]?=some y:=by
 have⟨k,hk⟩:=eN h;rw[fb]at hk;exact⟨i+k,om,hk⟩
def kX.ins(h:kX bs N)(hN:N<=M)(hi:i<=bs.length)(z:d4 bs i<=x.fr)(m:∀b,bs[i]?=some b->x.fr+x.wd<=b.fr)(r:x.fr+x.wd<=M)(u:1<=x.wd):kX (bs.take i++x::bs.drop i) M:=by
 refine⟨?_,λb hb=>?_⟩;have hp:=h.pw;rw[<-dC i bs,nh]at hp;rw[nh,iE];have y:∀b∈bs.take i,b.fr+b.wd<=x.fr:=λb hb=>by have⟨k,hk,e⟩:=t2 hb;have:=h.ahead hk e hi;omega
 refine⟨hp.1,⟨λc hc=>?_,hp.2.1⟩,λb hb c hc=>?_⟩;have⟨k,hk,e⟩:=t5 hc;have B:=(a8.1 e).1;have l:=a5 (show i<bs.length by omega);have:=m _ l;have:=h.behind hk l e;omega;rcases cw.1 hc with rfl|hc;exact y b hb;exact hp.2.2 b hb c hc;rcases bM.1 hb with hb|hb;have:=h.bd b (cE hb);omega;rcases cw.1 hb with rfl|hb;exact⟨u,r⟩;have:=h.bd b (dA hb);omega
def kX.del(h:kX bs N):kX (bs.take i++bs.drop (i+1)) N:=by
 have hs:(bs.take i++bs.drop (i+1)).Sublist bs:=by (conv=>rhs;rw[<-dC i bs]);exact xV (xT bs (cz i)) _
 exact⟨h.pw.sublist hs,λb hb=>h.bd b (hs.subset hb)⟩
def kX.move(h:kX bs N)(hi:bs[i]?=some b){t:Nat}(C:d4 bs i<=t)(D:t<=b.fr):kX (bs.set i ⟨b.h,t,b.wd⟩) N:=by
 have z:=(a8.1 hi).1;have hb:=h.bd b (aC hi);refine⟨?_,λc B=>?_⟩
 .rw[nS];intro j k r l m;rw[d3]at r l;rw[tJ,tJ];have u:=a5 r;have y:=a5 l;split;rename_i e;subst e;rw[ag om];have:=h.lt m hi y;dsimp only;omega;split;rename_i e;subst e;have:=h.ahead m u om;dsimp only;omega;exact h.lt m u y
 have⟨k,l⟩:=eN B;by_cases e:i=k;subst e;rw[fF z]at l;injection l with l;subst l;dsimp only;omega;rw[kH e]at l;exact h.bd c (aC l)
variable{fr pk wd:Nat}{h:Int}{ys:List Int}
structure da where
 cap:Nat
 cs:List Int
 bs:List gj
 mp:List (Int×Int)
 pk:Nat
 nx:Nat
 lv:Nat
 hi:Nat
 pe:Nat
 mv:Nat
structure cy(v:da):Prop where
 lay:kX v.bs v.cs.length
 cl:v.cs.length<=v.cap
 cap:v.cap<=16777216
 hi:v.hi<=v.cap
 lv:v.lv=(v.bs.map (·.wd)).sum
 hd:v.bs.Pairwise λb c=>b.h≠c.h
 hb:∀b∈v.bs,1<=b.h/\b.h<=v.nx
 pk:v.pk<=v.bs.length
 wF:(v.mp.map (·.1)).Nodup
 B2:∀b∈v.bs,(b.h,(b.fr:Int))∈v.mp
 J6:∀e∈v.mp,∃b∈v.bs,e=(b.h,(b.fr:Int))
def dE(v:da)(h:Int)(xs:au):Prop:=∃b∈v.bs,b.h=h/\cont v.cs b=xs
def pj(mp:List (Int×Int))(h z:Int):List (Int×Int):=mp.map λe=>if e.1=h then(h,z)else e
variable{v:da}
def Hd(mp)(h z):(pj mp h z).map (·.1)=mp.map (·.1):=by
 unfold pj;rw[lT];refine iA λe _=>?_;show(if e.1=h then(h,z)else e).1=e.1;split;rename_i h;exact h.symm;rfl
def W7{N:Nat}:∀(e:Nat),e<=N->(∀b∈bs,e<=b.fr)->kX bs N->e+(bs.map (·.wd)).sum<=N:=by
 induction bs with
 |nil=>intro e m _ _;simpa using m
 |cons b t u=>intro e m y j;have hb:=j.bd b cm;have r:=iE.1 j.pw;have:=u (b.fr+b.wd) hb.2 (λc l=>r.1 c l) ⟨r.2,λc l=>j.bd c (dp _ l)⟩;have:=y b cm;simp only[di,fY];omega
def cy.y3(hv:cy v):v.lv<=v.cs.length:=by
 rw[hv.lv];have:=W7 (bs:=v.bs) (N:=v.cs.length) 0 (aM _) (λ_ _=>aM _) hv.lay;omega
def da.move(v:da)(i:Nat)(b:gj)(t:Nat):da:={v with cs:=jO v.cs t (cont v.cs b),bs:=v.bs.set i ⟨b.h,t,b.wd⟩,mp:=pj v.mp b.h t}
def He(hi:bs[i]?=some b){x:gj}(j:x.wd=b.wd):(bs.set i x).map (·.wd)=bs.map (·.wd):=by
 rw[jJ,j];apply fZ;intro k;rw[iD];split;rename_i e;subst e;rw[bf,hi];have:=(a8.1 hi).1;simp[this];rfl
def cy.move(hv:cy v)(hi:v.bs[i]?=some b){t:Nat}(E:d4 v.bs i<=t)(F:t<=b.fr):cy (v.move i b t):=by
 have hm:=aC hi;have hb:=hv.lay.bd b hm;have D:=(a8.1 hi).1;have z:(jO v.cs t (cont v.cs b)).length=v.cs.length:=kY (by rw[jj hb.2];omega);have mem:∀c,c∈v.bs.set i ⟨b.h,t,b.wd⟩->c=⟨b.h,t,b.wd⟩\/(c∈v.bs/\c.h≠b.h):=λc m=>by have⟨k,l⟩:=eN m;by_cases r:i=k;subst r;rw[fF D]at l;injection l with l;exact .inl l.symm;rw[kH r]at l;refine .inr ⟨aC l,λe=>?_⟩;have⟨g1,e1⟩:=a8.1 hi;have⟨g2,e2⟩:=a8.1 l;have hp:=nS.1 hv.hd;rcases ru r with bE|bE;exact hp i k g1 g2 bE (by rw[e1,e2,e]);exact hp k i g2 g1 bE (by rw[e1,e2,e])
 refine⟨?_,?_,hv.cap,hv.hi,?_,?_,λc m=>?_,?_,?_,λc m=>?_,λe G=>?_⟩;show kX (v.bs.set i ⟨b.h,t,b.wd⟩) (jO v.cs t (cont v.cs b)).length;rw[z];exact hv.lay.move hi E F;show(jO v.cs t (cont v.cs b)).length<=v.cap;rw[z];exact hv.cl;show v.lv=((v.bs.set i ⟨b.h,t,b.wd⟩).map (·.wd)).sum;rw[He hi (by rfl)];exact hv.lv
 .show(v.bs.set i ⟨b.h,t,b.wd⟩).Pairwise λb c=>b.h≠c.h;rw[nS];intro j k B l u;have hp:=nS.1 hv.hd;have⟨g1,e1⟩:=a8.1 hi;rw[d3]at B l;rw[tJ,tJ];split;rename_i e;subst e;rw[ag om];have:=hp i k B l u;rw[e1]at this;exact this;split;rename_i e;subst e;have:=hp j i B l u;rw[e1]at this;exact this;exact hp j k B l u
 rcases mem c m with rfl|⟨m,_⟩;exact hv.hb b hm;exact hv.hb c m;show v.pk<=(v.bs.set i ⟨b.h,t,b.wd⟩).length;rw[d3];exact hv.pk;show((pj v.mp b.h t).map (·.1)).Nodup;rw[Hd];exact hv.wF;show(c.h,(c.fr:Int))∈pj v.mp b.h t;unfold pj;rcases mem c m with rfl|⟨m,r⟩;exact bw.2 ⟨_,hv.B2 b hm,ah rfl⟩;exact bw.2 ⟨_,hv.B2 c m,ag r⟩;obtain⟨I,C,rfl⟩:=bw.1 (show e∈v.mp.map λe=>if e.1=b.h then(b.h,(t:Int))else e from G);obtain⟨c,m,rfl⟩:=hv.J6 I C;by_cases y:c.h=b.h;refine⟨⟨b.h,t,b.wd⟩,?_,ah y⟩;exact aC (i:=i) (by show(v.bs.set i _)[i]?=_;rw[fF D]);refine⟨c,?_,ag y⟩;have⟨k,l⟩:=eN m;refine aC (i:=k) ?_;show(v.bs.set i _)[k]?=_;rw[kH (λe=>by subst e;rw[hi]at l;injection l with l;exact y (by rw[l]))];exact l
def dE.move(hv:cy v)(l:dE v h xs)(hi:v.bs[i]?=some b){t:Nat}(r:d4 v.bs i<=t)(u:t<=b.fr):dE (v.move i b t) h xs:=by
 have hm:=aC hi;have hb:=hv.lay.bd b hm;have m:=(a8.1 hi).1;have j:=jj hb.2;have⟨c,hc,e1,e2⟩:=l;have⟨k,hk⟩:=eN hc;by_cases e:i=k;subst e;rw[hi]at hk;obtain rfl:=cH hk;refine⟨⟨b.h,t,b.wd⟩,aC (i:=i) (by show(v.bs.set i _)[i]?=_;rw[fF m]),e1,?_⟩;exact(y2 (cs:=v.cs) (p:=t) (xs:=cont v.cs b) (b:=⟨b.h,t,b.wd⟩) om rfl j.symm).trans e2;refine⟨c,aC (i:=k) (by show(v.bs.set i _)[k]?=_;rw[kH e];exact hk),e1,?_⟩;show cont (jO v.cs t (cont v.cs b)) c=xs;rw[vj om,e2];rcases ru e with bE|bE;have:=hv.lay.lt bE hi hk;omega;have:=hv.lay.ahead bE hk om;omega
def da.p8(v:da)(i fr wd pk:Nat):da:=
 {v with cs:=jO (v.cs++List.replicate (fr+wd-v.cs.length) 0) fr (List.replicate wd 0),bs:=v.bs.take i++⟨(v.nx:Int)+1,fr,wd⟩::v.bs.drop i,mp:=v.mp++[((v.nx:Int)+1,(fr:Int))],pk:=pk,nx:=v.nx+1,lv:=v.lv+wd,hi:=max v.hi (fr+wd),pe:=max v.pe (v.lv+wd)}
def cy.p8(hv:cy v){i:Nat}(hi:i<=v.bs.length)(u:d4 v.bs i<=fr)(y:∀b,v.bs[i]?=some b->fr+wd<=b.fr)(D:fr+wd<=v.cap)(z:1<=wd)(hp:pk<=v.bs.length+1):cy (v.p8 i fr wd pk):=by
 have m:(jO (v.cs++List.replicate (fr+wd-v.cs.length) 0) fr (List.replicate wd 0)).length=max v.cs.length (fr+wd):=by rw[kY cr];simp;omega
 have j:∀b∈v.bs,b.h≠(v.nx:Int)+1:=λb hb=>by have:=hv.hb b hb;omega
 refine⟨?_,?_,hv.cap,?_,?_,?_,λc hc=>?_,?_,?_,λc hc=>?_,λe he=>?_⟩;show kX (v.bs.take i++⟨(v.nx:Int)+1,fr,wd⟩::v.bs.drop i) (jO _ fr (List.replicate wd 0)).length;rw[m];exact hv.lay.ins (Nat.le_max_left _ _) hi u y (Nat.le_max_right _ _) z;show(jO _ fr (List.replicate wd 0)).length<=v.cap;rw[m];have:=hv.cl;omega;show max v.hi (fr+wd)<=v.cap;have:=hv.hi;omega;show v.lv+wd=((v.bs.take i++⟨(v.nx:Int)+1,fr,wd⟩::v.bs.drop i).map (·.wd)).sum;have e:(v.bs.map (·.wd)).sum=((v.bs.take i).map (·.wd)).sum+((v.bs.drop i).map (·.wd)).sum:=by (conv=>lhs;rw[<-dC i v.bs]);rw[c9,nk]
 rw[hv.lv,e];simp;omega;show(v.bs.take i++⟨(v.nx:Int)+1,fr,wd⟩::v.bs.drop i).Pairwise λb c=>b.h≠c.h;have hp:=hv.hd;rw[<-dC i v.bs,nh]at hp;rw[nh,iE];refine⟨hp.1,⟨λc hc=>(j c (dA hc)).symm,hp.2.1⟩,λb hb c hc=>?_⟩;rcases cw.1 hc with rfl|hc;exact j b (cE hb);exact hp.2.2 b hb c hc;have l:c∈v.bs.take i++⟨(v.nx:Int)+1,fr,wd⟩::v.bs.drop i:=hc;show 1<=c.h/\c.h<=((v.nx+1:Nat):Int);rcases bM.1 l with hc|hc;have:=hv.hb c (cE hc);omega;rcases cw.1 hc with rfl|hc;dsimp only;omega;have:=hv.hb c (dA hc);omega;show pk<=(v.bs.take i++⟨(v.nx:Int)+1,fr,wd⟩::v.bs.drop i).length;simp;omega;show((v.mp++[((v.nx:Int)+1,(fr:Int))]).map (·.1)).Nodup;rw[c9,rr];refine⟨hv.wF,aD,λa B b hb e=>?_⟩;obtain⟨x,C,rfl⟩:=bw.1 B;obtain⟨c,hc,rfl⟩:=hv.J6 x C;simp at hb;exact j c hc (by rw[<-hb];exact e);show(c.h,(c.fr:Int))∈v.mp++[((v.nx:Int)+1,(fr:Int))];have l:c∈v.bs.take i++⟨(v.nx:Int)+1,fr,wd⟩::v.bs.drop i:=hc;rcases bM.1 l with hc|hc;exact nb _ (hv.B2 c (cE hc));rcases cw.1 hc with rfl|hc;simp;exact nb _ (hv.B2 c (dA hc));show∃b∈v.bs.take i++⟨(v.nx:Int)+1,fr,wd⟩::v.bs.drop i,e=(b.h,(b.fr:Int));have r:e∈v.mp++[((v.nx:Int)+1,(fr:Int))]:=he;rcases bM.1 r with he|he;obtain⟨b,hb,rfl⟩:=hv.J6 e he;refine⟨b,?_,rfl⟩;rw[<-dC i v.bs]at hb;rcases bM.1 hb with hb|hb;exact nb _ hb;exact nf _ (dp _ hb);exact⟨_,nf _ cm,by simpa using he⟩
def dE.p8(hv:cy v)(l:dE v h xs){i:Nat}(hi:i<=v.bs.length)(r:d4 v.bs i<=fr)(m:∀b,v.bs[i]?=some b->fr+wd<=b.fr):dE (v.p8 i fr wd pk) h xs:=by
 have⟨c,hc,e1,e2⟩:=l;have hb:=hv.lay.bd c hc;refine⟨c,?_,e1,?_⟩;show c∈v.bs.take i++⟨(v.nx:Int)+1,fr,wd⟩::v.bs.drop i;rw[<-dC i v.bs]at hc;rcases bM.1 hc with hb|hb;exact nb _ hb;exact nf _ (dp _ hb);show cont (jO (v.cs++List.replicate (fr+wd-v.cs.length) 0) fr (List.replicate wd 0)) c=xs;rw[vj cr,Om hb.2,e2];rw[eY];have⟨k,hk⟩:=eN hc;by_cases e:k<i;have:=hv.lay.ahead e hk hi;omega;have u:=(a8.1 hk).1;have j:=a5 (show i<v.bs.length by omega);have:=m _ j;have:=hv.lay.behind (show i<=k by omega) j hk;omega
def dE.RK{i:Nat}:dE (v.p8 i fr wd pk) ((v.nx:Int)+1) (List.replicate wd 0):=by
 refine⟨⟨(v.nx:Int)+1,fr,wd⟩,nf _ cm,rfl,?_⟩;exact y2 cr rfl aD
def da.free(v:da)(i:Nat)(b:gj):da:={v with bs:=v.bs.take i++v.bs.drop (i+1),mp:=v.mp.filter λe=>e.1 !=b.h,pk:=min v.pk i,lv:=v.lv-b.wd}
def jk{α:Type}{L:List α}{y:α}(h:L[i]?=some y):L=L.take i++y::L.drop (i+1):=by
 have⟨hl,e⟩:=a8.1 h;rw[<-e,<-ed hl,dC]
def cy.rest(hv:cy v)(hi:v.bs[i]?=some b){c:gj}:c∈v.bs.take i++v.bs.drop (i+1)↔c∈v.bs/\c.h≠b.h:=by
 have hd:=hv.hd;rw[jk hi,nh,iE]at hd;constructor;intro hc;rcases bM.1 hc with hc|hc;exact⟨cE hc,hd.2.2 c hc b cm⟩;exact⟨dA hc,(hd.2.1.1 c hc).symm⟩;rintro⟨hc,e⟩;rw[jk hi]at hc;rcases bM.1 hc with hc|hc;exact nb _ hc;rcases cw.1 hc with rfl|hc;exact absurd rfl e;exact nf _ hc
def cy.free(hv:cy v)(hi:v.bs[i]?=some b):cy (v.free i b):=by
 have m:=(a8.1 hi).1;refine⟨hv.lay.del,hv.cl,hv.cap,hv.hi,?_,?_,λc j=>hv.hb c ((hv.rest hi).1 j).1,?_,?_,λc j=>?_,λe l=>?_⟩;show v.lv-b.wd=((v.bs.take i++v.bs.drop (i+1)).map (·.wd)).sum;have e:(v.bs.map (·.wd)).sum=((v.bs.take i).map (·.wd)).sum+(b.wd+((v.bs.drop (i+1)).map (·.wd)).sum):=by (conv=>lhs;rw[jk hi]);simp
 rw[hv.lv,e];simp;omega;have hs:(v.bs.take i++v.bs.drop (i+1)).Sublist v.bs:=by (conv=>rhs;rw[<-dC i v.bs]);exact xV (xT v.bs (cz i)) _
 exact hv.hd.sublist hs;show min v.pk i<=(v.bs.take i++v.bs.drop (i+1)).length;simp;omega;show((v.mp.filter λe=>e.1 !=b.h).map (·.1)).Nodup;exact hv.wF.sublist (List.filter_sublist.map _);have⟨h1,h2⟩:=(hv.rest hi).1 j;exact rx.2 ⟨hv.B2 c h1,by simpa using h2⟩;have⟨h1,h2⟩:=rx.1 (show e∈v.mp.filter λe=>e.1 !=b.h from l);obtain⟨c,j,rfl⟩:=hv.J6 e h1;exact⟨c,(hv.rest hi).2 ⟨j,by simpa using h2⟩,rfl⟩
def dE.free(hv:cy v)(hi:v.bs[i]?=some b)(j:dE v h xs)(e:h≠b.h):dE (v.free i b) h xs:=by
 have⟨c,hc,e1,e2⟩:=j;exact⟨c,(hv.rest hi).2 ⟨hc,by rw[e1];exact e⟩,e1,e2⟩
def da.put(v:da)(b:gj)(xs:au):da:={v with cs:=jO v.cs b.fr xs}
def cy.put(hv:cy v)(hb:b∈v.bs)(j:xs.length=b.wd):cy (v.put b xs):=by
 have l:=(hv.lay.bd b hb).2;have e:(jO v.cs b.fr xs).length=v.cs.length:=kY om;exact⟨by show kX v.bs (jO v.cs b.fr xs).length;rw[e];exact hv.lay,by show(jO v.cs b.fr xs).length<=v.cap;rw[e];exact hv.cl,hv.cap,hv.hi,hv.lv,hv.hd,hv.hb,hv.pk,hv.wF,hv.B2,hv.J6⟩
def dE.put(hv:cy v)(hb:b∈v.bs)(e:xs.length=b.wd):dE (v.put b xs) b.h xs:=
 ⟨b,hb,rfl,y2 (by have:=(hv.lay.bd b hb).2;omega) rfl e.symm⟩
def dE.W8(hv:cy v)(hb:b∈v.bs)(y:xs.length=b.wd)(u:dE v h ys)(m:h≠b.h):dE (v.put b xs) h ys:=by
 have⟨c,hc,e1,e2⟩:=u;have z:=(hv.lay.bd b hb).2;refine⟨c,hc,e1,?_⟩;show cont (jO v.cs b.fr xs) c=ys;rw[vj om,e2];have⟨i,hi⟩:=eN hb;have⟨j,l⟩:=eN hc;have r:i≠j:=λe=>by subst e;rw[hi]at l;injection l with l;exact m (by rw[<-e1,l])
 rcases ru r with bE|bE;have:=hv.lay.lt bE hi l;omega;have:=hv.lay.lt bE l hi;omega
variable{id z:Int}{m:Nat}{s':Bool}
abbrev Tb:=List (Int×Int)
def hX(t:Tb)(k:Int):Nat:=t.countP λe=>decide (e.1<k)
def hY(t:Tb)(k h:Int):Tb:=t.take (hX t k)++(k,h)::t.drop (hX t k)
def qy(t:Tb)(k:Int):Tb:=t.take (hX t k)++t.drop (hX t k+1)
def iF(t:Tb)(k:Int):Bool:=t.any λe=>decide (e.1=k)
def hZ(t:Tb):Prop:=t.Pairwise λa b=>a.1<b.1
structure nY(A A':da):Prop where
 ok:cy A'
 has:∀h xs,dE A h xs->dE A' h xs
 nx:A'.nx=A.nx
 cap:A'.cap=A.cap
 lv:A'.lv=A.lv
 pe:A'.pe=A.pe
structure wG(A:da)(wd:Nat)(A':da):Prop where
 ok:cy A'
 has:∀h xs,dE A h xs->dE A' h xs
 new:dE A' ((A.nx:Int)+1) (List.replicate wd 0)
 nx:A'.nx=A.nx+1
 cap:A'.cap=A.cap
 lv:A'.lv=A.lv+wd
 pe:A'.pe=max A.pe (A.lv+wd)
structure M3(A:da)(h:Int)(xs:List Int)(A':da):Prop where
 ok:cy A'
 has:∀k ys,k≠h->dE A k ys->dE A' k ys
 new:dE A' h xs
 nx:A'.nx=A.nx
 cap:A'.cap=A.cap
 lv:A'.lv=A.lv
 pe:A'.pe=A.pe
structure E1(A:da)(h:Int)(n:Nat)(A':da):Prop where
 ok:cy A'
 has:∀k ys,k≠h->dE A k ys->dE A' k ys
 nx:A'.nx=A.nx
 cap:A'.cap=A.cap
 lv:A'.lv+n=A.lv
 pe:A'.pe=A.pe
structure cV(A:da)(tb:Bool->Tb)(T:Bool->Int->Option (List Int)):Prop where
 ar:cy A
 so:∀s,hZ (tb s)
 hs:∀s,∀e∈tb s,∃xs,T s e.1=some xs/\dE A e.2 xs
 th:∀s id xs,T s id=some xs->∃h,(id,h)∈tb s
 inj:∀s s' e f,e∈tb s->f∈tb s'->e.2=f.2->s=s'/\e=f
def h0{α:Type}(f:Bool->α)(s:Bool)(v:α):Bool->α:=λb=>if b=s then v else f b
def eW(T:Bool->Int->Option (List Int))(s:Bool)(id:Int)(v:Option (List Int)):Bool->Int->Option (List Int):=λe b=>if e=s/\b=id then v else T e b
variable{A A' A2:da}{t:Tb}{k:Int}{e:Int×Int}{tb:Bool->Tb}{T:Bool->Int->Option (List Int)}{s:Bool}
def CV{t:Tb}(h:∀e∈t,k<=e.1):hX t k=0:=by
 unfold hX;rw[ya];intro e j;have:=h e j;simp;omega
def pm{t:Tb}(h:e.1<k):hX (e::t) k=hX t k+1:=by
 unfold hX;rw[MP (by simpa using h)]
def zAm(h:Γ:=by rcases cw.1 hf with rfl|hf;omega;have:=(iE.1 hr).1 f hf;omega):=h
def t6{t:Tb}(hr:hZ (e::t))(h:¬e.1<k):hX (e::t) k=0:=by
 refine CV λf hf=>?_;exact zAm
def M4(t)(k):hX t k<=t.length:=tC
def y4:∀{t:Tb},hZ t->(∀e∈t.take (hX t k),e.1<k)/\∀e∈t.drop (hX t k),k<=e.1
 |[],_=>aD
 |e::t,hr=>by by_cases h:e.1<k;have⟨h1,h2⟩:=y4 (t:=t) (iE.1 hr).2;rw[pm h,fX,iB];refine⟨λf hf=>?_,h2⟩;rcases cw.1 hf with rfl|hf;exact h;exact h1 f hf;rw[t6 hr h];refine⟨aD,λf hf=>?_⟩;rw[fo]at hf;exact zAm
def oE:∀{t:Tb},hZ t->(k,h)∈t->t[hX t k]?=some (k,h)
 |[],_,hm=>by cases hm
 |e::t,hr,hm=>by rcases cw.1 hm with rfl|hm;rw[t6 hr (by dsimp only;omega)];rfl;have:=(iE.1 hr).1 _ hm;rw[pm this,o5];exact oE (iE.1 hr).2 hm
def sJ:e∈hY t k h↔e=(k,h)\/e∈t:=by
 unfold hY;rw[bM,cw];constructor;rintro(h1|h1|h1);exact .inr (cE h1);exact .inl h1;exact .inr (dA h1);rintro(h1|h1);exact .inr (.inl h1);rw[<-dC (hX t k) t,bM]at h1;rcases h1 with h1|h1;exact .inl h1;exact .inr (.inr h1)
def wH(hr:hZ t)(l:∀h,(k,h)∉t):hZ (hY t k h):=by
 have⟨h1,h2⟩:=y4 (k:=k) hr;have hp:hZ (t.take (hX t k)++t.drop (hX t k)):=by rw[dC];exact hr
 unfold hZ at hp;rw[nh]at hp;unfold hY hZ;rw[nh,iE];refine⟨hp.1,⟨λf hf=>?_,hp.2.1⟩,λa j f hf=>?_⟩;have:=h2 f hf;have m:f.1≠k:=λe=>l f.2 (by rw[<-e];exact dA hf);dsimp only;omega;rcases cw.1 hf with rfl|hf;exact h1 a j;exact hp.2.2 a j f hf
def y5:(hY t k h).length=t.length+1:=by
 have:=M4 t k;unfold hY;simp;omega
def CW(hr:hZ t)(hm:(k,h)∈t):t=t.take (hX t k)++(k,h)::t.drop (hX t k+1):=jk (oE hr hm)
def J7(hr:hZ t)(hm:(k,h)∈t):e∈qy t k↔e∈t/\e.1≠k:=by
 have hp:=hr;rw[CW hr hm]at hp;unfold hZ at hp;rw[nh,iE]at hp;unfold qy;constructor;intro he;rcases bM.1 he with he|he;have:=hp.2.2 e he (k,h) cm;exact⟨List.mem_of_mem_take he,by dsimp only at this;omega⟩;have:=hp.2.1.1 e he;exact⟨List.mem_of_mem_drop he,by dsimp only at this;omega⟩;rintro⟨he,j⟩;rw[CW hr hm]at he;rcases bM.1 he with he|he;exact nb _ he;rcases cw.1 he with rfl|he;exact absurd rfl j;exact nf _ he
def Hf(hr:hZ t):hZ (qy t k):=by
 have hs:(t.take (hX t k)++t.drop (hX t k+1)).Sublist t:=by (conv=>rhs;rw[<-dC (hX t k) t]);exact xV (xT t (cz _)) _
 exact List.Pairwise.sublist hs hr
def mq:iF t k=true↔∃h,(k,h)∈t:=by
 unfold iF;rw[Ej];constructor;rintro⟨e,j,h⟩;exact⟨e.2,by rw[<-(by simpa using h:e.1=k)];exact j⟩;rintro⟨h,hm⟩;exact⟨_,hm,aD⟩
def vk:iF t k=false↔∀h,(k,h)∉t:=by
 rw[EH];unfold Ne;rw[mq];exact⟨λj h hm=>j ⟨h,hm⟩,λj ⟨h,hm⟩=>j h hm⟩
def dE.le(hv:cy A)(j:dE A h xs):1<=h/\h<=A.nx:=by
 obtain⟨b,hb,rfl,_⟩:=j;exact hv.hb b hb
def nY.refl(h:cy A):nY A A:=⟨h,λ_ _ h=>h,rfl,rfl,rfl,rfl⟩
def nY.trans(h:nY A A')(j:nY A' A2):nY A A2:=⟨j.ok,λk xs l=>j.has k xs (h.has k xs l),j.nx.trans h.nx,j.cap.trans h.cap,j.lv.trans h.lv,j.pe.trans h.pe⟩
def nY.move(hv:cy A)(hi:A.bs[i]?=some b){t:Nat}(j:d4 A.bs i<=t)(l:t<=b.fr):nY A (A.move i b t):=⟨hv.move hi j l,λ_ _ m=>m.move hv hi j l,rfl,rfl,rfl,rfl⟩
def da.hc(A:da)(p m:Nat):da:={A with pk:=p,mv:=m}
def nY.hc(hv:cy A){p:Nat}(hp:p<=A.bs.length):nY A (A.hc p m):=⟨⟨hv.lay,hv.cl,hv.cap,hv.hi,hv.lv,hv.hd,hv.hb,hp,hv.wF,hv.B2,hv.J6⟩,λ_ _ h=>h,rfl,rfl,rfl,rfl⟩
def wG.of(hm:nY A A'){i wd:Nat}(hi:i<=A'.bs.length)(j:d4 A'.bs i<=fr)(l:∀b,A'.bs[i]?=some b->fr+wd<=b.fr)(m:fr+wd<=A'.cap)(r:1<=wd)(hp:pk<=A'.bs.length+1):wG A wd (A'.p8 i fr wd pk):=by
 refine⟨hm.ok.p8 hi j l m r hp,λh xs u=>(hm.has h xs u).p8 hm.ok hi j l,?_,?_,hm.cap,?_,?_⟩;rw[<-hm.nx];exact dE.RK;show A'.nx+1=_;rw[hm.nx];show A'.lv+wd=_;rw[hm.lv];show max A'.pe (A'.lv+wd)=_;rw[hm.lv,hm.pe]
def M3.of(hv:cy A)(hb:b∈A.bs)(j:xs.length=b.wd):M3 A b.h xs (A.put b xs):=⟨hv.put hb j,λ_ _ l m=>m.W8 hv hb j l,dE.put hv hb j,rfl,rfl,rfl,rfl⟩
def E1.of(hv:cy A)(hi:A.bs[i]?=some b):E1 A b.h b.wd (A.free i b):=by
 refine⟨hv.free hi,λ_ _ j l=>l.free hv hi j,rfl,rfl,?_,rfl⟩;show A.lv-b.wd+b.wd=A.lv;have:b.wd<=A.lv:=by rw[hv.lv,jk hi];simp;omega
 omega
def ga{α:Type}{f:Bool->α}{v:α}:h0 f s v s=v:=ah rfl
def gX{α:Type}{f:Bool->α}{v:α}(h:s'≠s):h0 f s v s'=f s':=ag h
def h6{v:Option (List Int)}:eW T s id v s id=v:=ah ⟨rfl,rfl⟩
def eb{v:Option (List Int)}(h:¬(s'=s/\z=id)):eW T s id v s' z=T s' z:=ag h
def cV.handle(h:cV A tb T)(j:T s id=some xs):∃z,(id,z)∈tb s/\dE A z xs:=by
 have⟨z,hz⟩:=h.th s id xs j;have⟨ys,h1,h2⟩:=h.hs s _ hz;rw[j]at h1;obtain rfl:=cH h1;exact⟨z,hz,h2⟩
def cV.has(h:cV A tb T):iF (tb s) id=true↔∃xs,T s id=some xs:=by
 rw[mq];constructor;rintro⟨z,j⟩;have⟨xs,h1,_⟩:=h.hs s _ j;exact⟨xs,h1⟩;rintro⟨xs,l⟩;exact h.th s id xs l
def cV.no(h:cV A tb T)(j:T s id=none)(z):(id,z)∉tb s:=λhm=>by
 have⟨xs,h1,_⟩:=h.hs s _ hm;rw[j]at h1;cases h1
def cV.p8(h:cV A tb T)(G:T s id=none)(hg:wG A wd A'):cV A' (h0 tb s (hY (tb s) id ((A.nx:Int)+1))) (eW T s id (some (List.replicate wd 0))):=by
 have l:∀j e,e∈h0 tb s (hY (tb s) id ((A.nx:Int)+1)) j->(j=s/\e=(id,(A.nx:Int)+1))\/(e∈tb j/\¬(j=s/\e.1=id)):=λj e he=>by by_cases hs:j=s;subst hs;rw[ga,sJ]at he;rcases he with he|he;exact .inl ⟨rfl,he⟩;exact .inr ⟨he,λu=>h.no G e.2 (by rw[<-u.2];exact he)⟩;rw[gX hs]at he;exact .inr ⟨he,λu=>hs u.1⟩
 have y:∀j e,e∈tb j->e.2≠(A.nx:Int)+1:=λj e he=>by have⟨xs,_,h2⟩:=h.hs j e he;have:=h2.le h.ar;omega
 refine⟨hg.ok,λj=>?_,λj e he=>?_,λj i xs I=>?_,λD s2 e f he J m=>?_⟩;by_cases hs:j=s;subst hs;rw[ga];exact wH (h.so _) λz=>h.no G z;rw[gX hs];exact h.so j;rcases l j e he with⟨rfl,rfl⟩|⟨he,E⟩;exact⟨_,h6,hg.new⟩;have⟨xs,h1,h2⟩:=h.hs j e he;exact⟨xs,by rw[eb E];exact h1,hg.has _ _ h2⟩;by_cases u:j=s/\i=id;obtain⟨rfl,rfl⟩:=u;exact⟨(A.nx:Int)+1,by rw[ga,sJ];exact .inl rfl⟩;rw[eb u]at I;have⟨z,hz⟩:=h.th j i xs I;refine⟨z,?_⟩;by_cases hs:j=s;subst hs;rw[ga,sJ];exact .inr hz;rw[gX hs];exact hz;have F:=l D e he;have B:=l s2 f J;rcases F with⟨rfl,rfl⟩|⟨C,_⟩;rcases B with⟨rfl,rfl⟩|⟨r,_⟩;exact⟨rfl,rfl⟩;exact absurd m.symm (y s2 f r);rcases B with⟨rfl,rfl⟩|⟨r,_⟩;exact absurd m (y D e C);exact h.inj D s2 e f C r m
def cV.put(h:cV A tb T)(u:(id,z)∈tb s)(hp:M3 A z xs A'):cV A' tb (eW T s id (some xs)):=by
 refine⟨hp.ok,h.so,λj e r=>?_,λj i ys B=>?_,h.inj⟩;by_cases m:j=s/\e.1=id;obtain⟨rfl,rfl⟩:=m;have⟨ys,h1,h2⟩:=h.hs j e r;have l:e=(e.1,z):=by rcases EP (e.2=z)with h3|h3;rw[<-h3];exfalso;have y:=oE (h.so j) u;have C:=oE (k:=e.1) (h:=e.2) (h.so j) r;rw[y]at C;exact h3 (cq Prod.snd (cH C)).symm
 have D:e.2=z:=cq Prod.snd l;exact⟨xs,h6,by rw[D];exact hp.new⟩;have⟨ys,h1,h2⟩:=h.hs j e r;refine⟨ys,by rw[eb m];exact h1,hp.has _ _ (λl=>m ?_) h2⟩;have⟨h3,y⟩:=h.inj j s e (id,z) r u l;exact⟨h3,cq Prod.fst y⟩;by_cases m:j=s/\i=id;obtain⟨rfl,rfl⟩:=m;exact⟨z,u⟩;rw[eb m]at B;exact h.th j i ys B
def cV.free(h:cV A tb T)(E:(id,z)∈tb s)(hp:E1 A z n A'):cV A' (h0 tb s (qy (tb s) id)) (eW T s id Option.none):=by
 have l:∀j e,e∈h0 tb s (qy (tb s) id) j↔e∈tb j/\¬(j=s/\e.1=id):=λj e=>by by_cases hs:j=s;subst hs;rw[ga,J7 (h.so _) E];exact⟨λ⟨m,y⟩=>⟨m,λr=>y r.2⟩,λ⟨m,y⟩=>⟨m,λr=>y ⟨rfl,r⟩⟩⟩;rw[gX hs];exact⟨λm=>⟨m,λr=>hs r.1⟩,λm=>m.1⟩
 refine⟨hp.ok,λj=>?_,λj e u=>?_,λj i xs B=>?_,λF s2 e f u G C=>?_⟩;by_cases hs:j=s;subst hs;rw[ga];exact Hf (h.so _);rw[gX hs];exact h.so j;have⟨u,js⟩:=(l j e).1 u;have⟨xs,m,y⟩:=h.hs j e u;refine⟨xs,by rw[eb js];exact m,hp.has _ _ (λD=>js ?_) y⟩;have⟨h3,h4⟩:=h.inj j s e (id,z) u E D;exact⟨h3,cq Prod.fst h4⟩;by_cases r:j=s/\i=id;obtain⟨rfl,rfl⟩:=r;rw[h6]at B;cases B;rw[eb r]at B;have⟨z',xb⟩:=h.th j i xs B;exact⟨z',(l j _).2 ⟨xb,r⟩⟩;exact h.inj F s2 e f ((l F e).1 u).1 ((l s2 f).1 G).1 C
end Go.Proofs.YtmkjnlifimffkaaGreat
