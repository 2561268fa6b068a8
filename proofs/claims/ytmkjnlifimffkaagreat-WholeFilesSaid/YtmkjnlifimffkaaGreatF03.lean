/- Lemmas. -/
import Derived.Test.YtmkjnlifimffkaaGreatF02
import Derived.Laws.IdiomCopy
namespace Go.Proofs.YtmkjnlifimffkaaGreat
open Go.RowKit Tryz
set_option linter.all false
set_option maxRecDepth 100000
set_option maxHeartbeats 0
variable{u w':World}{B' c c' g:Nat}{T:TypeId}{A A' A2:Option Addr}{vs:List Value}{zs:List Int}{cur:Array Value}
def aI(w:ay)(B:Nat)(E:TypeId)(k:Nat)(A:cD)(c n:Nat)(b:iP):Prop:=w.ownsRow B E k (A,n,c) n b
structure cP(A A':Option Addr)(w w':World):Prop where
 base:Below 0 w w'
 size:w.1.size<=w'.1.size
 off:∀b,b<w.1.size->(∀ad,A=some ad->ad.block≠b)->w'.heap[b]?=w.heap[b]?
 new:∀Uv,A'=some Uv->(∃ad,A=some ad/\Uv.block=ad.block)\/w.1.size<=Uv.block
section
variable{w:World}{B:Nat}{E:TypeId}{n k:Nat}{xs:List Value}
def cP.below(h:cP A A' w w')(l:∀j,A=some j->B<=j.block)(m:B<=w.1.size):Below B w w':=
 ⟨h.base.os,h.base.tape,h.base.output,h.size,λb hb=>h.off b (bu hb m) λj e=>by have:=l j e;omega⟩
def cP.trans(h:cP A A' w w')(l:cP A' A2 w' u):cP A A2 w u:=
 ⟨h.base.trans l.base,aO h.size l.size,λb hb j=>(l.off b (bu hb h.size) (λm e=>by
  rcases h.new m e with⟨r,C,y⟩|rG
  .rw[y];exact j r C
  .omega)).trans (h.off b hb j),λm e=>by
  rcases l.new m e with⟨z,y,D⟩|rG
  .rw[D];exact h.new z y
  .exact .inr (aO h.size rG)⟩
def aI.form(h:aI w B E k A c n vs):(A=none/\n=0/\c=0/\vs=[])\/∃g cur,A=some ⟨g,0,none⟩/\B<=g/\w.heap[g]?=some (.cells cur E (0,0))/\n<=c/\c<=maxLen/\cur.size=c*k/\cur.toList.take (n*k)=vs:=by
 rcases h.2 with⟨hv,j⟩|⟨g,cap,cur,hv,l,hg,m,hm,r,ht⟩
 .injection hv with b y e
  exact .inl ⟨b,j,e,jY (by have:=h.1;rw[j]at this;simpa using this)⟩
 .injection hv with b y e
  subst e;exact .inr ⟨g,cur,b,l,hg,m,hm,r,ht⟩
def aI.mk'(j:B<=g)(hg:w.heap[g]?=some (.cells cur E (0,0)))(b:n<=c)(hm:c<=maxLen)(e:cur.size=c*k)(ht:cur.toList.take (n*k)=vs):aI w B E k g c n vs:=
 ⟨by rw[<-ht,bB,g5,e];exact dt (hZ _ b),.inr ⟨g,c,cur,rfl,j,hg,b,hm,e,ht⟩⟩
def aI.le(h:aI w B E k A c n vs):n<=c:=by
 rcases h.form with⟨_,rfl,rfl,_⟩|⟨_,_,_,_,_,b,_⟩
 .exact an _
 .exact b
def aI.lt(h:aI w B E k A c n vs):∀b,A=some b->b.block<w.1.size:=by
 rcases h.form with⟨rfl,_⟩|⟨g,cur,rfl,j,hg,_⟩
 .intro b e;cases e
 .intro b e;cases e;exact(eX.1 hg).1
def aI.ge(h:aI w B E k A c n vs):∀b,A=some b->B<=b.block:=by
 rcases h.form with⟨rfl,_⟩|⟨g,cur,rfl,j,hg,_⟩
 .intro b e;cases e
 .intro b e;cases e;exact j
def aI.same(h:aI w B E k A c n vs)(e:∀b,A=some b->w'.heap[b.block]?=w.heap[b.block]?):aI w' B E k A c n vs:=by
 rcases h.form with⟨rfl,rfl,rfl,rfl⟩|⟨g,cur,rfl,j,hg,l,hm,m,ht⟩
 .exact⟨aG,.inl ⟨rfl,rfl⟩⟩
 .exact .mk' j ((e _ rfl).trans hg) l hm m ht
def aI.keep(h:aI w B E k A c n vs)(hb:Below w.1.size w w'):aI w' B E k A c n vs:=h.same λb e=>hb.block _ (h.lt b e)
def aI.at(h:aI w B E k A c n vs)[l:aF w w']:aI w' B E k A c n vs:=h.keep l.st
def aI.less(h:aI w B E k A c n vs)(b:B'<=B):aI w B' E k A c n vs:=by
 rcases h.form with⟨rfl,rfl,rfl,rfl⟩|⟨g,cur,rfl,hb,hg,e,hm,j,ht⟩
 .exact⟨aG,.inl ⟨rfl,rfl⟩⟩
 .exact .mk' (aO b hb) hg e hm j ht
def aI.cell(h:aI w B E k A c n vs){j:Nat}{v:Value}(b:vs[j]?=some v):∃g,A=some ⟨g,0,none⟩/\w.cell? (g,j)=some v:=by
 rcases h.form with⟨rfl,rfl,rfl,rfl⟩|⟨g,cur,rfl,l,hg,m,hm,r,ht⟩
 .simp at b
 .refine⟨g,rfl,?_⟩;have e:cur[j]?=some v:=by
   rw[<-ht,eY]at b
   split at b
   .simpa using b
   .cases b
  simp[World.cell?,hg,e]
def aI.hD(h:aI w B E k A c n vs)(m:cP A' A2 w w')(b:∀a a',A=some a->A'=some a'->a'.block≠a.block):aI w' B E k A c n vs:=
 h.same λl e=>m.off _ (h.lt l e) λj r=>b l j e r
def cP.own{zs:av}(h:cP A A' w w')(o:Own w g T zs)(b:∀e,A=some e->e.block≠g):Own w' g T zs:=(h.off g o.lt b).trans o
def cP.al{cs:eL}(h:cP A A' w w')(o:aB w g T cs)(b:∀e,A=some e->e.block≠g):aB w' g T cs:=(h.off g o.lt b).trans o
def qU(cur:eL):Nat->List Value->Array Value
 |_,[]=>cur
 |o,v::r=>qU (cur.setIfInBounds o v) (o+1) r
def gb:∀(vs:iP) (cur:eL) (o:Nat),(qU cur o vs).size=cur.size
 |[],_,_=>rfl
 |v::r,cur,o=>by rw[qU,gb r];simp
def gH:∀(vs:iP) (cur:eL) (o:Nat),o+vs.length<=cur.size->(qU cur o vs).toList=cur.toList.take o++vs++cur.toList.drop (o+vs.length)
 |[],cur,o,_=>by simp[qU]
 |v::r,cur,o,h=>by
  simp at h;rw[qU,gH r _ _ bY];rw[pX,Cp,ah om,vI bY,vO (an o)];simp[r6];omega
def d3(b):∀(vs:iP) (o:Nat) (w:ay) (cur:eL) (T:TypeId) (e:Nat×Nat),w.heap[b]?=some (.cells cur T e)->(w.setCells b o vs).heap[b]?=some (.cells (qU cur o vs) T e)
 |[],_,_,_,_,_,h=>h
 |v::r,o,w,cur,T,e,h=>by
  rw[World.setCells,qU];refine d3 b r (o+1) _ _ T e ?_;simp[World.setCell,qO,h]
def lZ(b){x:Nat}(e:x≠b):∀(vs:iP) (o:Nat) (w:ay),(w.setCells b o vs).heap[x]?=w.heap[x]?
 |[],_,_=>rfl
 |v::r,o,w=>by rw[World.setCells,lZ b e r];exact bm w ⟨b,o,none⟩ v x e
def pb(b):∀(vs:iP) (o:Nat) (w:ay),(w.setCells b o vs).1.size=w.1.size
 |[],_,_=>rfl
 |v::r,o,w=>by rw[World.setCells,pb b r];simp
def cP.setCells(o)(vs)(l:A=some ⟨g,0,none⟩)(h:cP A A w w'):cP A A w (w'.setCells g o vs):=
 ⟨eP (n:=0) (g:=g) (aT _) vs o h.base,by rw[pb];exact h.size,λb hb j=>by
  rw[lZ g (λe=>j _ l (by rw[e]))];exact h.off b hb j,h.new⟩
def cP.refl(A)(w):cP A A w w:=⟨aY _ _,an _,λ_ _ _=>rfl,λb e=>.inl ⟨b,e,rfl⟩⟩
def cP.drewN(h:cP A A' w w')(q):cP A A' w (w'.drewN q):=⟨below_drewN h.base q,h.size,h.off,h.new⟩
def cP.drew(h:cP A A' w w'):cP A A' w w'.drew:=⟨h.base.drew,h.size,h.off,h.new⟩
def cP.fresh(hb:Below w.1.size w w')(hg:w.1.size<=g):cP A g w w':=
 ⟨hb.mono (aT _),hb.size,λb j _=>hb.block b j,λl e=>by cases e;exact .inr hg⟩
def HA{cur:eL}{cs vs:iP}{a:Nat}(e:a<=cs.length)(b:cur.toList.take cs.length=cs)(hr:cs.length+vs.length<=cur.size):
  (qU (qU cur (a+vs.length) (cs.drop a)) a vs).toList.take (cs.length+vs.length)=cs.take a++vs++cs.drop a:=by
 have hs:cur.toList.length=cur.size:=g5;rw[gH _ _ _ (by rw[gb];omega),gH _ _ _ (by rw[dZ];omega)];have j:(cur.toList.take (a+vs.length)++cs.drop a++cur.toList.drop (a+vs.length+(cs.drop a).length)).take a=cs.take a:=by
  rw[dg,eK (by rw[bB];omega),ez,dt om]
  conv=>rhs;rw[<-b]
  rw[ez,dt e]
 have l:(cur.toList.take (a+vs.length)++cs.drop a++cur.toList.drop (a+vs.length+(cs.drop a).length)).drop (a+vs.length)=cs.drop a++cur.toList.drop (a+vs.length+(cs.drop a).length):=by
  rw[dg,nt (by rw[bB];omega)]
 rw[j,l,<-dg,eK bY,bR bY]
def Pf{cur:eL}{cs vs:iP}(b:cur.toList.take cs.length=cs)(hr:cs.length+vs.length<=cur.size):(qU cur cs.length vs).toList.take (cs.length+vs.length)=cs++vs:=by
 rw[gH _ _ _ hr,b,eK aG,bR aG]
def LQ{cs vs Z:iP}{cur:eL}{a:Nat}(l:a<=cs.length)(b:cur.toList=cs.take a++Z)(m:vs.length+(cs.length-a)<=Z.length):
  (qU (qU cur a vs) (a+vs.length) (cs.drop a)).toList.take (cs.length+vs.length)=cs.take a++vs++cs.drop a:=by
 have hs:cur.toList.length=cur.size:=g5;have r:cur.toList.length=a+Z.length:=by rw[b];simp;omega
 rw[gH _ _ _ (by rw[gb,dZ];omega),gH _ _ _ om];have e:cur.toList.take a=cs.take a:=by rw[b,e9 bY]
 have j:(cur.toList.take a++vs++cur.toList.drop (a+vs.length)).take (a+vs.length)=cs.take a++vs:=by
  rw[e9 bY,e]
 rw[j,eK bY,bR bY]
end
section
variable{P:Program}{ops:Array Oper}{a:Act}{Q:Exit->Act->World->Prop}
def b0(A:cD)(n c:Nat):Value.ownBlock (A,n,c)=A.map (·.block):=by cases A<;>rfl
def jz{w:ay}{rest:List Oper}{o:Oper}(C:o.guard=none)(s x:Operand)(t:TypeId)
  (V:o.op=.call {callee:=.builtin .append,args:= #[s,x],argTypes:= #[t,t]}) (E:TypeId) (ht:P.underlying t=some (.slice E)) (k bytes:Nat) (z:Value)
  (l:(P.info? E).map (λi=>(i.zero,i.size,i.bytes))=some (some z,k,bytes)) (D:z.cells.size=k) (R:0<k) (F:bytes<=1000)
  (B:Nat) (A:cD) (c n:Nat) (G:iP) (hs:a.eval s=.slice A n c) (y:aI w B E k A c n G) (news:iP) (I:news.length=k) (X:∀u∈news,u.oneCell'=true)
  (Y:a.eval x=.slice w.1.size 1 1) (S:n<=100000000) (hB:B<=w.1.size)
  (h:∀J T w',aI w' B E k J T (n+1) (G++news)->cP A J w w'->w.1.size<w'.1.size->wpList P ops Q rest (a.put o.dst (.slice J (n+1) T)) w'):
  wpList P ops Q (o::rest) a (w.alloc (.cells news.toArray E)):=by
 have⟨i,hi,fk⟩:=bD.1 l;simp only[dL]at fk;obtain⟨K,L,M⟩:=fk;have m:aI (w.alloc (.cells news.toArray E)) B E k A c n G:=y.keep ((aY _ w).alloc (an _) _);refine vU (w.alloc (.cells news.toArray E)) C s x t V B E i z k bytes ht hi K L M D R _ _ _ hs m ⟨w.1.size,0,none⟩ 1 1 news Y (by rw[I];omega)
  (λj u hu=>?_) X (by unfold maxLen;omega) ?_ bY ?_
 .have e:(⟨w.1.size,0,none⟩:Addr).add j=⟨w.1.size,j,none⟩:=by rw[bQ,bX]
  rw[e,(aB.new w E news.toArray).cell j];simpa using hu
 .have:=pS (n+1) F;omega
 .intro v' w' r hg _ hn;rcases r.2 with⟨hv,h0⟩|⟨g,cap,Z,hv,hBg,Cz,CC,LG,Xw,Xx⟩
  .omega
  .rw[hv]at r hn⊢;refine h _ _ _ r ⟨?_,by have:=hg.size;simp at this;omega,λb hb N=>?_,λU e=>?_⟩ (by have:=hg.size;simp at this;omega)
   .exact((aY 0 w).alloc (aT _) _).grown hg om (λk R=>aT _)
   .rw[hg.block b bY ?_,nj _ _ _ hb];rw[b0];intro e;obtain⟨U,O,rfl⟩:=bD.1 e.symm;exact N U O rfl
   .injection e with e
    subst e;rw[b0,b0]at hn;rcases hn with hn|hn
    .have⟨XH,h3,h4⟩:=bD.1 hn.symm;exact .inl ⟨XH,h3,h4.symm⟩
    .right;simp at hn
     show w.1.size<=g
     omega
def hG{w:ay}{rest:List Oper}{o:Oper}(r:o.guard=none)(s x:Operand)(t:TypeId)
  (z:o.op=.call {callee:=.builtin .append,args:= #[s,x],argTypes:= #[t,t]}) (E:TypeId) (ht:P.underlying t=some (.slice E))
  (b:(P.info? E).map (λi=>(i.zero,i.size,i.bytes))=some (some (.int .i64 0),1,8))
  (B:Nat) (A:cD) (c:Nat) (zs:av) (hs:a.eval s=.slice A zs c) (e:az w B E A c zs) (y:Int)
  (C:a.eval x=.slice w.1.size 1 1) (j:zs.length<=100000000) (D:B<=w.1.size)
  (h:∀l m w',az w' B E l m (zs++[y])->cP A l w w'->w.1.size<w'.1.size->wpList P ops Q rest (a.put o.dst (.slice l (zs.length+1) m)) w'):
  wpList P ops Q (o::rest) a (w.alloc (.cells #[y] E)):=
 jz r s x t z E ht 1 8 _ b rfl ak ak B A c zs.length (zs.map (Value.int .i64)) hs e [.int .i64 y] rfl (λu hu=>by rw[cF.1 hu];rfl) C j D λl m w' F G I=>by
  refine h l m w' ?_ G I;unfold az;rw[a1,cJ];exact F
end
section
variable{F':Nat->Prop}{p:World}{b m:Nat}
structure Kf(F F':Nat->Prop)(w w':World):Prop where
 base:Below 0 w w'
 size:w.1.size<=w'.1.size
 keep:∀b,b<w.1.size->¬F b->w'.heap[b]?=w.heap[b]?
 new:∀b,F' b->F b\/w.1.size<=b
def AF(A:cD)(b:Nat):Prop:=∃e,A=some e/\e.block=b
section
variable{F F2 G G':Nat->Prop}{w:World}{k n B:Nat}{E:TypeId}{cs:Array Value}
def Kf.trans(h:Kf F F' w w')(e:Kf F' F2 w' u):Kf F F2 w u:=
 ⟨h.base.trans e.base,aO h.size e.size,λb hb l=>(e.keep b (bu hb h.size) λr=>(h.new b r).elim l λj=>absurd hb (gw.2 j)).trans (h.keep b hb l),
  λb hb=>(e.new b hb).elim (h.new b) λj=>.inr (aO h.size j)⟩
def Kf.refl(F)(w):Kf F F w w:=⟨aY _ _,an _,λ_ _ _=>rfl,λ_ h=>.inl h⟩
def Kf.later(F)[l:aF w w']:Kf F F w w':=⟨l.st.mono (aT _),l.st.size,λb hb _=>l.st.block b hb,λ_ h=>.inl h⟩
def Kf.more(h:Kf F F' w w')(j:∀b,F b->G b)(e:∀b,G' b->F' b\/G b\/w.1.size<=b):Kf G G' w w':=
 ⟨h.base,h.size,λb hb l=>h.keep b hb λr=>l (j b r),λb hb=>by
  rcases e b hb with h1|h1|h1
  .exact(h.new b h1).imp (j b) id
  .exact .inl h1
  .exact .inr h1⟩
theorem Kf.prev(h:Kf F F' w w')[l:aF p w](hF:∀b,F b->p.1.size<=b):aj w' p:=
 ⟨(l.st.mono (an _)).trans ⟨h.base.os,h.base.tape,h.base.output,h.size,λb hb=>h.keep b (bu hb l.st.size) λe=>absurd hb (gw.2 (hF b e))⟩⟩
def Kf.al(h:Kf F F' w w')(o:aB w g T cs)(hg:¬F g):aB w' g T cs:=(h.keep g o.lt hg).trans o
def Kf.row(h:Kf F F' w w')(r:aI w B E k A c n vs)(l:∀b,AF A b->¬F b):aI w' B E k A c n vs:=r.same λj e=>h.keep _ (r.lt j e) (l _ ⟨j,e,rfl⟩)
def Kf.own(h:Kf F F' w w')(r:az w B E A c zs)(l:∀b,AF A b->¬F b):az w' B E A c zs:=r.same λj e=>h.keep _ (r.lt j e) (l _ ⟨j,e,rfl⟩)
def Kf.rd(h:Kf F F' w w')(r:Rd w A zs)(l:∀b,AF A b->¬F b):Rd w' A zs:=λj z y=>by
 have⟨b,off,e,hb,hc⟩:=r j z y;refine⟨b,off,e,bu hb h.size,?_⟩;rw[<-hc];exact dY (h.keep b hb (l b ⟨_,e,rfl⟩))
theorem Kf.sl(h:Kf F F' w w')(r:Sl w A n zs)(e:∀b,AF A b->¬F b):Sl w' A n zs:=⟨h.rd r.rd e,r.len⟩
def Kf.hD(h:cP A A' w w'):Kf (AF A) (AF A') w w':=
 ⟨h.base,h.size,λb hb r=>h.off b hb λl e j=>r ⟨l,e,j⟩,λb ⟨l,e,j⟩=>by
  rcases h.new l e with⟨a0,y,z⟩|h1
  .exact .inl ⟨a0,y,by rw[<-z,j]⟩
  .exact .inr (by rw[<-j];exact h1)⟩
def Kf.ax(h:Kf F F' w w'){q:Addr}(hq:F' q.block)(v):Kf F F' w (w'.setCell q v):=
 ⟨h.base.setCell (p:=q) (aT _) v,by have:=h.size;simpa using this,λb hb j=>by
  rw[bm w' q v b λe=>by
   subst e;exact(h.new _ hq).elim j λl=>absurd hb (gw.2 l)]
  exact h.keep b hb j,h.new⟩
def Kf.alloc(h:Kf F F' w w')(o):Kf F F' w (w'.alloc o):=⟨h.base.alloc (aT _) o,by have:=h.size;simp;omega,λb hb e=>(nj w' o b (bu hb h.size)).trans (h.keep b hb e),h.new⟩
def aI.af(h:aI w B E k A c n vs)(hb:AF A b):B<=b/\b<w.1.size/\∃j,w.heap[b]?=some (.cells j E (0,0)):=by
 obtain⟨r,e,rfl⟩:=hb;rcases h.form with⟨rfl,_⟩|⟨g,j,rfl,l,hg,_⟩
 .cases e
 .injection e with e
  subst e;exact⟨l,(eX.1 hg).1,j,hg⟩
def az.af(h:az w B E A c zs)(hb:AF A b):B<=b/\b<w.1.size/\∃e,w.heap[b]?=some (.cells e E (0,0)):=aI.af (k:=1) h hb
def d4{o:Nat}:AF (some ⟨g,o,none⟩) b↔g=b:=⟨λ⟨j,e,h⟩=>by cases e;exact h,λh=>⟨_,rfl,h⟩⟩
end
end
variable{M i j:Nat}{xs:List Int}
structure fu where
 h:Int
 fr:Nat
 wd:Nat
structure jK(bs:List fu)(N:Nat):Prop where
 pw:bs.Pairwise λb c=>b.fr+b.wd<=c.fr
 bd:∀b∈bs,1<=b.wd/\b.fr+b.wd<=N
def dA(bs:List fu)(i:Nat):Nat:=if i=0 then 0 else(bs[i-1]?.map λb=>b.fr+b.wd).getD 0
def cont(cs:av)(b:fu):List Int:=(cs.drop b.fr).take b.wd
def iE(cs:av)(p:Nat)(xs:av):List Int:=cs.take p++xs++cs.drop (p+xs.length)
section
variable{bs:List fu}{N p:Nat}{b c x:fu}{cs:List Int}
def jL(h:p+xs.length<=cs.length):(iE cs p xs).length=cs.length:=by simp[iE];omega
def KA{k:Nat}(h:p+xs.length<=cs.length):(iE cs p xs)[k]?=if p<=k/\k<p+xs.length then xs[k-p]? else cs[k]?:=by
 unfold iE;by_cases e:k<p
 .rw[ag om,dg,lI bY,eY,ah e]
 .by_cases l:k<p+xs.length
  .rw[ah ⟨om,l⟩,lI bY,ew bY];simp;congr 1;omega
  .rw[ag om,ew bY,ff];simp;congr 1;omega
def mO{k:Nat}:(cont cs b)[k]?=if k<b.wd then cs[b.fr+k]? else none:=by
 unfold cont;rw[eY,ff]
def ig(h:b.fr+b.wd<=cs.length):(cont cs b).length=b.wd:=by simp[cont];omega
def tw(h:p+xs.length<=cs.length)(e:b.fr+b.wd<=p\/p+xs.length<=b.fr):cont (iE cs p xs) b=cont cs b:=by
 apply ek;intro k;rw[mO,mO]
 split
 .rw[KA h,ag om]
 .rfl
def wY(h:p+xs.length<=cs.length)(e:b.fr=p)(l:b.wd=xs.length):cont (iE cs p xs) b=xs:=by
 apply ek;intro k;rw[mO]
 split
 .rw[KA h,ah om];congr 1;omega
 .rw[c6 om]
def LR(h:b.fr+b.wd<=cs.length):cont (cs++xs) b=cont cs b:=by
 apply ek;intro k;rw[mO,mO]
 split
 .rw[lI om]
 .rfl
def jK.lt(h:jK bs N)(e:i<j)(hi:bs[i]?=some b)(l:bs[j]?=some c):b.fr+b.wd<=c.fr:=by
 obtain⟨m,rfl⟩:=a5.1 hi;obtain⟨r,rfl⟩:=a5.1 l;exact(mn.1 h.pw) i j m r e
def kO(h:bs[i]?=some b):dA bs (i+1)=b.fr+b.wd:=by
 unfold dA;rw[ag om,show i+1-1=i from om,h];rfl
def jK.Uw(h:jK bs N)(hi:i<=bs.length):dA bs i<=N:=by
 match i with
 |0=>exact aT _
 |i+1=>
  have e:=bc (show i<bs.length by omega);rw[kO e];exact(h.bd _ (aC e)).2
def jK.ahead(h:jK bs N)(r:j<i)(m:bs[j]?=some b)(hi:i<=bs.length):b.fr+b.wd<=dA bs i:=by
 obtain⟨i,rfl⟩:∃k,i=k+1:=⟨i-1,om⟩;have e:=bc (show i<bs.length by omega);rw[kO e];by_cases l:j=i
 .subst l;rw[m]at e;injection e with e
  rw[<-e];exact an _
 .have:=h.lt (show j<i by omega) m e;omega
def jK.behind(h:jK bs N)(m:i<=j)(hi:bs[i]?=some b)(l:bs[j]?=some c):b.fr<=c.fr:=by
 by_cases e:i=j
 .subst e;rw[hi]at l;injection l with l
  rw[l];exact an _
 .have:=h.lt (show i<j by omega) hi l;omega
def jK.CL(h:jK bs N)(hi:bs[i]?=some b):dA bs i<=b.fr:=by
 match i with
 |0=>exact aT _
 |i+1=>
  have l:=(a5.1 hi).1;have e:=bc (show i<bs.length by omega);rw[kO e];exact h.lt (p5 i) e hi
def r9{α:Type}{L:List α}{y:α}(h:y∈L.take i):∃k,k<i/\L[k]?=some y:=by
 have⟨k,hk⟩:=eA h;rw[eY]at hk
 split at hk
 .exact⟨k,by assumption,hk⟩
 .cases hk
def sa{α:Type}{L:List α}{y:α}(h:y∈L.drop i):∃k,i<=k/\L[k]?=some y:=by
 have⟨k,hk⟩:=eA h;rw[ff]at hk;exact⟨i+k,om,hk⟩
def jK.ins(h:jK bs N)(hN:N<=M)(hi:i<=bs.length)(z:dA bs i<=x.fr)(m:∀b,bs[i]?=some b->x.fr+x.wd<=b.fr)(r:x.fr+x.wd<=M)(u:1<=x.wd):jK (bs.take i++x::bs.drop i) M:=by
 refine⟨?_,λb hb=>?_⟩
 .have hp:=h.pw;rw[<-de i bs,lM]at hp;rw[lM,g6];have y:∀b∈bs.take i,b.fr+b.wd<=x.fr:=λb hb=>by
   have⟨k,hk,e⟩:=r9 hb;have:=h.ahead hk e hi;omega
  refine⟨hp.1,⟨λc hc=>?_,hp.2.1⟩,λb hb c hc=>?_⟩
  .have⟨k,hk,e⟩:=sa hc;have B:=(a5.1 e).1;have l:=bc (show i<bs.length by omega);have:=m _ l;have:=h.behind hk l e;omega
  .rcases bT.1 hc with rfl|hc
   .exact y b hb
   .exact hp.2.2 b hb c hc
 .rcases bJ.1 hb with hb|hb
  .have:=h.bd b (cG hb);omega
  .rcases bT.1 hb with rfl|hb
   .exact⟨u,r⟩
   .have:=h.bd b (dC hb);omega
def jK.del(h:jK bs N):jK (bs.take i++bs.drop (i+1)) N:=by
 have hs:(bs.take i++bs.drop (i+1)).Sublist bs:=by
  conv=>rhs;rw[<-de i bs]
  exact vM (vL bs (b9 i)) _
 exact⟨h.pw.sublist hs,λb hb=>h.bd b (hs.subset hb)⟩
def jK.move(h:jK bs N)(hi:bs[i]?=some b){t:Nat}(C:dA bs i<=t)(D:t<=b.fr):jK (bs.set i ⟨b.h,t,b.wd⟩) N:=by
 have z:=(a5.1 hi).1;have hb:=h.bd b (aC hi);refine⟨?_,λc B=>?_⟩
 .rw[mn];intro j k r l m;rw[ej]at r l;rw[rU,rU];have u:=bc r;have y:=bc l
  split
  .rename_i e;subst e;rw[ag om];have:=h.lt m hi y;dsimp only;omega
  .split
   .rename_i e;subst e;have:=h.ahead m u om;dsimp only;omega
   .exact h.lt m u y
 .have⟨k,l⟩:=eA B;by_cases e:i=k
  .subst e;rw[h0 z]at l;injection l with l
   subst l;dsimp only;omega
  .rw[lJ e]at l;exact h.bd c (aC l)
end
variable{fr pk wd:Nat}{h:Int}{ys:List Int}{bs:List fu}
structure cB where
 cap:Nat
 cs:List Int
 bs:List fu
 mp:List (Int×Int)
 pk:Nat
 nx:Nat
 lv:Nat
 hi:Nat
 pe:Nat
 mv:Nat
structure bU(v:cB):Prop where
 lay:jK v.bs v.cs.length
 cl:v.cs.length<=v.cap
 cap:v.cap<=16777216
 hi:v.hi<=v.cap
 lv:v.lv=(v.bs.map (·.wd)).sum
 hd:v.bs.Pairwise λb c=>b.h≠c.h
 hb:∀b∈v.bs,1<=b.h/\b.h<=v.nx
 pk:v.pk<=v.bs.length
 uq:(v.mp.map (·.1)).Nodup
 zR:∀b∈v.bs,(b.h,(b.fr:Int))∈v.mp
 HB:∀e∈v.mp,∃b∈v.bs,e=(b.h,(b.fr:Int))
def c9(v:cB)(h:Int)(xs:av):Prop:=∃b∈v.bs,b.h=h/\cont v.cs b=xs
def nH(mp:List (Int×Int))(h z:Int):List (Int×Int):=mp.map λe=>if e.1=h then(h,z)else e
variable{v:cB}{b x:fu}
def Ev(mp)(h z):(nH mp h z).map (·.1)=mp.map (·.1):=by
 unfold nH;rw[p4];refine fj λe _=>?_
 show(if e.1=h then(h,z)else e).1=e.1
 split
 .rename_i h;exact h.symm
 .rfl
def Ux{N:Nat}:∀(e:Nat),e<=N->(∀b∈bs,e<=b.fr)->jK bs N->e+(bs.map (·.wd)).sum<=N:=by
 induction bs with
 |nil=>intro e m _ _;simpa using m
 |cons b t u=>
  intro e m y j;have hb:=j.bd b cm;have r:=g6.1 j.pw;have:=u (b.fr+b.wd) hb.2 (λc l=>r.1 c l) ⟨r.2,λc l=>j.bd c (dl _ l)⟩;have:=y b cm;simp only[dX,iz];omega
def bU.wZ(hv:bU v):v.lv<=v.cs.length:=by
 rw[hv.lv];have:=Ux (bs:=v.bs) (N:=v.cs.length) 0 (aT _) (λ_ _=>aT _) hv.lay;omega
def cB.move(v:cB)(i:Nat)(b:fu)(t:Nat):cB:={v with cs:=iE v.cs t (cont v.cs b),bs:=v.bs.set i ⟨b.h,t,b.wd⟩,mp:=nH v.mp b.h t}
def Ew(hi:bs[i]?=some b){x:fu}(j:x.wd=b.wd):(bs.set i x).map (·.wd)=bs.map (·.wd):=by
 rw[kq,j];apply ek;intro k;rw[eZ]
 split
 .rename_i e;subst e;rw[bj,hi];have:=(a5.1 hi).1;simp[this]
 .rfl
def bU.move(hv:bU v)(hi:v.bs[i]?=some b){t:Nat}(E:dA v.bs i<=t)(F:t<=b.fr):bU (v.move i b t):=by
 have hm:=aC hi;have hb:=hv.lay.bd b hm;have D:=(a5.1 hi).1;have z:(iE v.cs t (cont v.cs b)).length=v.cs.length:=jL (by rw[ig hb.2];omega);have mem:∀c,c∈v.bs.set i ⟨b.h,t,b.wd⟩->c=⟨b.h,t,b.wd⟩\/(c∈v.bs/\c.h≠b.h):=λc m=>by
  have⟨k,l⟩:=eA m;by_cases r:i=k
  .subst r;rw[h0 D]at l;injection l with l;exact .inl l.symm
  .rw[lJ r]at l;refine .inr ⟨aC l,λe=>?_⟩;have⟨g1,e1⟩:=a5.1 hi;have⟨g2,e2⟩:=a5.1 l;have hp:=mn.1 hv.hd;rcases rL r with bK|bK
   .exact hp i k g1 g2 bK (by rw[e1,e2,e])
   .exact hp k i g2 g1 bK (by rw[e1,e2,e])
 refine⟨?_,?_,hv.cap,hv.hi,?_,?_,λc m=>?_,?_,?_,λc m=>?_,λe G=>?_⟩
 .show jK (v.bs.set i ⟨b.h,t,b.wd⟩) (iE v.cs t (cont v.cs b)).length
  rw[z];exact hv.lay.move hi E F
 .show(iE v.cs t (cont v.cs b)).length<=v.cap
  rw[z];exact hv.cl
 .show v.lv=((v.bs.set i ⟨b.h,t,b.wd⟩).map (·.wd)).sum
  rw[Ew hi (by rfl)];exact hv.lv
 .show(v.bs.set i ⟨b.h,t,b.wd⟩).Pairwise λb c=>b.h≠c.h
  rw[mn];intro j k B l u;have hp:=mn.1 hv.hd;have⟨g1,e1⟩:=a5.1 hi;rw[ej]at B l;rw[rU,rU]
  split
  .rename_i e;subst e;rw[ag om];have:=hp i k B l u;rw[e1]at this;exact this
  .split
   .rename_i e;subst e;have:=hp j i B l u;rw[e1]at this;exact this
   .exact hp j k B l u
 .rcases mem c m with rfl|⟨m,_⟩
  .exact hv.hb b hm
  .exact hv.hb c m
 .show v.pk<=(v.bs.set i ⟨b.h,t,b.wd⟩).length
  rw[ej];exact hv.pk
 .show((nH v.mp b.h t).map (·.1)).Nodup
  rw[Ev];exact hv.uq
 .show(c.h,(c.fr:Int))∈nH v.mp b.h t
  unfold nH;rcases mem c m with rfl|⟨m,r⟩
  .exact bC.2 ⟨_,hv.zR b hm,ah rfl⟩
  .exact bC.2 ⟨_,hv.zR c m,ag r⟩
 .obtain⟨I,C,rfl⟩:=bC.1 (show e∈v.mp.map λe=>if e.1=b.h then(b.h,(t:Int))else e from G);obtain⟨c,m,rfl⟩:=hv.HB I C;by_cases y:c.h=b.h
  .refine⟨⟨b.h,t,b.wd⟩,?_,ah y⟩;exact aC (i:=i) (by show(v.bs.set i _)[i]?=_;rw[h0 D])
  .refine⟨c,?_,ag y⟩;have⟨k,l⟩:=eA m;refine aC (i:=k) ?_
   show(v.bs.set i _)[k]?=_
   rw[lJ (λe=>by subst e;rw[hi]at l;injection l with l;exact y (by rw[l]))];exact l
def c9.move(hv:bU v)(l:c9 v h xs)(hi:v.bs[i]?=some b){t:Nat}(r:dA v.bs i<=t)(u:t<=b.fr):c9 (v.move i b t) h xs:=by
 have hm:=aC hi;have hb:=hv.lay.bd b hm;have m:=(a5.1 hi).1;have j:=ig hb.2;have⟨c,hc,e1,e2⟩:=l;have⟨k,hk⟩:=eA hc;by_cases e:i=k
 .subst e;rw[hi]at hk;obtain rfl:=cn hk;refine⟨⟨b.h,t,b.wd⟩,aC (i:=i) (by show(v.bs.set i _)[i]?=_;rw[h0 m]),e1,?_⟩;exact(wY (cs:=v.cs) (p:=t) (xs:=cont v.cs b) (b:=⟨b.h,t,b.wd⟩) om rfl j.symm).trans e2
 .refine⟨c,aC (i:=k) (by show(v.bs.set i _)[k]?=_;rw[lJ e];exact hk),e1,?_⟩
  show cont (iE v.cs t (cont v.cs b)) c=xs
  rw[tw om,e2];rcases rL e with bK|bK
  .have:=hv.lay.lt bK hi hk;omega
  .have:=hv.lay.ahead bK hk om;omega
def cB.oJ(v:cB)(i fr wd pk:Nat):cB:=
 {v with cs:=iE (v.cs++List.replicate (fr+wd-v.cs.length) 0) fr (List.replicate wd 0),bs:=v.bs.take i++⟨(v.nx:Int)+1,fr,wd⟩::v.bs.drop i,mp:=v.mp++[((v.nx:Int)+1,(fr:Int))],pk:=pk,nx:=v.nx+1,lv:=v.lv+wd,hi:=max v.hi (fr+wd),pe:=max v.pe (v.lv+wd)}
def bU.oJ(hv:bU v){i fr wd pk:Nat}(hi:i<=v.bs.length)(u:dA v.bs i<=fr)(y:∀b,v.bs[i]?=some b->fr+wd<=b.fr)(D:fr+wd<=v.cap)(z:1<=wd)(hp:pk<=v.bs.length+1):bU (v.oJ i fr wd pk):=by
 have m:(iE (v.cs++List.replicate (fr+wd-v.cs.length) 0) fr (List.replicate wd 0)).length=max v.cs.length (fr+wd):=by
  rw[jL bY];simp;omega
 have j:∀b∈v.bs,b.h≠(v.nx:Int)+1:=λb hb=>by have:=hv.hb b hb;omega
 refine⟨?_,?_,hv.cap,?_,?_,?_,λc hc=>?_,?_,?_,λc hc=>?_,λe he=>?_⟩
 .show jK (v.bs.take i++⟨(v.nx:Int)+1,fr,wd⟩::v.bs.drop i) (iE _ fr (List.replicate wd 0)).length
  rw[m];exact hv.lay.ins (Nat.le_max_left _ _) hi u y (Nat.le_max_right _ _) z
 .show(iE _ fr (List.replicate wd 0)).length<=v.cap
  rw[m];have:=hv.cl;omega
 .show max v.hi (fr+wd)<=v.cap
  have:=hv.hi;omega
 .show v.lv+wd=((v.bs.take i++⟨(v.nx:Int)+1,fr,wd⟩::v.bs.drop i).map (·.wd)).sum
  have e:(v.bs.map (·.wd)).sum=((v.bs.take i).map (·.wd)).sum+((v.bs.drop i).map (·.wd)).sum:=by
   conv=>lhs;rw[<-de i v.bs]
   rw[cJ,pY]
  rw[hv.lv,e];simp;omega
 .show(v.bs.take i++⟨(v.nx:Int)+1,fr,wd⟩::v.bs.drop i).Pairwise λb c=>b.h≠c.h
  have hp:=hv.hd;rw[<-de i v.bs,lM]at hp;rw[lM,g6];refine⟨hp.1,⟨λc hc=>(j c (dC hc)).symm,hp.2.1⟩,λb hb c hc=>?_⟩;rcases bT.1 hc with rfl|hc
  .exact j b (cG hb)
  .exact hp.2.2 b hb c hc
 .have l:c∈v.bs.take i++⟨(v.nx:Int)+1,fr,wd⟩::v.bs.drop i:=hc
  show 1<=c.h/\c.h<=((v.nx+1:Nat):Int)
  rcases bJ.1 l with hc|hc
  .have:=hv.hb c (cG hc);omega
  .rcases bT.1 hc with rfl|hc
   .dsimp only;omega
   .have:=hv.hb c (dC hc);omega
 .show pk<=(v.bs.take i++⟨(v.nx:Int)+1,fr,wd⟩::v.bs.drop i).length
  simp;omega
 .show((v.mp++[((v.nx:Int)+1,(fr:Int))]).map (·.1)).Nodup
  rw[cJ,pW];refine⟨hv.uq,aG,λa B b hb e=>?_⟩;obtain⟨x,C,rfl⟩:=bC.1 B;obtain⟨c,hc,rfl⟩:=hv.HB x C;simp at hb;exact j c hc (by rw[<-hb];exact e)
 .show(c.h,(c.fr:Int))∈v.mp++[((v.nx:Int)+1,(fr:Int))]
  have l:c∈v.bs.take i++⟨(v.nx:Int)+1,fr,wd⟩::v.bs.drop i:=hc;rcases bJ.1 l with hc|hc
  .exact lK _ (hv.zR c (cG hc))
  .rcases bT.1 hc with rfl|hc
   .simp
   .exact lK _ (hv.zR c (dC hc))
 .show∃b∈v.bs.take i++⟨(v.nx:Int)+1,fr,wd⟩::v.bs.drop i,e=(b.h,(b.fr:Int))
  have r:e∈v.mp++[((v.nx:Int)+1,(fr:Int))]:=he;rcases bJ.1 r with he|he
  .obtain⟨b,hb,rfl⟩:=hv.HB e he;refine⟨b,?_,rfl⟩;rw[<-de i v.bs]at hb;rcases bJ.1 hb with hb|hb
   .exact lK _ hb
   .exact lL _ (dl _ hb)
  .exact⟨_,lL _ cm,by simpa using he⟩
def c9.oJ(hv:bU v)(l:c9 v h xs){i fr wd pk:Nat}(hi:i<=v.bs.length)(r:dA v.bs i<=fr)(m:∀b,v.bs[i]?=some b->fr+wd<=b.fr):c9 (v.oJ i fr wd pk) h xs:=by
 have⟨c,hc,e1,e2⟩:=l;have hb:=hv.lay.bd c hc;refine⟨c,?_,e1,?_⟩
 .show c∈v.bs.take i++⟨(v.nx:Int)+1,fr,wd⟩::v.bs.drop i
  rw[<-de i v.bs]at hc;rcases bJ.1 hc with hb|hb
  .exact lK _ hb
  .exact lL _ (dl _ hb)
 .show cont (iE (v.cs++List.replicate (fr+wd-v.cs.length) 0) fr (List.replicate wd 0)) c=xs
  rw[tw bY,LR hb.2,e2];rw[fg];have⟨k,hk⟩:=eA hc;by_cases e:k<i
  .have:=hv.lay.ahead e hk hi;omega
  .have u:=(a5.1 hk).1;have j:=bc (show i<v.bs.length by omega);have:=m _ j;have:=hv.lay.behind (show i<=k by omega) j hk;omega
def c9.Pg{i:Nat}:c9 (v.oJ i fr wd pk) ((v.nx:Int)+1) (List.replicate wd 0):=by
 refine⟨⟨(v.nx:Int)+1,fr,wd⟩,lL _ cm,rfl,?_⟩;exact wY bY rfl aG
def cB.free(v:cB)(i:Nat)(b:fu):cB:={v with bs:=v.bs.take i++v.bs.drop (i+1),mp:=v.mp.filter λe=>e.1 !=b.h,pk:=min v.pk i,lv:=v.lv-b.wd}
def ih{α:Type}{L:List α}{y:α}(h:L[i]?=some y):L=L.take i++y::L.drop (i+1):=by
 have⟨hl,e⟩:=a5.1 h;rw[<-e,<-ei hl,de]
def bU.rest(hv:bU v)(hi:v.bs[i]?=some b){c:fu}:c∈v.bs.take i++v.bs.drop (i+1)↔c∈v.bs/\c.h≠b.h:=by
 have hd:=hv.hd;rw[ih hi,lM,g6]at hd;constructor
 .intro hc;rcases bJ.1 hc with hc|hc
  .exact⟨cG hc,hd.2.2 c hc b cm⟩
  .exact⟨dC hc,(hd.2.1.1 c hc).symm⟩
 .rintro⟨hc,e⟩;rw[ih hi]at hc;rcases bJ.1 hc with hc|hc
  .exact lK _ hc
  .rcases bT.1 hc with rfl|hc
   .exact absurd rfl e
   .exact lL _ hc
def bU.free(hv:bU v)(hi:v.bs[i]?=some b):bU (v.free i b):=by
 have m:=(a5.1 hi).1;refine⟨hv.lay.del,hv.cl,hv.cap,hv.hi,?_,?_,λc j=>hv.hb c ((hv.rest hi).1 j).1,?_,?_,λc j=>?_,λe l=>?_⟩
 .show v.lv-b.wd=((v.bs.take i++v.bs.drop (i+1)).map (·.wd)).sum
  have e:(v.bs.map (·.wd)).sum=((v.bs.take i).map (·.wd)).sum+(b.wd+((v.bs.drop (i+1)).map (·.wd)).sum):=by
   conv=>lhs;rw[ih hi]
   simp
  rw[hv.lv,e];simp;omega
 .have hs:(v.bs.take i++v.bs.drop (i+1)).Sublist v.bs:=by
   conv=>rhs;rw[<-de i v.bs]
   exact vM (vL v.bs (b9 i)) _
  exact hv.hd.sublist hs
 .show min v.pk i<=(v.bs.take i++v.bs.drop (i+1)).length
  simp;omega
 .show((v.mp.filter λe=>e.1 !=b.h).map (·.1)).Nodup
  exact hv.uq.sublist (List.filter_sublist.map _)
 .have⟨h1,h2⟩:=(hv.rest hi).1 j;exact p2.2 ⟨hv.zR c h1,by simpa using h2⟩
 .have⟨h1,h2⟩:=p2.1 (show e∈v.mp.filter λe=>e.1 !=b.h from l);obtain⟨c,j,rfl⟩:=hv.HB e h1;exact⟨c,(hv.rest hi).2 ⟨j,by simpa using h2⟩,rfl⟩
def c9.free(hv:bU v)(hi:v.bs[i]?=some b)(j:c9 v h xs)(e:h≠b.h):c9 (v.free i b) h xs:=by
 have⟨c,hc,e1,e2⟩:=j;exact⟨c,(hv.rest hi).2 ⟨hc,by rw[e1];exact e⟩,e1,e2⟩
def cB.put(v:cB)(b:fu)(xs:av):cB:={v with cs:=iE v.cs b.fr xs}
def bU.put(hv:bU v)(hb:b∈v.bs)(j:xs.length=b.wd):bU (v.put b xs):=by
 have l:=(hv.lay.bd b hb).2;have e:(iE v.cs b.fr xs).length=v.cs.length:=jL om;exact⟨by show jK v.bs (iE v.cs b.fr xs).length;rw[e];exact hv.lay,by show(iE v.cs b.fr xs).length<=v.cap;rw[e];exact hv.cl,hv.cap,hv.hi,hv.lv,hv.hd,hv.hb,hv.pk,hv.uq,hv.zR,hv.HB⟩
def c9.put(hv:bU v)(hb:b∈v.bs)(e:xs.length=b.wd):c9 (v.put b xs) b.h xs:=
 ⟨b,hb,rfl,wY (by have:=(hv.lay.bd b hb).2;omega) rfl e.symm⟩
def c9.Uy(hv:bU v)(hb:b∈v.bs)(y:xs.length=b.wd)(u:c9 v h ys)(m:h≠b.h):c9 (v.put b xs) h ys:=by
 have⟨c,hc,e1,e2⟩:=u;have z:=(hv.lay.bd b hb).2;refine⟨c,hc,e1,?_⟩
 show cont (iE v.cs b.fr xs) c=ys
 rw[tw om,e2];have⟨i,hi⟩:=eA hb;have⟨j,l⟩:=eA hc;have r:i≠j:=λe=>by subst e;rw[hi]at l;injection l with l;exact m (by rw[<-e1,l])
 rcases rL r with bK|bK
 .have:=hv.lay.lt bK hi l;omega
 .have:=hv.lay.lt bK l hi;omega
variable{id z:Int}{s':Bool}
abbrev Tb:=List (Int×Int)
def gI(t:Tb)(k:Int):Nat:=t.countP λe=>decide (e.1<k)
def gJ(t:Tb)(k h:Int):Tb:=t.take (gI t k)++(k,h)::t.drop (gI t k)
def pc(t:Tb)(k:Int):Tb:=t.take (gI t k)++t.drop (gI t k+1)
def g9(t:Tb)(k:Int):Bool:=t.any λe=>decide (e.1=k)
def gK(t:Tb):Prop:=t.Pairwise λa b=>a.1<b.1
structure mr(A A':cB):Prop where
 ok:bU A'
 has:∀h xs,c9 A h xs->c9 A' h xs
 nx:A'.nx=A.nx
 cap:A'.cap=A.cap
 lv:A'.lv=A.lv
 pe:A'.pe=A.pe
structure ur(A:cB)(wd:Nat)(A':cB):Prop where
 ok:bU A'
 has:∀h xs,c9 A h xs->c9 A' h xs
 new:c9 A' ((A.nx:Int)+1) (List.replicate wd 0)
 nx:A'.nx=A.nx+1
 cap:A'.cap=A.cap
 lv:A'.lv=A.lv+wd
 pe:A'.pe=max A.pe (A.lv+wd)
structure KB(A:cB)(h:Int)(xs:List Int)(A':cB):Prop where
 ok:bU A'
 has:∀k ys,k≠h->c9 A k ys->c9 A' k ys
 new:c9 A' h xs
 nx:A'.nx=A.nx
 cap:A'.cap=A.cap
 lv:A'.lv=A.lv
 pe:A'.pe=A.pe
structure CM(A:cB)(h:Int)(n:Nat)(A':cB):Prop where
 ok:bU A'
 has:∀k ys,k≠h->c9 A k ys->c9 A' k ys
 nx:A'.nx=A.nx
 cap:A'.cap=A.cap
 lv:A'.lv+n=A.lv
 pe:A'.pe=A.pe
structure cr(A:cB)(tb:Bool->Tb)(T:Bool->Int->Option (List Int)):Prop where
 ar:bU A
 so:∀s,gK (tb s)
 hs:∀s,∀e∈tb s,∃xs,T s e.1=some xs/\c9 A e.2 xs
 th:∀s id xs,T s id=some xs->∃h,(id,h)∈tb s
 inj:∀s s' e f,e∈tb s->f∈tb s'->e.2=f.2->s=s'/\e=f
def gL{α:Type}(f:Bool->α)(s:Bool)(v:α):Bool->α:=λb=>if b=s then v else f b
def et(T:Bool->Int->Option (List Int))(s:Bool)(id:Int)(v:Option (List Int)):Bool->Int->Option (List Int):=λe b=>if e=s/\b=id then v else T e b
section
variable{A A' A2:cB}{t:Tb}{k:Int}{e:Int×Int}{tb:Bool->Tb}{T:Bool->Int->Option (List Int)}{s:Bool}{n:Nat}
def AB{t:Tb}(h:∀e∈t,k<=e.1):gI t k=0:=by
 unfold gI;rw[vV];intro e j;have:=h e j;simp;omega
def nJ{t:Tb}(h:e.1<k):gI (e::t) k=gI t k+1:=by
 unfold gI;rw[Kn (by simpa using h)]
def se{t:Tb}(hr:gK (e::t))(h:¬e.1<k):gI (e::t) k=0:=by
 refine AB λf hf=>?_;rcases bT.1 hf with rfl|hf
 .omega
 .have:=(g6.1 hr).1 f hf;omega
def KC(t)(k):gI t k<=t.length:=rM
def w4:∀{t:Tb},gK t->(∀e∈t.take (gI t k),e.1<k)/\∀e∈t.drop (gI t k),k<=e.1
 |[],_=>aG
 |e::t,hr=>by
  by_cases h:e.1<k
  .have⟨h1,h2⟩:=w4 (t:=t) (g6.1 hr).2;rw[nJ h,fh,g4];refine⟨λf hf=>?_,h2⟩;rcases bT.1 hf with rfl|hf
   .exact h
   .exact h1 f hf
  .rw[se hr h];refine⟨aG,λf hf=>?_⟩;rw[eT]at hf;rcases bT.1 hf with rfl|hf
   .omega
   .have:=(g6.1 hr).1 f hf;omega
def mP:∀{t:Tb},gK t->(k,h)∈t->t[gI t k]?=some (k,h)
 |[],_,hm=>by cases hm
 |e::t,hr,hm=>by
  rcases bT.1 hm with rfl|hm
  .rw[se hr (by dsimp only;omega)];rfl
  .have:=(g6.1 hr).1 _ hm;rw[nJ this,nh];exact mP (g6.1 hr).2 hm
def qV:e∈gJ t k h↔e=(k,h)\/e∈t:=by
 unfold gJ;rw[bJ,bT];constructor
 .rintro(h1|h1|h1)
  .exact .inr (cG h1)
  .exact .inl h1
  .exact .inr (dC h1)
 .rintro(h1|h1)
  .exact .inr (.inl h1)
  .rw[<-de (gI t k) t,bJ]at h1;rcases h1 with h1|h1
   .exact .inl h1
   .exact .inr (.inr h1)
def ut(hr:gK t)(l:∀h,(k,h)∉t):gK (gJ t k h):=by
 have⟨h1,h2⟩:=w4 (k:=k) hr;have hp:gK (t.take (gI t k)++t.drop (gI t k)):=by rw[de];exact hr
 unfold gK at hp;rw[lM]at hp;unfold gJ gK;rw[lM,g6];refine⟨hp.1,⟨λf hf=>?_,hp.2.1⟩,λa j f hf=>?_⟩
 .have:=h2 f hf;have m:f.1≠k:=λe=>l f.2 (by rw[<-e];exact dC hf);dsimp only;omega
 .rcases bT.1 hf with rfl|hf
  .exact h1 a j
  .exact hp.2.2 a j f hf
def w5:(gJ t k h).length=t.length+1:=by
 have:=KC t k;unfold gJ;simp;omega
def AD(hr:gK t)(hm:(k,h)∈t):t=t.take (gI t k)++(k,h)::t.drop (gI t k+1):=ih (mP hr hm)
def HC(hr:gK t)(hm:(k,h)∈t):e∈pc t k↔e∈t/\e.1≠k:=by
 have hp:=hr;rw[AD hr hm]at hp;unfold gK at hp;rw[lM,g6]at hp;unfold pc;constructor
 .intro he;rcases bJ.1 he with he|he
  .have:=hp.2.2 e he (k,h) cm;exact⟨List.mem_of_mem_take he,by dsimp only at this;omega⟩
  .have:=hp.2.1.1 e he;exact⟨List.mem_of_mem_drop he,by dsimp only at this;omega⟩
 .rintro⟨he,j⟩;rw[AD hr hm]at he;rcases bJ.1 he with he|he
  .exact lK _ he
  .rcases bT.1 he with rfl|he
   .exact absurd rfl j
   .exact lL _ he
def Ex(hr:gK t):gK (pc t k):=by
 have hs:(t.take (gI t k)++t.drop (gI t k+1)).Sublist t:=by
  conv=>rhs;rw[<-de (gI t k) t]
  exact vM (vL t (b9 _)) _
 exact List.Pairwise.sublist hs hr
def kP:g9 t k=true↔∃h,(k,h)∈t:=by
 unfold g9;rw[B3];constructor
 .rintro⟨e,j,h⟩;exact⟨e.2,by rw[<-(by simpa using h:e.1=k)];exact j⟩
 .rintro⟨h,hm⟩;exact⟨_,hm,aG⟩
def tx:g9 t k=false↔∀h,(k,h)∉t:=by
 rw[Co];unfold Ne;rw[kP];exact⟨λj h hm=>j ⟨h,hm⟩,λj ⟨h,hm⟩=>j h hm⟩
def c9.le(hv:bU A)(j:c9 A h xs):1<=h/\h<=A.nx:=by
 obtain⟨b,hb,rfl,_⟩:=j;exact hv.hb b hb
def mr.refl(h:bU A):mr A A:=⟨h,λ_ _ h=>h,rfl,rfl,rfl,rfl⟩
def mr.trans(h:mr A A')(j:mr A' A2):mr A A2:=⟨j.ok,λk xs l=>j.has k xs (h.has k xs l),j.nx.trans h.nx,j.cap.trans h.cap,j.lv.trans h.lv,j.pe.trans h.pe⟩
def mr.move(hv:bU A)(hi:A.bs[i]?=some b){t:Nat}(j:dA A.bs i<=t)(l:t<=b.fr):mr A (A.move i b t):=⟨hv.move hi j l,λ_ _ m=>m.move hv hi j l,rfl,rfl,rfl,rfl⟩
def cB.gi(A:cB)(p m:Nat):cB:={A with pk:=p,mv:=m}
def mr.gi(hv:bU A){p m:Nat}(hp:p<=A.bs.length):mr A (A.gi p m):=⟨⟨hv.lay,hv.cl,hv.cap,hv.hi,hv.lv,hv.hd,hv.hb,hp,hv.uq,hv.zR,hv.HB⟩,λ_ _ h=>h,rfl,rfl,rfl,rfl⟩
def ur.of(hm:mr A A'){i wd:Nat}(hi:i<=A'.bs.length)(j:dA A'.bs i<=fr)(l:∀b,A'.bs[i]?=some b->fr+wd<=b.fr)(m:fr+wd<=A'.cap)(r:1<=wd)(hp:pk<=A'.bs.length+1):ur A wd (A'.oJ i fr wd pk):=by
 refine⟨hm.ok.oJ hi j l m r hp,λh xs u=>(hm.has h xs u).oJ hm.ok hi j l,?_,?_,hm.cap,?_,?_⟩
 .rw[<-hm.nx];exact c9.Pg
 .show A'.nx+1=_
  rw[hm.nx]
 .show A'.lv+wd=_
  rw[hm.lv]
 .show max A'.pe (A'.lv+wd)=_
  rw[hm.lv,hm.pe]
def KB.of(hv:bU A)(hb:b∈A.bs)(j:xs.length=b.wd):KB A b.h xs (A.put b xs):=⟨hv.put hb j,λ_ _ l m=>m.Uy hv hb j l,c9.put hv hb j,rfl,rfl,rfl,rfl⟩
def CM.of(hv:bU A)(hi:A.bs[i]?=some b):CM A b.h b.wd (A.free i b):=by
 refine⟨hv.free hi,λ_ _ j l=>l.free hv hi j,rfl,rfl,?_,rfl⟩
 show A.lv-b.wd+b.wd=A.lv
 have:b.wd<=A.lv:=by
  rw[hv.lv,ih hi];simp;omega
 omega
def fl{α:Type}{f:Bool->α}{v:α}:gL f s v s=v:=ah rfl
def fX{α:Type}{f:Bool->α}{v:α}(h:s'≠s):gL f s v s'=f s':=ag h
def gM{v:Option (List Int)}:et T s id v s id=v:=ah ⟨rfl,rfl⟩
def dG{v:Option (List Int)}(h:¬(s'=s/\z=id)):et T s id v s' z=T s' z:=ag h
def cr.handle(h:cr A tb T)(j:T s id=some xs):∃z,(id,z)∈tb s/\c9 A z xs:=by
 have⟨z,hz⟩:=h.th s id xs j;have⟨ys,h1,h2⟩:=h.hs s _ hz;rw[j]at h1;obtain rfl:=cn h1;exact⟨z,hz,h2⟩
def cr.has(h:cr A tb T):g9 (tb s) id=true↔∃xs,T s id=some xs:=by
 rw[kP];constructor
 .rintro⟨z,j⟩;have⟨xs,h1,_⟩:=h.hs s _ j;exact⟨xs,h1⟩
 .rintro⟨xs,l⟩;exact h.th s id xs l
def cr.no(h:cr A tb T)(j:T s id=none)(z):(id,z)∉tb s:=λhm=>by
 have⟨xs,h1,_⟩:=h.hs s _ hm;rw[j]at h1;cases h1
def cr.oJ(h:cr A tb T)(G:T s id=none)(hg:ur A wd A'):cr A' (gL tb s (gJ (tb s) id ((A.nx:Int)+1))) (et T s id (some (List.replicate wd 0))):=by
 have l:∀j e,e∈gL tb s (gJ (tb s) id ((A.nx:Int)+1)) j->(j=s/\e=(id,(A.nx:Int)+1))\/(e∈tb j/\¬(j=s/\e.1=id)):=λj e he=>by
  by_cases hs:j=s
  .subst hs;rw[fl,qV]at he;rcases he with he|he
   .exact .inl ⟨rfl,he⟩
   .exact .inr ⟨he,λu=>h.no G e.2 (by rw[<-u.2];exact he)⟩
  .rw[fX hs]at he;exact .inr ⟨he,λu=>hs u.1⟩
 have y:∀j e,e∈tb j->e.2≠(A.nx:Int)+1:=λj e he=>by
  have⟨xs,_,h2⟩:=h.hs j e he;have:=h2.le h.ar;omega
 refine⟨hg.ok,λj=>?_,λj e he=>?_,λj i xs I=>?_,λD s2 e f he J m=>?_⟩
 .by_cases hs:j=s
  .subst hs;rw[fl];exact ut (h.so _) λz=>h.no G z
  .rw[fX hs];exact h.so j
 .rcases l j e he with⟨rfl,rfl⟩|⟨he,E⟩
  .exact⟨_,gM,hg.new⟩
  .have⟨xs,h1,h2⟩:=h.hs j e he;exact⟨xs,by rw[dG E];exact h1,hg.has _ _ h2⟩
 .by_cases u:j=s/\i=id
  .obtain⟨rfl,rfl⟩:=u;exact⟨(A.nx:Int)+1,by rw[fl,qV];exact .inl rfl⟩
  .rw[dG u]at I;have⟨z,hz⟩:=h.th j i xs I;refine⟨z,?_⟩;by_cases hs:j=s
   .subst hs;rw[fl,qV];exact .inr hz
   .rw[fX hs];exact hz
 .have F:=l D e he;have B:=l s2 f J;rcases F with⟨rfl,rfl⟩|⟨C,_⟩
  .rcases B with⟨rfl,rfl⟩|⟨r,_⟩
   .exact⟨rfl,rfl⟩
   .exact absurd m.symm (y s2 f r)
  .rcases B with⟨rfl,rfl⟩|⟨r,_⟩
   .exact absurd m (y D e C)
   .exact h.inj D s2 e f C r m
def cr.put(h:cr A tb T)(u:(id,z)∈tb s)(hp:KB A z xs A'):cr A' tb (et T s id (some xs)):=by
 refine⟨hp.ok,h.so,λj e r=>?_,λj i ys B=>?_,h.inj⟩
 .by_cases m:j=s/\e.1=id
  .obtain⟨rfl,rfl⟩:=m;have⟨ys,h1,h2⟩:=h.hs j e r;have l:e=(e.1,z):=by
    rcases Cv (e.2=z)with h3|h3
    .rw[<-h3]
    .exfalso;have y:=mP (h.so j) u;have C:=mP (k:=e.1) (h:=e.2) (h.so j) r;rw[y]at C;exact h3 (cv Prod.snd (cn C)).symm
   have D:e.2=z:=cv Prod.snd l;exact⟨xs,gM,by rw[D];exact hp.new⟩
  .have⟨ys,h1,h2⟩:=h.hs j e r;refine⟨ys,by rw[dG m];exact h1,hp.has _ _ (λl=>m ?_) h2⟩;have⟨h3,y⟩:=h.inj j s e (id,z) r u l;exact⟨h3,cv Prod.fst y⟩
 .by_cases m:j=s/\i=id
  .obtain⟨rfl,rfl⟩:=m;exact⟨z,u⟩
  .rw[dG m]at B;exact h.th j i ys B
def cr.free(h:cr A tb T)(E:(id,z)∈tb s)(hp:CM A z n A'):cr A' (gL tb s (pc (tb s) id)) (et T s id Option.none):=by
 have l:∀j e,e∈gL tb s (pc (tb s) id) j↔e∈tb j/\¬(j=s/\e.1=id):=λj e=>by
  by_cases hs:j=s
  .subst hs;rw[fl,HC (h.so _) E];exact⟨λ⟨m,y⟩=>⟨m,λr=>y r.2⟩,λ⟨m,y⟩=>⟨m,λr=>y ⟨rfl,r⟩⟩⟩
  .rw[fX hs];exact⟨λm=>⟨m,λr=>hs r.1⟩,λm=>m.1⟩
 refine⟨hp.ok,λj=>?_,λj e u=>?_,λj i xs B=>?_,λF s2 e f u G C=>?_⟩
 .by_cases hs:j=s
  .subst hs;rw[fl];exact Ex (h.so _)
  .rw[fX hs];exact h.so j
 .have⟨u,lA⟩:=(l j e).1 u;have⟨xs,m,y⟩:=h.hs j e u;refine⟨xs,by rw[dG lA];exact m,hp.has _ _ (λD=>lA ?_) y⟩;have⟨h3,h4⟩:=h.inj j s e (id,z) u E D;exact⟨h3,cv Prod.fst h4⟩
 .by_cases r:j=s/\i=id
  .obtain⟨rfl,rfl⟩:=r;rw[gM]at B;cases B
  .rw[dG r]at B;have⟨z',Xy⟩:=h.th j i xs B;exact⟨z',(l j _).2 ⟨Xy,r⟩⟩
 .exact h.inj F s2 e f ((l F e).1 u).1 ((l s2 f).1 G).1 C
end
