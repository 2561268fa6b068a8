/- Lemmas. -/
import Derived.Test.YtmkjnlifimffkaaGreatG01
import Derived.Laws.IdiomCopy
import Derived.Lib.Strings
import Derived.Lib.Slices
import Derived.Lib.Small
import Derived.Lib.Walk
import Derived.Lib.BitFns
import Derived.Deep.DeepCutAuto
import Derived.Shelf.Abstract
import Derived.Lib.AppendZerosOnto
import Derived.Laws.CopyRow
import Derived.Lib.Overlaps
import Derived.Laws.Externs
import Derived.Shelf.RegionOpenPlain
namespace Go.Proofs.YtmkjnlifimffkaaGreat
open Go.RowKit Tryz
set_option linter.all false
set_option maxRecDepth 100000
set_option maxHeartbeats 0
variable{Γ:Prop}
attribute[local irreducible]Calls
variable{u w':World}{B' c c' g:Nat}{T:TypeId}{A A' A2:Option Addr}{vs:List Value}{zs:List Int}{cur:Array Value}
def aT(w:ab)(B:Nat)(E:TypeId)(k:Nat)(A:bz)(c n:Nat)(b:ki):Prop:=w.ownsRow B E k (A,n,c) n b
@[grind cases]structure dj(A A':Option Addr)(w w':World):Prop where
 base:Below 0 w w'
 size:w.1.size<=w'.1.size
 off:∀b,b<w.1.size->(∀ad,A=some ad->ad.block≠b)->w'.heap[b]?=w.heap[b]?
 new:∀ad',A'=some ad'->(∃ad,A=some ad/\ad'.block=ad.block)\/w.1.size<=ad'.block
section
variable{w:World}{B:Nat}{E:TypeId}{n k:Nat}{xs:List Value}
theorem dj.below(h:dj A A' w w')(e:∀b,A=some b->B<=b.block)(j:B<=w.1.size):Below B w w':=
 ⟨h.base.os,h.base.tape,h.base.output,h.size,ay⟩
theorem dj.trans(h:dj A A' w w')(b:dj A' A2 w' u):dj A A2 w u:=
 ⟨h.base.trans b.base,ay,ay,ay⟩
theorem aT.form(h:aT w B E k A c n vs):(A=none/\n=0/\c=0/\vs=[])\/∃g cur,A=some ⟨g,0,none⟩/\B<=g/\w.heap[g]?=some (.cells cur E (0,0))/\n<=c/\c<=maxLen/\cur.size=c*k/\cur.toList.take (n*k)=vs:=by
 rcases h.2 with⟨hv,b⟩|⟨g,cap,cur,hv,l,hg,m,hm,r,ht⟩;injection hv with e y j;exact .inl ⟨e,b,j,pB (by have:=h.1;rw[b]at this;simpa using this)⟩;grind
def aT.mk'(j:B<=g)(hg:w.heap[g]?=some (.cells cur E (0,0)))(b:n<=c)(hm:c<=maxLen)(e:cur.size=c*k)(ht:cur.toList.take (n*k)=vs):aT w B E k g c n vs:=
 ⟨by rw[<-ht,cr,jj,e];exact d5 (cV _ b),.inr ⟨g,c,cur,rfl,j,hg,b,hm,e,ht⟩⟩
theorem aT.le(h:aT w B E k A c n vs):n<=c:=by
 rcases h.form with⟨_,rfl,rfl,_⟩|⟨_,_,_,_,_,b,_⟩;grind;exact b
def zBi(h:Γ:=by rcases h.form with⟨rfl,_⟩|⟨g,cur,rfl,e,hg,_⟩;grind;grind):=h
theorem aT.lt(h:aT w B E k A c n vs):∀b,A=some b->b.block<w.1.size:=by
 exact zBi
theorem aT.ge(h:aT w B E k A c n vs):∀b,A=some b->B<=b.block:=by
 exact zBi
def aT.same(h:aT w B E k A c n vs)(e:∀b,A=some b->w'.heap[b.block]?=w.heap[b.block]?):aT w' B E k A c n vs:=by
 rcases h.form with⟨rfl,rfl,rfl,rfl⟩|⟨g,cur,rfl,j,hg,l,hm,m,ht⟩;exact⟨aI,.inl ⟨rfl,rfl⟩⟩;exact .mk' j ((e _ rfl).trans hg) l hm m ht
def aT.keep(h:aT w B E k A c n vs)(hb:Below w.1.size w w'):aT w' B E k A c n vs:=h.same λb e=>hb.block _ (h.lt b e)
def aT.at(h:aT w B E k A c n vs)[l:aM w w']:aT w' B E k A c n vs:=h.keep l.st
def aT.less(h:aT w B E k A c n vs)(b:B'<=B):aT w B' E k A c n vs:=by
 rcases h.form with⟨rfl,rfl,rfl,rfl⟩|⟨g,cur,rfl,hb,hg,e,hm,j,ht⟩;exact⟨aI,.inl ⟨rfl,rfl⟩⟩;exact .mk' (aQ b hb) hg e hm j ht
def aT.cell(h:aT w B E k A c n vs){j:Nat}{v:Value}(b:vs[j]?=some v):∃g,A=some ⟨g,0,none⟩/\w.cell? (g,j)=some v:=by
 rcases h.form with⟨rfl,rfl,rfl,rfl⟩|⟨g,cur,rfl,l,hg,m,hm,r,ht⟩;simp at b;refine⟨g,rfl,?_⟩;have e:cur[j]?=some v:=by rw[<-ht,ji]at b;split at b;simpa using b;cases b
 simp[World.cell?,hg,e]
theorem aT.jE(h:aT w B E k A c n vs)(b:dj A' A2 w w')(j:∀a a',A=some a->A'=some a'->a'.block≠a.block):aT w' B E k A c n vs:=
 h.same λl e=>b.off _ (h.lt l e) ay
def dj.own{zs:au}(h:dj A A' w w')(o:Own w g T zs)(b:∀e,A=some e->e.block≠g):Own w' g T zs:=(h.off g o.lt b).trans o
def dj.ak{cs:dw}(h:dj A A' w w')(o:aA w g T cs)(b:∀e,A=some e->e.block≠g):aA w' g T cs:=(h.off g o.lt b).trans o
def tV(cur:dw):Nat->List Value->Array Value
 |_,[]=>cur
 |o,v::r=>tV (cur.setIfInBounds o v) (o+1) r
def g9:∀(vs:ki) (cur:dw) (o:Nat),(tV cur o vs).size=cur.size
 |[],_,_=>rfl
 |v::r,cur,o=>by rw[tV,g9 r];simp
theorem hV:∀(vs:ki) (cur:dw) (o:Nat),o+vs.length<=cur.size->(tV cur o vs).toList=cur.toList.take o++vs++cur.toList.drop (o+vs.length)
 |[],cur,o,_=>by simp[tV]
 |v::r,cur,o,h=>by simp at h;rw[tV,hV r _ _ ch];rw[zJ,z8,ah Y,PF ch,sG (al o)];grind
def ey(b):∀(vs:ki) (o:Nat) (w:ab) (cur:dw) (T:TypeId) (e:Nat×Nat),w.heap[b]?=some (.cells cur T e)->(w.setCells b o vs).heap[b]?=some (.cells (tV cur o vs) T e)
 |[],_,_,_,_,_,h=>h
 |v::r,o,w,cur,T,e,h=>by rw[World.setCells,tV];refine ey b r (o+1) _ _ T e ?_;simp[World.setCell,pC,h]
def nS(b){x:Nat}(e:x≠b):∀(vs:ki) (o:Nat) (w:ab),(w.setCells b o vs).heap[x]?=w.heap[x]?
 |[],_,_=>rfl
 |v::r,o,w=>by rw[World.setCells,nS b e r];exact bb w ⟨b,o,none⟩ v x e
def re(b):∀(vs:ki) (o:Nat) (w:ab),(w.setCells b o vs).1.size=w.1.size
 |[],_,_=>rfl
 |v::r,o,w=>by rw[World.setCells,re b r];simp
def dj.setCells(o)(vs)(l:A=some ⟨g,0,none⟩)(h:dj A A w w'):dj A A w (w'.setCells g o vs):=
 ⟨dH (n:=0) (g:=g) (aR _) vs o h.base,by rw[re];exact h.size,λb hb j=>by
  rw[nS g (λe=>j _ l (by rw[e]))];exact h.off b hb j,h.new⟩
theorem dj.refl(A)(w):dj A A w w:=⟨aY _ _,al _,λ_ _ _=>rfl,ay⟩
def dj.drewN(h:dj A A' w w')(q):dj A A' w (w'.drewN q):=⟨below_drewN h.base q,h.size,h.off,h.new⟩
def dj.drew(h:dj A A' w w'):dj A A' w w'.drew:=⟨h.base.drew,h.size,h.off,h.new⟩
theorem dj.fresh(hb:Below w.1.size w w')(hg:w.1.size<=g):dj A g w w':=
 ⟨hb.mono (aR _),hb.size,λb e _=>hb.block b e,ay⟩
theorem MF{cur:dw}{cs vs:ki}{a:Nat}(e:a<=cs.length)(b:cur.toList.take cs.length=cs)(hr:cs.length+vs.length<=cur.size):
  (tV (tV cur (a+vs.length) (cs.drop a)) a vs).toList.take (cs.length+vs.length)=cs.take a++vs++cs.drop a:=by
 have hs:cur.toList.length=cur.size:=jj;rw[hV _ _ _ (by rw[g9];omega),hV _ _ _ ay];have j:(cur.toList.take (a+vs.length)++cs.drop a++cur.toList.drop (a+vs.length+(cs.drop a).length)).take a=cs.take a:=by rw[hM,fC ay,e5,d5 Y];(conv=>rhs;rw[<-b]);rw[e5,d5 e]
 have l:(cur.toList.take (a+vs.length)++cs.drop a++cur.toList.drop (a+vs.length+(cs.drop a).length)).drop (a+vs.length)=cs.drop a++cur.toList.drop (a+vs.length+(cs.drop a).length):=by rw[hM,sF ay]
 rw[j,l,<-hM,fC ch,bV ch]
def VF{cur:dw}{cs vs:ki}(b:cur.toList.take cs.length=cs)(hr:cs.length+vs.length<=cur.size):(tV cur cs.length vs).toList.take (cs.length+vs.length)=cs++vs:=by
 rw[hV _ _ _ hr,b,fC aI,bV aI]
def RL{cs vs qab:ki}{cur:dw}{a:Nat}(l:a<=cs.length)(b:cur.toList=cs.take a++qab)(m:vs.length+(cs.length-a)<=qab.length):
  (tV (tV cur a vs) (a+vs.length) (cs.drop a)).toList.take (cs.length+vs.length)=cs.take a++vs++cs.drop a:=by
 have hs:cur.toList.length=cur.size:=jj;have r:cur.toList.length=a+qab.length:=by rw[b];simp;omega
 rw[hV _ _ _ (by rw[g9,e2];omega),hV _ _ _ Y];have e:cur.toList.take a=cs.take a:=by rw[b,hk ch]
 have j:(cur.toList.take a++vs++cur.toList.drop (a+vs.length)).take (a+vs.length)=cs.take a++vs:=by rw[hk ch,e]
 rw[j,fC ch,bV ch]
end
section
variable{P:Program}{ops:Array Oper}{a:Act}{Q:Exit->Act->World->Prop}
def cX(A:bz)(n c:Nat):Value.ownBlock (A,n,c)=A.map (·.block):=by cases A<;>rfl
def zBx(h:Γ:=by unfold maxLen;omega):=h
def k4{w:ab}{rest:List Oper}{o:Oper}(C:o.guard=none)(s x:Operand)(t:TypeId)
  (X:o.op=.call {callee:=.builtin .append,args:= #[s,x],argTypes:= #[t,t]}) (E:TypeId) (ht:P.underlying t=some (.slice E)) (k bytes:Nat) (z:Value)
  (l:(P.info? E).map (λi=>(i.zero,i.size,i.bytes))=some (some z,k,bytes)) (D:z.cells.size=k) (R:0<k) (F:bytes<=1000)
  (B:Nat) (A:bz) (c n:Nat) (G:ki) (hs:a.eval s=.slice A n c) (y:aT w B E k A c n G) (news:ki) (I:news.length=k) (h1:∀u∈news,u.oneCell'=true)
  (hx:a.eval x=.slice w.1.size 1 1) (S:n<=100000000) (hB:B<=w.1.size)
  (h:∀J T w',aT w' B E k J T (n+1) (G++news)->dj A J w w'->w.1.size<w'.1.size->wpList P ops Q rest (a.put o.dst (.slice J (n+1) T)) w'):
  wpList P ops Q (o::rest) a (w.alloc (.cells news.toArray E)):=by
 have⟨i,hi,e6⟩:=bJ.1 l;simp only[dS]at e6;obtain⟨K,L,M⟩:=e6;have m:aT (w.alloc (.cells news.toArray E)) B E k A c n G:=y.keep ((aY _ w).alloc (al _) _)
 refine uU (w.alloc (.cells news.toArray E)) C s x t X B E i z k bytes ht hi K L M D R _ _ _ hs m ⟨w.1.size,0,none⟩ 1 1 news hx (by rw[I];omega)
  (λj u hu=>?_) h1 zBx ?_ ch ?_
 have e:(⟨w.1.size,0,none⟩:Addr).add j=⟨w.1.size,j,none⟩:=by rw[cf,cQ]
 rw[e,(aA.new w E news.toArray).cell j];simpa using hu;have:=fS (n+1) F;omega;intro v' w' r hg _ hn;rcases r.2 with⟨hv,h0⟩|⟨g,cap,cur,hv,hBg,qP,G3,RD,RE,htk⟩;omega;rw[hv]at r hn⊢;refine h _ _ _ r ⟨?_,by have:=hg.size;simp at this;omega,λb hb N=>?_,λV e=>?_⟩ (by have:=hg.size;simp at this;omega);exact((aY 0 w).alloc (aR _) _).grown hg Y (λk R=>aR _);rw[hg.block b ch ?_,nM _ _ _ hb];rw[cX];intro e;obtain⟨V,O,rfl⟩:=bJ.1 e.symm;exact N V O rfl;injection e with e;subst e;rw[cX,cX]at hn;rcases hn with hn|hn;have⟨ad0,h3,h4⟩:=bJ.1 hn.symm;exact .inl ⟨ad0,h3,h4.symm⟩;right;simp at hn;show w.1.size<=g;omega
def iV{w:ab}{rest:List Oper}{o:Oper}(r:o.guard=none)(s x:Operand)(t:TypeId)
  (z:o.op=.call {callee:=.builtin .append,args:= #[s,x],argTypes:= #[t,t]}) (E:TypeId) (ht:P.underlying t=some (.slice E))
  (b:(P.info? E).map (λi=>(i.zero,i.size,i.bytes))=some (some (.int .i64 0),1,8))
  (B:Nat) (A:bz) (c:Nat) (zs:au) (hs:a.eval s=.slice A zs c) (e:aD w B E A c zs) (y:Int)
  (C:a.eval x=.slice w.1.size 1 1) (j:zs.length<=100000000) (D:B<=w.1.size)
  (h:∀l m w',aD w' B E l m (zs++[y])->dj A l w w'->w.1.size<w'.1.size->wpList P ops Q rest (a.put o.dst (.slice l (zs.length+1) m)) w'):
  wpList P ops Q (o::rest) a (w.alloc (.cells #[y] E)):=
 k4 r s x t z E ht 1 8 _ b rfl ao ao B A c zs.length (zs.map (Value.int .i64)) hs e [.int .i64 y] rfl (λu hu=>by rw[de.1 hu];rfl) C j D λl m w' F G I=>by
 refine h l m w' ?_ G I;unfold aD;rwa[bh,c9]
end
section
variable{F':Nat->Prop}{p:World}{b m:Nat}
@[grind cases]structure Kf(F F':Nat->Prop)(w w':World):Prop where
 base:Below 0 w w'
 size:w.1.size<=w'.1.size
 keep:∀b,b<w.1.size->¬F b->w'.heap[b]?=w.heap[b]?
 new:∀b,F' b->F b\/w.1.size<=b
def AF(A:bz)(b:Nat):Prop:=∃e,A=some e/\e.block=b
section
variable{F F2 G G':Nat->Prop}{w:World}{k n B:Nat}{E:TypeId}{cs:Array Value}
theorem Kf.trans(h:Kf F F' w w')(e:Kf F' F2 w' u):Kf F F2 w u:=
 ⟨h.base.trans e.base,ay,ay,
  ay⟩
def Kf.refl(F)(w):Kf F F w w:=⟨aY _ _,al _,λ_ _ _=>rfl,λ_ h=>.inl h⟩
def Kf.later(F)[l:aM w w']:Kf F F w w':=⟨l.st.mono (aR _),l.st.size,λb hb _=>l.st.block b hb,λ_ h=>.inl h⟩
theorem Kf.more(h:Kf F F' w w')(j:∀b,F b->G b)(e:∀b,G' b->F' b\/G b\/w.1.size<=b):Kf G G' w w':=
 ⟨h.base,h.size,ay,ay⟩
theorem Kf.prev(h:Kf F F' w w')[l:aM p w](hF:∀b,F b->p.1.size<=b):aj w' p:=
 ⟨(l.st.mono (al _)).trans ⟨h.base.os,h.base.tape,h.base.output,h.size,λb hb=>h.keep b (bN hb l.st.size) ay⟩⟩
def Kf.ak(h:Kf F F' w w')(o:aA w g T cs)(hg:¬F g):aA w' g T cs:=(h.keep g o.lt hg).trans o
def Kf.row(h:Kf F F' w w')(r:aT w B E k A c n vs)(l:∀b,AF A b->¬F b):aT w' B E k A c n vs:=r.same λj e=>h.keep _ (r.lt j e) (l _ ⟨j,e,rfl⟩)
def Kf.own(h:Kf F F' w w')(r:aD w B E A c zs)(l:∀b,AF A b->¬F b):aD w' B E A c zs:=r.same λj e=>h.keep _ (r.lt j e) (l _ ⟨j,e,rfl⟩)
def Kf.rd(h:Kf F F' w w')(r:Rd w A zs)(l:∀b,AF A b->¬F b):Rd w' A zs:=λj z y=>by
 have⟨b,off,e,hb,hc⟩:=r j z y;refine⟨b,off,e,bN hb h.size,?_⟩;rw[<-hc];exact d4 (h.keep b hb (l b ⟨_,e,rfl⟩))
theorem Kf.sl(h:Kf F F' w w')(r:Sl w A n zs)(e:∀b,AF A b->¬F b):Sl w' A n zs:=⟨h.rd r.rd e,r.len⟩
theorem Kf.jE(h:dj A A' w w'):Kf (AF A) (AF A') w w':=
 ⟨h.base,h.size,λb hb r=>h.off b hb λj e l=>r ⟨j,e,l⟩,λb ⟨j,e,l⟩=>by
  rcases h.new j e with⟨a0,y,z⟩|h1
  .exact .inl ⟨a0,y,by rw[<-z,l]⟩
  grind⟩
theorem Kf.av(h:Kf F F' w w'){q:Addr}(hq:F' q.block)(v):Kf F F' w (w'.setCell q v):=
 ⟨h.base.setCell (p:=q) (aR _) v,by have:=h.size;simpa using this,λb hb j=>by
  rw[bb w' q v b λe=>by
   grind]
  grind,h.new⟩
theorem Kf.alloc(h:Kf F F' w w')(o):Kf F F' w (w'.alloc o):=⟨h.base.alloc (aR _) o,by have:=h.size;simp;omega,λb hb e=>(nM w' o b ay).trans (h.keep b hb e),h.new⟩
theorem aT.af(h:aT w B E k A c n vs)(hb:AF A b):B<=b/\b<w.1.size/\∃j,w.heap[b]?=some (.cells j E (0,0)):=by
 obtain⟨l,e,rfl⟩:=hb;rcases h.form with⟨rfl,_⟩|⟨g,j,rfl,r,hg,_⟩;cases e;grind
def aD.af(h:aD w B E A c zs)(hb:AF A b):B<=b/\b<w.1.size/\∃e,w.heap[b]?=some (.cells e E (0,0)):=aT.af (k:=1) h hb
def du{o:Nat}:AF (some ⟨g,o,none⟩) b↔g=b:=⟨λ⟨j,e,h⟩=>by cases e;exact h,λh=>⟨_,rfl,h⟩⟩
end
end
variable{M i j:Nat}{xs:List Int}
structure gb where
 h:Int
 fr:Nat
 wd:Nat
@[grind cases]structure kA(bs:List gb)(N:Nat):Prop where
 pw:bs.Pairwise λb c=>b.fr+b.wd<=c.fr
 bd:∀b∈bs,1<=b.wd/\b.fr+b.wd<=N
def dY(bs:List gb)(i:Nat):Nat:=if i=0 then 0 else(bs[i-1]?.map λb=>b.fr+b.wd).getD 0
def cont(cs:au)(b:gb):List Int:=(cs.drop b.fr).take b.wd
def jW(cs:au)(p:Nat)(xs:au):List Int:=cs.take p++xs++cs.drop (p+xs.length)
section
variable{bs:List gb}{N p:Nat}{b c x:gb}{cs:List Int}
def lm(h:p+xs.length<=cs.length):(jW cs p xs).length=cs.length:=by simp[jW];omega
theorem Qi{k:Nat}(h:p+xs.length<=cs.length):(jW cs p xs)[k]?=if p<=k/\k<p+xs.length then xs[k-p]? else cs[k]?:=by
 unfold jW;by_cases e:k<p;grind;by_cases l:k<p+xs.length;grind;rw[ag Y,eT ch,iF];grind
theorem rf{k:Nat}:(cont cs b)[k]?=if k<b.wd then cs[b.fr+k]? else none:=by
 grind [cont]
theorem ju(h:b.fr+b.wd<=cs.length):(cont cs b).length=b.wd:=by simp[cont];omega
def wX(h:p+xs.length<=cs.length)(e:b.fr+b.wd<=p\/p+xs.length<=b.fr):cont (jW cs p xs) b=cont cs b:=by
 apply eo;intro k;rw[rf,rf];split;rw[Qi h,ag Y];rfl
def AU(h:p+xs.length<=cs.length)(e:b.fr=p)(l:b.wd=xs.length):cont (jW cs p xs) b=xs:=by
 apply eo;intro k;rw[rf];split;rw[Qi h,ah Y];congr 1;omega;rw[ej Y]
theorem RM(h:b.fr+b.wd<=cs.length):cont (cs++xs) b=cont cs b:=by
 apply eo;grind [rf,List.getElem?_append_left]
theorem kA.lt(h:kA bs N)(e:i<j)(hi:bs[i]?=some b)(l:bs[j]?=some c):b.fr+b.wd<=c.fr:=by
 obtain⟨m,rfl⟩:=bj.1 hi;obtain⟨r,rfl⟩:=bj.1 l;grind [List.pairwise_iff_getElem]
theorem mH(h:bs[i]?=some b):dY bs (i+1)=b.fr+b.wd:=by
 unfold dY;grind
theorem kA.aaQ(h:kA bs N)(hi:i<=bs.length):dY bs i<=N:=by
 match i with
 |0=>exact aR _
 |i+1=>have e:=bk (show i<bs.length by omega);rw[mH e];grind
theorem kA.ahead(h:kA bs N)(l:j<i)(m:bs[j]?=some b)(hi:i<=bs.length):b.fr+b.wd<=dY bs i:=by
 obtain⟨i,rfl⟩:∃k,i=k+1:=⟨i-1,Y⟩;have e:=bk (show i<bs.length by omega);rw[mH e];by_cases r:j=i;grind;have:=h.lt (show j<i by omega) m e;omega
theorem kA.behind(h:kA bs N)(l:i<=j)(hi:bs[i]?=some b)(m:bs[j]?=some c):b.fr<=c.fr:=by
 by_cases e:i=j;grind;have:=h.lt (show i<j by omega) hi m;omega
def kA.G9(h:kA bs N)(hi:bs[i]?=some b):dY bs i<=b.fr:=by
 match i with
 |0=>exact aR _
 |i+1=>have l:=(bj.1 hi).1;have e:=bk (show i<bs.length by omega);rw[mH e];exact h.lt (nP i) e hi
theorem vk{α:Type}{L:List α}{y:α}(h:y∈L.take i):∃k,k<i/\L[k]?=some y:=by
 grind [List.getElem?_of_mem]
theorem vl{α:Type}{L:List α}{y:α}(h:y∈L.drop i):∃k,i<=k/\L[k]?=some y:=by
 grind [List.getElem?_of_mem]
theorem kA.ins(h:kA bs N)(hN:N<=M)(hi:i<=bs.length)(u:dY bs i<=x.fr)(r:∀b,bs[i]?=some b->x.fr+x.wd<=b.fr)(y:x.fr+x.wd<=M)(z:1<=x.wd):kA (bs.take i++x::bs.drop i) M:=by
 refine⟨?_,λb hb=>?_⟩;have hp:=h.pw;rw[<-d3 i bs,nL]at hp;rw[nL,iJ];have B:∀b∈bs.take i,b.fr+b.wd<=x.fr:=λb hb=>by have⟨k,hk,e⟩:=vk hb;have:=h.ahead hk e hi;omega
 refine⟨hp.1,⟨λc l=>?_,hp.2.1⟩,λb hb c l=>?_⟩;have⟨k,hk,e⟩:=vl l;have C:=(bj.1 e).1;have m:=bk (show i<bs.length by omega);have:=r _ m;have:=h.behind hk m e;omega;grind;grind
theorem kA.del(h:kA bs N):kA (bs.take i++bs.drop (i+1)) N:=by
 have hs:(bs.take i++bs.drop (i+1)).Sublist bs:=by (conv=>rhs;rw[<-d3 i bs]);exact ay
 exact⟨h.pw.sublist hs,ay⟩
theorem kA.move(h:kA bs N)(hi:bs[i]?=some b){t:Nat}(z:dY bs i<=t)(B:t<=b.fr):kA (bs.set i ⟨b.h,t,b.wd⟩) N:=by
 have C:=(bj.1 hi).1;have hb:=h.bd b (aK hi);refine⟨?_,λc D=>?_⟩
 .rw[q1];intro j k m r l;rw[ei]at m r;rw[uR,uR];have u:=bk m;have y:=bk r;split;rename_i e;subst e;rw[ag Y];have:=h.lt l hi y;grind;split;rename_i e;subst e;have:=h.ahead l u Y;grind;exact h.lt l u y
 grind
end
variable{fr pk wd:Nat}{h:Int}{ys:List Int}{bs:List gb}
structure da where
 cap:Nat
 cs:List Int
 bs:List gb
 mp:List (Int×Int)
 pk:Nat
 nx:Nat
 lv:Nat
 hi:Nat
 pe:Nat
 mv:Nat
@[grind cases]structure b8(v:da):Prop where
 lay:kA v.bs v.cs.length
 cl:v.cs.length<=v.cap
 cap:v.cap<=16777216
 hi:v.hi<=v.cap
 lv:v.lv=(v.bs.map (·.wd)).sum
 hd:v.bs.Pairwise λb c=>b.h≠c.h
 hb:∀b∈v.bs,1<=b.h/\b.h<=v.nx
 pk:v.pk<=v.bs.length
 AV:(v.mp.map (·.1)).Nodup
 RN:∀b∈v.bs,(b.h,(b.fr:Int))∈v.mp
 MG:∀e∈v.mp,∃b∈v.bs,e=(b.h,(b.fr:Int))
def dG(v:da)(h:Int)(xs:au):Prop:=∃b∈v.bs,b.h=h/\cont v.cs b=xs
def pV(mp:List (Int×Int))(h z:Int):List (Int×Int):=mp.map λe=>if e.1=h then(h,z)else e
variable{v:da}{b x:gb}
theorem Ji(mp)(h z):(pV mp h z).map (·.1)=mp.map (·.1):=by
 grind [pV,List.map_map,List.map_congr_left]
theorem aaR{N:Nat}:∀(e:Nat),e<=N->(∀b∈bs,e<=b.fr)->kA bs N->e+(bs.map (·.wd)).sum<=N:=by
 induction bs with
 |nil=>grind
 |cons b t m=>intro e u y j;have hb:=j.bd b dD;have l:=iJ.1 j.pw;have:=m (b.fr+b.wd) hb.2 (λc r=>l.1 c r) ⟨l.2,ay⟩;grind
theorem b8.AX(hv:b8 v):v.lv<=v.cs.length:=by
 rw[hv.lv];have:=aaR (bs:=v.bs) (N:=v.cs.length) 0 (aR _) ay hv.lay;omega
theorem b8.uniq(hv:b8 v){b c:gb}(hb:b∈v.bs)(l:c∈v.bs)(e:b.h=c.h):b=c:=by
 have⟨i,hi⟩:=fZ hb;have⟨j,hj⟩:=fZ l;obtain⟨m,rfl⟩:=bj.1 hi;obtain⟨r,rfl⟩:=bj.1 hj;rcases GH i j with bD|rfl|bD;grind [absurd,List.pairwise_iff_getElem];rfl;grind [absurd,List.pairwise_iff_getElem]
def da.move(v:da)(i:Nat)(b:gb)(t:Nat):da:={v with cs:=jW v.cs t (cont v.cs b),bs:=v.bs.set i ⟨b.h,t,b.wd⟩,mp:=pV v.mp b.h t}
theorem Jj(hi:bs[i]?=some b){x:gb}(e:x.wd=b.wd):(bs.set i x).map (·.wd)=bs.map (·.wd):=by
 rw[jb,e];apply eo;grind
theorem b8.move(hv:b8 v)(hi:v.bs[i]?=some b){t:Nat}(B:dY v.bs i<=t)(C:t<=b.fr):b8 (v.move i b t):=by
 have hm:=aK hi;have hb:=hv.lay.bd b hm;have D:=(bj.1 hi).1;have y:(jW v.cs t (cont v.cs b)).length=v.cs.length:=lm (by rw[ju hb.2];omega);have mem:∀c,c∈v.bs.set i ⟨b.h,t,b.wd⟩->c=⟨b.h,t,b.wd⟩\/(c∈v.bs/\c.h≠b.h):=λc l=>by have⟨k,m⟩:=fZ l;by_cases r:i=k;grind;rw[zB r]at m;refine .inr ⟨aK m,λe=>?_⟩;have⟨g1,e1⟩:=bj.1 hi;have⟨g2,e2⟩:=bj.1 m;have hp:=q1.1 hv.hd;grind
 refine⟨?_,?_,hv.cap,hv.hi,?_,?_,λc l=>?_,?_,?_,λc l=>?_,λe E=>?_⟩;show kA (v.bs.set i ⟨b.h,t,b.wd⟩) (jW v.cs t (cont v.cs b)).length;rw[y];exact hv.lay.move hi B C;show(jW v.cs t (cont v.cs b)).length<=v.cap;grind;show v.lv=((v.bs.set i ⟨b.h,t,b.wd⟩).map (·.wd)).sum;grind [Jj]
 .show(v.bs.set i ⟨b.h,t,b.wd⟩).Pairwise λb c=>b.h≠c.h;rw[q1];intro j k F m G;have hp:=q1.1 hv.hd;have⟨g1,e1⟩:=bj.1 hi;rw[ei]at F m;rw[uR,uR];split;rename_i e;subst e;rw[ag Y];grind;split;grind;grind
 rcases mem c l with rfl|⟨l,_⟩;exact hv.hb b hm;exact hv.hb c l;show v.pk<=(v.bs.set i ⟨b.h,t,b.wd⟩).length;grind;show((pV v.mp b.h t).map (·.1)).Nodup;rw[Ji];exact hv.AV;show(c.h,(c.fr:Int))∈pV v.mp b.h t;unfold pV;rcases mem c l with rfl|⟨l,r⟩;grind;grind;obtain⟨I,z,rfl⟩:=cw.1 (show e∈v.mp.map λe=>if e.1=b.h then(b.h,(t:Int))else e from E);obtain⟨c,l,rfl⟩:=hv.MG I z;by_cases u:c.h=b.h;refine⟨⟨b.h,t,b.wd⟩,?_,ah u⟩;exact aK (i:=i) (by show(v.bs.set i _)[i]?=_;rw[jK D]);refine⟨c,?_,ag u⟩;have⟨k,m⟩:=fZ l;refine aK (i:=k) ?_;show(v.bs.set i _)[k]?=_;grind
def dG.move(hv:b8 v)(l:dG v h xs)(hi:v.bs[i]?=some b){t:Nat}(r:dY v.bs i<=t)(u:t<=b.fr):dG (v.move i b t) h xs:=by
 have hm:=aK hi;have hb:=hv.lay.bd b hm;have m:=(bj.1 hi).1;have j:=ju hb.2;have⟨c,hc,e1,e2⟩:=l;have⟨k,hk⟩:=fZ hc;by_cases e:i=k;subst e;rw[hi]at hk;obtain rfl:=cU hk;refine⟨⟨b.h,t,b.wd⟩,aK (i:=i) (by show(v.bs.set i _)[i]?=_;rw[jK m]),e1,?_⟩;exact(AU (cs:=v.cs) (p:=t) (xs:=cont v.cs b) (b:=⟨b.h,t,b.wd⟩) Y rfl j.symm).trans e2;refine⟨c,aK (i:=k) (by show(v.bs.set i _)[k]?=_;rw[zB e];exact hk),e1,?_⟩;show cont (jW v.cs t (cont v.cs b)) c=xs;rw[wX Y,e2];rcases zL e with bD|bD;have:=hv.lay.lt bD hi hk;omega;have:=hv.lay.ahead bD hk Y;omega
def da.qJ(v:da)(i fr wd pk:Nat):da:=
 {v with cs:=jW (v.cs++List.replicate (fr+wd-v.cs.length) 0) fr (List.replicate wd 0),bs:=v.bs.take i++⟨(v.nx:Int)+1,fr,wd⟩::v.bs.drop i,mp:=v.mp++[((v.nx:Int)+1,(fr:Int))],pk:=pk,nx:=v.nx+1,lv:=v.lv+wd,hi:=max v.hi (fr+wd),pe:=max v.pe (v.lv+wd)}
def zBd(h:Γ:=by grind [List.take_append_drop,List.mem_append_left,List.mem_append_right,List.mem_cons_of_mem]):=h
theorem b8.qJ(hv:b8 v){i fr wd pk:Nat}(hi:i<=v.bs.length)(y:dY v.bs i<=fr)(z:∀b,v.bs[i]?=some b->fr+wd<=b.fr)(E:fr+wd<=v.cap)(B:1<=wd)(hp:pk<=v.bs.length+1):b8 (v.qJ i fr wd pk):=by
 have l:(jW (v.cs++List.replicate (fr+wd-v.cs.length) 0) fr (List.replicate wd 0)).length=max v.cs.length (fr+wd):=by rw[lm ch];simp;omega
 have m:∀b∈v.bs,b.h≠(v.nx:Int)+1:=ay;refine⟨?_,?_,hv.cap,?_,?_,?_,λc j=>?_,?_,?_,λc j=>?_,λe he=>?_⟩;show kA (v.bs.take i++⟨(v.nx:Int)+1,fr,wd⟩::v.bs.drop i) (jW _ fr (List.replicate wd 0)).length;rw[l];exact hv.lay.ins (Nat.le_max_left _ _) hi y z (Nat.le_max_right _ _) B;show(jW _ fr (List.replicate wd 0)).length<=v.cap;grind;show max v.hi (fr+wd)<=v.cap;grind;show v.lv+wd=((v.bs.take i++⟨(v.nx:Int)+1,fr,wd⟩::v.bs.drop i).map (·.wd)).sum;have e:(v.bs.map (·.wd)).sum=((v.bs.take i).map (·.wd)).sum+((v.bs.drop i).map (·.wd)).sum:=by (conv=>lhs;rw[<-d3 i v.bs]);rw[c9,sA]
 grind;show(v.bs.take i++⟨(v.nx:Int)+1,fr,wd⟩::v.bs.drop i).Pairwise λb c=>b.h≠c.h;have hp:=hv.hd;rw[<-d3 i v.bs,nL]at hp;rw[nL,iJ];grind;have r:c∈v.bs.take i++⟨(v.nx:Int)+1,fr,wd⟩::v.bs.drop i:=j;show 1<=c.h/\c.h<=((v.nx+1:Nat):Int);grind;show pk<=(v.bs.take i++⟨(v.nx:Int)+1,fr,wd⟩::v.bs.drop i).length;simp;omega;show((v.mp++[((v.nx:Int)+1,(fr:Int))]).map (·.1)).Nodup;rw[c9,uH];refine⟨hv.AV,aI,λa C b hb e=>?_⟩;obtain⟨x,D,rfl⟩:=cw.1 C;obtain⟨c,j,rfl⟩:=hv.MG x D;simp at hb;exact m c j (by rwa[<-hb]);show(c.h,(c.fr:Int))∈v.mp++[((v.nx:Int)+1,(fr:Int))];have r:c∈v.bs.take i++⟨(v.nx:Int)+1,fr,wd⟩::v.bs.drop i:=j;grind;show∃b∈v.bs.take i++⟨(v.nx:Int)+1,fr,wd⟩::v.bs.drop i,e=(b.h,(b.fr:Int));have u:e∈v.mp++[((v.nx:Int)+1,(fr:Int))]:=he;rcases cu.1 u with he|he;obtain⟨b,hb,rfl⟩:=hv.MG e he;refine⟨b,?_,rfl⟩;exact zBd;exact⟨_,zD _ dD,by simpa using he⟩
theorem dG.qJ(hv:b8 v)(l:dG v h xs){i fr wd pk:Nat}(hi:i<=v.bs.length)(r:dY v.bs i<=fr)(m:∀b,v.bs[i]?=some b->fr+wd<=b.fr):dG (v.qJ i fr wd pk) h xs:=by
 have⟨c,hc,e1,e2⟩:=l;have hb:=hv.lay.bd c hc;refine⟨c,?_,e1,?_⟩;show c∈v.bs.take i++⟨(v.nx:Int)+1,fr,wd⟩::v.bs.drop i;exact zBd;show cont (jW (v.cs++List.replicate (fr+wd-v.cs.length) 0) fr (List.replicate wd 0)) c=xs;rw[wX ch,RM hb.2,e2];rw[fe];have⟨k,hk⟩:=fZ hc;by_cases e:k<i;have:=hv.lay.ahead e hk hi;omega;have u:=(bj.1 hk).1;have j:=bk (show i<v.bs.length by omega);have:=m _ j;have:=hv.lay.behind (show i<=k by omega) j hk;omega
def dG.VG{i:Nat}:dG (v.qJ i fr wd pk) ((v.nx:Int)+1) (List.replicate wd 0):=by
 refine⟨⟨(v.nx:Int)+1,fr,wd⟩,zD _ dD,rfl,?_⟩;exact AU ch rfl aI
def da.free(v:da)(i:Nat)(b:gb):da:={v with bs:=v.bs.take i++v.bs.drop (i+1),mp:=v.mp.filter λe=>e.1 !=b.h,pk:=min v.pk i,lv:=v.lv-b.wd}
theorem jv{α:Type}{L:List α}{y:α}(h:L[i]?=some y):L=L.take i++y::L.drop (i+1):=by
 grind [List.getElem?_eq_some_iff,List.drop_eq_getElem_cons,List.take_append_drop]
theorem b8.rest(hv:b8 v)(hi:v.bs[i]?=some b){c:gb}:c∈v.bs.take i++v.bs.drop (i+1)↔c∈v.bs/\c.h≠b.h:=by
 have hd:=hv.hd;rw[jv hi,nL,iJ]at hd;constructor;grind;rintro⟨e,j⟩;rw[jv hi]at e;grind
theorem b8.free(hv:b8 v)(hi:v.bs[i]?=some b):b8 (v.free i b):=by
 have m:=(bj.1 hi).1;refine⟨hv.lay.del,hv.cl,hv.cap,hv.hi,?_,?_,λc j=>hv.hb c ((hv.rest hi).1 j).1,?_,?_,λc j=>?_,λe l=>?_⟩;show v.lv-b.wd=((v.bs.take i++v.bs.drop (i+1)).map (·.wd)).sum;have e:(v.bs.map (·.wd)).sum=((v.bs.take i).map (·.wd)).sum+(b.wd+((v.bs.drop (i+1)).map (·.wd)).sum):=by (conv=>lhs;rw[jv hi]);simp
 grind;have hs:(v.bs.take i++v.bs.drop (i+1)).Sublist v.bs:=by (conv=>rhs;rw[<-d3 i v.bs]);exact ay
 exact hv.hd.sublist hs;show min v.pk i<=(v.bs.take i++v.bs.drop (i+1)).length;simp;omega;show((v.mp.filter λe=>e.1 !=b.h).map (·.1)).Nodup;grind;have⟨h1,h2⟩:=(hv.rest hi).1 j;exact sE.2 ⟨hv.RN c h1,by simpa using h2⟩;have⟨h1,h2⟩:=sE.1 (show e∈v.mp.filter λe=>e.1 !=b.h from l);obtain⟨c,j,rfl⟩:=hv.MG e h1;exact⟨c,(hv.rest hi).2 ay,rfl⟩
theorem dG.free(hv:b8 v)(hi:v.bs[i]?=some b)(e:dG v h xs)(j:h≠b.h):dG (v.free i b) h xs:=by
 have⟨c,hc,e1,e2⟩:=e;exact⟨c,(hv.rest hi).2 ay,e1,e2⟩
def da.put(v:da)(b:gb)(xs:au):da:={v with cs:=jW v.cs b.fr xs}
def b8.put(hv:b8 v)(hb:b∈v.bs)(j:xs.length=b.wd):b8 (v.put b xs):=by
 have l:=(hv.lay.bd b hb).2;have e:(jW v.cs b.fr xs).length=v.cs.length:=lm Y;exact⟨by show kA v.bs (jW v.cs b.fr xs).length;rw[e];exact hv.lay,by show(jW v.cs b.fr xs).length<=v.cap;rw[e];exact hv.cl,hv.cap,hv.hi,hv.lv,hv.hd,hv.hb,hv.pk,hv.AV,hv.RN,hv.MG⟩
def dG.put(hv:b8 v)(hb:b∈v.bs)(e:xs.length=b.wd):dG (v.put b xs) b.h xs:=
 ⟨b,hb,rfl,AU (by have:=(hv.lay.bd b hb).2;omega) rfl e.symm⟩
theorem dG.aaS(hv:b8 v)(hb:b∈v.bs)(r:xs.length=b.wd)(l:dG v h ys)(m:h≠b.h):dG (v.put b xs) h ys:=by
 have⟨c,hc,e1,e2⟩:=l;have u:=(hv.lay.bd b hb).2;refine⟨c,hc,e1,?_⟩;show cont (jW v.cs b.fr xs) c=ys;rw[wX Y,e2];have⟨i,hi⟩:=fZ hb;have⟨j,hj⟩:=fZ hc;have e:i≠j:=ay;rcases zL e with bD|bD;have:=hv.lay.lt bD hi hj;omega;have:=hv.lay.lt bD hj hi;omega
variable{id z:Int}{s':Bool}
abbrev Tb:=List (Int×Int)
def ip(t:Tb)(k:Int):Nat:=t.countP λe=>decide (e.1<k)
def hX(t:Tb)(k h:Int):Tb:=t.take (ip t k)++(k,h)::t.drop (ip t k)
def rh(t:Tb)(k:Int):Tb:=t.take (ip t k)++t.drop (ip t k+1)
def iL(t:Tb)(k:Int):Bool:=t.any λe=>decide (e.1=k)
def h4(t:Tb):Prop:=t.Pairwise λa b=>a.1<b.1
@[grind cases]structure ny(A A':da):Prop where
 ok:b8 A'
 has:∀h xs,dG A h xs->dG A' h xs
 nx:A'.nx=A.nx
 cap:A'.cap=A.cap
 lv:A'.lv=A.lv
 pe:A'.pe=A.pe
@[grind cases]structure vm(A:da)(wd:Nat)(A':da):Prop where
 ok:b8 A'
 has:∀h xs,dG A h xs->dG A' h xs
 new:dG A' ((A.nx:Int)+1) (List.replicate wd 0)
 nx:A'.nx=A.nx+1
 cap:A'.cap=A.cap
 lv:A'.lv=A.lv+wd
 pe:A'.pe=max A.pe (A.lv+wd)
@[grind cases]structure Jk(A:da)(h:Int)(xs:List Int)(A':da):Prop where
 ok:b8 A'
 has:∀k ys,k≠h->dG A k ys->dG A' k ys
 new:dG A' h xs
 nx:A'.nx=A.nx
 cap:A'.cap=A.cap
 lv:A'.lv=A.lv
 pe:A'.pe=A.pe
@[grind cases]structure AY(A:da)(h:Int)(n:Nat)(A':da):Prop where
 ok:b8 A'
 has:∀k ys,k≠h->dG A k ys->dG A' k ys
 nx:A'.nx=A.nx
 cap:A'.cap=A.cap
 lv:A'.lv+n=A.lv
 pe:A'.pe=A.pe
@[grind cases]structure cM(A:da)(tb:Bool->Tb)(T:Bool->Int->Option (List Int)):Prop where
 ar:b8 A
 so:∀s,h4 (tb s)
 hs:∀s,∀e∈tb s,∃xs,T s e.1=some xs/\dG A e.2 xs
 th:∀s id xs,T s id=some xs->∃h,(id,h)∈tb s
 inj:∀s s' e f,e∈tb s->f∈tb s'->e.2=f.2->s=s'/\e=f
def h0{α:Type}(f:Bool->α)(s:Bool)(v:α):Bool->α:=λb=>if b=s then v else f b
def e0(T:Bool->Int->Option (List Int))(s:Bool)(id:Int)(v:Option (List Int)):Bool->Int->Option (List Int):=λe b=>if e=s/\b=id then v else T e b
section
variable{A A' A2:da}{t:Tb}{k:Int}{e:Int×Int}{tb:Bool->Tb}{T:Bool->Int->Option (List Int)}{s:Bool}{n:Nat}
theorem E2{t:Tb}(h:∀e∈t,k<=e.1):ip t k=0:=by
 unfold ip;grind
theorem pW{t:Tb}(h:e.1<k):ip (e::t) k=ip t k+1:=by
 unfold ip;grind
def zBk(h:Γ:=by rcases dE.1 hf with rfl|hf;omega;have:=(iJ.1 hr).1 f hf;omega):=h
def vn{t:Tb}(hr:h4 (e::t))(h:¬e.1<k):ip (e::t) k=0:=by
 refine E2 λf hf=>?_;exact zBk
def Qj(t)(k):ip t k<=t.length:=uJ
theorem AZ:∀{t:Tb},h4 t->(∀e∈t.take (ip t k),e.1<k)/\∀e∈t.drop (ip t k),k<=e.1
 |[],_=>aI
 |e::t,hr=>by by_cases h:e.1<k;have⟨h1,h2⟩:=AZ (t:=t) (iJ.1 hr).2;rw[pW h,f6,iH];grind;rw[vn hr h];refine⟨aI,λf hf=>?_⟩;rw[fl]at hf;exact zBk
theorem o9:∀{t:Tb},h4 t->(k,h)∈t->t[ip t k]?=some (k,h)
 |[],_,hm=>by cases hm
 |e::t,hr,hm=>by rcases dE.1 hm with rfl|hm;rw[vn hr ay];rfl;have:=(iJ.1 hr).1 _ hm;rw[pW this,pE];exact o9 (iJ.1 hr).2 hm
theorem tW:e∈hX t k h↔e=(k,h)\/e∈t:=by
 unfold hX;rw[cu,dE];constructor;grind;rintro(h1|h1);grind;rw[<-d3 (ip t k) t,cu]at h1;grind
theorem yx(hr:h4 t)(j:∀h,(k,h)∉t):h4 (hX t k h):=by
 have⟨h1,h2⟩:=AZ (k:=k) hr;have hp:h4 (t.take (ip t k)++t.drop (ip t k)):=by rwa[d3]
 unfold h4 at hp;rw[nL]at hp;unfold hX h4;rw[nL,iJ];grind
def A0:(hX t k h).length=t.length+1:=by
 have:=Qj t k;unfold hX;simp;omega
def E3(hr:h4 t)(hm:(k,h)∈t):t=t.take (ip t k)++(k,h)::t.drop (ip t k+1):=jv (o9 hr hm)
theorem MH(hr:h4 t)(hm:(k,h)∈t):e∈rh t k↔e∈t/\e.1≠k:=by
 have hp:=hr;rw[E3 hr hm]at hp;unfold h4 at hp;rw[nL,iJ]at hp;unfold rh;constructor;intro he;rcases cu.1 he with he|he;have:=hp.2.2 e he (k,h) dD;grind;grind;rintro⟨he,j⟩;rw[E3 hr hm]at he;grind
theorem Jl(hr:h4 t):h4 (rh t k):=by
 have hs:(t.take (ip t k)++t.drop (ip t k+1)).Sublist t:=by (conv=>rhs;rw[<-d3 (ip t k) t]);exact ay
 exact List.Pairwise.sublist hs hr
theorem mI:iL t k=true↔∃h,(k,h)∈t:=by
 unfold iL;grind
theorem wY:iL t k=false↔∀h,(k,h)∉t:=by
 rw[GQ];unfold Ne;rw[mI];grind
theorem dG.le(hv:b8 A)(j:dG A h xs):1<=h/\h<=A.nx:=by
 obtain⟨b,hb,rfl,_⟩:=j;grind
def ny.refl(h:b8 A):ny A A:=⟨h,λ_ _ h=>h,rfl,rfl,rfl,rfl⟩
theorem ny.trans(h:ny A A')(j:ny A' A2):ny A A2:=⟨j.ok,ay,j.nx.trans h.nx,j.cap.trans h.cap,j.lv.trans h.lv,j.pe.trans h.pe⟩
def ny.move(hv:b8 A)(hi:A.bs[i]?=some b){t:Nat}(j:dY A.bs i<=t)(l:t<=b.fr):ny A (A.move i b t):=⟨hv.move hi j l,λ_ _ m=>m.move hv hi j l,rfl,rfl,rfl,rfl⟩
def da.hB(A:da)(p m:Nat):da:={A with pk:=p,mv:=m}
def ny.hB(hv:b8 A){p m:Nat}(hp:p<=A.bs.length):ny A (A.hB p m):=⟨⟨hv.lay,hv.cl,hv.cap,hv.hi,hv.lv,hv.hd,hv.hb,hp,hv.AV,hv.RN,hv.MG⟩,λ_ _ h=>h,rfl,rfl,rfl,rfl⟩
theorem vm.of(hm:ny A A'){i wd:Nat}(hi:i<=A'.bs.length)(j:dY A'.bs i<=fr)(l:∀b,A'.bs[i]?=some b->fr+wd<=b.fr)(m:fr+wd<=A'.cap)(r:1<=wd)(hp:pk<=A'.bs.length+1):vm A wd (A'.qJ i fr wd pk):=by
 refine⟨hm.ok.qJ hi j l m r hp,λh xs u=>(hm.has h xs u).qJ hm.ok hi j l,?_,?_,hm.cap,?_,?_⟩;rw[<-hm.nx];exact dG.VG;show A'.nx+1=_;rw[hm.nx];show A'.lv+wd=_;rw[hm.lv];show max A'.pe (A'.lv+wd)=_;grind
def Jk.of(hv:b8 A)(hb:b∈A.bs)(j:xs.length=b.wd):Jk A b.h xs (A.put b xs):=⟨hv.put hb j,λ_ _ l m=>m.aaS hv hb j l,dG.put hv hb j,rfl,rfl,rfl,rfl⟩
def AY.of(hv:b8 A)(hi:A.bs[i]?=some b):AY A b.h b.wd (A.free i b):=by
 refine⟨hv.free hi,λ_ _ j l=>l.free hv hi j,rfl,rfl,?_,rfl⟩;show A.lv-b.wd+b.wd=A.lv;have:b.wd<=A.lv:=by rw[hv.lv,jv hi];simp;omega
 omega
def gf{α:Type}{f:Bool->α}{v:α}:h0 f s v s=v:=ah rfl
def gY{α:Type}{f:Bool->α}{v:α}(h:s'≠s):h0 f s v s'=f s':=ag h
def h6{v:Option (List Int)}:e0 T s id v s id=v:=ah ⟨rfl,rfl⟩
theorem ef{v:Option (List Int)}(h:¬(s'=s/\z=id)):e0 T s id v s' z=T s' z:=ag h
theorem cM.handle(h:cM A tb T)(j:T s id=some xs):∃z,(id,z)∈tb s/\dG A z xs:=by
 grind
theorem cM.has(h:cM A tb T):iL (tb s) id=true↔∃xs,T s id=some xs:=by
 rw[mI];grind
theorem cM.no(h:cM A tb T)(j:T s id=none)(z):(id,z)∉tb s:=ay
theorem cM.qJ(h:cM A tb T)(I:T s id=none)(hg:vm A wd A'):cM A' (h0 tb s (hX (tb s) id ((A.nx:Int)+1))) (e0 T s id (some (List.replicate wd 0))):=by
 have l:∀j e,e∈h0 tb s (hX (tb s) id ((A.nx:Int)+1)) j->(j=s/\e=(id,(A.nx:Int)+1))\/(e∈tb j/\¬(j=s/\e.1=id)):=λj e m=>by by_cases hs:j=s;subst hs;rw[gf,tW]at m;grind;rw[gY hs]at m;grind
 have J:∀j e,e∈tb j->e.2≠(A.nx:Int)+1:=λj e m=>by have⟨xs,_,h2⟩:=h.hs j e m;have:=h2.le h.ar;omega
 refine⟨hg.ok,λj=>?_,λj e m=>?_,λj i xs E=>?_,λF s2 e f m K r=>?_⟩;by_cases hs:j=s;subst hs;rw[gf];exact yx (h.so _) λz=>h.no I z;rw[gY hs];exact h.so j;rcases l j e m with⟨rfl,rfl⟩|⟨m,u⟩;exact⟨_,h6,hg.new⟩;have⟨xs,h1,h2⟩:=h.hs j e m;exact⟨xs,by rw[ef u];exact h1,hg.has _ _ h2⟩;by_cases G:j=s/\i=id;obtain⟨rfl,rfl⟩:=G;exact⟨(A.nx:Int)+1,by rw[gf,tW];exact .inl rfl⟩;rw[ef G]at E;have⟨z,hz⟩:=h.th j i xs E;refine⟨z,?_⟩;by_cases hs:j=s;subst hs;rw[gf,tW];exact .inr hz;rw[gY hs];exact hz;have y:=l F e m;have B:=l s2 f K;rcases y with⟨rfl,rfl⟩|⟨C,_⟩;grind;rcases B with⟨rfl,rfl⟩|⟨D,_⟩;grind;exact h.inj F s2 e f C D r
theorem cM.put(h:cM A tb T)(u:(id,z)∈tb s)(hp:Jk A z xs A'):cM A' tb (e0 T s id (some xs)):=by
 refine⟨hp.ok,h.so,λj e m=>?_,λj i ys y=>?_,h.inj⟩;by_cases l:j=s/\e.1=id;obtain⟨rfl,rfl⟩:=l;have⟨ys,h1,h2⟩:=h.hs j e m;have r:e=(e.1,z):=by rcases Qb (e.2=z)with h3|h3;rw[<-h3];exfalso;have B:=o9 (h.so j) u;have C:=o9 (k:=e.1) (h:=e.2) (h.so j) m;grind
 exact⟨xs,h6,ay⟩;have⟨ys,h1,h2⟩:=h.hs j e m;refine⟨ys,by rw[ef l];exact h1,hp.has _ _ (λr=>l ?_) h2⟩;grind;by_cases l:j=s/\i=id;grind;rw[ef l]at y;grind
theorem cM.free(h:cM A tb T)(y:(id,z)∈tb s)(hp:AY A z n A'):cM A' (h0 tb s (rh (tb s) id)) (e0 T s id Option.none):=by
 have l:∀j e,e∈h0 tb s (rh (tb s) id) j↔e∈tb j/\¬(j=s/\e.1=id):=λj e=>by by_cases hs:j=s;subst hs;rw[gf,MH (h.so _) y];grind;rw[gY hs];grind
 refine⟨hp.ok,λj=>?_,λj e m=>?_,λj i xs r=>?_,λD s2 e f m E C=>?_⟩;by_cases hs:j=s;subst hs;rw[gf];exact Jl (h.so _);rw[gY hs];exact h.so j;have⟨m,ia⟩:=(l j e).1 m;have⟨xs,h1,h2⟩:=h.hs j e m;refine⟨xs,by rw[ef ia];exact h1,hp.has _ _ (λu=>ia ?_) h2⟩;have⟨h3,h4⟩:=h.inj j s e (id,z) m y u;exact⟨h3,di Prod.fst h4⟩;by_cases B:j=s/\i=id;obtain⟨rfl,rfl⟩:=B;rw[h6]at r;cases r;rw[ef B]at r;grind;grind
end
section
variable{qs:List (Int×Int)}{ops:Array Oper}{a:Act}{Q:Exit->Act->World->Prop}
def ic(ps:List (Int×Int)):List Value:=ps.flatMap λx=>[.int .i64 x.1,.int .i64 x.2]
def kB(ps b):ic (ps++b)=ic ps++ic b:=by simp[ic]
def pX(ps):(ic ps).length=ps.length*2:=by
 induction ps with
 |nil=>rfl
 |cons t l b=>simp[ic]at b⊢;omega
def zBC(h:Γ:=by simpa using h):=h
theorem Ha:∀{ps:List (Int×Int)} {j:Nat} {x:Int×Int},ps[j]?=some x->(ic ps)[j*2]?=some (.int .i64 x.1)/\(ic ps)[j*2+1]?=some (.int .i64 x.2)
 |u::l,0,x,h=>by simp at h;subst h;simp[ic]
 |u::l,j+1,x,h=>by have:=Ha (ps:=l) (j:=j) (x:=x) zBC;(have e:ic (u::l)=[.int .i64 u.1,.int .i64 u.2]++ic l:=by simp[ic]);rw[e,eT ch,eT ch];simp only[fD,ja];grind
def Jm(w:ab)(A:bz)(ps:List (Int×Int)):Prop:=
 ∀(j:Nat) (x:Int×Int),ps[j]?=some x->∃b off,A=some ⟨b,off,none⟩/\b<w.1.size/\w.cell? (b,off+j*2)=some (.int .i64 x.1)/\w.cell? (b,off+j*2+1)=some (.int .i64 x.2)
def Jm.nil(w)(A):Jm w A []:=λj _ b=>absurd b aI
def Jm.below{w:ab}{ps:List (Int×Int)}(h:Jm w A ps)(hb:Below w.1.size w w'):Jm w' A ps:=λj x l=>by
 have⟨b,off,e,bD,h1,h2⟩:=h j x l;exact⟨b,off,e,bN bD hb.size,(hb.cell (p:=⟨b,off+j*2,none⟩) bD).trans h1,(hb.cell (p:=⟨b,off+j*2+1,none⟩) bD).trans h2⟩
@[grind cases]class Is(w:World)(A:Option Addr)(n:Nat)(ps:outParam (List (Int×Int))):Prop where
 rd:Jm w A ps
 len:n=ps
section
variable{w:World}{n B:Nat}{ps:List (Int×Int)}
instance(priority:=low) Is.step[p:aj w' w][h:Is w A n ps]:Is w' A n ps:=⟨h.rd.below p.st,h.len⟩
theorem Is.get(h:Is w A n ps){k:Nat}(m:k<n):∃b off x y,A=some ⟨b,off,none⟩/\Old b w/\w.cell? (b,off+k*2)=some (.int .i64 x)/\w.cell? (b,off+k*2+1)=some (.int .i64 y)/\Z (ps[k]?=some (x,y)):=by
 have e:ps[k]?=some (ps[k]'(by grind)):=ay;obtain⟨b,off,rfl,hb,j,l⟩:=h.rd k _ e;exact⟨b,off,_,_,rfl,⟨hb⟩,j,l,U e⟩
def bZ(w:ab)(B:Nat)(A:bz)(c:Nat)(ps:List (Int×Int)):Prop:=w.ownsRow B 98 2 (.slice A ps c) ps.length (ic ps)
def bZ.nil(w)(B):bZ w B none 0 []:=G0 w B 98 2
theorem bZ.form(h:bZ w B A c ps):(A=none/\ps=[]/\c=0)\/∃g b,A=some ⟨g,0,none⟩/\B<=g/\w.heap[g]?=some (.cells b 98 (0,0))/\b.toList.take (ps.length*2)=ic ps:=by
 rcases h.2 with⟨hv,e⟩|⟨g,cap,b,hv,j,hg,l,hm,m,ht⟩;grind;grind
theorem bZ.rd(h:bZ w B A c ps):Jm w A ps:=by
 rcases h.form with⟨_,rfl,_⟩|⟨g,b,rfl,r,hg,ht⟩;exact Jm.nil _ _;intro j x e;have⟨a0,a1⟩:=Ha e;have l:=(bj.1 e).1;have look:∀k v,k<ps.length*2->(ic ps)[k]?=some v->w.cell? (g,k)=some v:=by intro k v m hv;rw[<-ht,ji,ah m]at hv;(have:b[k]?=some v:=by simpa using hv);simp[World.cell?,hg,this]
 refine⟨g,0,rfl,(fY.1 hg).1,?_,?_⟩;rw[cQ];exact look _ _ Y a0;grind
def zBj(h:Γ:=by rcases h.form with⟨rfl,_,_⟩|⟨g,e,rfl,j,hg,_⟩;grind;grind):=h
theorem bZ.lt(h:bZ w B A c ps):∀b,A=some b->b.block<w.1.size:=by
 exact zBj
theorem bZ.fresh(h:bZ w B A c ps):∀b,A=some b->B<=b.block:=by
 exact zBj
def bZ.same(h:bZ w B A c ps)(j:∀b,A=some b->w'.heap[b.block]?=w.heap[b.block]?):bZ w' B A c ps:=by
 refine⟨h.1,?_⟩;rcases h.2 with h|⟨g,cap,e,hv,l,hg,r⟩;exact .inl h;refine .inr ⟨g,cap,e,hv,l,?_,r⟩;injection hv with hv;rw[<-hg];exact j _ hv
def bZ.at(h:bZ w B A c ps)[l:aM w w']:bZ w' B A c ps:=h.same λb e=>l.st.block _ (h.lt b e)
theorem bZ.MI(h:bZ w B A c ps):∀b,A=some b->∃cs e,w.heap[b.block]?=some (.cells cs 98 e):=by
 rcases h.form with⟨rfl,_,_⟩|⟨g,j,rfl,l,hg,_⟩;grind;grind
theorem bZ.aF{cs:dw}(h:bZ w B A c ps)(j:aA w g T cs)(l:T≠98):∀b,A=some b->b.block≠g:=by
 intro b e hb;have⟨kx,fz,h1⟩:=h.MI b e;rw[hb]at h1;unfold aA at j;grind
def zBw(h:Γ:=by simp[Value.oneCell']):=h
def tB{rest:List Oper}{o:Oper}(G:o.guard=none)(s x:Operand)(t:TypeId)
  (P:o.op=.call {callee:=.builtin .append,args:= #[s,x],argTypes:= #[t,t]}) (ht:prog.underlying t=some (.slice 98))
  (hs:a.eval s=.slice A ps c) (b:bZ w B A c ps) (y z:Int)
  (R:a.eval x=.slice w.1.size 1 1) (M:ps.length<=1000000000) (S:B<=w.1.size)
  (h:∀N O w',bZ w' B N O (ps++[(y,z)])->Below B w w'->(∀k,k<w.1.size->(∀D,A=some D->D.block≠k)->w'.heap[k]?=w.heap[k]?)->
   wpList prog ops Q rest (a.put o.dst (.slice N (ps.length+1) O)) w'):
  wpList prog ops Q (o::rest) a (w.alloc (.cells #[y,z] 98)):=by
 have l:(prog.info? 98).map (λi=>(i.zero,i.size,i.bytes))=some (some (.agg #[an,an]),2,16):=ap;have⟨i,hi,e6⟩:=bJ.1 l;simp only[dS]at e6;obtain⟨I,J,K⟩:=e6;have m:bZ (w.alloc (.cells #[y,z] 98)) B A c ps:=b.at
 refine uU (w.alloc (.cells #[y,z] 98)) G s x t P B 98 i _ 2 16 ht hi I J K rfl ao _ _ _ hs m ⟨w.1.size,0,none⟩ 1 1 [.int .i64 y,.int .i64 z] R rfl
  (λj u hu=>?_) zBw zBx Y ch ?_
 have T:j=0\/j=1:=by have:=(bj.1 hu).1;simp at this;omega
 rcases T with rfl|rfl;simp at hu;subst hu;simp[Addr.add,GW];simp at hu;subst hu;simp[Addr.add,GW];intro V w' r hg _ _;have X:(ps++[(y,z)]).length=ps.length+1:=aI;rcases r.2 with⟨hv,hn⟩|⟨g,cap,cur,hv,hBg,qP,G3,RD,RE,htk⟩;omega;have E:V=.slice g (ps.length+1) cap:=hv;rw[E];rw[E]at r;refine h _ _ _ ?_ ?_ ?_;unfold bZ;rw[X,kB];exact r;refine((aY B w).alloc S _).grown hg ch ?_;intro k F;have:Value.ownBlock (.slice A ps c)=A.map (·.block):=by cases A<;>rfl
 rw[this]at F;obtain⟨D,C,rfl⟩:=bJ.1 F;exact b.fresh D C;intro k F L;rw[hg.block k ch ?_,nM _ _ _ F];have:Value.ownBlock (.slice A ps c)=A.map (·.block):=by cases A<;>rfl
 rw[this];intro e;obtain⟨D,C,rfl⟩:=bJ.1 e.symm;exact L D C rfl
end
end
section
variable{w:World}{B:Nat}{E:TypeId}
theorem aD.addr(h:aD w B E A c zs)(b:0<zs.length):∃g,A=some ⟨g,0,none⟩/\B<=g/\g<w.1.size:=by
 rcases h.form with⟨_,rfl,_⟩|⟨g,e,rfl,j,hg,_⟩;simp at b;grind
def aD.frozen(h:aD w B E g c zs)(k):w.frozen? ⟨g,k,none⟩=false:=by
 rcases h.form with⟨b,_,_⟩|⟨l,j,e,m,hg,_⟩;cases b;cases e;simp[World.frozen?,hg]
theorem aD.cell(h:aD w B E g c zs){k:Nat}{z:Int}(b:zs[k]?=some z):w.cell? (g,k)=some (.int .i64 z):=by
 have:=h.rd.all b;grind
def aD.av(h:aD w B E g c zs)(k:Nat)(z:Int):aD (w.setCell (g,k) z) B E g c (zs.set k z):=by
 rcases h.form with⟨j,_,_⟩|⟨u,b,e,l,hg,m,hm,r,ht⟩;cases j;cases e;refine⟨aI,.inr ⟨g,c,b.setIfInBounds k z,rfl,l,?_,by simpa using m,hm,by simpa using r,?_⟩⟩;simp[World.setCell,pC,hg];rw[fm,ei,zJ,jb,<-ht,List.take_set]
end
theorem A3(x)(e:0<x)(h:x<18446744073709551616):x<2^Lib.bitLen x/\2^Lib.bitLen x<=2*x:=by
 induction x using Nat.strongRecOn with
 |_ x j=>rw[Lib.bitLen_half x Y h,vd,Nat.pow_succ];by_cases b:x=1;subst b;have:Lib.bitLen (1/2)=0:=rfl;grind;grind
def lq(i)(b:0<=i)(e:i<=255):Lib.len8 i=(Lib.bitLen i.toNat:Int)/\Lib.bitLen i.toNat<=8:=⟨Lib.len8_of i b e,Lib.bitLen_le8' i b e⟩
def zB1(h:Γ:=by go_in;go_wp2;go_ret;exact⟨bI (by have:=l.o;omega),rfl⟩):=h
theorem yy(x)(w)(y:0<=x)(z:x<=18446744073709551615):
  () 233 #[.int .u64 x] w λe w'=>e=.returned (Lib.bitLen x.toNat:Int)/\w=w':=by
 by_cases c0:x<256;obtain⟨i,hi⟩:=lg x;have b:0<=x:=Y;have i1:x<=255:=Y;have⟨e8,l8⟩:=lq (x) b i1;have l:Z (0+Lib.len8 (x)=(Lib.bitLen x.toNat:Int)):=U (by rw[e8];omega);have r:0<=Lib.len8 (x):=Y;have u:Lib.len8 (x)<=8:=Y;have j:=λW=>Lib.run_index_len8tab (P:=prog) W 9 .u8 (x) underlying9 b i1;exact zB1;by_cases c1:x<65536;obtain⟨i,hi⟩:=lg (x/256);have b:0<=x/256:=Y;have i1:x/256<=255:=Y;have⟨e8,l8⟩:=lq (x/256) b i1;have sh:=Lib.bitLen_shift8 x.toNat Y Y;have m:(x/256).toNat=x.toNat/256:=Y;rw[m]at e8 l8;have l:Z (8+Lib.len8 (x/256)=(Lib.bitLen x.toNat:Int)):=U ay;have r:0<=Lib.len8 (x/256):=Y;have u:Lib.len8 (x/256)<=8:=Y;have j:=λW=>Lib.run_index_len8tab (P:=prog) W 9 .u8 (x/256) underlying9 b i1;exact zB1;by_cases c2:x<16777216;obtain⟨i,hi⟩:=lg (x/65536);have b:0<=x/65536:=Y;have i1:x/65536<=255:=Y;have⟨e8,l8⟩:=lq (x/65536) b i1;have sh:=Lib.bitLen_shift16 x.toNat Y Y;have m:(x/65536).toNat=x.toNat/65536:=Y;rw[m]at e8 l8;have l:Z (16+Lib.len8 (x/65536)=(Lib.bitLen x.toNat:Int)):=U ay;have r:0<=Lib.len8 (x/65536):=Y;have u:Lib.len8 (x/65536)<=8:=Y;have j:=λW=>Lib.run_index_len8tab (P:=prog) W 9 .u8 (x/65536) underlying9 b i1;exact zB1;by_cases c3:x<4294967296;obtain⟨i,hi⟩:=lg (x/65536/256);have b:0<=x/65536/256:=Y;have i1:x/65536/256<=255:=Y;have⟨e8,l8⟩:=lq (x/65536/256) b i1;have sh:=Lib.bitLen_shift24 x.toNat Y Y;have m:(x/65536/256).toNat=x.toNat/16777216:=Y;rw[m]at e8 l8;have l:Z (24+Lib.len8 (x/65536/256)=(Lib.bitLen x.toNat:Int)):=U ay;have r:0<=Lib.len8 (x/65536/256):=Y;have u:Lib.len8 (x/65536/256)<=8:=Y;have j:=λW=>Lib.run_index_len8tab (P:=prog) W 9 .u8 (x/65536/256) underlying9 b i1;exact zB1;by_cases c4:x<1099511627776;obtain⟨i,hi⟩:=lg (x/4294967296);have b:0<=x/4294967296:=Y;have i1:x/4294967296<=255:=Y;have⟨e8,l8⟩:=lq (x/4294967296) b i1;have sh:=Lib.bitLen_shift32 x.toNat Y Y;have m:(x/4294967296).toNat=x.toNat/4294967296:=Y;rw[m]at e8 l8;have l:Z (32+Lib.len8 (x/4294967296)=(Lib.bitLen x.toNat:Int)):=U ay;have r:0<=Lib.len8 (x/4294967296):=Y;have u:Lib.len8 (x/4294967296)<=8:=Y;have j:=λW=>Lib.run_index_len8tab (P:=prog) W 9 .u8 (x/4294967296) underlying9 b i1;exact zB1;by_cases B:x<281474976710656;obtain⟨i,hi⟩:=lg (x/4294967296/256);have b:0<=x/4294967296/256:=Y;have i1:x/4294967296/256<=255:=Y;have⟨e8,l8⟩:=lq (x/4294967296/256) b i1;have sh:=Lib.bitLen_shift40 x.toNat Y Y;have m:(x/4294967296/256).toNat=x.toNat/1099511627776:=Y;rw[m]at e8 l8;have l:Z (40+Lib.len8 (x/4294967296/256)=(Lib.bitLen x.toNat:Int)):=U ay;have r:0<=Lib.len8 (x/4294967296/256):=Y;have u:Lib.len8 (x/4294967296/256)<=8:=Y;have j:=λW=>Lib.run_index_len8tab (P:=prog) W 9 .u8 (x/4294967296/256) underlying9 b i1;exact zB1;by_cases C:x<72057594037927936;obtain⟨i,hi⟩:=lg (x/4294967296/65536);have b:0<=x/4294967296/65536:=Y;have i1:x/4294967296/65536<=255:=Y;have⟨e8,l8⟩:=lq (x/4294967296/65536) b i1;have sh:=Lib.bitLen_shift48 x.toNat Y Y;have m:(x/4294967296/65536).toNat=x.toNat/281474976710656:=Y;rw[m]at e8 l8;have l:Z (48+Lib.len8 (x/4294967296/65536)=(Lib.bitLen x.toNat:Int)):=U ay;have r:0<=Lib.len8 (x/4294967296/65536):=Y;have u:Lib.len8 (x/4294967296/65536)<=8:=Y;have j:=λW=>Lib.run_index_len8tab (P:=prog) W 9 .u8 (x/4294967296/65536) underlying9 b i1;exact zB1;obtain⟨i,hi⟩:=lg (x/4294967296/65536/256);have b:0<=x/4294967296/65536/256:=Y;have i1:x/4294967296/65536/256<=255:=Y;have⟨e8,l8⟩:=lq (x/4294967296/65536/256) b i1;have sh:=Lib.bitLen_shift56 x.toNat Y Y;have m:(x/4294967296/65536/256).toNat=x.toNat/72057594037927936:=Y;rw[m]at e8 l8;have l:Z (56+Lib.len8 (x/4294967296/65536/256)=(Lib.bitLen x.toNat:Int)):=U ay;have r:0<=Lib.len8 (x/4294967296/65536/256):=Y;have u:Lib.len8 (x/4294967296/65536/256)<=8:=Y;have j:=λW=>Lib.run_index_len8tab (P:=prog) W 9 .u8 (x/4294967296/65536/256) underlying9 b i1;exact zB1
def acS(x:Int)(w:ab)(e:Ending)(w':ab):Prop:=∃s:Nat,e=.returned s/\w=w'/\s<=63/\9223372036854775808<=x*2^s/\x*2^s<=18446744073709551615
theorem MK(x)(w)(u:1<=x)(j:x<=18446744073709551615):() 264 #[.int .u64 x] w (acS x w):=by
 have hb:=A3 x.toNat Y Y;have l:Lib.bitLen x.toNat<=64:=by by_cases h:Lib.bitLen x.toNat<=64;exact h;have:2^65<=2^Lib.bitLen x.toNat:=Nat.pow_le_pow_right ao Y;omega
 have m:1<=Lib.bitLen x.toNat:=by by_cases h:1<=Lib.bitLen x.toNat;exact h;grind
 have b:=U hb;go_in;go_wp2_with fail;refine(yy x w Y j).mono ?_;rintro e w' ⟨rfl,rfl⟩;generalize Lib.bitLen x.toNat=n at*;go_wp2;go_ret;refine⟨64-n,bI Y,rfl,Y,?_,?_⟩;have e:(2:Nat)^n*2^(64-n)=2^64:=by rw[<-Nat.pow_add];congr 1;omega
 have r:=cV (2^(64-n)) b.o.2;grind;have e:(2:Nat)^n*2^(64-n)=2^64:=by rw[<-Nat.pow_add];congr 1;omega
 have hp:0<2^(64-n):=Nat.two_pow_pos _;have r:=Nat.mul_lt_mul_of_pos_right b.o.1 hp;grind
variable{b r:Nat}{x y:Int}
def oC:Nat->List Int->List Int
 |0,L=>L
 |j+1,L=>if L.getD (j+1) 0<L.getD j 0 then oC j ((L.set (j+1) (L.getD j 0)).set j (L.getD (j+1) 0))else L
def pY(L:au):Nat->List Int
 |0=>L
 |k+1=>oC (k+1) (pY L k)
def oE(L:au):List Int:=pY L (L.length-1)
section
variable{w:World}{B n:Nat}
def A4:∀(j:Nat) (L:au),(oC j L).length=L.length
 |0,_=>rfl
 |j+1,L=>by unfold oC;split;rw[A4 j];simp;rfl
def tX(L):∀k,(pY L k).length=L.length
 |0=>rfl
 |k+1=>by rw[pY,A4,tX L k]
def A5(L):(oE L).length=L.length:=tX L _
def zBs(h:Γ:=by go_ret;exact⟨rfl,rfl⟩):=h
def Ag(x:Int):() 265 #[x] w (λe w'=>e=.returned (.bool false)/\w'=w):=by
 go_in;go_wp2;exact zBs
def aD.hp(h:aD w B T A c zs)(e:w'.heap=w.heap):aD w' B T A c zs:=by
 unfold aD World.ownsRow at h⊢;rwa[e]
def Hb(h:Below B w w')(q):Below B w (w'.drewN q):=⟨h.os,h.tape,h.output,h.size,h.block⟩
def Qk(x y:Int):() 227 #[x,y] w (λe w'=>e=.returned (.bool (decide (x<y)))/\w'=w):=by
 go_in;go_wp2_with (go_at_call 265;refine(Ag _).mono ?_;rintro e b ⟨rfl,rfl⟩);exact zBs
def A6(w:ab)(B:Nat)(A:bz)(c:Nat)(zs:au)(e:Ending)(w':ab):Prop:=e=.returned (.tuple #[])/\aD w' B 3 A c zs/\Below B w w'
def RO{L:au}(b:L[j+1]?=some x)(e:L[j]?=some y)(h:x<y):oC (j+1) L=oC j ((L.set (j+1) y).set j x):=by
 rw[oC,a5,a5,b,e,ah zBC];rfl
def Jn{L:au}(b:L[j+1]?=some x)(e:L[j]?=some y)(h:¬x<y):oC (j+1) L=L:=by
 rw[oC,a5,a5,b,e,ag zBC]
def RP(h:Z (aD w B 3 A c zs))(J:B<=w.1.size)(K:n<=12)(E:Z (zs.length=n)):() 267 #[(A,n,c),an,n] w (A6 w B A c (oE zs)):=by
 go_in;go_wp2_with fail;go_loopw [6] (λi wr=>∃(k:Nat),k+1<=max n 1/\i=.int .i64 (k+1:Nat)/\Z (aD wr B 3 A c (pY zs k))/\Z (Below B w wr)) (λi _=>n-(intOf i).toNat);case atStart=>exact⟨0,Y,rfl,h,U (aY _ _)⟩
 case round=>
  obtain⟨k,M,rfl,b,l⟩:=hrel;(have m:(pY zs k).length=n:=by rw[tX];exact E.o);by_cases G:k+1<n
  .obtain⟨g,rfl,r,-⟩:=b.o.addr Y;go_wp2_with fail;go_loopw [7] (λi F=>∃(j:Nat) (L:au),j<=k+1/\i=.int .i64 j/\Z (aD F B 3 (some ⟨g,0,none⟩) c L)/\Z (Below B w F)/\L.length=n/\Z (oC j L=pY zs (k+1))) (λi _=>(intOf i).toNat);(case atStart=>exact⟨k+1,pY zs k,al _,rfl,b,l,m,U rfl⟩);case round=>
    obtain⟨j,L,N,rfl,b,l,hL,C⟩:=hrel;by_cases I:0<j
    .obtain⟨j,rfl⟩:∃i,j=i+1:=⟨j-1,Y⟩;obtain⟨x,u⟩:∃x,L[j+1]?=some x:=⟨_,bk Y⟩;obtain⟨y,z⟩:∃x,L[j]?=some x:=⟨_,bk Y⟩;have c1:=b.o.cell u;have c2:=b.o.cell z;have f1:=b.o.frozen (j+1);have f2:=b.o.frozen j;change Z _ at u z;(have i1:((j+1:Nat):Int)<(n:Int):=by omega);(have i2:(j:Int)<(n:Int):=by omega);go_wp2_with fail;go_quiet (first|(go_at_call 227;refine Calls.quiet_of_same (Qk _ _)));by_cases e:x<y
     .have d1:decide (x<y)=true:=by simpa using e
      have D:=U e;go_wp2;go_region;(all_goals go_wp2);all_goals go_roundw;(case rel=>exact⟨j,(L.set (j+1) y).set j x,Y,by go_num,U (((b.o.hp (w':=wr.drewN (nq+1)) rfl).av (j+1) y).av j x),U (((Hb l (nq+1)).setCell (p:=⟨g,j+1,none⟩) r y).setCell (p:=⟨g,j,none⟩) r (.int .i64 x)),by simpa using hL,U (by rw[<-C.o,RO u.o z.o D.o])⟩);case measure=>simp[intOf]
     have d1:decide (x<y)=false:=by simpa using e
     have D:=U e;go_wp2;go_roundw;(case rel=>exact⟨k+1,Y,by go_num,U (by rw[<-C.o,Jn u.o z.o D.o];exact b.o.hp rfl),U (Hb l nq)⟩);case measure=>exact ou
    obtain rfl:j=0:=Y;go_wp2_with fail;go_quiet (first|(go_at_call 227;refine Calls.quiet_of_same (Qk _ _)));go_wp2;go_roundw;exact⟨k+1,Y,by go_num,U (by rw[<-C.o];exact b.o.hp rfl),U (Hb l nq)⟩;simp[intOf];omega
  (have hs:oE zs=pY zs k:=by rw[oE,E.o,show n-1=k by omega]);go_wp2;exact⟨rfl,.tuple #[],by simp[results,results267,go_sem],rfl,by rw[hs];exact b.o,l⟩
def E4(x:Int)(w:ab)(b:0<=x)(j:x<=18446744073709551615):() 194 #[.int .u64 x] w λe w'=>e=.returned (Lib.bitLen x.toNat:Int)/\w'=w:=by
 go_in;go_wp2_with (go_at_call 233;refine(yy _ _ b j).mono ?_;rintro e l ⟨rfl,rfl⟩);exact zBs
theorem acT(h:Z (aD w B 3 A c zs))(b:B<=w.1.size)(l:n<=12)(m:Z (zs.length=n))(x):() 231 #[(A,n,c),an,n,x] w (A6 w B A c (oE zs)):=by
 have r:decide ((n:Int)<=12)=true:=by simp;omega
 have u:(n:Int)-0=n:=by omega
 go_in;go_wp2;go_loopw [1,2] (λi j wr=>i=.int .i64 0/\j=.int .i64 n/\wr=w) (λ_ _ _=>0);grind;obtain⟨rfl,rfl,rfl⟩:=hrel;go_wp2_with (go_at_call 267;refine(RP h b l m).mono ?_;rintro e C ⟨rfl,y,z⟩);exact⟨rfl,.tuple #[],by simp[results,results231,go_sem],rfl,y,z⟩
def VH:∀n,n<=12->0<n->Lib.bitLen n=1\/Lib.bitLen n=2\/Lib.bitLen n=3\/Lib.bitLen n=4:=ao
def ML:∀n,n<=12->(Lib.bitLen n<=2↔n<=3):=ao
def ri(n:Nat):Nat->Nat->Nat
 |0,r=>r
 |k+1,r=>ri n k (if r+2^k<=n/(r+2^k)then r+2^k else r)
def vo(n:Nat):Nat:=ri n (if n<=3 then 1 else 2) 0
def A7:Nat->Nat
 |0=>0
 |k+1=>2^k
def E5(e:n<=12):wrap64 ((n:Int)/((r:Int)+(b:Int)))=((n/(r+b):Nat):Int):=by
 rw[<-en,<-Aa];have:=uV n (r+b);generalize n/(r+b)=q at*;unfold wrap64;omega
def zBA(h:Γ:=by rw[hq];exact e):=h
def RQ(C:1<=n)(u:n<=12):() 142 #[n] w (aL w (vo n:Int)):=by
 obtain⟨b,hb⟩:=lh (Lib.bitLen n);have y:b=1\/b=2\/b=3\/b=4:=by rw[<-hb];exact VH n u C
 have D:(b<=2↔n<=3):=by rw[<-hb];exact ML n u
 have E:=U hb;go_in;rcases y with rfl|rfl|rfl|rfl;all_goals
  go_wp2_with (go_at_call 194;refine mv (E4 _ _ Y Y) λI hu=>?_;obtain rfl:=hu.symm;rw[a9,E.o]);go_loopw [3,4] (λi j wr=>∃(k r:Nat),k<=2/\r<=12/\i=.int .i64 r/\j=.int .i64 (A7 k)/\Z (ri n k r=vo n)/\wr=w) (λ_ j _=>(intOf j).toNat)
  .first|exact⟨1,0,Y,Y,rfl,rfl,U (by rw[vo,ah Y]),rfl⟩|exact⟨2,0,Y,Y,rfl,rfl,U (by rw[vo,ag Y]),rfl⟩
  obtain⟨k,r,J,hr,rfl,rfl,m,rfl⟩:=hrel;rcases k with _|_|_|k
  .go_wp2;go_ret;exact⟨by rw[<-m.o];rfl,aC⟩
  .have F:(A7 (0+1):Int)=1:=rfl;(have z:((r:Int)+1==0)=false:=by simp;omega);obtain⟨q,hq⟩:=lh (n/(r+1));(have G:wrap64 ((n:Int)/((r:Int)+1))=(q:Int):=by rw[<-hq];exact E5 u);by_cases e:r+1<=q
   .have d1:decide ((r:Int)+1<=(q:Int))=true:=by simp;omega
    have l:Z (ri n 0 (r+1)=vo n/\r+1<=12):=U ⟨by rw[<-m.o];show _=ri n 0 (if r+1<=n/(r+1)then r+1 else r);rw[ah zBA],by have:=uV n (r+1);omega⟩;go_wp2;go_roundw;exact⟨0,r+1,Y,l.o.2,by go_num,rfl,U l.o.1,bq⟩;simp[intOf,A7]
   have d1:decide ((r:Int)+1<=(q:Int))=false:=by simp;omega
   have l:Z (ri n 0 r=vo n):=U (by rw[<-m.o];show _=ri n 0 (if r+1<=n/(r+1)then r+1 else r);rw[ag zBA]);go_wp2;go_roundw;exact⟨0,r,Y,Y,rfl,rfl,l,bq⟩;simp[intOf,A7]
  .have F:(A7 (0+1+1):Int)=2:=rfl;(have z:((r:Int)+2==0)=false:=by simp;omega);obtain⟨q,hq⟩:=lh (n/(r+2));(have G:wrap64 ((n:Int)/((r:Int)+2))=(q:Int):=by rw[<-hq];exact E5 u);by_cases e:r+2<=q
   .have d1:decide ((r:Int)+2<=(q:Int))=true:=by simp;omega
    have l:Z (ri n 1 (r+2)=vo n/\r+2<=12):=U ⟨by rw[<-m.o];show _=ri n 1 (if r+2<=n/(r+2)then r+2 else r);rw[ah zBA],by have:=uV n (r+2);omega⟩;go_wp2;go_roundw;exact⟨1,r+2,Y,l.o.2,by go_num,rfl,U l.o.1,bq⟩;simp[intOf,A7]
   have d1:decide ((r:Int)+2<=(q:Int))=false:=by simp;omega
   have l:Z (ri n 1 r=vo n):=U (by rw[<-m.o];show _=ri n 1 (if r+2<=n/(r+2)then r+2 else r);rw[ag zBA]);go_wp2;go_roundw;exact⟨1,r,Y,Y,rfl,rfl,l,bq⟩;simp[intOf,A7]
  omega
def VI(h:Z (aD w B 3 A c zs))(b:B<=w.1.size)(j:n<=12)(l:Z (zs.length=n)):() 193 #[(A,n,c)] w (A6 w B A c (oE zs)):=by
 go_in;go_wp2_with (first|(go_at_call 194;refine(E4 _ _ Y Y).mono ?_;rintro e u ⟨rfl,rfl⟩)|(go_at_call 231;refine(acT h b j l _).mono ?_;rintro e y ⟨rfl,m,r⟩));exact⟨rfl,.tuple #[],by simp[results,results193,go_sem],rfl,m,r⟩
end
variable{R b2 c2 d q:Nat}{v:Value}{T1 T2:TypeId}
class Cl(w:World)(g i:Nat)(v:outParam Value):Prop where
 eq:w.cell? (g,i)=some v
def pa(x y:Int):Int:=if x<y then-1 else if y<x then 1 else 0
section
variable{w:World}{o n k:Nat}{ps:List (Int×Int)}{p:Bool}
theorem cY(h:w.cell? (g,i)=some v):g<w.1.size:=by
 unfold World.cell? at h;grind
def cJ[h:Cl w g i v]:w.cell? (g,i)=some v:=h.eq
instance(priority:=low) Cl.step[p:aj w' w][h:Cl w g i v]:Cl w' g i v:=⟨(p.st.cell (p:=⟨g,i,none⟩) (cY h.eq)).trans h.eq⟩
def zB5(h:Γ:=by go_wp2_with (go_at_call 265;refine(Ag _).mono ?_;rintro e j ⟨rfl,rfl⟩);go_ret;exact bF):=h
def VJ:() 254 #[x,y] w (aL w (pa x y:Int)):=by
 go_in;unfold pa;by_cases b:x<y;rw[ah b];exact zB5;rw[ag b];by_cases l:y<x;rw[ah l];exact zB5;rw[ag l];exact zB5
def VK(h:x<y):pa x y= -1:=ah h
def VL(h:¬x<y):0<=pa x y:=by unfold pa;rw[ag h];split<;>decide
theorem MM:(pa x y==0)=decide (x=y):=by
 unfold pa;grind
def zBn(h:Γ:=by go_wp2_with fail;go_ret;exact bF):=h
def acU[Bx w R T1 #[.pointer (some ⟨g,o,none⟩)]][Bx w b2 T2 #[y]][b:Cl w g o (q,1,c)][j:Cl w q 0 (r,n,c2)][l:Cl w r 0 x](B:0<n):
  () 253 #[an,.pointer R,.pointer b2] w (aL w (.bool (decide (0<pa x y)))):=by
 obtain⟨C,D⟩:=hY;have E:=@cJ;have o1:Old g w:=⟨cY b.eq⟩;have F:Old q w:=⟨cY j.eq⟩;have G:Old r w:=⟨cY l.eq⟩;go_in;go_upto_region 1 with fail;refine aq ap (λm _=>?_);refine qL [0,1,2,3,4,5,6,7,8,9,10] ?_;refine aJ 11 λK hK=>?_;go_simp;refine(VJ).mono ?_;rintro e m ⟨rfl,_⟩;dsimp only;refine aE hK ?_;refine qL [12,13] ?_;refine a8 ?_;exact zBn
def MN:() 256 #[.agg #[x,z],y] w (aL w (pa x y:Int)):=by
 have b:=@az;go_in;go_wp2_with (go_at_call 254;(try refine er (λu _ _=>?_));refine VJ.mono ?_;rintro e u ⟨rfl,_⟩);go_ret;exact bF
def VM:() 252 #[an,v] w (aL w an):=by
 go_in;go_wp2_with fail;go_loopw [5,6] (λi j wr=>i=.int .i64 0/\j=.int .i64 0/\aj wr w) (λ_ _ _=>0);case atStart=>exact⟨rfl,rfl,aC⟩
 case round=>obtain⟨rfl,rfl,hp⟩:=hrel;exact zBn
def zBG(h:Γ:=by have:=hr.o;have:=l.o;simp at*;omega):=h
def Ql{D E:Value}{r:Nat}(hr:Z (r=if p=true then 0 else 1))(F:Z (∀(u:ab) (i:Nat),Z (i=0)->aj u w->() 253 #[.int .i64 (i:Int),D,E] u (aL u (.bool p)))):
  () 252 #[(1:Int),.func (.func 253) #[] #[D,E]] w (aL w (r:Int)):=by
 have L:∀args w,(callFunc 253 args).run prog w=.ok (.enter 253 args) w:=enters_of func253 ap rfl;go_in;go_wp2_with fail;go_loopw [5,6] (λi j wr=>∃a b:Nat,i=.int .i64 (a:Int)/\j=.int .i64 (b:Int)/\a<=b/\b<=1/\aj wr w/\Z (a<b\/(a=r/\b=r))) (λi j _=>(intOf j-intOf i).toNat);case atStart=>exact⟨0,1,rfl,rfl,ao,al _,aC,U (.inl ao)⟩
 case round=>
  obtain⟨a,b,rfl,rfl,G,B,hp,e⟩:=hrel;by_cases I:a<b
  .obtain⟨m,hm⟩:=lg ((a+b)/2:Nat);(have J:((a:Int)+(b:Int))/2=(m:Int):=by omega);have l:Z (m=0):=U Y;have C:a<=m:=Y;have K:m<b:=Y;clear hm;rcases p with _|_
   .go_wp2_with (go_at_call 253;refine mv (F.o _ _ l (aC)) λu _=>?_);go_roundw;(case rel=>exact⟨m+1,b,by go_num,rfl,Y,B,aC,U (.inr zBG)⟩);case measure=>exact ou
   go_wp2_with (go_at_call 253;refine mv (F.o _ _ l (aC)) λu _=>?_);go_roundw;(case rel=>exact⟨a,m,rfl,rfl,C,Y,aC,U (.inr zBG)⟩);case measure=>exact ou
  obtain rfl:a=b:=Y;(obtain rfl:a=r:=by have:=e.o;omega);clear e hr;exact zBn
theorem Qm:∀{ps:Tb} {i:Nat},i<=ps.length->(∀t e,t<i->ps[t]?=some e->e.1<y)->(∀t e,i<=t->ps[t]?=some e->y<=e.1)->ip ps y=i
 |[],i,h,_,_=>by simp at h;subst h;rfl
 |a::t,0,_,_,h2=>by unfold ip;rw[GC];intro e b;obtain⟨j,l⟩:=fZ b;grind
 |a::t,i+1,h,h1,h2=>by rw[pW (h1 0 a (PQ _) rfl),Qm (ps:=t) (i:=i) zBC (λj e l b=>h1 (j+1) e Y (by simpa using b)) (λj e l b=>h2 (j+1) e Y (by simpa using b))]
def Jo(hr:h4 ps){i:Nat}{a b:Int×Int}(h:i<j)(e:ps[i]?=some a)(hb:ps[j]?=some b):a.1<b.1:=by
 obtain⟨l,rfl⟩:=bj.1 e;obtain⟨m,rfl⟩:=bj.1 hb;exact(q1.1 hr) i j l m h
theorem RR(hr:h4 ps):iL ps y=(match ps[ip ps y]? with|some e=>decide (e.1=y)|none=>false):=by
 cases h:iL ps y with
 |true=>obtain⟨z,b⟩:=mI.1 h;rw[o9 hr b];simp
 |false=>have j:=wY.1 h;grind
def ad7[a:Is w A n ps](hr:Z (h4 ps))(hn:n<=100000){b:Bool}(P:Z (ip ps y=j))(hb:Z (iL ps y=b)):
  () 255 #[(A,n,c),y,.func (.func 256) #[] #[]] w (aL w (.tuple #[j,.bool b])):=by
 have CP:=@bX;have G:Z (n=ps.length):=U a.len;have EG:∀args w,(callFunc 256 args).run prog w=.ok (.enter 256 args) w:=enters_of func256 ap rfl;go_in;go_wp2_with fail;go_loopw [9,10] (λs t wr=>∃lo hi:Nat,lo<=hi/\hi<=n/\s=.int .i64 (lo:Int)/\t=.int .i64 (hi:Int)/\Z (∀t e,t<lo->ps[t]?=some e->e.1<y)/\Z (∀t e,hi<=t->ps[t]?=some e->y<=e.1)/\aj wr w) (λs t _=>(intOf t-intOf s).toNat);case atStart=>exact⟨0,n,aR _,al _,rfl,rfl,U (λt e h=>absurd h (zE _)),U (λt e h Q=>by have:=(bj.1 Q).1;have:=G.o;omega),aC⟩
 case round=>
  obtain⟨lo,hi,S,E,rfl,rfl,N,O,hp⟩:=hrel;by_cases T:lo<hi
  .obtain⟨m,hm⟩:=lg ((lo+hi)/2:Nat);obtain⟨V,q0,x,z,rfl,ob,X,v2,D⟩:=a.get (k:=m) Y;(have hdv:((lo:Int)+(hi:Int))/2=(m:Int):=by omega);have I:lo<=m:=Y;have hmh:m<hi:=Y;clear hm;by_cases J:x<y
   .have K:Z (∀t e,t<m+1->ps[t]?=some e->e.1<y):=U λt e ht C=>by by_cases h:t=m;subst h;rw[D.o]at C;obtain rfl:=cU C;exact J;have:=Jo hr.o (show t<m by omega) C D.o;dsimp only at this;omega
    have hc:=VK J;go_wp2_with (go_at_fn 256;refine MN.mono ?_;rintro e u ⟨rfl,_⟩);go_roundw;(case rel=>exact⟨m+1,hi,Y,E,by go_num,rfl,K,O,aC⟩);case measure=>exact ou
   have K:Z (∀t e,m<=t->ps[t]?=some e->y<=e.1):=U λt e ht C=>by by_cases h:t=m;subst h;rw[D.o]at C;obtain rfl:=Option.some.inj C;dsimp only;omega;have:=Jo hr.o (show m<t by omega) D.o C;dsimp only at this;omega
   have hc:=VL J;(have y2:decide (pa x y<0)=false:=by simp;omega);go_wp2_with (go_at_fn 256;refine MN.mono ?_;rintro e u ⟨rfl,_⟩);go_roundw;(case rel=>exact⟨lo,m,I,Y,rfl,rfl,N,K,aC⟩);case measure=>exact ou
  obtain rfl:lo=hi:=Y;have B:ip ps y=lo:=Qm (by rwa[<-G.o]) N.o O.o;(obtain rfl:lo=j:=by rw[<-P.o,B]);(have l:iL ps y=(match ps[lo]? with|some e=>decide (e.1=y)|none=>false):=by have:=RR (y:=y) hr.o;rwa[B]at this);rw[hb.o]at l;by_cases F:lo<n
  .obtain⟨V,q0,x,z,rfl,ob,X,v2,D⟩:=a.get (k:=lo) F;rw[D.o]at l;have L:Z ((pa x y==0)=b):=U (by rw[MM];exact l.symm);(have d1:decide ((lo:Int)<(n:Int))=true:=by simpa using F);clear l B;go_wp2_with (go_at_fn 256;refine MN.mono ?_;rintro e u ⟨rfl,_⟩);go_ret2;exact⟨by rw[<-L.o];rfl,aC⟩
  have M:ps[lo]?=none:=ej (by have:=G.o;omega);rw[M]at l;subst l;(have d1:decide ((lo:Int)<(n:Int))=false:=by simp;omega);clear B;go_wp2_with fail;go_ret2;exact bF
end
section
variable{P:Program}{m off:Nat}{ops:Array Oper}{a:Act}{K:Act->World->Prop}{Q:Exit->Act->World->Prop}
section
variable{w:World}{B k n o:Nat}{E:TypeId}{us cs:List Value}{z:Value}
def k7{a:Nat}(h:a<=b):Nat.min a b=a:=d5 h
def bT(hg:w.heap[g]?=some (.cells cur E (0,0)))(X):(w.setRow g X).heap[g]?=some (.cells X E (0,0)):=setRow_heap w g cur X E (0,0) hg
def bl(hb:b≠g)(X):(w.setRow g X).heap[b]?=w.heap[b]?:=by
 rw[World.setRow,pC,ag (dp hb)]
def size_setRow(X):(w.setRow g X).1.size=w.1.size:=by simp[World.setRow]
theorem ez(_:g<w.1.size)(X):dj g (some ⟨g,0,none⟩) w (w.setRow g X):=
 ⟨⟨rfl,rfl,rfl,by rw[size_setRow];exact al _,ay⟩,by rw[size_setRow];exact al _,λb _ j=>bl ay X,λl e=>.inl ⟨_,rfl,ay⟩⟩
theorem fG(C F G)(b l)(a)(e r)(hu:P.underlying C=some (.slice E))(hs:(P.info? E).map (·.size)=some k)
  (hg:w.heap[g]?=some (.cells cur E (0,0))) (I:cs.length=Nat.min e b*k)
  (u:∀j v,cs[j]?=some v->w.cell? (a.add j)=some v) (D:o+cs.length<=cur.size) (J:∀v∈cs,v.oneCell'=true):
  (Builtin.copy_ #[C,F] G #[.slice (some ⟨g,o,none⟩) b l,.slice (some a) e r]).run P w=
   .ok (goInt (Nat.min e b)) (w.setRow g (cur.toList.take o++cs++cur.toList.drop (o+cs.length)).toArray):=by
 have K:=run_loadCells_list (P:=P) w a cs u;have y:=GZ P g o E cs 0 cur w hg ay J;cases hq:P.info? E with
 |none=>simp[hq]at hs
 |some i=>(have hi:i.size=k:=by simpa[hq]using hs);simp[Builtin.copy_,eu hu,Builtin.lenOf,Builtin.firstCells,sizeOf,typeInfo,hq,hi,<-I,K,y]
theorem nT(t j)(ht:P.underlying t=some (.slice E))(hv:∀w,(zeroValue E).run P w=.ok z w)(l:(Builtin.zeroCells z.cells n).toList=us)(r:∀v∈us,v.oneCell'=true)(u:0<n){cap:Nat}
  (hg:w.heap[g]?=some (.cells cur E (0,0))) (e:o+us.length<=cur.size):
  (Builtin.clear_ #[t] j #[.slice (some ⟨g,o,none⟩) n cap]).run P w=.ok (.tuple #[]) (w.setRow g (cur.toList.take o++us++cur.toList.drop (o+us.length)).toArray):=by
 have b:=GZ P g o E us 0 cur w hg ay r;obtain⟨m,rfl⟩:∃m,n=m+1:=⟨n-1,Y⟩;simp[Builtin.clear_,eu ht,hv,l,b]
def RS{L:ki}{a:Nat}(h:a<=n)(hL:cur.toList.take (n*k)=L):cur.toList.take (a*k)=L.take (a*k):=by
 rw[<-hL,e5,d5 (cV k h)]
theorem tY(h:aT w B E k g c n vs)(hi:i<n)(t J)(ht:P.underlying t=some (.slice E))(hs:(P.info? E).map (·.size)=some k)(O:∀v∈vs,v.oneCell'=true)(L:i+1<n->off=(i+1)*k):
  ∃X,(Builtin.append_ #[t,t] J #[(g,i,c),.slice (some ⟨g,off,none⟩) (n-(i+1)) (c-(i+1))]).run P w=.ok (.slice g (n-1) c) (w.setRow g X)/\
   X.size=c*k/\X.toList.take ((n-1)*k)=vs.take (i*k)++vs.drop ((i+1)*k):=by
 rcases h.form with⟨C,_⟩|⟨Q,cur,e,S,hg,T,hm,V,hv⟩;cases C;cases e;obtain⟨K,D,b⟩:=bJ.1 hs;have r:vs.length=n*k:=h.1;have l:(vs.drop ((i+1)*k)).length=(n-(i+1))*K.size:=by rw[b,e2,r,Nat.sub_mul]
 have M:i*k+(n-(i+1))*k=(n-1)*k:=by rw[<-im];congr 1;omega
 have N:(n-1)*k<=c*k:=cV k Y;have R:=run_append_room (P:=P) w t J E K ht D g i c cur hg ⟨g,off,none⟩ (n-(i+1)) (c-(i+1)) (vs.drop ((i+1)*k)) l (λj u F=>by
  have y:=(bj.1 F).1;rw[l,b]at y;have G:i+1<n:=by
   refine aaF λhx=>?_;rw[show n-(i+1)=0 from Y,fo]at y;exact ay
  rw[iF]at F;have⟨g2,I,kC⟩:=h.cell F;injection I with I;cases I
  rw[L G,show(Addr.add ⟨g,(i+1)*k,none⟩ j)=⟨g,(i+1)*k+j,none⟩from by by_cases C:j=0<;>simp[Addr.add,C]];exact kC) ay Y ay
 rw[show i+(n-(i+1))=n-1 by omega]at R;rw[b]at R;refine⟨_,R,?_,?_⟩;grind;rw[RS (eW hi) hv];rw[fC (by rw[bh,cr,l,b,r,d5 (cV k (eW hi))];omega)];rw[bV ay]
theorem aT.whole(h:aT w B E k g c n vs):∃cur,w.heap[g]?=some (.cells cur E (0,0))/\B<=g/\n<=c/\c<=maxLen/\cur.size=c*k/\cur.toList.take (n*k)=vs/\g<w.1.size:=by
 rcases h.form with⟨b,_⟩|⟨l,cur,e,r,hg,u,j,y,hv⟩;cases b;grind
theorem tZ(h:aT w B E k A c n vs)(t I)(ht:P.underlying t=some (.slice E))(bytes)(l:(P.info? E).map (λi=>(i.zero,i.size,i.bytes))=some (some z,k,bytes))(C:z.cells.size=k)(K:0<k)(D:bytes<=1000)
   (hb:aA w j E us.toArray) (L:us.length=k) (M:∀u∈us,u.oneCell'=true) (hn:n<=100000000) (N:B<=w.1.size):
  ∃F J w',(Builtin.append_ #[t,t] I #[(A,n,c),(j,1,1)]).run P w=.ok (.slice F (n+1) J) w'/\aT w' B E k F J (n+1) (vs++us)/\dj A F w w':=by
 have⟨i,hi,e6⟩:=bJ.1 l;simp only[dS]at e6;have⟨fN,gu,jR⟩:=e6;have G:(n+1)*bytes<=140737488355328:=by have:=fS (n+1) D;omega
 obtain⟨v',w',hr,r,hg,-,y⟩:=Gx (P:=P) w B t I E i z k bytes ht hi fN gu jR C K _ _ _ h ⟨j,0,none⟩ 1 1 us (by rw[L];omega)
  (λaa u hu=>by
   have e:(⟨j,0,none⟩:Addr).add aa=⟨j,aa,none⟩:=by rw[cf,cQ]
   rw[e,hb.cell aa];simpa using hu) M zBx G N
 rcases r.2 with⟨hv,h0⟩|⟨g,cap,cur,hv,O,Q,R,S,T,V⟩;omega;rw[hv]at r y hr;refine⟨_,_,w',hr,r,?_,hg.size,λb hb X=>?_,λad e=>?_⟩;exact(aY 0 w).grown hg Y ay;rw[hg.block b hb ?_];rw[cX];intro e;obtain⟨ad,had,rfl⟩:=bJ.1 e.symm;grind;injection e with e;subst e;rw[cX,cX]at y;rcases y with hn|hn;have⟨ad0,h3,h4⟩:=bJ.1 hn.symm;grind;grind
def zB6(h:Γ:=by (have y:Region.wanted o (yielded ops a.tmps)=true:=by simp[Region.wanted,hg]);rw[ah y];unfold Oper.wp;simp[execOp,b,resolve,invoke,builtin,hd,r,hr,Result.andThen];exact hK):=h
def oF{o:Oper}{w:ab}{E:Prop}
  (hg:o.guard=none) (d x) (e j) (b:o.op=Op.call {callee:=Callee.builtin Builtin.append,args:= #[d,x],argTypes:= #[e,j]})
  (v u) (hd:a.eval d=v) (r:a.eval x=u) {l:Value}  (hr:(Builtin.append_ #[e,j] o.type #[v,u]).run P w=.ok l w') (hK:K (a.put o.dst l) w'):
  if Region.wanted o (yielded ops a.tmps)=true then Oper.wp P o a w K Q else E:=by
 exact zB6
def dZ{o:Oper}{w:ab}{E:Prop}
  (hg:o.guard=none) (d x) (e j) (b:o.op=Op.call {callee:=Callee.builtin Builtin.copy,args:= #[d,x],argTypes:= #[e,j]})
  (v u) (hd:a.eval d=v) (r:a.eval x=u) {l:Value}  (hr:(Builtin.copy_ #[e,j] o.type #[v,u]).run P w=.ok l w') (hK:K (a.put o.dst l) w'):
  if Region.wanted o (yielded ops a.tmps)=true then Oper.wp P o a w K Q else E:=by
 exact zB6
def hz(w){rest:List Oper}{o:Oper}(b:o.guard=none)(d s)(t e)
  (l:o.op=.call {callee:=.builtin .copy,args:= #[d,s],argTypes:= #[t,e]}) (v u) (hd:a.eval d=v) (hs:a.eval s=u) {j:Value} 
  (hr:(Builtin.copy_ #[t,e] o.type #[v,u]).run P w=.ok j w') (h:wpList P ops Q rest (a.put o.dst j) w'):wpList P ops Q (o::rest) a w:=
 wpList_plain b λ_ hK=>by
 unfold Oper.wp execOp;simp only[l,resolve,invoke,builtin,uP,zO,uI,zG,eh,lM,hd,hs,hr];exact hK _ _ h
end
end
section
variable{w:World}{B n:Nat}
def zBy(h:Γ:=by simp[u.o];omega):=h
def zB0(h:Γ:=by
 go_wp2_with fail;go_ret;refine⟨rfl,?_,?_⟩
 .refine .mk' hB (bT V _) Y hm zBy ?_;first|(rw[fC zBy,fC zBy,e5,l3,N.o];done)|(rw[fC zBy,e5,l3,N.o];done)|(have K:=N.o;simp only[fm]at K⊢;rw[fC zBy,e5,l3,K])
 exact((dj.refl _ w).drew.trans (ez (w:=w.drew) M X)).trans (ez ay _)):=h
def zB2(h:Γ:=by (have e:((i:Int)+1).toNat=i+1:=by omega);by_cases L:c=i+1;simp[Result.andThen,sliced,e,L];simp[Result.andThen,sliced,e,L,cf]):=h
def zB7(h:Γ:=by have L:¬c=n-1:=Y;have h2:n-(n-1)=1:=Y;simp[Result.andThen,sliced,L,h2,cf]):=h
def zBb(h:Γ:=by simp[Result.andThen,sliced,Addr.add]):=h
def zBe(h:Γ:=by obtain⟨R,D,r⟩:=bJ.1 b;rw[D];simp at r;simp[r]):=h
def zBt(h:Γ:=by simp[sizeOf,typeInfo,D,r]):=h
def zBu(h:Γ:=by simp[Act.eval,Act.put]):=h
def zBv(h:Γ:=by first|rfl|(simp[Builtin.zeroCells,Value.cells];try rfl)):=h
def zBF(h:Γ:=by rw[u.o];simp;omega):=h
theorem acV(h:aT w B 308 2 (some ⟨g,0,none⟩) c n vs)(Q:∀v∈vs,v.oneCell'=true)(hx:x=(i:Int))(hy:y=(i:Int)+1)(hi:i<n)(hn:n<=16777216):
  () 257 #[(g,n,c),x,y] w λe w'=>e=.returned (.slice g (n-1) c)/\aT w' B 308 2 (some ⟨g,0,none⟩) c (n-1) (vs.take (i*2)++vs.drop ((i+1)*2))/\dj g (some ⟨g,0,none⟩) w w':=by
 subst hx hy;obtain⟨cur,hg,hB,hl,hm,hc,ht,M⟩:=h.whole;have b:(prog.info? 308).map (λi=>(i.zero,i.size,i.bytes))=some (some (.agg #[an,an]),2,16):=ap;have C:(prog.info? 308).map (·.size)=some 2:=zBe;have j:∀W,(sizeOf (prog.elem 309)).run prog W=.ok 2 W:=λW=>by obtain⟨R,D,r⟩:=bJ.1 (show(prog.info? (prog.elem 309)).map (·.size)=some 2 from by kernel_rfl);exact zBt
 have l:prog.underlying 309=some (.slice (prog.elem 309)):=ap;obtain⟨S,kE⟩:∃S,∀W,(Instr.slice 309 (g,n,c) (some (.int .i64 (i:Int))) (some (.int .i64 ((i:Int)+1))) (some (.int .i64 (n:Int)))).run prog W=.ok S W:=by refine⟨sliced g ((i:Int)).toNat ((i:Int)+1).toNat ((n:Int)).toNat 2,λW=>?_⟩;rw[Ae W 309 (some ⟨g,0,none⟩) n c l .i64 .i64 .i64 i ((i:Int)+1) n Y Y Y Y,j];rfl
 obtain⟨off,F⟩:=lg (if c=i+1 then 0 else(i+1)*2:Nat);have vp:∀W,(Instr.slice 309 (g,n,c) none (some (.int .i64 (i:Int))) none).run prog W=.ok (.slice g i c) W:=λW=>by rw[kV W 309 (some ⟨g,0,none⟩) n c l .i64 i Y Y,j];exact zBb
 have Jp:∀W,(Instr.slice 309 (g,n,c) (some (.int .i64 ((i:Int)+1))) none none).run prog W=.ok (.slice (some ⟨g,off,none⟩) (n-(i+1)) (c-(i+1))) W:=λW=>by rw[dB W 309 (some ⟨g,0,none⟩) n c l .i64 ((i:Int)+1) Y Y,j,F];exact zB2
 have wZ:∀W,(Instr.slice 309 (.slice g (n-1) c) (some (.int .i64 ((n-1:Nat):Int))) (some (.int .i64 (n:Int))) none).run prog W=.ok (.slice (some ⟨g,(n-1)*2,none⟩) 1 (c-(n-1))) W:=λW=>by rw[kW W 309 (some ⟨g,0,none⟩) (n-1) c l .i64 .i64 ((n-1:Nat):Int) n Y Y Y,j];exact zB7
 have m:i+1<n->off=(i+1)*2:=ay
 have T:∀(W:ab),W.heap=w.heap->∀G,∃X,(Builtin.append_ #[309,309] G #[.slice g i c,.slice (some ⟨g,off,none⟩) (n-(i+1)) (c-(i+1))]).run prog W=.ok (.slice g (n-1) c) (W.setRow g X)/\X.size=c*2/\X.toList.take ((n-1)*2)=vs.take (i*2)++vs.drop ((i+1)*2):=λW hW G=>
  tY (B:=B) (k:=2) (h.same λad _=>by rw[hW]) hi 309 G ap C Q m
 have ia:((i:Int)==(i:Int)+1)=false:=by simp;omega
 have HR:=U T;have HI:=U b;have mixed:prog.follows .mixedOrders=true:=ap;clear F m T b C hc ht Q h l j;go_in;go_upto_region 5 with fail;obtain⟨X,hX,I,J⟩:=HR.o w.drew rfl 309;have V:=bT (w:=w.drew) hg X;have N:=U J;have u:=U I;clear J I;go_region_law_o (refine oF rfl _ _ 309 309 rfl _ _ zBu zBu hX ?_);have h4:(n-1)*2+2=n*2:=Y;have O:=λG=>nT (P:=prog) (w:=w.drew.setRow g X) (E:=308) (z:=.agg #[an,an]) (n:=1) (us:=[.int .i64 0,.int .i64 0]) (o:=(n-1)*2) 309 G ap (λW=>by obtain⟨R,D,r⟩:=bJ.1 HI.o;simp at r;simp[zeroValue,typeInfo,D,r]) zBv zBw ao (cap:=c-(n-1)) V zBF;try simp only[fm]at O
 exact zB0
theorem acW(h:aT w B 311 3 (some ⟨g,0,none⟩) c n vs)(Q:∀v∈vs,v.oneCell'=true)(hx:x=(i:Int))(hy:y=(i:Int)+1)(hi:i<n)(hn:n<=16777216):
  () 208 #[(g,n,c),x,y] w λe w'=>e=.returned (.slice g (n-1) c)/\aT w' B 311 3 (some ⟨g,0,none⟩) c (n-1) (vs.take (i*3)++vs.drop ((i+1)*3))/\dj g (some ⟨g,0,none⟩) w w':=by
 subst hx hy;obtain⟨cur,hg,hB,hl,hm,hc,ht,M⟩:=h.whole;have b:(prog.info? 311).map (λi=>(i.zero,i.size,i.bytes))=some (some (.agg #[an,an,an]),3,24):=ap;have C:(prog.info? 311).map (·.size)=some 3:=zBe;have j:∀W,(sizeOf (prog.elem 194)).run prog W=.ok 3 W:=λW=>by obtain⟨R,D,r⟩:=bJ.1 (show(prog.info? (prog.elem 194)).map (·.size)=some 3 from by kernel_rfl);exact zBt
 have l:prog.underlying 194=some (.slice (prog.elem 194)):=ap;obtain⟨S,kE⟩:∃S,∀W,(Instr.slice 194 (g,n,c) (some (.int .i64 (i:Int))) (some (.int .i64 ((i:Int)+1))) (some (.int .i64 (n:Int)))).run prog W=.ok S W:=by refine⟨sliced g ((i:Int)).toNat ((i:Int)+1).toNat ((n:Int)).toNat 3,λW=>?_⟩;rw[Ae W 194 (some ⟨g,0,none⟩) n c l .i64 .i64 .i64 i ((i:Int)+1) n Y Y Y Y,j];rfl
 obtain⟨off,F⟩:=lg (if c=i+1 then 0 else(i+1)*3:Nat);have vp:∀W,(Instr.slice 194 (g,n,c) none (some (.int .i64 (i:Int))) none).run prog W=.ok (.slice g i c) W:=λW=>by rw[kV W 194 (some ⟨g,0,none⟩) n c l .i64 i Y Y,j];exact zBb
 have Jp:∀W,(Instr.slice 194 (g,n,c) (some (.int .i64 ((i:Int)+1))) none none).run prog W=.ok (.slice (some ⟨g,off,none⟩) (n-(i+1)) (c-(i+1))) W:=λW=>by rw[dB W 194 (some ⟨g,0,none⟩) n c l .i64 ((i:Int)+1) Y Y,j,F];exact zB2
 have wZ:∀W,(Instr.slice 194 (.slice g (n-1) c) (some (.int .i64 ((n-1:Nat):Int))) (some (.int .i64 (n:Int))) none).run prog W=.ok (.slice (some ⟨g,(n-1)*3,none⟩) 1 (c-(n-1))) W:=λW=>by rw[kW W 194 (some ⟨g,0,none⟩) (n-1) c l .i64 .i64 ((n-1:Nat):Int) n Y Y Y,j];exact zB7
 have m:i+1<n->off=(i+1)*3:=ay
 have T:∀(W:ab),W.heap=w.heap->∀G,∃X,(Builtin.append_ #[194,194] G #[.slice g i c,.slice (some ⟨g,off,none⟩) (n-(i+1)) (c-(i+1))]).run prog W=.ok (.slice g (n-1) c) (W.setRow g X)/\X.size=c*3/\X.toList.take ((n-1)*3)=vs.take (i*3)++vs.drop ((i+1)*3):=λW hW G=>
  tY (B:=B) (k:=3) (h.same λad _=>by rw[hW]) hi 194 G ap C Q m
 have ia:((i:Int)==(i:Int)+1)=false:=by simp;omega
 have HR:=U T;have HI:=U b;have mixed:prog.follows .mixedOrders=true:=ap;clear F m T b C hc ht Q h l j;go_in;go_upto_region 5 with fail;obtain⟨X,hX,I,J⟩:=HR.o w.drew rfl 194;have V:=bT (w:=w.drew) hg X;have N:=U J;have u:=U I;clear J I;go_region_law_o (refine oF rfl _ _ 194 194 rfl _ _ zBu zBu hX ?_);have h4:(n-1)*3+3=n*3:=Y;have O:=λG=>nT (P:=prog) (w:=w.drew.setRow g X) (E:=311) (z:=.agg #[an,an,an]) (n:=1) (us:=[.int .i64 0,.int .i64 0,.int .i64 0]) (o:=(n-1)*3) 194 G ap (λW=>by obtain⟨R,D,r⟩:=bJ.1 HI.o;simp at r;simp[zeroValue,typeInfo,D,r]) zBv zBw ao (cap:=c-(n-1)) V zBF;try simp only[fm]at O
 exact zB0
theorem aaT(h:aT w B 309 1 (some ⟨g,0,none⟩) c n vs)(Q:∀v∈vs,v.oneCell'=true)(hx:x=(i:Int))(hy:y=(i:Int)+1)(hi:i<n)(hn:n<=16777216):
  () 258 #[(g,n,c),x,y] w λe w'=>e=.returned (.slice g (n-1) c)/\aT w' B 309 1 (some ⟨g,0,none⟩) c (n-1) (vs.take (i*1)++vs.drop ((i+1)*1))/\dj g (some ⟨g,0,none⟩) w w':=by
 subst hx hy;obtain⟨cur,hg,hB,hl,hm,hc,ht,M⟩:=h.whole;have b:(prog.info? 309).map (λi=>(i.zero,i.size,i.bytes))=some (some (.slice none 0 0),1,24):=ap;have C:(prog.info? 309).map (·.size)=some 1:=zBe;have j:∀W,(sizeOf (prog.elem 135)).run prog W=.ok 1 W:=λW=>by obtain⟨R,D,r⟩:=bJ.1 (show(prog.info? (prog.elem 135)).map (·.size)=some 1 from by kernel_rfl);exact zBt
 have l:prog.underlying 135=some (.slice (prog.elem 135)):=ap;obtain⟨S,kE⟩:∃S,∀W,(Instr.slice 135 (g,n,c) (some (.int .i64 (i:Int))) (some (.int .i64 ((i:Int)+1))) (some (.int .i64 (n:Int)))).run prog W=.ok S W:=by refine⟨sliced g ((i:Int)).toNat ((i:Int)+1).toNat ((n:Int)).toNat 1,λW=>?_⟩;rw[Ae W 135 (some ⟨g,0,none⟩) n c l .i64 .i64 .i64 i ((i:Int)+1) n Y Y Y Y,j];rfl
 obtain⟨off,F⟩:=lg (if c=i+1 then 0 else(i+1)*1:Nat);have vp:∀W,(Instr.slice 135 (g,n,c) none (some (.int .i64 (i:Int))) none).run prog W=.ok (.slice g i c) W:=λW=>by rw[kV W 135 (some ⟨g,0,none⟩) n c l .i64 i Y Y,j];exact zBb
 have Jp:∀W,(Instr.slice 135 (g,n,c) (some (.int .i64 ((i:Int)+1))) none none).run prog W=.ok (.slice (some ⟨g,off,none⟩) (n-(i+1)) (c-(i+1))) W:=λW=>by rw[dB W 135 (some ⟨g,0,none⟩) n c l .i64 ((i:Int)+1) Y Y,j,F];exact zB2
 have wZ:∀W,(Instr.slice 135 (.slice g (n-1) c) (some (.int .i64 ((n-1:Nat):Int))) (some (.int .i64 (n:Int))) none).run prog W=.ok (.slice (some ⟨g,(n-1)*1,none⟩) 1 (c-(n-1))) W:=λW=>by rw[kW W 135 (some ⟨g,0,none⟩) (n-1) c l .i64 .i64 ((n-1:Nat):Int) n Y Y Y,j];exact zB7
 have m:i+1<n->off=(i+1)*1:=ay
 have T:∀(W:ab),W.heap=w.heap->∀G,∃X,(Builtin.append_ #[135,135] G #[.slice g i c,.slice (some ⟨g,off,none⟩) (n-(i+1)) (c-(i+1))]).run prog W=.ok (.slice g (n-1) c) (W.setRow g X)/\X.size=c*1/\X.toList.take ((n-1)*1)=vs.take (i*1)++vs.drop ((i+1)*1):=λW hW G=>
  tY (B:=B) (k:=1) (h.same λad _=>by rw[hW]) hi 135 G ap C Q m
 have ia:((i:Int)==(i:Int)+1)=false:=by simp;omega
 have HR:=U T;have HI:=U b;have mixed:prog.follows .mixedOrders=true:=ap;clear F m T b C hc ht Q h l j;go_in;go_upto_region 5 with fail;obtain⟨X,hX,I,J⟩:=HR.o w.drew rfl 135;have V:=bT (w:=w.drew) hg X;have N:=U J;have u:=U I;clear J I;go_region_law_o (refine oF rfl _ _ 135 135 rfl _ _ zBu zBu hX ?_);have h4:(n-1)*1+1=n*1:=Y;have O:=λG=>nT (P:=prog) (w:=w.drew.setRow g X) (E:=309) (z:=.slice none 0 0) (n:=1) (us:=[.slice none 0 0]) (o:=(n-1)*1) 135 G ap (λW=>by obtain⟨R,D,r⟩:=bJ.1 HI.o;simp at r;simp[zeroValue,typeInfo,D,r]) zBv zBw ao (cap:=c-(n-1)) V zBF;try simp only[fm]at O
 exact zB0
end
variable{m:Nat}
def lr(w:ab)(B:Nat)(E:TypeId)(k:Nat)(A:bz)(n:Nat)(l:ki)(e:Ending)(w':ab):Prop:=∃b j,e=.returned (.slice b n j)/\aT w' B E k b j n l/\dj A b w w'
section
variable{w:World}{B n:Nat}{us:List Value}
def MO(h:aT w B 308 2 A c n vs)(hb:aA w m 308 us.toArray)(y:us.length=2)(l:∀u∈us,u.oneCell'=true)(D:n<=16777216)(C:B<=w.1.size):
  () 248 #[(A,n,c),n,(m,1,1)] w (lr w B 308 2 A (n+1) (vs++us)):=by
 have⟨A',c',w1,hr,h2,h3⟩:=tZ (P:=prog) h 309 309 ap 16 (z:=.agg #[an,an]) ap (by rfl) ao ao hb y l Y C;have b:prog.underlying 309=some (.slice (prog.elem 309)):=ap;have e:∀W,(sizeOf (prog.elem 309)).run prog W=.ok 2 W:=λW=>by have⟨ii,e1,e2⟩:=bJ.1 (show(prog.info? (prog.elem 309)).map (·.size)=some 2 from by kernel_rfl);simp[sizeOf,typeInfo,e1,e2]
 have j:∃r,∀W,(Instr.slice 309 (A,n,c) (some (.int .i64 (n:Int))) none none).run prog W=.ok (.slice r 0 (c-n)) W:=⟨if c=n then A else A.map (·.add (n*2)),λW=>by
  rw[dB W 309 A n c b .i64 n Y Y,e];cases A<;>simp[Result.andThen,sliced]⟩
 have⟨r,j⟩:=j;clear b e;go_in;go_wp2_with (at_builtin;refine Lib.wpList_append_run _ rfl _ _ 309 309 rfl _ _ rfl rfl _ _ hr ?_);go_ret;exact⟨A',c',rfl,h2,h3⟩
def zBI(h:Γ:=by rw[cr,l];omega):=h
def zB4(h:Γ:=by go_ret;refine⟨some ⟨g,0,none⟩,c,rfl,?_,((dj.refl _ w).drew.trans (ez (w:=w.drew) M X)).trans (ez (by rwa[size_setRow]) _)⟩;exact .mk' hB (bT VN aa) hr hm O.o Q.o):=h
def zB8(h:Γ:=by have N:¬c=i:=Y;simp[Result.andThen,sliced,N,cf]):=h
def zB9(h:Γ:=by (have e:((i:Int)+1).toNat=i+1:=by omega);have N:¬c=i+1:=Y;have h2:n+1-(i+1)=n-i:=Y;simp[Result.andThen,sliced,N,e,h2,cf]):=h
def zBf(h:Γ:=by (have e:((n:Int)+1).toNat=n+1:=by omega);simp[Result.andThen,sliced,Addr.add,e]):=h
def zBh(h:Γ:=by rw[e5,d5 Y,fC zBI,e5,d5 Y]at this;rw[this,<-ht,e5,d5 Y]):=h
def zBl(h:Γ:=by rw[V,fC (by rw[bh,cr,D,l];omega),bV (by rw[bh,cr,D,l];omega)]):=h
def zBm(h:Γ:=by simp[sizeOf,typeInfo,I,C]):=h
def zBq(h:Γ:=by rw[k7 (show 1<=n+1-i by omega)]at this;grind):=h
def zBz(h:Γ:=by have:=hb;unfold aA at this;simp[World.shape?,this,S]):=h
def zBD(h:Γ:=by simp only[S,k7 (show 1<=n+1-i by omega),l7]):=h
def zBJ(h:Γ:=by simp[World.shape?,hg,hc]):=h
theorem Hc(h:aT w B 308 2 (some ⟨g,0,none⟩) c n vs)(h1:∀v∈vs,v.oneCell'=true)(hb:aA w m 308 us.toArray)(S:us.length=2)(h1u:∀u∈us,u.oneCell'=true)(hv:m≠g)(hi:i<n)(hr:n+1<=c)(hn:n<=16777216):
  () 248 #[(g,n,c),i,(m,1,1)] w (lr w B 308 2 (some ⟨g,0,none⟩) (n+1) (vs.take (i*2)++us++vs.drop (i*2))):=by
 obtain⟨cur,hg,hB,hle,hm,hc,ht,M⟩:=h.whole;have oG:vs.length=n*2:=h.1;have r:prog.underlying 309=some (.slice (prog.elem 309)):=ap;have b:prog.underlying 309=some (.slice 308):=ap;have z:(prog.info? 308).map (·.size)=some 2:=ap;have F:∀W,(sizeOf 308).run prog W=.ok 2 W:=λW=>by have⟨ii,I,C⟩:=bJ.1 z;exact zBm
 have y:∀W,(sizeOf (prog.elem 309)).run prog W=.ok 2 W:=λW=>by obtain⟨ii,I,C⟩:=bJ.1 (show(prog.info? (prog.elem 309)).map (·.size)=some 2 from by kernel_rfl);exact zBm
 have hm9:c<=9223372036854775807:=by unfold maxLen at hm;omega
 have qQ:∀W,(Instr.slice 309 (g,n,c) (some (.int .i64 (i:Int))) none none).run prog W=.ok (.slice (some ⟨g,i*2,none⟩) (n-i) (c-i)) W:=λW=>by rw[dB W 309 (some ⟨g,0,none⟩) n c r .i64 i Y Y,y];exact zB8
 have vp:∀W,(Instr.slice 309 (g,n,c) none (some (.int .i64 ((n:Int)+1))) none).run prog W=.ok (.slice g (n+1) c) W:=λW=>by rw[kV W 309 (some ⟨g,0,none⟩) n c r .i64 ((n:Int)+1) Y Y,y];exact zBf
 have Jp:∀W,(Instr.slice 309 (.slice g (n+1) c) (some (.int .i64 ((i:Int)+1))) none none).run prog W=.ok (.slice (some ⟨g,(i+1)*2,none⟩) (n-i) (c-(i+1))) W:=λW=>by rw[dB W 309 (some ⟨g,0,none⟩) (n+1) c r .i64 ((i:Int)+1) Y Y,y];exact zB9
 have wZ:∀W,(Instr.slice 309 (.slice g (n+1) c) (some (.int .i64 (i:Int))) none none).run prog W=.ok (.slice (some ⟨g,i*2,none⟩) (n+1-i) (c-i)) W:=λW=>by rw[dB W 309 (some ⟨g,0,none⟩) (n+1) c r .i64 i Y Y,y];exact zB8
 have hov:∀lb cb,(callFunc 277 #[(m,1,1),.slice (some ⟨g,(i+1)*2,none⟩) lb cb]).run prog w=.ok (.value (.bool false)) w:=λlb cb=>by
  rw[run_callFunc_extern func277 ap ap ap (e:=Extern.SlicesOverlaps.overlaps #[309,309] #[4]) ap,
   Lib.run_overlaps_apart w 309 4 308 b 2 F ⟨m,0,none⟩ ⟨g,(i+1)*2,none⟩ 1 1 lb cb hv 308 308 2 (c*2) zBz zBJ Y (hb.frozen _) (hb.frozen _)]
  rfl
 have D:(vs.drop (i*2)).length=(n-i)*2:=by rw[e2,oG];omega
 have G:∀J,(Builtin.copy_ #[309,309] J #[.slice (some ⟨g,(i+1)*2,none⟩) (n-i) (c-(i+1)),.slice (some ⟨g,i*2,none⟩) (n+1-i) (c-i)]).run prog w.drew=.ok (goInt ((n-i:Nat):Int)) (w.drew.setRow g (cur.toList.take ((i+1)*2)++vs.drop (i*2)++cur.toList.drop ((i+1)*2+(vs.drop (i*2)).length)).toArray):=λJ=>by
  have:=fG (P:=prog) (w:=w.drew) (E:=308) (k:=2) (g:=g) (o:=(i+1)*2) (cs:=vs.drop (i*2)) (cur:=cur) 309 309 J (n-i) (c-(i+1)) ⟨g,i*2,none⟩ (n+1-i) (c-i) b z hg ay (λj v T=>by
   rw[iF]at T;have⟨g2,C,kC⟩:=h.cell T;injection C with C;cases C
   rw[cf];exact kC) ay ay
  grind
 obtain⟨X,V⟩:=lg ((cur.toList.take ((i+1)*2)++vs.drop (i*2)++cur.toList.drop ((i+1)*2+(vs.drop (i*2)).length)).toArray);rw[<-V]at G;have l:cur.toList.length=c*2:=by rw[jj];exact hc
 have K:X.size=c*2:=by rw[V,i9,bh,bh,cr,D,e2,l];omega
 have L:X.toList.take ((n+1)*2)=cur.toList.take ((i+1)*2)++vs.drop (i*2):=zBl;have VN:=bT (w:=w.drew) hg X;obtain⟨aa,hY⟩:=lg ((X.toList.take (i*2)++us++X.toList.drop (i*2+us.length)).toArray);have O:aa.size=c*2:=by rw[hY,i9,bh,bh,cr,e2,jj,K,S];omega
 have Q:aa.toList.take ((n+1)*2)=vs.take (i*2)++us++vs.drop (i*2):=by (have I:X.toList.take (i*2)=vs.take (i*2):=by have:=di (List.take (i*2)) L;exact zBh);(have C:(X.toList.take ((n+1)*2)).drop (i*2+us.length)=vs.drop (i*2):=by rw[L,S,sF zBI]);(have e3:(X.toList.take (i*2)++us).length=i*2+us.length:=by rw[bh,cr,jj,K];omega);rw[hY];rw[sH,e3,bV ay,<-C,I,uQ]
 have R:∀(W:ab),W.heap=(w.drew.setRow g X).heap->∀J,(Builtin.copy_ #[309,309] J #[.slice (some ⟨g,i*2,none⟩) (n+1-i) (c-i),(m,1,1)]).run prog W=.ok (goInt 1) (W.setRow g aa):=λW hW J=>by
  have:=fG (P:=prog) (w:=W) (E:=308) (k:=2) (g:=g) (o:=i*2) (cs:=us) (cur:=X) 309 309 J (n+1-i) (c-i) ⟨m,0,none⟩ 1 1 b z ay zBD (λj v T=>by
   rw[cf,cQ];have I:W.heap[m]?=some (.cells us.toArray 308 (0,0)):=by rw[hW,bl hv];exact hb
   simp[World.cell?,I];simpa using T) ay h1u
  exact zBq
 change Z _ at O Q;have mixed:prog.follows .mixedOrders=true:=ap;clear hY V K L l D r y b F z hc ht h1 h;have jR:((i:Int)==(n:Int))=false:=by simp;omega
 have MP:decide ((c:Int)<(n:Int)+1)=false:=by simp;omega
 have MQ:IntKind.i64.wrap ((i:Int)+1)=(i:Int)+1:=by rw[a7];omega
 go_in;go_wp2_with (simp only[hov]);go_region_law_o (refine dZ rfl _ _ 309 309 rfl _ _ zBu zBu (G _) ?_);go_wp2_with (at_builtin;refine hz _ rfl _ _ 309 309 rfl _ _ rfl rfl (R _ rfl _) ?_);exact zB4
def zB3(h:Γ:=by refine⟨some ⟨w.1.size,0,none⟩,G,rfl,?_,dj.fresh ⟨p2.st.os,p2.st.tape,p2.st.output,by rw[size_setRow];exact p2.st.size,λb hb=>by rw[bl Y];exact p2.st.block b hb⟩ (al _)⟩;exact .mk' hB (bT hh aa) hGn agK VP.o VQ.o):=h
def zBa(h:Γ:=by (have e:((i:Int)+1).toNat=i+1:=by omega);have S:¬G=i+1:=Y;have h2:n+1-(i+1)=n-i:=Y;simp[Result.andThen,sliced,S,e,h2,cf]):=h
def zBg(h:Γ:=by simp[Result.andThen,sliced,S,cf]):=h
def zBo(h:Γ:=by rw[C];simp[Builtin.zeroCells,Value.cells,N];omega):=h
def zBp(h:Γ:=by rw[k7 (show 1<=n+1-i by omega)]at this;exact this):=h
def zBr(h:Γ:=by rw[hX];rw[hRt,hk (by rw[bh,cr,N,hl];omega)]):=h
def zBB(h:Γ:=by simp only[hl,k7 (show 1<=n+1-i by omega),l7]):=h
def zBK(h:Γ:=by rw[MR,T];exact GV Y Y):=h
def zBL(h:Γ:=by rw[bh,cr,jj,Q,R];omega):=h
theorem Jq(h:aT w B 308 2 (some ⟨g,0,none⟩) n n vs)(h1:∀v∈vs,v.oneCell'=true)(hb:aA w m 308 us.toArray)(hl:us.length=2)(h1u:∀u∈us,u.oneCell'=true)(hi:i<n)(hn:n<=16777216)(hB:B<=w.1.size):
  () 248 #[(g,n,n),.int .i64 (i:Int),(m,1,1)] w (lr w B 308 2 (some ⟨g,0,none⟩) (n+1) (vs.take (i*2)++us++vs.drop (i*2))):=by
 obtain⟨cur,hg,-,-,hm,hc,ht,oH⟩:=h.whole;have N:vs.length=n*2:=h.1;have y:prog.underlying 309=some (.slice (prog.elem 309)):=ap;have r:prog.underlying 309=some (.slice 308):=ap;have K:(prog.info? 308).map (λi=>(i.zero,i.size,i.bytes))=some (some (.agg #[an,an]),2,16):=ap;have O:(prog.info? 308).map (·.size)=some 2:=ap;have⟨ii,Hd,e6⟩:=bJ.1 K;simp only[dS]at e6;have⟨fN,vq,MR⟩:=e6;have z:∀W,(sizeOf (prog.elem 309)).run prog W=.ok 2 W:=λW=>by have⟨ii,e1,I⟩:=bJ.1 (show(prog.info? (prog.elem 309)).map (·.size)=some 2 from by kernel_rfl);simp[sizeOf,typeInfo,e1,I]
 have qQ:∀W,(Instr.slice 309 (g,n,n) (some (.int .i64 (i:Int))) none none).run prog W=.ok (.slice (some ⟨g,i*2,none⟩) (n-i) (n-i)) W:=λW=>by rw[dB W 309 (some ⟨g,0,none⟩) n n y .i64 i Y Y,z];have S:¬n=i:=Y;exact zBg
 have vp:∀W,(Instr.slice 309 (g,n,n) none (some (.int .i64 (i:Int))) none).run prog W=.ok (.slice g i n) W:=λW=>by rw[kV W 309 (some ⟨g,0,none⟩) n n y .i64 i Y Y,z];exact zBb
 have tR:(n:Int)+1-(i:Int)=((n+1-i:Nat):Int):=by omega
 have T:i+(n+1-i)=n+1:=Y;have L:(Builtin.firstCells ii.size i (.slice g i n)).run prog w.drew=.ok (vs.take (i*2)).toArray w.drew:=by
  rw[vq];exact GJ w.drew 2 i ⟨g,0,none⟩ i n (vs.take (i*2)) ay (λj v J=>by
   rw[cf,cQ];rw[ji]at J
   split at J
   .have⟨g2,I,kC⟩:=h.cell J;injection I with I;cases I
    exact kC
   .cases J)
 obtain⟨G,hG⟩:=lg (grownCap w (n+1) n 308);obtain⟨l,C⟩:∃l:Array Value,l=(vs.take (i*2)).toArray++Builtin.zeroCells (Value.cells (.agg #[an,an])) (n+1-i)++Builtin.zeroCells (Value.cells (.agg #[an,an])) (G-(n+1)):=⟨_,rfl⟩
 have V:∀D,(Builtin.append_ #[309,3] D #[.slice g i n,.int .i64 ((n:Int)+1-(i:Int))]).run prog w=
   .ok (.slice w.1.size (n+1) G) (w.drew.alloc (.cells l 308)):=λD=>by
  have h:=Lib.run_append_grow_zeros (P:=prog) w 309 3 D 308 ii _ .i64 .i64 r ap Hd fN g i n (vs.take (i*2)) L (n+1-i) Y ay Y Y (by rw[MR];omega) zBK
  grind
 have hGn:n+1<=G:=by rw[hG];exact pL w _ _ _
 have agK:G<=maxLen:=by rw[hG];exact sD w (n+1) n 308 zBx
 have hRs:l.size=G*2:=zBo;have hRt:l.toList.take (i*2)=vs.take (i*2):=by rw[C];simp only[GI];rw[hM,hk ay]
 have hn2:∀W,(Instr.slice 309 (.slice w.1.size (n+1) G) (some (.int .i64 (i:Int))) none none).run prog W=.ok (.slice (some ⟨w.1.size,i*2,none⟩) (n+1-i) (G-i)) W:=λW=>by rw[dB W 309 (some ⟨w.1.size,0,none⟩) (n+1) G y .i64 i Y Y,z];have S:¬G=i:=Y;exact zBg
 have VO:∀W,(Instr.slice 309 (.slice w.1.size (n+1) G) (some (.int .i64 ((i:Int)+1))) none none).run prog W=.ok (.slice (some ⟨w.1.size,(i+1)*2,none⟩) (n-i) (G-(i+1))) W:=λW=>by rw[dB W 309 (some ⟨w.1.size,0,none⟩) (n+1) G y .i64 ((i:Int)+1) Y Y,z];exact zBa
 obtain⟨W1,F⟩:=lg (w.drew.alloc (.cells l 308));rw[<-F]at V;have p1:aj W1 w:=F▸⟨((aY _ w).drew).alloc (al _) _⟩;have k1:W1.heap[w.1.size]?=some (.cells l 308 (0,0)):=by rw[F];exact jP w.drew _
 have k2:aA W1 m 308 us.toArray:=hb.keep p1.st;have k3:aT W1 B 308 2 (some ⟨g,0,none⟩) n n vs:=h.keep p1.st;have s1:W1.1.size=w.1.size+1:=by rw[F];simp
 have M:∀(W:ab),W.heap=W1.heap->∀D,(Builtin.copy_ #[309,309] D #[.slice (some ⟨w.1.size,i*2,none⟩) (n+1-i) (G-i),(m,1,1)]).run prog W=.ok (goInt 1) (W.setRow w.1.size (l.toList.take (i*2)++us++l.toList.drop (i*2+us.length)).toArray):=λW hW D=>by
  have:=fG (P:=prog) (w:=W) (E:=308) (k:=2) (g:=w.1.size) (o:=i*2) (cs:=us) (cur:=l) 309 309 D (n+1-i) (G-i) ⟨m,0,none⟩ 1 1 r O ay zBB (λj v J=>by
   rw[cf,cQ];have e1:W.heap[m]?=some (.cells us.toArray 308 (0,0)):=by rw[hW];exact k2
   simp[World.cell?,e1];simpa using J) ay h1u
  exact zBp
 obtain⟨X,hX⟩:=lg ((l.toList.take (i*2)++us++l.toList.drop (i*2+us.length)).toArray);rw[<-hX]at M;have Q:X.size=G*2:=by rw[hX,i9,bh,bh,cr,e2,jj,hl,hRs];omega
 have hXt:X.toList.take ((i+1)*2)=vs.take (i*2)++us:=zBr;have R:(vs.drop (i*2)).length=(n-i)*2:=by rw[e2,N];omega
 have k4:(W1.setRow w.1.size X).heap[w.1.size]?=some (.cells X 308 (0,0)):=bT k1 X;have hgN:g≠w.1.size:=Y;obtain⟨aa,hY⟩:=lg ((X.toList.take ((i+1)*2)++vs.drop (i*2)++X.toList.drop ((i+1)*2+(vs.drop (i*2)).length)).toArray);have VP:aa.size=G*2:=by rw[hY,i9,bh,bh,cr,R,e2,jj,Q];omega
 have VQ:aa.toList.take ((n+1)*2)=vs.take (i*2)++us++vs.drop (i*2):=by rw[hY];show List.take ((n+1)*2) (X.toList.take ((i+1)*2)++vs.drop (i*2)++X.toList.drop ((i+1)*2+(vs.drop (i*2)).length))=_;rw[hk zBL,hXt]
 have VR:∀(W:ab),W.heap=(W1.setRow w.1.size X).heap->∀D,(Builtin.copy_ #[309,309] D #[.slice (some ⟨w.1.size,(i+1)*2,none⟩) (n-i) (G-(i+1)),.slice (some ⟨g,i*2,none⟩) (n-i) (n-i)]).run prog W=.ok (goInt ((n-i:Nat):Int)) (W.setRow w.1.size aa):=λW hW D=>by
  have k5:aT W B 308 2 (some ⟨g,0,none⟩) n n vs:=k3.same λad e=>by cases e;rw[hW,bl hgN]
  have:=fG (P:=prog) (w:=W) (E:=308) (k:=2) (g:=w.1.size) (o:=(i+1)*2) (cs:=vs.drop (i*2)) (cur:=X) 309 309 D (n-i) (G-(i+1)) ⟨g,i*2,none⟩ (n-i) (n-i) r O ay ay (λj v J=>by
   rw[iF]at J;have⟨g2,I,kC⟩:=k5.cell J;injection I with I;cases I
   rw[cf];exact kC) ay (λv hv=>h1 v (hJ hv))
  grind
 change Z _ at VP VQ;clear hY tR T L C hG hX Q hXt R hRs hRt s1 F y z r O K Hd fN vq MR hc ht h1 h;have mixed:prog.follows .mixedOrders=true:=ap;have jR:((i:Int)==(n:Int))=false:=by simp;omega
 have MP:decide ((n:Int)<(n:Int)+1)=true:=by simp;omega
 have MQ:IntKind.i64.wrap ((i:Int)+1)=(i:Int)+1:=by rw[a7];omega
 go_in
 go_wp2_with (first
  |(at_builtin;refine Lib.wpList_append_run _ rfl _ _ 309 3 rfl _ _ rfl rfl _ _ (V _) ?_)
  |(at_builtin;refine hz _ rfl _ _ 309 309 rfl _ _ rfl rfl (M _ rfl _) ?_))
 go_region_law_o (refine dZ rfl _ _ 309 309 rfl _ _ zBu zBu (VR (W1.setRow w.1.size X).drew rfl _) ?_);go_wp2;go_ret;have p2:aj (W1.setRow w.1.size X) w:=⟨⟨p1.st.os,p1.st.tape,p1.st.output,by rw[size_setRow];exact p1.st.size,λb hb=>by rw[bl Y];exact p1.st.block b hb⟩⟩;have hh:(W1.setRow w.1.size X).drew.heap[w.1.size]?=some (.cells X 308 (0,0)):=k4;exact zB3
theorem acX(h:aT w B 308 2 A c n vs)(r:∀v∈vs,v.oneCell'=true)(hb:aA w m 308 us.toArray)(e:us.length=2)(b:∀u∈us,u.oneCell'=true)(hv:∀z,A=some z->z.block≠m)(D:y=(i:Int))(hi:i<=n)(j:n<=16777216)(C:B<=w.1.size):
  () 248 #[(A,n,c),y,(m,1,1)] w (lr w B 308 2 A (n+1) (vs.take (i*2)++us++vs.drop (i*2))):=by
 subst D;have l:vs.length=n*2:=h.1;have E:=h.le;by_cases F:i=n;subst F;have:=MO h hb e b j C;rwa[show vs.take (i*2)++us++vs.drop (i*2)=vs++us from by rw[<-l,ek,uO,ev]];rcases h.form with⟨_,rfl,_⟩|⟨g,G,rfl,_⟩;omega;by_cases I:n+1<=c;exact Hc h r hb e b ay Y I j;obtain rfl:c=n:=Y;exact Jq h r hb e b Y j C
def MT(h:aT w B 311 3 A c n vs)(hb:aA w m 311 us.toArray)(y:us.length=3)(l:∀u∈us,u.oneCell'=true)(D:n<=16777216)(C:B<=w.1.size):
  () 247 #[(A,n,c),n,(m,1,1)] w (lr w B 311 3 A (n+1) (vs++us)):=by
 have⟨A',c',w1,hr,h2,h3⟩:=tZ (P:=prog) h 194 194 ap 24 (z:=.agg #[an,an,an]) ap (by rfl) ao ao hb y l Y C;have b:prog.underlying 194=some (.slice (prog.elem 194)):=ap;have e:∀W,(sizeOf (prog.elem 194)).run prog W=.ok 3 W:=λW=>by have⟨ii,e1,e2⟩:=bJ.1 (show(prog.info? (prog.elem 194)).map (·.size)=some 3 from by kernel_rfl);simp[sizeOf,typeInfo,e1,e2]
 have j:∃r,∀W,(Instr.slice 194 (A,n,c) (some (.int .i64 (n:Int))) none none).run prog W=.ok (.slice r 0 (c-n)) W:=⟨if c=n then A else A.map (·.add (n*3)),λW=>by
  rw[dB W 194 A n c b .i64 n Y Y,e];cases A<;>simp[Result.andThen,sliced]⟩
 have⟨r,j⟩:=j;clear b e;go_in;go_wp2_with (at_builtin;refine Lib.wpList_append_run _ rfl _ _ 194 194 rfl _ _ rfl rfl _ _ hr ?_);go_ret;exact⟨A',c',rfl,h2,h3⟩
theorem He(h:aT w B 311 3 (some ⟨g,0,none⟩) c n vs)(h1:∀v∈vs,v.oneCell'=true)(hb:aA w m 311 us.toArray)(S:us.length=3)(h1u:∀u∈us,u.oneCell'=true)(hv:m≠g)(hi:i<n)(hr:n+1<=c)(hn:n<=16777216):
  () 247 #[(g,n,c),i,(m,1,1)] w (lr w B 311 3 (some ⟨g,0,none⟩) (n+1) (vs.take (i*3)++us++vs.drop (i*3))):=by
 obtain⟨cur,hg,hB,hle,hm,hc,ht,M⟩:=h.whole;have oG:vs.length=n*3:=h.1;have r:prog.underlying 194=some (.slice (prog.elem 194)):=ap;have b:prog.underlying 194=some (.slice 311):=ap;have z:(prog.info? 311).map (·.size)=some 3:=ap;have F:∀W,(sizeOf 311).run prog W=.ok 3 W:=λW=>by have⟨ii,I,C⟩:=bJ.1 z;exact zBm
 have y:∀W,(sizeOf (prog.elem 194)).run prog W=.ok 3 W:=λW=>by obtain⟨ii,I,C⟩:=bJ.1 (show(prog.info? (prog.elem 194)).map (·.size)=some 3 from by kernel_rfl);exact zBm
 have hm9:c<=9223372036854775807:=by unfold maxLen at hm;omega
 have qQ:∀W,(Instr.slice 194 (g,n,c) (some (.int .i64 (i:Int))) none none).run prog W=.ok (.slice (some ⟨g,i*3,none⟩) (n-i) (c-i)) W:=λW=>by rw[dB W 194 (some ⟨g,0,none⟩) n c r .i64 i Y Y,y];exact zB8
 have vp:∀W,(Instr.slice 194 (g,n,c) none (some (.int .i64 ((n:Int)+1))) none).run prog W=.ok (.slice g (n+1) c) W:=λW=>by rw[kV W 194 (some ⟨g,0,none⟩) n c r .i64 ((n:Int)+1) Y Y,y];exact zBf
 have Jp:∀W,(Instr.slice 194 (.slice g (n+1) c) (some (.int .i64 ((i:Int)+1))) none none).run prog W=.ok (.slice (some ⟨g,(i+1)*3,none⟩) (n-i) (c-(i+1))) W:=λW=>by rw[dB W 194 (some ⟨g,0,none⟩) (n+1) c r .i64 ((i:Int)+1) Y Y,y];exact zB9
 have wZ:∀W,(Instr.slice 194 (.slice g (n+1) c) (some (.int .i64 (i:Int))) none none).run prog W=.ok (.slice (some ⟨g,i*3,none⟩) (n+1-i) (c-i)) W:=λW=>by rw[dB W 194 (some ⟨g,0,none⟩) (n+1) c r .i64 i Y Y,y];exact zB8
 have hov:∀lb cb,(callFunc 275 #[(m,1,1),.slice (some ⟨g,(i+1)*3,none⟩) lb cb]).run prog w=.ok (.value (.bool false)) w:=λlb cb=>by
  rw[run_callFunc_extern func275 ap ap ap (e:=Extern.SlicesOverlaps.overlaps #[194,194] #[4]) ap,
   Lib.run_overlaps_apart w 194 4 311 b 3 F ⟨m,0,none⟩ ⟨g,(i+1)*3,none⟩ 1 1 lb cb hv 311 311 3 (c*3) zBz zBJ Y (hb.frozen _) (hb.frozen _)]
  rfl
 have D:(vs.drop (i*3)).length=(n-i)*3:=by rw[e2,oG];omega
 have G:∀J,(Builtin.copy_ #[194,194] J #[.slice (some ⟨g,(i+1)*3,none⟩) (n-i) (c-(i+1)),.slice (some ⟨g,i*3,none⟩) (n+1-i) (c-i)]).run prog w.drew=.ok (goInt ((n-i:Nat):Int)) (w.drew.setRow g (cur.toList.take ((i+1)*3)++vs.drop (i*3)++cur.toList.drop ((i+1)*3+(vs.drop (i*3)).length)).toArray):=λJ=>by
  have:=fG (P:=prog) (w:=w.drew) (E:=311) (k:=3) (g:=g) (o:=(i+1)*3) (cs:=vs.drop (i*3)) (cur:=cur) 194 194 J (n-i) (c-(i+1)) ⟨g,i*3,none⟩ (n+1-i) (c-i) b z hg ay (λj v T=>by
   rw[iF]at T;have⟨g2,C,kC⟩:=h.cell T;injection C with C;cases C
   rw[cf];exact kC) ay ay
  grind
 obtain⟨X,V⟩:=lg ((cur.toList.take ((i+1)*3)++vs.drop (i*3)++cur.toList.drop ((i+1)*3+(vs.drop (i*3)).length)).toArray);rw[<-V]at G;have l:cur.toList.length=c*3:=by rw[jj];exact hc
 have K:X.size=c*3:=by rw[V,i9,bh,bh,cr,D,e2,l];omega
 have L:X.toList.take ((n+1)*3)=cur.toList.take ((i+1)*3)++vs.drop (i*3):=zBl;have VN:=bT (w:=w.drew) hg X;obtain⟨aa,hY⟩:=lg ((X.toList.take (i*3)++us++X.toList.drop (i*3+us.length)).toArray);have O:aa.size=c*3:=by rw[hY,i9,bh,bh,cr,e2,jj,K,S];omega
 have Q:aa.toList.take ((n+1)*3)=vs.take (i*3)++us++vs.drop (i*3):=by (have I:X.toList.take (i*3)=vs.take (i*3):=by have:=di (List.take (i*3)) L;exact zBh);(have C:(X.toList.take ((n+1)*3)).drop (i*3+us.length)=vs.drop (i*3):=by rw[L,S,sF zBI]);(have e3:(X.toList.take (i*3)++us).length=i*3+us.length:=by rw[bh,cr,jj,K];omega);rw[hY];rw[sH,e3,bV ay,<-C,I,uQ]
 have R:∀(W:ab),W.heap=(w.drew.setRow g X).heap->∀J,(Builtin.copy_ #[194,194] J #[.slice (some ⟨g,i*3,none⟩) (n+1-i) (c-i),(m,1,1)]).run prog W=.ok (goInt 1) (W.setRow g aa):=λW hW J=>by
  have:=fG (P:=prog) (w:=W) (E:=311) (k:=3) (g:=g) (o:=i*3) (cs:=us) (cur:=X) 194 194 J (n+1-i) (c-i) ⟨m,0,none⟩ 1 1 b z ay zBD (λj v T=>by
   rw[cf,cQ];have I:W.heap[m]?=some (.cells us.toArray 311 (0,0)):=by rw[hW,bl hv];exact hb
   simp[World.cell?,I];simpa using T) ay h1u
  exact zBq
 change Z _ at O Q;have mixed:prog.follows .mixedOrders=true:=ap;clear hY V K L l D r y b F z hc ht h1 h;have jR:((i:Int)==(n:Int))=false:=by simp;omega
 have MP:decide ((c:Int)<(n:Int)+1)=false:=by simp;omega
 have MQ:IntKind.i64.wrap ((i:Int)+1)=(i:Int)+1:=by rw[a7];omega
 go_in;go_wp2_with (simp only[hov]);go_region_law_o (refine dZ rfl _ _ 194 194 rfl _ _ zBu zBu (G _) ?_);go_wp2_with (at_builtin;refine hz _ rfl _ _ 194 194 rfl _ _ rfl rfl (R _ rfl _) ?_);exact zB4
theorem Jr(h:aT w B 311 3 (some ⟨g,0,none⟩) n n vs)(h1:∀v∈vs,v.oneCell'=true)(hb:aA w m 311 us.toArray)(hl:us.length=3)(h1u:∀u∈us,u.oneCell'=true)(hi:i<n)(hn:n<=16777216)(hB:B<=w.1.size):
  () 247 #[(g,n,n),.int .i64 (i:Int),(m,1,1)] w (lr w B 311 3 (some ⟨g,0,none⟩) (n+1) (vs.take (i*3)++us++vs.drop (i*3))):=by
 obtain⟨cur,hg,-,-,hm,hc,ht,oH⟩:=h.whole;have N:vs.length=n*3:=h.1;have y:prog.underlying 194=some (.slice (prog.elem 194)):=ap;have r:prog.underlying 194=some (.slice 311):=ap;have K:(prog.info? 311).map (λi=>(i.zero,i.size,i.bytes))=some (some (.agg #[an,an,an]),3,24):=ap;have O:(prog.info? 311).map (·.size)=some 3:=ap;have⟨ii,Hd,e6⟩:=bJ.1 K;simp only[dS]at e6;have⟨fN,vq,MR⟩:=e6;have z:∀W,(sizeOf (prog.elem 194)).run prog W=.ok 3 W:=λW=>by have⟨ii,e1,I⟩:=bJ.1 (show(prog.info? (prog.elem 194)).map (·.size)=some 3 from by kernel_rfl);simp[sizeOf,typeInfo,e1,I]
 have qQ:∀W,(Instr.slice 194 (g,n,n) (some (.int .i64 (i:Int))) none none).run prog W=.ok (.slice (some ⟨g,i*3,none⟩) (n-i) (n-i)) W:=λW=>by rw[dB W 194 (some ⟨g,0,none⟩) n n y .i64 i Y Y,z];have S:¬n=i:=Y;exact zBg
 have vp:∀W,(Instr.slice 194 (g,n,n) none (some (.int .i64 (i:Int))) none).run prog W=.ok (.slice g i n) W:=λW=>by rw[kV W 194 (some ⟨g,0,none⟩) n n y .i64 i Y Y,z];exact zBb
 have tR:(n:Int)+1-(i:Int)=((n+1-i:Nat):Int):=by omega
 have T:i+(n+1-i)=n+1:=Y;have L:(Builtin.firstCells ii.size i (.slice g i n)).run prog w.drew=.ok (vs.take (i*3)).toArray w.drew:=by
  rw[vq];exact GJ w.drew 3 i ⟨g,0,none⟩ i n (vs.take (i*3)) ay (λj v J=>by
   rw[cf,cQ];rw[ji]at J
   split at J
   .have⟨g2,I,kC⟩:=h.cell J;injection I with I;cases I
    exact kC
   .cases J)
 obtain⟨G,hG⟩:=lg (grownCap w (n+1) n 311);obtain⟨l,C⟩:∃l:Array Value,l=(vs.take (i*3)).toArray++Builtin.zeroCells (Value.cells (.agg #[an,an,an])) (n+1-i)++Builtin.zeroCells (Value.cells (.agg #[an,an,an])) (G-(n+1)):=⟨_,rfl⟩
 have V:∀D,(Builtin.append_ #[194,3] D #[.slice g i n,.int .i64 ((n:Int)+1-(i:Int))]).run prog w=
   .ok (.slice w.1.size (n+1) G) (w.drew.alloc (.cells l 311)):=λD=>by
  have h:=Lib.run_append_grow_zeros (P:=prog) w 194 3 D 311 ii _ .i64 .i64 r ap Hd fN g i n (vs.take (i*3)) L (n+1-i) Y ay Y Y (by rw[MR];omega) zBK
  grind
 have hGn:n+1<=G:=by rw[hG];exact pL w _ _ _
 have agK:G<=maxLen:=by rw[hG];exact sD w (n+1) n 311 zBx
 have hRs:l.size=G*3:=zBo;have hRt:l.toList.take (i*3)=vs.take (i*3):=by rw[C];simp only[GI];rw[hM,hk ay]
 have hn2:∀W,(Instr.slice 194 (.slice w.1.size (n+1) G) (some (.int .i64 (i:Int))) none none).run prog W=.ok (.slice (some ⟨w.1.size,i*3,none⟩) (n+1-i) (G-i)) W:=λW=>by rw[dB W 194 (some ⟨w.1.size,0,none⟩) (n+1) G y .i64 i Y Y,z];have S:¬G=i:=Y;exact zBg
 have VO:∀W,(Instr.slice 194 (.slice w.1.size (n+1) G) (some (.int .i64 ((i:Int)+1))) none none).run prog W=.ok (.slice (some ⟨w.1.size,(i+1)*3,none⟩) (n-i) (G-(i+1))) W:=λW=>by rw[dB W 194 (some ⟨w.1.size,0,none⟩) (n+1) G y .i64 ((i:Int)+1) Y Y,z];exact zBa
 obtain⟨W1,F⟩:=lg (w.drew.alloc (.cells l 311));rw[<-F]at V;have p1:aj W1 w:=F▸⟨((aY _ w).drew).alloc (al _) _⟩;have k1:W1.heap[w.1.size]?=some (.cells l 311 (0,0)):=by rw[F];exact jP w.drew _
 have k2:aA W1 m 311 us.toArray:=hb.keep p1.st;have k3:aT W1 B 311 3 (some ⟨g,0,none⟩) n n vs:=h.keep p1.st;have s1:W1.1.size=w.1.size+1:=by rw[F];simp
 have M:∀(W:ab),W.heap=W1.heap->∀D,(Builtin.copy_ #[194,194] D #[.slice (some ⟨w.1.size,i*3,none⟩) (n+1-i) (G-i),(m,1,1)]).run prog W=.ok (goInt 1) (W.setRow w.1.size (l.toList.take (i*3)++us++l.toList.drop (i*3+us.length)).toArray):=λW hW D=>by
  have:=fG (P:=prog) (w:=W) (E:=311) (k:=3) (g:=w.1.size) (o:=i*3) (cs:=us) (cur:=l) 194 194 D (n+1-i) (G-i) ⟨m,0,none⟩ 1 1 r O ay zBB (λj v J=>by
   rw[cf,cQ];have e1:W.heap[m]?=some (.cells us.toArray 311 (0,0)):=by rw[hW];exact k2
   simp[World.cell?,e1];simpa using J) ay h1u
  exact zBp
 obtain⟨X,hX⟩:=lg ((l.toList.take (i*3)++us++l.toList.drop (i*3+us.length)).toArray);rw[<-hX]at M;have Q:X.size=G*3:=by rw[hX,i9,bh,bh,cr,e2,jj,hl,hRs];omega
 have hXt:X.toList.take ((i+1)*3)=vs.take (i*3)++us:=zBr;have R:(vs.drop (i*3)).length=(n-i)*3:=by rw[e2,N];omega
 have k4:(W1.setRow w.1.size X).heap[w.1.size]?=some (.cells X 311 (0,0)):=bT k1 X;have hgN:g≠w.1.size:=Y;obtain⟨aa,hY⟩:=lg ((X.toList.take ((i+1)*3)++vs.drop (i*3)++X.toList.drop ((i+1)*3+(vs.drop (i*3)).length)).toArray);have VP:aa.size=G*3:=by rw[hY,i9,bh,bh,cr,R,e2,jj,Q];omega
 have VQ:aa.toList.take ((n+1)*3)=vs.take (i*3)++us++vs.drop (i*3):=by rw[hY];show List.take ((n+1)*3) (X.toList.take ((i+1)*3)++vs.drop (i*3)++X.toList.drop ((i+1)*3+(vs.drop (i*3)).length))=_;rw[hk zBL,hXt]
 have VR:∀(W:ab),W.heap=(W1.setRow w.1.size X).heap->∀D,(Builtin.copy_ #[194,194] D #[.slice (some ⟨w.1.size,(i+1)*3,none⟩) (n-i) (G-(i+1)),.slice (some ⟨g,i*3,none⟩) (n-i) (n-i)]).run prog W=.ok (goInt ((n-i:Nat):Int)) (W.setRow w.1.size aa):=λW hW D=>by
  have k5:aT W B 311 3 (some ⟨g,0,none⟩) n n vs:=k3.same λad e=>by cases e;rw[hW,bl hgN]
  have:=fG (P:=prog) (w:=W) (E:=311) (k:=3) (g:=w.1.size) (o:=(i+1)*3) (cs:=vs.drop (i*3)) (cur:=X) 194 194 D (n-i) (G-(i+1)) ⟨g,i*3,none⟩ (n-i) (n-i) r O ay ay (λj v J=>by
   rw[iF]at J;have⟨g2,I,kC⟩:=k5.cell J;injection I with I;cases I
   rw[cf];exact kC) ay (λv hv=>h1 v (hJ hv))
  grind
 change Z _ at VP VQ;clear hY tR T L C hG hX Q hXt R hRs hRt s1 F y z r O K Hd fN vq MR hc ht h1 h;have mixed:prog.follows .mixedOrders=true:=ap;have jR:((i:Int)==(n:Int))=false:=by simp;omega
 have MP:decide ((n:Int)<(n:Int)+1)=true:=by simp;omega
 have MQ:IntKind.i64.wrap ((i:Int)+1)=(i:Int)+1:=by rw[a7];omega
 go_in
 go_wp2_with (first
  |(at_builtin;refine Lib.wpList_append_run _ rfl _ _ 194 3 rfl _ _ rfl rfl _ _ (V _) ?_)
  |(at_builtin;refine hz _ rfl _ _ 194 194 rfl _ _ rfl rfl (M _ rfl _) ?_))
 go_region_law_o (refine dZ rfl _ _ 194 194 rfl _ _ zBu zBu (VR (W1.setRow w.1.size X).drew rfl _) ?_);go_wp2;go_ret;have p2:aj (W1.setRow w.1.size X) w:=⟨⟨p1.st.os,p1.st.tape,p1.st.output,by rw[size_setRow];exact p1.st.size,λb hb=>by rw[bl Y];exact p1.st.block b hb⟩⟩;have hh:(W1.setRow w.1.size X).drew.heap[w.1.size]?=some (.cells X 311 (0,0)):=k4;exact zB3
theorem acY(h:aT w B 311 3 A c n vs)(r:∀v∈vs,v.oneCell'=true)(hb:aA w m 311 us.toArray)(e:us.length=3)(b:∀u∈us,u.oneCell'=true)(hv:∀z,A=some z->z.block≠m)(D:y=(i:Int))(hi:i<=n)(j:n<=16777216)(C:B<=w.1.size):
  () 247 #[(A,n,c),y,(m,1,1)] w (lr w B 311 3 A (n+1) (vs.take (i*3)++us++vs.drop (i*3))):=by
 subst D;have l:vs.length=n*3:=h.1;have E:=h.le;by_cases F:i=n;subst F;have:=MT h hb e b j C;rwa[show vs.take (i*3)++us++vs.drop (i*3)=vs++us from by rw[<-l,ek,uO,ev]];rcases h.form with⟨_,rfl,_⟩|⟨g,G,rfl,_⟩;omega;by_cases I:n+1<=c;exact He h r hb e b ay Y I j;obtain rfl:c=n:=Y;exact Jr h r hb e b Y j C
end
variable{X:World}{T':TypeId}{kx:Array Value}
def qR(w:ab)(B:Nat)(A:bz)(n c:Nat)(F:Nat->Prop)(t:Tb):Prop:=
 (n=0/\t=[]/\∀b,¬F b)\/(n=1/\∃q r e,A=some ⟨q,0,none⟩/\aT w B 309 1 (some ⟨q,0,none⟩) c 1 [.slice (some ⟨r,0,none⟩) t e]/\aT w B 308 2 (some ⟨r,0,none⟩) e t.length (ic t)/\0<t.length/\∀b,F b↔b=q\/b=r)
section
variable{w:World}{o n B k:Nat}{t:Tb}{F:Nat->Prop}{b:Bool}
theorem aT.is_(h:aT w B 308 2 A c k (ic t)):Is w A t.length t:=by
 refine⟨λj x C=>?_,rfl⟩;obtain⟨a0,D⟩:=Ha C;obtain⟨g,e,G⟩:=h.cell a0;obtain⟨m,l,I⟩:=h.cell D;have E:m=g:=by rw[e]at l;injection l with l;injection l with l;exact l.symm
 subst E;exact⟨m,0,e,h.lt _ e,ay,ay⟩
def Qn(t:Tb):∀v∈ic t,v.oneCell'=true:=λv hv=>by
 obtain⟨x,_,e⟩:=pD.1 hv;simp at e;rcases e with rfl|rfl<;>rfl
theorem qR.keep(h:qR w B A n c F t)(E:∀b,F b->w'.heap[b]?=w.heap[b]?):qR w' B A n c F t:=by
 rcases h with⟨e,j,l⟩|⟨e,q,r,R,j,l,m,C,D⟩;exact .inl ⟨e,j,l⟩;exact .inr ⟨e,q,r,R,j,l.same ay,m.same ay,C,D⟩
def qR.at(h:qR w B A n c F t)[l:aM w w']:qR w' B A n c F t:=by
 rcases h with⟨e,j,m⟩|⟨e,q,r,R,j,m,C,D,E⟩;exact .inl ⟨e,j,m⟩;exact .inr ⟨e,q,r,R,j,m.at,C.at,D,E⟩
def A8{Q:World->Prop}{cs:dw}(h:∀u,aj u X->Bx u X.1.size T cs->Bx u (X.1.size+1) T' kx->Q u):Q ((X.alloc (.cells cs T)).alloc (.cells kx T')):=
 h _ (aC) am am
def zBH(h:Γ:=by simp[results,results205,go_sem]):=h
def zBc(h:Γ:=by refine aZ (v:=.tuple #[an,an,.bool false]) zBH rfl ⟨by rw[O.o,P.o];rfl,aC⟩):=h
theorem vt[k0:Cl w g o (A,n,c)](I:Z (qR w B A n c F t))(hr:Z (h4 t))(hn:Z (t.length<=1000))(J:Z (ip t y=j))(hb:Z (iL t y=b)):
  () 205 #[.pointer (some ⟨g,o,none⟩),y] w (aL w (.tuple #[an,j,.bool b])):=by
 obtain⟨CB,CP⟩:=hY;have CC:=@cJ;have o1:Old g w:=⟨cY k0.eq⟩;rcases I.o with⟨L,G,-⟩|⟨L,q,r,R,G,h3,M,N,-⟩
 .subst L;have O:Z (j=0):=U (by rw[<-J.o,G];rfl);have P:Z (b=false):=U (by rw[<-hb.o,G];rfl);clear I G;go_in;go_upto_region 1 with fail;refine A8 (λQ _ kp S=>?_);go_wp2_with (go_at_call 252;refine mv VM λu1 _=>?_);exact zBc
 subst L G;obtain⟨⟨x,hx⟩,T,ht⟩:∃e T,t=e::T:=by
  cases t with
  |nil=>simp at N
  |cons e T=>grind
 have c1:Cl w q 0 (.slice r t R):=⟨by obtain⟨g,e,V⟩:=h3.cell (j:=0) rfl;injection e with e;injection e with e;subst e;exact V⟩;have c2:Cl w r 0 x:=⟨by obtain⟨g,e,V⟩:=M.cell (j:=0) (v:=.int .i64 x) (by rw[ht];rfl);injection e with e;injection e with e;subst e;exact V⟩;have i1:Is w r t.length t:=M.is_;have o2:Old q w:=⟨cY c1.eq⟩;obtain⟨m,hm⟩:=lh t.length;have HM:Z (m<=100000):=U (by rw[<-hm];have:=hn.o;omega);rw[hm]at c1 i1 N;obtain⟨p,hp⟩:=lh (decide (0<pa x y));have D:Z (∀(u:ab) (X b2:Nat) (T1 T2:TypeId),Bx u X T1 #[.pointer (some ⟨g,o,none⟩)]->Bx u b2 T2 #[y]->aM w u->∀(v:ab) (i:Nat),Z (i=0)->aj v u->() 253 #[.int .i64 (i:Int),.pointer (some ⟨X,0,none⟩),.pointer (some ⟨b2,0,none⟩)] v (aL v (.bool p))):=U λu X b2 T1 T2 k1 k2 l v i hi pv=>by have Hd:i=0:=hi.o;subst Hd;rw[<-hp];have pw:aj v w:=⟨dm l.st pv.st⟩;exact acU (g:=g) (o:=o) (q:=q) (r:=r) N
 have HP:=U hp;have HT:=U ht;clear hp ht hm h3 M I;go_in;go_upto_region 1 with fail;refine A8 (λQ _ kp S=>?_);rcases p with _|_
 .have HS:Z ((1:Nat)=if false=true then 0 else 1):=U rfl;have E:=U (D.o Q _ _ _ _ kp S am);have w0:IntKind.i64.wrap 0=0:=ao;clear D;go_upto_region 4 with(go_at_call 252;refine mv (Ql HS E) λu1 _=>?_);refine aq ap (λux _=>?_);refine qL [0,1,2,3,4,5,6,7,8] ?_;refine aJ 9 λK hK=>?_;go_simp;refine(ad7 hr HM.o J hb).mono ?_;rintro e ux ⟨rfl,_⟩;dsimp only;refine aE hK ?_;refine qL [10,11,12,13,14] ?_;refine a8 ?_;go_wp2_with fail;refine aZ (v:=.tuple #[an,j,.bool b]) zBH rfl ⟨rfl,aC⟩
 have HS:Z ((0:Nat)=if true=true then 0 else 1):=U rfl;have E:=U (D.o Q _ _ _ _ kp S am);have bD:y<x:=by have:=HP.o;simp at this;unfold pa at this;split at this;omega;split at this;assumption;omega
 have C:∀e∈t,¬e.1<=y:=λe he=>by rw[HT.o]at he;rcases dE.1 he with rfl|he;dsimp only;omega;have h9:=hr.o;rw[HT.o]at h9;have:=(iJ.1 h9).1 e he;dsimp only at this;omega
 have O:Z (j=0):=U (by rw[<-J.o];exact E2 λe he=>by have:=C e he;omega);have P:Z (b=false):=U (by rw[<-hb.o];exact wY.2 λz hz=>C _ hz (eb _));clear D bD C;go_wp2_with (go_at_call 252;refine mv (Ql HS E) λu1 _=>?_);exact zBc
end
variable{e l:Nat}{sz:Int}
structure kF(w:World)(B g o:Nat)(cs:Array Value)(F:Nat->Prop)(t:Tb):Prop where
 ak:aA w g 141 cs
 tb:∃A n c sz,cs[o]?=some (.slice A n c)/\cs[o+1]?=some (.int .i64 sz)/\qR w B A n c F t
 qK:h4 t
 len:t.length<=1000
def bP(cs:dw)(o:Nat)(v u:Value):Array Value:=(cs.setIfInBounds o v).setIfInBounds (o+1) u
def Hf(w:ab)(B g o:Nat)(cs:dw)(F:Nat->Prop)(t:Tb)(v:Value)(e:Ending)(w':ab):Prop:=
 e=.returned v/\∃x y j,kF w' B g o (bP cs o x y) j t/\Kf (λb=>F b\/b=g) (λb=>j b\/b=g) w w'
section
variable{w:World}{o n B k:Nat}{t:Tb}{F:Nat->Prop}{b:Bool}{cs:Array Value}{E:TypeId}{x:Value}
def aT.A9(h:aT w B E k g c n vs)(v):aT (w.setCell (g,i) v) B E k g c n (vs.set i v):=by
 have⟨cur,hg,hB,hl,hm,hc,ht,oH⟩:=h.whole;refine .mk' (cur:=cur.setIfInBounds i v) hB (by simp[World.setCell,pC,hg]) hl hm (by simpa using hc) ?_;rw[zJ,List.take_set,ht]
def Js(t)(j):ic (t.take j)=(ic t).take (j*2):=by
 by_cases h:j<=t.length;conv=>rhs;rw[<-d3 j t,kB]
 rw[hk (by rw[pX,cr,d5 h])];rw[bV Y,bV (by rw[pX];omega)]
def Jt(t)(j):ic (t.drop j)=(ic t).drop (j*2):=by
 by_cases h:j<=t.length;conv=>rhs;rw[<-d3 j t,kB]
 rw[sF (by rw[pX,cr,d5 h])];rw[eU Y,eU (by rw[pX];omega)];rfl
def aaU(t)(j):ic (t.take j++t.drop (j+1))=(ic t).take (j*2)++(ic t).drop ((j+1)*2):=by rw[kB,Js,Jt]
def aaV(t)(j)(y h):ic (t.take j++(y,h)::t.drop j)=(ic t).take (j*2)++[.int .i64 y,.int .i64 h]++(ic t).drop (j*2):=by
 rw[kB,Js,show(y,h)::t.drop j=[(y,h)]++t.drop j from rfl,kB,Jt,<-hM];rfl
theorem aT.RT(h:aT w B E k q c n vs)(l:aA w g T cs)(m:T≠E):g≠q:=λe=>by
 subst e;have⟨cur,hg,_⟩:=h.whole;unfold aA at l;grind
theorem aT.neR{k':Nat}{C:ki}(h:aT w B E k q c n vs)(D:aT w e T k' r m l C)(G:E≠T):q≠r:=λI=>by
 subst I;have⟨cur,hg,_⟩:=h.whole;have⟨af9,y7,_⟩:=D.whole;grind
def qR.ne(h:qR w B A n c F t)(l:aA w g 141 cs):¬F g:=λm=>by
 rcases h with⟨C,D,e⟩|⟨C,q,r,R,D,e,G,J,I⟩;exact e g m;rcases(I g).1 m with rfl|rfl;exact e.RT l ao rfl;exact G.RT l ao rfl
def kF.cl(h:kF w B g o cs F t):∃A n c sz,Cl w g o (.slice A n c)/\Cl w g (o+1) (.int .i64 sz)/\qR w B A n c F t/\cs[o]?=some (.slice A n c)/\cs[o+1]?=some (.int .i64 sz):=by
 have⟨A,n,c,sz,h1,h2,h3⟩:=h.tb;exact⟨A,n,c,sz,⟨(h.ak.cell o).trans h1⟩,⟨(h.ak.cell (o+1)).trans h2⟩,h3,h1,h2⟩
def kF.at(h:kF w B g o cs F t)[l:aM w w']:kF w' B g o cs F t:=by
 have⟨A,n,c,sz,h1,h2,h3⟩:=h.tb;exact⟨h.ak.at,⟨A,n,c,sz,h1,h2,h3.at⟩,h.qK,h.len⟩
def Qo(h:kF w B g o cs F t)(hb:Z (iL t y=b)):() 155 #[.pointer (some ⟨g,o,none⟩),y] w (aL w (.bool b)):=by
 have⟨A,n,c,sz,c1,c2,hM,_⟩:=h.cl;have e:=U hM;have l:=U h.qK;have m:=U h.len;obtain⟨j,C⟩:=l8 (ip t y);go_in;go_wp2_with (go_at_call 205;refine mv (vt e l m C hb) λD _=>?_);go_ret;exact bF
theorem qR.entry(h:qR w B A n c F t)(hr:h4 t)(hm:(y,z)∈t):n=1/\∃q r R,A=some ⟨q,0,none⟩/\aT w B 309 1 (some ⟨q,0,none⟩) c 1 [.slice (some ⟨r,0,none⟩) t R]/\aT w B 308 2 (some ⟨r,0,none⟩) R t.length (ic t)/\(∀b,F b↔b=q\/b=r)/\ip t y<t.length/\
  Cl w q 0 (.slice (some ⟨r,0,none⟩) t R)/\Cl w r (ip t y*2+1) z:=by
 rcases h with⟨C,D,l⟩|⟨C,q,r,R,D,l,G,J,I⟩;grind;have m:=o9 hr hm;refine⟨C,q,r,R,D,l,G,I,ay,⟨?_⟩,⟨?_⟩⟩;have⟨g,e,hc⟩:=l.cell (j:=0) rfl;grind;have⟨g,e,hc⟩:=G.cell (Ha m).2;grind
def Qp(h:kF w B g o cs F t)(hm:(y,z)∈t):() 203 #[.pointer (some ⟨g,o,none⟩),y] w (aL w (.tuple #[z,.bool true])):=by
 have J:=@bX;have K:=@cJ;have⟨A,n,c,sz,c1,c2,hM,_⟩:=h.cl;have l:=U hM;have C:=U h.qK;have D:=U h.len;have⟨h1,q,r,R,h2,h3,h4,h6,bD,c3,c4⟩:=hM.entry h.qK hm;have G:Z (iL t y=true):=mI.2 ⟨z,hm⟩;subst h1 h2;obtain⟨j,e⟩:=lh (ip t y);obtain⟨m,hm⟩:=lh t.length;rw[e]at bD c4;rw[hm]at bD c3;have I:=U e;have o1:Old g w:=⟨cY c1.eq⟩;have L:Old q w:=⟨cY c3.eq⟩;have M:Old r w:=⟨cY c4.eq⟩;have i1:(j:Int)<(m:Int):=by omega
 go_in;go_wp2_with (go_at_call 205;refine mv (vt l C D I G) λN _=>?_);go_ret2;exact bF
theorem Ba(e:cs[o]?=some v):cs.setIfInBounds o v=cs:=by
 grind
theorem Hg(e:cs[o]?=some x)(v u):(bP cs o v u)[o]?=some v:=by
 have l:=(fY.1 e).1;unfold bP;grind
theorem Bb(e:cs[o+1]?=some x)(v u):(bP cs o v u)[o+1]?=some u:=by
 have l:=(fY.1 e).1;unfold bP;grind
theorem pb{i:Nat}(e:i≠o)(l:i≠o+1)(v u):(bP cs o v u)[i]?=cs[i]?:=by
 unfold bP;grind
def zBE(h:Γ:=by injection e with e;subst e;exact X.symm):=h
theorem VS(h:kF w B g o cs F t)(hj:j<t.length):() 206 #[.pointer (some ⟨g,o,none⟩),an,j] w (Hf w B g o cs F (t.take j++t.drop (j+1)) (.tuple #[])):=by
 have CC:=@cJ;have FB:=@aP;obtain⟨A,n,c,sz,c1,c2,hM,e1,e2⟩:=h.cl;have N:Bx w g 141 cs:=⟨h.ak⟩;rcases hM with⟨h1,h2,J⟩|⟨h1,q,r,R,h2,J,O,h5,h6⟩;subst h2;simp at hj
 subst h1 h2;have gq:g≠q:=J.RT h.ak ao;have gr:g≠r:=O.RT h.ak ao;have qr:q≠r:=J.neR O ao;have c3:Cl w q 0 (.slice r t R):=⟨by
  have⟨g,e,hc⟩:=J.cell (j:=0) rfl
  grind⟩
 obtain⟨m,hm⟩:=lh t.length;obtain⟨K,l⟩:∃K,t.take j++t.drop (j+1)=K:=⟨_,rfl⟩;have P:K.length=m-1:=by rw[<-l,<-hm];simp;omega
 have Q:h4 K:=by rw[<-l];(have hs:(t.take j++t.drop (j+1)).Sublist t:=by (conv=>rhs;rw[<-d3 j t]);exact ay);exact List.Pairwise.sublist hs h.qK
 rw[hm]at hj J O c3;have hlen:m<=1000:=by rw[<-hm];exact h.len
 have o1:Old g w:=⟨cY c1.eq⟩;have o2:Old q w:=⟨cY c3.eq⟩;have H3:=U J;have H4:=U O;have H6:=U h6;have HD:Z (aT w B 308 2 (some ⟨r,0,none⟩) R m (ic t)):=H4;have HI:Z ((ic t).take (j*2)++(ic t).drop ((j+1)*2)=ic K):=U (by rw[<-l,aaU]);have C:=U P;have S:=U Q;have M:=U e1;have T:=U e2;have wj:IntKind.i64.wrap ((j:Int)+1)=(j:Int)+1:=by rw[a7];omega
 rw[l];clear h J O h6 hm l P Q h5 e1 e2;go_in;go_upto_region 2 with(go_at_call 257;refine(acV HD.o (Qn _) rfl rfl hj Y).mono ?_;rintro e I ⟨rfl,r1,D⟩;rw[HI.o]at r1;obtain⟨V,c11,c21⟩:Bx I g 141 cs/\Cl I g o (q,1,c)/\Cl I g (o+1) sz:=(by have k:=D.ak N.ak (λad e X=>gr zBE);exact⟨⟨k⟩,⟨(k.cell o).trans M.o⟩,⟨(k.cell (o+1)).trans T.o⟩⟩);obtain⟨r3,-⟩:aT I B 309 1 (some ⟨q,0,none⟩) c 1 [.slice r m R]/\True:=⟨H3.o.jE D (λa a' e e' X=>by injection e with e;injection e' with e';subst e e';exact qr X.symm),bq⟩;obtain⟨cq,fq⟩:Cl I q 0 (.slice r m R)/\I.frozen? ⟨q,0,none⟩=false:=(by obtain⟨cur,hg,_⟩:=r3.whole;obtain⟨g5,e5,hc⟩:=r3.cell (j:=0) rfl;injection e5 with e5;injection e5 with e5;subst e5;exact⟨⟨hc⟩,by simp[World.frozen?,hg]⟩));obtain⟨v,hv⟩:=lg (I.setCell (q,0) (.slice r (m-1) R));have r3v:aT v B 309 1 (some ⟨q,0,none⟩) c 1 [.slice r (m-1) R]:=by rw[hv];exact r3.A9 (i:=0) (.slice r (m-1) R)
 have r1v:aT v B 308 2 (some ⟨r,0,none⟩) R (m-1) (ic K):=by rw[hv];exact r1.same λad e=>by injection e with e;subst e;exact bb I ⟨q,0,none⟩ _ r (dp qr)
 have L:Bx v g 141 cs:=⟨by rw[hv];exact V.ak.aV gq _⟩;have kf:Kf (λb=>F b\/b=g) (λb=>F b\/b=g) w v:=by rw[hv];refine((Kf.jE D).more (G:=λb=>F b\/b=g) (G':=λb=>F b\/b=g) (λb hb=>.inl ((H6.o b).2 (.inr (du.1 hb).symm))) (λb hb=>.inr (.inl hb))).av (.inl ((H6.o q).2 (.inl rfl))) _
 have KF:=U kf;have R3:=U r3v;have R1:=U r1v;rw[<-hv];have cgv:Cl v g o (q,1,c):=⟨(L.ak.cell o).trans M.o⟩;have cgs:Cl v g (o+1) sz:=⟨(L.ak.cell (o+1)).trans T.o⟩;clear hv kf r3v r1v r1 r3 D cq fq V c11 c21 c1 c2 c3 N o1 o2;have N:=L;by_cases h0:m-1=0
 .have d1:(((m-1:Nat):Int)==0)=true:=by rw[h0];rfl
  have HT0:Z (K=[]):=U (pB (by rw[C.o,h0]));rw[h0];clear h0;go_upto_region 4 with(go_at_call 258;refine(aaT R3.o (i:=0) zBw rfl rfl ao ao).mono ?_;rintro e u2 ⟨rfl,r4,ch2⟩;obtain⟨w6,c12,c22⟩:Bx u2 g 141 cs/\Cl u2 g o (q,1,c)/\Cl u2 g (o+1) sz:=(by have k:=ch2.ak N.ak (λad e X=>gq zBE);exact⟨⟨k⟩,⟨(k.cell o).trans M.o⟩,⟨(k.cell (o+1)).trans T.o⟩⟩));go_wp2_with fail;refine⟨rfl,.tuple #[],by simp[results,results206,go_sem],rfl,_,_,λ_=>False,⟨(w6.ak.av o _).av (o+1) _,⟨_,_,_,_,Hg M.o _ _,Bb T.o _ _,.inl ⟨rfl,HT0.o,λ_ h=>h⟩⟩,S.o,by rw[HT0.o];exact aR _⟩,?_⟩;have k2:Kf (λb=>F b\/b=g) (λb=>False\/b=g) w u2:=KF.o.trans ((Kf.jE ch2).more (λb hb=>.inl ((H6.o b).2 (.inl (du.1 hb).symm))) ay);exact(k2.av (.inr rfl) _).av (.inr rfl) _
 have d1:(((m-1:Nat):Int)==0)=false:=by simp;omega
 have HP:Z (0<m-1):=U Y;clear h0;go_wp2_with fail;have es:bP cs o (q,1,c) (wrap64 (sz-1):Int)=cs.setIfInBounds (o+1) (wrap64 (sz-1):Int):=by rw[bP,Ba M.o]
 refine⟨rfl,.tuple #[],by simp[results,results206,go_sem],rfl,.slice q 1 c,.int .i64 (wrap64 (sz-1)),F,⟨by rw[es];exact N.ak.av (o+1) _,⟨_,_,_,_,Hg M.o _ _,Bb T.o _ _,.inr ⟨rfl,q,r,R,rfl,?_,?_,by rw[C.o];exact HP.o,H6.o⟩⟩,S.o,by rw[C.o];omega⟩,KF.o.av (.inr rfl) _⟩;rw[C.o];exact R3.o.same λad e=>by injection e with e;subst e;exact bb v ⟨g,o+1,none⟩ _ q (dp gq)
 rw[C.o];exact R1.o.same λad e=>by injection e with e;subst e;exact bb v ⟨g,o+1,none⟩ _ r (dp gr)
end
