/- Lemmas. No condition. -/
import Derived.Test.YtmkjnlifimffkaaGreatS03
import Derived.Laws.IdiomCopy
namespace Go.Proofs.YtmkjnlifimffkaaGreat
open Go.RowKit
set_option maxRecDepth 100000
set_option maxHeartbeats 16000000
def aP(w:World)(B:Nat)(E:TypeId)(k:Nat)(A:Option Addr)(c n:Nat)(vs:List Value):Prop:=w.ownsRow B E k (.slice A n c) n vs
structure bS(A A':Option Addr)(w w':World):Prop where
 base:Below 0 w w'
 size:w.heap.size<=w'.heap.size
 off:∀b,b<w.heap.size->(∀ad,A=some ad->ad.block≠b)->w'.heap[b]?=w.heap[b]?
 new:∀tC,A'=some tC->(∃ad,A=some ad/\tC.block=ad.block)\/w.heap.size<=tC.block
section
variable{w w' u:World}{B B':Nat}{E T:TypeId}{A A' A2:Option Addr}{c c' n k g:Nat}{vs xs:List Value}{zs:List Int}{cur:Array Value}
theorem bS.below(h:bS A A' w w')(j:∀ad,A=some ad->B<=ad.block)(l:B<=w.heap.size):Below B w w':=
 ⟨h.base.os,h.base.tape,h.base.output,h.size,fun b hb=>h.off b (bV hb l) fun ad e=>by have:=j ad e;omega⟩
theorem bS.trans(h:bS A A' w w')(m:bS A' A2 w' u):bS A A2 w u:=
 ⟨h.base.trans m.base,aZ h.size m.size,fun b hb j=>(m.off b (bV hb h.size) (fun ad e=>by
  rcases h.new ad e with⟨r,C,y⟩|l
  ·rw[y];exact j r C
  ·omega)).trans (h.off b hb j),fun ad e=>by
  rcases m.new ad e with⟨z,y,D⟩|l
  ·rw[D];exact h.new z y
  ·exact .inr (aZ h.size l)⟩
theorem aP.form(h:aP w B E k A c n vs):(A=none/\n=0/\c=0/\vs=[])\/∃g cur,A=some ⟨g,0,none⟩/\B<=g/\w.heap[g]?=some (.cells cur E (0,0))/\n<=c/\c<=maxLen/\cur.size=c*k/\cur.toList.take (n*k)=vs:=by
 rcases h.2 with⟨hv,j⟩|⟨g,cap,cur,hv,l,hg,m,hm,r,ht⟩
 ·injection hv with b y e
  exact .inl ⟨b,j,e,rZ (by have:=h.1;rw[j]at this;simpa using this)⟩
 ·injection hv with b y e
  subst e;exact .inr ⟨g,cur,b,l,hg,m,hm,r,ht⟩
theorem aP.mk'(j:B<=g)(hg:w.heap[g]?=some (.cells cur E (0,0)))(b:n<=c)(hm:c<=maxLen)(e:cur.size=c*k)(ht:cur.toList.take (n*k)=vs):aP w B E k (some ⟨g,0,none⟩) c n vs:=
 ⟨by rw[<-ht,dO,qx,e];exact iY (qV _ b),.inr ⟨g,c,cur,rfl,j,hg,b,hm,e,ht⟩⟩
theorem aP.le(h:aP w B E k A c n vs):n<=c:=by
 rcases h.form with⟨_,rfl,rfl,_⟩|⟨_,_,_,_,_,b,_⟩
 ·exact az _
 ·exact b
theorem aP.lt(h:aP w B E k A c n vs):∀ad,A=some ad->ad.block<w.heap.size:=by
 rcases h.form with⟨rfl,_⟩|⟨g,cur,rfl,b,hg,_⟩
 ·intro ad e;cases e
 ·intro ad e;injection e with e;subst e;exact(nz.1 hg).1
theorem aP.ge(h:aP w B E k A c n vs):∀ad,A=some ad->B<=ad.block:=by
 rcases h.form with⟨rfl,_⟩|⟨g,cur,rfl,b,hg,_⟩
 ·intro ad e;cases e
 ·intro ad e;injection e with e;subst e;exact b
theorem aP.same(h:aP w B E k A c n vs)(b:∀ad,A=some ad->w'.heap[ad.block]?=w.heap[ad.block]?):aP w' B E k A c n vs:=by
 rcases h.form with⟨rfl,rfl,rfl,rfl⟩|⟨g,cur,rfl,e,hg,j,hm,l,ht⟩
 ·exact⟨au,.inl ⟨rfl,rfl⟩⟩
 ·exact .mk' e ((b _ rfl).trans hg) j hm l ht
theorem aP.keep(h:aP w B E k A c n vs)(hb:Below w.heap.size w w'):aP w' B E k A c n vs:=h.same fun ad e=>hb.block _ (h.lt ad e)
theorem aP.at(h:aP w B E k A c n vs)[l:Later w w']:aP w' B E k A c n vs:=h.keep l.st
theorem aP.less(h:aP w B E k A c n vs)(b:B'<=B):aP w B' E k A c n vs:=by
 rcases h.form with⟨rfl,rfl,rfl,rfl⟩|⟨g,cur,rfl,hb,hg,e,hm,j,ht⟩
 ·exact⟨au,.inl ⟨rfl,rfl⟩⟩
 ·exact .mk' (aZ b hb) hg e hm j ht
theorem aP.cell(h:aP w B E k A c n vs){j:Nat}{v:Value}(b:vs[j]?=some v):∃g,A=some ⟨g,0,none⟩/\w.cell? ⟨g,j,none⟩=some v:=by
 rcases h.form with⟨rfl,rfl,rfl,rfl⟩|⟨g,cur,rfl,l,hg,m,hm,r,ht⟩
 ·simp at b
 ·refine⟨g,rfl,?_⟩;have e:cur[j]?=some v:=by
   rw[<-ht,l7]at b
   split at b
   ·simpa using b
   ·cases b
  simp[World.cell?,hg,e]
theorem aP.iq(h:aP w B E k A c n vs)(j:bS A' A2 w w')(b:∀a a',A=some a->A'=some a'->a'.block≠a.block):aP w' B E k A c n vs:=
 h.same fun ad e=>j.off _ (h.lt ad e) fun tC l=>b ad tC e l
theorem bS.own{zs:List Int}(h:bS A A' w w')(o:Own w g T zs)(b:∀ad,A=some ad->ad.block≠g):Own w' g T zs:=(h.off g o.lt b).trans o
theorem bS.blk{cs:Array Value}(h:bS A A' w w')(o:aD w g T cs)(b:∀ad,A=some ad->ad.block≠g):aD w' g T cs:=(h.off g o.lt b).trans o
def tF(cur:Array Value):Nat->List Value->Array Value
 |_,[]=>cur
 |o,v::r=>tF (cur.setIfInBounds o v) (o+1) r
theorem zY:∀(vs:List Value) (cur:Array Value) (o:Nat),(tF cur o vs).size=cur.size
 |[],_,_=>rfl
 |v::r,cur,o=>by rw[tF,zY r];simp
theorem Dr:∀(vs:List Value) (cur:Array Value) (o:Nat),o+vs.length<=cur.size->(tF cur o vs).toList=cur.toList.take o++vs++cur.toList.drop (o+vs.length)
 |[],cur,o,_=>by simp[tF]
 |v::r,cur,o,h=>by
  simp at h;rw[tF,Dr r _ _ bD];rw[Hf,PR,if_pos om,Lb bD,Lj (az o)];simp[LW];omega
theorem Dt(b:Nat):∀(vs:List Value) (o:Nat) (w:World) (cur:Array Value) (T:TypeId) (fz:Nat×Nat),w.heap[b]?=some (.cells cur T fz)->(w.setCells b o vs).heap[b]?=some (.cells (tF cur o vs) T fz)
 |[],_,_,_,_,_,h=>h
 |v::r,o,w,cur,T,fz,h=>by
  rw[World.setCells,tF];refine Dt b r (o+1) _ _ T fz ?_;simp[World.setCell,CW,h]
theorem XC(b:Nat){x:Nat}(e:x≠b):∀(vs:List Value) (o:Nat) (w:World),(w.setCells b o vs).heap[x]?=w.heap[x]?
 |[],_,_=>rfl
 |v::r,o,w=>by rw[World.setCells,XC b e r];exact dM w ⟨b,o,none⟩ v x e
theorem size_setCells(b:Nat):∀(vs:List Value) (o:Nat) (w:World),(w.setCells b o vs).heap.size=w.heap.size
 |[],_,_=>rfl
 |v::r,o,w=>by rw[World.setCells,size_setCells b r];simp
theorem bS.setCells(o:Nat)(vs:List Value)(l:A=some ⟨g,0,none⟩)(h:bS A A w w'):bS A A w (w'.setCells g o vs):=
 ⟨Fq (n:=0) (g:=g) (aS _) vs o h.base,by rw[size_setCells];exact h.size,fun b hb j=>by
  rw[XC g (fun e=>j _ l (by rw[e]))];exact h.off b hb j,h.new⟩
theorem bS.refl(A:Option Addr)(w:World):bS A A w w:=⟨bq _ _,az _,fun _ _ _=>rfl,fun ad e=>.inl ⟨ad,e,rfl⟩⟩
theorem bS.drewN(h:bS A A' w w')(q:Nat):bS A A' w (w'.drewN q):=⟨below_drewN h.base q,h.size,h.off,h.new⟩
theorem bS.drew(h:bS A A' w w'):bS A A' w w'.drew:=⟨h.base.drew,h.size,h.off,h.new⟩
theorem bS.fresh(hb:Below w.heap.size w w')(hg:w.heap.size<=g):bS A (some ⟨g,0,none⟩) w w':=
 ⟨hb.mono (aS _),hb.size,fun b j _=>hb.block b j,fun ad e=>by injection e with e;subst e;exact .inr hg⟩
theorem afF{cur:Array Value}{cs vs:List Value}{a:Nat}(e:a<=cs.length)(b:cur.toList.take cs.length=cs)(hr:cs.length+vs.length<=cur.size):
  (tF (tF cur (a+vs.length) (cs.drop a)) a vs).toList.take (cs.length+vs.length)=cs.take a++vs++cs.drop a:=by
 have hs:cur.toList.length=cur.size:=qx;rw[Dr _ _ _ (by rw[zY];omega),Dr _ _ _ (by rw[jY];omega)];have j:(cur.toList.take (a+vs.length)++cs.drop a++cur.toList.drop (a+vs.length+(cs.drop a).length)).take a=cs.take a:=by
  rw[jX,lu (by rw[dO];omega),kM,iY om]
  conv=>rhs;rw[<-b]
  rw[kM,iY e]
 have l:(cur.toList.take (a+vs.length)++cs.drop a++cur.toList.drop (a+vs.length+(cs.drop a).length)).drop (a+vs.length)=cs.drop a++cur.toList.drop (a+vs.length+(cs.drop a).length):=by
  rw[jX,Db (by rw[dO];omega)]
 rw[j,l,<-jX,lu bD,dB bD]
theorem afG{cur:Array Value}{cs vs:List Value}(b:cur.toList.take cs.length=cs)(hr:cs.length+vs.length<=cur.size):(tF cur cs.length vs).toList.take (cs.length+vs.length)=cs++vs:=by
 rw[Dr _ _ _ hr,b,lu au,dB au]
theorem afH{cs vs Z:List Value}{cur:Array Value}{a:Nat}(l:a<=cs.length)(b:cur.toList=cs.take a++Z)(m:vs.length+(cs.length-a)<=Z.length):
  (tF (tF cur a vs) (a+vs.length) (cs.drop a)).toList.take (cs.length+vs.length)=cs.take a++vs++cs.drop a:=by
 have hs:cur.toList.length=cur.size:=qx;have r:cur.toList.length=a+Z.length:=by rw[b];simp;omega
 rw[Dr _ _ _ (by rw[zY,jY];omega),Dr _ _ _ om];have e:cur.toList.take a=cs.take a:=by rw[b,qz bD]
 have j:(cur.toList.take a++vs++cur.toList.drop (a+vs.length)).take (a+vs.length)=cs.take a++vs:=by
  rw[qz bD,e]
 rw[j,lu bD,dB bD]
end
theorem xn(A:Option Addr)(n c:Nat):Value.ownBlock (.slice A n c)=A.map (·.block):=by cases A<;>rfl
theorem Mi{P:Program}{w:World}{C:Array Oper}{rest:List Oper}{o:Oper}{a:Act}{Q:Exit->Act->World->Prop}(G:o.guard=none)(s x:Operand)(t:TypeId)
  (V:o.op=.call {callee:=.builtin .append,args:= #[s,x],argTypes:= #[t,t]}) (E:TypeId) (ht:P.underlying t=some (.slice E)) (k bytes:Nat) (z:Value)
  (l:(P.info? E).map (fun i=>(i.zero,i.size,i.bytes))=some (some z,k,bytes)) (I:z.cells.size=k) (T:0<k) (J:bytes<=1000)
  (B:Nat) (A:Option Addr) (c n:Nat) (vs:List Value) (hs:a.eval s=.slice A n c) (D:aP w B E k A c n vs) (news:List Value) (K:news.length=k) (X:∀u∈news,u.oneCell'=true)
  (Y:a.eval x=.slice w.heap.size 1 1) (U:n<=100000000) (hB:B<=w.heap.size)
  (h:∀A' c' w',aP w' B E k A' c' (n+1) (vs++news)->bS A A' w w'->w.heap.size<w'.heap.size->wpList P C Q rest (a.put o.dst (.slice A' (n+1) c')) w'):
  wpList P C Q (o::rest) a (w.alloc (.cells news.toArray E)):=by
 obtain⟨i,hi,F⟩:=bN.1 l;simp only[jZ]at F;obtain⟨L,M,N⟩:=F;have m:aP (w.alloc (.cells news.toArray E)) B E k A c n vs:=D.keep ((bq _ w).alloc (az _) _);refine Lu (w.alloc (.cells news.toArray E)) G s x t V B E i z k bytes ht hi L M N I T _ _ _ hs m ⟨w.heap.size,0,none⟩ 1 1 news Y (by rw[K];omega)
  (fun j u hu=>?_) X (by unfold maxLen;omega) ?_ bD ?_
 ·have e:(⟨w.heap.size,0,none⟩:Addr).add j=⟨w.heap.size,j,none⟩:=by rw[eu,fo]
  rw[e,(aD.new w E news.toArray).cell j];simpa using hu
 ·have:=EX (n+1) J;omega
 ·intro v' w' r hg _ y;rcases r.2 with⟨hv,h0⟩|⟨g,cap,cur,hv,Z,hgg,hnc,hcm,hcs,htk⟩
  ·omega
  ·rw[hv]at r y⊢;refine h _ _ _ r ⟨?_,by have:=hg.size;simp at this;omega,fun b hb O=>?_,fun ad e=>?_⟩ (by have:=hg.size;simp at this;omega)
   ·exact((bq 0 w).alloc (aS _) _).grown hg om (fun k T=>aS _)
   ·rw[hg.block b bD ?_,CZ _ _ _ hb];rw[xn];intro e;obtain⟨ad,R,rfl⟩:=bN.1 e.symm;exact O ad R rfl
   ·injection e with e
    subst e;rw[xn,xn]at y;rcases y with y|y
    ·obtain⟨S,h3,h4⟩:=bN.1 y.symm;exact .inl ⟨S,h3,h4.symm⟩
    ·right;simp at y
     show w.heap.size<=g
     omega
theorem Ij{P:Program}{w:World}{e:Array Oper}{rest:List Oper}{o:Oper}{a:Act}{Q:Exit->Act->World->Prop}(m:o.guard=none)(s x:Operand)(t:TypeId)
  (r:o.op=.call {callee:=.builtin .append,args:= #[s,x],argTypes:= #[t,t]}) (E:TypeId) (ht:P.underlying t=some (.slice E))
  (b:(P.info? E).map (fun i=>(i.zero,i.size,i.bytes))=some (some (.int .i64 0),1,8))
  (B:Nat) (A:Option Addr) (c:Nat) (zs:List Int) (hs:a.eval s=.slice A zs.length c) (j:aG w B E A c zs) (y:Int)
  (z:a.eval x=.slice w.heap.size 1 1) (l:zs.length<=100000000) (C:B<=w.heap.size)
  (h:∀A' c' w',aG w' B E A' c' (zs++[y])->bS A A' w w'->w.heap.size<w'.heap.size->wpList P e Q rest (a.put o.dst (.slice A' (zs.length+1) c')) w'):
  wpList P e Q (o::rest) a (w.alloc (.cells #[y] E)):=
 Mi m s x t r E ht 1 8 _ b rfl ah ah B A c zs.length (zs.map (Value.int .i64)) hs j [.int .i64 y] rfl (fun u hu=>by rw[gm.1 hu];rfl) z l C fun A' c' w' D F G=>by
  refine h A' c' w' ?_ F G;unfold aG;rw[cu,gV];exact D
structure Kf(F F':Nat->Prop)(w w':World):Prop where
 base:Below 0 w w'
 size:w.heap.size<=w'.heap.size
 keep:∀b,b<w.heap.size->¬F b->w'.heap[b]?=w.heap[b]?
 new:∀b,F' b->F b\/w.heap.size<=b
def AF(A:Option Addr)(b:Nat):Prop:=∃ad,A=some ad/\ad.block=b
section
variable{F F' F2 G G':Nat->Prop}{w w' u p:World}{A A':Option Addr}{g k n c B m b:Nat}{T E:TypeId}{cs:Array Value}{vs:List Value}{zs:List Int}
theorem Kf.trans(h:Kf F F' w w')(e:Kf F' F2 w' u):Kf F F2 w u:=
 ⟨h.base.trans e.base,aZ h.size e.size,fun b hb l=>(e.keep b (bV hb h.size) fun r=>(h.new b r).elim l fun j=>absurd hb (sM.2 j)).trans (h.keep b hb l),
  fun b hb=>(e.new b hb).elim (h.new b) fun j=>.inr (aZ h.size j)⟩
theorem Kf.refl(F:Nat->Prop)(w:World):Kf F F w w:=⟨bq _ _,az _,fun _ _ _=>rfl,fun _ h=>.inl h⟩
theorem Kf.later(F:Nat->Prop)[l:Later w w']:Kf F F w w':=⟨l.st.mono (aS _),l.st.size,fun b hb _=>l.st.block b hb,fun _ h=>.inl h⟩
theorem Kf.more(h:Kf F F' w w')(l:∀b,F b->G b)(j:∀b,G' b->F' b\/G b\/w.heap.size<=b):Kf G G' w w':=
 ⟨h.base,h.size,fun b hb r=>h.keep b hb fun y=>r (l b y),fun b hb=>by
  rcases j b hb with e|e|e
  ·exact(h.new b e).imp (l b) id
  ·exact .inl e
  ·exact .inr e⟩
theorem Kf.prev(h:Kf F F' w w')[l:Later p w](hF:∀b,F b->p.heap.size<=b):ak w' p:=
 ⟨(l.st.mono (az _)).trans ⟨h.base.os,h.base.tape,h.base.output,h.size,fun b hb=>h.keep b (bV hb l.st.size) fun e=>absurd hb (sM.2 (hF b e))⟩⟩
theorem Kf.blk(h:Kf F F' w w')(o:aD w g T cs)(hg:¬F g):aD w' g T cs:=(h.keep g o.lt hg).trans o
theorem Kf.row(h:Kf F F' w w')(r:aP w B E k A c n vs)(j:∀b,AF A b->¬F b):aP w' B E k A c n vs:=r.same fun ad e=>h.keep _ (r.lt ad e) (j _ ⟨ad,e,rfl⟩)
theorem Kf.own(h:Kf F F' w w')(r:aG w B E A c zs)(j:∀b,AF A b->¬F b):aG w' B E A c zs:=r.same fun ad e=>h.keep _ (r.lt ad e) (j _ ⟨ad,e,rfl⟩)
theorem Kf.rd(h:Kf F F' w w')(r:Rd w A zs)(l:∀b,AF A b->¬F b):Rd w' A zs:=fun j z y=>by
 obtain⟨b,off,e,hb,C⟩:=r j z y;refine⟨b,off,e,bV hb h.size,?_⟩;rw[<-C];exact jG (h.keep b hb (l b ⟨_,e,rfl⟩))
theorem Kf.sl(h:Kf F F' w w')(r:Sl w A n zs)(e:∀b,AF A b->¬F b):Sl w' A n zs:=⟨h.rd r.rd e,r.len⟩
theorem Kf.iq(h:bS A A' w w'):Kf (AF A) (AF A') w w':=
 ⟨h.base,h.size,fun b hb l=>h.off b hb fun ad e j=>l ⟨ad,e,j⟩,fun b ⟨ad,e,j⟩=>by
  rcases h.new ad e with⟨a0,r,y⟩|z
  ·exact .inl ⟨a0,r,by rw[<-y,j]⟩
  ·exact .inr (by rw[<-j];exact z)⟩
theorem Kf.aF(h:Kf F F' w w'){q:Addr}(hq:F' q.block)(v:Value):Kf F F' w (w'.setCell q v):=
 ⟨h.base.setCell (p:=q) (aS _) v,by have:=h.size;simpa using this,fun b hb j=>by
  rw[dM w' q v b fun e=>by
   subst e;exact(h.new _ hq).elim j fun l=>absurd hb (sM.2 l)]
  exact h.keep b hb j,h.new⟩
theorem Kf.alloc(h:Kf F F' w w')(o:Obj):Kf F F' w (w'.alloc o):=⟨h.base.alloc (aS _) o,by have:=h.size;simp;omega,fun b hb e=>(CZ w' o b (bV hb h.size)).trans (h.keep b hb e),h.new⟩
theorem aP.af(h:aP w B E k A c n vs)(hb:AF A b):B<=b/\b<w.heap.size/\∃cur,w.heap[b]?=some (.cells cur E (0,0)):=by
 obtain⟨ad,e,rfl⟩:=hb;rcases h.form with⟨rfl,_⟩|⟨g,cur,rfl,j,hg,_⟩
 ·cases e
 ·injection e with e
  subst e;exact⟨j,(nz.1 hg).1,cur,hg⟩
theorem aG.af(h:aG w B E A c zs)(hb:AF A b):B<=b/\b<w.heap.size/\∃cur,w.heap[b]?=some (.cells cur E (0,0)):=aP.af (k:=1) h hb
theorem pR{o:Nat}:AF (some ⟨g,o,none⟩) b↔g=b:=⟨fun⟨ad,e,h⟩=>by injection e with e;subst e;exact h,fun h=>⟨_,rfl,h⟩⟩
end
structure dW where
 h:Int
 fr:Nat
 wd:Nat
structure jJ(bs:List dW)(N:Nat):Prop where
 pw:bs.Pairwise fun b c=>b.fr+b.wd<=c.fr
 bd:∀b∈bs,1<=b.wd/\b.fr+b.wd<=N
def gD(bs:List dW)(i:Nat):Nat:=if i=0 then 0 else(bs[i-1]?.map fun b=>b.fr+b.wd).getD 0
def cont(cs:List Int)(b:dW):List Int:=(cs.drop b.fr).take b.wd
def iM(cs:List Int)(p:Nat)(xs:List Int):List Int:=cs.take p++xs++cs.drop (p+xs.length)
section
variable{bs:List dW}{N i j p:Nat}{b c x:dW}{cs xs:List Int}
theorem BJ(h:p+xs.length<=cs.length):(iM cs p xs).length=cs.length:=by simp[iM];omega
theorem XD{k:Nat}(h:p+xs.length<=cs.length):(iM cs p xs)[k]?=if p<=k/\k<p+xs.length then xs[k-p]? else cs[k]?:=by
 unfold iM;by_cases e:k<p
 ·rw[if_neg om,jX,Bn bD,l7,if_pos e]
 ·by_cases l:k<p+xs.length
  ·rw[if_pos ⟨om,l⟩,Bn bD,lC bD];simp;congr 1;omega
  ·rw[if_neg om,lC bD,lD];simp;congr 1;omega
theorem Fy{k:Nat}:(cont cs b)[k]?=if k<b.wd then cs[b.fr+k]? else none:=by
 unfold cont;rw[l7,lD]
theorem BK(h:b.fr+b.wd<=cs.length):(cont cs b).length=b.wd:=by simp[cont];omega
theorem Qs(h:p+xs.length<=cs.length)(e:b.fr+b.wd<=p\/p+xs.length<=b.fr):cont (iM cs p xs) b=cont cs b:=by
 apply pE;intro k;rw[Fy,Fy]
 split
 ·rw[XD h,if_neg om]
 ·rfl
theorem Qt(h:p+xs.length<=cs.length)(e:b.fr=p)(l:b.wd=xs.length):cont (iM cs p xs) b=xs:=by
 apply pE;intro k;rw[Fy]
 split
 ·rw[XD h,if_pos om];congr 1;omega
 ·rw[mE om]
theorem afI(h:b.fr+b.wd<=cs.length):cont (cs++xs) b=cont cs b:=by
 apply pE;intro k;rw[Fy,Fy]
 split
 ·rw[Bn om]
 ·rfl
theorem jJ.lt(h:jJ bs N)(e:i<j)(hi:bs[i]?=some b)(l:bs[j]?=some c):b.fr+b.wd<=c.fr:=by
 obtain⟨m,rfl⟩:=aY.1 hi;obtain⟨r,rfl⟩:=aY.1 l;exact(yz.1 h.pw) i j m r e
theorem Ik(h:bs[i]?=some b):gD bs (i+1)=b.fr+b.wd:=by
 unfold gD;rw[if_neg om,show i+1-1=i from om,h];rfl
theorem jJ.afJ(h:jJ bs N)(hi:i<=bs.length):gD bs i<=N:=by
 match i with
 |0=>exact aS _
 |i+1=>
  have e:=aW (show i<bs.length by omega);rw[Ik e];exact(h.bd _ (aK e)).2
theorem jJ.ahead(h:jJ bs N)(r:j<i)(m:bs[j]?=some b)(hi:i<=bs.length):b.fr+b.wd<=gD bs i:=by
 obtain⟨i,rfl⟩:∃k,i=k+1:=⟨i-1,om⟩;have e:=aW (show i<bs.length by omega);rw[Ik e];by_cases l:j=i
 ·subst l;rw[m]at e;injection e with e
  rw[<-e];exact az _
 ·have:=h.lt (show j<i by omega) m e;omega
theorem jJ.behind(h:jJ bs N)(m:i<=j)(hi:bs[i]?=some b)(l:bs[j]?=some c):b.fr<=c.fr:=by
 by_cases e:i=j
 ·subst e;rw[hi]at l;injection l with l
  rw[l];exact az _
 ·have:=h.lt (show i<j by omega) hi l;omega
theorem jJ.Qu(h:jJ bs N)(hi:bs[i]?=some b):gD bs i<=b.fr:=by
 match i with
 |0=>exact aS _
 |i+1=>
  have l:=(aY.1 hi).1;have e:=aW (show i<bs.length by omega);rw[Ik e];exact h.lt (Hy i) e hi
theorem XE{α:Type}{L:List α}{y:α}(h:y∈L.take i):∃k,k<i/\L[k]?=some y:=by
 obtain⟨k,e⟩:=jF h;rw[l7]at e
 split at e
 ·exact⟨k,by assumption,e⟩
 ·cases e
theorem XF{α:Type}{L:List α}{y:α}(h:y∈L.drop i):∃k,i<=k/\L[k]?=some y:=by
 obtain⟨k,e⟩:=jF h;rw[lD]at e;exact⟨i+k,om,e⟩
theorem jJ.ins(h:jJ bs N){M:Nat}(hN:N<=M)(hi:i<=bs.length)(C:gD bs i<=x.fr)(u:∀b,bs[i]?=some b->x.fr+x.wd<=b.fr)(y:x.fr+x.wd<=M)(z:1<=x.wd):jJ (bs.take i++x::bs.drop i) M:=by
 refine⟨?_,fun b hb=>?_⟩
 ·have hp:=h.pw;rw[<-iX i bs,Bt]at hp;rw[Bt,qy];have B:∀b∈bs.take i,b.fr+b.wd<=x.fr:=fun b hb=>by
   obtain⟨k,m,e⟩:=XE hb;have:=h.ahead m e hi;omega
  refine⟨hp.1,⟨fun c l=>?_,hp.2.1⟩,fun b hb c l=>?_⟩
  ·obtain⟨k,m,e⟩:=XF l;have D:=(aY.1 e).1;have r:=aW (show i<bs.length by omega);have:=u _ r;have:=h.behind m r e;omega
  ·rcases dz.1 l with rfl|l
   ·exact B b hb
   ·exact hp.2.2 b hb c l
 ·rcases dP.1 hb with hb|hb
  ·have:=h.bd b (gU hb);omega
  ·rcases dz.1 hb with rfl|hb
   ·exact⟨z,y⟩
   ·have:=h.bd b (jo hb);omega
theorem jJ.del(h:jJ bs N):jJ (bs.take i++bs.drop (i+1)) N:=by
 have hs:(bs.take i++bs.drop (i+1)).Sublist bs:=by
  conv=>rhs;rw[<-iX i bs]
  exact Lh (Lg bs (fu i)) _
 exact⟨h.pw.sublist hs,fun b hb=>h.bd b (hs.subset hb)⟩
theorem jJ.move(h:jJ bs N)(hi:bs[i]?=some b){t:Nat}(C:gD bs i<=t)(D:t<=b.fr):jJ (bs.set i ⟨b.h,t,b.wd⟩) N:=by
 have z:=(aY.1 hi).1;have hb:=h.bd b (aK hi);refine⟨?_,fun c B=>?_⟩
 ·rw[yz];intro j k r l m;rw[jQ]at r l;rw[H5,H5];have u:=aW r;have y:=aW l
  split
  ·rename_i e;subst e;rw[if_neg om];have:=h.lt m hi y;dsimp only;omega
  ·split
   ·rename_i e;subst e;have:=h.ahead m u om;dsimp only;omega
   ·exact h.lt m u y
 ·obtain⟨k,l⟩:=jF B;by_cases e:i=k
  ·subst e;rw[qX z]at l;injection l with l
   subst l;dsimp only;omega
  ·rw[Bp e]at l;exact h.bd c (aK l)
end
structure bL where
 cap:Nat
 cs:List Int
 bs:List dW
 mp:List (Int×Int)
 pk:Nat
 nx:Nat
 lv:Nat
 hi:Nat
 pe:Nat
 mv:Nat
structure dw(v:bL):Prop where
 lay:jJ v.bs v.cs.length
 cl:v.cs.length<=v.cap
 cap:v.cap<=16777216
 hi:v.hi<=v.cap
 lv:v.lv=(v.bs.map (·.wd)).sum
 hd:v.bs.Pairwise fun b c=>b.h≠c.h
 hb:∀b∈v.bs,1<=b.h/\b.h<=v.nx
 pk:v.pk<=v.bs.length
 BL:(v.mp.map (·.1)).Nodup
 yN:∀b∈v.bs,(b.h,(b.fr:Int))∈v.mp
 Du:∀e∈v.mp,∃b∈v.bs,e=(b.h,(b.fr:Int))
def iF(v:bL)(h:Int)(xs:List Int):Prop:=∃b∈v.bs,b.h=h/\cont v.cs b=xs
def zZ(mp:List (Int×Int))(h z:Int):List (Int×Int):=mp.map fun e=>if e.1=h then(h,z)else e
section
variable{v:bL}{i:Nat}{b x:dW}{h:Int}{xs ys:List Int}
theorem afK(mp:List (Int×Int))(h z:Int):(zZ mp h z).map (·.1)=mp.map (·.1):=by
 unfold zZ;rw[Fh];refine oZ fun e _=>?_
 show(if e.1=h then(h,z)else e).1=e.1
 split
 ·rename_i h;exact h.symm
 ·rfl
theorem afL{bs:List dW}{N:Nat}:∀(e:Nat),e<=N->(∀b∈bs,e<=b.fr)->jJ bs N->e+(bs.map (·.wd)).sum<=N:=by
 induction bs with
 |nil=>intro e m _ _;simpa using m
 |cons b t u=>
  intro e m y j;have hb:=j.bd b dN;have r:=qy.1 j.pw;have:=u (b.fr+b.wd) hb.2 (fun c l=>r.1 c l) ⟨r.2,fun c l=>j.bd c (fI _ l)⟩;have:=y b dN;simp only[fe,jR];omega
theorem dw.Il(hv:dw v):v.lv<=v.cs.length:=by
 rw[hv.lv];have:=afL (bs:=v.bs) (N:=v.cs.length) 0 (aS _) (fun _ _=>aS _) hv.lay;omega
def bL.move(v:bL)(i:Nat)(b:dW)(t:Nat):bL:={v with cs:=iM v.cs t (cont v.cs b),bs:=v.bs.set i ⟨b.h,t,b.wd⟩,mp:=zZ v.mp b.h t}
theorem afM{bs:List dW}(hi:bs[i]?=some b){x:dW}(j:x.wd=b.wd):(bs.set i x).map (·.wd)=bs.map (·.wd):=by
 rw[Bw,j];apply pE;intro k;rw[nQ]
 split
 ·rename_i e;subst e;rw[dE,hi];have:=(aY.1 hi).1;simp[this]
 ·rfl
theorem dw.move(hv:dw v)(hi:v.bs[i]?=some b){t:Nat}(K:gD v.bs i<=t)(L:t<=b.fr):dw (v.move i b t):=by
 have hm:=aK hi;have hb:=hv.lay.bd b hm;have G:=(aY.1 hi).1;have B:(iM v.cs t (cont v.cs b)).length=v.cs.length:=BJ (by rw[BK hb.2];omega);have mem:∀c,c∈v.bs.set i ⟨b.h,t,b.wd⟩->c=⟨b.h,t,b.wd⟩\/(c∈v.bs/\c.h≠b.h):=fun c m=>by
  obtain⟨k,l⟩:=jF m;by_cases r:i=k
  ·subst r;rw[qX G]at l;injection l with l;exact .inl l.symm
  ·rw[Bp r]at l;refine .inr ⟨aK l,fun e=>?_⟩;obtain⟨E,C⟩:=aY.1 hi;obtain⟨I,J⟩:=aY.1 l;have hp:=yz.1 hv.hd;rcases Hg r with u|u
   ·exact hp i k E I u (by rw[C,J,e])
   ·exact hp k i I E u (by rw[C,J,e])
 refine⟨?_,?_,hv.cap,hv.hi,?_,?_,fun c m=>?_,?_,?_,fun c m=>?_,fun e M=>?_⟩
 ·show jJ (v.bs.set i ⟨b.h,t,b.wd⟩) (iM v.cs t (cont v.cs b)).length
  rw[B];exact hv.lay.move hi K L
 ·show(iM v.cs t (cont v.cs b)).length<=v.cap
  rw[B];exact hv.cl
 ·show v.lv=((v.bs.set i ⟨b.h,t,b.wd⟩).map (·.wd)).sum
  rw[afM hi (by rfl)];exact hv.lv
 ·show(v.bs.set i ⟨b.h,t,b.wd⟩).Pairwise fun b c=>b.h≠c.h
  rw[yz];intro j k D l y;have hp:=yz.1 hv.hd;obtain⟨E,C⟩:=aY.1 hi;rw[jQ]at D l;rw[H5,H5]
  split
  ·rename_i e;subst e;rw[if_neg om];have:=hp i k D l y;rw[C]at this;exact this
  ·split
   ·rename_i e;subst e;have:=hp j i D l y;rw[C]at this;exact this
   ·exact hp j k D l y
 ·rcases mem c m with rfl|⟨m,_⟩
  ·exact hv.hb b hm
  ·exact hv.hb c m
 ·show v.pk<=(v.bs.set i ⟨b.h,t,b.wd⟩).length
  rw[jQ];exact hv.pk
 ·show((zZ v.mp b.h t).map (·.1)).Nodup
  rw[afK];exact hv.BL
 ·show(c.h,(c.fr:Int))∈zZ v.mp b.h t
  unfold zZ;rcases mem c m with rfl|⟨m,r⟩
  ·exact dG.2 ⟨_,hv.yN b hm,if_pos rfl⟩
  ·exact dG.2 ⟨_,hv.yN c m,if_neg r⟩
 ·obtain⟨N,F,rfl⟩:=dG.1 (show e∈v.mp.map fun e=>if e.1=b.h then(b.h,(t:Int))else e from M);obtain⟨c,m,rfl⟩:=hv.Du N F;by_cases z:c.h=b.h
  ·refine⟨⟨b.h,t,b.wd⟩,?_,if_pos z⟩;exact aK (i:=i) (by show(v.bs.set i _)[i]?=_;rw[qX G])
  ·refine⟨c,?_,if_neg z⟩;obtain⟨k,l⟩:=jF m;refine aK (i:=k) ?_
   show(v.bs.set i _)[k]?=_
   rw[Bp (fun e=>by subst e;rw[hi]at l;injection l with l;exact z (by rw[l]))];exact l
theorem iF.move(hv:dw v)(y:iF v h xs)(hi:v.bs[i]?=some b){t:Nat}(C:gD v.bs i<=t)(D:t<=b.fr):iF (v.move i b t) h xs:=by
 have hm:=aK hi;have hb:=hv.lay.bd b hm;have z:=(aY.1 hi).1;have m:=BK hb.2;obtain⟨c,B,r,u⟩:=y;obtain⟨k,l⟩:=jF B;by_cases e:i=k
 ·subst e;rw[hi]at l;obtain rfl:=eP l;refine⟨⟨b.h,t,b.wd⟩,aK (i:=i) (by show(v.bs.set i _)[i]?=_;rw[qX z]),r,?_⟩
  show cont (iM v.cs t (cont v.cs b)) ⟨b.h,t,b.wd⟩=xs
  exact(Qt (cs:=v.cs) (p:=t) (xs:=cont v.cs b) (b:=⟨b.h,t,b.wd⟩) om rfl m.symm).trans u
 ·refine⟨c,aK (i:=k) (by show(v.bs.set i _)[k]?=_;rw[Bp e];exact l),r,?_⟩
  show cont (iM v.cs t (cont v.cs b)) c=xs
  rw[Qs om,u];rcases Hg e with j|j
  ·have:=hv.lay.lt j hi l;omega
  ·have:=hv.lay.ahead j l om;omega
def bL.give(v:bL)(i fr wd pk:Nat):bL:=
 {v with cs:=iM (v.cs++List.replicate (fr+wd-v.cs.length) 0) fr (List.replicate wd 0),bs:=v.bs.take i++⟨(v.nx:Int)+1,fr,wd⟩::v.bs.drop i,mp:=v.mp++[((v.nx:Int)+1,(fr:Int))],pk:=pk,nx:=v.nx+1,lv:=v.lv+wd,hi:=max v.hi (fr+wd),pe:=max v.pe (v.lv+wd)}
theorem dw.give(hv:dw v){i fr wd pk:Nat}(hi:i<=v.bs.length)(z:gD v.bs i<=fr)(B:∀b,v.bs[i]?=some b->fr+wd<=b.fr)(F:fr+wd<=v.cap)(C:1<=wd)(hp:pk<=v.bs.length+1):dw (v.give i fr wd pk):=by
 have r:(iM (v.cs++List.replicate (fr+wd-v.cs.length) 0) fr (List.replicate wd 0)).length=max v.cs.length (fr+wd):=by
  rw[BJ bD];simp;omega
 have l:∀b∈v.bs,b.h≠(v.nx:Int)+1:=fun b hb=>by have:=hv.hb b hb;omega
 refine⟨?_,?_,hv.cap,?_,?_,?_,fun c j=>?_,?_,?_,fun c j=>?_,fun e u=>?_⟩
 ·show jJ (v.bs.take i++⟨(v.nx:Int)+1,fr,wd⟩::v.bs.drop i) (iM _ fr (List.replicate wd 0)).length
  rw[r];exact hv.lay.ins (Nat.le_max_left _ _) hi z B (Nat.le_max_right _ _) C
 ·show(iM _ fr (List.replicate wd 0)).length<=v.cap
  rw[r];have:=hv.cl;omega
 ·show max v.hi (fr+wd)<=v.cap
  have:=hv.hi;omega
 ·show v.lv+wd=((v.bs.take i++⟨(v.nx:Int)+1,fr,wd⟩::v.bs.drop i).map (·.wd)).sum
  have e:(v.bs.map (·.wd)).sum=((v.bs.take i).map (·.wd)).sum+((v.bs.drop i).map (·.wd)).sum:=by
   conv=>lhs;rw[<-iX i v.bs]
   rw[gV,E5]
  rw[hv.lv,e];simp;omega
 ·show(v.bs.take i++⟨(v.nx:Int)+1,fr,wd⟩::v.bs.drop i).Pairwise fun b c=>b.h≠c.h
  have hp:=hv.hd;rw[<-iX i v.bs,Bt]at hp;rw[Bt,qy];refine⟨hp.1,⟨fun c j=>(l c (jo j)).symm,hp.2.1⟩,fun b hb c j=>?_⟩;rcases dz.1 j with rfl|j
  ·exact l b (gU hb)
  ·exact hp.2.2 b hb c j
 ·have m:c∈v.bs.take i++⟨(v.nx:Int)+1,fr,wd⟩::v.bs.drop i:=j
  show 1<=c.h/\c.h<=((v.nx+1:Nat):Int)
  rcases dP.1 m with j|j
  ·have:=hv.hb c (gU j);omega
  ·rcases dz.1 j with rfl|j
   ·dsimp only;omega
   ·have:=hv.hb c (jo j);omega
 ·show pk<=(v.bs.take i++⟨(v.nx:Int)+1,fr,wd⟩::v.bs.drop i).length
  simp;omega
 ·show((v.mp++[((v.nx:Int)+1,(fr:Int))]).map (·.1)).Nodup
  rw[gV,Bv];refine⟨hv.BL,au,fun a D b hb e=>?_⟩;obtain⟨x,E,rfl⟩:=dG.1 D;obtain⟨c,j,rfl⟩:=hv.Du x E;simp at hb;exact l c j (by rw[<-hb];exact e)
 ·show(c.h,(c.fr:Int))∈v.mp++[((v.nx:Int)+1,(fr:Int))]
  have m:c∈v.bs.take i++⟨(v.nx:Int)+1,fr,wd⟩::v.bs.drop i:=j;rcases dP.1 m with j|j
  ·exact zQ _ (hv.yN c (gU j))
  ·rcases dz.1 j with rfl|j
   ·simp
   ·exact zQ _ (hv.yN c (jo j))
 ·show∃b∈v.bs.take i++⟨(v.nx:Int)+1,fr,wd⟩::v.bs.drop i,e=(b.h,(b.fr:Int))
  have y:e∈v.mp++[((v.nx:Int)+1,(fr:Int))]:=u;rcases dP.1 y with u|u
  ·obtain⟨b,hb,rfl⟩:=hv.Du e u;refine⟨b,?_,rfl⟩;rw[<-iX i v.bs]at hb;rcases dP.1 hb with hb|hb
   ·exact zQ _ hb
   ·exact Br _ (fI _ hb)
  ·exact⟨_,Br _ dN,by simpa using u⟩
theorem iF.give(hv:dw v)(r:iF v h xs){i fr wd pk:Nat}(hi:i<=v.bs.length)(B:gD v.bs i<=fr)(u:∀b,v.bs[i]?=some b->fr+wd<=b.fr):iF (v.give i fr wd pk) h xs:=by
 obtain⟨c,e,y,z⟩:=r;have hb:=hv.lay.bd c e;refine⟨c,?_,y,?_⟩
 ·show c∈v.bs.take i++⟨(v.nx:Int)+1,fr,wd⟩::v.bs.drop i
  rw[<-iX i v.bs]at e;rcases dP.1 e with hb|hb
  ·exact zQ _ hb
  ·exact Br _ (fI _ hb)
 ·show cont (iM (v.cs++List.replicate (fr+wd-v.cs.length) 0) fr (List.replicate wd 0)) c=xs
  rw[Qs bD,afI hb.2,z];rw[lF];obtain⟨k,j⟩:=jF e;by_cases l:k<i
  ·have:=hv.lay.ahead l j hi;omega
  ·have C:=(aY.1 j).1;have m:=aW (show i<v.bs.length by omega);have:=u _ m;have:=hv.lay.behind (show i<=k by omega) m j;omega
theorem iF.gave{i fr wd pk:Nat}:iF (v.give i fr wd pk) ((v.nx:Int)+1) (List.replicate wd 0):=by
 refine⟨⟨(v.nx:Int)+1,fr,wd⟩,Br _ dN,rfl,?_⟩
 show cont (iM (v.cs++List.replicate (fr+wd-v.cs.length) 0) fr (List.replicate wd 0)) ⟨(v.nx:Int)+1,fr,wd⟩=_
 exact Qt bD rfl au
def bL.free(v:bL)(i:Nat)(b:dW):bL:={v with bs:=v.bs.take i++v.bs.drop (i+1),mp:=v.mp.filter fun e=>e.1 !=b.h,pk:=min v.pk i,lv:=v.lv-b.wd}
theorem BM{α:Type}{L:List α}{y:α}(h:L[i]?=some y):L=L.take i++y::L.drop (i+1):=by
 obtain⟨j,e⟩:=aY.1 h;rw[<-e,<-jE j,iX]
theorem dw.rest(hv:dw v)(hi:v.bs[i]?=some b){c:dW}:c∈v.bs.take i++v.bs.drop (i+1)↔c∈v.bs/\c.h≠b.h:=by
 have hd:=hv.hd;rw[BM hi,Bt,qy]at hd;constructor
 ·intro e;rcases dP.1 e with e|e
  ·exact⟨gU e,hd.2.2 c e b dN⟩
  ·exact⟨jo e,(hd.2.1.1 c e).symm⟩
 ·rintro⟨e,j⟩;rw[BM hi]at e;rcases dP.1 e with e|e
  ·exact zQ _ e
  ·rcases dz.1 e with rfl|e
   ·exact absurd rfl j
   ·exact Br _ e
theorem dw.free(hv:dw v)(hi:v.bs[i]?=some b):dw (v.free i b):=by
 have u:=(aY.1 hi).1;refine⟨hv.lay.del,hv.cl,hv.cap,hv.hi,?_,?_,fun c j=>hv.hb c ((hv.rest hi).1 j).1,?_,?_,fun c j=>?_,fun e r=>?_⟩
 ·show v.lv-b.wd=((v.bs.take i++v.bs.drop (i+1)).map (·.wd)).sum
  have e:(v.bs.map (·.wd)).sum=((v.bs.take i).map (·.wd)).sum+(b.wd+((v.bs.drop (i+1)).map (·.wd)).sum):=by
   conv=>lhs;rw[BM hi]
   simp
  rw[hv.lv,e];simp;omega
 ·have hs:(v.bs.take i++v.bs.drop (i+1)).Sublist v.bs:=by
   conv=>rhs;rw[<-iX i v.bs]
   exact Lh (Lg v.bs (fu i)) _
  exact hv.hd.sublist hs
 ·show min v.pk i<=(v.bs.take i++v.bs.drop (i+1)).length
  simp;omega
 ·show((v.mp.filter fun e=>e.1 !=b.h).map (·.1)).Nodup
  exact hv.BL.sublist (List.filter_sublist.map _)
 ·obtain⟨l,m⟩:=(hv.rest hi).1 j;exact Da.2 ⟨hv.yN c l,by simpa using m⟩
 ·obtain⟨l,m⟩:=Da.1 (show e∈v.mp.filter fun e=>e.1 !=b.h from r);obtain⟨c,j,rfl⟩:=hv.Du e l;exact⟨c,(hv.rest hi).2 ⟨j,by simpa using m⟩,rfl⟩
theorem iF.free(hv:dw v)(hi:v.bs[i]?=some b)(l:iF v h xs)(e:h≠b.h):iF (v.free i b) h xs:=by
 obtain⟨c,m,j,r⟩:=l;exact⟨c,(hv.rest hi).2 ⟨m,by rw[j];exact e⟩,j,r⟩
def bL.put(v:bL)(b:dW)(xs:List Int):bL:={v with cs:=iM v.cs b.fr xs}
theorem dw.put(hv:dw v)(hb:b∈v.bs)(j:xs.length=b.wd):dw (v.put b xs):=by
 have l:=(hv.lay.bd b hb).2;have e:(iM v.cs b.fr xs).length=v.cs.length:=BJ om;exact⟨by show jJ v.bs (iM v.cs b.fr xs).length;rw[e];exact hv.lay,by show(iM v.cs b.fr xs).length<=v.cap;rw[e];exact hv.cl,hv.cap,hv.hi,hv.lv,hv.hd,hv.hb,hv.pk,hv.BL,hv.yN,hv.Du⟩
theorem iF.put(hv:dw v)(hb:b∈v.bs)(e:xs.length=b.wd):iF (v.put b xs) b.h xs:=
 ⟨b,hb,rfl,Qt (by have:=(hv.lay.bd b hb).2;omega) rfl e.symm⟩
theorem iF.afN(hv:dw v)(hb:b∈v.bs)(D:xs.length=b.wd)(B:iF v h ys)(r:h≠b.h):iF (v.put b xs) h ys:=by
 obtain⟨c,y,z,C⟩:=B;have E:=(hv.lay.bd b hb).2;refine⟨c,y,z,?_⟩
 show cont (iM v.cs b.fr xs) c=ys
 rw[Qs om,C];obtain⟨i,hi⟩:=jF hb;obtain⟨j,m⟩:=jF y;have u:i≠j:=fun e=>by subst e;rw[hi]at m;injection m with m;exact r (by rw[<-z,m])
 rcases Hg u with l|l
 ·have:=hv.lay.lt l hi m;omega
 ·have:=hv.lay.lt l m hi;omega
end
abbrev Tb:=List (Int×Int)
def gX(t:Tb)(k:Int):Nat:=t.countP fun e=>decide (e.1<k)
def pU(t:Tb)(k h:Int):Tb:=t.take (gX t k)++(k,h)::t.drop (gX t k)
def BO(t:Tb)(k:Int):Tb:=t.take (gX t k)++t.drop (gX t k+1)
def qB(t:Tb)(k:Int):Bool:=t.any fun e=>decide (e.1=k)
def kT(t:Tb):Prop:=t.Pairwise fun a b=>a.1<b.1
structure mf(A A':bL):Prop where
 ok:dw A'
 has:∀h xs,iF A h xs->iF A' h xs
 nx:A'.nx=A.nx
 cap:A'.cap=A.cap
 lv:A'.lv=A.lv
 pe:A'.pe=A.pe
structure BP(A:bL)(wd:Nat)(A':bL):Prop where
 ok:dw A'
 has:∀h xs,iF A h xs->iF A' h xs
 new:iF A' ((A.nx:Int)+1) (List.replicate wd 0)
 nx:A'.nx=A.nx+1
 cap:A'.cap=A.cap
 lv:A'.lv=A.lv+wd
 pe:A'.pe=max A.pe (A.lv+wd)
structure Mj(A:bL)(h:Int)(xs:List Int)(A':bL):Prop where
 ok:dw A'
 has:∀k ys,k≠h->iF A k ys->iF A' k ys
 new:iF A' h xs
 nx:A'.nx=A.nx
 cap:A'.cap=A.cap
 lv:A'.lv=A.lv
 pe:A'.pe=A.pe
structure Mk(A:bL)(h:Int)(n:Nat)(A':bL):Prop where
 ok:dw A'
 has:∀k ys,k≠h->iF A k ys->iF A' k ys
 nx:A'.nx=A.nx
 cap:A'.cap=A.cap
 lv:A'.lv+n=A.lv
 pe:A'.pe=A.pe
structure dK(A:bL)(tb:Bool->Tb)(T:Bool->Int->Option (List Int)):Prop where
 ar:dw A
 so:∀s,kT (tb s)
 hs:∀s,∀e∈tb s,∃xs,T s e.1=some xs/\iF A e.2 xs
 th:∀s id xs,T s id=some xs->∃h,(id,h)∈tb s
 inj:∀s s' e f,e∈tb s->f∈tb s'->e.2=f.2->s=s'/\e=f
def kV{α:Type}(f:Bool->α)(s:Bool)(v:α):Bool->α:=fun s'=>if s'=s then v else f s'
def iG(T:Bool->Int->Option (List Int))(s:Bool)(id:Int)(v:Option (List Int)):Bool->Int->Option (List Int):=fun s' b=>if s'=s/\b=id then v else T s' b
section
variable{A A' A2:bL}{t:Tb}{k h:Int}{e:Int×Int}{tb:Bool->Tb}{T:Bool->Int->Option (List Int)}{s:Bool}{id:Int}{wd n i:Nat}{xs ys:List Int}{b:dW}
theorem XG{t:Tb}(h:∀e∈t,k<=e.1):gX t k=0:=by
 unfold gX;rw[Lv];intro e j;have:=h e j;simp;omega
theorem Qv{t:Tb}(h:e.1<k):gX (e::t) k=gX t k+1:=by
 unfold gX;rw[WK (by simpa using h)]
theorem XH{t:Tb}(hr:kT (e::t))(h:¬e.1<k):gX (e::t) k=0:=by
 refine XG fun f j=>?_;rcases dz.1 j with rfl|j
 ·omega
 ·have:=(qy.1 hr).1 f j;omega
theorem XI(t:Tb)(k:Int):gX t k<=t.length:=Ho
theorem XJ:∀{t:Tb},kT t->(∀e∈t.take (gX t k),e.1<k)/\∀e∈t.drop (gX t k),k<=e.1
 |[],_=>au
 |e::t,hr=>by
  by_cases h:e.1<k
  ·obtain⟨l,m⟩:=XJ (t:=t) (qy.1 hr).2;rw[Qv h,mH,qw];refine⟨fun f j=>?_,m⟩;rcases dz.1 j with rfl|j
   ·exact h
   ·exact l f j
  ·rw[XH hr h];refine⟨au,fun f j=>?_⟩;rw[pF]at j;rcases dz.1 j with rfl|j
   ·omega
   ·have:=(qy.1 hr).1 f j;omega
theorem Fz:∀{t:Tb},kT t->(k,h)∈t->t[gX t k]?=some (k,h)
 |[],_,hm=>by cases hm
 |e::t,hr,hm=>by
  rcases dz.1 hm with rfl|hm
  ·rw[XH hr (by dsimp only;omega)];rfl
  ·have:=(qy.1 hr).1 _ hm;rw[Qv this,CY];exact Fz (qy.1 hr).2 hm
theorem Qw:e∈pU t k h↔e=(k,h)\/e∈t:=by
 unfold pU;rw[dP,dz];constructor
 ·rintro(j|j|j)
  ·exact .inr (gU j)
  ·exact .inl j
  ·exact .inr (jo j)
 ·rintro(j|j)
  ·exact .inr (.inl j)
  ·rw[<-iX (gX t k) t,dP]at j;rcases j with j|j
   ·exact .inl j
   ·exact .inr (.inr j)
theorem XK(hr:kT t)(m:∀h,(k,h)∉t):kT (pU t k h):=by
 obtain⟨r,u⟩:=XJ (k:=k) hr;have hp:kT (t.take (gX t k)++t.drop (gX t k)):=by rw[iX];exact hr
 unfold kT at hp;rw[Bt]at hp;unfold pU kT;rw[Bt,qy];refine⟨hp.1,⟨fun f j=>?_,hp.2.1⟩,fun a l f j=>?_⟩
 ·have:=u f j;have y:f.1≠k:=fun e=>m f.2 (by rw[<-e];exact jo j);dsimp only;omega
 ·rcases dz.1 j with rfl|j
  ·exact r a l
  ·exact hp.2.2 a l f j
theorem XL:(pU t k h).length=t.length+1:=by
 have:=XI t k;unfold pU;simp;omega
theorem XM(hr:kT t)(hm:(k,h)∈t):t=t.take (gX t k)++(k,h)::t.drop (gX t k+1):=BM (Fz hr hm)
theorem afO(hr:kT t)(hm:(k,h)∈t):e∈BO t k↔e∈t/\e.1≠k:=by
 have hp:=hr;rw[XM hr hm]at hp;unfold kT at hp;rw[Bt,qy]at hp;unfold BO;constructor
 ·intro j;rcases dP.1 j with j|j
  ·have:=hp.2.2 e j (k,h) dN;exact⟨List.mem_of_mem_take j,by dsimp only at this;omega⟩
  ·have:=hp.2.1.1 e j;exact⟨List.mem_of_mem_drop j,by dsimp only at this;omega⟩
 ·rintro⟨j,l⟩;rw[XM hr hm]at j;rcases dP.1 j with j|j
  ·exact zQ _ j
  ·rcases dz.1 j with rfl|j
   ·exact absurd rfl l
   ·exact Br _ j
theorem afP(hr:kT t):kT (BO t k):=by
 have hs:(t.take (gX t k)++t.drop (gX t k+1)).Sublist t:=by
  conv=>rhs;rw[<-iX (gX t k) t]
  exact Lh (Lg t (fu _)) _
 exact List.Pairwise.sublist hs hr
theorem Im:qB t k=true↔∃h,(k,h)∈t:=by
 unfold qB;rw[Fg];constructor
 ·rintro⟨e,j,h⟩;exact⟨e.2,by rw[<-(by simpa using h:e.1=k)];exact j⟩
 ·rintro⟨h,hm⟩;exact⟨_,hm,au⟩
theorem Qx:qB t k=false↔∀h,(k,h)∉t:=by
 rw[PQ];unfold Ne;rw[Im];exact⟨fun j h hm=>j ⟨h,hm⟩,fun j ⟨h,hm⟩=>j h hm⟩
theorem iF.le(hv:dw A)(j:iF A h xs):1<=h/\h<=A.nx:=by
 obtain⟨b,hb,rfl,_⟩:=j;exact hv.hb b hb
theorem mf.refl(h:dw A):mf A A:=⟨h,fun _ _ h=>h,rfl,rfl,rfl,rfl⟩
theorem mf.trans(h:mf A A')(j:mf A' A2):mf A A2:=⟨j.ok,fun k xs l=>j.has k xs (h.has k xs l),j.nx.trans h.nx,j.cap.trans h.cap,j.lv.trans h.lv,j.pe.trans h.pe⟩
theorem mf.move(hv:dw A)(hi:A.bs[i]?=some b){t:Nat}(j:gD A.bs i<=t)(l:t<=b.fr):mf A (A.move i b t):=⟨hv.move hi j l,fun _ _ m=>m.move hv hi j l,rfl,rfl,rfl,rfl⟩
def bL.gI(A:bL)(p m:Nat):bL:={A with pk:=p,mv:=m}
theorem mf.gI(hv:dw A){p m:Nat}(hp:p<=A.bs.length):mf A (A.gI p m):=⟨⟨hv.lay,hv.cl,hv.cap,hv.hi,hv.lv,hv.hd,hv.hb,hp,hv.BL,hv.yN,hv.Du⟩,fun _ _ h=>h,rfl,rfl,rfl,rfl⟩
theorem BP.of(hm:mf A A'){i fr wd pk:Nat}(hi:i<=A'.bs.length)(j:gD A'.bs i<=fr)(l:∀b,A'.bs[i]?=some b->fr+wd<=b.fr)(m:fr+wd<=A'.cap)(r:1<=wd)(hp:pk<=A'.bs.length+1):BP A wd (A'.give i fr wd pk):=by
 refine⟨hm.ok.give hi j l m r hp,fun h xs u=>(hm.has h xs u).give hm.ok hi j l,?_,?_,hm.cap,?_,?_⟩
 ·rw[<-hm.nx];exact iF.gave
 ·show A'.nx+1=_
  rw[hm.nx]
 ·show A'.lv+wd=_
  rw[hm.lv]
 ·show max A'.pe (A'.lv+wd)=_
  rw[hm.lv,hm.pe]
theorem Mj.of(hv:dw A)(hb:b∈A.bs)(j:xs.length=b.wd):Mj A b.h xs (A.put b xs):=⟨hv.put hb j,fun _ _ l m=>m.afN hv hb j l,iF.put hv hb j,rfl,rfl,rfl,rfl⟩
theorem Mk.of(hv:dw A)(hi:A.bs[i]?=some b):Mk A b.h b.wd (A.free i b):=by
 refine⟨hv.free hi,fun _ _ j l=>l.free hv hi j,rfl,rfl,?_,rfl⟩
 show A.lv-b.wd+b.wd=A.lv
 have:b.wd<=A.lv:=by
  rw[hv.lv,BM hi];simp;omega
 omega
theorem uH{α:Type}{f:Bool->α}{v:α}:kV f s v s=v:=if_pos rfl
theorem vW{α:Type}{f:Bool->α}{v:α}{s':Bool}(h:s'≠s):kV f s v s'=f s':=if_neg h
theorem xq{v:Option (List Int)}:iG T s id v s id=v:=if_pos ⟨rfl,rfl⟩
theorem nW{v:Option (List Int)}{s':Bool}{j:Int}(h:¬(s'=s/\j=id)):iG T s id v s' j=T s' j:=if_neg h
theorem dK.handle(h:dK A tb T)(j:T s id=some xs):∃z,(id,z)∈tb s/\iF A z xs:=by
 obtain⟨z,l⟩:=h.th s id xs j;obtain⟨ys,m,r⟩:=h.hs s _ l;rw[j]at m;obtain rfl:=eP m;exact⟨z,l,r⟩
theorem dK.has(h:dK A tb T):qB (tb s) id=true↔∃xs,T s id=some xs:=by
 rw[Im];constructor
 ·rintro⟨z,j⟩;obtain⟨xs,l,_⟩:=h.hs s _ j;exact⟨xs,l⟩
 ·rintro⟨xs,m⟩;exact h.th s id xs m
theorem dK.no(h:dK A tb T)(l:T s id=none)(z:Int):(id,z)∉tb s:=fun hm=>by
 obtain⟨xs,j,_⟩:=h.hs s _ hm;rw[l]at j;cases j
theorem dK.give(h:dK A tb T)(I:T s id=none)(hg:BP A wd A'):dK A' (kV tb s (pU (tb s) id ((A.nx:Int)+1))) (iG T s id (some (List.replicate wd 0))):=by
 have l:∀s' e,e∈kV tb s (pU (tb s) id ((A.nx:Int)+1)) s'->(s'=s/\e=(id,(A.nx:Int)+1))\/(e∈tb s'/\¬(s'=s/\e.1=id)):=fun s' e j=>by
  by_cases hs:s'=s
  ·subst hs;rw[uH,Qw]at j;rcases j with j|j
   ·exact .inl ⟨rfl,j⟩
   ·exact .inr ⟨j,fun u=>h.no I e.2 (by rw[<-u.2];exact j)⟩
  ·rw[vW hs]at j;exact .inr ⟨j,fun u=>hs u.1⟩
 have y:∀s' e,e∈tb s'->e.2≠(A.nx:Int)+1:=fun s' e j=>by
  obtain⟨xs,_,D⟩:=h.hs s' e j;have:=D.le h.ar;omega
 refine⟨hg.ok,fun s'=>?_,fun s' e j=>?_,fun s' i xs J=>?_,fun E s2 e f j K m=>?_⟩
 ·by_cases hs:s'=s
  ·subst hs;rw[uH];exact XK (h.so _) fun z=>h.no I z
  ·rw[vW hs];exact h.so s'
 ·rcases l s' e j with⟨rfl,rfl⟩|⟨j,F⟩
  ·exact⟨_,xq,hg.new⟩
  ·obtain⟨xs,M,D⟩:=h.hs s' e j;exact⟨xs,by rw[nW F];exact M,hg.has _ _ D⟩
 ·by_cases u:s'=s/\i=id
  ·obtain⟨rfl,rfl⟩:=u;exact⟨(A.nx:Int)+1,by rw[uH,Qw];exact .inl rfl⟩
  ·rw[nW u]at J;obtain⟨z,L⟩:=h.th s' i xs J;refine⟨z,?_⟩;by_cases hs:s'=s
   ·subst hs;rw[uH,Qw];exact .inr L
   ·rw[vW hs];exact L
 ·have G:=l E e j;have B:=l s2 f K;clear j K;rcases G with⟨rfl,rfl⟩|⟨C,_⟩
  ·rcases B with⟨rfl,rfl⟩|⟨r,_⟩
   ·exact⟨rfl,rfl⟩
   ·exact absurd m.symm (y s2 f r)
  ·rcases B with⟨rfl,rfl⟩|⟨r,_⟩
   ·exact absurd m (y E e C)
   ·exact h.inj E s2 e f C r m
theorem dK.put(h:dK A tb T){z:Int}(u:(id,z)∈tb s)(hp:Mj A z xs A'):dK A' tb (iG T s id (some xs)):=by
 refine⟨hp.ok,h.so,fun s' e r=>?_,fun s' i ys B=>?_,h.inj⟩
 ·by_cases l:s'=s/\e.1=id
  ·obtain⟨rfl,rfl⟩:=l;obtain⟨ys,C,D⟩:=h.hs s' e r;have j:e=(e.1,z):=by
    rcases P8 (e.2=z)with m|m
    ·rw[<-m]
    ·exfalso;have y:=Fz (h.so s') u;have E:=Fz (k:=e.1) (h:=e.2) (h.so s') r;rw[y]at E;exact m (eD Prod.snd (eP E)).symm
   have F:e.2=z:=eD Prod.snd j;exact⟨xs,xq,by rw[F];exact hp.new⟩
  ·obtain⟨ys,C,D⟩:=h.hs s' e r;refine⟨ys,by rw[nW l];exact C,hp.has _ _ (fun j=>l ?_) D⟩;obtain⟨m,y⟩:=h.inj s' s e (id,z) r u j;exact⟨m,eD Prod.fst y⟩
 ·by_cases l:s'=s/\i=id
  ·obtain⟨rfl,rfl⟩:=l;exact⟨z,u⟩
  ·rw[nW l]at B;exact h.th s' i ys B
theorem dK.free(h:dK A tb T){z:Int}(F:(id,z)∈tb s)(hp:Mk A z n A'):dK A' (kV tb s (BO (tb s) id)) (iG T s id Option.none):=by
 have j:∀s' e,e∈kV tb s (BO (tb s) id) s'↔e∈tb s'/\¬(s'=s/\e.1=id):=fun s' e=>by
  by_cases hs:s'=s
  ·subst hs;rw[uH,afO (h.so _) F];exact⟨fun⟨l,u⟩=>⟨l,fun m=>u m.2⟩,fun⟨l,u⟩=>⟨l,fun m=>u ⟨rfl,m⟩⟩⟩
  ·rw[vW hs];exact⟨fun l=>⟨l,fun m=>hs m.1⟩,fun l=>l.1⟩
 refine⟨hp.ok,fun s'=>?_,fun s' e r=>?_,fun s' i xs B=>?_,fun G s2 e f r I C=>?_⟩
 ·by_cases hs:s'=s
  ·subst hs;rw[uH];exact afP (h.so _)
  ·rw[vW hs];exact h.so s'
 ·obtain⟨r,y⟩:=(j s' e).1 r;obtain⟨xs,l,u⟩:=h.hs s' e r;refine⟨xs,by rw[nW y];exact l,hp.has _ _ (fun D=>y ?_) u⟩;obtain⟨J,K⟩:=h.inj s' s e (id,z) r F D;exact⟨J,eD Prod.fst K⟩
 ·by_cases m:s'=s/\i=id
  ·obtain⟨rfl,rfl⟩:=m;rw[xq]at B;cases B
  ·rw[nW m]at B;obtain⟨L,E⟩:=h.th s' i xs B;exact⟨L,(j s' _).2 ⟨E,m⟩⟩
 ·exact h.inj G s2 e f ((j G e).1 r).1 ((j s2 f).1 I).1 C
end
end Go.Proofs.YtmkjnlifimffkaaGreat
