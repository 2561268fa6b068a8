/- Lemmas. No condition. -/
import Derived.Test.YtmkjnlifimffkaaGreatS25
namespace Go.Proofs.YtmkjnlifimffkaaGreat
open Go.RowKit
set_option linter.all false
set_option maxRecDepth 100000
set_option maxHeartbeats 16000000
section
set_option linter.unusedVariables false
def mq(g more:TV):TV:=if g.2=[]then more else(g.1,g.2.zipWith dQ more.2)
def qN(gr:List TV):List Int->List TV->List TV
 |z::zs,t::ts=>qN (gr.set z.toNat (mq (gr.getD z.toNat T0) t)) zs ts
 |_,_=>gr
noncomputable def qj(N:aI)(P vals gr:List TV)(id:Int)(v:dJ):List TV:=zk v.o (oH N P (id-1).toNat v) (jy vals v.ins) (gr.getD id.toNat T0).1 (gr.getD id.toNat T0).2
noncomputable def Cs(N:aI)(P vals gr:List TV)(id:Int)(v:dJ):List TV:=zi v.o (oH N P (id-1).toNat v) (jy vals v.ins) (gr.getD id.toNat T0).1 (gr.getD id.toNat T0).2
def AJ(G gp:List TV)(a:Nat):List TV:=G.take a++gp++G.drop (a+gp.length)
noncomputable def JB(N:aI)(P vals:List TV)(s:List TV×List TV)(id:Int):List TV×List TV:=
 match N.nodes[(id-1).toNat]? with
 |none=>s
 |some v=>(qN s.1 v.ins (qj N P vals s.1 id v),AJ s.2 (Cs N P vals s.1 id v) (gJ N (id-1).toNat))
noncomputable def JC(N:aI)(P vals:List TV)(s:List TV×List TV)(R:List Int):List TV×List TV:=R.foldl (JB N P vals) s
def wJ(S:List Int):TV:=(S,List.replicate (aV S).toNat 4294967296)
def wK(N:aI)(L:List (List Int))(l:Nat)(P:List TV):List TV×List TV:=((List.replicate (N.nodes.length+1) T0).set l (wJ (L.getD l [])),List.replicate P.length T0)
def Gu(L:List (List Int))(gr:List TV)(z:Int):Prop:=gr.getD z.toNat T0=T0\/((gr.getD z.toNat T0).1=L.getD z.toNat []/\TV.ok (gr.getD z.toNat T0))
structure xW(N:aI)(L:List (List Int))(l:Nat)(P:List TV)(R:List Int)(s:List TV×List TV):Prop where
 len:s.1.length=N.nodes.length+1
 amF:s.2.length=P.length
 sh:∀z:Int,0<=z->z<=N.nodes.length->Gu L s.1 z
 ne:∀z:Int,0<=z->z<=N.nodes.length->((s.1.getD z.toNat T0).2≠[]↔z=l\/∃u∈R,z∈bG N u)
 JD:∀t∈s.2,t=T0\/TV.ok t
section
variable{N:aI}{O D R:List Int}{L:List (List Int)}{l:Nat}{P vals gr:List TV}{x:TV}{s:List TV×List TV}
theorem TV.ok.ne{t:TV}(h:TV.ok t):t.2≠[]:=fun e=>by
 obtain⟨n,b,j,_⟩:=pQ h.right;have:=h.len;rw[e,b]at this;simp at this;omega
theorem TV.ok.add{g t:TV}(hg:TV.ok g)(ht:TV.ok t)(h:t.1=g.1):TV.ok (g.1,g.2.zipWith dQ t.2):=by
 have e:=hg.len;have b:=ht.len;rw[h]at b;exact Gf hg.right (by rw[PG];omega) alx
theorem aba{g t:TV}{S:List Int}(hg:g=T0\/g.1=S/\TV.ok g)(ht:t.1=S)(h:TV.ok t):(mq g t).1=S/\TV.ok (mq g t):=by
 unfold mq;rcases hg with rfl|⟨b,e⟩
 ·rw[if_pos rfl];exact⟨ht,h⟩
 ·rw[if_neg e.ne];exact⟨b,e.add h (by rw[ht,b])⟩
theorem TI{m:Nat}:∀(zs:List Int) (ts:List TV) (gr:List TV),gr.length=m+1->(∀z∈zs,0<=z/\z<=m)->ts.map (·.1)=zs.map (fun z=>L.getD z.toNat [])->(∀t∈ts,TV.ok t)->(∀z:Int,0<=z->z<=m->Gu L gr z)->
  (qN gr zs ts).length=m+1/\(∀z:Int,0<=z->z<=m->Gu L (qN gr zs ts) z)/\(∀z:Int,0<=z->z<=m->(((qN gr zs ts).getD z.toNat T0).2≠[]↔(gr.getD z.toNat T0).2≠[]\/z∈zs))/\∀z:Int,0<=z->z∉zs->(qN gr zs ts).getD z.toNat T0=gr.getD z.toNat T0
 |[],ts,gr,r,_,_,_,hg=>by
  have e:qN gr [] ts=gr:=by cases ts<;>rfl
  rw[e];exact⟨r,hg,fun z _ _=>au,fun z _ _=>rfl⟩
 |y::zs,[],gr,_,_,hs,_,_=>by simp at hs
 |y::zs,t::ts,gr,r,E,hs,ht,hg=>by
  rw[qN];simp only[fe,List.cons.injEq]at hs;have F:=E y dN;have B:y.toNat<gr.length:=by rw[r];omega
  obtain⟨J,G⟩:=aba (hg y F.1 F.2) hs.1 (ht t dN);have j:∀z:Int,0<=z->(gr.set y.toNat (mq (gr.getD y.toNat T0) t)).getD z.toNat T0=if y=z then mq (gr.getD y.toNat T0) t else gr.getD z.toNat T0:=fun z b=>by
   rw[vo B];by_cases e:y=z
   ·rw[if_pos e,if_pos (by rw[e])]
   ·rw[if_neg e,if_neg om]
  obtain⟨r1,r2,K,M⟩:=TI zs ts (gr.set y.toNat (mq (gr.getD y.toNat T0) t)) (by rw[jQ];exact r) (fun z h=>E z (fI _ h)) hs.2 (fun u h=>ht u (fI _ h)) fun z b C=>by
   unfold Gu;rw[j z b]
   split
   ·rename_i e;subst e;exact .inr ⟨J,G⟩
   ·exact hg z b C
  refine⟨r1,r2,fun z b C=>?_,fun z b I=>?_⟩
  ·rw[K z b C,j z b,dz];by_cases e:y=z
   ·subst e;rw[if_pos rfl];exact⟨fun _=>.inr (.inl rfl),fun _=>.inl G.ne⟩
   ·rw[if_neg e];constructor
    ·rintro(h|h)
     ·exact .inl h
     ·exact .inr (.inr h)
    ·rintro(h|h|h)
     ·exact .inl h
     ·exact absurd h.symm e
     ·exact .inr h
  ·rw[M z b fun h=>I (fI _ h),j z b,if_neg fun e=>I (by rw[<-e];exact dN)]
theorem TJ{S:List Int}(h:aU S=true):TV.ok (wJ S):=by
 obtain⟨n,b,j,m⟩:=pQ h;refine Gf h (by rw[lF,b];simp) fun z e=>?_;rw[su e];exact⟨ah,ah⟩
theorem dX.right(hN:dX N O L l)(hF:rJ N P x){z:Int}(b:0<=z)(j:z<=N.nodes.length):aU (L.getD z.toNat [])=true:=by
 by_cases e:z=0
 ·subst e
  show aU (L.getD 0 [])=true
  rw[hN.shx];exact hN.inp
 ·have hid:z∈N.ids:=dR.2 om;have:=(Cr hN hF).sh z (hN.mem.2 hid);rw[<-this.1];exact this.2.right
theorem amG(hN:dX N O L l)(hF:rJ N P x):xW N L l P [] (wK N L l P):=by
 have r:=hN.vk;have m:l<(List.replicate (N.nodes.length+1) T0).length:=by rw[lF];omega
 have hr:=hN.right hF (z:=(l:Int)) om om;rw[dD]at hr;have b:=TJ hr;have j:∀z:Int,(List.replicate (N.nodes.length+1) T0).getD z.toNat T0=T0:=fun z=>by
  rw[aQ,sj];split<;>rfl
 refine⟨by simp[wK],by simp[wK],fun z y B=>?_,fun z y B=>?_,fun t ht=>.inl (su ht)⟩
 ·unfold Gu;rw[wK,vo m]
  split
  ·rename_i e;rw[<-e];exact .inr ⟨rfl,b⟩
  ·exact .inl (j z)
 ·rw[wK,vo m]
  split
  ·rename_i e;exact⟨fun _=>.inl om,fun _=>b.ne⟩
  ·rename_i e;rw[j z];constructor
   ·intro h;exact absurd rfl h
   ·rintro(h|⟨u,hu,_⟩)
    ·omega
    ·cases hu
theorem Ej{d:Nat}{id:Int}(h:O.reverse[d]?=some id):d<O.length/\O[O.length-1-d]?=some id:=by
 have hd:=(aY.1 h).1;rw[List.length_reverse]at hd;rw[Hm hd]at h;exact⟨hd,h⟩
theorem El{j:Nat}{y:Int}(h:y∈D.take j):∃i,i<j/\D[i]?=some y:=by
 obtain⟨i,hi⟩:=jF h;rw[l7]at hi
 split at hi
 ·exact⟨i,by assumption,hi⟩
 ·cases hi
theorem N7{j i:Nat}{y:Int}(hi:i<j)(h:D[i]?=some y):y∈D.take j:=by
 refine aK (i:=i) ?_;rw[l7,if_pos hi];exact h
theorem TK{i j:Nat}{y:Int}(u:D.Nodup)(hi:D[i]?=some y)(z:D[j]?=some y):i=j:=by
 obtain⟨b,e⟩:=aY.1 hi;obtain⟨m,r⟩:=aY.1 z;have hp:=yz.1 u;rcases Py i j with h|h|h
 ·exact absurd (e.trans r.symm) (hp i j b m h)
 ·exact h
 ·exact absurd (r.trans e.symm) (hp j i m b h)
theorem dX.abb(hN:dX N O L l){d:Nat}{id u:Int}(h:O.reverse[d]?=some id)(hu:u∈N.ids)(hi:id∈bG N u):u∈O.reverse.take d:=by
 obtain⟨hd,h⟩:=Ej h;have hid:=hN.lV.ids id (aK h);have z:=dR.1 hid;obtain⟨j,b⟩:=jF (hN.mem.2 hu);have r:=(aY.1 b).1;rcases hN.JA b id hi with m|m
 ·omega
 ·obtain⟨i,y,e⟩:=El m;have:=TK hN.lV.nd e h;refine N7 (i:=O.length-1-j) om ?_;rw[Hm om,show O.length-1-(O.length-1-j)=j from om];exact b
theorem abd(h:bU N=0){id:Int}(hid:id∈N.ids)(b:id≠iH N):∃u∈N.ids,id∈bG N u:=by
 have j:zl N=true:=by
  unfold bU at h
  split at h
  ·split at h
   ·split at h
    ·unfold Ei at h
     split at h
     ·split at h
      ·split at h
       ·assumption
       ·omega
      ·rename_i e;exact absurd h e
     ·omega
    ·rename_i e;exact absurd h e
   ·omega
  ·omega
 simp only[zl,dm,dU]at j;have hr:=dR.1 hid;rcases hq:oq N N.nodes.length 0 id.toNat with _|_
 ·exfalso;have hm:id.toNat∈uX N:=by
   unfold uX;rw[Da,yF];exact⟨om,by rw[hq];rfl⟩
  match hu:uX N,j.1 with
  |[a],_=>
   rw[hu]at hm;have:=gm.1 hm;apply b;rw[iH,hu]
   show id=((a:Nat):Int)
   omega
 ·unfold oq at hq;rw[jr,dB (az _)]at hq;simp only[List.contains_nil,Ia,Fg]at hq;obtain⟨v,hv,m⟩:=hq;obtain⟨i,hi⟩:=jF hv;have r:=(aY.1 hi).1;refine⟨(i:Int)+1,dR.2 om,?_⟩;rw[bG,show((i:Int)+1-1).toNat=i from om,hi];have:(id.toNat:Int)=id:=om;rw[this]at m;simpa using m
theorem xW.there(hN:dX N O L l)(hE:bU N=0){d:Nat}{id:Int}(h:xW N L l P (O.reverse.take d) s)(hd:O.reverse[d]?=some id):(s.1.getD id.toNat T0).1=L.getD id.toNat []/\TV.ok (s.1.getD id.toNat T0):=by
 have hid:=hN.lV.ids id (aK (Ej hd).2);have hr:=dR.1 hid;have b:(s.1.getD id.toNat T0).2≠[]:=by
  rw[h.ne id om hr.2];by_cases e:id=l
  ·exact .inl e
  ·obtain⟨u,hu,hi⟩:=abd hE hid (by rw[hN.iH];exact e);exact .inr ⟨u,hN.abb hd hu hi,hi⟩
 rcases h.sh id om hr.2 with j|j
 ·rw[j]at b;exact absurd rfl b
 ·exact j
theorem xW.parts(hN:dX N O L l)(hF:rJ N P x)(hv:rM N L P x O vals){id:Int}(hid:id∈N.ids)(hg:(gr.getD id.toNat T0).1=L.getD id.toNat []/\TV.ok (gr.getD id.toNat T0)):
  ∃v,N.nodes[(id-1).toNat]?=some v/\v∈N.nodes/\bG N id=v.ins/\(jy vals v.ins).map (·.1)=iO v L/\(∀t∈jy vals v.ins,TV.ok t)/\(oH N P (id-1).toNat v).map (·.1)=v.P/\(∀t∈oH N P (id-1).toNat v,TV.ok t)/\iw v.o v.P (iO v L)=0/\dZ v.o v.P (iO v L)=(gr.getD id.toNat T0).1/\
   (qj N P vals gr id v).map (·.1)=iO v L/\(∀t∈qj N P vals gr id v,TV.ok t)/\(Cs N P vals gr id v).map (·.1)=v.P/\∀t∈Cs N P vals gr id v,TV.ok t:=by
 obtain⟨v,C,hm,hi,u,B,y,E,hE,hS,-⟩:=hv.node hN hF hid fun z F=>by
  obtain⟨v,hv,_,_,hi,hm⟩:=hN.at hid;rw[hi]at F;have:=hN.iR v hm z F;by_cases e:z=0
  ·exact .inl e
  ·exact .inr (hN.mem.2 (dR.2 om))
 obtain⟨v',b,_,j,_,_⟩:=hN.at hid;obtain rfl:v=v':=by rw[C]at b;exact eP b
 have m:iw v.o ((oH N P (id-1).toNat v).map (·.1)) ((jy vals v.ins).map (·.1))=0:=by rw[y,u];exact hE
 have r:dZ v.o ((oH N P (id-1).toNat v).map (·.1)) ((jy vals v.ins).map (·.1))=(gr.getD id.toNat T0).1:=by rw[y,u,<-j,hg.1]
 obtain⟨x1,x2⟩:=aaq m (hF.kk v hm) B (hF.k6 v hm) r (g:=(gr.getD id.toNat T0).2) hg.2;obtain⟨p1,G⟩:=aap m (hF.kk v hm) E B r (g:=(gr.getD id.toNat T0).2) hg.2;rw[u]at x1;rw[y]at p1;exact⟨v,C,hm,hi,u,B,y,E,hE,by rw[<-j,hg.1],x1,x2,p1,G⟩
theorem amH(hF:rJ N P x){k:Nat}{v:dJ}(hv:N.nodes[k]?=some v):gJ N k+v.P.length<=P.length:=by
 have b:P.length=(iU N).length:=by rw[<-hF.ps,dF]
 obtain⟨j,m⟩:=aY.1 hv;have e:N.nodes=N.nodes.take k++(v::N.nodes.drop (k+1)):=by rw[<-m,<-jE j,iX]
 have r:iU N=(N.nodes.take k).flatMap (·.P)++(v.P++(N.nodes.drop (k+1)).flatMap (·.P)):=by
  conv=>lhs;rw[iU,e]
  rw[Bq,sG]
 rw[b,r,cu,cu,gJ];omega
theorem xW.step(hN:dX N O L l)(hE:bU N=0)(hF:rJ N P x)(hv:rM N L P x O vals){d:Nat}{id:Int}(h:xW N L l P (O.reverse.take d) s)(hd:O.reverse[d]?=some id):xW N L l P (O.reverse.take (d+1)) (JB N P vals s id):=by
 have hid:=hN.lV.ids id (aK (Ej hd).2);obtain⟨v,r,hm,hi,I,J,K,M,B,C,x1,x2,p1,E⟩:=xW.parts hN hF hv hid (h.there hN hE hd);have j:∀z∈v.ins,0<=z/\z<=N.nodes.length:=hN.iR v hm;obtain⟨r1,r2,F,Q⟩:=TI (L:=L) v.ins (qj N P vals s.1 id v) s.1 h.len j x1 x2 h.sh;have e:O.reverse.take (d+1)=O.reverse.take d++[id]:=by rw[vO,hd];rfl
 have m:(Cs N P vals s.1 id v).length=v.P.length:=by rw[<-dF (f:=(·.1)),p1]
 have G:=amH hF r;unfold JB;rw[r];dsimp only;refine⟨r1,?_,r2,fun z y b=>?_,fun t ht=>?_⟩
 ·rw[AJ,cu,cu,dO,jY,h.amF,m];omega
 ·rw[F z y b,h.ne z y b,e];constructor
  ·rintro((h|⟨u,hu,b⟩)|h)
   ·exact .inl h
   ·exact .inr ⟨u,zQ _ hu,b⟩
   ·exact .inr ⟨id,au,by rw[hi];exact h⟩
  ·rintro(h|⟨u,hu,b⟩)
   ·exact .inl (.inl h)
   ·rcases dP.1 hu with hu|hu
    ·exact .inl (.inr ⟨u,hu,b⟩)
    ·rw[gm.1 hu,hi]at b;exact .inr b
 ·rw[AJ]at ht;rcases dP.1 ht with ht|ht
  ·rcases dP.1 ht with ht|ht
   ·exact h.JD t (gU ht)
   ·exact .inr (E t ht)
  ·exact h.JD t (jo ht)
theorem abe(hN:dX N O L l)(hE:bU N=0)(hF:rJ N P x)(hv:rM N L P x O vals):∀d,d<=O.length->xW N L l P (O.reverse.take d) (JC N P vals (wK N L l P) (O.reverse.take d))
 |0,_=>by rw[jr];exact amG hN hF
 |d+1,hd=>by
  have j:=abe hN hE hF hv d om;have b:d<O.reverse.length:=by rw[List.length_reverse];omega
  have hO:=aW b;have:=j.step hN hE hF hv hO;have e:O.reverse.take (d+1)=O.reverse.take d++[O.reverse[d]]:=by rw[vO,hO];rfl
  rw[e]at this⊢;unfold JC at this⊢;rw[C9];exact this
noncomputable def AP(N:aI)(P:List TV)(x:TV):List TV×List TV:=JC N P (ed N P x) (wK N (gZ N).2.1 (gZ N).2.2.toNat P) (iB N).reverse
noncomputable def Ct(N:aI)(P:List TV)(x:TV):Int:=((ed N P x).getD (iH N).toNat T0).2.getD 0 0
end
end
end Go.Proofs.YtmkjnlifimffkaaGreat
