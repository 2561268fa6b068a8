/- Lemmas. No condition. -/
import Derived.Test.YtmkjnlifimffkaaGreatS34
import Derived.Test.YtmkjnlifimffkaaGreatS43
namespace Go.Proofs.YtmkjnlifimffkaaGreat
open Go.RowKit
set_option linter.all false
set_option maxRecDepth 100000
set_option maxHeartbeats 16000000
section
variable{N:aI}{O:List Int}{L:List (List Int)}{l:Nat}{cap kd id:Int}{s s':di}
theorem dX.Wl(h:dX N O L l):∀z∈L,aU z=true:=fun z b=>by
 obtain⟨i,hi⟩:=jF b;rcases i with _|i
 ·rw[h.zero]at hi;obtain rfl:=eP hi;exact h.inp
 ·have e:=(aY.1 hi).1;rw[h.len]at e;obtain⟨j,m⟩:=h.node i _ (aW om);rw[m]at hi;obtain rfl:=eP hi;exact FW j
theorem ad5:∀{L:List (List Int)},(∀z∈L,aU z=true)->mi L=0
 |[],_=>rfl
 |z::t,h=>by
  rw[mi,if_pos (by rw[eT,if_pos (h z dN)])];exact ad5 fun y b=>h y (fI _ b)
theorem mul_two{a b:Int}(j:0<=a)(m:a<=65536)(e:0<=b)(r:b<=65536):pJ [a,b]=0/\0<=nS [a,b]/\nS [a,b]<=4294967296:=by
 have hp:aV [a,b]=a*b:=by simp[aV]
 have hm:a*b<=65536*65536:=yI m r e om;have u:0<=a*b:=vP j e;have y:[a,b].all iZ=true:=by simp[iZ];omega
 have hd:decide (a*b<=1099511627776)=true:=by simp;omega
 refine⟨by rw[pJ,if_pos y,hp,hd];simp,?_⟩;rw[nS]
 split
 ·rw[hp];omega
 ·omega
theorem asz{o:gP}{P X:List (List Int)}(h:iw o P X=0):vZ o P (dZ o P X)=0/\0<=uU o P (dZ o P X)/\uU o P (dZ o P X)<=4294967296:=by
 obtain⟨B,hP,G,hK⟩:=Ce h;obtain⟨n,j,I,J⟩:=pQ (FW h);obtain⟨K,i1,i2,i3⟩:=Ar B;have hg:∀k,k<P.length->aU (P.getD k [])=true:=fun k z=>by
  rw[aQ,aW z];exact fK.1 hP _ (uA z)
 by_cases e:o.kd=8
 ·rw[ky,if_pos e]at i3;obtain⟨q,m,C,D⟩:=pQ (hg 0 om);rw[vZ,if_neg om,uU,if_pos e,m];omega
 by_cases b:o.kd=10
 ·rw[ky,if_neg e,if_pos (.inr b)]at i3;have hr:=hg 0 om;obtain⟨q,m,C,D⟩:=pQ hr;obtain⟨r1,M,r,E⟩:=(j5 _).1 hr;have Q:1<=(P.getD 0 []).getD 0 0:=by
   rw[aQ (l:=P.getD 0 []),aW om];have:=fK.1 r _ (uA (show 0<(P.getD 0 []).length by omega));simp only[dm,dU]at this;exact this.1
  have u:yZ o P (dZ o P X)=[aV (dZ o P X),Int.tdiv (aV (P.getD 0 [])) ((P.getD 0 []).getD 0 0)]:=by rw[yZ,if_pos b]
  rw[vZ,if_pos (.inl b),uU,if_neg e,if_pos (.inl b),u,j,m];have t0:0<=Int.tdiv (q:Int) ((P.getD 0 []).getD 0 0):=Int.tdiv_nonneg om om;have T:Int.tdiv (q:Int) ((P.getD 0 []).getD 0 0)<=q:=Int.tdiv_le_self _ om;exact mul_two om om t0 om
 by_cases y:o.kd=11\/o.kd=12
 ·rw[jc,if_neg e,if_neg om,if_neg b,if_pos y]at hK;obtain⟨R,Z,U,W,S,F,hS,pw⟩:=PW.of hK;have u:yZ o P (dZ o P X)=[aV (dZ o P X),o.wd]:=by rw[yZ,if_neg b]
  have:=pw.W2;rw[vZ,if_pos om,uU,if_neg e,if_pos om,u,j,F];exact mul_two om om om om
 ·rw[vZ,if_neg om,uU,if_neg e,if_neg om,j];omega
theorem dX.costs(h:dX N O L l):∀v∈N.nodes,JE L v=0/\0<=Em L v/\Em L v<=4294967296:=fun v hv=>by
 obtain⟨i,hi⟩:=jF hv;exact asz (h.node i v hi).1
theorem ad6:∀{nd:List dJ},(∀v∈nd,JE L v=0)->tX L nd=0
 |[],_=>rfl
 |z::t,h=>by
  rw[tX,if_pos (h z dN)];exact ad6 fun y b=>h y (fI _ b)
theorem Ha{b:Int}:∀{l:List Int},(∀z∈l,0<=z/\z<=b)->0<=l.sum/\l.sum<=l.length*b
 |[],_=>au
 |z::t,h=>by
  have j:=Ha (l:=t) fun y e=>h y (fI _ e);have m:=h z dN;rw[jR,iJ];have:((t.length+1:Nat):Int)*b=t.length*b+b:=by rw[mF,xh];simp
  omega
theorem Pg{l:List Int}(h:∀z∈l,0<=z/\z<=4294967296)(j:l.length<=250):oG l=0/\oD l=l.sum:=by
 obtain⟨m,r⟩:=Ha h;have b:l.all iZ=true:=fK.2 fun z e=>by have:=h z e;simp[iZ];omega
 have hs:l.sum<=1099511627776:=om;exact⟨by rw[oG,if_pos b,if_pos hs],by rw[oD,b,l8 hs];rfl⟩
theorem dX.words(h:dX N O L l):∀z∈L.map bJ,1<=z/\z<=65536:=fun z e=>by
 obtain⟨y,b,rfl⟩:=dG.1 e;obtain⟨n,j,m,r⟩:=pQ (h.Wl y b);rw[bJ,if_pos (h.Wl y b),j];omega
theorem dX.ad7(h:dX N O L l):∀z∈iP N L,0<=z/\z<=4294967296:=fun z b=>by
 rcases dz.1 b with rfl|b
 ·omega
 ·obtain⟨v,hv,rfl⟩:=dG.1 b;exact(h.costs v hv).2
theorem Ph(h:dX N O L l)(hE:bU N=0)(hL:gZ N=(O,L,(l:Int)))(hm:N.nodes.length<=12):
  fQ N=0/\fU N=(L.map bJ,iP N L,(iP N L).sum)/\Oe N=0/\xX N=(L.map bJ).sum+((L.map bJ).sum-(L.map bJ).headD 0):=by
 have r:=ad5 h.Wl;have B:=ad6 fun v hv=>(h.costs v hv).1;obtain⟨C,D⟩:=Pg h.ad7 (by simp[iP];omega);have hO:fQ N=0:=by rw[fQ,if_pos hE,hL,Gv,if_pos r,if_pos B,C]
 have hV:fU N=(L.map bJ,iP N L,(iP N L).sum):=by
  rw[fU,if_pos hO,hL];dsimp only;rw[xS,if_pos r,D]
 have m:=h.words;have j:(L.map bJ).length=N.nodes.length+1:=by rw[dF,h.len]
 obtain⟨G,I⟩:=Ha (b:=65536) fun z e=>⟨by have:=m z e;omega,(m z e).2⟩;obtain⟨u,y⟩:=Pg (l:=L.map bJ) (fun z e=>by have:=m z e;omega) om;have J:0<=(L.map bJ).sum-(L.map bJ).headD 0/\0<=(L.map bJ).headD 0:=by
  match hq:L.map bJ with
  |[]=>rw[hq]at j;simp at j
  |a::t=>
   rw[hq]at m;have K:=(Ha (l:=t) (b:=65536) fun z e=>⟨by have:=m z (fI _ e);omega,(m z (fI _ e)).2⟩).1;have:=m a dN;rw[jR]
   show 0<=a+t.sum-a/\0<=a
   omega
 obtain⟨E,F⟩:=Pg (l:=[(L.map bJ).sum,(L.map bJ).sum-(L.map bJ).headD 0]) (fun z e=>by
  simp only[dz,mG,pI]at e;rcases e with rfl|rfl<;>omega) au
 refine⟨hO,hV,?_,?_⟩
 ·rw[Oe,if_pos hO,hV,TT,if_pos u,y,E]
 ·rw[xX,if_pos hO,hV,TW,if_pos u,y,F];simp
def eZ:List Int->List Bool->Int
 |w::W,b::B=>(if b then w else 0)+eZ W B
 |_,_=>0
theorem KY:∀{W:List Int} {B:List Bool} {k:Nat},B.getD k false=false->k<B.length->B.length<=W.length->eZ W (B.set k true)=eZ W B+W.getD k 0
 |w::W,b::B,0,h,_,_=>by
  obtain rfl:b=false:=h
  show w+eZ W B=0+eZ W B+w
  omega
 |w::W,b::B,k+1,h,e,j=>by
  have:=KY (W:=W) (B:=B) (k:=k) h (Nat.lt_of_succ_lt_succ e) (Nat.le_of_succ_le_succ j)
  show _+eZ W (B.set k true)=_+eZ W B+W.getD k 0
  omega
 |[],b::B,_,_,_,j=>absurd j au
 |_,[],_,_,e,_=>absurd e au
theorem Wm:∀{W:List Int} {B:List Bool} {k:Nat},B.getD k false=true->B.length<=W.length->eZ W (B.set k false)=eZ W B-W.getD k 0
 |w::W,b::B,0,h,_=>by
  obtain rfl:b=true:=h
  show 0+eZ W B=w+eZ W B-w
  omega
 |w::W,b::B,k+1,h,e=>by
  have:=Wm (W:=W) (B:=B) (k:=k) h (Nat.le_of_succ_le_succ e)
  show _+eZ W (B.set k false)=_+eZ W B-W.getD k 0
  omega
 |[],b::B,_,_,e=>absurd e au
 |_,[],_,h,_=>by simp at h
theorem Pj:∀{W:List Int} {B:List Bool},(∀z∈W,0<=z)->0<=eZ W B/\eZ W B<=W.sum
 |w::W,b::B,h=>by
  have j:=Pj (W:=W) (B:=B) fun z e=>h z (fI _ e);have m:=h w dN;rw[jR,eZ]
  split<;>omega
 |[],_,_=>by simp[eZ]
 |w::W,[],h=>by
  have j:=Pj (W:=W) (B:=[]) fun z e=>h z (fI _ e);have m:=h w dN;have u:eZ W []=0:=by cases W<;>rfl
  have r:eZ (w::W) []=0:=rfl;rw[jR,r];omega
theorem ad8:∀{W:List Int} {B:List Bool},B.length=W.length->(∀k,k<W.length->W.getD k 0=0\/B.getD k false=true)->eZ W B=W.sum
 |w::W,b::B,e,h=>by
  have r:=ad8 (W:=W) (B:=B) (by simpa using e) fun k u=>h (k+1) bD;rw[jR,eZ,r];rcases h 0 au with j|j
  ·have m:w=0:=j;rw[m];split<;>rfl
  ·have m:b=true:=j;rw[m];rfl
 |[],[],_,_=>rfl
 |[],b::B,e,_=>absurd e au
 |w::W,[],e,_=>absurd e au
theorem KZ{W:List Int}:∀{n:Nat},eZ W (List.replicate n false)=0:=by
 induction W with
 |nil=>intro n;cases n<;>rfl
 |cons w W b=>
  intro n;cases n with
  |zero=>rfl
  |succ n=>rw[uo,eZ,b];rfl
def CQ(C:List Int)(ps:List (Int×Int)):Int:=(ps.map fun x=>if x.1=1 then C.getD x.2.toNat (-1)else 0).sum
def CU(C:List Int)(ps:List (Int×Int)):Int:=(ps.map fun x=>if x.1=1\/x.1=2 then C.getD x.2.toNat (-1)else 0).sum
theorem Wn{C:List Int}:∀{ps:List (Int×Int)} {q:List Int},qO C ps=some q->q.sum=CU C ps/\q.all iZ=true/\(∀x∈ps,x.1=1\/x.1=2->0<=C.getD x.2.toNat (-1))
 |[],q,h=>by obtain rfl:=eP h;exact⟨rfl,rfl,fun x z=>by cases z⟩
 |x::t,q,h=>by
  rw[qO]at h;unfold CU;rw[fe,jR]
  split at h
  ·rename_i e
   split at h
   ·rename_i m;obtain⟨r,hr,rfl⟩:=bN.1 h;obtain⟨i1,i2,i3⟩:=Wn hr;have u:=m;simp only[iZ,dm,dU]at u;refine⟨by rw[jR,i1,if_pos e];rfl,by rw[WI,m,i2];rfl,fun y b j=>?_⟩;rcases dz.1 b with rfl|b
    ·exact u.1
    ·exact i3 y b j
   ·cases h
  ·rename_i e;obtain⟨i1,i2,i3⟩:=Wn h;refine⟨by rw[i1,if_neg e,Pp];rfl,i2,fun y b j=>?_⟩;rcases dz.1 b with rfl|b
   ·exact absurd j e
   ·exact i3 y b j
theorem ad9{C:List Int}:∀{ps:List (Int×Int)},(∀x∈ps,x.1=1\/x.1=2->0<=C.getD x.2.toNat (-1))->CQ C ps<=CU C ps
 |[],_=>jg _
 |x::t,h=>by
  have j:=ad9 (ps:=t) fun y m=>h y (fI _ m);have r:=h x dN;unfold CQ CU at j⊢;rw[fe,jR,fe,jR];by_cases b:x.1=1
  ·rw[if_pos b,if_pos (.inl b)];omega
  ·rw[if_neg b];by_cases e:x.1=2
   ·rw[if_pos (.inr e)];have:=r (.inr e);omega
   ·rw[if_neg om];omega
theorem aea{C:List Int}{ps:List (Int×Int)}(h:Es C ps=0):Cw C ps=CU C ps/\CQ C ps<=CU C ps:=by
 unfold Es at h;unfold Cw
 split at h
 ·rename_i e;rw[if_pos e];cases hq:qO C ps with
  |none=>rw[hq]at h;exact absurd h ah
  |some q=>
   rw[hq]at h;dsimp only at h⊢
   split at h
   ·rename_i b;obtain⟨i1,i2,i3⟩:=Wn hq;rw[if_pos b];refine⟨?_,ad9 i3⟩;rw[oG,if_pos i2]at b;rw[oD,i2,<-i1]
    split at b
    ·rename_i hs;rw[l8 hs];rfl
    ·exact absurd b ah
   ·exact absurd h ah
 ·rename_i e;exact absurd h e
structure Lo(N:aI)(O:List Int)(l:Nat)(s:di):Prop where
 lp:s.present.length=N.nodes.length+1
 ls:s.saved.length=N.nodes.length+1
 lg:s.aT.length=N.nodes.length+1
 ps:∀k:Nat,1<=k->s.present.getD k false=true->s.saved.getD k false=true
 gs:∀k:Nat,1<=k->s.aT.getD k false=true->k=l\/s.saved.getD k false=true
 d0:0<=s.done
 dn:∀y∈O.reverse.take s.done.toNat,y.toNat=l\/s.saved.getD y.toNat false=true
 em:s.gG=true->s.saved.getD l false=true
theorem Wo:Lo N O l (fG N.nodes.length):=by
 have hr:∀k:Nat,(List.replicate (N.nodes.length+1) false).getD k false=false:=fun k=>by
  rw[aQ,sj]
  split<;>rfl
 refine⟨by simp[fG],by simp[fG],by simp[fG],fun k b h=>?_,fun k b h=>?_,by simp[fG],fun y e=>by simp[fG]at e,fun h=>by simp[fG]at h⟩
 ·exfalso;simp only[fG]at h;rw[je au,if_neg om,hr]at h;cases h
 ·exfalso;simp only[fG]at h;rw[hr]at h;cases h
theorem aeb(hN:dX N O L l)(hw:(aC N cap).words.length=N.nodes.length+1)(X:(aC N cap).cost.length=N.nodes.length+1)(h:Lo N O l s)(hE:iV (aC N cap) s kd id=0):
  Lo N O l (bB (aC N cap) s kd id)/\eZ (aC N cap).cost (bB (aC N cap) s kd id).saved=eZ (aC N cap).cost s.saved+(if kd=1 then(aC N cap).cost.getD id.toNat (-1)else 0):=by
 obtain⟨m,h2,E,-⟩:=CE hE;rw[hw]at h2;have Y:(aC N cap).jl=l:=by show(iH N).toNat=l;rw[hN.iH];rfl
 have hO:(aC N cap).order=O:=hN.ord;have r:id.toNat<N.nodes.length+1:=by
  unfold gK at m
  split at m
  ·have:id=0:=by simpa using m
   omega
  ·split at m
   ·simp only[dm,dU]at m;omega
   ·cases m
 have K:id.toNat<s.present.length:=by rw[h.lp];exact r
 have C:id.toNat<s.saved.length:=by rw[h.ls];exact r
 have P:id.toNat<s.aT.length:=by rw[h.lg];exact r
 have mono:∀k,s.saved.getD k false=true->(s.saved.set id.toNat true).getD k false=true:=fun k B=>by
  rw[je C];split
  ·rfl
  ·exact B
 by_cases b:kd=1\/kd=2
 ·have F:bB (aC N cap) s kd id=⟨s.present.set id.toNat true,s.saved.set id.toNat true,s.aT,s.gG,s.gu,s.done,s.now+bK (aC N cap) s kd id.toNat,max s.fE (s.now+bK (aC N cap) s kd id.toNat)⟩:=by
   unfold bB;dsimp only;rw[if_pos b]
  rw[F];refine⟨⟨by simpa using h.lp,by simpa using h.ls,h.lg,fun k B hp=>?_,fun k B hg=>(h.gs k B hg).imp (fun e=>e) (mono k),h.d0,fun y u=>(h.dn y u).imp (fun e=>e) (mono _),fun Q=>mono l (h.em Q)⟩,?_⟩
  ·dsimp only at hp⊢;rw[je K]at hp;rw[je C]
   split
   ·rfl
   ·rename_i R;rw[if_neg R]at hp;exact h.ps k B hp
  ·dsimp only;rcases b with rfl|rfl
   ·rw[if_pos rfl];rw[fV,if_pos rfl,dm]at E;rw[KY (by simpa using E.1) C (by rw[h.ls,X];exact az _)];have e:(aC N cap).cost.getD id.toNat 0=(aC N cap).cost.getD id.toNat (-1):=by
     rw[aQ,aQ,aW (by rw[X];exact r)];rfl
    rw[e]
   ·rw[fV,if_neg ah,if_pos rfl,dm,dm]at E;have e:s.saved.set id.toNat true=s.saved:=by
     apply pE;intro j;rw[nQ]
     split
     ·rename_i e;subst e;have:=E.1.1;rw[aQ,aW C]at this;rw[aW C];exact eD some this.symm
     ·rfl
    rw[e,if_neg ah,LX]
 ·have S:(bB (aC N cap) s kd id).saved=s.saved:=by
   unfold bB;dsimp only;rw[if_neg b];split
   ·rfl
   ·split
    ·rfl
    ·split<;>rfl
  refine⟨?_,by rw[S,if_neg (fun e=>b (.inl e)),LX]⟩;by_cases J:kd=3
  ·have F:bB (aC N cap) s kd id=⟨s.present.set id.toNat false,s.saved,s.aT,s.gG,s.gu,s.done,s.now+bK (aC N cap) s kd id.toNat-(aC N cap).words.getD id.toNat 0,max s.fE (s.now+bK (aC N cap) s kd id.toNat)⟩:=by
    unfold bB;dsimp only;rw[if_neg b,if_pos J]
   rw[F];refine⟨by simpa using h.lp,h.ls,h.lg,fun k B hp=>?_,h.gs,h.d0,h.dn,h.em⟩;dsimp only at hp⊢;rw[je K]at hp
   split at hp
   ·cases hp
   ·exact h.ps k B hp
  by_cases M:kd=4
  ·have F:bB (aC N cap) s kd id=⟨s.present,s.saved,s.aT,true,s.gu,s.done,s.now+bK (aC N cap) s kd id.toNat,max s.fE (s.now+bK (aC N cap) s kd id.toNat)⟩:=by
    unfold bB;dsimp only;rw[if_neg b,if_neg J,if_pos M]
   rw[F];refine⟨h.lp,h.ls,h.lg,h.ps,h.gs,h.d0,h.dn,fun _=>h.ps l hN.xV ?_⟩;rw[fV,if_neg om,if_neg om,if_neg J,if_pos M,dm,Y]at E;exact E.1
  by_cases T:kd=5
  ·have F:bB (aC N cap) s kd id=⟨s.present,s.saved,s.aT.set l true,s.gG,true,s.done,s.now+bK (aC N cap) s kd id.toNat,max s.fE (s.now+bK (aC N cap) s kd id.toNat)⟩:=by
    unfold bB;dsimp only;rw[if_neg b,if_neg J,if_neg M,if_pos T,Y]
   rw[F];refine⟨h.lp,h.ls,by simpa using h.lg,h.ps,fun k B hg=>?_,h.d0,h.dn,h.em⟩;dsimp only at hg⊢;rw[je (by rw[h.lg];have:=hN.vk;omega)]at hg
   split at hg
   ·rename_i e;exact .inl e.symm
   ·exact h.gs k B hg
  ·have k6:kd=6:=by
    unfold gK at m
    split at m
    ·omega
    ·split at m
     ·omega
     ·cases m
   have F:bB (aC N cap) s kd id=⟨s.present,s.saved,(iW s.aT (jA (aC N cap) s id.toNat)).set id.toNat false,s.gG,s.gu,s.done+1,s.now+bK (aC N cap) s kd id.toNat-(aC N cap).words.getD id.toNat 0,max s.fE (s.now+bK (aC N cap) s kd id.toNat)⟩:=by
    unfold bB;dsimp only;rw[if_neg b,if_neg J,if_neg M,if_neg T]
   have D:1<=id:=by
    unfold gK at m;rw[if_neg om,if_pos om]at m;simp only[dm,dU]at m;exact m.1
   rw[fV,if_neg om,if_neg om,if_neg J,if_neg M,if_neg T]at E;simp only[dm,dU,beq_iff_eq]at E;obtain⟨⟨⟨g1,g2⟩,g3⟩,U⟩:=E;rw[hO]at g3 U;have I:∀z∈jA (aC N cap) s id.toNat,s.present.getD z.toNat false=true/\z≠0/\0<=z/\z<=N.nodes.length:=fun z G=>by
    unfold jA at G;rw[CF]at G;rcases G with G|⟨G,V,-⟩
    ·cases G
    ·rw[AY D]at G;obtain⟨v,hv,_,_,hi,hm⟩:=hN.at (dR.2 ⟨D,om⟩);have hb:=hN.iR v hm z (by rw[<-hi];exact G);exact⟨ach D g2 z G,V,hb⟩
   rw[F];refine⟨h.lp,h.ls,by rw[jQ,AR];exact h.lg,h.ps,fun k B hg=>?_,by show 0<=s.done+1;have:=h.d0;omega,fun y u=>?_,h.em⟩
   ·dsimp only at hg⊢;rw[je (by rw[AR];exact P)]at hg
    split at hg
    ·cases hg
    ·rw[GD _ _ _ fun y u=>by rw[h.lg];have:=(I y u).2;omega,Fj,Fg]at hg;rcases hg with hg|⟨y,u,Q⟩
     ·exact h.gs k B hg
     ·obtain rfl:=Bu Q;exact .inr (h.ps _ B (I y u).1)
   ·have hd0:=h.d0;dsimp only at u⊢;rw[show(s.done+1).toNat=s.done.toNat+1 from om,vO]at u;rcases dP.1 u with u|u
    ·exact h.dn y u
    ·have e:O.reverse[s.done.toNat]?=some id:=by
      rw[Hm om];have Z:O.length-1-s.done.toNat<O.length:=om;rw[aW Z];rw[show((O.length:Int)-1-s.done).toNat=O.length-1-s.done.toNat from om,aQ,aW Z]at U;exact eD some (U.trans om)
     rw[e]at u;have:y=id:=by simpa using u
     subst this;exact h.gs y.toNat om g1
theorem Wp(hN:dX N O L l)(b:(aC N cap).words.length=N.nodes.length+1)(e:(aC N cap).cost.length=N.nodes.length+1):∀(ps:List (Int×Int)) (s:di),Lo N O l s->ib (aC N cap) s ps=(0,s')->
  Lo N O l s'/\eZ (aC N cap).cost s'.saved=eZ (aC N cap).cost s.saved+CQ (aC N cap).cost ps/\(s.fE<=cap->s'.fE<=cap)
 |[],s,h,hg=>by
  obtain rfl:s=s':=eD Prod.snd hg;exact⟨h,by simp[CQ],fun h=>h⟩
 |x::t,s,h,hg=>by
  rw[ib]at hg;by_cases hE:iV (aC N cap) s x.1 x.2=0
  ·rw[if_pos hE]at hg;obtain⟨j,m⟩:=aeb hN b e h hE;obtain⟨r,u,y⟩:=Wp hN b e t _ j hg;refine⟨r,?_,fun hp=>y ?_⟩
   ·rw[u,m];unfold CQ;rw[fe,jR];omega
   ·obtain⟨-,-,-,z⟩:=CE hE;have C:s.now+bK (aC N cap) s x.1 x.2.toNat<=cap:=z;have B:(bB (aC N cap) s x.1 x.2).fE=max s.fE (s.now+bK (aC N cap) s x.1 x.2.toNat):=by
     unfold bB;dsimp only;split
     ·rfl
     ·split
      ·rfl
      ·split
       ·rfl
       ·split<;>rfl
    rw[B];omega
  ·rw[if_neg hE]at hg;exact absurd (eD Prod.fst hg) hE
theorem aec(hN:dX N O L l)(e:(aC N cap).cost=iP N L)(h:Lo N O l s)(b:wL (aC N cap) s=true):eZ (aC N cap).cost s.saved=(iP N L).sum:=by
 rw[e];have hO:(aC N cap).order=O:=hN.ord;unfold wL at b;rw[dm,dU,hO]at b;have j:(iP N L).length=N.nodes.length+1:=by simp[iP]
 refine ad8 (by rw[h.ls,j]) fun k r=>?_;rcases k with _|k
 ·exact .inl rfl
 ·right;by_cases m:k+1=l
  ·rw[m];exact h.em b.1
  ·have hm:(((k+1:Nat):Int))∈O:=hN.mem.2 (dR.2 ⟨om,om⟩);have:=h.dn ((k+1:Nat):Int) (by rw[b.2,dD,dB au];exact List.mem_reverse.2 hm);rw[dD]at this;exact this.resolve_left m
theorem aed(hN:dX N O L l)(hE:bU N=0)(hL:gZ N=(O,L,(l:Int)))(hm:N.nodes.length<=12)(y:0<=cap){ps:List (Int×Int)}(h:nk N cap ps=0):(iP N L).sum<=(rR N cap ps).2.1/\(rR N cap ps).1<=cap:=by
 obtain⟨hO,hV,-,-⟩:=Ph hN hE hL hm;have b:(aC N cap).cost=iP N L:=by show(fU N).2.1=_;rw[hV]
 have j:(aC N cap).words.length=N.nodes.length+1:=by show(fU N).1.length=_;rw[hV];simp[hN.len]
 have m:(aC N cap).cost.length=N.nodes.length+1:=by rw[b];simp[iP]
 rw[rR,if_pos h];unfold nk at h;rw[if_pos hO]at h;unfold JR at h
 split at h
 ·split at h
  ·rename_i hg
   split at h
   ·rename_i r;obtain⟨e,u,hs⟩:∃e u,ib (aC N cap) (fG N.nodes.length) ps=(e,u):=⟨_,_,rfl⟩;rw[hs]at hg r⊢;obtain rfl:e=0:=hg;obtain⟨z,B,C⟩:=Wp hN j m ps _ Wo hs;have D:=aec hN b z r;rw[D,show(fG N.nodes.length).saved=List.replicate (N.nodes.length+1) false from rfl,KZ]at B;obtain⟨F,G⟩:=aea h;refine⟨?_,C y⟩
    show _<=Cw _ _
    omega
   ·exact absurd h ah
  ·rename_i hg;exact absurd h hg
 ·rename_i E;exact absurd h E
end
end Go.Proofs.YtmkjnlifimffkaaGreat
