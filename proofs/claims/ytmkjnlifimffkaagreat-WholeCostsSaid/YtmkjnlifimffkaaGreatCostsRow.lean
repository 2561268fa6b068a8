/- WholeCosts: for every input the statement returns true, and each argument reads afterwards as it read before. No condition. -/
import Derived.Test.YtmkjnlifimffkaaGreatS49
import Derived.Test.YtmkjnlifimffkaaGreatS40
import Derived.Test.YtmkjnlifimffkaaGreatS47
import Derived.Test.YtmkjnlifimffkaaGreatS48
import Derived.Test.YtmkjnlifimffkaaGreatRows
namespace Go.Proofs.YtmkjnlifimffkaaGreat
open Go.RowKit
set_option linter.all false
set_option maxRecDepth 100000
set_option maxHeartbeats 16000000
structure K4(N:aI)(O:List Int)(L:List (List Int))(l:Nat)(cap:Int):Prop where
 hN:dX N O L l
 hE:bU N=0
 m:N.nodes.length<=12
 wl:(aC N cap).words.length=N.nodes.length+1
 w0:∀z∈(aC N cap).words,0<=z
 cl:(aC N cap).cost.length=N.nodes.length+1
 cap:(aC N cap).words.sum+((aC N cap).words.sum-(aC N cap).words.headD 0)<=cap
structure yw(N:aI)(O:List Int)(l:Nat)(cap:Int)(t:iI)(s:di):Prop where
 go:ib (aC N cap) (fG N.nodes.length) t.2=(0,s)
 pr:s.present=t.1
 lo:Lo N O l s
 nw:s.now=eZ (aC N cap).words s.present-(aC N cap).words.headD 0+eZ (aC N cap).words s.aT
 sd:s.gu=false->∀k,s.aT.getD k false=false
 ok:∀x∈t.2,gK x.1 x.2=true/\x.1≠2/\0<=x.2/\x.2<=N.nodes.length
section
variable{N:aI}{O D:List Int}{L:List (List Int)}{l n:Nat}{cap kd id:Int}{s s':di}{t:iI}{f:Nat->Bool}
theorem aee{C:iQ}{x:Int×Int}:∀(ps:List (Int×Int)) (s:di),ib C s ps=(0,s')->iV C s' x.1 x.2=0->ib C s (ps++[x])=(0,bB C s' x.1 x.2)
 |[],s,h,hE=>by
  obtain rfl:s=s':=eD Prod.snd h;rw[Bo,ib,if_pos hE];rfl
 |y::t,s,h,hE=>by
  rw[ib]at h;rw[Wz,ib]
  split at h
  ·rename_i b;rw[if_pos b];exact aee t _ h hE
  ·rename_i b;exact absurd (eD Prod.fst h) b
theorem aef(G:List Bool):∀(a l:List Int),l.Nodup->(iD G a l).Nodup
 |[],_,h=>h
 |z::t,l,h=>by
  rw[iD];refine aef G t _ ?_
  split
  ·rename_i j;rw[Bv];refine⟨h,au,fun x m y b e=>?_⟩;rw[gm]at b;subst b e;have:l.contains x=true:=by simpa using m
   rw[j.2.2]at this;cases this
  ·exact h
theorem aeg{W:List Int}:∀(F:List Int) (G:List Bool),F.Nodup->(∀z∈F,0<=z/\z.toNat<G.length/\G.getD z.toNat false=false)->G.length<=W.length->eZ W (iW G F)=eZ W G+(F.map fun z=>W.getD z.toNat 0).sum
 |[],G,_,_,_=>by simp[iW]
 |z::F,G,b,j,m=>by
  obtain⟨K,r,B⟩:=j z dN;rw[pg]at b;have C:=aeg (W:=W) F (G.set z.toNat true) b.2 (fun y u=>by
   obtain⟨E,I,J⟩:=j y (fI _ u);refine⟨E,by simpa using I,?_⟩;rw[je r,if_neg (fun e=>b.1 ?_)]
   ·exact J
   ·have:z=y:=om;rw[this];exact u) (by simpa using m)
  have e:iW G (z::F)=iW (G.set z.toNat true) F:=rfl;rw[e,C,KY B r m,fe,jR];omega
theorem yw.step(c:K4 N O L l cap)(h:yw N O l cap t s)(hr:gK kd id=true)(T:kd≠2)(hi:0<=id)(hm:id<=N.nodes.length)(m:fV (aC N cap) s kd id.toNat=true):
  yw N O l cap ((bB (aC N cap) s kd id).present,t.2++[(kd,id)]) (bB (aC N cap) s kd id):=by
 have hb:∀B,0<=eZ (aC N cap).words B/\eZ (aC N cap).words B<=(aC N cap).words.sum:=fun B=>Pj c.w0;have G:id.toNat<N.nodes.length+1:=om;have J:id.toNat<s.present.length:=by rw[h.lo.lp];exact G
 have r:(aC N cap).jl=l:=by show(iH N).toNat=l;rw[c.hN.iH];rfl
 have hp:=hb s.present;have hg:=hb s.aT;have V:=h.nw;have U:=c.cap;have I:s.present.length<=(aC N cap).words.length:=by rw[h.lo.lp,c.wl];exact az _
 have E:s.aT.length<=(aC N cap).words.length:=by rw[h.lo.lg,c.wl];exact az _
 suffices j:s.now+bK (aC N cap) s kd id.toNat<=cap/\(bB (aC N cap) s kd id).now=eZ (aC N cap).words (bB (aC N cap) s kd id).present-(aC N cap).words.headD 0+eZ (aC N cap).words (bB (aC N cap) s kd id).aT/\((bB (aC N cap) s kd id).gu=false->∀k,(bB (aC N cap) s kd id).aT.getD k false=false) by
  have hE:iV (aC N cap) s kd id=0:=by rw[iV,if_pos ⟨hr,by rw[c.wl];omega⟩,if_pos m,if_pos (show _<=(aC N cap).cap from j.1)]
  refine⟨aee (x:=(kd,id)) _ _ h.go hE,rfl,(aeb c.hN c.wl c.cl h.lo hE).1,j.2.1,j.2.2,fun x j=>?_⟩;rcases dP.1 j with j|j
  ·exact h.ok x j
  ·rw[gm.1 j];exact⟨hr,T,hi,hm⟩
 by_cases k1:kd=1
 ·subst k1;rw[fV,if_pos rfl,dm]at m;have F:1<=id:=by
   unfold gK at hr;rw[if_neg om,if_pos om]at hr;simp only[dm,dU]at hr;exact hr.1
  have K:s.present.getD id.toNat false=false:=by
   cases hq:s.present.getD id.toNat false with
   |false=>rfl
   |true=>
    have:=h.lo.ps id.toNat om hq;rw[this]at m;exact absurd m.1 ah
  have e:=KY (W:=(aC N cap).words) K J I;have X:=hb (s.present.set id.toNat true);have b:bK (aC N cap) s 1 id.toNat=(aC N cap).words.getD id.toNat 0:=by rw[bK,if_pos (.inl rfl)]
  have u:bB (aC N cap) s 1 id=⟨s.present.set id.toNat true,s.saved.set id.toNat true,s.aT,s.gG,s.gu,s.done,s.now+bK (aC N cap) s 1 id.toNat,max s.fE (s.now+bK (aC N cap) s 1 id.toNat)⟩:=by
   unfold bB;dsimp only;rw[if_pos (.inl rfl)]
  rw[u,b];dsimp only;exact⟨om,om,h.sd⟩
 have Y:¬(kd=1\/kd=2):=fun e=>e.elim k1 T;by_cases Z:kd=3
 ·subst Z;rw[fV,if_neg ah,if_neg ah,if_pos rfl]at m;have e:=Wm (W:=(aC N cap).words) m I;have b:bK (aC N cap) s 3 id.toNat=0:=by rw[bK,if_neg ah,if_neg ah,if_neg ah]
  have u:bB (aC N cap) s 3 id=⟨s.present.set id.toNat false,s.saved,s.aT,s.gG,s.gu,s.done,s.now+bK (aC N cap) s 3 id.toNat-(aC N cap).words.getD id.toNat 0,max s.fE (s.now+bK (aC N cap) s 3 id.toNat)⟩:=by
   unfold bB;dsimp only;rw[if_neg ah,if_pos rfl]
  rw[u,b];dsimp only;exact⟨om,om,h.sd⟩
 by_cases k4:kd=4
 ·subst k4;have b:bK (aC N cap) s 4 id.toNat=0:=by rw[bK,if_neg ah,if_neg ah,if_neg ah]
  have u:bB (aC N cap) s 4 id=⟨s.present,s.saved,s.aT,true,s.gu,s.done,s.now+bK (aC N cap) s 4 id.toNat,max s.fE (s.now+bK (aC N cap) s 4 id.toNat)⟩:=by
   unfold bB;dsimp only;rw[if_neg ah,if_neg ah,if_pos rfl]
  rw[u,b];dsimp only;exact⟨om,om,h.sd⟩
 by_cases k5:kd=5
 ·subst k5;rw[fV,if_neg ah,if_neg ah,if_neg ah,if_neg ah,if_pos rfl]at m;have M:=h.sd (by simpa using m) l;have e:=KY (W:=(aC N cap).words) M (by rw[h.lo.lg];have:=c.hN.vk;omega) E;have P:=hb (s.aT.set l true);have b:bK (aC N cap) s 5 id.toNat=(aC N cap).words.getD l 0:=by rw[bK,if_neg ah,if_pos rfl,r]
  have u:bB (aC N cap) s 5 id=⟨s.present,s.saved,s.aT.set l true,s.gG,true,s.done,s.now+bK (aC N cap) s 5 id.toNat,max s.fE (s.now+bK (aC N cap) s 5 id.toNat)⟩:=by
   unfold bB;dsimp only;rw[if_neg ah,if_neg ah,if_neg ah,if_pos rfl,r]
  rw[u,b];dsimp only;exact⟨om,om,fun j=>by cases j⟩
 have k6:kd=6:=by
  unfold gK at hr
  split at hr
  ·omega
  ·split at hr
   ·omega
   ·cases hr
 subst k6;have F:1<=id:=by
  unfold gK at hr;rw[if_neg om,if_pos om]at hr;simp only[dm,dU]at hr;exact hr.1
 rw[fV,if_neg ah,if_neg ah,if_neg ah,if_neg ah,if_neg ah]at m;simp only[dm,dU,beq_iff_eq]at m;obtain⟨⟨⟨Q,g2⟩,g3⟩,g4⟩:=m;have hF:∀z∈jA (aC N cap) s id.toNat,0<=z/\z.toNat<s.aT.length/\s.aT.getD z.toNat false=false:=fun z C=>by
  unfold jA at C;rw[CF]at C;rcases C with C|⟨C,-,R⟩
  ·cases C
  ·rw[AY F]at C;obtain⟨v,hv,_,_,hi,hm⟩:=c.hN.at (dR.2 ⟨F,hm⟩);have hb:=c.hN.iR v hm z (by rw[<-hi];exact C);exact⟨hb.1,by rw[h.lo.lg];omega,R⟩
 have e:=aeg (W:=(aC N cap).words) _ _ (aef s.aT _ [] vN) hF E;have S:(iW s.aT (jA (aC N cap) s id.toNat)).getD id.toNat false=true:=by
  rw[GD _ _ _ fun y hy=>(hF y hy).2.1,Q,P9]
 have e2:=Wm (W:=(aC N cap).words) S (by rw[AR];exact E);have P:=hb (iW s.aT (jA (aC N cap) s id.toNat));have b:bK (aC N cap) s 6 id.toNat=((jA (aC N cap) s id.toNat).map fun z=>(aC N cap).words.getD z.toNat 0).sum:=by rw[bK,if_neg ah,if_neg ah,if_pos rfl]
 have u:bB (aC N cap) s 6 id=⟨s.present,s.saved,(iW s.aT (jA (aC N cap) s id.toNat)).set id.toNat false,s.gG,s.gu,s.done+1,s.now+bK (aC N cap) s 6 id.toNat-(aC N cap).words.getD id.toNat 0,max s.fE (s.now+bK (aC N cap) s 6 id.toNat)⟩:=by
  unfold bB;dsimp only;rw[if_neg ah,if_neg ah,if_neg ah,if_neg ah]
 have e':eZ (aC N cap).words (iW s.aT (jA (aC N cap) s id.toNat))=eZ (aC N cap).words s.aT+bK (aC N cap) s 6 id.toNat:=by rw[b];exact e
 rw[u];dsimp only;refine⟨om,om,fun j=>?_⟩;have:=h.sd j id.toNat;rw[this]at Q;cases Q
theorem aeh(s:iI):∀n,(∀k,1<=k->k<=n->f k=false)->swp f s n=s
 |0,_=>rfl
 |n+1,h=>by
  rw[swp,aeh s n fun k b e=>h k b om,Cz,h (n+1) om (az _),Bool.and_false];rfl
theorem aei(c:K4 N O L l cap){kp:List Bool}{La:List Int}(u:∀k:Nat,1<=k->k<=N.nodes.length->kp.getD k false=true):∀(r D:List Int) (i:Nat) (t:iI) (s:di),O=D++r->yw N O l cap t s->(∀k:Nat,s.saved.getD k false=true->(k:Int)∈D)->(∀z∈D,t.1.getD z.toNat false=true)->t.1.getD 0 false=true->s.gG=false->s.gu=false->s.done=0->t.2.length=D.length->
  ∃s',yw N O l cap (oI N.nodes.length kp l La r i t) s'/\(∀z∈O,(oI N.nodes.length kp l La r i t).1.getD z.toNat false=true)/\(oI N.nodes.length kp l La r i t).1.getD 0 false=true/\s'.gG=false/\s'.gu=false/\s'.done=0/\(oI N.nodes.length kp l La r i t).2.length=O.length
 |[],D,i,t,s,hO,h,hs,hp,E,F,y,hd,G=>by
  rw[oV]at hO;subst hO;exact⟨s,h,hp,E,F,y,hd,G⟩
 |id::r,D,i,t,s,hO,h,hs,hp,E,F,y,hd,G=>by
  have hid:id∈O:=by rw[hO];simp
  have hb:=dR.1 (c.hN.lV.ids id hid);have j:=TH D [] r id (by rw[<-hO];exact c.hN.dep);rw[Bo]at j;have I:=TC j;have J:id∉D:=by
   have:=c.hN.lV.nd;rw[hO,Bv]at this;exact fun hm=>this.2.2 id hm id dN rfl
  have K:s.saved.getD id.toNat false=false:=by
   cases hq:s.saved.getD id.toNat false with
   |false=>rfl
   |true=>
    have:=hs _ hq;rw[show((id.toNat:Nat):Int)=id from om]at this;exact absurd this J
  have M:nL (aC N cap) s id.toNat=true:=by
   unfold nL;rw[AY hb.1,fK];intro z b;rw[h.pr];rcases I z b with rfl|b
   ·exact E
   ·exact hp z b
  have B:fV (aC N cap) s 1 id.toNat=true:=by rw[fV,if_pos rfl,K,M];rfl
  have hm:=c.m;have st:=h.step c (kd:=1) (id:=id) (by rw[AQ (.inl rfl)];simp;omega) ah om hb.2 B;have Q:bB (aC N cap) s 1 id=⟨s.present.set id.toNat true,s.saved.set id.toNat true,s.aT,s.gG,s.gu,s.done,s.now+bK (aC N cap) s 1 id.toNat,max s.fE (s.now+bK (aC N cap) s 1 id.toNat)⟩:=by
   unfold bB;dsimp only;rw[if_pos (.inl rfl)]
  rw[Q]at st;dsimp only at st;rw[h.pr]at st;have C:id.toNat<t.1.length:=by rw[<-h.pr,h.lo.lp];omega
  have P:id.toNat<s.saved.length:=by rw[h.lo.ls];omega
  rw[oI,aeh _ _ fun k R S=>by rw[AV,u k R S];rfl];refine aei c u r (D++[id]) (i+1) _ _ (by simp[hO]) st (fun k u=>?_) (fun z b=>?_) ?_ F y hd (by simp[G])
  ·dsimp only at u;rw[je P]at u
   split at u
   ·rename_i e;rw[<-e,show((id.toNat:Nat):Int)=id from om];simp
   ·exact zQ _ (hs k u)
  ·dsimp only;rw[je C]
   split
   ·rfl
   ·rename_i e;rcases dP.1 b with b|b
    ·exact hp z b
    ·rw[gm.1 b]at e;exact absurd rfl e
  ·dsimp only;rw[je C,if_neg om];exact E
theorem aej(c:K4 N O L l cap)(h:yw N O l cap t s):∀n,n<=N.nodes.length->∃s',yw N O l cap (swp f t n) s'/\s'.aT=s.aT/\s'.gG=s.gG/\s'.gu=s.gu/\s'.done=s.done/\∀j,t.1.getD j false=true->¬(1<=j/\j<=n/\f j=true)->(swp f t n).1.getD j false=true
 |0,_=>⟨s,h,rfl,rfl,rfl,rfl,fun j y _=>y⟩
 |n+1,hn=>by
  obtain⟨b,u,C,E,F,G,hp⟩:=aej c h n om;rw[swp,Cz]
  split
  ·rename_i B;rw[dm]at B;have hm:=c.m;have st:=u.step c (kd:=3) (id:=((n+1:Nat):Int)) (by rw[AQ om];simp;omega) ah om om (by rw[fV,if_neg ah,if_neg ah,if_pos rfl,dD,u.pr];exact B.1);have I:bB (aC N cap) b 3 ((n+1:Nat):Int)=⟨b.present.set (n+1) false,b.saved,b.aT,b.gG,b.gu,b.done,b.now+bK (aC N cap) b 3 (n+1)-(aC N cap).words.getD (n+1) 0,max b.fE (b.now+bK (aC N cap) b 3 (n+1))⟩:=by
    unfold bB;dsimp only;rw[if_neg ah,if_pos rfl,Int.toNat_natCast]
   rw[I]at st;dsimp only at st;rw[u.pr]at st;refine⟨_,st,C,E,F,G,fun j y r=>?_⟩;dsimp only;have hq:n+1<(swp f t n).1.length:=by rw[<-u.pr,u.lo.lp];omega
   rw[je hq,if_neg (fun e=>r ⟨om,om,by rw[<-e];exact B.2⟩)];exact hp j y fun z=>r ⟨z.1,om,z.2.2⟩
  ·exact⟨b,u,C,E,F,G,fun j y r=>hp j y fun z=>r ⟨z.1,om,z.2.2⟩⟩
theorem aek:∀(ins:List Int),(∀z∈ins,t.1.getD z.toNat false=true)->ins.foldl (fun s z=>gL N 1001 z s) t=t
 |[],_=>rfl
 |z::r,h=>by
  rw[yD,gL,if_pos (by rw[h z dN,P9])];exact aek r fun y b=>h y (fI _ b)
theorem asA(h:bU N=0){u z:Int}(j:z∈bG N u):z≠iH N:=fun e=>by
 have r:zl N=true:=by
  unfold bU at h
  split at h
  ·split at h
   ·split at h
    ·unfold Ei at h
     split at h
     ·split at h
      ·split at h
       ·assumption
       ·omega
      ·rename_i b;exact absurd h b
     ·omega
    ·rename_i b;exact absurd h b
   ·omega
  ·omega
 simp only[zl,dm,dU]at r
 match hq:uX N,r.1 with
 |[a],_=>
  have m:a∈uX N:=by rw[hq];simp
  unfold uX at m;rw[Da]at m;have B:iH N=(a:Int):=by rw[iH,hq];rfl
  have b:oq N N.nodes.length 0 a=false:=by simpa using m.2
  unfold oq at b;rw[dB (az _),Bool.or_eq_false_iff,List.any_eq_false]at b;rw[bG]at j;cases hv:N.nodes[(u-1).toNat]? with
  |none=>rw[hv]at j;simp at j
  |some v=>
   rw[hv,e,B]at j;have y:=b.1 v (aK hv);simp at y j;exact y j
theorem ael(c:K4 N O L l cap){kp:List Bool}{fi:List Int}(hk:∀k:Nat,1<=k->k<=N.nodes.length->kp.getD k false=true)(G:∀q,q<O.length->∀z∈bG N (O.getD q 0),fi.getD z.toNat 0<=(q:Int)+1):
  ∀(q:Nat) (t:iI) (s:di),q<=O.length->yw N O l cap t s->s.gG=true->s.gu=true->s.done=(O.length:Int)-q->(∀k:Nat,1<=k->k≠l->k<=N.nodes.length->fi.getD k 0<=q->t.1.getD k false=true)->t.1.getD 0 false=true->
   (∀y∈O.take q,(y=l\/∃u∈O.drop q,y∈bG N u)->s.aT.getD y.toNat false=true)->t.2.length<=15+(O.length-q)*13->
  ∃s',yw N O l cap (wM N N.nodes.length kp fi O q t) s'/\s'.gG=true/\s'.done=O.length/\(wM N N.nodes.length kp fi O q t).2.length<=15+O.length*13
 |0,t,s,_,h,he,_,hd,_,_,_,hl=>⟨s,h,he,by simpa using hd,hl⟩
 |q+1,t,s,hq,h,he,hsd,hd,hp,h0,hg,hl=>by
  have hm:=c.m;have hol:=c.hN.zz;have I:q<O.length:=om;obtain⟨id,hid⟩:∃id,O[q]?=some id:=⟨_,aW I⟩;have E:O.getD q 0=id:=by rw[aQ,hid];rfl
  have J:=aK hid;have r:=c.hN.lV.ids id J;have hb:=dR.1 r;have K:∀z∈bG N id,z=0\/(1<=z/\z<=N.nodes.length/\z.toNat≠l):=fun z b=>by
   obtain⟨v,hv,_,_,hi,Y⟩:=c.hN.at r;have M:=c.hN.iR v Y z (by rw[<-hi];exact b);by_cases e:z=0
   ·exact .inl e
   ·refine .inr ⟨om,M.2,fun el=>?_⟩;exact asA c.hE b (by rw[c.hN.iH];omega)
  have P:∀z∈bG N id,t.1.getD z.toNat false=true:=fun z b=>by
   rcases K z b with rfl|⟨z1,z2,z3⟩
   ·exact h0
   ·exact hp z.toNat om z3 om (by have:=G q I z (by rw[E];exact b);omega)
  rw[wM,if_neg om,E,Uq,aek _ P];have Z:nL (aC N cap) s id.toNat=true:=by
   unfold nL;rw[AY hb.1,fK,h.pr];exact P
  have htk:id∈O.take (q+1):=N7 (i:=q) om hid;have hgi:s.aT.getD id.toNat false=true:=by
   refine hg id htk ?_;by_cases e:id=l
   ·exact .inl e
   ·right;obtain⟨u,hu,hi⟩:=abd c.hE r (by rw[c.hN.iH];exact e);have h9:=c.hN.abb (d:=O.length-1-q) (id:=id) (by rw[Hm om,show O.length-1-(O.length-1-q)=q from om];exact hid) hu hi;obtain⟨i,hi1,B⟩:=El h9;obtain⟨h7,h8⟩:=Ej B;refine⟨u,?_,hi⟩;refine aK (i:=O.length-1-i-(q+1)) ?_;rw[lD,show q+1+(O.length-1-i-(q+1))=O.length-1-i from om];exact h8
  have hO:(aC N cap).order=O:=c.hN.ord;have Q:fV (aC N cap) s 6 id.toNat=true:=by
   rw[fV,if_neg ah,if_neg ah,if_neg ah,if_neg ah,if_neg ah,hgi,Z,hO,hd];have V:((O.length:Int)-1-((O.length:Int)-((q+1:Nat):Int))).toNat=q:=om;rw[V,E,show((id.toNat:Nat):Int)=id from om,beq_self_eq_true,l8 om];rfl
  have st:=h.step c (kd:=6) (id:=id) (by rw[AQ om];simp;omega) ah om hb.2 Q;have hD:bB (aC N cap) s 6 id=⟨s.present,s.saved,(iW s.aT (jA (aC N cap) s id.toNat)).set id.toNat false,s.gG,s.gu,s.done+1,s.now+bK (aC N cap) s 6 id.toNat-(aC N cap).words.getD id.toNat 0,max s.fE (s.now+bK (aC N cap) s 6 id.toNat)⟩:=by
   unfold bB;dsimp only;rw[if_neg ah,if_neg ah,if_neg ah,if_neg ah]
  rw[hD]at st;dsimp only at st;rw[h.pr]at st;obtain⟨s2,h2,V,e2,e3,e4,F⟩:=aej (f:=zI kp fi (q+1)) c st N.nodes.length (az _);dsimp only at V e2 e3 e4 F;have R:=(JK (zI kp fi (q+1)) (t.1,t.2++[(6,id)]) N.nodes.length).1;rw[cu,Hl]at R;refine ael c hk G q _ s2 om h2 (by rw[e2];exact he) (by rw[e3];exact hsd) (by rw[e4,hd];omega) (fun k k1 kl km kf=>?_) ?_ (fun y hy hyu=>?_) ?_
  ·refine F k (hp k k1 kl km om) fun hx=>?_;have:=hx.2.2;unfold zI at this;rw[hk k k1 km]at this;simp only[Bool.not_true,Bool.false_or,dU]at this;omega
  ·exact F 0 h0 fun hx=>absurd hx.1 om
  ·obtain⟨i,hi1,B⟩:=El hy;have hyi:=dR.1 (c.hN.lV.ids y (aK B));have hne:y≠id:=fun e=>by subst e;have:=TK c.hN.lV.nd B hid;omega
   have hfr:∀z∈jA (aC N cap) s id.toNat,z.toNat<s.aT.length:=fun z b=>by
    unfold jA at b;rw[CF]at b;rcases b with b|⟨b,-,-⟩
    ·cases b
    ·rw[AY hb.1]at b;rw[h.lo.lg];rcases K z b with rfl|M
     ·simp
     ·omega
   rw[V,je (by rw[AR,h.lo.lg];omega),if_neg om,GD _ _ _ hfr];by_cases C:s.aT.getD y.toNat false=true
   ·rw[C,P9]
   ·have S:s.aT.getD y.toNat false=false:=by simpa using C
    have b:y∈bG N id:=by
     have T:y∈O.take (q+1):=N7 (i:=i) om B;rcases hyu with hyl|⟨u,hu,U⟩
     ·exact absurd (hg y T (.inl hyl)) C
     ·obtain⟨j,X⟩:=jF hu;rw[lD]at X;rcases j with _|j
      ·rw[nA,hid]at X;obtain rfl:=eP X;exact U
      ·exfalso;refine C (hg y T (.inr ⟨u,aK (i:=j) ?_,U⟩));rw[lD,show q+1+j=q+(j+1)from om];exact X
    rw[Fj,Fg];right;refine⟨y,?_,l8 rfl⟩;unfold jA;rw[CF,AY hb.1];exact .inr ⟨b,om,S⟩
  ·have e9:O.length-q=O.length-(q+1)+1:=om;omega
theorem Pk{q:Nat}:∀(ins L:List Int) (z:Nat),((wO q ins L).getD z 0=q\/(wO q ins L).getD z 0=L.getD z 0)/\(wO q ins L).length=L.length/\(z<L.length->(∃y∈ins,y.toNat=z)->(wO q ins L).getD z 0=q)
 |[],L,z=>⟨.inr rfl,rfl,fun _ ⟨y,B,_⟩=>by cases B⟩
 |y::r,L,z=>by
  obtain⟨b,C,E⟩:=Pk (q:=q) r (L.set y.toNat (q:Int)) z;have e:wO q (y::r) L=wO q r (L.set y.toNat (q:Int)):=rfl;have hs:z<L.length->(L.set y.toNat (q:Int)).getD z 0=if y.toNat=z then(q:Int)else L.getD z 0:=fun j=>by
   rw[aQ,nQ,aQ]
   split
   ·rename_i F;subst F;rw[if_pos j];rfl
   ·rfl
  rw[e];refine⟨?_,by rw[C,jQ],fun j ⟨x,u,m⟩=>?_⟩
  ·rcases b with b|b
   ·exact .inl b
   ·by_cases j:z<L.length
    ·rw[b,hs j];split
     ·exact .inl rfl
     ·exact .inr rfl
    ·right;rw[b,aQ,aQ,mE (by rw[jQ];omega),mE om]
  ·rcases dz.1 u with rfl|u
   ·rcases b with b|b
    ·exact b
    ·rw[b,hs j,if_pos m]
   ·exact E (by rw[jQ];exact j) ⟨x,u,m⟩
theorem aem{b:Int}{z:Nat}:∀(q:Nat) (L:List Int),L.getD z 0<=b->(q:Int)<=b->(oJ N O q L).getD z 0<=b
 |0,_,h,_=>h
 |q+1,L,h,hq=>by
  rw[oJ];refine aem q _ ?_ om;rcases(Pk (q:=q+1) (bG N (O.getD q 0)) L z).1 with e|e
  ·rw[e];exact hq
  ·rw[e];exact h
theorem aen{q:Nat}{z:Int}(b:z∈bG N (O.getD q 0)):∀(k:Nat) (L:List Int),q<k->z.toNat<L.length->(oJ N O k L).getD z.toNat 0<=(q:Int)+1
 |0,_,h,_=>absurd h (yH _)
 |k+1,L,h,hl=>by
  rw[oJ];by_cases e:q=k
  ·subst e;exact aem q _ (by rw[(Pk (bG N (O.getD q 0)) L z.toNat).2.2 hl ⟨z,b,rfl⟩];omega) om
  ·exact aen b k _ om (by rw[(Pk _ _ 0).2.1];exact hl)
theorem aeo{C:List Int}(j:∀z∈C,0<=z/\z<=4294967296):∀{ps:List (Int×Int)},(∀x∈ps,x.2.toNat<C.length)->∃q,qO C ps=some q/\q.length<=ps.length/\∀z∈q,0<=z/\z<=4294967296
 |[],_=>⟨[],rfl,az _,fun z b=>by cases b⟩
 |x::t,h=>by
  obtain⟨q,m,E,r⟩:=aeo j (ps:=t) fun y B=>h y (fI _ B);rw[qO]
  split
  ·have u:=h x dN;have hg:C.getD x.2.toNat (-1)∈C:=by
    rw[aQ,aW u];exact uA u
   have hb:=j _ hg;have e:iZ (C.getD x.2.toNat (-1))=true:=by rw[iZ,l8 hb.1,l8 om];rfl
   rw[if_pos e,m];refine⟨_,rfl,by simp;omega,fun z b=>?_⟩;rcases dz.1 b with rfl|b
   ·exact hb
   ·exact r z b
  ·exact⟨q,m,by simp;omega,r⟩
theorem asB(hN:dX N O L l)(hE:bU N=0)(hL:gZ N=(O,L,(l:Int)))(hm:N.nodes.length<=12):OU N N.ids (xX N)=0/\(ER N N.ids (xX N)).2.1=(iP N L).sum/\(ER N N.ids (xX N)).1<=xX N:=by
 obtain⟨hO,hV,hP,ET⟩:=Ph hN hE hL hm;obtain⟨cap,hcap⟩:=lh (xX N);rw[hcap]at ET⊢;have T:(aC N cap).cost=iP N L:=by show(fU N).2.1=_;rw[hV]
 have M:(aC N cap).words=L.map bJ:=by show(fU N).1=_;rw[hV]
 have hcl:(aC N cap).cost.length=N.nodes.length+1:=by rw[T];simp[iP]
 have P:(aC N cap).words.length=N.nodes.length+1:=by rw[M,dF,hN.len]
 have hw0:∀z∈(aC N cap).words,0<=z:=by rw[M];exact fun z F=>by have:=hN.words z F;omega
 have c:K4 N O L l cap:=⟨hN,hE,hm,P,hw0,hcl,by rw[M,ET];exact jg _⟩;have hl2:=hN.vk;have hl1:=hN.xV;have hol:=hN.zz;have hlv:(iH N).toNat=l:=by rw[hN.iH];rfl
 obtain⟨kp,hkp⟩:=lh (zO N.ids (List.replicate (N.nodes.length+1) false));have hk:∀k:Nat,1<=k->k<=N.nodes.length->kp.getD k false=true:=fun k h1 h2=>by
  rw[<-hkp]
  show(iW (List.replicate (N.nodes.length+1) false) N.ids).getD k false=true
  rw[GD _ _ _ fun y hy=>by rw[lF];have:=dR.1 hy;omega,Fj,Fg];exact .inr ⟨(k:Int),dR.2 ⟨om,om⟩,au⟩
 have S:∀k:Nat,(List.replicate (N.nodes.length+1) false).getD k false=false:=fun k=>by
  rw[aQ,sj]
  split<;>rfl
 have h00:yw N O l cap ((List.replicate (N.nodes.length+1) false).set 0 true,[]) (fG N.nodes.length):=by
  refine⟨rfl,rfl,Wo,?_,fun _ k=>S k,fun x U=>by cases U⟩;have e:eZ (aC N cap).words ((List.replicate (N.nodes.length+1) false).set 0 true)=(aC N cap).words.headD 0:=by
   match hq:(aC N cap).words with
   |[]=>rw[hq]at P;simp at P
   |a::r=>
    rw[uo,yC,eZ,KZ];simp
  show(0:Int)=eZ _ ((List.replicate (N.nodes.length+1) false).set 0 true)-_+eZ _ (List.replicate (N.nodes.length+1) false)
  rw[e,KZ];omega
 obtain⟨m,Z,p1,z1,em1,sd1,dn1,ln1⟩:=aei (La:=zB N) c hk O [] 0 _ _ au h00 (fun k hk=>by
  have:(List.replicate (N.nodes.length+1) false).getD k false=true:=hk;rw[S]at this;cases this) (fun z F=>by cases F) au rfl rfl rfl rfl
 obtain⟨G,ht1⟩:=lh (oI N.nodes.length kp l (zB N) O 0 ((List.replicate (N.nodes.length+1) false).set 0 true,[]));rw[ht1]at Z p1 z1 ln1;have I:(aC N cap).jl=l:=hlv;have plm:G.1.getD l false=true:=by
  have:=p1 (l:Int) (hN.mem.2 (dR.2 ⟨om,om⟩));rwa[dD]at this
 have V:=Z.step c (kd:=4) (id:=0) rfl ah om om (by rw[fV,if_neg ah,if_neg ah,if_neg ah,if_pos rfl,I,Z.pr,plm,em1];rfl);have D4:bB (aC N cap) m 4 0=⟨m.present,m.saved,m.aT,true,m.gu,m.done,m.now+bK (aC N cap) m 4 0,max m.fE (m.now+bK (aC N cap) m 4 0)⟩:=by
  unfold bB;dsimp only;rw[if_neg ah,if_neg ah,if_pos rfl];rfl
 rw[D4]at V;dsimp only at V;rw[Z.pr]at V;obtain⟨s2,Q⟩:=lg (⟨G.1,m.saved,m.aT,true,m.gu,m.done,m.now+bK (aC N cap) m 4 0,max m.fE (m.now+bK (aC N cap) m 4 0)⟩:di);rw[<-Q]at V;have X:=V.step c (kd:=3) (id:=(l:Int)) (by rw[AQ om];simp;omega) ah om om (by rw[fV,if_neg ah,if_neg ah,if_pos rfl,V.pr,dD];exact plm);have D3:bB (aC N cap) s2 3 (l:Int)=⟨s2.present.set l false,s2.saved,s2.aT,s2.gG,s2.gu,s2.done,s2.now+bK (aC N cap) s2 3 l-(aC N cap).words.getD l 0,max s2.fE (s2.now+bK (aC N cap) s2 3 l)⟩:=by
  unfold bB;dsimp only;rw[if_neg ah,if_pos rfl,Int.toNat_natCast]
 rw[D3]at X;dsimp only at X;rw[V.pr]at X;obtain⟨j,R⟩:=lg (⟨G.1.set l false,s2.saved,s2.aT,s2.gG,s2.gu,s2.done,s2.now+bK (aC N cap) s2 3 l-(aC N cap).words.getD l 0,max s2.fE (s2.now+bK (aC N cap) s2 3 l)⟩:di);rw[<-R]at X;have sd3:j.gu=false:=by rw[R,Q];exact sd1
 have g5:=X.step c (kd:=5) (id:=0) rfl ah om om (by rw[fV,if_neg ah,if_neg ah,if_neg ah,if_neg ah,if_pos rfl,sd3];rfl);have D5:bB (aC N cap) j 5 0=⟨j.present,j.saved,j.aT.set l true,j.gG,true,j.done,j.now+bK (aC N cap) j 5 0,max j.fE (j.now+bK (aC N cap) j 5 0)⟩:=by
  unfold bB;dsimp only;rw[if_neg ah,if_neg ah,if_neg ah,if_pos rfl,I];rfl
 rw[D5]at g5;dsimp only at g5;rw[X.pr]at g5;obtain⟨s5,J⟩:=lg (⟨G.1.set l false,j.saved,j.aT.set l true,j.gG,true,j.done,j.now+bK (aC N cap) j 5 0,max j.fE (j.now+bK (aC N cap) j 5 0)⟩:di);rw[<-J]at g5;have hms:yw N O l cap (EM l G) s5:=g5;have hlen1:G.1.length=N.nodes.length+1:=by rw[<-Z.pr];exact Z.lo.lp
 obtain⟨s6,g6,em6,dn6,ln6⟩:=ael (fi:=oJ N O N.nodes.length (List.replicate (N.nodes.length+1) 0)) c hk (fun q hq z F=>by
  refine aen F _ _ om ?_;have hO9:=aW hq;rw[aQ,hO9]at F;obtain⟨v,hv,_,_,hi,hmv⟩:=hN.at (hN.lV.ids _ (uA hq));have hz2:=hN.iR v hmv z (by rw[<-hi];exact F);rw[lF];omega) N.nodes.length (EM l G) s5 om hms (by rw[J,R,Q]) (by rw[J]) (by rw[J,R,Q];show m.done=_;rw[dn1];omega) (fun k k1 kl km _=>by
   show(G.1.set l false).getD k false=true
   rw[je om,if_neg (fun e=>kl e.symm)];have:=p1 (k:Int) (hN.mem.2 (dR.2 ⟨om,om⟩));rwa[dD]at this) (by
   show(G.1.set l false).getD 0 false=true
   rw[je om,if_neg om];exact z1) (fun y hy hyu=>by
   rcases hyu with rfl|⟨u,hu,_⟩
   ·rw[J,dD]
    show(j.aT.set l true).getD l false=true
    rw[je (by rw[X.lo.lg];omega),if_pos rfl]
   ·rw[<-hol,Ff]at hu;cases hu) (by
   show(G.2++[(4,0)]++[(3,(l:Int))]++[(5,0)]).length<=_
   simp only[cu,Hl];omega)
 have hT:rY N N.ids=wM N N.nodes.length kp (oJ N O N.nodes.length (List.replicate (N.nodes.length+1) 0)) O N.nodes.length (EM l G):=by
  unfold rY OT;rw[hkp,hlv,hN.ord,ht1]
 rw[<-hT]at g6 ln6;have hle:(rY N N.ids).2.length<=250:=om;have E:ny N N.ids=0:=by
  rw[ny,if_pos hE,if_pos (fK.2 fun z F=>by have:=dR.1 F;simp;omega),if_neg om]
 have Y:nP N N.ids=(rY N N.ids).2:=by rw[nP,if_pos E]
 have hwh:wL (aC N cap) s6=true:=by
  unfold wL;rw[em6,dn6,show(aC N cap).order=O from hN.ord];simp
 obtain⟨q,hq1,hq2,hq3⟩:=aeo (C:=iP N L) hN.ad7 (ps:=(rY N N.ids).2) fun x U=>by
  have:=(g6.ok x U).2.2;simp[iP];omega
 obtain⟨ha1,ha2⟩:=Pg hq3 om;have hck:mY (rY N N.ids).2=0:=by
  rw[mY,if_pos];exact fK.2 fun x U=>(g6.ok x U).1
 have hce:Es (aC N cap).cost (rY N N.ids).2=0:=by
  rw[Es,if_pos hck,T,hq1];dsimp only;rw[if_pos ha1]
 have K:nk N cap (rY N N.ids).2=0:=by
  rw[nk,if_pos hO,JR,if_pos hck,g6.go,if_pos rfl,if_pos hwh,hce]
 obtain⟨l1,l2⟩:=aed hN hE hL hm (cap:=cap) (by
  have:=(Ha (b:=65536) fun z F=>⟨by have:=hN.words z F;omega,(hN.words z F).2⟩).1;have h9:=Pj (W:=(aC N cap).words) (B:=(List.replicate (N.nodes.length+1) false).set 0 true) hw0;have hn0:=h00.nw;rw[show(fG N.nodes.length).now=0 from rfl,show(fG N.nodes.length).aT=List.replicate (N.nodes.length+1) false from rfl,KZ,show(fG N.nodes.length).present=(List.replicate (N.nodes.length+1) false).set 0 true from rfl]at hn0;rw[M]at h9 hn0;omega) K
 refine⟨by rw[OU,if_pos E,Y];exact K,?_,by rw[ER,if_pos E,Y];exact l2⟩;rw[ER,if_pos E,Y,rR,if_pos K]
 show Cw _ _=_
 rw[(aea hce).1];have asL:CU (aC N cap).cost (rY N N.ids).2=CQ (aC N cap).cost (rY N N.ids).2:=by
  unfold CU CQ;congr 1;refine oZ fun x U=>?_;have h2:=(g6.ok x U).2.1;by_cases e:x.1=1
  ·rw[if_pos (.inl e),if_pos e]
  ·rw[if_neg (fun h=>h.elim e h2),if_neg e]
 obtain⟨h1,h2,-⟩:=Wp hN P hcl _ _ Wo g6.go;rw[aec hN T h1 hwh,show(fG N.nodes.length).saved=List.replicate (N.nodes.length+1) false from rfl,KZ]at h2;rw[asL];omega
theorem asM(hN:dX N O L l)(hE:bU N=0)(hL:gZ N=(O,L,(l:Int)))(hm:N.nodes.length<=12):xX N<=144115188075855872:=by
 obtain⟨-,-,-,h⟩:=Ph hN hE hL hm;have e:=hN.words;have j:(L.map bJ).length=N.nodes.length+1:=by rw[dF,hN.len]
 obtain⟨r,u⟩:=Ha (b:=65536) fun z m=>⟨by have:=e z m;omega,(e z m).2⟩;have y:0<=(L.map bJ).headD 0:=by
  match hq:L.map bJ with
  |[]=>exact jg _
  |a::t=>rw[hq]at e;have:=e a dN;show 0<=a;omega
 omega
end
section
variable{w:World}{A B BA PA XA XB K:Option Addr}{n m cb cp cx dx kc:Nat}{zs bs xz xs:List Int}{ps:List Tn}{N:aI}{pl cap:Int}
theorem aer{u:World}{g:Nat}{T:TypeId}{a b c d:Value}[k:Bx u g T #[a,b,c,d]](z0 z1 e z3:Value):Bx ((((u.setCell ⟨g,0,none⟩ z0).setCell ⟨g,1,none⟩ z1).setCell ⟨g,2,none⟩ e).setCell ⟨g,3,none⟩ z3) g T #[z0,z1,e,z3]:=⟨(((k.blk.aF 0 z0).aF 1 z1).aF 2 e).aF 3 z3⟩
theorem asN[s:Bs w BA zs.length zs][tp:Ts w PA ps.length ps][sx:Sl w XA xz.length xz][xx:Sl w XB xs.length xs][lx:Le xs.length dx][ix:dh xs][sk:Bs w K bs.length bs](X:zs.length<=cb)(hb:Hid (∀t∈ps,t.zs.length<=17592186043904/\t.xs.length<=17592186043904))(hcp:Hid (∀t∈ps,t.zs.length<=t.c))(Y:ps.length<=140737488351232)(hx:xz.length<=17592186043904/\xs.length<=17592186043904):
  Calls Tryz.prog 3 #[.agg #[.slice BA zs.length cb,.slice PA ps.length cp,.slice XA xz.length cx,.slice XB xs.length dx,pl,cap],.slice K bs.length kc] w (aeM w):=by
 have CB:=@bf;have FB:=@dV;obtain⟨x,hX⟩:=lg ((xz,xs));have sx1:Sl w XA xz.length x.1:=by rw[hX];exact sx
 have xx1:Sl w XB xs.length x.2:=by rw[hX];exact xx
 have ZQ:dh x.2:=by rw[hX];exact ix
 obtain⟨y1,Z⟩:=lh zs.length;obtain⟨y2,hy2⟩:=lh ps.length;obtain⟨y3,hy3⟩:=lh xz.length;obtain⟨y4,hy4⟩:=lh xs.length;obtain⟨y5,J⟩:=lh bs.length;have HY5:=ae J;clear hX sx xx ix;rw[Z]at s X⊢;rw[hy2]at tp Y⊢;rw[hy3]at sx1 hx⊢;rw[hy4]at xx1 lx hx⊢;rw[J]at sk⊢;clear Z hy2 hy3 hy4 J;go_enter Tryz.func3,Tryz.ntmps3
 go_upto_region 1 with fail
 refine bI (fun u0 p0 k0=>?_)
 go_upto_region 2 with(go_at_call 7;refine(apM X hb hcp Y hx).mono ?_;rintro e u1 ⟨A,n,c,B,m,d,g,rfl,hg,_⟩)
 refine bI (fun u2 p2 k2=>?_);cases g with
 |false=>
  clear hg
  go_wp2_with (go_at_call 8;refine G9.mono ?_;rintro e u3 ⟨rfl,_⟩)
  go_ret;exact⟨rfl,aL w _⟩
 |true=>
  obtain⟨N,u,aN,hnc,hmd⟩:=hg rfl;have j:=ae u;clear hg u;by_cases h9:900<y5
  ·have g9:decide ((900:Int)<(y5:Int))=true:=by simp;omega
   go_wp2_with (go_at_call 8;refine G9.mono ?_;rintro e u3 ⟨rfl,_⟩)
   go_ret;exact⟨rfl,aL w _⟩
  have g9:decide ((900:Int)<(y5:Int))=false:=by simp;omega
  have VD:y5<=900:=om;clear h9;obtain⟨O,L,l,y,hN,-,-⟩:=look_ok j.out.hE;obtain⟨-,r⟩:=ac9 j.out.fw;have z:=j.out.hE;obtain⟨q1,q2,q3,-⟩:=Ph hN z y r;obtain⟨q4,q5,q6⟩:=asB hN z y r;have b:=fun(cap:Int) (h0:0<=cap) (V:List (Int×Int)) (h:nk N cap V=0)=>aed hN z y r h0 h;obtain⟨T,hT⟩:=lh ((iP N L).sum);obtain⟨pk,D⟩:=lh (xX N);rw[hT]at q2 q5 b;rw[D]at q4 q5 q6;obtain⟨⟨Q1,Q2,Q3,Q4⟩,hQ⟩:=lh (ER N N.ids pk);rw[hQ]at q5 q6;obtain rfl:Q2=T:=q5;have q6':Q1<=pk:=q6;have gQ:decide (pk<Q1)=false:=by simp;omega
  have C:pk<=144115188075855872:=by
   rw[<-D];exact asM hN z y r
  obtain⟨WL,hWL⟩:=lh (L.map bJ);obtain⟨CL,hCL⟩:=lh (iP N L);rw[hWL,hCL]at q2;obtain⟨x1,hx1⟩:=lh WL.length;obtain⟨x2,hx2⟩:=lh CL.length;have HO:=ae q1;have JQ:=ae q2;have HX1:=ae hx1;have HX2:=ae hx2;have II:=ae q3;have Kz:=ae D;have M:=ae q4;have P:=ae hQ;have asT:=ae b;have U:Hid N.fits:=ae j.out.fi;have F:Hid N.small:=ae j.out.sm;have Q:m<=1000000:=by rw[aN.len];omega
  have HID:Hid (N.ids.length=m):=ae (by rw[aN.len];simp[aI.ids]);have hc0:=j.out.c0;have hc1:=j.out.c1;clear q1 q2 q3 q4 q6 q6' hT D hQ hx1 hx2 b hN y z r hWL hCL
  go_upto_region 5 with(go_at_call 9;refine(xY U F HO JQ HX1 HX2).mono ?_;rintro e u3 ⟨AW,cW,BC,dC,rfl,_,_,_,_,_⟩)
  refine bI (fun u4 p4 k4=>?_)
  go_upto_region 6 with(go_at_call 10;refine(amL U F II Kz).mono ?_;rintro e u5 ⟨rfl,_⟩)
  obtain⟨v5,rfl⟩:=lg u5
  go_cut [11,12] (fun q e wx=>∃G,q=.pointer (some ⟨G,0,none⟩)/\e=.int .i64 0/\Bx wx G 45 #[Q1,Q2,Q3,Q4]/\ak wx v5)
  case first=>
   refine eU v5 aj (fun I _=>?_);refine ag 0 41 ?_;refine ag 1 42 ?_;refine ag 3 44 ?_;refine il 2 8 (fun K hK=>?_) (fun K hK=>?_)
   ·go_simp
    (with_reducible refine(VE F HID).mono ?_)
    rintro e I ⟨AK,cK,rfl,sK,_⟩;dsimp only;refine av hK ?_;clear hK K;refine il 4 8 (fun K hK=>?_) (fun K hK=>?_)
    focus
     go_simp
     (with_reducible refine(VA U F Q C M P).mono ?_)
     rintro e I ⟨rfl,_⟩;dsimp only;refine av hK ?_;clear hK K;refine ag 5 40 ?_;refine ag 6 46 ?_;refine ag 7 47 ?_;refine ay 8 fun K hK=>?_;go_simp;refine av hK ?_;clear hK K;refine bY (fun I _ _=>?_)
    rotate_left
    focus
     go_simp;refine av hK ?_;clear hK K;refine bY (fun I _ _=>?_);refine ay 4 fun K hK=>?_;go_simp
     (with_reducible refine(VA U F Q C M P).mono ?_)
     rintro e I ⟨rfl,_⟩;dsimp only;refine av hK ?_;clear hK K;refine ag 5 40 ?_;refine ag 6 46 ?_;refine ag 7 47 ?_
    all_goals
     refine ay 9 fun K hK=>?_;rename World=>wN;go_simp;refine vS hK (fun _=>?_) (wP aH);clear hK K;refine ag 10 12 ?_;refine aO ?_
     go_wp2_with fail
     go_meet
     case rel=>exact⟨_,rfl,rfl,aer _ _ _ _,wP aH⟩
   ·go_simp;refine av hK ?_;clear hK K;refine bY (fun I _ _=>?_);refine ay 2 fun K hK=>?_;go_simp
    (with_reducible refine(VE F HID).mono ?_)
    rintro e I ⟨AK,cK,rfl,sK,_⟩;dsimp only;refine av hK ?_;clear hK K;refine ay 4 fun K hK=>?_;go_simp
    (with_reducible refine(VA U F Q C M P).mono ?_)
    rintro e I ⟨rfl,_⟩;dsimp only;refine av hK ?_;clear hK K;refine ag 5 40 ?_;refine ag 6 46 ?_;refine ag 7 47 ?_;refine ay 9 fun K hK=>?_;rename World=>wN;go_simp;refine vS hK (fun _=>?_) (wP aH);clear hK K;refine ag 10 12 ?_;refine aO ?_
    go_wp2_with fail
    go_meet
    case rel=>exact⟨_,rfl,rfl,aer _ _ _ _,wP aH⟩
  case rest=>
   obtain⟨G,rfl,rfl,kG,pG⟩:=hcut;rename World=>wx;obtain⟨E,hE⟩:=lh (Bj bs);obtain⟨V,hV⟩:=lh (KX bs);have HE:=ae hE;have HV:=ae hV;have hcs:=asy (bs:=bs);rw[hE]at hcs;have hvl:V.length<=65536:=by
    rw[<-hV];unfold KX
    split
    ·have:=ad4 bs;rw[HY5.out]at this;omega
    ·exact aS _
   obtain⟨k,hk⟩:=lh V.length;have HK:=ae hk;rw[hk]at hvl;clear hE hV hk
   go_upto_region 10 with(go_at_call 13;refine(asx VD HE HV).mono ?_;rintro e u6 ⟨AC,cC,rfl,oC,_⟩;rw[HK.out])
   rcases hcs with rfl|rfl|rfl
   rotate_left
   ·go_wp2_with (go_at_call 8;refine G9.mono ?_;rintro e u7 ⟨rfl,_⟩)
    go_ret;exact⟨rfl,aL w _⟩
   ·go_wp2_with (go_at_call 8;refine G9.mono ?_;rintro e u7 ⟨rfl,_⟩)
    go_ret;exact⟨rfl,aL w _⟩
   have iC:Is u6 AC k V:=⟨bX.rd oC,HK.out.symm⟩;clear oC;obtain⟨⟨P1,P2,P3,P4⟩,R⟩:=lh (rR N cap V);obtain⟨E,S⟩:=lh (nk N cap V);have asU:=ae R;have asV:=ae S;have b:=asT.out cap hc0 V;rw[S,R]at b;clear R S
   go_upto_region 13 with(go_at_call 14;refine(Uy U F hvl om asV asU).mono ?_;rintro e u7 ⟨rfl,_⟩)
   refine bI (fun u8 p8 k8=>?_);by_cases h0:E=0
   ·subst h0;obtain⟨l1,l2⟩:=b rfl;have g1:decide (Q2<=P2)=true:=by simpa using l1
    have g2:decide (P1<=cap)=true:=by simpa using l2
    clear b l1 l2
    go_wp2_with (go_at_call 8;refine G9.mono ?_;rintro e u9 ⟨rfl,_⟩)
    go_ret;exact⟨rfl,aL w _⟩
   ·have b0:(E !=0)=true:=by simp[h0]
    clear b h0
    go_wp2_with (go_at_call 8;refine G9.mono ?_;rintro e u9 ⟨rfl,_⟩)
    go_ret;exact⟨rfl,aL w _⟩
end
theorem asW:Go.joinedFacts Tryz.pinned.checked.prog 3 Tryz.f3 Rows.wholeCostsSpec Rows.wholeCostsRow=true:=aj
theorem asX:Tryz.pinned.checked.prog.funcNamed Rows.wholeCostsRow.func=some 3:=aj
section
open Go.ChangeShapes Go.WideShapes Go.ChangeAt Go.RowKit
theorem asY(os:Os)(b:os.Started)(H:Type)(enc:TypeId×Value->H):
  ReturnsInHanded {} Tryz.checked os 3 .any (Rows.wholeCostsSpec.pre6 enc Tryz.prog Tryz.f3 Rows.wholeCostsRow.domain false) (Rows.wholeCostsSpec.post enc Tryz.prog Tryz.f3 false true false false):=by
 refine returnsInHanded_of_change_sized (C:=Tryz.checked) aeK b aj Tryz.func3
  (ChangeSpec.witness6 (enc:=enc) (C:=Tryz.checked) false ⟨#[],#[.agg #[.slice none 0 0,.slice none 0 0,.slice none 0 0,.slice none 0 0,(0:Int),(0:Int)],.slice none 0 0],[]⟩ 8 aj aj aj aj) ?_
 intro W base args M gs F l N _ u _;have B:(DataW.weightsEach Tryz.prog (Tryz.f3.params.toList++Rows.wholeCostsSpec.plain.varTypes Tryz.prog) (M++gs)).all (· <=reachBytes)=true:=u;have m:∀(j:Nat) t v,Tryz.f3.params[j]?=some t->args[j]?=some v->Value.okWide Tryz.prog W .any base t v:=l;have G:=N;obtain⟨p,q,D,hV,rfl,_,_⟩:=N;have I:DataW.TrodAll enc Tryz.prog W 0 (fun _=>true) true Tryz.f3.params.toList args.toList M p:=D;rw[Tryz.params3]at I m B;have E:=I;obtain⟨v0,Q,d0,R,p0,q0,J,rfl,rfl,S,r0⟩:=trodAll_cons I;obtain⟨v1,T,d1,U,p1,q1,rfl,rfl,rfl,V,r1⟩:=trodAll_cons r0;obtain⟨rfl,rfl,rfl⟩:=trodAll_nil r1;obtain rfl:args= #[v0,v1]:=by cases args;simp_all
 obtain⟨rfl,rfl⟩:=trodVars_none hV;obtain⟨BA,cb,zs,PA,cp,ps,XA,cx,O,XB,dx,xs,pl,cap,rfl,s0,K,r,L,y,X,l1⟩:=apW (m 0 30 v0 rfl rfl) S (afy B (j:=0) rfl rfl);obtain⟨K1,Y,Z,rfl,bk1,P⟩:=apV (m 1 22 v1 rfl rfl) V;have tp1:Ts W PA ps.length ps:=⟨r.rd,rfl⟩;have sx1:Sl W XA O.length O:=⟨L.rd,rfl⟩;have sy1:Sl W XB xs.length xs:=⟨y.rd,rfl⟩;have ZT:Le xs.length dx:=⟨y.2.1⟩;have i61:dh xs:=⟨fun z hz=>WV (y.2.2.2 z hz)⟩;clear D l u;refine(asN K (ae r.big) (ae r.afz) (by have:=r.len;omega) ⟨X,l1⟩).mono fun e W' ⟨he,aL⟩=>?_;subst he;exact⟨_,rfl,_,_,_,[],_,[],G,trodAll_mk1 (shut_bool Tryz.underlying4 _),aeI aeL (by decide+kernel) E aL,rfl,aL.frame _,fun h=>by cases h⟩
theorem wholeCosts_holds:Rows.WholeCostsSaid:=
 OpenClaim.holds_of_wide 3 Tryz.f3 rfl rfl rfl rfl rfl rfl rfl ⟨rfl,rfl,rfl,rfl,rfl⟩ rfl rfl rfl rfl rfl asX Tryz.func3 asW
  (Bu aj) (by unfold Func.isWrapper;first|(rw[if_pos (by decide+kernel)];kernel_rfl)|(rw[if_neg (by decide+kernel)];exact⟨rfl,rfl⟩))
  (fun os b H enc _=>asY os b H enc)
end
end Go.Proofs.YtmkjnlifimffkaaGreat
