/- Lemmas. No condition. -/
import Derived.Test.YtmkjnlifimffkaaGreatS28
namespace Go.Proofs.YtmkjnlifimffkaaGreat
open Go.RowKit
set_option linter.all false
set_option maxRecDepth 100000
set_option maxHeartbeats 16000000
section
variable{p w w':World}{a:mZ}{m:Nat}{C:iQ}{s:di}{ss:List Sp}
theorem anp(hP:jV p a m C ss)(h:dH p w a m C s){id:Nat}(hid:id<=m)(r:s.aT.getD id false=true)(j:Hid (nL C s id=true))(D:0<=s.done)(hd:s.done<(m:Int)){b:Bool}(hb:Hid ((C.order.getD ((m:Int)-1-s.done).toNat 0==(id:Int))=b)):
  Calls Tryz.prog 87 #[.pointer p.heap.size,.agg #[(6:Int),id]] w (aM w (.bool b)):=by
 obtain⟨N,O⟩:=lM;have P:Bx w p.heap.size 108 (jW p a m C s):=⟨h.st⟩;have hm:=hP.hm;have Q:=h.prev;obtain⟨E,u,y⟩:=lq h.lg (show id<m+1 by omega);obtain rfl:E=true:=by rw[<-y];exact r
 have R:Bx w (p.heap.size+1+1+1) 4 (dL s.aT):=⟨h.gr⟩;have F:=iN u;have B:(id:Int)<(m:Int)+1:=by omega
 obtain⟨q,hq⟩:∃q:Nat,(m:Int)-1-s.done=(q:Int):=⟨((m:Int)-1-s.done).toNat,om⟩;have l:q<m:=om;obtain⟨AW,cW,AC,cC,AI,cI,AO,cO⟩:=a;have G:Sl p AO m C.order:=hP.order;obtain⟨S,o1,z,rfl,I,v1,J⟩:=G.get l;have L:Hid ((z==(id:Int))=b):=ae (by rw[<-hb.out,hq,dD,xZ J.out]);have T:IntKind.i64.wrap ((m:Int)-1)=(m:Int)-1:=by rw[bF];omega
 have U:IntKind.i64.wrap ((m:Int)-1-s.done)=(q:Int):=by rw[bF,hq];omega
 clear u y r hq hb;go_enter Tryz.func87,Tryz.ntmps87
 go_upto_region 14 with fail
 refine bZ aj (fun M _=>?_);refine ag 0 86 ?_;refine ag 1 87 ?_;refine ag 2 88 ?_;refine ag 3 89 ?_;refine ag 4 90 ?_;refine ag 5 91 ?_;refine ag 6 92 ?_;refine ag 7 93 ?_;refine ag 8 94 ?_;refine ag 9 95 ?_;refine ay 10 fun K hK=>?_;go_simp
 (with_reducible refine(JI hP h.at hid j).mono ?_)
 rintro e M ⟨rfl,_⟩;dsimp only;refine av hK ?_;clear hK K;refine ag 11 97 ?_;refine ag 12 98 ?_;refine ag 13 99 ?_;refine ag 14 100 ?_;refine ag 15 101 ?_;refine ag 16 102 ?_;refine ag 17 103 ?_;refine ag 18 104 ?_;refine ag 19 105 ?_;refine ag 20 106 ?_;refine ag 21 107 ?_;refine ag 22 108 ?_;refine ag 23 109 ?_;refine ag 24 110 ?_;refine ag 25 111 ?_;refine ag 26 112 ?_;refine ag 27 113 ?_;refine ag 28 114 ?_;refine ag 29 115 ?_;refine ag 30 116 ?_;refine ag 31 117 ?_;refine ag 32 118 ?_;refine ag 33 119 ?_;refine ag 34 120 ?_;refine ag 35 121 ?_;refine ag 36 122 ?_;refine ag 37 123 ?_;refine ag 38 124 ?_;refine ag 39 125 ?_;refine ag 40 126 ?_;refine ag 41 127 ?_;refine ag 42 128 ?_;refine ag 43 129 ?_;refine ag 44 130 ?_;refine ag 45 4 ?_;refine aO ?_
 go_wp2_with fail
 go_ret;exact⟨by rw[L.out];rfl,ai _ _⟩
theorem Ud(hP:jV p a m C ss)(h:dH p w a m C s){e id:Int}(hr:gK e id=true)(hid:id<=m)(r:0<=s.done){b:Bool}(hb:Hid (fV C s e id.toNat=b)):
  Calls Tryz.prog 87 #[.pointer p.heap.size,.agg #[e,id]] w (aM w (.bool b)):=by
 by_cases l:e=4\/e=5
 ·obtain rfl:id=0:=by rw[Oi l]at hr;simpa using hr
  rcases l with rfl|rfl
  ·exact anl hP h hb
  ·exact ani h hb
 ·have k:e=1\/e=2\/e=3\/e=6:=by
   by_cases k:e=1\/e=2\/e=3\/e=6
   ·exact k
   ·rw[gK,if_neg l,if_neg k]at hr;cases hr
  rw[AQ k]at hr;simp only[dm,dU]at hr;obtain⟨q,rfl⟩:∃q:Nat,id=(q:Int):=⟨id.toNat,om⟩;rw[dD]at hb;have hq:q<=m:=om;rcases k with rfl|rfl|rfl|rfl
  ·exact anj hP h hq hb
  ·exact ank hP h hq hb
  ·exact anh hP h hq hb
  ·have u:C.order.length=m:=hP.order.len.symm;have j:=hb.out;rw[fV,if_neg ah,if_neg ah,if_neg ah,if_neg ah,if_neg ah,u]at j;rcases hg:s.aT.getD q false with _|_
   ·rw[hg]at j;obtain rfl:false=b:=by simpa using j
    exact anm hP h hq hg
   ·rw[hg]at j;rcases hy:nL C s q with _|_
    ·rw[hy]at j;obtain rfl:false=b:=by simpa using j
     exact ann hP h hq hg (ae hy)
    ·rw[hy]at j;by_cases hd:s.done<(m:Int)
     ·rw[l8 hd]at j;exact anp hP h hq hg (ae hy) r hd (ae (by simpa using j))
     ·rw[nC hd]at j;obtain rfl:false=b:=by simpa using j
      exact ano hP h hq hg (ae hy) hd
theorem abE(hP:jV p a m C ss)(h:dH p w a m C s){b id:Int}(hr:gK b id=true)(hid:id<=m){V:Int}(hV:Hid (bK C s b id.toNat=V)):
  Calls Tryz.prog 88 #[.pointer p.heap.size,.agg #[b,id]] w (aM w (.int .i64 V)):=by
 by_cases e:b=4\/b=5
 ·obtain rfl:id=0:=by rw[Oi e]at hr;simpa using hr
  rcases e with rfl|rfl
  ·obtain rfl:0=V:=by rw[<-hV.out];rfl
   exact abC (.inr rfl)
  ·exact am8 hP h hV
 ·have k:b=1\/b=2\/b=3\/b=6:=by
   by_cases k:b=1\/b=2\/b=3\/b=6
   ·exact k
   ·rw[gK,if_neg e,if_neg k]at hr;cases hr
  rw[AQ k]at hr;simp only[dm,dU]at hr;obtain⟨q,rfl⟩:∃q:Nat,id=(q:Int):=⟨id.toNat,om⟩;rw[dD]at hV;have hq:q<=m:=om;rcases k with rfl|rfl|rfl|rfl
  ·exact abB hP h hq (.inl rfl) hV
  ·exact abB hP h hq (.inr rfl) hV
  ·obtain rfl:0=V:=by rw[<-hV.out];rfl
   exact abC (.inl rfl)
  ·exact am9 hP h hq hV
end
structure eX(p:World)(wb:Nat)(w:World)(a:mZ)(m:Nat)(C:iQ)(s:di)(kd id:Int):Prop where
 ck:dH p w a m C s
 box:aD w wb 98 #[kd,id]
 far:p.heap.size+3<wb
section
variable{p w w':World}{a:mZ}{wb m i:Nat}{C:iQ}{s:di}{ss:List Sp}{kd id nw pk dn z:Int}{pr sv gr:List Bool}{em sd b:Bool}
theorem eX.at(h:eX p wb w a m C s kd id)[Later w w']:eX p wb w' a m C s kd id:=⟨h.ck.at,h.box.at,h.far⟩
theorem eX.Ue(h:eX p wb w a m C ⟨pr,sv,gr,em,sd,dn,nw,pk⟩ kd id)(z:Int):eX p wb (w.setCell ⟨p.heap.size,12,none⟩ (.int .i64 z)) a m C ⟨pr,sv,gr,em,sd,dn,z,pk⟩ kd id:=⟨h.ck.anf z,h.box.far (by have:=h.far;simp;omega) _,h.far⟩
theorem eX.spk(h:eX p wb w a m C ⟨pr,sv,gr,em,sd,dn,nw,pk⟩ kd id)(z:Int):eX p wb (w.setCell ⟨p.heap.size,13,none⟩ (.int .i64 z)) a m C ⟨pr,sv,gr,em,sd,dn,nw,z⟩ kd id:=⟨h.ck.ang z,h.box.far (by have:=h.far;simp;omega) _,h.far⟩
theorem eX.sdn(h:eX p wb w a m C ⟨pr,sv,gr,em,sd,dn,nw,pk⟩ kd id)(z:Int):eX p wb (w.setCell ⟨p.heap.size,11,none⟩ (.int .i64 z)) a m C ⟨pr,sv,gr,em,sd,z,nw,pk⟩ kd id:=⟨h.ck.ane z,h.box.far (by have:=h.far;simp;omega) _,h.far⟩
theorem eX.sem(h:eX p wb w a m C ⟨pr,sv,gr,em,sd,dn,nw,pk⟩ kd id)(b:Bool):eX p wb (w.setCell ⟨p.heap.size,9,none⟩ (.bool b)) a m C ⟨pr,sv,gr,b,sd,dn,nw,pk⟩ kd id:=⟨h.ck.anb b,h.box.far (by have:=h.far;simp;omega) _,h.far⟩
theorem eX.ssd(h:eX p wb w a m C ⟨pr,sv,gr,em,sd,dn,nw,pk⟩ kd id)(b:Bool):eX p wb (w.setCell ⟨p.heap.size,10,none⟩ (.bool b)) a m C ⟨pr,sv,gr,em,b,dn,nw,pk⟩ kd id:=⟨h.ck.anc b,h.box.far (by have:=h.far;simp;omega) _,h.far⟩
theorem eX.Uf(h:eX p wb w a m C ⟨pr,sv,gr,em,sd,dn,nw,pk⟩ kd id)(i:Nat)(b:Bool):eX p wb (w.setCell ⟨p.heap.size+1,i,none⟩ (.bool b)) a m C ⟨pr.set i b,sv,gr,em,sd,dn,nw,pk⟩ kd id:=⟨h.ck.Gw i b,h.box.far (by have:=h.far;simp;omega) _,h.far⟩
theorem eX.ssv(h:eX p wb w a m C ⟨pr,sv,gr,em,sd,dn,nw,pk⟩ kd id)(i:Nat)(b:Bool):eX p wb (w.setCell ⟨p.heap.size+1+1,i,none⟩ (.bool b)) a m C ⟨pr,sv.set i b,gr,em,sd,dn,nw,pk⟩ kd id:=⟨h.ck.am5 i b,h.box.far (by have:=h.far;simp;omega) _,h.far⟩
theorem eX.Ug(h:eX p wb w a m C ⟨pr,sv,gr,em,sd,dn,nw,pk⟩ kd id)(i:Nat)(b:Bool):eX p wb (w.setCell ⟨p.heap.size+1+1+1,i,none⟩ (.bool b)) a m C ⟨pr,sv,gr.set i b,em,sd,dn,nw,pk⟩ kd id:=⟨h.ck.am6 i b,h.box.far (by have:=h.far;simp;omega) _,h.far⟩
theorem eX.facts(h:eX p wb w a m C ⟨pr,sv,gr,em,sd,dn,nw,pk⟩ kd id):ak w p/\Bx w p.heap.size 108 (jW p a m C ⟨pr,sv,gr,em,sd,dn,nw,pk⟩)/\Bx w wb 98 #[kd,id]/\Bx w (p.heap.size+1) 4 (dL pr)/\Bx w (p.heap.size+1+1) 4 (dL sv)/\Bx w (p.heap.size+1+1+1) 4 (dL gr):=
 ⟨h.ck.prev,⟨h.ck.st⟩,⟨h.box⟩,⟨h.ck.pr⟩,⟨h.ck.sv⟩,⟨h.ck.gr⟩⟩
def iV(C:iQ)(s:di)(kd id:Int):Int:=
 if gK kd id=true/\id<(C.words.length:Int)then(if fV C s kd id.toNat then(if s.now+bK C s kd id.toNat<=C.cap then 0 else 25)else 24)else 10
def iW(gr:List Bool)(F:List Int):List Bool:=F.foldl (fun G z=>G.set z.toNat true) gr
def bB(C:iQ)(s:di)(kd id:Int):di:=
 let q:=id.toNat
 let n:=s.now+bK C s kd q
 let k:=max s.fE n
 if kd=1\/kd=2 then⟨s.present.set q true,s.saved.set q true,s.aT,s.gG,s.gu,s.done,n,k⟩
 else if kd=3 then⟨s.present.set q false,s.saved,s.aT,s.gG,s.gu,s.done,n-C.words.getD q 0,k⟩
 else if kd=4 then⟨s.present,s.saved,s.aT,true,s.gu,s.done,n,k⟩
 else if kd=5 then⟨s.present,s.saved,s.aT.set C.jl true,s.gG,true,s.done,n,k⟩
 else⟨s.present,s.saved,(iW s.aT (jA C s q)).set q false,s.gG,s.gu,s.done+1,n-C.words.getD q 0,k⟩
theorem abG{L:List Int}{b:Int}(hb:0<=b)(h:∀z∈L,0<=z/\z<=b)(y:Nat):0<=L.getD y 0/\L.getD y 0<=b:=by
 rw[aQ];rcases hy:L[y]? with _|z
 ·exact⟨jg _,hb⟩
 ·exact h z (aK hy)
theorem abH(hP:jV p a m C ss)(q:Nat):(jA C s q).length<=1000:=by
 have e:=Uc s.aT (C.ins.getD q []) [];rw[E8,fo]at e;refine aZ e ?_;rw[aQ];rcases hy:C.ins[q]? with _|z
 ·exact aS _
 ·exact(hP.iR z (aK hy)).1
theorem anv(hP:jV p a m C ss){q:Nat}{z:Int}(e:z∈jA C s q):0<=z/\z<=m:=by
 rcases Ub _ _ _ z e with h|h
 ·rw[aQ]at h;rcases hy:C.ins[q]? with _|l
  ·rw[hy]at h;cases h
  ·rw[hy]at h;exact(hP.iR l (aK hy)).2 z h
 ·cases h
theorem Uh(hP:jV p a m C ss)(kd:Int)(q:Nat):0<=bK C s kd q/\bK C s kd q<=1099511627776000:=by
 have e:=abG om hP.wb;unfold bK
 split
 ·have:=e q;omega
 ·split
  ·have:=e C.jl;omega
  ·split
   ·have j:=abD (L:=(jA C s q).map fun z=>C.words.getD z.toNat 0) (b:=1099511627776) (fun x l=>by
     obtain⟨y,_,rfl⟩:=dG.1 l;exact e _)
    have r:=abH (s:=s) hP q;rw[dF]at j;omega
   ·omega
theorem AR:∀(F:List Int) (G:List Bool),(iW G F).length=G.length
 |[],_=>rfl
 |z::t,G=>by rw[iW,yD,<-iW,AR t];simp
theorem anw(G:List Bool)(F:List Int)(z:Int):iW G (F++[z])=(iW G F).set z.toNat true:=by simp[iW]
end
end Go.Proofs.YtmkjnlifimffkaaGreat
