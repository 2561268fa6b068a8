/- Lemmas. No condition. -/
import Derived.Test.YtmkjnlifimffkaaGreatS31
namespace Go.Proofs.YtmkjnlifimffkaaGreat
open Go.RowKit
set_option linter.all false
set_option maxRecDepth 100000
set_option maxHeartbeats 16000000
structure ql(w0 w:World)(t:Nat)(T:TypeId)(cs:Array Value)(gs:List (Nat×TypeId×Array Value)):Prop where
 pr:ak w w0
 box:aD w t T cs
 bs:∀x∈gs,aD w x.1 x.2.1 x.2.2
 nd:(t::gs.map (·.1)).Nodup
 ge:∀x∈gs,w0.heap.size<=x.1
 ht:w0.heap.size<=t
def wO(q:Nat)(ins:List Int)(L:List Int):List Int:=ins.foldl (fun L z=>L.set z.toNat (q:Int)) L
def oJ(N:aI)(O:List Int):Nat->List Int->List Int
 |0,L=>L
 |q+1,L=>oJ N O q (wO (q+1) (bG N (O.getD q 0)) L)
section
variable{p w w' u w0:World}{A B:Option Addr}{n m c d t:Nat}{T U:TypeId}{cs ds:Array Value}{gs:List (Nat×TypeId×Array Value)}{N:aI}{O La:List Int}{L:List (List Int)}{l:Nat}{E:Int}
theorem ql.bx(h:ql w0 w t T cs gs):Bx w t T cs:=⟨h.box⟩
theorem ql.at[l:Later w w'](h:ql w0 w t T cs gs):ql w0 w' t T cs gs:=⟨⟨dS h.pr.st l.st⟩,h.box.at,fun x b=>(h.bs x b).at,h.nd,h.ge,h.ht⟩
theorem ql.mk'[ak w' w](h:ql w0 w t T cs gs)(k:aD w' w.heap.size U ds):ql w0 w' t T cs ((w.heap.size,U,ds)::gs):=by
 have j:=h.at (w':=w');refine⟨j.pr,j.box,fun x b=>?_,?_,fun x b=>?_,h.ht⟩
 ·rcases dz.1 b with rfl|b
  ·exact k
  ·exact j.bs x b
 ·have r:=h.nd;rw[pg]at r;rw[fe,pg,pg];refine⟨fun hm=>?_,fun hm=>?_,r.2⟩
  ·rcases dz.1 hm with e|hm
   ·have:=h.box.lt;rw[e]at this;exact Df _ this
   ·exact r.1 hm
  ·obtain⟨x,b,e⟩:=dG.1 hm;have:=(h.bs x b).lt;rw[e]at this;exact Df _ this
 ·rcases dz.1 b with rfl|b
  ·exact h.pr.st.size
  ·exact h.ge x b
theorem ql.set(h:ql w0 w t T cs gs)(i:Nat)(v:Value):ql w0 (w.setCell ⟨t,i,none⟩ v) t T (cs.setIfInBounds i v) gs:=
 ⟨⟨h.pr.st.setCell (p:=⟨t,i,none⟩) h.ht _⟩,h.box.aF i v,fun x b=>(h.bs x b).far (fun e=>(pg.1 h.nd).1 (by have j:x.1=t:=e;rw[<-j];exact dG.2 ⟨x,b,rfl⟩)) _,h.nd,h.ge,h.ht⟩
theorem ql.fin{a:vB}{F K P:Nat}{z:List Int}{f g:List Bool}(h:ql w0 w t 172 (JJ a ⟨t,F,K,P⟩ m l none 0 ⟨z,f,g,[]⟩) gs)(b:(F,3,ints z)∈gs)(e:(K,4,dL f)∈gs)(j:(P,4,dL g)∈gs)(r:K≠P)(y:z.length=m+1)(lf:f.length=m+1)(lg:g.length=m+1):lW w0 w a ⟨t,F,K,P⟩ m l none 0 ⟨z,f,g,[]⟩:=
 ⟨h.pr,h.box,h.bs _ b,h.bs _ e,h.bs _ j,bX.nil _ _,r,h.ht,h.ge _ b,h.ge _ e,h.ge _ j,y,lf,lg⟩
theorem anU[aX w A n B m N](j:Hid N.fits)(hs:Hid N.small)(hE:Hid (bU N=E)){W:List Int}(hV:Hid (zB N=W)){x:Nat}(r:Hid (W.length=x)):
  Calls Tryz.prog 133 #[.agg #[.slice A n c,.slice B m d]] w fun e w'=>∃A c,e=.returned (.tuple #[.slice A x c,E])/\Sl w' A x W/\aG w' w.heap.size 3 A c W/\ak w' w:=by
 obtain rfl:=r.out;exact(amK j hs hE hV).mono fun e w' ⟨A,c,y,b,z⟩=>⟨A,c,y,⟨b.rd,rfl⟩,b,z⟩
def anV(w:World)(N:aI)(O La:List Int)(l m:Nat)(e:Ending)(w':World):Prop:=
 ∃(p:World) (a:vB) (G:vD),e=.returned (.tuple #[.pointer G.g,(0:Int)])/\ak p w/\aX p a.AI a.nI a.BN m N/\Sl p a.AO m O/\Sl p a.AL (m+1) La/\
  Hid (gy p w' a G m l ⟨oJ N O m (List.replicate (m+1) 0),List.replicate (m+1) false,(List.replicate (m+1) false).set 0 true,[]⟩)
theorem anW[aX w A n B m N](C:Hid N.fits)(hs:Hid N.small)(b:Hid (bU N=E))(z:E≠0):Calls Tryz.prog 79 #[.agg #[.slice A n c,.slice B m d]] w (aM w (.tuple #[.pointer none,E])):=by
 have D:=@bf;obtain⟨⟨O,L,l⟩,j⟩:=jS (gZ N);obtain⟨y,r⟩:=jS O.length;have F:(E !=0)=true:=by simp[z]
 clear z;go_enter Tryz.func79,Tryz.ntmps79
 go_wp2_with (first|(go_at_call 60;(with_reducible refine(Eo C hs b j r).mono ?_);rintro e u ⟨AO,cO,rfl,G,I,J⟩))
 go_ret2;exact⟨rfl,ai _ _⟩
theorem anX[a:aX w A n B m N](hf:Hid N.fits)(hs:Hid N.small)(zD:Hid (bU N=0))(hN:Hid (dX N O L l))(lS:Hid (gZ N=(O,L,(l:Int))))(Om:Hid (zB N=La))(hm:m<=512):
  Calls Tryz.prog 79 #[.agg #[.slice A n c,.slice B m d]] w (anV w N O La l m):=by
 obtain⟨CB,CP,FB⟩:=iK;have HM:Hid (m=N.nodes.length):=ae a.len;have DI:Hid (O.length=m):=ae (by rw[hN.out.zz,HM.out]);have JN:Hid (La.length=m+1):=ae (by
  rw[<-Om.out,zB,if_pos zD.out,abt,lF,HM.out])
 have Uw:∀W:World,(Instr.makeSlice 24 (.int .i64 ((m:Int)+1)) (.int .i64 ((m:Int)+1))).run Tryz.prog W=.ok (.slice (some ⟨W.heap.size,0,none⟩) (m+1) (m+1)) (W.alloc (.cells (ints (List.replicate (m+1) 0)) 3)):=fun W=>by
  have h:=Gl (m+1) om W;rwa[mF]at h
 have Js:∀W:World,(Instr.makeSlice 106 (.int .i64 ((m:Int)+1)) (.int .i64 ((m:Int)+1))).run Tryz.prog W=.ok (.slice (some ⟨W.heap.size,0,none⟩) (m+1) (m+1)) (W.alloc (.cells (dL (List.replicate (m+1) false)) 4)):=fun W=>by
  have h:=NI (m+1) om W;rwa[mF]at h
 go_enter Tryz.func79,Tryz.ntmps79
 go_upto_region 1 with fail
 refine bI (fun u0 _ kn=>?_)
 go_upto_region 11 with(first|(go_at_call 60;(with_reducible refine(Eo hf hs zD lS DI).mono ?_);rintro e u ⟨AO,cO,rfl,sO,oO,pO⟩)|(go_at_call 133;(with_reducible refine(anU hf hs zD Om JN).mono ?_);rintro e u ⟨AL,cL,rfl,sL,oL,pL⟩)|(go_at_call 61;(with_reducible refine(Tz hf hs zD lS).mono ?_);rintro e u ⟨rfl,_⟩))
 obtain⟨p,hp⟩:=lg u;rw[<-hp];obtain⟨nip,sOp,sLp,pp⟩:aX p A n B m N/\Sl p AO m O/\Sl p AL (m+1) La/\ak p w:=by rw[hp];exact⟨iin,iin,iin,ai _ _⟩
 have kn:Bx p w.heap.size 33 #[.slice A n c,.slice B m d]:=by rw[hp];exact iin
 clear hp
 go_upto_region 12 with fail
 refine bI (fun u2 _ G=>?_);obtain⟨tb,htb⟩:=lg p.heap.size;have b:Hid (ql p u2 tb 172 #[.slice A n c,.slice B m d,.slice AO m cO,.slice AL (m+1) cL,.slice none 0 0,l,.slice none 0 0,.slice none 0 0,.slice none 0 0] []):=ae ⟨iin,by rw[htb];exact G.blk,au,au,au,by rw[htb];exact az _⟩;rw[<-htb]at G⊢;clear htb
 go_cut [] (fun wx=>∃F K P,Hid (lW p wx ⟨A,n,c,B,d,AO,cO,AL,cL⟩ ⟨tb,F,K,P⟩ m l none 0 ⟨List.replicate (m+1) 0,List.replicate (m+1) false,List.replicate (m+1) false,[]⟩))
 case first=>
  refine eU p aj (fun j _=>?_);refine ag 0 47 ?_;refine ag 1 48 ?_;refine ag 2 49 ?_;refine ag 3 50 ?_;refine ag 5 52 ?_;refine ag 7 54 ?_;refine wpAnyH_ready (rs:=[4,6,8]) aj au ?_;refine AllReadyH.cons rfl (fun K hK=>?_) (AllReadyH.cons rfl (fun K hK=>?_) (AllReadyH.cons rfl (fun K hK=>?_) AllReadyH.nil))
  ·obtain⟨Z,tY⟩:=lg ((World.heap j).size);have b:=ae (b.out.at (w':=j));go_simp;refine av hK ?_;clear hK K;refine bY (fun j _ _=>?_);have b:=ae (b.out.mk' (w':=j) Bx.blk);rw[<-tY]at b⊢;clear tY;have G:=b.out.bx;refine ag 9 56 ?_;refine ag 10 57 ?_;refine wpAnyH_ready (rs:=[6,8,11]) aj au ?_;refine AllReadyH.cons rfl (fun K hK=>?_) (AllReadyH.cons rfl (fun K hK=>?_) (AllReadyH.cons rfl (fun K hK=>?_) AllReadyH.nil))
   ·obtain⟨S,Q⟩:=lg ((World.heap j).size);have b:=ae (b.out.at (w':=j));go_simp;refine av hK ?_;clear hK K;refine bY (fun j _ _=>?_);have b:=ae (b.out.mk' (w':=j) Bx.blk);rw[<-Q]at b⊢;clear Q;have G:=b.out.bx;refine il 8 11 (fun K hK=>?_) (fun K hK=>?_)
    ·obtain⟨X,D⟩:=lg ((World.heap j).size);have b:=ae (b.out.at (w':=j));go_simp;refine av hK ?_;clear hK K;refine bY (fun j _ _=>?_);have b:=ae (b.out.mk' (w':=j) Bx.blk);rw[<-D]at b⊢;clear D;have G:=b.out.bx;refine ay 11 fun K hK=>?_;go_simp;have r:=ae (b.out.set 4 (.slice Z (m+1) (m+1)));obtain⟨v1,J⟩:=lg (j.setCell ⟨tb,4,none⟩ (.slice Z (m+1) (m+1)));rw[<-J]at r⊢;clear J b;obtain⟨b,-⟩:_/\True:=⟨r,bO⟩;clear r;have V:=b.out.pr;have G:=b.out.bx;refine av hK ?_ V;clear hK K;obtain⟨j,rfl⟩:=lg v1;refine ag 12 58 ?_;refine ag 13 59 ?_;refine ay 14 fun K hK=>?_;go_simp;have r:=ae (b.out.set 6 (.slice S (m+1) (m+1)));obtain⟨v2,C⟩:=lg (j.setCell ⟨tb,6,none⟩ (.slice S (m+1) (m+1)));rw[<-C]at r⊢;clear C b;obtain⟨b,-⟩:_/\True:=⟨r,bO⟩;clear r;have R:=b.out.pr;have G:=b.out.bx;refine av hK ?_ R;clear hK K;obtain⟨j,rfl⟩:=lg v2;refine ag 15 60 ?_;refine ag 16 61 ?_;refine ay 17 fun K hK=>?_;go_simp;have r:=ae (b.out.set 7 (.slice X (m+1) (m+1)));obtain⟨v3,M⟩:=lg (j.setCell ⟨tb,7,none⟩ (.slice X (m+1) (m+1)));rw[<-M]at r⊢;clear M b;obtain⟨b,-⟩:_/\True:=⟨r,bO⟩;clear r;have Y:=b.out.pr;have G:=b.out.bx;refine av hK ?_ Y;clear hK K;obtain⟨j,rfl⟩:=lg v3;refine aO ?_
     go_wp2_with fail
     go_meet
     have ND:=b.out.nd;simp only[pg,fe,lG,dz,mG,pI,not_or,yB,yK,vN]at ND;exact⟨Z,S,X,ae (b.out.fin au au au (by rintro rfl;simp at ND) au au au)⟩
    ·go_simp;have r:=ae (b.out.set 4 (.slice Z (m+1) (m+1)));obtain⟨v1,J⟩:=lg (j.setCell ⟨tb,4,none⟩ (.slice Z (m+1) (m+1)));rw[<-J]at r⊢;clear J b;obtain⟨b,-⟩:_/\True:=⟨r,bO⟩;clear r;have V:=b.out.pr;have G:=b.out.bx;refine av hK ?_ V;clear hK K;obtain⟨j,rfl⟩:=lg v1;refine ag 12 58 ?_;refine ag 13 59 ?_;refine il 8 14 (fun K hK=>?_) (fun K hK=>?_)
     focus
      obtain⟨X,D⟩:=lg ((World.heap j).size);have b:=ae (b.out.at (w':=j));go_simp;refine av hK ?_;clear hK K;refine bY (fun j _ _=>?_);have b:=ae (b.out.mk' (w':=j) Bx.blk);rw[<-D]at b⊢;clear D;have G:=b.out.bx;refine ay 14 fun K hK=>?_;go_simp;have r:=ae (b.out.set 6 (.slice S (m+1) (m+1)));obtain⟨v2,C⟩:=lg (j.setCell ⟨tb,6,none⟩ (.slice S (m+1) (m+1)));rw[<-C]at r⊢;clear C b;obtain⟨b,-⟩:_/\True:=⟨r,bO⟩;clear r;have R:=b.out.pr;have G:=b.out.bx;refine av hK ?_ R;clear hK K;obtain⟨j,rfl⟩:=lg v2
     rotate_left
     focus
      go_simp;have r:=ae (b.out.set 6 (.slice S (m+1) (m+1)));obtain⟨v2,C⟩:=lg (j.setCell ⟨tb,6,none⟩ (.slice S (m+1) (m+1)));rw[<-C]at r⊢;clear C b;obtain⟨b,-⟩:_/\True:=⟨r,bO⟩;clear r;have R:=b.out.pr;have G:=b.out.bx;refine av hK ?_ R;clear hK K;obtain⟨j,rfl⟩:=lg v2;refine ay 8 fun K hK=>?_;obtain⟨X,D⟩:=lg ((World.heap j).size);have b:=ae (b.out.at (w':=j));go_simp;refine av hK ?_;clear hK K;refine bY (fun j _ _=>?_);have b:=ae (b.out.mk' (w':=j) Bx.blk);rw[<-D]at b⊢;clear D;have G:=b.out.bx
     all_goals
      refine ag 15 60 ?_;refine ag 16 61 ?_;refine ay 17 fun K hK=>?_;go_simp;have r:=ae (b.out.set 7 (.slice X (m+1) (m+1)));obtain⟨v3,M⟩:=lg (j.setCell ⟨tb,7,none⟩ (.slice X (m+1) (m+1)));rw[<-M]at r⊢;clear M b;obtain⟨b,-⟩:_/\True:=⟨r,bO⟩;clear r;have Y:=b.out.pr;have G:=b.out.bx;refine av hK ?_ Y;clear hK K;obtain⟨j,rfl⟩:=lg v3;refine aO ?_
      go_wp2_with fail
      go_meet
      have ND:=b.out.nd;simp only[pg,fe,lG,dz,mG,pI,not_or,yB,yK,vN]at ND;exact⟨Z,S,X,ae (b.out.fin au au au (by rintro rfl;simp at ND) au au au)⟩
   ·obtain⟨X,D⟩:=lg ((World.heap j).size);have b:=ae (b.out.at (w':=j));go_simp;refine av hK ?_;clear hK K;refine bY (fun j _ _=>?_);have b:=ae (b.out.mk' (w':=j) Bx.blk);rw[<-D]at b⊢;clear D;have G:=b.out.bx;refine il 6 11 (fun K hK=>?_) (fun K hK=>?_)
    focus
     obtain⟨S,Q⟩:=lg ((World.heap j).size);have b:=ae (b.out.at (w':=j));go_simp;refine av hK ?_;clear hK K;refine bY (fun j _ _=>?_);have b:=ae (b.out.mk' (w':=j) Bx.blk);rw[<-Q]at b⊢;clear Q;have G:=b.out.bx;refine ay 11 fun K hK=>?_;go_simp;have r:=ae (b.out.set 4 (.slice Z (m+1) (m+1)));obtain⟨v1,J⟩:=lg (j.setCell ⟨tb,4,none⟩ (.slice Z (m+1) (m+1)));rw[<-J]at r⊢;clear J b;obtain⟨b,-⟩:_/\True:=⟨r,bO⟩;clear r;have V:=b.out.pr;have G:=b.out.bx;refine av hK ?_ V;clear hK K;obtain⟨j,rfl⟩:=lg v1
    rotate_left
    focus
     go_simp;have r:=ae (b.out.set 4 (.slice Z (m+1) (m+1)));obtain⟨v1,J⟩:=lg (j.setCell ⟨tb,4,none⟩ (.slice Z (m+1) (m+1)));rw[<-J]at r⊢;clear J b;obtain⟨b,-⟩:_/\True:=⟨r,bO⟩;clear r;have V:=b.out.pr;have G:=b.out.bx;refine av hK ?_ V;clear hK K;obtain⟨j,rfl⟩:=lg v1;refine ay 6 fun K hK=>?_;obtain⟨S,Q⟩:=lg ((World.heap j).size);have b:=ae (b.out.at (w':=j));go_simp;refine av hK ?_;clear hK K;refine bY (fun j _ _=>?_);have b:=ae (b.out.mk' (w':=j) Bx.blk);rw[<-Q]at b⊢;clear Q;have G:=b.out.bx
    all_goals
     refine ag 12 58 ?_;refine ag 13 59 ?_;refine ay 14 fun K hK=>?_;go_simp;have r:=ae (b.out.set 6 (.slice S (m+1) (m+1)));obtain⟨v2,C⟩:=lg (j.setCell ⟨tb,6,none⟩ (.slice S (m+1) (m+1)));rw[<-C]at r⊢;clear C b;obtain⟨b,-⟩:_/\True:=⟨r,bO⟩;clear r;have R:=b.out.pr;have G:=b.out.bx;refine av hK ?_ R;clear hK K;obtain⟨j,rfl⟩:=lg v2;refine ag 15 60 ?_;refine ag 16 61 ?_;refine ay 17 fun K hK=>?_;go_simp;have r:=ae (b.out.set 7 (.slice X (m+1) (m+1)));obtain⟨v3,M⟩:=lg (j.setCell ⟨tb,7,none⟩ (.slice X (m+1) (m+1)));rw[<-M]at r⊢;clear M b;obtain⟨b,-⟩:_/\True:=⟨r,bO⟩;clear r;have Y:=b.out.pr;have G:=b.out.bx;refine av hK ?_ Y;clear hK K;obtain⟨j,rfl⟩:=lg v3;refine aO ?_
     go_wp2_with fail
     go_meet
     have ND:=b.out.nd;simp only[pg,fe,lG,dz,mG,pI,not_or,yB,yK,vN]at ND;exact⟨Z,S,X,ae (b.out.fin au au au (by rintro rfl;simp at ND) au au au)⟩
   ·go_simp;have r:=ae (b.out.set 4 (.slice Z (m+1) (m+1)));obtain⟨v1,J⟩:=lg (j.setCell ⟨tb,4,none⟩ (.slice Z (m+1) (m+1)));rw[<-J]at r⊢;clear J b;obtain⟨b,-⟩:_/\True:=⟨r,bO⟩;clear r;have V:=b.out.pr;have G:=b.out.bx;refine av hK ?_ V;clear hK K;obtain⟨j,rfl⟩:=lg v1;refine il 6 8 (fun K hK=>?_) (fun K hK=>?_)
    ·obtain⟨S,Q⟩:=lg ((World.heap j).size);have b:=ae (b.out.at (w':=j));go_simp;refine av hK ?_;clear hK K;refine bY (fun j _ _=>?_);have b:=ae (b.out.mk' (w':=j) Bx.blk);rw[<-Q]at b⊢;clear Q;have G:=b.out.bx;refine ag 12 58 ?_;refine ag 13 59 ?_;refine il 8 14 (fun K hK=>?_) (fun K hK=>?_)
     focus
      obtain⟨X,D⟩:=lg ((World.heap j).size);have b:=ae (b.out.at (w':=j));go_simp;refine av hK ?_;clear hK K;refine bY (fun j _ _=>?_);have b:=ae (b.out.mk' (w':=j) Bx.blk);rw[<-D]at b⊢;clear D;have G:=b.out.bx;refine ay 14 fun K hK=>?_;go_simp;have r:=ae (b.out.set 6 (.slice S (m+1) (m+1)));obtain⟨v2,C⟩:=lg (j.setCell ⟨tb,6,none⟩ (.slice S (m+1) (m+1)));rw[<-C]at r⊢;clear C b;obtain⟨b,-⟩:_/\True:=⟨r,bO⟩;clear r;have R:=b.out.pr;have G:=b.out.bx;refine av hK ?_ R;clear hK K;obtain⟨j,rfl⟩:=lg v2
     rotate_left
     focus
      go_simp;have r:=ae (b.out.set 6 (.slice S (m+1) (m+1)));obtain⟨v2,C⟩:=lg (j.setCell ⟨tb,6,none⟩ (.slice S (m+1) (m+1)));rw[<-C]at r⊢;clear C b;obtain⟨b,-⟩:_/\True:=⟨r,bO⟩;clear r;have R:=b.out.pr;have G:=b.out.bx;refine av hK ?_ R;clear hK K;obtain⟨j,rfl⟩:=lg v2;refine ay 8 fun K hK=>?_;obtain⟨X,D⟩:=lg ((World.heap j).size);have b:=ae (b.out.at (w':=j));go_simp;refine av hK ?_;clear hK K;refine bY (fun j _ _=>?_);have b:=ae (b.out.mk' (w':=j) Bx.blk);rw[<-D]at b⊢;clear D;have G:=b.out.bx
     all_goals
      refine ag 15 60 ?_;refine ag 16 61 ?_;refine ay 17 fun K hK=>?_;go_simp;have r:=ae (b.out.set 7 (.slice X (m+1) (m+1)));obtain⟨v3,M⟩:=lg (j.setCell ⟨tb,7,none⟩ (.slice X (m+1) (m+1)));rw[<-M]at r⊢;clear M b;obtain⟨b,-⟩:_/\True:=⟨r,bO⟩;clear r;have Y:=b.out.pr;have G:=b.out.bx;refine av hK ?_ Y;clear hK K;obtain⟨j,rfl⟩:=lg v3;refine aO ?_
      go_wp2_with fail
      go_meet
      have ND:=b.out.nd;simp only[pg,fe,lG,dz,mG,pI,not_or,yB,yK,vN]at ND;exact⟨Z,S,X,ae (b.out.fin au au au (by rintro rfl;simp at ND) au au au)⟩
    ·obtain⟨X,D⟩:=lg ((World.heap j).size);have b:=ae (b.out.at (w':=j));go_simp;refine av hK ?_;clear hK K;refine bY (fun j _ _=>?_);have b:=ae (b.out.mk' (w':=j) Bx.blk);rw[<-D]at b⊢;clear D;have G:=b.out.bx;refine ay 6 fun K hK=>?_;obtain⟨S,Q⟩:=lg ((World.heap j).size);have b:=ae (b.out.at (w':=j));go_simp;refine av hK ?_;clear hK K;refine bY (fun j _ _=>?_);have b:=ae (b.out.mk' (w':=j) Bx.blk);rw[<-Q]at b⊢;clear Q;have G:=b.out.bx;refine ag 12 58 ?_;refine ag 13 59 ?_;refine ay 14 fun K hK=>?_;go_simp;have r:=ae (b.out.set 6 (.slice S (m+1) (m+1)));obtain⟨v2,C⟩:=lg (j.setCell ⟨tb,6,none⟩ (.slice S (m+1) (m+1)));rw[<-C]at r⊢;clear C b;obtain⟨b,-⟩:_/\True:=⟨r,bO⟩;clear r;have R:=b.out.pr;have G:=b.out.bx;refine av hK ?_ R;clear hK K;obtain⟨j,rfl⟩:=lg v2;refine ag 15 60 ?_;refine ag 16 61 ?_;refine ay 17 fun K hK=>?_;go_simp;have r:=ae (b.out.set 7 (.slice X (m+1) (m+1)));obtain⟨v3,M⟩:=lg (j.setCell ⟨tb,7,none⟩ (.slice X (m+1) (m+1)));rw[<-M]at r⊢;clear M b;obtain⟨b,-⟩:_/\True:=⟨r,bO⟩;clear r;have Y:=b.out.pr;have G:=b.out.bx;refine av hK ?_ Y;clear hK K;obtain⟨j,rfl⟩:=lg v3;refine aO ?_
     go_wp2_with fail
     go_meet
     have ND:=b.out.nd;simp only[pg,fe,lG,dz,mG,pI,not_or,yB,yK,vN]at ND;exact⟨Z,S,X,ae (b.out.fin au au au (by rintro rfl;simp at ND) au au au)⟩
  ·obtain⟨S,Q⟩:=lg ((World.heap j).size);have b:=ae (b.out.at (w':=j));go_simp;refine av hK ?_;clear hK K;refine bY (fun j _ _=>?_);have b:=ae (b.out.mk' (w':=j) Bx.blk);rw[<-Q]at b⊢;clear Q;have G:=b.out.bx;refine il 4 8 (fun K hK=>?_) (fun K hK=>?_)
   ·obtain⟨Z,tY⟩:=lg ((World.heap j).size);have b:=ae (b.out.at (w':=j));go_simp;refine av hK ?_;clear hK K;refine bY (fun j _ _=>?_);have b:=ae (b.out.mk' (w':=j) Bx.blk);rw[<-tY]at b⊢;clear tY;have G:=b.out.bx;refine ag 9 56 ?_;refine ag 10 57 ?_;refine il 8 11 (fun K hK=>?_) (fun K hK=>?_)
    ·obtain⟨X,D⟩:=lg ((World.heap j).size);have b:=ae (b.out.at (w':=j));go_simp;refine av hK ?_;clear hK K;refine bY (fun j _ _=>?_);have b:=ae (b.out.mk' (w':=j) Bx.blk);rw[<-D]at b⊢;clear D;have G:=b.out.bx;refine ay 11 fun K hK=>?_;go_simp;have r:=ae (b.out.set 4 (.slice Z (m+1) (m+1)));obtain⟨v1,J⟩:=lg (j.setCell ⟨tb,4,none⟩ (.slice Z (m+1) (m+1)));rw[<-J]at r⊢;clear J b;obtain⟨b,-⟩:_/\True:=⟨r,bO⟩;clear r;have V:=b.out.pr;have G:=b.out.bx;refine av hK ?_ V;clear hK K;obtain⟨j,rfl⟩:=lg v1;refine ag 12 58 ?_;refine ag 13 59 ?_;refine ay 14 fun K hK=>?_;go_simp;have r:=ae (b.out.set 6 (.slice S (m+1) (m+1)));obtain⟨v2,C⟩:=lg (j.setCell ⟨tb,6,none⟩ (.slice S (m+1) (m+1)));rw[<-C]at r⊢;clear C b;obtain⟨b,-⟩:_/\True:=⟨r,bO⟩;clear r;have R:=b.out.pr;have G:=b.out.bx;refine av hK ?_ R;clear hK K;obtain⟨j,rfl⟩:=lg v2;refine ag 15 60 ?_;refine ag 16 61 ?_;refine ay 17 fun K hK=>?_;go_simp;have r:=ae (b.out.set 7 (.slice X (m+1) (m+1)));obtain⟨v3,M⟩:=lg (j.setCell ⟨tb,7,none⟩ (.slice X (m+1) (m+1)));rw[<-M]at r⊢;clear M b;obtain⟨b,-⟩:_/\True:=⟨r,bO⟩;clear r;have Y:=b.out.pr;have G:=b.out.bx;refine av hK ?_ Y;clear hK K;obtain⟨j,rfl⟩:=lg v3;refine aO ?_
     go_wp2_with fail
     go_meet
     have ND:=b.out.nd;simp only[pg,fe,lG,dz,mG,pI,not_or,yB,yK,vN]at ND;exact⟨Z,S,X,ae (b.out.fin au au au (by rintro rfl;simp at ND) au au au)⟩
    ·go_simp;have r:=ae (b.out.set 4 (.slice Z (m+1) (m+1)));obtain⟨v1,J⟩:=lg (j.setCell ⟨tb,4,none⟩ (.slice Z (m+1) (m+1)));rw[<-J]at r⊢;clear J b;obtain⟨b,-⟩:_/\True:=⟨r,bO⟩;clear r;have V:=b.out.pr;have G:=b.out.bx;refine av hK ?_ V;clear hK K;obtain⟨j,rfl⟩:=lg v1;refine ag 12 58 ?_;refine ag 13 59 ?_;refine il 8 14 (fun K hK=>?_) (fun K hK=>?_)
     focus
      obtain⟨X,D⟩:=lg ((World.heap j).size);have b:=ae (b.out.at (w':=j));go_simp;refine av hK ?_;clear hK K;refine bY (fun j _ _=>?_);have b:=ae (b.out.mk' (w':=j) Bx.blk);rw[<-D]at b⊢;clear D;have G:=b.out.bx;refine ay 14 fun K hK=>?_;go_simp;have r:=ae (b.out.set 6 (.slice S (m+1) (m+1)));obtain⟨v2,C⟩:=lg (j.setCell ⟨tb,6,none⟩ (.slice S (m+1) (m+1)));rw[<-C]at r⊢;clear C b;obtain⟨b,-⟩:_/\True:=⟨r,bO⟩;clear r;have R:=b.out.pr;have G:=b.out.bx;refine av hK ?_ R;clear hK K;obtain⟨j,rfl⟩:=lg v2
     rotate_left
     focus
      go_simp;have r:=ae (b.out.set 6 (.slice S (m+1) (m+1)));obtain⟨v2,C⟩:=lg (j.setCell ⟨tb,6,none⟩ (.slice S (m+1) (m+1)));rw[<-C]at r⊢;clear C b;obtain⟨b,-⟩:_/\True:=⟨r,bO⟩;clear r;have R:=b.out.pr;have G:=b.out.bx;refine av hK ?_ R;clear hK K;obtain⟨j,rfl⟩:=lg v2;refine ay 8 fun K hK=>?_;obtain⟨X,D⟩:=lg ((World.heap j).size);have b:=ae (b.out.at (w':=j));go_simp;refine av hK ?_;clear hK K;refine bY (fun j _ _=>?_);have b:=ae (b.out.mk' (w':=j) Bx.blk);rw[<-D]at b⊢;clear D;have G:=b.out.bx
     all_goals
      refine ag 15 60 ?_;refine ag 16 61 ?_;refine ay 17 fun K hK=>?_;go_simp;have r:=ae (b.out.set 7 (.slice X (m+1) (m+1)));obtain⟨v3,M⟩:=lg (j.setCell ⟨tb,7,none⟩ (.slice X (m+1) (m+1)));rw[<-M]at r⊢;clear M b;obtain⟨b,-⟩:_/\True:=⟨r,bO⟩;clear r;have Y:=b.out.pr;have G:=b.out.bx;refine av hK ?_ Y;clear hK K;obtain⟨j,rfl⟩:=lg v3;refine aO ?_
      go_wp2_with fail
      go_meet
      have ND:=b.out.nd;simp only[pg,fe,lG,dz,mG,pI,not_or,yB,yK,vN]at ND;exact⟨Z,S,X,ae (b.out.fin au au au (by rintro rfl;simp at ND) au au au)⟩
   ·obtain⟨X,D⟩:=lg ((World.heap j).size);have b:=ae (b.out.at (w':=j));go_simp;refine av hK ?_;clear hK K;refine bY (fun j _ _=>?_);have b:=ae (b.out.mk' (w':=j) Bx.blk);rw[<-D]at b⊢;clear D;have G:=b.out.bx;refine ay 4 fun K hK=>?_;obtain⟨Z,tY⟩:=lg ((World.heap j).size);have b:=ae (b.out.at (w':=j));go_simp;refine av hK ?_;clear hK K;refine bY (fun j _ _=>?_);have b:=ae (b.out.mk' (w':=j) Bx.blk);rw[<-tY]at b⊢;clear tY;have G:=b.out.bx;refine ag 9 56 ?_;refine ag 10 57 ?_;refine ay 11 fun K hK=>?_;go_simp;have r:=ae (b.out.set 4 (.slice Z (m+1) (m+1)));obtain⟨v1,J⟩:=lg (j.setCell ⟨tb,4,none⟩ (.slice Z (m+1) (m+1)));rw[<-J]at r⊢;clear J b;obtain⟨b,-⟩:_/\True:=⟨r,bO⟩;clear r;have V:=b.out.pr;have G:=b.out.bx;refine av hK ?_ V;clear hK K;obtain⟨j,rfl⟩:=lg v1;refine ag 12 58 ?_;refine ag 13 59 ?_;refine ay 14 fun K hK=>?_;go_simp;have r:=ae (b.out.set 6 (.slice S (m+1) (m+1)));obtain⟨v2,C⟩:=lg (j.setCell ⟨tb,6,none⟩ (.slice S (m+1) (m+1)));rw[<-C]at r⊢;clear C b;obtain⟨b,-⟩:_/\True:=⟨r,bO⟩;clear r;have R:=b.out.pr;have G:=b.out.bx;refine av hK ?_ R;clear hK K;obtain⟨j,rfl⟩:=lg v2;refine ag 15 60 ?_;refine ag 16 61 ?_;refine ay 17 fun K hK=>?_;go_simp;have r:=ae (b.out.set 7 (.slice X (m+1) (m+1)));obtain⟨v3,M⟩:=lg (j.setCell ⟨tb,7,none⟩ (.slice X (m+1) (m+1)));rw[<-M]at r⊢;clear M b;obtain⟨b,-⟩:_/\True:=⟨r,bO⟩;clear r;have Y:=b.out.pr;have G:=b.out.bx;refine av hK ?_ Y;clear hK K;obtain⟨j,rfl⟩:=lg v3;refine aO ?_
    go_wp2_with fail
    go_meet
    have ND:=b.out.nd;simp only[pg,fe,lG,dz,mG,pI,not_or,yB,yK,vN]at ND;exact⟨Z,S,X,ae (b.out.fin au au au (by rintro rfl;simp at ND) au au au)⟩
  ·obtain⟨X,D⟩:=lg ((World.heap j).size);have b:=ae (b.out.at (w':=j));go_simp;refine av hK ?_;clear hK K;refine bY (fun j _ _=>?_);have b:=ae (b.out.mk' (w':=j) Bx.blk);rw[<-D]at b⊢;clear D;have G:=b.out.bx;refine il 4 6 (fun K hK=>?_) (fun K hK=>?_)
   ·obtain⟨Z,tY⟩:=lg ((World.heap j).size);have b:=ae (b.out.at (w':=j));go_simp;refine av hK ?_;clear hK K;refine bY (fun j _ _=>?_);have b:=ae (b.out.mk' (w':=j) Bx.blk);rw[<-tY]at b⊢;clear tY;have G:=b.out.bx;refine ag 9 56 ?_;refine ag 10 57 ?_;refine il 6 11 (fun K hK=>?_) (fun K hK=>?_)
    focus
     obtain⟨S,Q⟩:=lg ((World.heap j).size);have b:=ae (b.out.at (w':=j));go_simp;refine av hK ?_;clear hK K;refine bY (fun j _ _=>?_);have b:=ae (b.out.mk' (w':=j) Bx.blk);rw[<-Q]at b⊢;clear Q;have G:=b.out.bx;refine ay 11 fun K hK=>?_;go_simp;have r:=ae (b.out.set 4 (.slice Z (m+1) (m+1)));obtain⟨v1,J⟩:=lg (j.setCell ⟨tb,4,none⟩ (.slice Z (m+1) (m+1)));rw[<-J]at r⊢;clear J b;obtain⟨b,-⟩:_/\True:=⟨r,bO⟩;clear r;have V:=b.out.pr;have G:=b.out.bx;refine av hK ?_ V;clear hK K;obtain⟨j,rfl⟩:=lg v1
    rotate_left
    focus
     go_simp;have r:=ae (b.out.set 4 (.slice Z (m+1) (m+1)));obtain⟨v1,J⟩:=lg (j.setCell ⟨tb,4,none⟩ (.slice Z (m+1) (m+1)));rw[<-J]at r⊢;clear J b;obtain⟨b,-⟩:_/\True:=⟨r,bO⟩;clear r;have V:=b.out.pr;have G:=b.out.bx;refine av hK ?_ V;clear hK K;obtain⟨j,rfl⟩:=lg v1;refine ay 6 fun K hK=>?_;obtain⟨S,Q⟩:=lg ((World.heap j).size);have b:=ae (b.out.at (w':=j));go_simp;refine av hK ?_;clear hK K;refine bY (fun j _ _=>?_);have b:=ae (b.out.mk' (w':=j) Bx.blk);rw[<-Q]at b⊢;clear Q;have G:=b.out.bx
    all_goals
     refine ag 12 58 ?_;refine ag 13 59 ?_;refine ay 14 fun K hK=>?_;go_simp;have r:=ae (b.out.set 6 (.slice S (m+1) (m+1)));obtain⟨v2,C⟩:=lg (j.setCell ⟨tb,6,none⟩ (.slice S (m+1) (m+1)));rw[<-C]at r⊢;clear C b;obtain⟨b,-⟩:_/\True:=⟨r,bO⟩;clear r;have R:=b.out.pr;have G:=b.out.bx;refine av hK ?_ R;clear hK K;obtain⟨j,rfl⟩:=lg v2;refine ag 15 60 ?_;refine ag 16 61 ?_;refine ay 17 fun K hK=>?_;go_simp;have r:=ae (b.out.set 7 (.slice X (m+1) (m+1)));obtain⟨v3,M⟩:=lg (j.setCell ⟨tb,7,none⟩ (.slice X (m+1) (m+1)));rw[<-M]at r⊢;clear M b;obtain⟨b,-⟩:_/\True:=⟨r,bO⟩;clear r;have Y:=b.out.pr;have G:=b.out.bx;refine av hK ?_ Y;clear hK K;obtain⟨j,rfl⟩:=lg v3;refine aO ?_
     go_wp2_with fail
     go_meet
     have ND:=b.out.nd;simp only[pg,fe,lG,dz,mG,pI,not_or,yB,yK,vN]at ND;exact⟨Z,S,X,ae (b.out.fin au au au (by rintro rfl;simp at ND) au au au)⟩
   ·obtain⟨S,Q⟩:=lg ((World.heap j).size);have b:=ae (b.out.at (w':=j));go_simp;refine av hK ?_;clear hK K;refine bY (fun j _ _=>?_);have b:=ae (b.out.mk' (w':=j) Bx.blk);rw[<-Q]at b⊢;clear Q;have G:=b.out.bx;refine ay 4 fun K hK=>?_;obtain⟨Z,tY⟩:=lg ((World.heap j).size);have b:=ae (b.out.at (w':=j));go_simp;refine av hK ?_;clear hK K;refine bY (fun j _ _=>?_);have b:=ae (b.out.mk' (w':=j) Bx.blk);rw[<-tY]at b⊢;clear tY;have G:=b.out.bx;refine ag 9 56 ?_;refine ag 10 57 ?_;refine ay 11 fun K hK=>?_;go_simp;have r:=ae (b.out.set 4 (.slice Z (m+1) (m+1)));obtain⟨v1,J⟩:=lg (j.setCell ⟨tb,4,none⟩ (.slice Z (m+1) (m+1)));rw[<-J]at r⊢;clear J b;obtain⟨b,-⟩:_/\True:=⟨r,bO⟩;clear r;have V:=b.out.pr;have G:=b.out.bx;refine av hK ?_ V;clear hK K;obtain⟨j,rfl⟩:=lg v1;refine ag 12 58 ?_;refine ag 13 59 ?_;refine ay 14 fun K hK=>?_;go_simp;have r:=ae (b.out.set 6 (.slice S (m+1) (m+1)));obtain⟨v2,C⟩:=lg (j.setCell ⟨tb,6,none⟩ (.slice S (m+1) (m+1)));rw[<-C]at r⊢;clear C b;obtain⟨b,-⟩:_/\True:=⟨r,bO⟩;clear r;have R:=b.out.pr;have G:=b.out.bx;refine av hK ?_ R;clear hK K;obtain⟨j,rfl⟩:=lg v2;refine ag 15 60 ?_;refine ag 16 61 ?_;refine ay 17 fun K hK=>?_;go_simp;have r:=ae (b.out.set 7 (.slice X (m+1) (m+1)));obtain⟨v3,M⟩:=lg (j.setCell ⟨tb,7,none⟩ (.slice X (m+1) (m+1)));rw[<-M]at r⊢;clear M b;obtain⟨b,-⟩:_/\True:=⟨r,bO⟩;clear r;have Y:=b.out.pr;have G:=b.out.bx;refine av hK ?_ Y;clear hK K;obtain⟨j,rfl⟩:=lg v3;refine aO ?_
    go_wp2_with fail
    go_meet
    have ND:=b.out.nd;simp only[pg,fe,lG,dz,mG,pI,not_or,yB,yK,vN]at ND;exact⟨Z,S,X,ae (b.out.fin au au au (by rintro rfl;simp at ND) au au au)⟩
 case rest=>
  obtain⟨F,K,P,HS⟩:=hcut;clear b G Uw Js;have wH:Hid (∀id∈O,1<=id/\id<=m):=ae fun id hid=>by have:=dR.1 (hN.out.lV.ids id hid);rw[<-HM.out]at this;exact this
  have h1m:1<=m:=by have:=hN.out.xV;have:=hN.out.vk;rw[<-HM.out]at this;omega
  go_upto_region 14 with fail
  go_loopw [10] (fun t wr=>∃(q:Nat) (fi:List Int),q<=m/\t=.int .i64 q/\Hid (lW p wr ⟨A,n,c,B,d,AO,cO,AL,cL⟩ ⟨tb,F,K,P⟩ m l none 0 ⟨fi,List.replicate (m+1) false,List.replicate (m+1) false,[]⟩)/\Hid (oJ N O q fi=oJ N O m (List.replicate (m+1) 0))) (fun t _=>(intOf t).toNat)
  case atStart=>exact⟨m,_,az _,rfl,HS,ae rfl⟩
  case round=>
   clear HS;obtain⟨q,fi,hq,rfl,HS,HF⟩:=hrel;obtain⟨p9,G,kF,kK,kP⟩:=HS.out.facts;have kn2:Bx wr w.heap.size 33 #[.slice A n c,.slice B m d]:=iin;by_cases hq0:q=0
   ·subst hq0;have t1:decide ((1:Int)<=((0:Nat):Int))=false:=by decide
    have hF:fi=oJ N O m (List.replicate (m+1) 0):=HF.out;have e0:(dL (List.replicate (m+1) false))[0]?=some (.bool false):=iN (by rw[sj,if_pos om]);have hm0:(0:Int)<(m:Int)+1:=by omega
    have zJ:=ae hF;clear hF
    go_wp2_with fail
    go_ret2;refine⟨p,⟨A,n,c,B,d,AO,cO,AL,cL⟩,⟨tb,F,K,P⟩,rfl,pp,nip,sOp,sLp,ae ⟨none,0,?_⟩⟩;rw[<-zJ.out];exact HS.out.Gw 0 true
   ·obtain⟨q,rfl⟩:∃t,q=t+1:=⟨q-1,om⟩;have t1:decide ((1:Int)<=((q+1:Nat):Int))=true:=by simp;omega
    have w3:IntKind.i64.wrap (q:Int)=(q:Int):=by rw[bF];omega
    have w4:(q:Int)<(m:Int):=by omega
    obtain⟨b8,q8,id,rfl,ob8,v9,xQ⟩:=sOp.get (k:=q) om;obtain⟨Aw,Ay⟩:=wH.out id (aK xQ.out);obtain⟨t,ht⟩:=eF (show 0<=id-1 by omega);obtain rfl:id=(t:Int)+1:=by omega
    have xR:t<m:=om;have w2:(t:Int)+1-1=t:=by omega
    have w5:IntKind.i64.wrap (t:Int)=(t:Int):=by rw[bF];omega
    have w6:(t:Int)<(m:Int):=by omega
    obtain⟨b7,q7,o,A1,n1,c1,I,nn,ci,ins,P1,np,cp,ps,rfl,TM,⟨v0,v1,v2,v3,v4,v5,v6,v7,v8,Ed⟩,s1,si,sp,l1,li,lp,ik,hnd⟩:=nip.node xR;have hni:nn<=1000:=by have:=hs.out.2 _ (aK hnd.out);rw[si.len];exact this
    have HI:Hid (nn=ins.length):=ae si.len;have zH:Hid (∀z∈ins,0<=z/\z<=m):=ae fun z hz=>by have:=hN.out.iR _ (aK hnd.out) z hz;rw[<-HM.out]at this;exact this
    have HN:Hid (oJ N O q (wO (q+1) ins fi)=oJ N O m (List.replicate (m+1) 0)):=ae (by
     rw[<-HF.out,oJ,xZ xQ.out,bG,show((t:Int)+1-1).toNat=t from om,hnd.out];rfl)
    clear ht Aw Ay HF
    go_upto_region 16 with fail
    refine bZ aj (fun j _=>?_);refine ag 0 68 ?_;refine ag 1 69 ?_;refine ag 2 70 ?_;refine ag 3 71 ?_;refine ag 4 72 ?_;refine ag 5 73 ?_;refine ag 6 74 ?_;refine ag 7 75 ?_;refine ag 8 76 ?_;refine ag 9 77 ?_;refine ag 10 78 ?_;refine ag 11 79 ?_;refine ag 12 80 ?_;refine aO ?_
    go_upto_region 17 with fail
    have HSu:=ae (HS.out.at (w':=j));clear G kF kK kP p9 kn2;go_loopw [80] (fun i wy=>∃(k:Nat) (fk:List Int),k<=nn/\i=.int .i64 k/\Hid (lW p wy ⟨A,n,c,some ⟨b7,q7,none⟩,d,some ⟨b8,q8,none⟩,cO,AL,cL⟩ ⟨tb,F,K,P⟩ m l none 0 ⟨fk,List.replicate (m+1) false,List.replicate (m+1) false,[]⟩)/\Hid (wO (q+1) (ins.drop k) fk=wO (q+1) ins fi)) (fun i _=>nn-(intOf i).toNat)
    case atStart=>exact⟨0,fi,aS _,rfl,HSu,ae rfl⟩
    case round=>
     clear HS HSu;obtain⟨k,fk,hk,rfl,HS,HF⟩:=hrel;obtain⟨p9,G,kF,kK,kP⟩:=HS.out.facts;by_cases hlt:k<nn
     ·obtain⟨b4,q4,z,rfl,Uu,vz,ez⟩:=si.get hlt;have hz:=zH.out z (aK ez.out);obtain⟨y,rfl⟩:=eF hz.1;have hyi:(y:Int)<(m:Int)+1:=by omega
      obtain⟨x,hx⟩:∃x,fk[y]?=some x:=⟨_,List.getElem?_eq_getElem (by have:=HS.out.lf;dsimp only at this;omega)⟩;have hg2:(ints fk)[y]?=some (.int .i64 x):=by rw[Pm,hx];rfl
      have zJ:Hid (wO (q+1) (ins.drop (k+1)) (fk.set y ((q:Int)+1))=wO (q+1) ins fi):=ae (by
       obtain⟨h1,h2⟩:=aY.1 ez.out;rw[<-HF.out,jE h1,h2];rfl)
      clear hx hz
      go_wp2_with fail
      go_roundw
      case rel=>exact⟨k+1,_,om,by go_num,ae (HS.out.Et y ((q:Int)+1)),zJ⟩
      case measure=>simp[intOf];omega
     ·obtain rfl:k=nn:=om;have JO:Hid (oJ N O q fk=oJ N O m (List.replicate (m+1) 0)):=ae (by
       rw[<-HN.out,<-HF.out,kL (by rw[<-HI.out];exact az _)];rfl)
      go_wp2_with fail
      exact⟨⟨q,fk,om,by go_num,HS,JO⟩,by simp[intOf]⟩
end
end Go.Proofs.YtmkjnlifimffkaaGreat
