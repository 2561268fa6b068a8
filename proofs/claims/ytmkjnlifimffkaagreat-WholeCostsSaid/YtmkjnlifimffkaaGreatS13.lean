/- Lemmas. No condition. -/
import Derived.Deep.DeepCutAuto
import Derived.Test.YtmkjnlifimffkaaGreatS12
namespace Go.Proofs.YtmkjnlifimffkaaGreat
open Go.RowKit
set_option linter.all false
set_option maxRecDepth 100000
set_option maxHeartbeats 16000000
abbrev opC(kd k wd st sd fr tt:Int)(S:Value):Array Value:= #[kd,k,wd,st,sd,fr,tt,S]
theorem aic{Q:World->Prop}{X:World}{T T':TypeId}{cs b:Array Value}(h:∀u,ak u X->Bx u X.heap.size T cs->Bx u (X.heap.size+1) T' b->Q u):Q ((X.alloc (.cells cs T)).alloc (.cells b T')):=
 h _ (ai _ _) iin iin
theorem aid(w:World)(d:Nat)(a a':Int):(Op.equalIn (d+1) 2 (.int .i64 a) (.int .i64 a')).run Tryz.prog w=.ok (a==a') w:=by
 simp[Op.equalIn,vQ Tryz.underlying2]
theorem aie(w:World){xs:Array Value}{i:Nat}{v:Value}(h:xs[i]?=some v):(part 2 xs i).run Tryz.prog w=.ok v w:=by
 simp[part,isAgg,vQ Tryz.underlying2,h]
theorem YQ(w:World)(a b c d e f g a' b' c' d' j l m:Int):(Op.equalIn 10000 332 (.agg #[a,b,c,d,e,f,g]) (.agg #[a',b',c',d',j,l,m])).run Tryz.prog w=.ok (a==a'&&b==b'&&c==c'&&d==d'&&e==j&&f==l&&g==m) w:=by
 have h:∀n:Nat,(Op.equalIn (n+2) 332 (.agg #[a,b,c,d,e,f,g]) (.agg #[a',b',c',d',j,l,m])).run Tryz.prog w=if a=a' then(if b=b' then(if c=c' then(if d=d' then(if e=j then(if f=l then(if g=m then Result.ok true w else Result.ok false w)else Result.ok false w)else Result.ok false w)else Result.ok false w)else Result.ok false w)else Result.ok false w)else Result.ok false w:=by
  intro n;rw[Op.equalIn];simp[vQ Tryz.underlying332,List.range',aid,aie]
 rw[h 9998];by_cases r:a=a'<;>by_cases u:b=b'<;>by_cases y:c=c'<;>by_cases z:d=d'<;>by_cases B:e=j<;>by_cases C:f=l<;>by_cases D:g=m<;>simp[*]
theorem FQ{Q:World->Prop}{X:World}{T T' e:TypeId}{cs j b:Array Value}(h:∀u,ak u X->Bx u X.heap.size T cs->Bx u (X.heap.size+1) T' j->Bx u (X.heap.size+1+1) e b->Q u):Q (((X.alloc (.cells cs T)).alloc (.cells j T')).alloc (.cells b e)):=
 h _ (ai _ _) iin iin iin
theorem Rj{Q:World->Prop}{X:World}{T T' j:TypeId}{cs e b:Array Value}(h:∀l u,ak l X->ak u l->Bx l X.heap.size T cs->Bx l (X.heap.size+1) T' e->l.heap.size<=X.heap.size+1+1->Bx u (X.heap.size+1+1) j b->Q u):Q (((X.alloc (.cells cs T)).alloc (.cells e T')).alloc (.cells b j)):=
 h ((X.alloc (.cells cs T)).alloc (.cells e T')) _ (ai _ _) (ai _ _) iin iin au iin
theorem Am{W:World}{g:Nat}{v0 v1 v2 v3 v4 v5 v6 v7:Value}(h:∀i,W.cell? ⟨g,i,none⟩= #[v0,v1,v2,v3,v4,v5,v6,v7][i]?):
  W.cell? ⟨g,0,none⟩=some v0/\W.cell? ⟨g,1,none⟩=some v1/\W.cell? ⟨g,2,none⟩=some v2/\W.cell? ⟨g,3,none⟩=some v3/\W.cell? ⟨g,4,none⟩=some v4/\W.cell? ⟨g,5,none⟩=some v5/\W.cell? ⟨g,6,none⟩=some v6/\W.cell? ⟨g,7,none⟩=some v7:=
 ⟨h 0,h 1,h 2,h 3,h 4,h 5,h 6,h 7⟩
section
variable{T0:TypeId}{u w0:World}{rB:Nat}{v0 v1 v2 v3 v4 v5 v6 v7:Value}
def YR(u:World)(rB:Nat)(v0 v1 v2 v3 v4 v5 v6 v7:Value):World:=(((((((u.setCell ⟨rB,0,none⟩ v0).setCell ⟨rB,1,none⟩ v1).setCell ⟨rB,2,none⟩ v2).setCell ⟨rB,3,none⟩ v3).setCell ⟨rB,4,none⟩ v4).setCell ⟨rB,5,none⟩ v5).setCell ⟨rB,6,none⟩ v6).setCell ⟨rB,7,none⟩ v7
theorem aif{x0 x1 x2 m l j e b:Value}(h:aD u rB T0 #[x0,x1,x2,m,l,j,e,b]):aD (YR u rB v0 v1 v2 v3 v4 v5 v6 v7) rB T0 #[v0,v1,v2,v3,v4,v5,v6,v7]:=by
 have r:aD _ rB T0 #[v0,x1,x2,m,l,j,e,b]:=h.aF 0 v0;have y:aD _ rB T0 #[v0,v1,x2,m,l,j,e,b]:=r.aF 1 v1;have z:aD _ rB T0 #[v0,v1,v2,m,l,j,e,b]:=y.aF 2 v2;have B:aD _ rB T0 #[v0,v1,v2,v3,l,j,e,b]:=z.aF 3 v3;have C:aD _ rB T0 #[v0,v1,v2,v3,v4,j,e,b]:=B.aF 4 v4;have D:aD _ rB T0 #[v0,v1,v2,v3,v4,v5,e,b]:=C.aF 5 v5;have E:aD _ rB T0 #[v0,v1,v2,v3,v4,v5,v6,b]:=D.aF 6 v6;exact E.aF 7 v7
theorem aih(h:Below w0.heap.size w0 u)(hr:w0.heap.size<=rB):Below w0.heap.size w0 (YR u rB v0 v1 v2 v3 v4 v5 v6 v7):=by
 have b:=h.setCell (p:=⟨rB,0,none⟩) hr v0;have e:=b.setCell (p:=⟨rB,1,none⟩) hr v1;have j:=e.setCell (p:=⟨rB,2,none⟩) hr v2;have l:=j.setCell (p:=⟨rB,3,none⟩) hr v3;have m:=l.setCell (p:=⟨rB,4,none⟩) hr v4;have r:=m.setCell (p:=⟨rB,5,none⟩) hr v5;have y:=r.setCell (p:=⟨rB,6,none⟩) hr v6;exact y.setCell (p:=⟨rB,7,none⟩) hr v7
theorem Rk{F:Func}{b:Act}{v:Value}{x0 x1 x2 j l m r y:Value}[Later w0 u](h:aD u rB T0 #[x0,x1,x2,j,l,m,r,y])(hr:w0.heap.size<=rB)(hd:b.defers=[])
  (e:∀W:World,(∀i,W.cell? ⟨rB,i,none⟩= #[v0,v1,v2,v3,v4,v5,v6,v7][i]?)->(results F b.tmps).run Tryz.prog W=.ok v W):
  bodyPost Tryz.prog F (aM w0 v) .ret b ((((((((u.setCell ⟨rB,0,none⟩ v0).setCell ⟨rB,1,none⟩ v1).setCell ⟨rB,2,none⟩ v2).setCell ⟨rB,3,none⟩ v3).setCell ⟨rB,4,none⟩ v4).setCell ⟨rB,5,none⟩ v5).setCell ⟨rB,6,none⟩ v6).setCell ⟨rB,7,none⟩ v7):=by
 have z:=aif (v0:=v0) (v1:=v1) (v2:=v2) (v3:=v3) (v4:=v4) (v5:=v5) (v6:=v6) (v7:=v7) h;have B:=aih (v0:=v0) (v1:=v1) (v2:=v2) (v3:=v3) (v4:=v4) (v5:=v5) (v6:=v6) (v7:=v7) (aL w0 u) hr;exact bM (e _ z.cell) hd ⟨rfl,⟨B⟩⟩
end
section
variable{w:World}{A:Option Addr}{n p:Nat}{kd k wd st sd fr tt:Int}{S:List Int}
theorem aii{W:World}{g:Nat}{v0 v1 v2 v3 v4 v5 v6:Value}(h:∀i,W.cell? ⟨g,i,none⟩= #[v0,v1,v2,v3,v4,v5,v6][i]?):
  W.cell? ⟨g,0,none⟩=some v0/\W.cell? ⟨g,1,none⟩=some v1/\W.cell? ⟨g,2,none⟩=some v2/\W.cell? ⟨g,3,none⟩=some v3/\W.cell? ⟨g,4,none⟩=some v4/\W.cell? ⟨g,5,none⟩=some v5/\W.cell? ⟨g,6,none⟩=some v6:=
 ⟨h 0,h 1,h 2,h 3,h 4,h 5,h 6⟩
theorem MQ:Calls Tryz.prog 226 #[.agg (opC kd k wd st sd fr tt (.slice A n p))] w (aM w (.agg #[kd,k,wd,st,sd,fr,tt])):=by
 have r:=@bf;have y:=@dV;go_enter Tryz.func226,Tryz.ntmps226
 go_wp2_with fail
 refine aic (fun u _ _ b=>?_);obtain⟨r0,r1,r2,e,j,l,m⟩:=aii b.blk.cell;refine bM (v:=.agg #[kd,k,wd,st,sd,fr,tt]) (by simp[results,Tryz.results226,go_sem,r0,r1,r2,e,j,l,m]) rfl ⟨rfl,ai _ _⟩
theorem Rl{P:Program}{f:Nat}{args:Array Value}{w:World}{v v':Value}(h:Calls P f args w (aM w v))(e:v=v'):Calls P f args w (aM w v'):=e▸h
theorem Rm{A':Option Addr}{b j:Nat}{e:List Int}{v:Bool}[Sl w A n S][Sl w A' b e](l:n<=1000000)(hm:b<=1000000)(hv:Hid (decide (S=e)=v)):Calls Tryz.prog 70 #[.slice A n p,.slice A' b j] w (aM w (.bool v)):=Rl (Dq l hm) (by rw[hv.out])
def IQ(a b c d e f g a' b' c' d' j l m:Int):Bool:=a==a'&&b==b'&&c==c'&&d==d'&&e==j&&f==l&&g==m
theorem YS{A':Option Addr}{y D:Nat}{b k' j l m r u:Int}{C:List Int}{v:Bool}[Sl w A n S][Sl w A' y C](E:n<=1000000)(z:y<=1000000)(hv:Hid (IQ kd k wd st sd fr tt b k' j l m r u=true))(hs:Hid (decide (S=C)=v)):
  Calls Tryz.prog 185 #[.agg (opC kd k wd st sd fr tt (.slice A n p)),.agg (opC b k' j l m r u (.slice A' y D))] w (aM w (.bool v)):=by
 have F:=@bf;have G:∀W,(Op.equalIn 10000 332 (.agg #[kd,k,wd,st,sd,fr,tt]) (.agg #[b,k',j,l,m,r,u])).run Tryz.prog W=.ok true W:=fun W=>by rw[YQ,<-hv.out];rfl
 go_enter Tryz.func185,Tryz.ntmps185
 go_upto_region 1 with fail
 refine bZ aj (fun B _=>?_);refine ag 0 5 ?_;refine ag 2 7 ?_;refine ay 1 fun K hK=>?_;go_simp
 (with_reducible refine(MQ).mono ?_)
 rintro e B ⟨rfl,_⟩;dsimp only;refine av hK ?_;clear hK K;refine ay 3 fun K hK=>?_;go_simp
 (with_reducible refine(MQ).mono ?_)
 rintro e B ⟨rfl,_⟩;dsimp only;refine av hK ?_;clear hK K;refine ag 4 9 ?_;refine ag 5 10 ?_;refine ag 6 11 ?_;refine ag 7 12 ?_;refine ag 8 13 ?_;refine ag 9 14 ?_;refine ay 10 fun K hK=>?_;go_simp
 (with_reducible refine(Rm E z hs).mono ?_)
 rintro e B ⟨rfl,_⟩;dsimp only;refine av hK ?_;clear hK K;refine ag 11 16 ?_;refine ag 12 4 ?_;refine aO ?_
 go_wp2_with fail
 go_ret;exact⟨rfl,ai _ _⟩
theorem aij{A':Option Addr}{z B:Nat}{b k' j l m r u:Int}(hv:Hid (IQ kd k wd st sd fr tt b k' j l m r u=false)):
  Calls Tryz.prog 185 #[.agg (opC kd k wd st sd fr tt (.slice A n p)),.agg (opC b k' j l m r u (.slice A' z B))] w (aM w (.bool false)):=by
 have C:=@bf;have D:∀W,(Op.equalIn 10000 332 (.agg #[kd,k,wd,st,sd,fr,tt]) (.agg #[b,k',j,l,m,r,u])).run Tryz.prog W=.ok false W:=fun W=>by rw[YQ,<-hv.out];rfl
 go_enter Tryz.func185,Tryz.ntmps185
 go_upto_region 1 with fail
 refine bZ aj (fun y _=>?_);refine ag 0 5 ?_;refine ag 2 7 ?_;refine ay 1 fun K hK=>?_;go_simp
 (with_reducible refine(MQ).mono ?_)
 rintro e y ⟨rfl,_⟩;dsimp only;refine av hK ?_;clear hK K;refine ay 3 fun K hK=>?_;go_simp
 (with_reducible refine(MQ).mono ?_)
 rintro e y ⟨rfl,_⟩;dsimp only;refine av hK ?_;clear hK K;refine ag 4 9 ?_;refine ag 5 10 ?_;refine ax 6 11 ?_;refine ax 7 12 ?_;refine ax 8 13 ?_;refine ax 9 14 ?_;refine ax 10 15 ?_;refine ag 11 16 ?_;refine ag 12 4 ?_;refine aO ?_
 go_wp2_with fail
 go_ret;exact⟨rfl,ai _ _⟩
theorem aik:Calls Tryz.prog 186 #[.agg (opC 2 k wd st sd fr tt (.slice A n p))] w (aM w (.agg (opC 2 k 0 0 0 0 0 (.slice none 0 0)))):=by
 have y:=@bf;have z:=@dV;go_enter Tryz.func186,Tryz.ntmps186
 go_wp2_with fail
 refine FQ (fun u _ _ b _=>?_);obtain⟨r0,r1,r2,e,j,l,m,r⟩:=Am b.blk.cell;refine bM (by simp[results,Tryz.results186,go_sem,r0,r1,r2,e,j,l,m,r]) rfl ⟨rfl,ai _ _⟩
theorem ail:Calls Tryz.prog 186 #[.agg (opC 5 k wd st sd fr tt (.slice A n p))] w (aM w (.agg (opC 5 k 0 0 0 0 0 (.slice none 0 0)))):=by
 have y:=@bf;have z:=@dV;go_enter Tryz.func186,Tryz.ntmps186
 go_wp2_with fail
 refine FQ (fun u _ _ b _=>?_);obtain⟨r0,r1,r2,e,j,l,m,r⟩:=Am b.blk.cell;refine bM (by simp[results,Tryz.results186,go_sem,r0,r1,r2,e,j,l,m,r]) rfl ⟨rfl,ai _ _⟩
theorem aim:Calls Tryz.prog 186 #[.agg (opC 10 k wd st sd fr tt (.slice A n p))] w (aM w (.agg (opC 10 0 0 st 0 0 0 (.slice none 0 0)))):=by
 have y:=@bf;have z:=@dV;go_enter Tryz.func186,Tryz.ntmps186
 go_wp2_with fail
 refine FQ (fun u _ _ b _=>?_);obtain⟨r0,r1,r2,e,j,l,m,r⟩:=Am b.blk.cell;refine bM (by simp[results,Tryz.results186,go_sem,r0,r1,r2,e,j,l,m,r]) rfl ⟨rfl,ai _ _⟩
theorem ain:Calls Tryz.prog 186 #[.agg (opC 13 k wd st sd fr tt (.slice A n p))] w (aM w (.agg (opC 13 0 0 0 sd 0 0 (.slice none 0 0)))):=by
 have y:=@bf;have z:=@dV;go_enter Tryz.func186,Tryz.ntmps186
 go_wp2_with fail
 refine FQ (fun u _ _ b _=>?_);obtain⟨r0,r1,r2,e,j,l,m,r⟩:=Am b.blk.cell;refine bM (by simp[results,Tryz.results186,go_sem,r0,r1,r2,e,j,l,m,r]) rfl ⟨rfl,ai _ _⟩
theorem aio:Calls Tryz.prog 186 #[.agg (opC 15 k wd st sd fr tt (.slice A n p))] w (aM w (.agg (opC 15 0 0 0 0 0 0 (.slice A n p)))):=by
 have y:=@bf;have z:=@dV;go_enter Tryz.func186,Tryz.ntmps186
 go_wp2_with fail
 refine FQ (fun u _ _ b _=>?_);obtain⟨r0,r1,r2,e,j,l,m,r⟩:=Am b.blk.cell;refine bM (by simp[results,Tryz.results186,go_sem,r0,r1,r2,e,j,l,m,r]) rfl ⟨rfl,ai _ _⟩
theorem aip:Calls Tryz.prog 186 #[.agg (opC 11 k wd st sd fr tt (.slice A n p))] w (aM w (.agg (opC 11 0 wd st 0 0 0 (.slice none 0 0)))):=by
 have O:=@bf;have P:=@dV;go_enter Tryz.func186,Tryz.ntmps186
 go_upto_region 10 with fail
 refine Rj (fun b u _ _ k1 k2 B Q=>?_);refine eU b aj (fun e _=>?_);refine ag 0 23 ?_;refine ag 1 24 ?_;refine ag 2 25 ?_;refine ag 3 26 ?_;refine ag 4 27 ?_;refine ay 5 fun K hK=>?_;go_simp;obtain⟨y,j⟩:=lg (e.setCell ⟨w.heap.size+1+1,2,none⟩ (.int .i64 wd));rw[<-j];have m:Below (World.heap b).size b y:=by rw[j];exact(aL b e).setCell (p:=⟨w.heap.size+1+1,2,none⟩) B _
 have D:Bx y (w.heap.size+1+1) _ #[(11:Int),(0:Int),wd,(0:Int),(0:Int),(0:Int),(0:Int),.slice none 0 0]:=⟨by rw[j];exact aD.aF (Bx.blk (w:=e) (g:=w.heap.size+1+1)) 2 _⟩;have E:ak y b:=⟨m⟩;refine av hK ?_ ⟨m⟩;clear hK K j;obtain⟨e,rfl⟩:=lg y;refine ag 6 28 ?_;refine ay 7 fun K hK=>?_;go_simp;obtain⟨z,l⟩:=lg (e.setCell ⟨w.heap.size+1+1,3,none⟩ (.int .i64 st));rw[<-l];have r:Below (World.heap b).size b z:=by rw[l];exact(aL b e).setCell (p:=⟨w.heap.size+1+1,3,none⟩) B _
 have F:Bx z (w.heap.size+1+1) _ #[(11:Int),(0:Int),wd,st,(0:Int),(0:Int),(0:Int),.slice none 0 0]:=⟨by rw[l];exact aD.aF (Bx.blk (w:=e) (g:=w.heap.size+1+1)) 3 _⟩;have G:ak z b:=⟨r⟩;refine av hK ?_ ⟨r⟩;clear hK K l;obtain⟨e,rfl⟩:=lg z;refine aO ?_
 go_wp2_with fail
 refine Rk (rB:=w.heap.size+1) (Bx.blk (w:=e) (g:=w.heap.size+1)) (fu _) rfl (fun W C=>?_);obtain⟨r0,r1,r2,I,J,L,M,N⟩:=Am C;clear C;simp[results,Tryz.results186,go_sem,r0,r1,r2,I,J,L,M,N]
theorem aiq:Calls Tryz.prog 186 #[.agg (opC 12 k wd st sd fr tt (.slice A n p))] w (aM w (.agg (opC 12 0 wd st 0 0 0 (.slice none 0 0)))):=by
 have O:=@bf;have P:=@dV;go_enter Tryz.func186,Tryz.ntmps186
 go_upto_region 10 with fail
 refine Rj (fun b u _ _ k1 k2 B Q=>?_);refine eU b aj (fun e _=>?_);refine ag 0 23 ?_;refine ag 1 24 ?_;refine ag 2 25 ?_;refine ag 3 26 ?_;refine ag 4 27 ?_;refine ay 5 fun K hK=>?_;go_simp;obtain⟨y,j⟩:=lg (e.setCell ⟨w.heap.size+1+1,2,none⟩ (.int .i64 wd));rw[<-j];have m:Below (World.heap b).size b y:=by rw[j];exact(aL b e).setCell (p:=⟨w.heap.size+1+1,2,none⟩) B _
 have D:Bx y (w.heap.size+1+1) _ #[(12:Int),(0:Int),wd,(0:Int),(0:Int),(0:Int),(0:Int),.slice none 0 0]:=⟨by rw[j];exact aD.aF (Bx.blk (w:=e) (g:=w.heap.size+1+1)) 2 _⟩;have E:ak y b:=⟨m⟩;refine av hK ?_ ⟨m⟩;clear hK K j;obtain⟨e,rfl⟩:=lg y;refine ag 6 28 ?_;refine ay 7 fun K hK=>?_;go_simp;obtain⟨z,l⟩:=lg (e.setCell ⟨w.heap.size+1+1,3,none⟩ (.int .i64 st));rw[<-l];have r:Below (World.heap b).size b z:=by rw[l];exact(aL b e).setCell (p:=⟨w.heap.size+1+1,3,none⟩) B _
 have F:Bx z (w.heap.size+1+1) _ #[(12:Int),(0:Int),wd,st,(0:Int),(0:Int),(0:Int),.slice none 0 0]:=⟨by rw[l];exact aD.aF (Bx.blk (w:=e) (g:=w.heap.size+1+1)) 3 _⟩;have G:ak z b:=⟨r⟩;refine av hK ?_ ⟨r⟩;clear hK K l;obtain⟨e,rfl⟩:=lg z;refine aO ?_
 go_wp2_with fail
 refine Rk (rB:=w.heap.size+1) (Bx.blk (w:=e) (g:=w.heap.size+1)) (fu _) rfl (fun W C=>?_);obtain⟨r0,r1,r2,I,J,L,M,N⟩:=Am C;clear C;simp[results,Tryz.results186,go_sem,r0,r1,r2,I,J,L,M,N]
theorem air:Calls Tryz.prog 186 #[.agg (opC 14 k wd st sd fr tt (.slice A n p))] w (aM w (.agg (opC 14 0 0 0 sd fr tt (.slice none 0 0)))):=by
 have U:=@bf;have V:=@dV;go_enter Tryz.func186,Tryz.ntmps186
 go_upto_region 14 with fail
 refine Rj (fun b u _ _ k1 k2 E X=>?_);refine eU b aj (fun e _=>?_);refine ag 0 36 ?_;refine ag 1 37 ?_;refine ag 2 38 ?_;refine ag 3 39 ?_;refine ag 4 40 ?_;refine ag 5 41 ?_;refine ag 6 42 ?_;refine ay 7 fun K hK=>?_;go_simp;obtain⟨B,j⟩:=lg (e.setCell ⟨w.heap.size+1+1,4,none⟩ (.int .i64 sd));rw[<-j];have r:Below (World.heap b).size b B:=by rw[j];exact(aL b e).setCell (p:=⟨w.heap.size+1+1,4,none⟩) E _
 have G:Bx B (w.heap.size+1+1) _ #[(14:Int),(0:Int),(0:Int),(0:Int),sd,(0:Int),(0:Int),.slice none 0 0]:=⟨by rw[j];exact aD.aF (Bx.blk (w:=e) (g:=w.heap.size+1+1)) 4 _⟩;have I:ak B b:=⟨r⟩;refine av hK ?_ ⟨r⟩;clear hK K j;obtain⟨e,rfl⟩:=lg B;refine ag 8 43 ?_;refine ay 9 fun K hK=>?_;go_simp;obtain⟨C,l⟩:=lg (e.setCell ⟨w.heap.size+1+1,5,none⟩ (.int .i64 fr));rw[<-l];have y:Below (World.heap b).size b C:=by rw[l];exact(aL b e).setCell (p:=⟨w.heap.size+1+1,5,none⟩) E _
 have J:Bx C (w.heap.size+1+1) _ #[(14:Int),(0:Int),(0:Int),(0:Int),sd,fr,(0:Int),.slice none 0 0]:=⟨by rw[l];exact aD.aF (Bx.blk (w:=e) (g:=w.heap.size+1+1)) 5 _⟩;have L:ak C b:=⟨y⟩;refine av hK ?_ ⟨y⟩;clear hK K l;obtain⟨e,rfl⟩:=lg C;refine ag 10 44 ?_;refine ay 11 fun K hK=>?_;go_simp;obtain⟨D,m⟩:=lg (e.setCell ⟨w.heap.size+1+1,6,none⟩ (.int .i64 tt));rw[<-m];have z:Below (World.heap b).size b D:=by rw[m];exact(aL b e).setCell (p:=⟨w.heap.size+1+1,6,none⟩) E _
 have M:Bx D (w.heap.size+1+1) _ #[(14:Int),(0:Int),(0:Int),(0:Int),sd,fr,tt,.slice none 0 0]:=⟨by rw[m];exact aD.aF (Bx.blk (w:=e) (g:=w.heap.size+1+1)) 6 _⟩;have N:ak D b:=⟨z⟩;refine av hK ?_ ⟨z⟩;clear hK K m;obtain⟨e,rfl⟩:=lg D;refine aO ?_
 go_wp2_with fail
 refine Rk (rB:=w.heap.size+1) (Bx.blk (w:=e) (g:=w.heap.size+1)) (fu _) rfl (fun W F=>?_);obtain⟨r0,r1,r2,O,P,Q,R,T⟩:=Am F;clear F;simp[results,Tryz.results186,go_sem,r0,r1,r2,O,P,Q,R,T]
theorem ais(F:(kd==2)=false)(G:(kd==5)=false)(b:(kd==10)=false)(e:(kd==11)=false)(j:(kd==12)=false)(l:(kd==13)=false)(m:(kd==14)=false)(r:(kd==15)=false):
  Calls Tryz.prog 186 #[.agg (opC kd k wd st sd fr tt (.slice A n p))] w (aM w (.agg (opC kd 0 0 0 0 0 0 (.slice none 0 0)))):=by
 have I:=@bf;have J:=@dV;go_enter Tryz.func186,Tryz.ntmps186
 go_wp2_with fail
 refine FQ (fun u _ _ y _=>?_);obtain⟨r0,r1,r2,z,B,C,D,E⟩:=Am y.blk.cell;refine bM (by simp[results,Tryz.results186,go_sem,r0,r1,r2,z,B,C,D,E]) rfl ⟨rfl,ai _ _⟩
end
def uK(kd k:Int):Int:=if kd=2\/kd=5 then k else 0
def uW(kd k:Int):Int:=if kd=11\/kd=12 then k else 0
def IU(kd k:Int):Int:=if kd=10\/kd=11\/kd=12 then k else 0
def IV(kd k:Int):Int:=if kd=13\/kd=14 then k else 0
def yX(kd k:Int):Int:=if kd=14 then k else 0
def uS(kd:Int)(S:List Int):List Int:=if kd=15 then S else[]
def qF(kd k wd st sd fr tt:Int)(S:List Int):Bool:=
 decide (1<=kd)&&decide (kd<=15)&&IQ kd k wd st sd fr tt kd (uK kd k) (uW kd wd) (IU kd st) (IV kd sd) (yX kd fr) (yX kd tt)&&decide (S=uS kd S)
section
variable{w:World}{A:Option Addr}{n p:Nat}{kd k wd st sd fr tt:Int}{S:List Int}
theorem YT{k' b j l m r:Int}(e:kd=15)(hv:Hid ((k',b,j,l,m,r)=(uK kd k,uW kd wd,IU kd st,IV kd sd,yX kd fr,yX kd tt))):
  Calls Tryz.prog 186 #[.agg (opC kd k wd st sd fr tt (.slice A n p))] w (aM w (.agg (opC kd k' b j l m r (.slice A n p)))):=by
 subst e;have h:=hv.out;injection h with u h;injection h with y h;injection h with z h;injection h with B h;injection h with C D
 subst u y z B C D;exact aio
theorem YU{k' l m r u y:Int}(e:kd≠15)(hv:Hid ((k',l,m,r,u,y)=(uK kd k,uW kd wd,IU kd st,IV kd sd,yX kd fr,yX kd tt))):
  Calls Tryz.prog 186 #[.agg (opC kd k wd st sd fr tt (.slice A n p))] w (aM w (.agg (opC kd k' l m r u y (.slice none 0 0)))):=by
 have h:=hv.out;injection h with z h;injection h with B h;injection h with C h;injection h with D h;injection h with E F
 subst z B C D E F;by_cases h:kd=2\/kd=5\/kd=10\/kd=11\/kd=12\/kd=13\/kd=14
 ·rcases h with rfl|rfl|rfl|rfl|rfl|rfl|rfl
  ·exact aik
  ·exact ail
  ·exact aim
  ·exact aip
  ·exact aiq
  ·exact ain
  ·exact air
 ·have b:∀j:Int,(j=2\/j=5\/j=10\/j=11\/j=12\/j=13\/j=14\/j=15)->(kd==j)=false:=fun j N=>by rw[beq_eq_false_iff_ne];omega
  have G:uK kd k=0:=if_neg om;have I:uW kd wd=0:=if_neg om;have J:IU kd st=0:=if_neg om;have K:IV kd sd=0:=if_neg om;have L:yX kd fr=0:=if_neg om;have M:yX kd tt=0:=if_neg om;rw[G,I,J,K,L,M];exact ais (b 2 au) (b 5 au) (b 10 au) (b 11 au) (b 12 au) (b 13 au) (b 14 au) (b 15 au)
theorem vY[Sl w A n S](G:n<=1000000):Calls Tryz.prog 120 #[.agg (opC kd k wd st sd fr tt (.slice A n p))] w (aM w (.bool (qF kd k wd st sd fr tt S))):=by
 have P:=@bf;by_cases C:1<=kd;rotate_left
 ·have z:Hid (qF kd k wd st sd fr tt S=false):=ae (by unfold qF;rw[nC C];rfl);have d1:decide (1<=kd)=false:=nC C;go_enter Tryz.func120,Tryz.ntmps120
  go_upto_region 1 with fail
  refine bZ aj (fun b _=>?_);refine ag 0 3 ?_;refine ag 1 4 ?_;refine ag 2 5 ?_;refine ag 3 6 ?_;refine ax 4 7 ?_;refine ax 5 8 ?_;refine ax 6 9 ?_;refine ag 7 10 ?_;refine ag 8 11 ?_;refine ax 9 12 ?_;refine ax 10 13 ?_;refine ax 11 14 ?_;refine ax 12 15 ?_;refine ag 13 16 ?_;refine ag 14 2 ?_;refine aO ?_
  go_wp2_with fail
  go_ret;exact⟨by rw[z.out];rfl,ai _ _⟩
 have d1:decide (1<=kd)=true:=l8 C;by_cases D:kd<=15;rotate_left
 ·have z:Hid (qF kd k wd st sd fr tt S=false):=ae (by unfold qF;rw[nC D];simp);have J:decide (kd<=15)=false:=nC D;go_enter Tryz.func120,Tryz.ntmps120
  go_upto_region 1 with fail
  refine bZ aj (fun b _=>?_);refine ag 0 3 ?_;refine ag 1 4 ?_;refine ag 2 5 ?_;refine ag 3 6 ?_;refine ag 4 7 ?_;refine ag 5 8 ?_;refine ag 6 9 ?_;refine ag 7 10 ?_;refine ag 8 11 ?_;refine ax 9 12 ?_;refine ax 10 13 ?_;refine ax 11 14 ?_;refine ax 12 15 ?_;refine ag 13 16 ?_;refine ag 14 2 ?_;refine aO ?_
  go_wp2_with fail
  go_ret;exact⟨by rw[z.out];rfl,ai _ _⟩
 have J:decide (kd<=15)=true:=l8 D;obtain⟨k',j,l,m,r,u,hv⟩:∃k' j l m r u,(k',j,l,m,r,u)=(uK kd k,uW kd wd,IU kd st,IV kd sd,yX kd fr,yX kd tt):=⟨_,_,_,_,_,_,rfl⟩;have E:=ae hv;have y:qF kd k wd st sd fr tt S=(IQ kd k wd st sd fr tt kd k' j l m r u&&decide (S=uS kd S)):=by
  injection hv with C h;injection h with D h;injection h with L h;injection h with M h;injection h with N O
  unfold qF;rw[d1,J,C,D,L,M,N,O];rfl
 clear hv;rcases hq:IQ kd k wd st sd fr tt kd k' j l m r u with _|_
 ·have F:=ae hq;have z:Hid (qF kd k wd st sd fr tt S=false):=ae (by rw[y,hq];rfl);clear hq y;by_cases e:kd=15
  focus
   have B:=ae e;clear e;go_enter Tryz.func120,Tryz.ntmps120
   go_upto_region 1 with fail
   refine bZ aj (fun b _=>?_);refine ag 0 3 ?_;refine ag 1 4 ?_;refine ag 2 5 ?_;refine ag 3 6 ?_;refine ag 4 7 ?_;refine ag 5 8 ?_;refine ag 6 9 ?_;refine ag 7 10 ?_;refine ag 8 11 ?_;refine ag 9 12 ?_;refine ag 10 13 ?_;refine ay 11 fun K hK=>?_;go_simp
   (with_reducible refine(YT B.out E).mono ?_)
  rotate_left
  focus
   have B:=ae e;clear e;go_enter Tryz.func120,Tryz.ntmps120
   go_upto_region 1 with fail
   refine bZ aj (fun b _=>?_);refine ag 0 3 ?_;refine ag 1 4 ?_;refine ag 2 5 ?_;refine ag 3 6 ?_;refine ag 4 7 ?_;refine ag 5 8 ?_;refine ag 6 9 ?_;refine ag 7 10 ?_;refine ag 8 11 ?_;refine ag 9 12 ?_;refine ag 10 13 ?_;refine ay 11 fun K hK=>?_;go_simp
   (with_reducible refine(YU B.out E).mono ?_)
  all_goals
   rintro e b ⟨rfl,_⟩;dsimp only;refine av hK ?_;clear hK K;refine ay 12 fun K hK=>?_;go_simp
   (with_reducible refine(aij F).mono ?_)
   rintro e b ⟨rfl,_⟩;dsimp only;refine av hK ?_;clear hK K;refine ag 13 16 ?_;refine ag 14 2 ?_;refine aO ?_
   go_wp2_with fail
   go_ret;exact⟨by rw[z.out];rfl,ai _ _⟩
 ·have F:=ae hq;obtain⟨v,hv⟩:=lh (decide (S=uS kd S));have z:Hid (qF kd k wd st sd fr tt S=v):=ae (by rw[y,hq,hv];rfl);clear hq y;by_cases e:kd=15
  focus
   have I:Hid (decide (S=S)=v):=ae (by rw[<-hv,uS,if_pos e]);have B:=ae e;clear e hv;go_enter Tryz.func120,Tryz.ntmps120
   go_upto_region 1 with fail
   refine bZ aj (fun b _=>?_);refine ag 0 3 ?_;refine ag 1 4 ?_;refine ag 2 5 ?_;refine ag 3 6 ?_;refine ag 4 7 ?_;refine ag 5 8 ?_;refine ag 6 9 ?_;refine ag 7 10 ?_;refine ag 8 11 ?_;refine ag 9 12 ?_;refine ag 10 13 ?_;refine ay 11 fun K hK=>?_;go_simp
   (with_reducible refine(YT B.out E).mono ?_)
   rintro e b ⟨rfl,_⟩;dsimp only;refine av hK ?_;clear hK K;refine ay 12 fun K hK=>?_;go_simp
   (with_reducible refine(YS G G F I).mono ?_)
  rotate_left
  focus
   have I:Hid (decide (S=[])=v):=ae (by rw[<-hv,uS,if_neg e]);have B:=ae e;clear e hv;go_enter Tryz.func120,Tryz.ntmps120
   go_upto_region 1 with fail
   refine bZ aj (fun b _=>?_);refine ag 0 3 ?_;refine ag 1 4 ?_;refine ag 2 5 ?_;refine ag 3 6 ?_;refine ag 4 7 ?_;refine ag 5 8 ?_;refine ag 6 9 ?_;refine ag 7 10 ?_;refine ag 8 11 ?_;refine ag 9 12 ?_;refine ag 10 13 ?_;refine ay 11 fun K hK=>?_;go_simp
   (with_reducible refine(YU B.out E).mono ?_)
   rintro e b ⟨rfl,_⟩;dsimp only;refine av hK ?_;clear hK K;refine ay 12 fun K hK=>?_;go_simp
   (with_reducible refine(YS G (aS _) F I).mono ?_)
  all_goals
   rintro e b ⟨rfl,_⟩;dsimp only;refine av hK ?_;clear hK K;refine ag 13 16 ?_;refine ag 14 2 ?_;refine aO ?_
   go_wp2_with fail
   go_ret;exact⟨by rw[z.out];rfl,ai _ _⟩
def nG(kd:Int):Int:=if kd=6\/kd=7 then 2 else 1
def rz(kd:Int):Int:=if kd=6\/kd=7 then 2 else if kd=13 then 8 else 1
def ky(kd:Int):Int:=if kd=8 then 2 else if kd=9\/kd=10 then 1 else 0
theorem MR(h:qF kd k wd st sd fr tt S=true):1<=kd/\kd<=15:=by
 unfold qF at h;simp only[dm,dU]at h;exact⟨h.1.1.1,h.1.1.2⟩
theorem ait(h:Hid (1<=kd/\kd<=5)):Calls Tryz.prog 213 #[kd] w (aM w (.int .i64 1)):=by
 have b:kd=1\/kd=2\/kd=3\/kd=4\/kd=5:=by have:=h.out;omega
 rcases b with rfl|rfl|rfl|rfl|rfl
 all_goals
  go_enter Tryz.func213,Tryz.ntmps213
  go_wp2_with fail
  go_ret;exact⟨rfl,ai _ _⟩
theorem aiu(h:Hid (kd=6\/kd=7)):Calls Tryz.prog 213 #[kd] w (aM w (.int .i64 2)):=by
 rcases h.out with rfl|rfl
 all_goals
  go_enter Tryz.func213,Tryz.ntmps213
  go_wp2_with fail
  go_ret;exact⟨rfl,ai _ _⟩
theorem Rn[Sl w A n S](l:n<=1000000)(hb:qF kd k wd st sd fr tt S=true):Calls Tryz.prog 166 #[.agg (opC kd k wd st sd fr tt (.slice A n p))] w (aM w (.tuple #[.int .i64 (nG kd),.int .i64 (rz kd)])):=by
 have B:=@bf;obtain⟨k1,y⟩:=MR hb;by_cases C:kd<=7
 ·by_cases z:kd<=5
  ·have j:Hid (nG kd=1/\rz kd=1):=ae ⟨if_neg om,by unfold rz;rw[if_neg om,if_neg om]⟩;have m:Hid (1<=kd/\kd<=5):=ae ⟨k1,z⟩;go_enter Tryz.func166,Tryz.ntmps166
   go_wp2_with (first|(go_at_call 120;(with_reducible refine(vY l).mono ?_);rintro e u ⟨rfl,_⟩)|(go_at_call 213;(with_reducible refine(ait m).mono ?_);rintro e u ⟨rfl,_⟩))
   go_ret2;exact⟨by rw[j.out.1,j.out.2];rfl,ai _ _⟩
  ·have j:Hid (nG kd=2/\rz kd=2):=ae ⟨if_pos om,if_pos om⟩;have m:Hid (kd=6\/kd=7):=ae om;go_enter Tryz.func166,Tryz.ntmps166
   go_wp2_with (first|(go_at_call 120;(with_reducible refine(vY l).mono ?_);rintro e u ⟨rfl,_⟩)|(go_at_call 213;(with_reducible refine(aiu m).mono ?_);rintro e u ⟨rfl,_⟩))
   go_ret2;exact⟨by rw[j.out.1,j.out.2];rfl,ai _ _⟩
 ·by_cases b:kd=13
  focus
   have j:Hid (nG kd=1/\rz kd=8):=ae ⟨if_neg om,by unfold rz;rw[if_neg om,if_pos b]⟩;have r:(kd==13)=true:=by simpa using b
  rotate_left
  focus
   have j:Hid (nG kd=1/\rz kd=1):=ae ⟨if_neg om,by unfold rz;rw[if_neg om,if_neg b]⟩;have r:(kd==13)=false:=by simpa using b
  all_goals
   clear b;go_enter Tryz.func166,Tryz.ntmps166
   go_wp2_with (first|(go_at_call 120;(with_reducible refine(vY l).mono ?_);rintro e u ⟨rfl,_⟩))
   go_ret2;exact⟨by rw[j.out.1,j.out.2];rfl,ai _ _⟩
theorem aiv[Sl w A n S](j:n<=1000000)(hb:qF kd k wd st sd fr tt S=true):Calls Tryz.prog 167 #[.agg (opC kd k wd st sd fr tt (.slice A n p))] w (aM w (.int .i64 (ky kd))):=by
 have z:=@bf;by_cases l:kd=8
 ·subst l;go_enter Tryz.func167,Tryz.ntmps167
  go_wp2_with (first|(go_at_call 120;(with_reducible refine(vY j).mono ?_);rintro e u ⟨rfl,_⟩))
  go_ret;exact⟨rfl,ai _ _⟩
 by_cases m:kd=9
 ·subst m;go_enter Tryz.func167,Tryz.ntmps167
  go_wp2_with (first|(go_at_call 120;(with_reducible refine(vY j).mono ?_);rintro e u ⟨rfl,_⟩))
  go_ret;exact⟨rfl,ai _ _⟩
 by_cases b:kd=10
 ·subst b;go_enter Tryz.func167,Tryz.ntmps167
  go_wp2_with (first|(go_at_call 120;(with_reducible refine(vY j).mono ?_);rintro e u ⟨rfl,_⟩))
  go_ret;exact⟨rfl,ai _ _⟩
 have r:Hid (ky kd=0):=ae (by unfold ky;rw[if_neg l,if_neg om]);have B:(kd==8)=false:=by simpa using l
 have C:(kd==9)=false:=by simpa using m
 have y:(kd==10)=false:=by simpa using b
 clear l m b;go_enter Tryz.func167,Tryz.ntmps167
 go_wp2_with (first|(go_at_call 120;(with_reducible refine(vY j).mono ?_);rintro e u ⟨rfl,_⟩))
 go_ret;exact⟨by rw[r.out];rfl,ai _ _⟩
def rA(kd k wd st sd fr tt:Int)(S:List Int)(np nx:Int):Int:=if qF kd k wd st sd fr tt S then(if nx<nG kd\/rz kd<nx\/np≠ky kd then 20 else 0)else 21
theorem aiw{np nx:Int}[Sl w A n S](b:n<=1000000):Calls Tryz.prog 104 #[.agg (opC kd k wd st sd fr tt (.slice A n p)),np,nx] w (aM w (.int .i64 (rA kd k wd st sd fr tt S np nx))):=by
 have F:=@bf;rcases hb:qF kd k wd st sd fr tt S with _|_
 ·have j:Hid (rA kd k wd st sd fr tt S np nx=21):=ae (by unfold rA;rw[hb];rfl);go_enter Tryz.func104,Tryz.ntmps104
  go_wp2_with (first|(go_at_call 120;(with_reducible refine(vY b).mono ?_);rintro e u ⟨rfl,_⟩))
  go_ret;exact⟨by rw[j.out];rfl,ai _ _⟩
 obtain⟨lo,y⟩:=lh (nG kd);obtain⟨hi,z⟩:=lh (rz kd);obtain⟨l,B⟩:=lh (ky kd);have m:Hid (rA kd k wd st sd fr tt S np nx=if nx<lo\/hi<nx\/np≠l then 20 else 0):=ae (by unfold rA;rw[hb,y,z,B];rfl);by_cases C:nx<lo
 ·have j:Hid (rA kd k wd st sd fr tt S np nx=20):=ae (by rw[m.out,if_pos (.inl C)]);go_enter Tryz.func104,Tryz.ntmps104
  go_wp2_with (first|(go_at_call 120;(with_reducible refine(vY b).mono ?_);rintro e u ⟨rfl,_⟩)|(go_at_call 166;(with_reducible refine(Rn b hb).mono ?_);rintro e u ⟨rfl,_⟩))
  go_ret;exact⟨by rw[j.out];rfl,ai _ _⟩
 by_cases D:hi<nx
 ·have j:Hid (rA kd k wd st sd fr tt S np nx=20):=ae (by rw[m.out,if_pos (.inr (.inl D))]);go_enter Tryz.func104,Tryz.ntmps104
  go_wp2_with (first|(go_at_call 120;(with_reducible refine(vY b).mono ?_);rintro e u ⟨rfl,_⟩)|(go_at_call 166;(with_reducible refine(Rn b hb).mono ?_);rintro e u ⟨rfl,_⟩))
  go_ret;exact⟨by rw[j.out];rfl,ai _ _⟩
 by_cases r:np=l
 focus
  have j:Hid (rA kd k wd st sd fr tt S np nx=0):=ae (by rw[m.out,if_neg om]);have E:(np !=l)=false:=by simpa using r
 rotate_left
 focus
  have j:Hid (rA kd k wd st sd fr tt S np nx=20):=ae (by rw[m.out,if_pos (.inr (.inr r))]);have E:(np !=l)=true:=by simpa using r
 all_goals
  clear r;go_enter Tryz.func104,Tryz.ntmps104
  go_wp2_with (first|(go_at_call 120;(with_reducible refine(vY b).mono ?_);rintro e u ⟨rfl,_⟩)|(go_at_call 166;(with_reducible refine(Rn b hb).mono ?_);rintro e u ⟨rfl,_⟩)|(go_at_call 167;(with_reducible refine(aiv b hb).mono ?_);rintro e u ⟨rfl,_⟩))
  go_ret;exact⟨by rw[j.out];rfl,ai _ _⟩
theorem BX{np nx:Int}{v:Int}[Sl w A n S](b:n<=1000000)(hv:Hid (rA kd k wd st sd fr tt S np nx=v)):Calls Tryz.prog 104 #[.agg (opC kd k wd st sd fr tt (.slice A n p)),np,nx] w (aM w (.int .i64 v)):=Rl (aiw b) (by rw[hv.out])
end
def tL(l:List Int):Nat->Int
 |0=> -1
 |k+1=>if tL l k<0\/l.getD (tL l k).toNat 0<l.getD k 0 then(k:Int)else tL l k
def IW(l:List Int):Int:=tL l l.length
theorem Ro{l:List Int}:∀{k:Nat},0<k->∃b:Nat,tL l k=(b:Int)/\b<k/\(∀i,i<k->l.getD i 0<=l.getD b 0)/\∀i,i<b->l.getD i 0<l.getD b 0
 |0,h=>absurd h om
 |k+1,_=>by
  unfold tL;by_cases u:k=0
  ·subst u;refine⟨0,by simp[tL],om,fun i hi=>?_,fun i hi=>om⟩;obtain rfl:i=0:=om;exact jg _
  ·obtain⟨b,e,hb,r,y⟩:=Ro (l:=l) (k:=k) om;rw[e];simp only[dD]
   split
   ·rename_i j;have j:l.getD b 0<l.getD k 0:=by
     rcases j with j|j
     ·omega
     ·exact j
    refine⟨k,rfl,om,fun i hi=>?_,fun i hi=>?_⟩
    ·by_cases m:i=k
     ·subst m;exact jg _
     ·have:=r i om;omega
    ·have:=r i om;omega
   ·rename_i j;have j:¬l.getD b 0<l.getD k 0:=fun h=>j (.inr h);refine⟨b,rfl,om,fun i hi=>?_,y⟩;by_cases m:i=k
    ·subst m;omega
    ·exact r i om
def Ao:List Int->Int
 |[]=>0
 |x::l=>l.foldl max x
theorem aix(l:List Int):∀x:Int,(l.foldl max x=x\/l.foldl max x∈l)/\x<=l.foldl max x/\∀y∈l,y<=l.foldl max x:=by
 induction l with
 |nil=>intro x;exact⟨.inl rfl,jg _,fun y e=>by cases e⟩
 |cons a l j=>
  intro x;obtain⟨b,r,m⟩:=j (max x a);simp only[yD];refine⟨?_,om,fun y e=>?_⟩
  ·rcases b with b|b
   ·rcases Int.le_total x a with h|h
    ·right;rw[b];rw[show max x a=a from om];exact dN
    ·left;rw[b];omega
   ·exact .inr (fI _ b)
  ·rcases dz.1 e with rfl|e
   ·omega
   ·exact m y e
theorem YV{l:List Int}(h:l≠[]):Ao l∈l/\∀y∈l,y<=Ao l:=by
 cases l with
 |nil=>exact absurd rfl h
 |cons x l=>
  obtain⟨b,j,m⟩:=aix l x;refine⟨?_,fun y e=>?_⟩
  ·rcases b with b|b
   ·show l.foldl max x∈x::l;rw[b];exact dN
   ·exact fI _ b
  ·rcases dz.1 e with rfl|e
   ·exact j
   ·exact m y e
theorem aiy{l:List Int}{m:Int}(e:m∈l)(j:∀y∈l,y<=m):m=Ao l:=by
 have b:l≠[]:=by rintro rfl;cases e
 obtain⟨r,u⟩:=YV b;have:=j _ r;have:=u _ e;omega
theorem YW{l:List Int}(h:l≠[]):∃b:Nat,IW l=(b:Int)/\b<l.length/\l[b]?=some (Ao l):=by
 obtain⟨b,e,hb,j,-⟩:=Ro (l:=l) (k:=l.length) (WA.2 h);refine⟨b,e,hb,?_⟩;have g:l.getD b 0=l[b]:=by simp[aQ,hb]
 have:l[b]=Ao l:=aiy (uA hb) fun y m=>by
  obtain⟨i,hi,rfl⟩:=List.mem_iff_getElem.1 m;have:=j i hi;rw[g]at this;simpa[aQ,hi]using this
 rw[aW hb,this]
def uP(v:List Int->Int)(xs:List Int)(Z n step W m:Nat):List Int:=(List.range m).map fun i=>v ((xs.drop (i/n*Z+i%n*step)).take W)
theorem MU(v:List Int->Int)(xs:List Int)(Z n step W m:Nat):(uP v xs Z n step W m).length=m:=by simp[uP]
theorem aiz(v:List Int->Int)(xs:List Int)(Z n step W m:Nat):uP v xs Z n step W (m+1)=uP v xs Z n step W m++[v ((xs.drop (m/n*Z+m%n*step)).take W)]:=by simp[uP,vM]
theorem ja{P:Program}{f:Nat}{args:Array Value}{w:World}{v v':Value}(h:Calls P f args w (aM w v))(e:v=v'):Calls P f args w (aM w v'):=e▸h
theorem YX{zs xs:List Int}(h:bH zs xs=true):xs.length<=65536/\1<=xs.length/\zs.length<=4:=by
 obtain⟨b,e⟩:=(jI _ _).1 h;obtain⟨n,j,l,m⟩:=pQ b;obtain⟨_,r,_,_⟩:=(j5 _).1 b;omega
theorem Rp{zs xs ys:List Int}(h:bH zs xs=true)(b:bH zs ys=true):xs.length=ys.length:=by
 have e:=((jI _ _).1 h).2;have j:=((jI _ _).1 b).2;omega
section
variable{w:World}{A B C D:Option Addr}{n m c d:Nat}{zs xs:List Int}
theorem MW[Sl w A n zs][Sl w B m zs](b:n<=1000000)(hm:m<=1000000):Calls Tryz.prog 70 #[.slice A n c,.slice B m d] w (aM w (.bool true)):=ja (Dq b hm) au
end
section
variable{w:World}{A B:Option Addr}{n m c d:Nat}{zs xs:List Int}
theorem aiA[a:Sl w A n zs](T:n<=1000000):Calls Tryz.prog 175 #[.slice A n c] w (aM w (.int .i64 (IW zs))):=by
 obtain⟨a,rfl⟩:=a;have a:Sl w A zs.length zs:=⟨a,rfl⟩;go_enter Tryz.func175,Tryz.ntmps175
 go_wp2_with fail
 go_loop [3,8] (fun b i=>∃k:Nat,k<=zs.length/\i=.int .i64 k/\b=.int .i64 (tL zs k)) (fun _ i=>zs.length-(intOf i).toNat)
 case atStart=>exact⟨0,aS _,rfl,rfl⟩
 case round=>
  obtain⟨k,U,rfl,rfl⟩:=hrel;by_cases D:k<zs.length
  ·obtain⟨b,off,z,rfl,ob,M,I⟩:=a.get D;by_cases E:k=0
   ·subst E;simp only[nA]at M;rw[show tL zs 0= -1 from rfl]
    go_wp2_with fail
    go_round
    case rel=>exact⟨1,om,rfl,by simp[tL]⟩
    case measure=>simp[intOf];omega
   ·obtain⟨j,e,V,N,O⟩:=Ro (l:=zs) (k:=k) om;have F:j<zs.length:=om;obtain⟨X,J,y,u,P,Q,K⟩:=a.get F;injection u with u
    injection u with u G
    subst u G;have r:tL zs (k+1)=if y<z then(k:Int)else(j:Int):=by
     have R:zs.getD j 0=y:=by rw[aQ,K.out];rfl
     have S:zs.getD k 0=z:=by rw[aQ,I.out];rfl
     rw[tL,e,dD,R,S];by_cases h:y<z
     ·rw[if_pos (.inr h),if_pos h]
     ·rw[if_neg om,if_neg h]
    rw[e];clear N O e I K;by_cases C:y<z
    focus
     have L:Hid (tL zs (k+1)=(k:Int)):=ae (by rw[r,if_pos C])
    rotate_left
    focus
     have L:Hid (tL zs (k+1)=(j:Int)):=ae (by rw[r,if_neg C])
    all_goals
     clear r
     go_wp2_with fail
     go_round
     case rel=>exact⟨k+1,om,by go_num,by rw[L.out]⟩
     case measure=>simp[intOf];omega
  ·obtain rfl:k=zs.length:=om
   go_wp2_with fail
   go_ret;exact⟨rfl,ai _ _⟩
end
theorem aiB{Z W S:Nat}(h:sN (Z:Int) (W:Int) (S:Int)=true):∃n:Nat,sQ (Z:Int) (W:Int) (S:Int)=(n:Int)/\1<=n/\1<=W/\1<=S/\W<=1024/\S<=1024/\Z<=1024/\(∀j,j<n->j*S+W<=Z)/\Z<n*S+W/\n<=Z:=by
 have e:=h;simp only[sN,dm,dU,Ic]at h;obtain⟨m,r,u,y,z,B,C⟩:=h;have hS:0<S:=om;refine⟨1+(Z-W)/S,?_,Nat.le_add_right _ _,om,om,om,om,om,fun j D=>?_,?_,?_⟩
 ·rw[sQ,if_pos e,show(Z:Int)-(W:Int)=((Z-W:Nat):Int)from om,<-PU,mF];rfl
 ·have l:j*S<=(Z-W)/S*S:=qV _ om;have b:=Nat.div_mul_le_self (Z-W) S;omega
 ·have l:=Nat.div_add_mod (Z-W) S;have b:=Nat.mod_lt (Z-W) hS;rw[Hr,Ht ((Z-W)/S) S];omega
 ·have b:=H7 (Z-W) S;omega
def lQ(zs:List Int):Int:=zs.getD (zs.length-1) 0
def rC(zs:List Int)(W S:Int):Int:=if aU zs then mI (lQ zs) W S else 20
def rD(zs:List Int)(W S:Int):List Int:=if aU zs&&sN (lQ zs) W S then zs.set (zs.length-1) (sQ (lQ zs) W S)else[]
structure PW(zs V:List Int)(R Z n W S:Nat):Prop where
 right:aU zs=true
 at_:zs[zs.length-1]?=some (Z:Int)
 len:1<=zs.length
 v:V=zs.set (zs.length-1) (n:Int)
 YZ:aU V=true
 size:aV zs=((R*Z:Nat):Int)
 MX:aV V=((R*n:Nat):Int)
 R1:1<=R
 n1:1<=n
 W1:1<=W
 S1:1<=S
 W2:W<=1024
 S2:S<=1024
 Z2:Z<=1024
 fit:∀j,j<n->j*S+W<=Z
 most:Z<n*S+W
 small:R*Z<=65536
 nZ:n<=Z
 pl:rD zs (W:Int) (S:Int)=V
theorem PW.of{zs:List Int}{W S:Int}(h:rC zs W S=0):∃R Z n l m:Nat,W=(l:Int)/\S=(m:Int)/\PW zs (rD zs W S) R Z n l m:=by
 unfold rC at h
 split at h
 ·rename_i hr;obtain⟨r1,C,y,D⟩:=(j5 zs).1 hr;obtain⟨P,I,Z,b⟩:=JW.of hr (show zs.length-1<zs.length by omega);have B:lQ zs=(Z:Int):=by rw[lQ,aQ,b.at_];rfl
  have j:sN (lQ zs) W S=true:=by
   unfold mI at h
   split at h
   ·assumption
   ·omega
  have r:=j;simp only[sN,dm,dU,Ic]at r;obtain⟨l,rfl⟩:=eF (show 0<=W by omega);obtain⟨m,rfl⟩:=eF (show 0<=S by omega);rw[B]at j;obtain⟨n,e,n1,E,F,G,s2,J,fit,most,nZ⟩:=aiB j;have K:I=1:=by
   have:=b.behind;rw[kL om]at this;simp[aV]at this;omega
  subst K;have hv:rD zs l m=zs.set (zs.length-1) (n:Int):=by rw[rD,B,j,hr];simp[e]
  have z:aV zs=((P*Z:Nat):Int):=by
   rw[IL b.at_,b.ahead,b.behind];simp
  have u:aV (zs.set (zs.length-1) (n:Int))=((P*n:Nat):Int):=by
   rw[YM _ om,b.ahead,b.behind];simp
  have L:P*n<=P*Z:=EX _ nZ;refine⟨P,Z,n,l,m,rfl,rfl,⟨hr,b.at_,r1,hv,?_,z,by rw[hv,u],b.p1,n1,E,F,G,s2,J,fit,most,om,nZ,rfl⟩⟩;rw[hv,j5];exact⟨by simpa using r1,by simpa using C,YL y _ om om,by rw[u];omega⟩
 ·omega
section
variable{zs V:List Int}{R Z n W S:Nat}
theorem PW.none(h:PW zs V R Z n W S):rC zs W S=0:=by
 have b:lQ zs=(Z:Int):=by rw[lQ,aQ,h.at_];rfl
 have:=h.fit 0 h.n1;have e:=h.Z2;have j:=h.W1;have l:=h.W2;have m:=h.S1;have r:=h.S2;rw[rC,if_pos h.right,b,mI,if_pos];simp only[sN,dm,dU];omega
theorem PW.win(h:PW zs V R Z n W S){i:Nat}(hi:i<R*n):i/n<R/\i%n<n/\i%n*S+W<=Z/\i/n*Z+i%n*S+W<=R*Z:=by
 have j:0<n:=h.n1;have b:i/n<R:=Nat.div_lt_of_lt_mul (by rw[Ht];exact hi);have e:=Nat.mod_lt i j;have l:=h.fit _ e;have m:(i/n+1)*Z<=R*Z:=qV _ b;rw[Bl]at m;exact⟨b,e,l,om⟩
end
def tab(N:Nat)(F:Nat->Int):List Int:=(List.range N).map F
section
variable{N:Nat}{F G:Nat->Int}
theorem DN:(tab N F).length=N:=by simp[tab]
theorem MZ{k:Nat}(h:k<N):(tab N F)[k]?=some (F k):=by rw[tab,dE,xc h];rfl
theorem IY(h:∀q,q<N->F q=G q):tab N F=tab N G:=oZ fun q hq=>h q (yF.1 hq)
theorem Y0(k:Nat)(z:Int):(tab N F).set k z=tab N fun q=>if q=k then z else F q:=by
 apply pE;intro q;rw[nQ];by_cases hq:q<N
 ·rw[MZ hq,MZ hq];by_cases b:k=q
  ·subst b;rw[if_pos rfl,if_pos (by rw[DN];exact hq),if_pos rfl]
  ·rw[if_neg b,if_neg (lI b)]
 ·have e:(tab N F)[q]?=none:=mE (by rw[DN];omega);have j:(tab N fun q=>if q=k then z else F q)[q]?=none:=mE (by rw[DN];omega);rw[e,j,DN];by_cases b:k=q
  ·subst b;rw[if_pos rfl,if_neg hq]
  ·rw[if_neg b]
theorem aiC:tab N (fun _=>0)=List.replicate N 0:=by rw[tab,List.map_const',List.length_range]
end
def qG(b:Int)(W:Nat)(l:List Int):Int:=if b=1 then Ao l else fdiv (uG l) (fint W)
def Rq(b:Int)(W:Nat)(l:List Int)(f q:Nat):Bool:=if b=1 then decide (q=f+(IW ((l.drop f).take W)).toNat)else decide (f<=q)&&decide (q<f+W)
def Rs(b:Int)(W:Nat)(y:Int):Int:=if b=1 then y else fdiv y (fint W)
def ji(b:Int)(xs gs:List Int)(Z n S W:Nat):Nat->Nat->Int
 |0,_=>0
 |i+1,q=>if Rq b W xs (i/n*Z+i%n*S) q then dQ (ji b xs gs Z n S W i q) (Rs b W (gs.getD i 0))else ji b xs gs Z n S W i q
end Go.Proofs.YtmkjnlifimffkaaGreat
