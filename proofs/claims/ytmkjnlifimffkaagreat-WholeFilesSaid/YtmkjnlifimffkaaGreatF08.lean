/- Lemmas. -/
import Derived.Deep.DeepCutAuto
import Derived.Test.YtmkjnlifimffkaaGreatF07
namespace Go.Proofs.YtmkjnlifimffkaaGreat
open Go.RowKit Tryz
set_option linter.all false
set_option maxRecDepth 100000
set_option maxHeartbeats 0
section
variable{W X u w0:World}{Hs T T':TypeId}{args i4 wP:Array Value}{f g i j m:Nat}{v v0 v1 v3 v4 v5 v6 v7 x0 x1 x2 x3 x4 x5 x6 x7:Value}{act:Act}{A B:Option Addr}{C4 C5 E P8 k' kd sd st tt y z:Int}{P:Program}{O:List Int}
abbrev fL(kd k wd st sd fr tt:Int)(S:Value):Array Value:= #[kd,k,wd,st,sd,fr,tt,S]
def EZ{Q:World->Prop}{cs:eL}(h:∀u,aj u X->Bx u X.1.size T cs->Bx u (X.1.size+1) T' i4->Q u):Q ((X.alloc (.cells cs T)).alloc (.cells i4 T')):=
 h _ (aK) ao ao
def Mg(w:ay)(d:Nat)(a a':Int):(Op.equalIn (d+1) 2 a a').run prog w=.ok (a==a') w:=by
 simp[Op.equalIn,dU underlying2]
def Mh(w:ay){xs:eL}(h:xs[i]?=some v):(part 2 xs i).run prog w=.ok v w:=by
 simp[part,isAgg,dU underlying2,h]
def E0(w:ay)(a b c d e f g a' j l d' m r u:Int):(Op.equalIn 10000 332 (.agg #[a,b,c,d,e,f,g]) (.agg #[a',j,l,d',m,r,u])).run prog w=.ok (a==a'&&b==j&&c==l&&d==d'&&e==m&&f==r&&g==u) w:=by
 have h:∀n:Nat,(Op.equalIn (n+2) 332 (.agg #[a,b,c,d,e,f,g]) (.agg #[a',j,l,d',m,r,u])).run prog w=if a=a' then(if b=j then(if c=l then(if d=d' then(if e=m then(if f=r then(if g=u then Result.ok true w else Result.ok false w)else Result.ok false w)else Result.ok false w)else Result.ok false w)else Result.ok false w)else Result.ok false w)else Result.ok false w:=by
  intro n;rw[Op.equalIn];simp[dU underlying332,List.range',Mg,Mh]
 rw[h 9998];by_cases y:a=a'<;>by_cases z:b=j<;>by_cases B:c=l<;>by_cases C:d=d'<;>by_cases D:e=m<;>by_cases E:f=r<;>by_cases F:g=u<;>simp[*]
def jd{Q:World->Prop}{cs:eL}(h:∀u,aj u X->Bx u X.1.size T cs->Bx u (X.1.size+1) T' i4->Bx u (X.1.size+1+1) Hs wP->Q u):Q (((X.alloc (.cells cs T)).alloc (.cells i4 T')).alloc (.cells wP Hs)):=
 h _ (aK) ao ao ao
def q2{Q:World->Prop}{cs:eL}(h:∀b u,aj b X->aj u b->Bx b X.1.size T cs->Bx b (X.1.size+1) T' i4->b.1.size<=X.1.size+1+1->Bx u (X.1.size+1+1) Hs wP->Q u):Q (((X.alloc (.cells cs T)).alloc (.cells i4 T')).alloc (.cells wP Hs)):=
 h ((X.alloc (.cells cs T)).alloc (.cells i4 T')) _ (aK) (aK) ao ao aG ao
def iG{b:Value}(h:∀i,W.cell? ⟨g,i,none⟩= #[v0,v1,b,v3,v4,v5,v6,v7][i]?):
  W.cell? ⟨g,0,none⟩=some v0/\W.cell? ⟨g,1,none⟩=some v1/\W.cell? ⟨g,2,none⟩=some b/\W.cell? ⟨g,3,none⟩=some v3/\W.cell? ⟨g,4,none⟩=some v4/\W.cell? ⟨g,5,none⟩=some v5/\W.cell? ⟨g,6,none⟩=some v6/\W.cell? ⟨g,7,none⟩=some v7:=
 ⟨h 0,h 1,h 2,h 3,h 4,h 5,h 6,h 7⟩
section
variable{T0:TypeId}{rB:Nat}{v2:Value}
def P6(u:ay)(rB:Nat)(v0 v1 v2 v3 v4 v5 v6 v7:Value):World:=(((((((u.setCell (rB,0) v0).setCell (rB,1) v1).setCell (rB,2) v2).setCell (rB,3) v3).setCell (rB,4) v4).setCell (rB,5) v5).setCell (rB,6) v6).setCell (rB,7) v7
def H9(h:aB u rB T0 #[x0,x1,x2,x3,x4,x5,x6,x7]):aB (P6 u rB v0 v1 v2 v3 v4 v5 v6 v7) rB T0 #[v0,v1,v2,v3,v4,v5,v6,v7]:=by
 have b:aB _ rB T0 #[v0,x1,x2,x3,x4,x5,x6,x7]:=h.ax 0 v0;have e:aB _ rB T0 #[v0,v1,x2,x3,x4,x5,x6,x7]:=b.ax 1 v1;have j:aB _ rB T0 #[v0,v1,v2,x3,x4,x5,x6,x7]:=e.ax 2 v2;have l:aB _ rB T0 #[v0,v1,v2,v3,x4,x5,x6,x7]:=j.ax 3 v3;have m:aB _ rB T0 #[v0,v1,v2,v3,v4,x5,x6,x7]:=l.ax 4 v4;have r:aB _ rB T0 #[v0,v1,v2,v3,v4,v5,x6,x7]:=m.ax 5 v5;have y:aB _ rB T0 #[v0,v1,v2,v3,v4,v5,v6,x7]:=r.ax 6 v6;exact y.ax 7 v7
def Ia(h:Below w0.1.size w0 u)(hr:w0.1.size<=rB):Below w0.1.size w0 (P6 u rB v0 v1 v2 v3 v4 v5 v6 v7):=by
 have b:=h.setCell (p:=⟨rB,0,none⟩) hr v0;have e:=b.setCell (p:=⟨rB,1,none⟩) hr v1;have j:=e.setCell (p:=⟨rB,2,none⟩) hr v2;have l:=j.setCell (p:=⟨rB,3,none⟩) hr v3;have m:=l.setCell (p:=⟨rB,4,none⟩) hr v4;have r:=m.setCell (p:=⟨rB,5,none⟩) hr v5;have y:=r.setCell (p:=⟨rB,6,none⟩) hr v6;exact y.setCell (p:=⟨rB,7,none⟩) hr v7
def Ib{F:Func}[aF w0 u](h:aB u rB T0 #[x0,x1,x2,x3,x4,x5,x6,x7])(hr:w0.1.size<=rB)(hd:act.defers=[])
  (b:∀W:World,(∀i,W.cell? ⟨rB,i,none⟩= #[v0,v1,v2,v3,v4,v5,v6,v7][i]?)->(results F act.tmps).run prog W=.ok v W):
  bodyPost prog F (aD w0 v) .ret act ((((((((u.setCell ⟨rB,0,none⟩ v0).setCell ⟨rB,1,none⟩ v1).setCell ⟨rB,2,none⟩ v2).setCell ⟨rB,3,none⟩ v3).setCell ⟨rB,4,none⟩ v4).setCell ⟨rB,5,none⟩ v5).setCell ⟨rB,6,none⟩ v6).setCell ⟨rB,7,none⟩ v7):=by
 have e:=H9 (v0:=v0) (v1:=v1) (v2:=v2) (v3:=v3) (v4:=v4) (v5:=v5) (v6:=v6) (v7:=v7) h;have j:=Ia (v0:=v0) (v1:=v1) (v2:=v2) (v3:=v3) (v4:=v4) (v5:=v5) (v6:=v6) (v7:=v7) (a7 w0 u) hr;exact a8 (b _ e.cell) hd ⟨rfl,⟨j⟩⟩
end
section
variable{w:World}{n p:Nat}{k wd fr:Int}{S:List Int}
def UY{b:Value}(h:∀i,W.cell? ⟨g,i,none⟩= #[v0,v1,b,v3,v4,v5,v6][i]?):
  W.cell? ⟨g,0,none⟩=some v0/\W.cell? ⟨g,1,none⟩=some v1/\W.cell? ⟨g,2,none⟩=some b/\W.cell? ⟨g,3,none⟩=some v3/\W.cell? ⟨g,4,none⟩=some v4/\W.cell? ⟨g,5,none⟩=some v5/\W.cell? ⟨g,6,none⟩=some v6:=
 ⟨h 0,h 1,h 2,h 3,h 4,h 5,h 6⟩
def l3:() 226 #[.agg (fL kd k wd st sd fr tt (A,n,p))] w (aD w (.agg #[kd,k,wd,st,sd,fr,tt])):=by
 have r:=@aa;have y:=@aP
 go_in
 go_wp2_with fail
 refine EZ (λu _ _ b=>?_);obtain⟨r0,r1,r2,e,j,l,m⟩:=UY b.al.cell;refine a8 (v:=.agg #[kd,k,wd,st,sd,fr,tt]) (by simp[results,results226,go_sem,r0,r1,r2,e,j,l,m]) rfl ⟨rfl,aK⟩
def tA{w:ay}{b:Value}(h:Calls P f args w (aD w v))(e:v=b):Calls P f args w (aD w b):=e▸h
def q4{v:Bool}[Sl w A n S][Sl w B m O](b:n<=1000000)(hm:m<=1000000)(hv:Hx (decide (S=O)=v)):() 70 #[(A,n,p),(B,m,j)] w (aD w (.bool v)):=tA (i7 b hm) (by rw[hv.o])
def P7(a b c d e f g a' j l d' m r u:Int):Bool:=a==a'&&b==j&&c==l&&d==d'&&e==m&&f==r&&g==u
def qD{v:Bool}[Sl w A n S][Sl w B m O](r:n<=1000000)(b:m<=1000000)(hv:Hx (P7 kd k wd st sd fr tt z k' y E P8 C4 C5=true))(hs:Hx (decide (S=O)=v)):
  () 185 #[.agg (fL kd k wd st sd fr tt (A,n,p)),.agg (fL z k' y E P8 C4 C5 (B,m,j))] w (aD w (.bool v)):=by
 have u:=@aa;have C:∀W,(Op.equalIn 10000 332 (.agg #[kd,k,wd,st,sd,fr,tt]) (.agg #[z,k',y,E,P8,C4,C5])).run prog W=.ok true W:=λW=>by rw[E0,<-hv.o];rfl
 go_in
 go_upto_region 1 with fail
 refine am aq (λl _=>?_);refine qL [0,2] ?_;refine aM 1 λK hK=>?_;go_simp
 (with_reducible refine(l3).mono ?_)
 rintro e l ⟨rfl,_⟩;dsimp only;refine aL hK ?_;refine aM 3 λK hK=>?_;go_simp
 (with_reducible refine(l3).mono ?_)
 rintro e l ⟨rfl,_⟩;dsimp only;refine aL hK ?_;refine qL [4,5,6,7,8,9] ?_;refine aM 10 λK hK=>?_;go_simp
 (with_reducible refine(q4 r b hs).mono ?_)
 rintro e l ⟨rfl,_⟩;dsimp only;refine aL hK ?_;refine qL [11,12] ?_;refine aZ ?_
 go_wp2_with fail
 go_ret;exact bq
def C6(hv:Hx (P7 kd k wd st sd fr tt z k' y E P8 C4 C5=false)):
  () 185 #[.agg (fL kd k wd st sd fr tt (A,n,p)),.agg (fL z k' y E P8 C4 C5 (B,m,j))] w (aD w (.bool false)):=by
 have l:=@aa;have r:∀W,(Op.equalIn 10000 332 (.agg #[kd,k,wd,st,sd,fr,tt]) (.agg #[z,k',y,E,P8,C4,C5])).run prog W=.ok false W:=λW=>by rw[E0,<-hv.o];rfl
 go_in
 go_upto_region 1 with fail
 refine am aq (λb _=>?_);refine qL [0,2] ?_;refine aM 1 λK hK=>?_;go_simp
 (with_reducible refine(l3).mono ?_)
 rintro e b ⟨rfl,_⟩;dsimp only;refine aL hK ?_;refine aM 3 λK hK=>?_;go_simp
 (with_reducible refine(l3).mono ?_)
 rintro e b ⟨rfl,_⟩;dsimp only;refine aL hK ?_;refine qL [4,5,506,507,508,509,510,11,12] ?_;refine aZ ?_
 go_wp2_with fail
 go_ret;exact bq
def Mi:() 186 #[.agg (fL 2 k wd st sd fr tt (A,n,p))] w (aD w (.agg (fL 2 k 0 0 0 0 0 ()))):=by
 have y:=@aa;have z:=@aP
 go_in
 go_wp2_with fail
 refine jd (λu _ _ b _=>?_);obtain⟨r0,r1,r2,e,j,l,m,r⟩:=iG b.al.cell;refine a8 (by simp[results,results186,go_sem,r0,r1,r2,e,j,l,m,r]) rfl ⟨rfl,aK⟩
def Mj:() 186 #[.agg (fL 5 k wd st sd fr tt (A,n,p))] w (aD w (.agg (fL 5 k 0 0 0 0 0 ()))):=by
 have y:=@aa;have z:=@aP
 go_in
 go_wp2_with fail
 refine jd (λu _ _ b _=>?_);obtain⟨r0,r1,r2,e,j,l,m,r⟩:=iG b.al.cell;refine a8 (by simp[results,results186,go_sem,r0,r1,r2,e,j,l,m,r]) rfl ⟨rfl,aK⟩
def Ic:() 186 #[.agg (fL 10 k wd st sd fr tt (A,n,p))] w (aD w (.agg (fL 10 0 0 st 0 0 0 ()))):=by
 have y:=@aa;have z:=@aP
 go_in
 go_wp2_with fail
 refine jd (λu _ _ b _=>?_);obtain⟨r0,r1,r2,e,j,l,m,r⟩:=iG b.al.cell;refine a8 (by simp[results,results186,go_sem,r0,r1,r2,e,j,l,m,r]) rfl ⟨rfl,aK⟩
def Ie:() 186 #[.agg (fL 13 k wd st sd fr tt (A,n,p))] w (aD w (.agg (fL 13 0 0 0 sd 0 0 ()))):=by
 have y:=@aa;have z:=@aP
 go_in
 go_wp2_with fail
 refine jd (λu _ _ b _=>?_);obtain⟨r0,r1,r2,e,j,l,m,r⟩:=iG b.al.cell;refine a8 (by simp[results,results186,go_sem,r0,r1,r2,e,j,l,m,r]) rfl ⟨rfl,aK⟩
def If:() 186 #[.agg (fL 15 k wd st sd fr tt (A,n,p))] w (aD w (.agg (fL 15 0 0 0 0 0 0 (A,n,p)))):=by
 have y:=@aa;have z:=@aP
 go_in
 go_wp2_with fail
 refine jd (λu _ _ b _=>?_);obtain⟨r0,r1,r2,e,j,l,m,r⟩:=iG b.al.cell;refine a8 (by simp[results,results186,go_sem,r0,r1,r2,e,j,l,m,r]) rfl ⟨rfl,aK⟩
def Ig:() 186 #[.agg (fL 11 k wd st sd fr tt (A,n,p))] w (aD w (.agg (fL 11 0 wd st 0 0 0 ()))):=by
 have O:=@aa;have P:=@aP
 go_in
 go_upto_region 10 with fail
 refine q2 (λb u _ _ k1 k2 B k3=>?_);refine aH b aq (λe _=>?_);refine qL [0,1,2,3,4] ?_;refine aM 5 λK hK=>?_;go_simp;obtain⟨y,j⟩:=lg (e.setCell (w.1.size+1+1,2) wd);rw[<-j];have m:Below (World.heap b).size b y:=by rw[j];exact(a7 b e).setCell (p:=⟨w.1.size+1+1,2,none⟩) B _
 have D:Bx y (w.1.size+1+1) _ #[(11:Int),au,wd,au,au,au,au,()]:=⟨by rw[j];exact aB.ax (Bx.al (w:=e) (g:=w.1.size+1+1)) 2 _⟩;have E:aj y b:=⟨m⟩;refine aL hK ?_ ⟨m⟩;clear hK K j;obtain⟨e,rfl⟩:=lg y;refine ap 6 ?_;refine aM 7 λK hK=>?_;go_simp;obtain⟨z,l⟩:=lg (e.setCell (w.1.size+1+1,3) st);rw[<-l];have r:Below (World.heap b).size b z:=by rw[l];exact(a7 b e).setCell (p:=⟨w.1.size+1+1,3,none⟩) B _
 have F:Bx z (w.1.size+1+1) _ #[(11:Int),au,wd,st,au,au,au,()]:=⟨by rw[l];exact aB.ax (Bx.al (w:=e) (g:=w.1.size+1+1)) 3 _⟩;have G:aj z b:=⟨r⟩;refine aL hK ?_ ⟨r⟩;clear hK K l;obtain⟨e,rfl⟩:=lg z;refine aZ ?_
 go_wp2_with fail
 refine Ib (rB:=w.1.size+1) (Bx.al (w:=e) (g:=w.1.size+1)) (b9 _) rfl (λW C=>?_);obtain⟨r0,r1,r2,I,J,L,M,N⟩:=iG C;clear C;simp[results,results186,go_sem,r0,r1,r2,I,J,L,M,N]
def Ih:() 186 #[.agg (fL 12 k wd st sd fr tt (A,n,p))] w (aD w (.agg (fL 12 0 wd st 0 0 0 ()))):=by
 have O:=@aa;have P:=@aP
 go_in
 go_upto_region 10 with fail
 refine q2 (λb u _ _ k1 k2 B k3=>?_);refine aH b aq (λe _=>?_);refine qL [0,1,2,3,4] ?_;refine aM 5 λK hK=>?_;go_simp;obtain⟨y,j⟩:=lg (e.setCell (w.1.size+1+1,2) wd);rw[<-j];have m:Below (World.heap b).size b y:=by rw[j];exact(a7 b e).setCell (p:=⟨w.1.size+1+1,2,none⟩) B _
 have D:Bx y (w.1.size+1+1) _ #[(12:Int),au,wd,au,au,au,au,()]:=⟨by rw[j];exact aB.ax (Bx.al (w:=e) (g:=w.1.size+1+1)) 2 _⟩;have E:aj y b:=⟨m⟩;refine aL hK ?_ ⟨m⟩;clear hK K j;obtain⟨e,rfl⟩:=lg y;refine ap 6 ?_;refine aM 7 λK hK=>?_;go_simp;obtain⟨z,l⟩:=lg (e.setCell (w.1.size+1+1,3) st);rw[<-l];have r:Below (World.heap b).size b z:=by rw[l];exact(a7 b e).setCell (p:=⟨w.1.size+1+1,3,none⟩) B _
 have F:Bx z (w.1.size+1+1) _ #[(12:Int),au,wd,st,au,au,au,()]:=⟨by rw[l];exact aB.ax (Bx.al (w:=e) (g:=w.1.size+1+1)) 3 _⟩;have G:aj z b:=⟨r⟩;refine aL hK ?_ ⟨r⟩;clear hK K l;obtain⟨e,rfl⟩:=lg z;refine aZ ?_
 go_wp2_with fail
 refine Ib (rB:=w.1.size+1) (Bx.al (w:=e) (g:=w.1.size+1)) (b9 _) rfl (λW C=>?_);obtain⟨r0,r1,r2,I,J,L,M,N⟩:=iG C;clear C;simp[results,results186,go_sem,r0,r1,r2,I,J,L,M,N]
def Ii:() 186 #[.agg (fL 14 k wd st sd fr tt (A,n,p))] w (aD w (.agg (fL 14 0 0 0 sd fr tt ()))):=by
 have U:=@aa;have V:=@aP
 go_in
 go_upto_region 14 with fail
 refine q2 (λb u _ _ k1 k2 E k3=>?_);refine aH b aq (λe _=>?_);refine qL [0,1,2,3,4,5,6] ?_;refine aM 7 λK hK=>?_;go_simp;obtain⟨B,j⟩:=lg (e.setCell (w.1.size+1+1,4) sd);rw[<-j];have r:Below (World.heap b).size b B:=by rw[j];exact(a7 b e).setCell (p:=⟨w.1.size+1+1,4,none⟩) E _
 have G:Bx B (w.1.size+1+1) _ #[(14:Int),au,au,au,sd,au,au,()]:=⟨by rw[j];exact aB.ax (Bx.al (w:=e) (g:=w.1.size+1+1)) 4 _⟩;have I:aj B b:=⟨r⟩;refine aL hK ?_ ⟨r⟩;clear hK K j;obtain⟨e,rfl⟩:=lg B;refine ap 8 ?_;refine aM 9 λK hK=>?_;go_simp;obtain⟨C,l⟩:=lg (e.setCell (w.1.size+1+1,5) fr);rw[<-l];have y:Below (World.heap b).size b C:=by rw[l];exact(a7 b e).setCell (p:=⟨w.1.size+1+1,5,none⟩) E _
 have J:Bx C (w.1.size+1+1) _ #[(14:Int),au,au,au,sd,fr,au,()]:=⟨by rw[l];exact aB.ax (Bx.al (w:=e) (g:=w.1.size+1+1)) 5 _⟩;have L:aj C b:=⟨y⟩;refine aL hK ?_ ⟨y⟩;clear hK K l;obtain⟨e,rfl⟩:=lg C;refine ap 10 ?_;refine aM 11 λK hK=>?_;go_simp;obtain⟨D,m⟩:=lg (e.setCell (w.1.size+1+1,6) tt);rw[<-m];have z:Below (World.heap b).size b D:=by rw[m];exact(a7 b e).setCell (p:=⟨w.1.size+1+1,6,none⟩) E _
 have M:Bx D (w.1.size+1+1) _ #[(14:Int),au,au,au,sd,fr,tt,()]:=⟨by rw[m];exact aB.ax (Bx.al (w:=e) (g:=w.1.size+1+1)) 6 _⟩;have N:aj D b:=⟨z⟩;refine aL hK ?_ ⟨z⟩;clear hK K m;obtain⟨e,rfl⟩:=lg D;refine aZ ?_
 go_wp2_with fail
 refine Ib (rB:=w.1.size+1) (Bx.al (w:=e) (g:=w.1.size+1)) (b9 _) rfl (λW F=>?_);obtain⟨r0,r1,r2,O,P,Q,R,T⟩:=iG F;clear F;simp[results,results186,go_sem,r0,r1,r2,O,P,Q,R,T]
def Mk(F:(kd==2)=false)(G:(kd==5)=false)(b:(kd==10)=false)(e:(kd==11)=false)(j:(kd==12)=false)(l:(kd==13)=false)(m:(kd==14)=false)(r:(kd==15)=false):
  () 186 #[.agg (fL kd k wd st sd fr tt (A,n,p))] w (aD w (.agg (fL kd 0 0 0 0 0 0 ()))):=by
 have I:=@aa;have J:=@aP
 go_in
 go_wp2_with fail
 refine jd (λu _ _ y _=>?_);obtain⟨r0,r1,r2,z,B,C,D,E⟩:=iG y.al.cell;refine a8 (by simp[results,results186,go_sem,r0,r1,r2,z,B,C,D,E]) rfl ⟨rfl,aK⟩
end
end
variable{A:Option Addr}{C4 C5 E k' kd sd st tt y z:Int}
def uK(kd k:Int):Int:=if kd=2\/kd=5 then k else 0
def uW(kd k:Int):Int:=if kd=11\/kd=12 then k else 0
def P9(kd k:Int):Int:=if kd=10\/kd=11\/kd=12 then k else 0
def Qa(kd k:Int):Int:=if kd=13\/kd=14 then k else 0
def zZ(kd k:Int):Int:=if kd=14 then k else 0
def uS(kd:Int)(S:av):List Int:=if kd=15 then S else[]
def qr(kd k wd st sd fr tt:Int)(S:av):Bool:=
 decide (1<=kd)&&decide (kd<=15)&&P7 kd k wd st sd fr tt kd (uK kd k) (uW kd wd) (P9 kd st) (Qa kd sd) (zZ kd fr) (zZ kd tt)&&decide (S=uS kd S)
section
variable{w:World}{n p:Nat}{k wd fr:Int}{S:List Int}
def ux(e:kd=15)(hv:Hx ((k',z,y,E,C4,C5)=(uK kd k,uW kd wd,P9 kd st,Qa kd sd,zZ kd fr,zZ kd tt))):
  () 186 #[.agg (fL kd k wd st sd fr tt (A,n,p))] w (aD w (.agg (fL kd k' z y E C4 C5 (A,n,p)))):=by
 subst e;have h:=hv.o;injection h with b h;injection h with j h;injection h with l h;injection h with m h;injection h with r u
 subst b j l m r u;exact If
def xr(e:kd≠15)(hv:Hx ((k',z,y,E,C4,C5)=(uK kd k,uW kd wd,P9 kd st,Qa kd sd,zZ kd fr,zZ kd tt))):
  () 186 #[.agg (fL kd k wd st sd fr tt (A,n,p))] w (aD w (.agg (fL kd k' z y E C4 C5 ()))):=by
 have h:=hv.o;injection h with l h;injection h with m h;injection h with r h;injection h with u h;injection h with B C
 subst l m r u B C;by_cases h:kd=2\/kd=5\/kd=10\/kd=11\/kd=12\/kd=13\/kd=14
 .rcases h with rfl|rfl|rfl|rfl|rfl|rfl|rfl
  .exact Mi
  .exact Mj
  .exact Ic
  .exact Ig
  .exact Ih
  .exact Ie
  .exact Ii
 .have b:∀j:Int,(j=2\/j=5\/j=10\/j=11\/j=12\/j=13\/j=14\/j=15)->(kd==j)=false:=λj L=>by rw[beq_eq_false_iff_ne];omega
  have D:uK kd k=0:=ag om;have F:uW kd wd=0:=ag om;have G:P9 kd st=0:=ag om;have I:Qa kd sd=0:=ag om;have J:zZ kd fr=0:=ag om;have K:zZ kd tt=0:=ag om;rw[D,F,G,I,J,K];exact Mk (b 2 aG) (b 5 aG) (b 10 aG) (b 11 aG) (b 12 aG) (b 13 aG) (b 14 aG) (b 15 aG)
def eQ[Sl w A n S](G:n<=1000000):() 120 #[.agg (fL kd k wd st sd fr tt (A,n,p))] w (aD w (.bool (qr kd k wd st sd fr tt S))):=by
 have P:=@aa;by_cases C:1<=kd;rotate_left
 .have z:Hx (qr kd k wd st sd fr tt S=false):=ae (by unfold qr;rw[dD C];rfl);have d1:decide (1<=kd)=false:=dD C
  go_in
  go_upto_region 1 with fail
  refine am aq (λb _=>?_);refine qL [0,1,2,3,504,505,506,7,8,509,510,511,512,13,14] ?_;refine aZ ?_
  go_wp2_with fail
  go_ret;exact⟨by rw[z.o];rfl,aK⟩
 have d1:decide (1<=kd)=true:=ef C;by_cases D:kd<=15;rotate_left
 .have z:Hx (qr kd k wd st sd fr tt S=false):=ae (by unfold qr;rw[dD D];simp);have J:decide (kd<=15)=false:=dD D
  go_in
  go_upto_region 1 with fail
  refine am aq (λb _=>?_);refine qL [0,1,2,3,4,5,6,7,8,509,510,511,512,13,14] ?_;refine aZ ?_
  go_wp2_with fail
  go_ret;exact⟨by rw[z.o];rfl,aK⟩
 have J:decide (kd<=15)=true:=ef D;obtain⟨k',j,l,m,r,u,hv⟩:∃k' j l m r u,(k',j,l,m,r,u)=(uK kd k,uW kd wd,P9 kd st,Qa kd sd,zZ kd fr,zZ kd tt):=⟨_,_,_,_,_,_,rfl⟩;have E:=ae hv;have y:qr kd k wd st sd fr tt S=(P7 kd k wd st sd fr tt kd k' j l m r u&&decide (S=uS kd S)):=by
  injection hv with C h;injection h with D h;injection h with L h;injection h with M h;injection h with N O
  unfold qr;rw[d1,J,C,D,L,M,N,O];rfl
 clear hv;rcases hq:P7 kd k wd st sd fr tt kd k' j l m r u with _|_
 .have F:=ae hq;have z:Hx (qr kd k wd st sd fr tt S=false):=ae (by rw[y,hq];rfl);clear hq y;by_cases e:kd=15
  focus
   have B:=ae e;clear e
   go_in
   go_upto_region 1 with fail
   refine am aq (λb _=>?_);refine qL [0,1,2,3,4,5,6,7,8,9,10] ?_;refine aM 11 λK hK=>?_;go_simp
   (with_reducible refine(ux B.o E).mono ?_)
  rotate_left
  focus
   have B:=ae e;clear e
   go_in
   go_upto_region 1 with fail
   refine am aq (λb _=>?_);refine qL [0,1,2,3,4,5,6,7,8,9,10] ?_;refine aM 11 λK hK=>?_;go_simp
   (with_reducible refine(xr B.o E).mono ?_)
  all_goals
   rintro e b ⟨rfl,_⟩;dsimp only;refine aL hK ?_;refine aM 12 λK hK=>?_;go_simp
   (with_reducible refine(C6 F).mono ?_)
   rintro e b ⟨rfl,_⟩;dsimp only;refine aL hK ?_;refine qL [13,14] ?_;refine aZ ?_
   go_wp2_with fail
   go_ret;exact⟨by rw[z.o];rfl,aK⟩
 .have F:=ae hq;obtain⟨v,hv⟩:=lh (decide (S=uS kd S));have z:Hx (qr kd k wd st sd fr tt S=v):=ae (by rw[y,hq,hv];rfl);clear hq y;by_cases e:kd=15
  focus
   have I:Hx (decide (S=S)=v):=ae (by rw[<-hv,uS,ah e]);have B:=ae e;clear e hv
   go_in
   go_upto_region 1 with fail
   refine am aq (λb _=>?_);refine qL [0,1,2,3,4,5,6,7,8,9,10] ?_;refine aM 11 λK hK=>?_;go_simp
   (with_reducible refine(ux B.o E).mono ?_)
   rintro e b ⟨rfl,_⟩;dsimp only;refine aL hK ?_;refine aM 12 λK hK=>?_;go_simp
   (with_reducible refine(qD G G F I).mono ?_)
  rotate_left
  focus
   have I:Hx (decide (S=[])=v):=ae (by rw[<-hv,uS,ag e]);have B:=ae e;clear e hv
   go_in
   go_upto_region 1 with fail
   refine am aq (λb _=>?_);refine qL [0,1,2,3,4,5,6,7,8,9,10] ?_;refine aM 11 λK hK=>?_;go_simp
   (with_reducible refine(xr B.o E).mono ?_)
   rintro e b ⟨rfl,_⟩;dsimp only;refine aL hK ?_;refine aM 12 λK hK=>?_;go_simp
   (with_reducible refine(qD G (aT _) F I).mono ?_)
  all_goals
   rintro e b ⟨rfl,_⟩;dsimp only;refine aL hK ?_;refine qL [13,14] ?_;refine aZ ?_
   go_wp2_with fail
   go_ret;exact⟨by rw[z.o];rfl,aK⟩
def fM(kd:Int):Int:=if kd=6\/kd=7 then 2 else 1
def ia(kd:Int):Int:=if kd=6\/kd=7 then 2 else if kd=13 then 8 else 1
def g7(kd:Int):Int:=if kd=8 then 2 else if kd=9\/kd=10 then 1 else 0
def ww(h:qr kd k wd st sd fr tt S=true):1<=kd/\kd<=15:=by
 unfold qr at h;simp only[bW,cu]at h;exact⟨h.1.1.1,h.1.1.2⟩
def Ml(h:Hx (1<=kd/\kd<=5)):() 213 #[kd] w (aD w (1:Int)):=by
 have b:kd=1\/kd=2\/kd=3\/kd=4\/kd=5:=by have:=h.o;omega
 rcases b with rfl|rfl|rfl|rfl|rfl
 all_goals
  go_in
  go_wp2_with fail
  go_ret;exact bq
def Mm(h:Hx (kd=6\/kd=7)):() 213 #[kd] w (aD w (2:Int)):=by
 rcases h.o with rfl|rfl
 all_goals
  go_in
  go_wp2_with fail
  go_ret;exact bq
def C7[Sl w A n S](l:n<=1000000)(hb:qr kd k wd st sd fr tt S=true):() 166 #[.agg (fL kd k wd st sd fr tt (A,n,p))] w (aD w (.tuple #[.int .i64 (fM kd),.int .i64 (ia kd)])):=by
 have B:=@aa;obtain⟨k1,y⟩:=ww hb;by_cases C:kd<=7
 .by_cases z:kd<=5
  .have j:Hx (fM kd=1/\ia kd=1):=ae ⟨ag om,by unfold ia;rw[ag om,ag om]⟩;have m:Hx (1<=kd/\kd<=5):=ae ⟨k1,z⟩
   go_in
   go_wp2_with (first|(go_at_call 120;(with_reducible refine(eQ l).mono ?_);rintro e u ⟨rfl,_⟩)|(go_at_call 213;(with_reducible refine(Ml m).mono ?_);rintro e u ⟨rfl,_⟩))
   go_ret2;exact⟨by rw[j.o.1,j.o.2];rfl,aK⟩
  .have j:Hx (fM kd=2/\ia kd=2):=ae ⟨ah om,ah om⟩;have m:Hx (kd=6\/kd=7):=ae om
   go_in
   go_wp2_with (first|(go_at_call 120;(with_reducible refine(eQ l).mono ?_);rintro e u ⟨rfl,_⟩)|(go_at_call 213;(with_reducible refine(Mm m).mono ?_);rintro e u ⟨rfl,_⟩))
   go_ret2;exact⟨by rw[j.o.1,j.o.2];rfl,aK⟩
 .by_cases b:kd=13
  focus
   have j:Hx (fM kd=1/\ia kd=8):=ae ⟨ag om,by unfold ia;rw[ag om,ah b]⟩;have r:(kd==13)=true:=by simpa using b
  rotate_left
  focus
   have j:Hx (fM kd=1/\ia kd=1):=ae ⟨ag om,by unfold ia;rw[ag om,ag b]⟩;have r:(kd==13)=false:=by simpa using b
  all_goals
   clear b
   go_in
   go_wp2_with (first|(go_at_call 120;(with_reducible refine(eQ l).mono ?_);rintro e u ⟨rfl,_⟩))
   go_ret2;exact⟨by rw[j.o.1,j.o.2];rfl,aK⟩
def Ij[Sl w A n S](j:n<=1000000)(hb:qr kd k wd st sd fr tt S=true):() 167 #[.agg (fL kd k wd st sd fr tt (A,n,p))] w (aD w (g7 kd:Int)):=by
 have z:=@aa;by_cases l:kd=8
 .subst l
  go_in
  go_wp2_with (first|(go_at_call 120;(with_reducible refine(eQ j).mono ?_);rintro e u ⟨rfl,_⟩))
  go_ret;exact bq
 by_cases m:kd=9
 .subst m
  go_in
  go_wp2_with (first|(go_at_call 120;(with_reducible refine(eQ j).mono ?_);rintro e u ⟨rfl,_⟩))
  go_ret;exact bq
 by_cases b:kd=10
 .subst b
  go_in
  go_wp2_with (first|(go_at_call 120;(with_reducible refine(eQ j).mono ?_);rintro e u ⟨rfl,_⟩))
  go_ret;exact bq
 have r:Hx (g7 kd=0):=ae (by unfold g7;rw[ag l,ag om]);have B:(kd==8)=false:=by simpa using l
 have C:(kd==9)=false:=by simpa using m
 have y:(kd==10)=false:=by simpa using b
 clear l m b
 go_in
 go_wp2_with (first|(go_at_call 120;(with_reducible refine(eQ j).mono ?_);rintro e u ⟨rfl,_⟩))
 go_ret;exact⟨by rw[r.o];rfl,aK⟩
def kT(kd k wd st sd fr tt:Int)(S:av)(np nx:Int):Int:=if qr kd k wd st sd fr tt S then(if nx<fM kd\/ia kd<nx\/np≠g7 kd then 20 else 0)else 21
def Ik{np nx:Int}[Sl w A n S](b:n<=1000000):() 104 #[.agg (fL kd k wd st sd fr tt (A,n,p)),np,nx] w (aD w (kT kd k wd st sd fr tt S np nx:Int)):=by
 have F:=@aa;rcases hb:qr kd k wd st sd fr tt S with _|_
 .have j:Hx (kT kd k wd st sd fr tt S np nx=21):=ae (by unfold kT;rw[hb];rfl)
  go_in
  go_wp2_with (first|(go_at_call 120;(with_reducible refine(eQ b).mono ?_);rintro e u ⟨rfl,_⟩))
  go_ret;exact⟨by rw[j.o];rfl,aK⟩
 obtain⟨lo,y⟩:=lh (fM kd);obtain⟨hi,z⟩:=lh (ia kd);obtain⟨l,B⟩:=lh (g7 kd);have m:Hx (kT kd k wd st sd fr tt S np nx=if nx<lo\/hi<nx\/np≠l then 20 else 0):=ae (by unfold kT;rw[hb,y,z,B];rfl);by_cases C:nx<lo
 .have j:Hx (kT kd k wd st sd fr tt S np nx=20):=ae (by rw[m.o,ah (.inl C)])
  go_in
  go_wp2_with (first|(go_at_call 120;(with_reducible refine(eQ b).mono ?_);rintro e u ⟨rfl,_⟩)|(go_at_call 166;(with_reducible refine(C7 b hb).mono ?_);rintro e u ⟨rfl,_⟩))
  go_ret;exact⟨by rw[j.o];rfl,aK⟩
 by_cases D:hi<nx
 .have j:Hx (kT kd k wd st sd fr tt S np nx=20):=ae (by rw[m.o,ah (.inr (.inl D))])
  go_in
  go_wp2_with (first|(go_at_call 120;(with_reducible refine(eQ b).mono ?_);rintro e u ⟨rfl,_⟩)|(go_at_call 166;(with_reducible refine(C7 b hb).mono ?_);rintro e u ⟨rfl,_⟩))
  go_ret;exact⟨by rw[j.o];rfl,aK⟩
 by_cases r:np=l
 focus
  have j:Hx (kT kd k wd st sd fr tt S np nx=0):=ae (by rw[m.o,ag om]);have E:(np !=l)=false:=by simpa using r
 rotate_left
 focus
  have j:Hx (kT kd k wd st sd fr tt S np nx=20):=ae (by rw[m.o,ah (.inr (.inr r))]);have E:(np !=l)=true:=by simpa using r
 all_goals
  clear r
  go_in
  go_wp2_with (first|(go_at_call 120;(with_reducible refine(eQ b).mono ?_);rintro e u ⟨rfl,_⟩)|(go_at_call 166;(with_reducible refine(C7 b hb).mono ?_);rintro e u ⟨rfl,_⟩)|(go_at_call 167;(with_reducible refine(Ij b hb).mono ?_);rintro e u ⟨rfl,_⟩))
  go_ret;exact⟨by rw[j.o];rfl,aK⟩
def fC{np nx:Int}{v:Int}[Sl w A n S](b:n<=1000000)(hv:Hx (kT kd k wd st sd fr tt S np nx=v)):() 104 #[.agg (fL kd k wd st sd fr tt (A,n,p)),np,nx] w (aD w v):=tA (Ik b) (by rw[hv.o])
end
def gC(l:av):Nat->Int
 |0=> -1
 |k+1=>if gC l k<0\/l.getD (gC l k).toNat 0<l.getD k 0 then(k:Int)else gC l k
def xt(l:av):Int:=gC l l.length
def nO{l:av}:∀{k:Nat},0<k->∃b:Nat,gC l k=(b:Int)/\b<k/\(∀i,i<k->l.getD i 0<=l.getD b 0)/\∀i,i<b->l.getD i 0<l.getD b 0
 |0,h=>absurd h om
 |k+1,_=>by
  unfold gC;by_cases m:k=0
  .subst m;refine⟨0,by simp[gC],om,λi hi=>?_,λi hi=>om⟩;obtain rfl:i=0:=om;exact dM _
  .have⟨b,e,hb,h1,h2⟩:=nO (l:=l) (k:=k) om;rw[e];simp only[bI]
   split
   .rename_i hc;have hc:l.getD b 0<l.getD k 0:=by
     rcases hc with hc|hc
     .omega
     .exact hc
    refine⟨k,rfl,om,λi hi=>?_,λi hi=>?_⟩
    .by_cases j:i=k
     .subst j;exact dM _
     .have:=h1 i om;omega
    .have:=h1 i om;omega
   .rename_i hc;have hc:¬l.getD b 0<l.getD k 0:=λh=>hc (.inr h);refine⟨b,rfl,om,λi hi=>?_,h2⟩;by_cases j:i=k
    .subst j;omega
    .exact h1 i om
def C8:List Int->Int
 |[]=>0
 |x::l=>l.foldl max x
def vl(l:av):∀x:Int,(l.foldl max x=x\/l.foldl max x∈l)/\x<=l.foldl max x/\∀y∈l,y<=l.foldl max x:=by
 induction l with
 |nil=>intro x;exact⟨.inl rfl,dM _,λy hy=>by cases hy⟩
 |cons a l b=>
  intro x;have⟨h1,h2,h3⟩:=b (max x a);simp only[kl];refine⟨?_,om,λy hy=>?_⟩
  .rcases h1 with h1|h1
   .rcases Int.le_total x a with h|h
    .right;rw[h1];rw[show max x a=a from om];exact cm
    .left;rw[h1];omega
   .exact .inr (dl _ h1)
  .rcases bT.1 hy with rfl|hy
   .omega
   .exact h3 y hy
def AN{l:av}(h:l≠[]):C8 l∈l/\∀y∈l,y<=C8 l:=by
 cases l with
 |nil=>exact absurd rfl h
 |cons x l=>
  have⟨h1,h2,h3⟩:=vl l x;refine⟨?_,λy hy=>?_⟩
  .rcases h1 with h1|h1
   .show l.foldl max x∈x::l;rw[h1];exact cm
   .exact dl _ h1
  .rcases bT.1 hy with rfl|hy
   .exact h2
   .exact h3 y hy
def Mn{l:av}{m:Int}(e:m∈l)(j:∀y∈l,y<=m):m=C8 l:=by
 have b:l≠[]:=by rintro rfl;cases e
 have⟨g1,g2⟩:=AN b;have:=j _ g1;have:=g2 _ e;omega
def xu{l:av}(h:l≠[]):∃b:Nat,xt l=(b:Int)/\b<l.length/\l[b]?=some (C8 l):=by
 obtain⟨b,e,hb,j,-⟩:=nO (l:=l) (k:=l.length) (Kd.2 h);refine⟨b,e,hb,?_⟩;have g:l.getD b 0=l[b]:=by simp[aX,hb]
 have:l[b]=C8 l:=Mn (nb hb) λy m=>by
  obtain⟨i,hi,rfl⟩:=List.mem_iff_getElem.1 m;have:=j i hi;rw[g]at this;simpa[aX,hi]using this
 rw[bc hb,this]
def je(v:List Int->Int)(xs:av)(Z n step W m:Nat):List Int:=(List.range m).map λi=>v ((xs.drop (i/n*Z+i%n*step)).take W)
def jB(v:List Int->Int)(xs:av)(Z n step W m:Nat):(je v xs Z n step W m).length=m:=by simp[je]
def E1(v:List Int->Int)(xs:av)(Z n step W m:Nat):je v xs Z n step W (m+1)=je v xs Z n step W m++[v ((xs.drop (m/n*Z+m%n*step)).take W)]:=by simp[je,j0]
section
variable{P:Program}{c d f m:Nat}{args:Array Value}{v:Value}{O xs zs:List Int}{B C:Option Addr}
def bZ{w:ay}{b:Value}(h:Calls P f args w (aD w v))(e:v=b):Calls P f args w (aD w b):=e▸h
def xw(h:aJ zs xs=true):xs.length<=65536/\1<=xs.length/\zs.length<=4:=by
 have⟨h1,h2⟩:=(bf _ _).1 h;have⟨n,hn,h3,h4⟩:=cV h1;have⟨_,h5,_,_⟩:=(bE _).1 h1;omega
def tB(h:aJ zs xs=true)(b:aJ zs O=true):xs.length=O.length:=by
 have e:=((bf _ _).1 h).2;have j:=((bf _ _).1 b).2;omega
section
variable{w:World}{D:Option Addr}{n:Nat}
def nP[Sl w A n zs][Sl w B m zs](b:n<=1000000)(hm:m<=1000000):() 70 #[(A,n,c),(B,m,d)] w (aD w (.bool true)):=bZ (i7 b hm) aG
end
end
variable{B:Option Addr}{c d m:Nat}{xs zs:List Int}
section
variable{w:World}{n:Nat}
def Qb[a:Sl w A n zs](N:n<=1000000):() 175 #[(A,n,c)] w (aD w (xt zs:Int)):=by
 obtain⟨a,rfl⟩:=a;have a:Sl w A zs zs:=⟨a,rfl⟩
 go_in
 go_wp2_with fail
 go_loop [3,8] (λb i=>∃k:Nat,k<=zs.length/\i=.int .i64 k/\b=.int .i64 (gC zs k)) (λ_ i=>zs.length-(intOf i).toNat)
 case atStart=>exact⟨0,aT _,rfl,rfl⟩
 case round=>
  obtain⟨k,O,rfl,rfl⟩:=hrel;by_cases D:k<zs.length
  .obtain⟨b,off,z,rfl,ob,J,K⟩:=a.get D;by_cases E:k=0
   .subst E;simp only[gE]at J;rw[show gC zs 0= -1 from rfl]
    go_wp2
    go_round
    case rel=>exact⟨1,om,rfl,by simp[gC]⟩
    case measure=>exact e6
   .obtain⟨j,e,P,Q,R⟩:=nO (l:=zs) (k:=k) om;have F:j<zs.length:=om;have⟨b2,acr,y,r,jf,YB,hy⟩:=a.get F;injection r with r
    injection r with r G
    subst r G;have u:gC zs (k+1)=if y<z then(k:Int)else(j:Int):=by
     have L:zs.getD j 0=y:=by rw[aX,hy.o];rfl
     have M:zs.getD k 0=z:=by rw[aX,K.o];rfl
     rw[gC,e,bI,L,M];by_cases h:y<z
     .rw[ah (.inr h),ah h]
     .rw[ag om,ag h]
    rw[e];by_cases C:y<z
    .have I:Hx (gC zs (k+1)=(k:Int)):=ae (by rw[u,ah C])
     go_wp2
     go_round
     case rel=>exact⟨k+1,om,by go_num,by rw[I.o]⟩
     case measure=>exact e6
    .have I:Hx (gC zs (k+1)=(j:Int)):=ae (by rw[u,ag C])
     go_wp2
     go_round
     case rel=>exact⟨k+1,om,by go_num,by rw[I.o]⟩
     case measure=>exact e6
  .obtain rfl:k=zs.length:=om
   go_wp2
   go_ret;exact bq
end
variable{S Z:Nat}
def Mo{W:Nat}(h:iD (Z:Int) (W:Int) (S:Int)=true):∃n:Nat,lV (Z:Int) (W:Int) (S:Int)=(n:Int)/\1<=n/\1<=W/\1<=S/\W<=1024/\S<=1024/\Z<=1024/\(∀j,j<n->j*S+W<=Z)/\Z<n*S+W/\n<=Z:=by
 have e:=h;simp only[iD,bW,cu,r7]at h;have⟨h1,h2,h3,h4,h5,h6,h7⟩:=h;have hS:0<S:=om;refine⟨1+(Z-W)/S,?_,Nat.le_add_right _ _,om,om,om,om,om,λj m=>?_,?_,?_⟩
 .rw[lV,ah e,show(Z:Int)-(W:Int)=((Z-W:Nat):Int)from om,<-Cq,fH];rfl
 .have l:j*S<=(Z-W)/S*S:=hZ _ om;have b:=Nat.div_mul_le_self (Z-W) S;omega
 .have l:=Nat.div_add_mod (Z-W) S;have b:=Nat.mod_lt (Z-W) hS;rw[rP,vQ ((Z-W)/S) S];omega
 .have b:=rV (Z-W) S;omega
variable{gs:List Int}{R i:Nat}{kind:Int}
def eN(zs:av):Int:=zs.getD (zs.length-1) 0
def q9(zs:av)(W S:Int):Int:=if aA zs then h8 (eN zs) W S else 20
def ra(zs:av)(W S:Int):List Int:=if aA zs&&iD (eN zs) W S then zs.set (zs.length-1) (lV (eN zs) W S)else[]
structure PW(zs V:List Int)(R Z n W S:Nat):Prop where
 right:aA zs=true
 at_:zs[zs.length-1]?=some (Z:Int)
 len:1<=zs.length
 v:V=zs.set (zs.length-1) (n:Int)
 KP:aA V=true
 size:aN zs=((R*Z:Nat):Int)
 C9:aN V=((R*n:Nat):Int)
 R1:1<=R
 n1:1<=n
 W1:1<=W
 S1:1<=S
 W2:W<=1024
 S2:S<=1024
 Z2:Z<=1024
 fit:∀j,j<n->j*S+W<=Z
 WS:Z<n*S+W
 small:R*Z<=65536
 nZ:n<=Z
 pl:ra zs (W:Int) (S:Int)=V
def PW.of{zs:av}{W S:Int}(h:q9 zs W S=0):∃R Z n l m:Nat,W=(l:Int)/\S=(m:Int)/\PW zs (ra zs W S) R Z n l m:=by
 unfold q9 at h
 split at h
 .rename_i hr;obtain⟨r1,C,y,D⟩:=(bE zs).1 hr;obtain⟨P,I,Z,b⟩:=JW.of hr (show zs.length-1<zs.length by omega);have B:eN zs=(Z:Int):=by rw[eN,aX,b.at_];rfl
  have j:iD (eN zs) W S=true:=by
   unfold h8 at h
   split at h
   .assumption
   .omega
  have r:=j;simp only[iD,bW,cu,r7]at r;obtain⟨l,rfl⟩:=cf (show 0<=W by omega);obtain⟨m,rfl⟩:=cf (show 0<=S by omega);rw[B]at j;have⟨n,e,n1,w1,s1,w2,s2,z2,fit,WS,nZ⟩:=Mo j;have E:I=1:=by
   have:=b.behind;rw[ey om]at this;simp[aN]at this;omega
  subst E;have hv:ra zs l m=zs.set (zs.length-1) (n:Int):=by rw[ra,B,j,hr];simp[e]
  have z:aN zs=((P*Z:Nat):Int):=by
   rw[iF b.at_,b.ahead,b.behind];simp
  have u:aN (zs.set (zs.length-1) (n:Int))=((P*n:Nat):Int):=by
   rw[xq _ om,b.ahead,b.behind];simp
  have F:P*n<=P*Z:=pS _ nZ;refine⟨P,Z,n,l,m,rfl,rfl,⟨hr,b.at_,r1,hv,?_,z,by rw[hv,u],b.p1,n1,w1,s1,w2,s2,z2,fit,WS,om,nZ,rfl⟩⟩;rw[hv,bE];exact⟨by simpa using r1,by simpa using C,sy y _ om om,by rw[u];omega⟩
 .omega
section
variable{V:List Int}{n W:Nat}
def PW.none(h:PW zs V R Z n W S):q9 zs W S=0:=by
 have b:eN zs=(Z:Int):=by rw[eN,aX,h.at_];rfl
 have:=h.fit 0 h.n1;have e:=h.Z2;have j:=h.W1;have l:=h.W2;have m:=h.S1;have r:=h.S2;rw[q9,ah h.right,b,h8,ah];simp only[iD,bW,cu];omega
def PW.win(h:PW zs V R Z n W S)(hi:i<R*n):i/n<R/\i%n<n/\i%n*S+W<=Z/\i/n*Z+i%n*S+W<=R*Z:=by
 have j:0<n:=h.n1;have b:i/n<R:=Nat.div_lt_of_lt_mul (by rw[vQ];exact hi);have e:=Nat.mod_lt i j;have l:=h.fit _ e;have m:(i/n+1)*Z<=R*Z:=hZ _ b;rw[na]at m;exact⟨b,e,l,om⟩
end
def tab(N:Nat)(F:Nat->Int):List Int:=(List.range N).map F
section
variable{N:Nat}{F G:Nat->Int}
def gQ:(tab N F).length=N:=by simp[tab]
def sB{k:Nat}(h:k<N):(tab N F)[k]?=some (F k):=by rw[tab,bj,fI h];rfl
def kU(h:∀q,q<N->F q=G q):tab N F=tab N G:=fj λq hq=>h q (hM.1 hq)
def E2(k)(z):(tab N F).set k z=tab N λq=>if q=k then z else F q:=by
 apply ek;intro q;rw[eZ];by_cases hq:q<N
 .rw[sB hq,sB hq];by_cases b:k=q
  .subst b;rw[ah rfl,ah (by rw[gQ];exact hq),ah rfl]
  .rw[ag b,ag (dF b)]
 .have e:(tab N F)[q]?=none:=c6 (by rw[gQ];omega);have j:(tab N λq=>if q=k then z else F q)[q]?=none:=c6 (by rw[gQ];omega);rw[e,j,gQ];by_cases b:k=q
  .subst b;rw[ah rfl,ag hq]
  .rw[ag b]
def Mp:tab N (λ_=>0)=List.replicate N 0:=by rw[tab,List.map_const',List.length_range]
end
def hh(b:Int)(W:Nat)(l:av):Int:=if b=1 then C8 l else fdiv (mM l) (kN W)
def Qc(b:Int)(W:Nat)(l:av)(f q:Nat):Bool:=if b=1 then decide (q=f+(xt ((l.drop f).take W)).toNat)else decide (f<=q)&&decide (q<f+W)
def Il(b:Int)(W:Nat)(y:Int):Int:=if b=1 then y else fdiv y (kN W)
def iS(b:Int)(xs gs:av)(Z n S W:Nat):Nat->Nat->Int
 |0,_=>0
 |i+1,q=>if Qc b W xs (i/n*Z+i%n*S) q then cA (iS b xs gs Z n S W i q) (Il b W (gs.getD i 0))else iS b xs gs Z n S W i q
section
variable{P:Program}{b off:Nat}
def Mq(t:TypeId)(ht:P.underlying t=some (.slice (P.elem t)))(hs:(P.info? (P.elem t)).map (·.size)=some 1)(b off m d lo hi:Nat)(i j:Int)(r:i=(lo:Int))(u:j=(hi:Int))(y:lo<=hi)(z:hi<=m)(B:m<=d)(C:lo<d):
  ∀w,(Instr.slice t (.slice (some ⟨b,off,none⟩) m d) (some (.int .i64 i)) (some (.int .i64 j)) none).run P w=.ok (.slice (some ⟨b,off+lo,none⟩) (hi-lo) (d-lo)) w:=by
 subst r u;intro w;rw[lR w t _ m d ht .i64 .i64 lo hi om om om,gO hs];have e:d≠lo:=om;by_cases l:lo=0
 .subst l;simp[Result.andThen,sliced,Addr.add,e]
 .simp[Result.andThen,sliced,Addr.add,e,l]
section
variable{w:World}{n:Nat}
theorem Sl.part(h:Sl w (some ⟨b,off,none⟩) m xs){F W:Nat}(hF:F+W<=m):Sl w (some ⟨b,off+F,none⟩) W ((xs.drop F).take W):=by
 refine⟨λj z l=>?_,by have:=h.len;simp;omega⟩;rw[eY]at l
 split at l
 .rw[ff]at l;obtain⟨D,r,e,hb,u⟩:=h.rd _ z l;injection e with e;injection e with y C;subst y;subst C
  exact⟨b,off+F,rfl,hb,by rw[nl];exact u⟩
 .cases l
def nQ{P N W F:Nat}(hm:m<=65536)(hd:m<=d)(hF:Hx (P/N*Z+P%N*S=F))(hN:1<=N)(C:N<=1024)(hP:P<=65536)(J:1<=W)(j:F+W<=m):
  () 174 #[.slice (some ⟨b,off,none⟩) m d,P,Z,N,W,S] w (aD w (.slice (some ⟨b,off+F,none⟩) W (d-F))):=by
 obtain⟨q,hq⟩:=lh (P/N);obtain⟨r,hr⟩:=lh (P%N);have e:=hF.o;rw[hq,hr]at e;obtain⟨x,u⟩:=lh (q*Z);obtain⟨y,z⟩:=lh (r*S);rw[u,z]at e;have D:q<=P:=hq▸rV _ _;have E:x<=65536:=om;have G:y<=65536:=om;have m1:(P:Int)/(N:Int)=(q:Int):=by rw[<-Cq,hq]
 have K:¬N=0:=om;have I:IntKind.i64.wrap (q:Int)=(q:Int):=lQ _ om;have L:(P:Int).tmod (N:Int)=(r:Int):=by rw[Int.tmod_eq_emod_of_nonneg (by omega),<-Int.natCast_emod,hr]
 have M:IntKind.i64.wrap ((q:Int)*(Z:Int))=(x:Int):=by rw[<-mm,u];exact lQ _ (by omega)
 have m4:IntKind.i64.wrap ((r:Int)*(S:Int))=(y:Int):=by rw[<-mm,z];exact lQ _ (by omega)
 have O:IntKind.i64.wrap ((x:Int)+(y:Int))=(F:Int):=by rw[<-fH,e];exact lQ _ (by omega)
 have l:=Mq (P:=prog) 26 aq aq b off m d F (F+W) (F:Int) ((F:Int)+(W:Int)) rfl om om j hd om;rw[J8]at l
 go_in
 go_wp2
 refine am aq (λQ _=>?_);refine qL [0,1,2,3,4,5,6,7,8,9,10,11] ?_;refine aZ ?_
 go_wp2
 go_ret;exact bq
def p9[a:Sl w A n zs](e:n<=1000000):() 119 #[(A,n,c)] w (aD w (.bool (aA zs))):=by
 obtain⟨a,rfl⟩:=a;exact(c5 A c zs w e a).mono λ_ _ ⟨j,hb⟩=>⟨j,⟨hb⟩⟩
def xy{a b c:Int}:() 190 #[a,b,c] w (aD w (.tuple #[.int .i64 (lV a b c),.int .i64 (h8 a b c)])):=jJ (wN a b c w)
def YC(w:ay)(zs:av)(e:Ending)(w':ay):Prop:=
 ∃g,e=.returned (.slice (some ⟨g,0,none⟩) zs zs.length)/\w.1.size<=g/\Own w' g 3 zs/\aj w' w
def AP[a:Sl w A n zs](e:n<=1000000):() 103 #[(A,n,c)] w (YC w zs):=by
 obtain⟨a,rfl⟩:=a;exact(mJ A c zs w e a).mono λ_ _ ⟨g,j,hg,l,hb⟩=>⟨g,j,hg,l,⟨hb⟩⟩
def uy[a:Sl w A n zs](N:n<=1000000){W S:Int}{V:av}(hE:Hx (q9 zs W S=E))(hV:Hx (ra zs W S=V)):
  () 127 #[(A,n,c),W,S] w (jc w V E):=by
 obtain⟨a,rfl⟩:=a;have a:Sl w A zs zs:=⟨a,rfl⟩;have O:=@bL;rcases hr:aA zs with _|_
 .obtain rfl:E=20:=by rw[<-hE.o,q9,hr];rfl
  obtain rfl:V=[]:=by rw[<-hV.o,ra,hr];rfl
  go_in
  go_wp2_with (go_at_call 119;refine mv (p9 om) λu _=>?_)
  go_ret2;exact⟨none,0,rfl,Sl.empty,⟨an _⟩,bV.none,aK⟩
 .obtain⟨r1,P,-,-⟩:=(bE zs).1 hr;obtain⟨Q,R,z,rfl,I,J,K⟩:=a.get (k:=zs.length-1) om;have y:eN zs=z:=by rw[eN,aX,K.o];rfl
  have m1:((zs.length:Int)-1)=((zs.length-1:Nat):Int):=om;obtain⟨k,F⟩:=lh (zs.length-1);rw[F]at m1 J;have C:k<zs.length:=om;rcases ho:iD z W S with _|_
  .have D:h8 z W S=11:=by simp[h8,ho]
   obtain rfl:E=11:=by rw[<-hE.o,q9,ah hr,y,D]
   obtain rfl:V=[]:=by rw[<-hV.o,ra,y,ho];simp
   go_in
   go_wp2_with (first|(go_at_call 119;refine mv (p9 om) λu _=>?_)|(go_at_call 190;refine mv (xy) λu _=>?_))
   go_ret2;exact⟨none,0,rfl,Sl.empty,⟨an _⟩,bV.none,aK⟩
  .have D:h8 z W S=0:=by simp[h8,ho]
   obtain⟨v,hv⟩:=lh (lV z W S);obtain rfl:E=0:=by rw[<-hE.o,q9,ah hr,y,D]
   have j:Hx (zs.set k v=V):=ae (by rw[<-hV.o,ra,y,ho,hr,F,hv];rfl)
   go_in
   go_wp2_with (first|(go_at_call 119;refine mv (p9 om) λu _=>?_)|(go_at_call 190;refine mv (xy) λu _=>?_))
   refine(AP om).mono ?_;rintro e w1 ⟨g,rfl,hg,oS,_⟩;have L:=oS.cell (bc C);have M:=oS.frozen k
   go_wp2
   go_ret2;have l:w.1.size<=g:=aO (ai (w:=w) (w':=u)) hg;have G:=oS.ax k v;rw[j.o]at G;have r:V.length=zs.length:=by rw[<-j.o,ej]
   rw[<-r];exact⟨_,_,rfl,⟨G.rd,rfl⟩,⟨an _⟩,⟨λT e=>by cases e;exact l⟩,⟨(a7 w w1).setCell (p:=⟨g,k,none⟩) l _⟩⟩
def Da(e:Int)(zs xs:av)(W S:Int):Int:=if e≠1/\e≠2 then 21 else if aJ zs xs then q9 zs W S else 20
def E3(e:Int)(zs xs:av)(W S:Int):List Int:=if Da e zs xs W S=0 then ra zs W S else[]
def UZ{zs:av}{W S:Int}(h:¬q9 zs W S=0):ra zs W S=[]:=by
 unfold q9 at h;unfold ra
 split at h
 .rename_i hr;unfold h8 at h
  split at h
  .omega
  .rename_i e;simp[e]
 .rename_i hr;simp[hr]
def AQ[Sl w A n zs][Sl w B m xs](K:n<=1000000){W S:Int}{V:av}(hE:Hx (Da z zs xs W S=E))(hV:Hx (E3 z zs xs W S=V)):
  () 173 #[z,.agg #[(A,n,c),(B,m,d)],W,S] w (jc w V E):=by
 have L:=@aa;by_cases l:z≠1/\z≠2
 .obtain rfl:E=21:=by rw[<-hE.o,Da,ah l]
  obtain rfl:V=[]:=by rw[<-hV.o,E3,hE.o];simp
  have k1:(z !=1)=true:=by simpa using l.1
  have k2:(z !=2)=true:=by simpa using l.2
  go_in
  go_wp2
  go_ret2;exact⟨none,0,rfl,Sl.empty,⟨an _⟩,bV.none,aK⟩
 .have M:=ae l;rcases hr:aJ zs xs with _|_
  .obtain rfl:E=20:=by rw[<-hE.o,Da,ag l,hr];rfl
   obtain rfl:V=[]:=by rw[<-hV.o,E3,hE.o];simp
   have j:z=1\/z=2:=om;rcases j with rfl|rfl
   rotate_left
   all_goals
    go_in
    go_wp2_with (go_at_call 69;refine mv (d9 om) λu _=>?_)
    go_ret2;exact⟨none,0,rfl,Sl.empty,⟨an _⟩,bV.none,aK⟩
  .have r:Hx (q9 zs W S=E):=ae (by rw[<-hE.o,Da,ag l,hr];rfl);have y:Hx (ra zs W S=V):=ae (by
    rw[<-hV.o,E3,hE.o]
    split
    .rfl
    .rename_i C;exact UZ (by rw[r.o];exact C))
   have j:z=1\/z=2:=om;rcases j with rfl|rfl
   rotate_left
   all_goals
    go_in
    go_wp2_with (first|(go_at_call 69;refine mv (d9 om) λu _=>?_)|(go_at_call 127;refine(uy om r y).mono ?_;rintro e u ⟨D,F,rfl,G,I,J,_⟩))
    go_ret2;exact⟨D,F,rfl,G,I,J.less ai,aK⟩
end
end
variable{w':World}{C:Option Addr}{e:Nat}{ss:List Sp}{L:List (List Int)}
def ho(p b x:av):Bool:=decide (p.length=2)&&decide (b.length=1)&&decide (b.getD 0 0=p.getD 0 0)&&aA x&&decide (aN x=p.getD 1 0)
def kV(p b x:av):List Int:=if ho p b x then[p.getD 0 0]else[]
def kW(p b x:av):Int:=if ho p b x then 0 else 20
def E4(L:fV):Bool:=L.all λz=>decide (z=L.headD [])
def mT(L:fV):List Int:=if E4 L then L.headD []else[]
def mU(L:fV):Int:=if E4 L then 0 else 20
section
variable{w:World}{n k N:Nat}{ps bs:List Int}{V:List Int}
def Sl.two(h:Sl w A n ps)(G:n=2):∃b o z0 z1,A=some ⟨b,o,none⟩/\Old b w/\w.cell? (b,o)=some (.int .i64 z0)/\w.cell? (b,o+1)=some (.int .i64 z1)/\Hx (ps=[z0,z1]):=by
 obtain⟨b,o,z0,rfl,ob,v0,r⟩:=h.get (k:=0) om;obtain⟨I,J,z1,e,u,y,z⟩:=h.get (k:=1) om;injection e with e;injection e with D F;subst D F
 have j:=h.len;refine⟨b,o,z0,z1,rfl,ob,v0,y,ae ?_⟩
 match ps,j,r.o,z.o with
 |[a,b],_,h0,h1=>simp at h0 h1;rw[h0,h1]
 |[],j,_,_=>simp at j;omega
 |[a],j,_,_=>simp at j;omega
 |a::b::c::l,j,_,_=>simp at j;omega
def Sl.one(h:Sl w A n ps)(u:n=1):∃b o z0,A=some ⟨b,o,none⟩/\Old b w/\w.cell? (b,o)=some (.int .i64 z0)/\Hx (ps=[z0]):=by
 obtain⟨b,o,z0,rfl,ob,v0,r⟩:=h.get (k:=0) om;have j:=h.len;refine⟨b,o,z0,rfl,ob,v0,ae ?_⟩
 match ps,j,r.o with
 |[a],_,h0=>simp at h0;rw[h0]
 |[],j,_=>simp at j;omega
 |a::b::l,j,_=>simp at j;omega
def Mr[a:Sl w A n ps][b:Sl w B m bs][Sl w C k xs](U:k<=1000000)(hV:Hx (kV ps bs xs=V))(hE:Hx (kW ps bs xs=E)):
  () 124 #[(A,n,c),(B,m,d),.slice C k e] w (jc w V E):=by
 have X:=@bL;have L:=ae a.len;have M:=ae b.len;have no:∀(hb:ho ps bs xs=false),V=[]/\E=20:=λhb=>by
  rw[<-hV.o,<-hE.o,kV,kW,hb];exact⟨rfl,rfl⟩
 by_cases r:n=2;rotate_left
 .obtain⟨rfl,rfl⟩:=no (by unfold ho;rw[dD (by rw[<-L.o];exact r)];rfl);have O:((n:Int) !=2)=true:=by rw[hR];omega
  clear r
  go_in
  go_upto_region 1 with fail
  refine am aq (λD _=>?_);refine qL [0,1,2,3,504,505,506,7,8,509,510,511,512,513,514,515,16] ?_;refine aZ ?_
  go_wp2_with fail
  go_ret2;exact⟨none,0,rfl,Sl.empty,Le.same _,bV.none,aK⟩
 have O:((n:Int) !=2)=false:=by simp;omega
 obtain⟨Y,Z,z0,z1,rfl,P,v0,v1,K⟩:=a.two r;by_cases F:m=1;rotate_left
 .obtain⟨rfl,rfl⟩:=no (by unfold ho;rw[dD (show¬bs.length=1 from by rw[<-M.o];exact F)];simp);have Q:((m:Int) !=1)=true:=by rw[hR];omega
  clear F r
  go_in
  go_upto_region 1 with fail
  refine am aq (λD _=>?_);refine qL [0,1,2,3,4,5,6,7,8,509,510,511,512,513,514,515,16] ?_;refine aZ ?_
  go_wp2_with fail
  go_ret2;exact⟨none,0,rfl,Sl.empty,Le.same _,bV.none,aK⟩
 have Q:((m:Int) !=1)=false:=by simp;omega
 obtain⟨b8,o8,G,rfl,R,u0,S⟩:=b.one F;have j:ho ps bs xs=(decide (G=z0)&&aA xs&&decide (aN xs=z1)):=by
  unfold ho;rw[K.o,S.o];rfl
 by_cases y:G=z0;rotate_left
 .obtain⟨rfl,rfl⟩:=no (by rw[j,dD y];rfl);have J:(G !=z0)=true:=by rw[hR];exact y
  have n1:0<n:=om;have m1:0<m:=om;clear y j no F r
  go_in
  go_upto_region 1 with fail
  refine am aq (λD _=>?_);refine qL [0,1,2,3,4,5,6,7,8,9,10,11,12,13,14,15,16] ?_;refine aZ ?_
  go_wp2_with fail
  go_ret2;exact⟨none,0,rfl,Sl.empty,Le.same _,bV.none,aK⟩
 have J:(G !=z0)=false:=by simp[y]
 rw[ef y,wh]at j;have n2:1<n:=om;have n1:0<n:=om;have m1:0<m:=om;clear y F r;rcases hr:aA xs with _|_
 .obtain⟨rfl,rfl⟩:=no (by rw[j,hr];rfl);have I:Hx (bt xs=0):=ae (by rw[bt,hr];rfl);have l:Hx (cg xs=20):=ae (by rw[cg,hr];rfl);clear hr j no
  go_in
  go_upto_region 1 with fail
  refine am aq (λD _=>?_);refine qL [0,1,2,3,4,5,6,7,8,9,10,11,12,13,14,15,16] ?_;refine aZ ?_
  go_wp2_with (first|(go_at_call 73;(with_reducible refine(hH om I l).mono ?_);rintro e u ⟨rfl,_⟩))
  go_ret2;exact⟨none,0,rfl,Sl.empty,Le.same _,bV.none,aK⟩
 obtain⟨q,hq⟩:=lh (aN xs);have I:Hx (bt xs=q):=ae (by rw[bt,hr,hq];rfl);have l:Hx (cg xs=0):=ae (by rw[cg,hr];rfl);rw[hr,hq,wh]at j;by_cases z:q=z1
 .obtain⟨rfl,rfl⟩:V=[z0]/\E=0:=by
   rw[<-hV.o,<-hE.o,kV,kW,j,ef z,K.o];exact⟨rfl,rfl⟩
  have T:(q !=z1)=false:=by simp[z]
  clear z hr j no hq
  go_in
  go_upto_region 1 with fail
  refine am aq (λD _=>?_);refine qL [0,1,2,3,4,5,6,7,8,9,10,11,12,13,14,15,16] ?_;refine aZ ?_
  go_wp2_with (first|(go_at_call 73;(with_reducible refine(hH om I l).mono ?_);rintro e u ⟨rfl,_⟩))
  go_ret2;have:w.1.size<=u.1.size:=ai;exact⟨some ⟨u.1.size,0,none⟩,1,rfl,(Sl.wO:Sl _ _ 1 [z0]),⟨aG⟩,⟨λad e=>by injection e with e;subst e;exact this⟩,aK⟩
 .obtain⟨rfl,rfl⟩:=no (by rw[j,dD z]);have T:(q !=z1)=true:=by rw[hR];exact z
  clear z hr j no hq
  go_in
  go_upto_region 1 with fail
  refine am aq (λD _=>?_);refine qL [0,1,2,3,4,5,6,7,8,9,10,11,12,13,14,15,16] ?_;refine aZ ?_
  go_wp2_with (first|(go_at_call 73;(with_reducible refine(hH om I l).mono ?_);rintro e u ⟨rfl,_⟩))
  go_ret2;exact⟨none,0,rfl,Sl.empty,Le.same _,bV.none,aK⟩
def YD{z0:av}(h:L[0]?=some z0):E4 L=L.all λz=>decide (z=z0):=by
 cases L with
 |nil=>cases h
 |cons a l=>injection h with h;subst h;rfl
def U0{z0:av}(h:L[0]?=some z0):L.headD []=z0:=by
 cases L with
 |nil=>cases h
 |cons a l=>injection h
def tC{α:Type}{f:α->Bool}{l:List α}{k:Nat}{x:α}(h:l[k]?=some x)(b:f x=false):l.all f=false:=by
 rw[nu];exact⟨x,aC h,by simp[b]⟩
def nR{α:Type}{f:α->Bool}{l:List α}{k:Nat}{x:α}(h:(l.take k).all f=true)(b:l[k]?=some x)(j:f x=true):(l.take (k+1)).all f=true:=by
 rw[fb,r4,h,b];simp[j]
def tD{α:Type}{f:α->Bool}{l:List α}{k:Nat}(h:(l.take k).all f=true)(b:l.length<=k):l.all f=true:=by rwa[bR b]at h
def E5[a:du w B n ss][le:Le n c](h1:1<=n)(hn:n<=1000000)(O:Hx (∀z∈aW ss,aA z=true))(hV:Hx (mT (aW ss)=V))(hE:Hx (mU (aW ss)=E)):
  () 125 #[(B,n,c)] w (jc w V E):=by
 have CP:=@bL;have U:=le.le;have X:Hx (n=(aW ss).length):=ae (a.len.trans cj.symm);obtain⟨b,o,Y,P,c0,z0,rfl,ob,v0,Z,_,D⟩:=a.get (k:=0) om;have m4:P<=4:=by rw[Z.len];exact cw (O.o _ (gP D.o))
 have Q:=ae (YD D.o);have v0':w.cell? (b,o)=some (.slice Y P c0):=v0;clear v0;obtain⟨l,rfl⟩:∃l,n=l+1:=⟨n-1,om⟩;obtain⟨A',qZ,R⟩:=sA b o l c U;have HA:=ae R;clear R
 go_in
 go_wp2_with fail
 go_loopw [9] (λi wr=>∃j:Nat,j<=l/\i=.int .i64 j/\Hx (((aW ss).take (j+1)).all (λz=>decide (z=z0))=true)/\aj wr w) (λi _=>l-(intOf i).toNat)
 case atStart=>exact⟨0,aT _,rfl,ae (nR (k:=0) rfl D.o (ef rfl)),aK⟩
 case round=>
  obtain⟨j,hj,rfl,S,hp⟩:=hrel;by_cases bK:j<l
  .obtain rfl:=HA.o om;obtain⟨b',o',A1,m1,c1,z1,G,I,T,s1,_,r⟩:=a.get (k:=j+1) om;injection G with G;injection G with J K;subst J K
   have Ms:w.cell? (b,o+1+j)=some (.slice A1 m1 c1):=by rw[show o+1+j=o+(j+1)from om];exact T
   have Im:m1<=4:=by rw[s1.len];exact cw (O.o _ (gP r.o))
   clear T I;by_cases F:z1=z0
   .have y:Hx (decide (z1=z0)=true):=ae (ef F);have L:=ae (nR S.o r.o y.o);clear F r
    go_wp2_with (go_at_call 70;refine mv (q4 om om y) λu _=>?_)
    go_roundw
    case rel=>exact⟨j+1,om,by go_num,L,aK⟩
    case measure=>exact e6
   .have y:Hx (decide (z1=z0)=false):=ae (dD F);have M:Hx (E4 (aW ss)=false):=ae (by rw[Q.o];exact tC r.o y.o);obtain⟨rfl,rfl⟩:V=[]/\E=20:=by rw[<-hV.o,<-hE.o,mT,mU,M.o];exact⟨rfl,rfl⟩
    clear F r
    go_wp2_with (go_at_call 70;refine mv (q4 om om y) λu _=>?_)
    go_ret2;exact⟨none,0,rfl,Sl.empty,Le.same _,bV.none,aK⟩
  .have M:Hx (E4 (aW ss)=true):=ae (by rw[Q.o];exact tD S.o (by rw[<-X.o];omega));obtain⟨rfl,rfl⟩:V=z0/\E=0:=by rw[<-hV.o,<-hE.o,mT,mU,M.o,U0 D.o];exact⟨rfl,rfl⟩
   go_wp2_with (first|(go_at_call 103;(with_reducible refine(pi om).mono ?_);rintro e u ⟨gS,rfl,sS,fS,_⟩))
   go_ret2;exact⟨some ⟨gS,0,none⟩,_,rfl,sS,Le.same _,fS.less ai,aK⟩
def ea[Sl w A n ps](b:n<=1000000){v e:Int}(hv:Hx (bt ps=v/\cg ps=e)):() 73 #[(A,n,c)] w (aD w (.tuple #[v,e])):=hH b (ae hv.o.1) (ae hv.o.2)
def z8(xs ps:av):Int:=if aA xs then(if aA ps then(if aN ps=aN xs then 0 else 20)else 20)else 20
def In(xs ps:av):List Int:=if z8 xs ps=0 then ps else[]
def Io[Sl w A n xs][Sl w B m ps](y:n<=1000000)(hm:m<=1000000)(hV:Hx (In xs ps=V))(hE:Hx (z8 xs ps=E)):
  () 130 #[(A,n,c),(B,m,d)] w (jc w V E):=by
 have no:z8 xs ps=20->V=[]/\E=20:=λh=>by rw[<-hV.o,<-hE.o,In,h];exact⟨rfl,rfl⟩
 obtain⟨l,ex,b⟩:∃v e,bt xs=v/\cg xs=e:=⟨_,_,rfl,rfl⟩;obtain⟨r,I,hp⟩:∃v e,bt ps=v/\cg ps=e:=⟨_,_,rfl,rfl⟩;have z:=ae b;have D:=ae hp;rcases r1:aA xs with _|_
 .obtain⟨rfl,rfl⟩:=no (by rw[z8,r1];rfl);obtain rfl:ex=20:=by rw[<-b.2,cg,r1];rfl
  clear b hp r1 no
  go_in
  go_wp2_with (first|(first|(go_at_call 73;(with_reducible refine(ea y z).mono ?_);rintro e u ⟨rfl,_⟩))|(first|(go_at_call 73;(with_reducible refine(ea hm D).mono ?_);rintro e u ⟨rfl,_⟩)))
  go_ret2;exact⟨none,0,rfl,Sl.empty,Le.same _,bV.none,aK⟩
 obtain rfl:ex=0:=by rw[<-b.2,cg,r1];rfl
 rcases r2:aA ps with _|_
 .obtain⟨rfl,rfl⟩:=no (by rw[z8,r1,r2];rfl);obtain rfl:I=20:=by rw[<-hp.2,cg,r2];rfl
  clear b hp r1 r2 no
  go_in
  go_wp2_with (first|(first|(go_at_call 73;(with_reducible refine(ea y z).mono ?_);rintro e u ⟨rfl,_⟩))|(first|(go_at_call 73;(with_reducible refine(ea hm D).mono ?_);rintro e u ⟨rfl,_⟩)))
  go_ret2;exact⟨none,0,rfl,Sl.empty,Le.same _,bV.none,aK⟩
 obtain rfl:I=0:=by rw[<-hp.2,cg,r2];rfl
 have F:aN xs=l:=by rw[<-b.1,bt,r1];rfl
 have G:aN ps=r:=by rw[<-hp.1,bt,r2];rfl
 have j:z8 xs ps=if r=l then 0 else 20:=by rw[z8,r1,r2,F,G];rfl
 by_cases h:r=l
 .rw[ah h]at j;obtain⟨rfl,rfl⟩:V=ps/\E=0:=by rw[<-hV.o,<-hE.o,In,j];exact⟨rfl,rfl⟩
  have J:(r !=l)=false:=by simp[h]
  clear b hp r1 r2 no F G j h
  go_in
  go_wp2_with (first|(first|(go_at_call 73;(with_reducible refine(ea y z).mono ?_);rintro e u ⟨rfl,_⟩))|(first|(go_at_call 73;(with_reducible refine(ea hm D).mono ?_);rintro e u ⟨rfl,_⟩))|(first|(go_at_call 103;(with_reducible refine(pi om).mono ?_);rintro e u ⟨K,rfl,L,M,_⟩)))
  go_ret2;exact⟨some ⟨K,0,none⟩,_,rfl,L,Le.same _,M.less ai,aK⟩
 .rw[ag h]at j;obtain⟨rfl,rfl⟩:=no j;have J:(r !=l)=true:=by rw[hR];exact h
  clear b hp r1 r2 no F G j h
  go_in
  go_wp2_with (first|(first|(go_at_call 73;(with_reducible refine(ea y z).mono ?_);rintro e u ⟨rfl,_⟩))|(first|(go_at_call 73;(with_reducible refine(ea hm D).mono ?_);rintro e u ⟨rfl,_⟩)))
  go_ret2;exact⟨none,0,rfl,Sl.empty,Le.same _,bV.none,aK⟩
end
