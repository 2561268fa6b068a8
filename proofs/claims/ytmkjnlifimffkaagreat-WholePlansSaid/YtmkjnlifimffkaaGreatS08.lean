/- Lemmas. -/
import Derived.Deep.DeepCutAuto
import Derived.Test.YtmkjnlifimffkaaGreatS07
namespace Go.Proofs.YtmkjnlifimffkaaGreat
open Go.RowKit Tryz
set_option linter.all false
set_option maxRecDepth 100000
set_option maxHeartbeats 0
variable{Γ:Prop}
attribute[local irreducible]Calls
section
variable{W X u w w0:World}{JY T T':TypeId}{args cs lW yT:Array Value}{f g i j m n:Nat}{v v0 v1 v3 v4 v5 v6 v7 x0 x1 x2 x3 x4 x5 x6 x7:Value}{act:Act}{A B:Option Addr}{E Fu Fv SJ k' kd sd st tt y z:Int}{P:Program}{V:List Int}
abbrev gM(kd k wd st sd fr tt:Int)(S:Value):Array Value:= #[kd,k,wd,st,sd,fr,tt,S]
def HE{Q:World->Prop}(h:∀u,aj u X->Bx u X.1.size T cs->Bx u (X.1.size+1) T' lW->Q u):Q ((X.alloc (.cells cs T)).alloc (.cells lW T')):=
 h _ (aF) aq aq
def OQ(w:aa)(d:Nat)(a a':Int):(Op.equalIn (d+1) 2 a a').run prog w=.ok (a==a') w:=by
 simp[Op.equalIn,gF underlying2]
def OR(w:aa){xs:m0}(h:xs[i]?=some v):(part 2 xs i).run prog w=.ok v w:=by
 simp[part,isAgg,gF underlying2,h]
def HF(w:aa)(a b c d e f g a' j l d' m r u:Int):(Op.equalIn 10000 332 (.agg #[a,b,c,d,e,f,g]) (.agg #[a',j,l,d',m,r,u])).run prog w=.ok (a==a'&&b==j&&c==l&&d==d'&&e==m&&f==r&&g==u) w:=by
 have h:∀n:Nat,(Op.equalIn (n+2) 332 (.agg #[a,b,c,d,e,f,g]) (.agg #[a',j,l,d',m,r,u])).run prog w=if a=a' then(if b=j then(if c=l then(if d=d' then(if e=m then(if f=r then(if g=u then Result.ok true w else Result.ok false w)else Result.ok false w)else Result.ok false w)else Result.ok false w)else Result.ok false w)else Result.ok false w)else Result.ok false w:=by intro n;rw[Op.equalIn];simp[gF underlying332,List.range',OQ,OR]
 rw[h 9998];by_cases y:a=a'<;>by_cases z:b=j<;>by_cases B:c=l<;>by_cases C:d=d'<;>by_cases D:e=m<;>by_cases E:f=r<;>by_cases F:g=u<;>simp[*]
def kt{Q:World->Prop}(h:∀u,aj u X->Bx u X.1.size T cs->Bx u (X.1.size+1) T' lW->Bx u (X.1.size+1+1) JY yT->Q u):Q (((X.alloc (.cells cs T)).alloc (.cells lW T')).alloc (.cells yT JY)):=
 h _ (aF) aq aq aq
def sS{Q:World->Prop}(h:∀b u,aj b X->aj u b->Bx b X.1.size T cs->Bx b (X.1.size+1) T' lW->b.1.size<=X.1.size+1+1->Bx u (X.1.size+1+1) JY yT->Q u):Q (((X.alloc (.cells cs T)).alloc (.cells lW T')).alloc (.cells yT JY)):=
 h ((X.alloc (.cells cs T)).alloc (.cells lW T')) _ (aF) (aF) aq aq aD aq
def jR{b:Value}(h:∀i,W.cell? ⟨g,i,none⟩= #[v0,v1,b,v3,v4,v5,v6,v7][i]?):
  W.cell? ⟨g,0,none⟩=some v0/\W.cell? ⟨g,1,none⟩=some v1/\W.cell? ⟨g,2,none⟩=some b/\W.cell? ⟨g,3,none⟩=some v3/\W.cell? ⟨g,4,none⟩=some v4/\W.cell? ⟨g,5,none⟩=some v5/\W.cell? ⟨g,6,none⟩=some v6/\W.cell? ⟨g,7,none⟩=some v7:=
 ⟨h 0,h 1,h 2,h 3,h 4,h 5,h 6,h 7⟩
section
variable{T0:TypeId}{rB:Nat}{v2:Value}
def SH(u:aa)(rB:Nat)(v0 v1 v2 v3 v4 v5 v6 v7:Value):World:=(((((((u.setCell (rB,0) v0).setCell (rB,1) v1).setCell (rB,2) v2).setCell (rB,3) v3).setCell (rB,4) v4).setCell (rB,5) v5).setCell (rB,6) v6).setCell (rB,7) v7
def KG(h:az u rB T0 #[x0,x1,x2,x3,x4,x5,x6,x7]):az (SH u rB v0 v1 v2 v3 v4 v5 v6 v7) rB T0 #[v0,v1,v2,v3,v4,v5,v6,v7]:=by
 have b:az _ rB T0 #[v0,x1,x2,x3,x4,x5,x6,x7]:=h.av 0 v0;have e:az _ rB T0 #[v0,v1,x2,x3,x4,x5,x6,x7]:=b.av 1 v1;have j:az _ rB T0 #[v0,v1,v2,x3,x4,x5,x6,x7]:=e.av 2 v2;have l:az _ rB T0 #[v0,v1,v2,v3,x4,x5,x6,x7]:=j.av 3 v3;have m:az _ rB T0 #[v0,v1,v2,v3,v4,x5,x6,x7]:=l.av 4 v4;have r:az _ rB T0 #[v0,v1,v2,v3,v4,v5,x6,x7]:=m.av 5 v5;have y:az _ rB T0 #[v0,v1,v2,v3,v4,v5,v6,x7]:=r.av 6 v6;exact y.av 7 v7
def KH(h:Below w0.1.size w0 u)(hr:w0.1.size<=rB):Below w0.1.size w0 (SH u rB v0 v1 v2 v3 v4 v5 v6 v7):=by
 have b:=h.setCell (p:=⟨rB,0,none⟩) hr v0;have e:=b.setCell (p:=⟨rB,1,none⟩) hr v1;have j:=e.setCell (p:=⟨rB,2,none⟩) hr v2;have l:=j.setCell (p:=⟨rB,3,none⟩) hr v3;have m:=l.setCell (p:=⟨rB,4,none⟩) hr v4;have r:=m.setCell (p:=⟨rB,5,none⟩) hr v5;have y:=r.setCell (p:=⟨rB,6,none⟩) hr v6;exact y.setCell (p:=⟨rB,7,none⟩) hr v7
def KI{F:Func}[aT w0 u](h:az u rB T0 #[x0,x1,x2,x3,x4,x5,x6,x7])(hr:w0.1.size<=rB)(hd:act.defers=[])
  (b:∀W:World,(∀i,W.cell? ⟨rB,i,none⟩= #[v0,v1,v2,v3,v4,v5,v6,v7][i]?)->(results F act.tmps).run prog W=.ok v W):
  bodyPost prog F (aJ w0 v) .ret act ((((((((u.setCell ⟨rB,0,none⟩ v0).setCell ⟨rB,1,none⟩ v1).setCell ⟨rB,2,none⟩ v2).setCell ⟨rB,3,none⟩ v3).setCell ⟨rB,4,none⟩ v4).setCell ⟨rB,5,none⟩ v5).setCell ⟨rB,6,none⟩ v6).setCell ⟨rB,7,none⟩ v7):=by
 have e:=KG (v0:=v0) (v1:=v1) (v2:=v2) (v3:=v3) (v4:=v4) (v5:=v5) (v6:=v6) (v7:=v7) h;have j:=KH (v0:=v0) (v1:=v1) (v2:=v2) (v3:=v3) (v4:=v4) (v5:=v5) (v6:=v6) (v7:=v7) (aP w0 u) hr;exact aX (b _ e.cell) hd ⟨rfl,⟨j⟩⟩
end
variable{p:Nat}{k wd fr:Int}{S:List Int}
def Xv{b:Value}(h:∀i,W.cell? ⟨g,i,none⟩= #[v0,v1,b,v3,v4,v5,v6][i]?):
  W.cell? ⟨g,0,none⟩=some v0/\W.cell? ⟨g,1,none⟩=some v1/\W.cell? ⟨g,2,none⟩=some b/\W.cell? ⟨g,3,none⟩=some v3/\W.cell? ⟨g,4,none⟩=some v4/\W.cell? ⟨g,5,none⟩=some v5/\W.cell? ⟨g,6,none⟩=some v6:=
 ⟨h 0,h 1,h 2,h 3,h 4,h 5,h 6⟩
def nv:() 226 #[.agg (gM kd k wd st sd fr tt (A,n,p))] w (aJ w (.agg #[kd,k,wd,st,sd,fr,tt])):=by
 have r:=@ay;have y:=@aO;go_in;go_wp2_with fail;refine HE (λu _ _ b=>?_);obtain⟨r0,r1,r2,e,j,l,m⟩:=Xv b.ak.cell;refine aX (v:=.agg #[kd,k,wd,st,sd,fr,tt]) (by simp[results,results226,go_sem,r0,r1,r2,e,j,l,m]) rfl ⟨rfl,aF⟩
def vw{w:aa}{b:Value}(h:Calls P f args w (aJ w v))(e:v=b):Calls P f args w (aJ w b):=e▸h
def sT{v:Bool}[Sl w A n S][Sl w B m V](b:n<=1000000)(hm:m<=1000000)(hv:Hx (decide (S=V)=v)):() 70 #[(A,n,p),(B,m,j)] w (aJ w (.bool v)):=vw (f9 b hm) (by rw[hv.o])
def SI(a b c d e f g a' j l d' m r u:Int):Bool:=a==a'&&b==j&&c==l&&d==d'&&e==m&&f==r&&g==u
def zCp(h:Γ:=by refine a9 ?_;go_wp2_with fail;go_ret;exact bB):=h
def sr{v:Bool}[Sl w A n S][Sl w B m V](r:n<=1000000)(b:m<=1000000)(hv:Hx (SI kd k wd st sd fr tt z k' y E SJ Fu Fv=true))(hs:Hx (decide (S=V)=v)):
  () 185 #[.agg (gM kd k wd st sd fr tt (A,n,p)),.agg (gM z k' y E SJ Fu Fv (B,m,j))] w (aJ w (.bool v)):=by
 have u:=@ay;have C:∀W,(Op.equalIn 10000 332 (.agg #[kd,k,wd,st,sd,fr,tt]) (.agg #[z,k',y,E,SJ,Fu,Fv])).run prog W=.ok true W:=λW=>by rw[HF,<-hv.o];rfl
 go_in;go_upto_region 1 with fail;refine aw ao (λl _=>?_);refine qL [0,2] ?_;refine aK 1 λK hK=>?_;go_simp;refine(nv).mono ?_;rintro e l ⟨rfl,_⟩;dsimp only;refine aG hK<|aK 3 λK hK=>?_;go_simp;refine(nv).mono ?_;rintro e l ⟨rfl,_⟩;dsimp only;refine aG hK ?_;refine qL [4,5,6,7,8,9] ?_;refine aK 10 λK hK=>?_;go_simp;refine(sT r b hs).mono ?_;rintro e l ⟨rfl,_⟩;dsimp only;refine aG hK ?_;refine qL [11,12] ?_;exact zCp
def Fw(hv:Hx (SI kd k wd st sd fr tt z k' y E SJ Fu Fv=false)):
  () 185 #[.agg (gM kd k wd st sd fr tt (A,n,p)),.agg (gM z k' y E SJ Fu Fv (B,m,j))] w (aJ w (.bool false)):=by
 have l:=@ay;have r:∀W,(Op.equalIn 10000 332 (.agg #[kd,k,wd,st,sd,fr,tt]) (.agg #[z,k',y,E,SJ,Fu,Fv])).run prog W=.ok false W:=λW=>by rw[HF,<-hv.o];rfl
 go_in;go_upto_region 1 with fail;refine aw ao (λb _=>?_);refine qL [0,2] ?_;refine aK 1 λK hK=>?_;go_simp;refine(nv).mono ?_;rintro e b ⟨rfl,_⟩;dsimp only;refine aG hK<|aK 3 λK hK=>?_;go_simp;refine(nv).mono ?_;rintro e b ⟨rfl,_⟩;dsimp only;refine aG hK ?_;refine qL [4,5,506,507,508,509,510,11,12] ?_;exact zCp
def zCb(h:Γ:=by have y:=@ay;have z:=@aO;go_in;go_wp2_with fail;refine kt (λu _ _ b _=>?_);obtain⟨r0,r1,r2,e,j,l,m,r⟩:=jR b.ak.cell;refine aX (by simp[results,results186,go_sem,r0,r1,r2,e,j,l,m,r]) rfl ⟨rfl,aF⟩):=h
def OS:() 186 #[.agg (gM 2 k wd st sd fr tt (A,n,p))] w (aJ w (.agg (gM 2 k 0 0 0 0 0 ()))):=by
 exact zCb
def OT:() 186 #[.agg (gM 5 k wd st sd fr tt (A,n,p))] w (aJ w (.agg (gM 5 k 0 0 0 0 0 ()))):=by
 exact zCb
def KJ:() 186 #[.agg (gM 10 k wd st sd fr tt (A,n,p))] w (aJ w (.agg (gM 10 0 0 st 0 0 0 ()))):=by
 exact zCb
def KK:() 186 #[.agg (gM 13 k wd st sd fr tt (A,n,p))] w (aJ w (.agg (gM 13 0 0 0 sd 0 0 ()))):=by
 exact zCb
def KL:() 186 #[.agg (gM 15 k wd st sd fr tt (A,n,p))] w (aJ w (.agg (gM 15 0 0 0 0 0 0 (A,n,p)))):=by
 exact zCb
def zCd(h:Γ:=by have G:aj z b:=⟨r⟩;refine aG hK ?_ ⟨r⟩;clear hK K l;obtain⟨e,rfl⟩:=lg z;refine a9 ?_;go_wp2_with fail;refine KI (rB:=w.1.size+1) (Bx.ak (w:=e) (g:=w.1.size+1)) (cz _) rfl (λW C=>?_);obtain⟨r0,r1,r2,I,J,L,M,N⟩:=jR C;clear C;simp[results,results186,go_sem,r0,r1,r2,I,J,L,M,N]):=h
def zCn(h:Γ:=by rw[j];exact(aP b e).setCell (p:=⟨w.1.size+1+1,2,none⟩) B _):=h
def zCo(h:Γ:=by rw[l];exact(aP b e).setCell (p:=⟨w.1.size+1+1,3,none⟩) B _):=h
def KM:() 186 #[.agg (gM 11 k wd st sd fr tt (A,n,p))] w (aJ w (.agg (gM 11 0 wd st 0 0 0 ()))):=by
 have O:=@ay;have P:=@aO;go_in;go_upto_region 10 with fail;refine sS (λb u _ _ k1 k2 B Q=>?_);refine ab b ao (λe _=>?_);refine qL [0,1,2,3,4] ?_;refine aK 5 λK hK=>?_;go_simp;obtain⟨y,j⟩:=lg (e.setCell (w.1.size+1+1,2) wd);rw[<-j];have m:Below (World.heap b).size b y:=zCn;have D:Bx y (w.1.size+1+1) _ #[(11:Int),an,wd,an,an,an,an,()]:=⟨by rw[j];exact az.av (Bx.ak (w:=e) (g:=w.1.size+1+1)) 2 _⟩;have E:aj y b:=⟨m⟩;refine aG hK ?_ ⟨m⟩;clear hK K j;obtain⟨e,rfl⟩:=lg y;refine ff 6<|aK 7 λK hK=>?_;go_simp;obtain⟨z,l⟩:=lg (e.setCell (w.1.size+1+1,3) st);rw[<-l];have r:Below (World.heap b).size b z:=zCo;have F:Bx z (w.1.size+1+1) _ #[(11:Int),an,wd,st,an,an,an,()]:=⟨by rw[l];exact az.av (Bx.ak (w:=e) (g:=w.1.size+1+1)) 3 _⟩;exact zCd
def KN:() 186 #[.agg (gM 12 k wd st sd fr tt (A,n,p))] w (aJ w (.agg (gM 12 0 wd st 0 0 0 ()))):=by
 have O:=@ay;have P:=@aO;go_in;go_upto_region 10 with fail;refine sS (λb u _ _ k1 k2 B Q=>?_);refine ab b ao (λe _=>?_);refine qL [0,1,2,3,4] ?_;refine aK 5 λK hK=>?_;go_simp;obtain⟨y,j⟩:=lg (e.setCell (w.1.size+1+1,2) wd);rw[<-j];have m:Below (World.heap b).size b y:=zCn;have D:Bx y (w.1.size+1+1) _ #[(12:Int),an,wd,an,an,an,an,()]:=⟨by rw[j];exact az.av (Bx.ak (w:=e) (g:=w.1.size+1+1)) 2 _⟩;have E:aj y b:=⟨m⟩;refine aG hK ?_ ⟨m⟩;clear hK K j;obtain⟨e,rfl⟩:=lg y;refine ff 6<|aK 7 λK hK=>?_;go_simp;obtain⟨z,l⟩:=lg (e.setCell (w.1.size+1+1,3) st);rw[<-l];have r:Below (World.heap b).size b z:=zCo;have F:Bx z (w.1.size+1+1) _ #[(12:Int),an,wd,st,an,an,an,()]:=⟨by rw[l];exact az.av (Bx.ak (w:=e) (g:=w.1.size+1+1)) 3 _⟩;exact zCd
def KO:() 186 #[.agg (gM 14 k wd st sd fr tt (A,n,p))] w (aJ w (.agg (gM 14 0 0 0 sd fr tt ()))):=by
 have U:=@ay;have V:=@aO;go_in;go_upto_region 14 with fail;refine sS (λb u _ _ k1 k2 E X=>?_);refine ab b ao (λe _=>?_);refine qL [0,1,2,3,4,5,6] ?_;refine aK 7 λK hK=>?_;go_simp;obtain⟨B,j⟩:=lg (e.setCell (w.1.size+1+1,4) sd);rw[<-j];have r:Below (World.heap b).size b B:=by rw[j];exact(aP b e).setCell (p:=⟨w.1.size+1+1,4,none⟩) E _
 have G:Bx B (w.1.size+1+1) _ #[(14:Int),an,an,an,sd,an,an,()]:=⟨by rw[j];exact az.av (Bx.ak (w:=e) (g:=w.1.size+1+1)) 4 _⟩;have I:aj B b:=⟨r⟩;refine aG hK ?_ ⟨r⟩;clear hK K j;obtain⟨e,rfl⟩:=lg B;refine ff 8<|aK 9 λK hK=>?_;go_simp;obtain⟨C,l⟩:=lg (e.setCell (w.1.size+1+1,5) fr);rw[<-l];have y:Below (World.heap b).size b C:=by rw[l];exact(aP b e).setCell (p:=⟨w.1.size+1+1,5,none⟩) E _
 have J:Bx C (w.1.size+1+1) _ #[(14:Int),an,an,an,sd,fr,an,()]:=⟨by rw[l];exact az.av (Bx.ak (w:=e) (g:=w.1.size+1+1)) 5 _⟩;have L:aj C b:=⟨y⟩;refine aG hK ?_ ⟨y⟩;clear hK K l;obtain⟨e,rfl⟩:=lg C;refine ff 10<|aK 11 λK hK=>?_;go_simp;obtain⟨D,m⟩:=lg (e.setCell (w.1.size+1+1,6) tt);rw[<-m];have z:Below (World.heap b).size b D:=by rw[m];exact(aP b e).setCell (p:=⟨w.1.size+1+1,6,none⟩) E _
 have M:Bx D (w.1.size+1+1) _ #[(14:Int),an,an,an,sd,fr,tt,()]:=⟨by rw[m];exact az.av (Bx.ak (w:=e) (g:=w.1.size+1+1)) 6 _⟩;have N:aj D b:=⟨z⟩;refine aG hK ?_ ⟨z⟩;clear hK K m;obtain⟨e,rfl⟩:=lg D;refine a9 ?_;go_wp2_with fail;refine KI (rB:=w.1.size+1) (Bx.ak (w:=e) (g:=w.1.size+1)) (cz _) rfl (λW F=>?_);obtain⟨r0,r1,r2,O,P,Q,R,T⟩:=jR F;clear F;simp[results,results186,go_sem,r0,r1,r2,O,P,Q,R,T]
def OU(F:(kd==2)=false)(G:(kd==5)=false)(b:(kd==10)=false)(e:(kd==11)=false)(j:(kd==12)=false)(l:(kd==13)=false)(m:(kd==14)=false)(r:(kd==15)=false):
  () 186 #[.agg (gM kd k wd st sd fr tt (A,n,p))] w (aJ w (.agg (gM kd 0 0 0 0 0 0 ()))):=by
 have I:=@ay;have J:=@aO;go_in;go_wp2_with fail;refine kt (λu _ _ y _=>?_);obtain⟨r0,r1,r2,z,B,C,D,E⟩:=jR y.ak.cell;refine aX (by simp[results,results186,go_sem,r0,r1,r2,z,B,C,D,E]) rfl ⟨rfl,aF⟩
end
variable{w:World}{A:Option Addr}{n:Nat}{E Fu Fv k' kd sd st tt y z:Int}
def uK(kd k:Int):Int:=if kd=2\/kd=5 then k else 0
def uW(kd k:Int):Int:=if kd=11\/kd=12 then k else 0
def SK(kd k:Int):Int:=if kd=10\/kd=11\/kd=12 then k else 0
def SL(kd k:Int):Int:=if kd=13\/kd=14 then k else 0
def Cb(kd k:Int):Int:=if kd=14 then k else 0
def uS(kd:Int)(S:au):List Int:=if kd=15 then S else[]
def r6(kd k wd st sd fr tt:Int)(S:au):Bool:=
 decide (1<=kd)&&decide (kd<=15)&&SI kd k wd st sd fr tt kd (uK kd k) (uW kd wd) (SK kd st) (SL kd sd) (Cb kd fr) (Cb kd tt)&&decide (S=uS kd S)
variable{p:Nat}{k wd fr:Int}{S:List Int}
def wM(e:kd=15)(hv:Hx ((k',z,y,E,Fu,Fv)=(uK kd k,uW kd wd,SK kd st,SL kd sd,Cb kd fr,Cb kd tt))):
  () 186 #[.agg (gM kd k wd st sd fr tt (A,n,p))] w (aJ w (.agg (gM kd k' z y E Fu Fv (A,n,p)))):=by
 subst e;have h:=hv.o;injection h with b h;injection h with j h;injection h with l h;injection h with m h;injection h with r u;subst b j l m r u;exact KL
def zv(e:kd≠15)(hv:Hx ((k',z,y,E,Fu,Fv)=(uK kd k,uW kd wd,SK kd st,SL kd sd,Cb kd fr,Cb kd tt))):
  () 186 #[.agg (gM kd k wd st sd fr tt (A,n,p))] w (aJ w (.agg (gM kd k' z y E Fu Fv ()))):=by
 have h:=hv.o;injection h with l h;injection h with m h;injection h with r h;injection h with u h;injection h with B C;subst l m r u B C;by_cases h:kd=2\/kd=5\/kd=10\/kd=11\/kd=12\/kd=13\/kd=14;rcases h with rfl|rfl|rfl|rfl|rfl|rfl|rfl;exact OS;exact OT;exact KJ;exact KM;exact KN;exact KK;exact KO;have b:∀j:Int,(j=2\/j=5\/j=10\/j=11\/j=12\/j=13\/j=14\/j=15)->(kd==j)=false:=λj L=>by rw[beq_eq_false_iff_ne];omega
 have D:uK kd k=0:=ag om;have F:uW kd wd=0:=ag om;have G:SK kd st=0:=ag om;have I:SL kd sd=0:=ag om;have J:Cb kd fr=0:=ag om;have K:Cb kd tt=0:=ag om;rw[D,F,G,I,J,K];exact OU (b 2 aD) (b 5 aD) (b 10 aD) (b 11 aD) (b 12 aD) (b 13 aD) (b 14 aD) (b 15 aD)
def zCh(h:Γ:=by refine a9 ?_;go_wp2_with fail;go_ret;exact⟨by rw[z.o];rfl,aF⟩):=h
def zCl(h:Γ:=by rintro e b ⟨rfl,_⟩;dsimp only;refine aG hK ?_;refine qL [13,14] ?_;exact zCh):=h
def fk[Sl w A n S](G:n<=1000000):() 120 #[.agg (gM kd k wd st sd fr tt (A,n,p))] w (aJ w (.bool (r6 kd k wd st sd fr tt S))):=by
 have P:=@ay;by_cases C:1<=kd;rotate_left
 .have z:Hx (r6 kd k wd st sd fr tt S=false):=ae (by unfold r6;rw[gD C];rfl);have d1:decide (1<=kd)=false:=gD C;go_in;go_upto_region 1 with fail;refine aw ao (λb _=>?_);refine qL [0,1,2,3,504,505,506,7,8,509,510,511,512,13,14] ?_;exact zCh
 have d1:decide (1<=kd)=true:=gC C;by_cases D:kd<=15;rotate_left
 .have z:Hx (r6 kd k wd st sd fr tt S=false):=ae (by unfold r6;rw[gD D];simp);have J:decide (kd<=15)=false:=gD D;go_in;go_upto_region 1 with fail;refine aw ao (λb _=>?_);refine qL [0,1,2,3,4,5,6,7,8,509,510,511,512,13,14] ?_;exact zCh
 have J:decide (kd<=15)=true:=gC D;obtain⟨k',j,l,m,r,u,hv⟩:∃k' j l m r u,(k',j,l,m,r,u)=(uK kd k,uW kd wd,SK kd st,SL kd sd,Cb kd fr,Cb kd tt):=⟨_,_,_,_,_,_,rfl⟩;have E:=ae hv;have y:r6 kd k wd st sd fr tt S=(SI kd k wd st sd fr tt kd k' j l m r u&&decide (S=uS kd S)):=by injection hv with C h;injection h with D h;injection h with L h;injection h with M h;injection h with N O;unfold r6;rw[d1,J,C,D,L,M,N,O];rfl
 clear hv;rcases hq:SI kd k wd st sd fr tt kd k' j l m r u with _|_
 .have F:=ae hq;have z:Hx (r6 kd k wd st sd fr tt S=false):=ae (by rw[y,hq];rfl);clear hq y;by_cases e:kd=15;(focus have B:=ae e;clear e;go_in;go_upto_region 1 with fail;refine aw ao (λb _=>?_);refine qL [0,1,2,3,4,5,6,7,8,9,10] ?_;refine aK 11 λK hK=>?_;go_simp;refine(wM B.o E).mono ?_);rotate_left;(focus have B:=ae e;clear e;go_in;go_upto_region 1 with fail;refine aw ao (λb _=>?_);refine qL [0,1,2,3,4,5,6,7,8,9,10] ?_;refine aK 11 λK hK=>?_;go_simp;refine(zv B.o E).mono ?_);all_goals rintro e b ⟨rfl,_⟩;dsimp only;refine aG hK<|aK 12 λK hK=>?_;go_simp;refine(Fw F).mono ?_;exact zCl
 have F:=ae hq;obtain⟨v,hv⟩:=lh (decide (S=uS kd S));have z:Hx (r6 kd k wd st sd fr tt S=v):=ae (by rw[y,hq,hv];rfl);clear hq y;by_cases e:kd=15;focus have I:Hx (decide (S=S)=v):=ae (by rw[<-hv,uS,ah e]);have B:=ae e;clear e hv;go_in;go_upto_region 1 with fail;refine aw ao (λb _=>?_);refine qL [0,1,2,3,4,5,6,7,8,9,10] ?_;refine aK 11 λK hK=>?_;go_simp;refine(wM B.o E).mono ?_;rintro e b ⟨rfl,_⟩;dsimp only;refine aG hK<|aK 12 λK hK=>?_;go_simp;refine(sr G G F I).mono ?_
 rotate_left;focus have I:Hx (decide (S=[])=v):=ae (by rw[<-hv,uS,ag e]);have B:=ae e;clear e hv;go_in;go_upto_region 1 with fail;refine aw ao (λb _=>?_);refine qL [0,1,2,3,4,5,6,7,8,9,10] ?_;refine aK 11 λK hK=>?_;go_simp;refine(zv B.o E).mono ?_;rintro e b ⟨rfl,_⟩;dsimp only;refine aG hK<|aK 12 λK hK=>?_;go_simp;refine(sr G (aM _) F I).mono ?_
 all_goals exact zCl
def gN(kd:Int):Int:=if kd=6\/kd=7 then 2 else 1
def i9(kd:Int):Int:=if kd=6\/kd=7 then 2 else if kd=13 then 8 else 1
def fv(kd:Int):Int:=if kd=8 then 2 else if kd=9\/kd=10 then 1 else 0
def yx(h:r6 kd k wd st sd fr tt S=true):1<=kd/\kd<=15:=by
 unfold r6 at h;simp only[bK,bZ]at h;exact⟨h.1.1.1,h.1.1.2⟩
def OV(h:Hx (1<=kd/\kd<=5)):() 213 #[kd] w (aJ w (1:Int)):=by
 have b:kd=1\/kd=2\/kd=3\/kd=4\/kd=5:=by have:=h.o;omega
 rcases b with rfl|rfl|rfl|rfl|rfl;all_goals go_in;go_wp2_with fail;go_ret;exact bB
def OW(h:Hx (kd=6\/kd=7)):() 213 #[kd] w (aJ w (2:Int)):=by
 rcases h.o with rfl|rfl;all_goals go_in;go_wp2_with fail;go_ret;exact bB
def zCm(h:Γ:=by go_ret2;exact⟨by rw[j.o.1,j.o.2];rfl,aF⟩):=h
def Fx[Sl w A n S](l:n<=1000000)(hb:r6 kd k wd st sd fr tt S=true):() 166 #[.agg (gM kd k wd st sd fr tt (A,n,p))] w (aJ w (.tuple #[.int .i64 (gN kd),.int .i64 (i9 kd)])):=by
 have B:=@ay;obtain⟨k1,y⟩:=yx hb;by_cases C:kd<=7
 .by_cases z:kd<=5
  .have j:Hx (gN kd=1/\i9 kd=1):=ae ⟨ag om,by unfold i9;rw[ag om,ag om]⟩;have m:Hx (1<=kd/\kd<=5):=ae ⟨k1,z⟩;go_in;go_wp2_with (first|(go_at_call 120;refine(fk l).mono ?_;rintro e u ⟨rfl,_⟩)|(go_at_call 213;refine(OV m).mono ?_;rintro e u ⟨rfl,_⟩));exact zCm
  have j:Hx (gN kd=2/\i9 kd=2):=ae ⟨ah om,ah om⟩;have m:Hx (kd=6\/kd=7):=ae om;go_in;go_wp2_with (first|(go_at_call 120;refine(fk l).mono ?_;rintro e u ⟨rfl,_⟩)|(go_at_call 213;refine(OW m).mono ?_;rintro e u ⟨rfl,_⟩));exact zCm
 by_cases b:kd=13;focus have j:Hx (gN kd=1/\i9 kd=8):=ae ⟨ag om,by unfold i9;rw[ag om,ah b]⟩;have r:(kd==13)=true:=by simpa using b
 rotate_left;focus have j:Hx (gN kd=1/\i9 kd=1):=ae ⟨ag om,by unfold i9;rw[ag om,ag b]⟩;have r:(kd==13)=false:=by simpa using b
 all_goals clear b;go_in;go_wp2_with (first|(go_at_call 120;refine(fk l).mono ?_;rintro e u ⟨rfl,_⟩));exact zCm
def zCf(h:Γ:=by go_in;go_wp2_with (first|(go_at_call 120;refine(fk j).mono ?_;rintro e u ⟨rfl,_⟩));go_ret;exact bB):=h
def KP[Sl w A n S](j:n<=1000000)(hb:r6 kd k wd st sd fr tt S=true):() 167 #[.agg (gM kd k wd st sd fr tt (A,n,p))] w (aJ w (fv kd:Int)):=by
 have z:=@ay;by_cases l:kd=8;subst l;exact zCf;by_cases m:kd=9;subst m;exact zCf;by_cases b:kd=10;subst b;exact zCf;have r:Hx (fv kd=0):=ae (by unfold fv;rw[ag l,ag om]);have B:(kd==8)=false:=by simpa using l
 have C:(kd==9)=false:=by simpa using m
 have y:(kd==10)=false:=by simpa using b
 clear l m b;go_in;go_wp2_with (first|(go_at_call 120;refine(fk j).mono ?_;rintro e u ⟨rfl,_⟩));go_ret;exact⟨by rw[r.o];rfl,aF⟩
def mA(kd k wd st sd fr tt:Int)(S:au)(np nx:Int):Int:=if r6 kd k wd st sd fr tt S then(if nx<gN kd\/i9 kd<nx\/np≠fv kd then 20 else 0)else 21
def zCg(h:Γ:=by go_in;go_wp2_with (first|(go_at_call 120;refine(fk b).mono ?_;rintro e u ⟨rfl,_⟩)|(go_at_call 166;refine(Fx b hb).mono ?_;rintro e u ⟨rfl,_⟩));go_ret;exact⟨by rw[j.o];rfl,aF⟩):=h
def KQ{np nx:Int}[Sl w A n S](b:n<=1000000):() 104 #[.agg (gM kd k wd st sd fr tt (A,n,p)),np,nx] w (aJ w (mA kd k wd st sd fr tt S np nx:Int)):=by
 have F:=@ay;rcases hb:r6 kd k wd st sd fr tt S with _|_
 .have j:Hx (mA kd k wd st sd fr tt S np nx=21):=ae (by unfold mA;rw[hb];rfl);go_in;go_wp2_with (first|(go_at_call 120;refine(fk b).mono ?_;rintro e u ⟨rfl,_⟩));go_ret;exact⟨by rw[j.o];rfl,aF⟩
 obtain⟨lo,y⟩:=lh (gN kd);obtain⟨hi,z⟩:=lh (i9 kd);obtain⟨l,B⟩:=lh (fv kd);have m:Hx (mA kd k wd st sd fr tt S np nx=if nx<lo\/hi<nx\/np≠l then 20 else 0):=ae (by unfold mA;rw[hb,y,z,B];rfl);by_cases C:nx<lo;have j:Hx (mA kd k wd st sd fr tt S np nx=20):=ae (by rw[m.o,ah (.inl C)]);exact zCg;by_cases D:hi<nx;have j:Hx (mA kd k wd st sd fr tt S np nx=20):=ae (by rw[m.o,ah (.inr (.inl D))]);exact zCg;by_cases r:np=l;focus have j:Hx (mA kd k wd st sd fr tt S np nx=0):=ae (by rw[m.o,ag om]);have E:(np !=l)=false:=by simpa using r
 rotate_left;focus have j:Hx (mA kd k wd st sd fr tt S np nx=20):=ae (by rw[m.o,ah (.inr (.inr r))]);have E:(np !=l)=true:=by simpa using r
 all_goals clear r;go_in;go_wp2_with (first|(go_at_call 120;refine(fk b).mono ?_;rintro e u ⟨rfl,_⟩)|(go_at_call 166;refine(Fx b hb).mono ?_;rintro e u ⟨rfl,_⟩)|(go_at_call 167;refine(KP b hb).mono ?_;rintro e u ⟨rfl,_⟩));go_ret;exact⟨by rw[j.o];rfl,aF⟩
def ch{np nx:Int}{v:Int}[Sl w A n S](b:n<=1000000)(hv:Hx (mA kd k wd st sd fr tt S np nx=v)):() 104 #[.agg (gM kd k wd st sd fr tt (A,n,p)),np,nx] w (aJ w v):=vw (KQ b) (by rw[hv.o])
def hn(l:au):Nat->Int
 |0=>-1
 |k+1=>if hn l k<0\/l.getD (hn l k).toNat 0<l.getD k 0 then(k:Int)else hn l k
def zy(l:au):Int:=hn l l.length
def pB{l:au}:∀{k:Nat},0<k->∃b:Nat,hn l k=(b:Int)/\b<k/\(∀i,i<k->l.getD i 0<=l.getD b 0)/\∀i,i<b->l.getD i 0<l.getD b 0
 |0,h=>absurd h om
 |k+1,_=>by unfold hn;by_cases m:k=0;subst m;refine⟨0,by simp[hn],om,λi hi=>?_,λi hi=>om⟩;obtain rfl:i=0:=om;exact eI _;have⟨b,e,hb,h1,h2⟩:=pB (l:=l) (k:=k) om;rw[e];simp only[aZ];split;rename_i hc;(have hc:l.getD b 0<l.getD k 0:=by rcases hc with hc|hc;omega;exact hc);refine⟨k,rfl,om,λi hi=>?_,λi hi=>?_⟩;by_cases j:i=k;subst j;exact eI _;have:=h1 i om;omega;have:=h1 i om;omega;rename_i hc;have hc:¬l.getD b 0<l.getD k 0:=λh=>hc (.inr h);refine⟨b,rfl,om,λi hi=>?_,h2⟩;by_cases j:i=k;subst j;omega;exact h1 i om
def Fy:List Int->Int
 |[]=>0
 |x::l=>l.foldl max x
def xn(l:au):∀x:Int,(l.foldl max x=x\/l.foldl max x∈l)/\x<=l.foldl max x/\∀y∈l,y<=l.foldl max x:=by
 induction l with
 |nil=>intro x;exact⟨.inl rfl,eI _,λy hy=>by cases hy⟩
 |cons a l b=>intro x;have⟨h1,h2,h3⟩:=b (max x a);simp only[jD];refine⟨?_,om,λy hy=>?_⟩;rcases h1 with h1|h1;rcases Int.le_total x a with h|h;right;rw[h1];rw[show max x a=a from om];exact cm;left;rw[h1];omega;exact .inr (dp _ h1);rcases cw.1 hy with rfl|hy;omega;exact h3 y hy
def C5{l:au}(h:l≠[]):Fy l∈l/\∀y∈l,y<=Fy l:=by
 cases l with
 |nil=>exact absurd rfl h
 |cons x l=>have⟨h1,h2,h3⟩:=xn l x;refine⟨?_,λy hy=>?_⟩;rcases h1 with h1|h1;show l.foldl max x∈x::l;rw[h1];exact cm;exact dp _ h1;rcases cw.1 hy with rfl|hy;exact h2;exact h3 y hy
def OX{l:au}{m:Int}(e:m∈l)(j:∀y∈l,y<=m):m=Fy l:=by
 have b:l≠[]:=by rintro rfl;cases e
 have⟨g1,g2⟩:=C5 b;have:=j _ g1;have:=g2 _ e;omega
def zz{l:au}(h:l≠[]):∃b:Nat,zy l=(b:Int)/\b<l.length/\l[b]?=some (Fy l):=by
 obtain⟨b,e,hb,j,-⟩:=pB (l:=l) (k:=l.length) (MH.2 h);refine⟨b,e,hb,?_⟩;have g:l.getD b 0=l[b]:=by simp[aQ,hb]
 have:l[b]=Fy l:=OX (o0 hb) λy m=>by obtain⟨i,hi,rfl⟩:=List.mem_iff_getElem.1 m;have:=j i hi;rw[g]at this;simpa[aQ,hi]using this
 rw[a5 hb,this]
def jS(v:List Int->Int)(xs:au)(Z n step W m:Nat):List Int:=(List.range m).map λi=>v ((xs.drop (i/n*Z+i%n*step)).take W)
def iN(v:List Int->Int)(xs:au)(Z n step W m:Nat):(jS v xs Z n step W m).length=m:=by simp[jS]
def HG(v:List Int->Int)(xs:au)(Z n step W m:Nat):jS v xs Z n step W (m+1)=jS v xs Z n step W m++[v ((xs.drop (m/n*Z+m%n*step)).take W)]:=by simp[jS,g5]
section
variable{P:Program}{c d f m:Nat}{args:Array Value}{v:Value}{V xs zs:List Int}{B C D:Option Addr}
def cu{b:Value}(h:Calls P f args w (aJ w v))(e:v=b):Calls P f args w (aJ w b):=e▸h
def gO(h:ap zs xs=true):xs.length<=65536/\1<=xs.length/\zs.length<=4:=by
 have⟨h1,h2⟩:=(aN _ _).1 h;have⟨n,hn,h3,h4⟩:=cP h1;have⟨_,h5,_,_⟩:=(a2 _).1 h1;omega
def rK(h:ap zs xs=true)(b:ap zs V=true):xs.length=V.length:=by
 have e:=((aN _ _).1 h).2;have j:=((aN _ _).1 b).2;omega
def ku[Sl w A n zs][Sl w B m zs](b:n<=1000000)(hm:m<=1000000):() 70 #[(A,n,c),(B,m,d)] w (aJ w (.bool true)):=cu (f9 b hm) aD
end
variable{B:Option Addr}{c d m:Nat}{xs zs:List Int}
def zCk(h:Γ:=by go_wp2;go_round;(case rel=>exact⟨k+1,om,by go_num,by rw[I.o]⟩);case measure=>exact nT):=h
def SM[a:Sl w A n zs](N:n<=1000000):() 175 #[(A,n,c)] w (aJ w (zy zs:Int)):=by
 obtain⟨a,rfl⟩:=a;have a:Sl w A zs zs:=⟨a,rfl⟩;go_in;go_wp2_with fail;go_loop [3,8] (λb i=>∃k:Nat,k<=zs.length/\i=.int .i64 k/\b=.int .i64 (hn zs k)) (λ_ i=>zs.length-(intOf i).toNat);case atStart=>exact⟨0,aM _,rfl,rfl⟩
 case round=>
  obtain⟨k,O,rfl,rfl⟩:=hrel;by_cases D:k<zs.length
  .obtain⟨b,off,z,rfl,ob,J,K⟩:=a.get D;by_cases E:k=0
   .subst E;simp only[ef]at J;rw[show hn zs 0= -1 from rfl];go_wp2;go_round;(case rel=>exact⟨1,om,rfl,by simp[hn]⟩);case measure=>exact nT
   obtain⟨j,e,P,Q,R⟩:=pB (l:=zs) (k:=k) om;have F:j<zs.length:=om;have⟨b2,C6,y,r,jU,hcy,hy⟩:=a.get F;injection r with r;injection r with r G;subst r G;(have u:hn zs (k+1)=if y<z then(k:Int)else(j:Int):=by (have L:zs.getD j 0=y:=by rw[aQ,hy.o];rfl);(have M:zs.getD k 0=z:=by rw[aQ,K.o];rfl);rw[hn,e,aZ,L,M];by_cases h:y<z;rw[ah (.inr h),ah h];rw[ag om,ag h]);rw[e];by_cases C:y<z;have I:Hx (hn zs (k+1)=(k:Int)):=ae (by rw[u,ah C]);exact zCk;have I:Hx (hn zs (k+1)=(j:Int)):=ae (by rw[u,ag C]);exact zCk
  obtain rfl:k=zs.length:=om;go_wp2;go_ret;exact bB
variable{Z:Nat}
def rL{W S:Nat}(h:f7 (Z:Int) (W:Int) (S:Int)=true):∃n:Nat,kT (Z:Int) (W:Int) (S:Int)=(n:Int)/\1<=n/\1<=W/\1<=S/\W<=1024/\S<=1024/\Z<=1024/\(∀j,j<n->j*S+W<=Z)/\Z<n*S+W/\n<=Z:=by
 have e:=h;simp only[f7,bK,bZ,pc]at h;have⟨h1,h2,h3,h4,h5,h6,h7⟩:=h;have hS:0<S:=om;refine⟨1+(Z-W)/S,?_,Nat.le_add_right _ _,om,om,om,om,om,λj m=>?_,?_,?_⟩;rw[kT,ah e,show(Z:Int)-(W:Int)=((Z-W:Nat):Int)from om,<-ym,ee];rfl;have l:j*S<=(Z-W)/S*S:=cU _ om;have b:=Nat.div_mul_le_self (Z-W) S;omega;have l:=Nat.div_add_mod (Z-W) S;have b:=Nat.mod_lt (Z-W) hS;rw[hx,tG ((Z-W)/S) S];omega;have b:=tL (Z-W) S;omega
variable{V gs:List Int}{S kind:Int}{R i k:Nat}
def dS(zs:au):Int:=zs.getD (zs.length-1) 0
def sU(zs:au)(W S:Int):Int:=if aA zs then jh (dS zs) W S else 20
def sV(zs:au)(W S:Int):List Int:=if aA zs&&f7 (dS zs) W S then zs.set (zs.length-1) (kT (dS zs) W S)else[]
structure PW(zs V:List Int)(R Z n W S:Nat):Prop where
 right:aA zs=true
 at_:zs[zs.length-1]?=some (Z:Int)
 len:1<=zs.length
 v:V=zs.set (zs.length-1) (n:Int)
 Nn:aA V=true
 size:ax zs=((R*Z:Nat):Int)
 vx:ax V=((R*n:Nat):Int)
 R1:1<=R
 n1:1<=n
 W1:1<=W
 S1:1<=S
 W2:W<=1024
 S2:S<=1024
 Z2:Z<=1024
 fit:∀j,j<n->j*S+W<=Z
 ZL:Z<n*S+W
 small:R*Z<=65536
 nZ:n<=Z
 pl:sV zs (W:Int) (S:Int)=V
def PW.of{W:Int}(h:sU zs W S=0):∃R Z n l m:Nat,W=(l:Int)/\S=(m:Int)/\PW zs (sV zs W S) R Z n l m:=by
 unfold sU at h;split at h
 .rename_i hr;obtain⟨r1,C,y,D⟩:=(a2 zs).1 hr;obtain⟨P,I,Z,b⟩:=JW.of hr (show zs.length-1<zs.length by omega);(have B:dS zs=(Z:Int):=by rw[dS,aQ,b.at_];rfl);(have j:f7 (dS zs) W S=true:=by unfold jh at h;split at h;assumption;omega);have r:=j;simp only[f7,bK,bZ,pc]at r;obtain⟨l,rfl⟩:=bJ (show 0<=W by omega);obtain⟨m,rfl⟩:=bJ (show 0<=S by omega);rw[B]at j;have⟨n,e,n1,w1,s1,w2,s2,z2,fit,ZL,nZ⟩:=rL j;(have E:I=1:=by have:=b.behind;rw[eF om]at this;simp[ax]at this;omega);subst E;(have hv:sV zs l m=zs.set (zs.length-1) (n:Int):=by rw[sV,B,j,hr];simp[e]);(have z:ax zs=((P*Z:Nat):Int):=by rw[iq b.at_,b.ahead,b.behind];simp);(have u:ax (zs.set (zs.length-1) (n:Int))=((P*n:Nat):Int):=by rw[py _ om,b.ahead,b.behind];simp);have F:P*n<=P*Z:=fS _ nZ;refine⟨P,Z,n,l,m,rfl,rfl,⟨hr,b.at_,r1,hv,?_,z,by rw[hv,u],b.p1,n1,w1,s1,w2,s2,z2,fit,ZL,om,nZ,rfl⟩⟩;rw[hv,a2];exact⟨by simpa using r1,by simpa using C,px y _ om om,by rw[u];omega⟩
 omega
section
variable{W S:Nat}
def PW.none(h:PW zs V R Z n W S):sU zs W S=0:=by
 have b:dS zs=(Z:Int):=by rw[dS,aQ,h.at_];rfl
 have:=h.fit 0 h.n1;have e:=h.Z2;have j:=h.W1;have l:=h.W2;have m:=h.S1;have r:=h.S2;rw[sU,ah h.right,b,jh,ah];simp only[f7,bK,bZ];omega
def PW.Cc(h:PW zs V R Z n W S)(hi:i<R*n):i/n<R/\i%n<n/\i%n*S+W<=Z/\i/n*Z+i%n*S+W<=R*Z:=by
 have j:0<n:=h.n1;have b:i/n<R:=Nat.div_lt_of_lt_mul (by rw[tG];exact hi);have e:=Nat.mod_lt i j;have l:=h.fit _ e;have m:(i/n+1)*Z<=R*Z:=cU _ b;rw[d5]at m;exact⟨b,e,l,om⟩
end
def tab(N:Nat)(F:Nat->Int):List Int:=(List.range N).map F
section
variable{N:Nat}{F G:Nat->Int}
def gq:(tab N F).length=N:=by simp[tab]
def uo(h:k<N):(tab N F)[k]?=some (F k):=by rw[tab,bf,ih h];rfl
def mB(h:∀q,q<N->F q=G q):tab N F=tab N G:=iA λq hq=>h q (iU.1 hq)
def HH(k)(z):(tab N F).set k z=tab N λq=>if q=k then z else F q:=by
 apply fZ;intro q;rw[iD];by_cases hq:q<N;rw[uo hq,uo hq];by_cases b:k=q;subst b;rw[ah rfl,ah (by rw[gq];exact hq),ah rfl];rw[ag b,ag (dO b)];have e:(tab N F)[q]?=none:=fc (by rw[gq];omega);have j:(tab N λq=>if q=k then z else F q)[q]?=none:=fc (by rw[gq];omega);rw[e,j,gq];by_cases b:k=q;subst b;rw[ah rfl,ag hq];rw[ag b]
def OY:tab N (λ_=>0)=List.replicate N 0:=by rw[tab,List.map_const',List.length_range]
end
def ib(b:Int)(W:Nat)(l:au):Int:=if b=1 then Fy l else fdiv (oC l) (mn W)
def SN(b:Int)(W:Nat)(l:au)(f q:Nat):Bool:=if b=1 then decide (q=f+(zy ((l.drop f).take W)).toNat)else decide (f<=q)&&decide (q<f+W)
def KR(b:Int)(W:Nat)(y:Int):Int:=if b=1 then y else fdiv y (mn W)
def jV(b:Int)(xs gs:au)(Z n S W:Nat):Nat->Nat->Int
 |0,_=>0
 |i+1,q=>if SN b W xs (i/n*Z+i%n*S) q then bQ (jV b xs gs Z n S W i q) (KR b W (gs.getD i 0))else jV b xs gs Z n S W i q
section
variable{P:Program}{b off:Nat}
def OZ(t:TypeId)(ht:P.underlying t=some (.slice (P.elem t)))(hs:(P.info? (P.elem t)).map (·.size)=some 1)(b off m d lo hi:Nat)(i j:Int)(r:i=(lo:Int))(u:j=(hi:Int))(y:lo<=hi)(z:hi<=m)(B:m<=d)(C:lo<d):
  ∀w,(Instr.slice t (.slice (some ⟨b,off,none⟩) m d) (some (.int .i64 i)) (some (.int .i64 j)) none).run P w=.ok (.slice (some ⟨b,off+lo,none⟩) (hi-lo) (d-lo)) w:=by
 subst r u;intro w;rw[kJ w t _ m d ht .i64 .i64 lo hi om om om,h1 hs];have e:d≠lo:=om;by_cases l:lo=0;subst l;simp[Result.andThen,sliced,Addr.add,e];simp[Result.andThen,sliced,Addr.add,e,l]
theorem Sl.part(h:Sl w (some ⟨b,off,none⟩) m xs){F W:Nat}(hF:F+W<=m):Sl w (some ⟨b,off+F,none⟩) W ((xs.drop F).take W):=by
 refine⟨λj z l=>?_,by have:=h.len;simp;omega⟩;rw[eG]at l;split at l;rw[fb]at l;obtain⟨D,r,e,hb,u⟩:=h.rd _ z l;injection e with e;injection e with y C;subst y;subst C;exact⟨b,off+F,rfl,hb,by rw[lM];exact u⟩;cases l
def pC{P N W S F:Nat}(hm:m<=65536)(hd:m<=d)(hF:Hx (P/N*Z+P%N*S=F))(hN:1<=N)(C:N<=1024)(hP:P<=65536)(J:1<=W)(j:F+W<=m):
  () 174 #[.slice (some ⟨b,off,none⟩) m d,P,Z,N,W,S] w (aJ w (.slice (some ⟨b,off+F,none⟩) W (d-F))):=by
 obtain⟨q,hq⟩:=lh (P/N);obtain⟨r,hr⟩:=lh (P%N);have e:=hF.o;rw[hq,hr]at e;obtain⟨x,u⟩:=lh (q*Z);obtain⟨y,z⟩:=lh (r*S);rw[u,z]at e;have D:q<=P:=hq▸tL _ _;have E:x<=65536:=om;have G:y<=65536:=om;have m1:(P:Int)/(N:Int)=(q:Int):=by rw[<-ym,hq]
 have K:¬N=0:=om;have I:IntKind.i64.wrap (q:Int)=(q:Int):=hD _ om;have L:(P:Int).tmod (N:Int)=(r:Int):=by rw[Int.tmod_eq_emod_of_nonneg (by omega),<-Int.natCast_emod,hr]
 have M:IntKind.i64.wrap ((q:Int)*(Z:Int))=(x:Int):=by rw[<-b8,u];exact hD _ (by omega)
 have m4:IntKind.i64.wrap ((r:Int)*(S:Int))=(y:Int):=by rw[<-b8,z];exact hD _ (by omega)
 have O:IntKind.i64.wrap ((x:Int)+(y:Int))=(F:Int):=by rw[<-ee,e];exact hD _ (by omega)
 have l:=OZ (P:=prog) 26 ao ao b off m d F (F+W) (F:Int) ((F:Int)+(W:Int)) rfl om om j hd om;rw[tE]at l;go_in;go_wp2;refine aw ao (λQ _=>?_);refine qL [0,1,2,3,4,5,6,7,8,9,10,11] ?_;refine a9 ?_;go_wp2;go_ret;exact bB
def rM[a:Sl w A n zs](e:n<=1000000):() 119 #[(A,n,c)] w (aJ w (.bool (aA zs))):=by
 obtain⟨a,rfl⟩:=a;exact(dq A c zs w e a).mono λ_ _ ⟨j,hb⟩=>⟨j,⟨hb⟩⟩
def zA{a b c:Int}:() 190 #[a,b,c] w (aJ w (.tuple #[.int .i64 (kT a b c),.int .i64 (jh a b c)])):=kW (yR a b c w)
def aaB(w:aa)(zs:au)(e:Ending)(w':aa):Prop:=
 ∃g,e=.returned (.slice (some ⟨g,0,none⟩) zs zs.length)/\w.1.size<=g/\Own w' g 3 zs/\aj w' w
def C7[a:Sl w A n zs](e:n<=1000000):() 103 #[(A,n,c)] w (aaB w zs):=by
 obtain⟨a,rfl⟩:=a;exact(mj A c zs w e a).mono λ_ _ ⟨g,j,hg,l,hb⟩=>⟨g,j,hg,l,⟨hb⟩⟩
def zCj(h:Γ:=by go_ret2;exact⟨none,0,rfl,Sl.empty,⟨al _⟩,bG.none,aF⟩):=h
def wN[a:Sl w A n zs](O:n<=1000000){W:Int}(hE:Hx (sU zs W S=E))(hV:Hx (sV zs W S=V)):
  () 127 #[(A,n,c),W,S] w (jP w V E):=by
 obtain⟨a,rfl⟩:=a;have a:Sl w A zs zs:=⟨a,rfl⟩;have P:=@bW;rcases hr:aA zs with _|_
 .obtain rfl:E=20:=by rw[<-hE.o,sU,hr];rfl
  obtain rfl:V=[]:=by rw[<-hV.o,sV,hr];rfl
  go_in;go_wp2_with (go_at_call 119;refine mv (rM om) λu _=>?_);exact zCj
 obtain⟨r1,Q,-,-⟩:=(a2 zs).1 hr;obtain⟨R,T,z,rfl,I,J,K⟩:=a.get (k:=zs.length-1) om;have y:dS zs=z:=by rw[dS,aQ,K.o];rfl
 have m1:((zs.length:Int)-1)=((zs.length-1:Nat):Int):=om;obtain⟨k,F⟩:=lh (zs.length-1);rw[F]at m1 J;have C:k<zs.length:=om;rcases ho:f7 z W S with _|_
 .have D:jh z W S=11:=by simp[jh,ho]
  obtain rfl:E=11:=by rw[<-hE.o,sU,ah hr,y,D]
  obtain rfl:V=[]:=by rw[<-hV.o,sV,y,ho];simp
  go_in;go_wp2_with (first|(go_at_call 119;refine mv (rM om) λu _=>?_)|(go_at_call 190;refine mv (zA) λu _=>?_));exact zCj
 have D:jh z W S=0:=by simp[jh,ho]
 obtain⟨v,hv⟩:=lh (kT z W S);obtain rfl:E=0:=by rw[<-hE.o,sU,ah hr,y,D]
 have j:Hx (zs.set k v=V):=ae (by rw[<-hV.o,sV,y,ho,hr,F,hv];rfl);go_in;go_wp2_with (first|(go_at_call 119;refine mv (rM om) λu _=>?_)|(go_at_call 190;refine mv (zA) λu _=>?_));refine(C7 om).mono ?_;rintro e L ⟨g,rfl,hg,oS,_⟩;have M:=oS.cell (a5 C);have N:=oS.frozen k;go_wp2;go_ret2;have l:w.1.size<=g:=aL (ai (w:=w) (w':=u)) hg;have G:=oS.av k v;rw[j.o]at G;have r:V.length=zs.length:=by rw[<-j.o,d3]
 rw[<-r];exact⟨_,_,rfl,⟨G.rd,rfl⟩,⟨al _⟩,⟨λU e=>by cases e;exact l⟩,⟨(aP w L).setCell (p:=⟨g,k,none⟩) l _⟩⟩
def Fz(e:Int)(zs xs:au)(W S:Int):Int:=if e≠1/\e≠2 then 21 else if ap zs xs then sU zs W S else 20
def HI(e:Int)(zs xs:au)(W S:Int):List Int:=if Fz e zs xs W S=0 then sV zs W S else[]
def Xw{zs:au}{W:Int}(h:¬sU zs W S=0):sV zs W S=[]:=by
 unfold sU at h;unfold sV;split at h
 .rename_i hr;unfold jh at h;split at h;omega;rename_i e;simp[e]
 rename_i hr;simp[hr]
def C8[Sl w A n zs][Sl w B m xs](K:n<=1000000){W:Int}(hE:Hx (Fz z zs xs W S=E))(hV:Hx (HI z zs xs W S=V)):
  () 173 #[z,.agg #[(A,n,c),(B,m,d)],W,S] w (jP w V E):=by
 have L:=@ay;by_cases l:z≠1/\z≠2
 .obtain rfl:E=21:=by rw[<-hE.o,Fz,ah l]
  obtain rfl:V=[]:=by rw[<-hV.o,HI,hE.o];simp
  have k1:(z !=1)=true:=by simpa using l.1
  have k2:(z !=2)=true:=by simpa using l.2
  go_in;go_wp2;exact zCj
 have M:=ae l;rcases hr:ap zs xs with _|_
 .obtain rfl:E=20:=by rw[<-hE.o,Fz,ag l,hr];rfl
  obtain rfl:V=[]:=by rw[<-hV.o,HI,hE.o];simp
  have j:z=1\/z=2:=om;rcases j with rfl|rfl;rotate_left;all_goals go_in;go_wp2_with (go_at_call 69;refine mv (bD om) λu _=>?_);exact zCj
 have r:Hx (sU zs W S=E):=ae (by rw[<-hE.o,Fz,ag l,hr];rfl);have y:Hx (sV zs W S=V):=ae (by
  rw[<-hV.o,HI,hE.o]
  split
  .rfl
  .rename_i C;exact Xw (by rw[r.o];exact C))
 have j:z=1\/z=2:=om;rcases j with rfl|rfl;rotate_left;all_goals go_in;go_wp2_with (first|(go_at_call 69;refine mv (bD om) λu _=>?_)|(go_at_call 127;refine(wN om r y).mono ?_;rintro e u ⟨D,F,rfl,G,I,J,_⟩));go_ret2;exact⟨D,F,rfl,G,I,J.less ai,aF⟩
end
variable{w':World}{C:Option Addr}{e:Nat}{ss:List Sp}{L:List (List Int)}
def iG(p b x:au):Bool:=decide (p.length=2)&&decide (b.length=1)&&decide (b.getD 0 0=p.getD 0 0)&&aA x&&decide (ax x=p.getD 1 0)
def mC(p b x:au):List Int:=if iG p b x then[p.getD 0 0]else[]
def mD(p b x:au):Int:=if iG p b x then 0 else 20
def HJ(L:f0):Bool:=L.all λz=>decide (z=L.headD [])
def oI(L:f0):List Int:=if HJ L then L.headD []else[]
def oJ(L:f0):Int:=if HJ L then 0 else 20
variable{N:Nat}{ps bs:List Int}
def Sl.two(h:Sl w A n ps)(G:n=2):∃b o z0 z1,A=some ⟨b,o,none⟩/\Old b w/\w.cell? (b,o)=some (.int .i64 z0)/\w.cell? (b,o+1)=some (.int .i64 z1)/\Hx (ps=[z0,z1]):=by
 obtain⟨b,o,z0,rfl,ob,v0,r⟩:=h.get (k:=0) om;obtain⟨I,J,z1,e,u,y,z⟩:=h.get (k:=1) om;injection e with e;injection e with D F;subst D F;have j:=h.len;refine⟨b,o,z0,z1,rfl,ob,v0,y,ae ?_⟩;match ps,j,r.o,z.o with
 |[a,b],_,h0,h1=>simp at h0 h1;rw[h0,h1]
 |[],j,_,_=>simp at j;omega
 |[a],j,_,_=>simp at j;omega
 |a::b::c::l,j,_,_=>simp at j;omega
def Sl.one(h:Sl w A n ps)(u:n=1):∃b o z0,A=some ⟨b,o,none⟩/\Old b w/\w.cell? (b,o)=some (.int .i64 z0)/\Hx (ps=[z0]):=by
 obtain⟨b,o,z0,rfl,ob,v0,r⟩:=h.get (k:=0) om;have j:=h.len;refine⟨b,o,z0,rfl,ob,v0,ae ?_⟩;match ps,j,r.o with
 |[a],_,h0=>simp at h0;rw[h0]
 |[],j,_=>simp at j;omega
 |a::b::l,j,_=>simp at j;omega
def zCe(h:Γ:=by go_in;go_upto_region 1 with fail;refine aw ao (λD _=>?_);refine qL [0,1,2,3,4,5,6,7,8,9,10,11,12,13,14,15,16] ?_;refine a9 ?_;go_wp2_with (first|(go_at_call 73;refine(h5 om I l).mono ?_;rintro e u ⟨rfl,_⟩));go_ret2;exact⟨none,0,rfl,Sl.empty,Le.same _,bG.none,aF⟩):=h
def zCi(h:Γ:=by refine a9 ?_;go_wp2_with fail;go_ret2;exact⟨none,0,rfl,Sl.empty,Le.same _,bG.none,aF⟩):=h
def O0[a:Sl w A n ps][b:Sl w B m bs][Sl w C k xs](U:k<=1000000)(hV:Hx (mC ps bs xs=V))(hE:Hx (mD ps bs xs=E)):
  () 124 #[(A,n,c),(B,m,d),.slice C k e] w (jP w V E):=by
 have X:=@bW;have L:=ae a.len;have M:=ae b.len;have no:∀(hb:iG ps bs xs=false),V=[]/\E=20:=λhb=>by rw[<-hV.o,<-hE.o,mC,mD,hb];exact⟨rfl,rfl⟩
 by_cases r:n=2;rotate_left
 .obtain⟨rfl,rfl⟩:=no (by unfold iG;rw[gD (by rw[<-L.o];exact r)];rfl);(have O:((n:Int) !=2)=true:=by rw[tS];omega);clear r;go_in;go_upto_region 1 with fail;refine aw ao (λD _=>?_);refine qL [0,1,2,3,504,505,506,7,8,509,510,511,512,513,514,515,16] ?_;exact zCi
 have O:((n:Int) !=2)=false:=by simp;omega
 obtain⟨Y,Z,z0,z1,rfl,P,v0,v1,K⟩:=a.two r;by_cases F:m=1;rotate_left
 .obtain⟨rfl,rfl⟩:=no (by unfold iG;rw[gD (show¬bs.length=1 from by rw[<-M.o];exact F)];simp);(have Q:((m:Int) !=1)=true:=by rw[tS];omega);clear F r;go_in;go_upto_region 1 with fail;refine aw ao (λD _=>?_);refine qL [0,1,2,3,4,5,6,7,8,509,510,511,512,513,514,515,16] ?_;exact zCi
 have Q:((m:Int) !=1)=false:=by simp;omega
 obtain⟨b8,o8,G,rfl,R,u0,S⟩:=b.one F;have j:iG ps bs xs=(decide (G=z0)&&aA xs&&decide (ax xs=z1)):=by unfold iG;rw[K.o,S.o];rfl
 by_cases y:G=z0;rotate_left
 .obtain⟨rfl,rfl⟩:=no (by rw[j,gD y];rfl);(have J:(G !=z0)=true:=by rw[tS];exact y);have n1:0<n:=om;have m1:0<m:=om;clear y j no F r;go_in;go_upto_region 1 with fail;refine aw ao (λD _=>?_);refine qL [0,1,2,3,4,5,6,7,8,9,10,11,12,13,14,15,16] ?_;exact zCi
 have J:(G !=z0)=false:=by simp[y]
 rw[gC y,EJ]at j;have n2:1<n:=om;have n1:0<n:=om;have m1:0<m:=om;clear y F r;rcases hr:aA xs with _|_;obtain⟨rfl,rfl⟩:=no (by rw[j,hr];rfl);have I:Hx (bz xs=0):=ae (by rw[bz,hr];rfl);have l:Hx (cA xs=20):=ae (by rw[cA,hr];rfl);clear hr j no;exact zCe;obtain⟨q,hq⟩:=lh (ax xs);have I:Hx (bz xs=q):=ae (by rw[bz,hr,hq];rfl);have l:Hx (cA xs=0):=ae (by rw[cA,hr];rfl);rw[hr,hq,EJ]at j;by_cases z:q=z1
 .obtain⟨rfl,rfl⟩:V=[z0]/\E=0:=by rw[<-hV.o,<-hE.o,mC,mD,j,gC z,K.o];exact⟨rfl,rfl⟩
  have T:(q !=z1)=false:=by simp[z]
  clear z hr j no hq;go_in;go_upto_region 1 with fail;refine aw ao (λD _=>?_);refine qL [0,1,2,3,4,5,6,7,8,9,10,11,12,13,14,15,16] ?_;refine a9 ?_;go_wp2_with (first|(go_at_call 73;refine(h5 om I l).mono ?_;rintro e u ⟨rfl,_⟩));go_ret2;have:w.1.size<=u.1.size:=ai;exact⟨some ⟨u.1.size,0,none⟩,1,rfl,(Sl.yS:Sl _ _ 1 [z0]),⟨aD⟩,⟨λad e=>by injection e with e;subst e;exact this⟩,aF⟩
 obtain⟨rfl,rfl⟩:=no (by rw[j,gD z]);have T:(q !=z1)=true:=by rw[tS];exact z
 clear z hr j no hq;exact zCe
def aaC{z0:au}(h:L[0]?=some z0):HJ L=L.all λz=>decide (z=z0):=by
 cases L with
 |nil=>cases h
 |cons a l=>injection h with h;subst h;rfl
def Xx{z0:au}(h:L[0]?=some z0):L.headD []=z0:=by
 cases L with
 |nil=>cases h
 |cons a l=>injection h
def vy{α:Type}{f:α->Bool}{l:List α}{k:Nat}{x:α}(h:l[k]?=some x)(b:f x=false):l.all f=false:=by
 rw[rz];exact⟨x,aC h,by simp[b]⟩
def pD{α:Type}{f:α->Bool}{l:List α}{k:Nat}{x:α}(h:(l.take k).all f=true)(b:l[k]?=some x)(j:f x=true):(l.take (k+1)).all f=true:=by
 rw[jC,yf,h,b];simp[j]
def vz{α:Type}{f:α->Bool}{l:List α}{k:Nat}(h:(l.take k).all f=true)(b:l.length<=k):l.all f=true:=by rwa[bY b]at h
def HK[a:dZ w B n ss][le:Le n c](h1:1<=n)(hn:n<=1000000)(O:Hx (∀z∈aS ss,aA z=true))(hV:Hx (oI (aS ss)=V))(hE:Hx (oJ (aS ss)=E)):
  () 125 #[(B,n,c)] w (jP w V E):=by
 have CP:=@bW;have U:=le.le;have X:Hx (n=(aS ss).length):=ae (a.len.trans cX.symm);obtain⟨b,o,Y,P,c0,z0,rfl,ob,v0,Z,_,D⟩:=a.get (k:=0) om;have m4:P<=4:=by rw[Z.len];exact cG (O.o _ (h8 D.o))
 have Q:=ae (aaC D.o);have v0':w.cell? (b,o)=some (.slice Y P c0):=v0;clear v0;obtain⟨l,rfl⟩:∃l,n=l+1:=⟨n-1,om⟩;obtain⟨A',ko,R⟩:=un b o l c U;have HA:=ae R;clear R;go_in;go_wp2_with fail;go_loopw [9] (λi wr=>∃j:Nat,j<=l/\i=.int .i64 j/\Hx (((aS ss).take (j+1)).all (λz=>decide (z=z0))=true)/\aj wr w) (λi _=>l-(intOf i).toNat);case atStart=>exact⟨0,aM _,rfl,ae (pD (k:=0) rfl D.o (gC rfl)),aF⟩
 case round=>
  obtain⟨j,hj,rfl,S,hp⟩:=hrel;by_cases bE:j<l
  .obtain rfl:=HA.o om;obtain⟨b',o',A1,m1,c1,z1,G,I,T,s1,_,r⟩:=a.get (k:=j+1) om;injection G with G;injection G with J K;subst J K;(have O1:w.cell? (b,o+1+j)=some (.slice A1 m1 c1):=by rw[show o+1+j=o+(j+1)from om];exact T);(have HL:m1<=4:=by rw[s1.len];exact cG (O.o _ (h8 r.o)));clear T I;by_cases F:z1=z0
   .have y:Hx (decide (z1=z0)=true):=ae (gC F);have L:=ae (pD S.o r.o y.o);clear F r;go_wp2_with (go_at_call 70;refine mv (sT om om y) λu _=>?_);go_roundw;(case rel=>exact⟨j+1,om,by go_num,L,aF⟩);case measure=>exact nT
   have y:Hx (decide (z1=z0)=false):=ae (gD F);have M:Hx (HJ (aS ss)=false):=ae (by rw[Q.o];exact vy r.o y.o);(obtain⟨rfl,rfl⟩:V=[]/\E=20:=by rw[<-hV.o,<-hE.o,oI,oJ,M.o];exact⟨rfl,rfl⟩);clear F r;go_wp2_with (go_at_call 70;refine mv (sT om om y) λu _=>?_);go_ret2;exact⟨none,0,rfl,Sl.empty,Le.same _,bG.none,aF⟩
  have M:Hx (HJ (aS ss)=true):=ae (by rw[Q.o];exact vz S.o (by rw[<-X.o];omega));(obtain⟨rfl,rfl⟩:V=z0/\E=0:=by rw[<-hV.o,<-hE.o,oI,oJ,M.o,Xx D.o];exact⟨rfl,rfl⟩);go_wp2_with (first|(go_at_call 103;refine(k3 om).mono ?_;rintro e u ⟨gS,rfl,sS,fS,_⟩));go_ret2;exact⟨some ⟨gS,0,none⟩,_,rfl,sS,Le.same _,fS.less ai,aF⟩
def ez[Sl w A n ps](b:n<=1000000){v e:Int}(hv:Hx (bz ps=v/\cA ps=e)):() 73 #[(A,n,c)] w (aJ w (.tuple #[v,e])):=h5 b (ae hv.o.1) (ae hv.o.2)
def up(xs ps:au):Int:=if aA xs then(if aA ps then(if ax ps=ax xs then 0 else 20)else 20)else 20
def zB(xs ps:au):List Int:=if up xs ps=0 then ps else[]
def zCc(h:Γ:=by go_in;go_wp2_with (first|(first|(go_at_call 73;refine(ez y z).mono ?_;rintro e u ⟨rfl,_⟩))|(first|(go_at_call 73;refine(ez hm D).mono ?_;rintro e u ⟨rfl,_⟩)));go_ret2;exact⟨none,0,rfl,Sl.empty,Le.same _,bG.none,aF⟩):=h
def KS[Sl w A n xs][Sl w B m ps](y:n<=1000000)(hm:m<=1000000)(hV:Hx (zB xs ps=V))(hE:Hx (up xs ps=E)):
  () 130 #[(A,n,c),(B,m,d)] w (jP w V E):=by
 have no:up xs ps=20->V=[]/\E=20:=λh=>by rw[<-hV.o,<-hE.o,zB,h];exact⟨rfl,rfl⟩
 obtain⟨l,ex,b⟩:∃v e,bz xs=v/\cA xs=e:=⟨_,_,rfl,rfl⟩;obtain⟨r,I,hp⟩:∃v e,bz ps=v/\cA ps=e:=⟨_,_,rfl,rfl⟩;have z:=ae b;have D:=ae hp;rcases r1:aA xs with _|_;obtain⟨rfl,rfl⟩:=no (by rw[up,r1];rfl);obtain rfl:ex=20:=by rw[<-b.2,cA,r1];rfl
 clear b hp r1 no;exact zCc;obtain rfl:ex=0:=by rw[<-b.2,cA,r1];rfl
 rcases r2:aA ps with _|_;obtain⟨rfl,rfl⟩:=no (by rw[up,r1,r2];rfl);obtain rfl:I=20:=by rw[<-hp.2,cA,r2];rfl
 clear b hp r1 r2 no;exact zCc;obtain rfl:I=0:=by rw[<-hp.2,cA,r2];rfl
 have F:ax xs=l:=by rw[<-b.1,bz,r1];rfl
 have G:ax ps=r:=by rw[<-hp.1,bz,r2];rfl
 have j:up xs ps=if r=l then 0 else 20:=by rw[up,r1,r2,F,G];rfl
 by_cases h:r=l
 .rw[ah h]at j;(obtain⟨rfl,rfl⟩:V=ps/\E=0:=by rw[<-hV.o,<-hE.o,zB,j];exact⟨rfl,rfl⟩);(have J:(r !=l)=false:=by simp[h]);clear b hp r1 r2 no F G j h;go_in;go_wp2_with (first|(first|(go_at_call 73;refine(ez y z).mono ?_;rintro e u ⟨rfl,_⟩))|(first|(go_at_call 73;refine(ez hm D).mono ?_;rintro e u ⟨rfl,_⟩))|(first|(go_at_call 103;refine(k3 om).mono ?_;rintro e u ⟨K,rfl,L,M,_⟩)));go_ret2;exact⟨some ⟨K,0,none⟩,_,rfl,L,Le.same _,M.less ai,aF⟩
 rw[ag h]at j;obtain⟨rfl,rfl⟩:=no j;have J:(r !=l)=true:=by rw[tS];exact h
 clear b hp r1 r2 no F G j h;exact zCc
end Go.Proofs.YtmkjnlifimffkaaGreat
