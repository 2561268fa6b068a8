/- Lemmas. -/
import Derived.Test.YtmkjnlifimffkaaGreatF33
import Derived.Carry
namespace Go.Proofs.YtmkjnlifimffkaaGreat
open Go.RowKit Tryz
set_option linter.all false
set_option maxRecDepth 100000
set_option maxHeartbeats 0
section
variable{X w' w0:World}{A B:Option Addr}{M g l m mb q r sb:Nat}{cap:Int}{bad:Nat->Prop}{nk:Nat->Nat->Prop}{T:TypeId}{P:Program}{Q:Exit->Act->World->Prop}{a:Act}
section
variable{w:World}{n p:Nat}{c:Ch}
def zq(hp:aj w w0)[Bx w sb 292 (e5 A n p B m q cap mb)](hm:Hx (Mem w mb c cap bad nk))
  (D:Hx (∀w':World,w'.heap[mb]?=w.heap[mb]?->(Instr.lookup 290 (.map (some mb)) (dz (l:Int) (r:Int)) true).run prog w'=.ok (.tuple #[.agg #[.slice g (c.rl cap l) (c.rl cap l)],.bool true]) w')) (I:Bx w g 3 (ints (c.row cap l r))) (hg:¬bad g):
  () 199 #[.pointer sb,.agg #[l,r]] w (ta w0 w mb c cap bad nk l r):=by
 have J:=@aa;have L:=@aP;have ce:=hm.o.lt;have E:∀{v:World} [aF w v],(Instr.lookup 290 (.map (some mb)) (dz (l:Int) (r:Int)) true).run prog v=.ok (.tuple #[.agg #[.slice g (c.rl cap l) (c.rl cap l)],.bool true]) v:=λ{v} [x:aF w v]=>D.o v (x.st.block _ ce);go_enter func199,ntmps199
 go_upto_region 1 with fail
 refine rE (λj _ _ _=>?_);refine aH j aq (λu _=>?_);refine ap 0 ?_;refine ap 1 ?_;refine ap 2 ?_;refine ap 3 ?_;refine ap 4 ?_;refine ap 5 ?_;refine ap 6 ?_;refine ap 7 ?_;refine ap 8 ?_;refine aM 9 λK hK=>?_;obtain⟨z,rfl⟩:=lg u;go_simp;refine aL hK ?_;clear hK K;refine bh (λu _ _=>?_);refine aM 10 λK hK=>?_;go_simp;obtain⟨e,b⟩:=lg (u.setCell ⟨z,0,none⟩ (.slice g (c.rl cap l) (c.rl cap l)));rw[<-b];have y:Below (World.heap j).size j e:=by rw[b];exact(a7 j u).setCell (p:=⟨z,0,none⟩) (ai) _
 have F:Bx e (z.heap.size) _ #[.slice g (c.rl cap l) (c.rl cap l)]:=⟨by rw[b];exact aB.ax (Bx.al (w:=u) (g:=z.heap.size)) 0 _⟩;have G:aj e j:=⟨y⟩;refine aL hK ?_ ⟨y⟩;clear hK K b;refine ap 11 ?_;refine aZ ?_
 go_wp2_with fail
 have k4:aB (e.setCell ⟨w.heap.size+1,0,none⟩ (.slice g (c.rl cap l) (c.rl cap l))) (w.heap.size+1) _ _:=aB.ax (Bx.al (w:=e) (g:=w.heap.size+1)) 0 (.slice g (c.rl cap l) (c.rl cap l));have r0:=k4.cell 0;refine a8 (v:=.agg #[.slice g (c.rl cap l) (c.rl cap l)]) (by simp[results,results199,go_sem,r0]) rfl ?_;have C:Below w w (e.setCell ⟨w.heap.size+1,0,none⟩ (.slice g (c.rl cap l) (c.rl cap l))):=(a7 w e).setCell (p:=⟨w.heap.size+1,0,none⟩) (b9 _) _;obtain⟨v,hv⟩:=lg (e.setCell ⟨w.heap.size+1,0,none⟩ (.slice g (c.rl cap l) (c.rl cap l)));rw[<-hv]at C⊢;have:aj v w:=⟨C⟩;exact⟨g,rfl,ao,hg,ae hm.o.at,Nx.of hm.o,ab _ _⟩
def Ch.OT(h:M<c.rl cap l):(c.ki cap l M)[M]?=some 1152921504606846976:=by simp[Ch.ki,h]
def SI.trans{W x u:World}{e:Nat}(h:SI w0 W x mb e c cap bad nk)(k:SI w0 x u mb e c cap bad nk):SI w0 W u mb e c cap bad nk:=
 ⟨k.mem,λb hb j l=>(k.keep b (bu hb h.size) j l).trans (h.keep b hb j l),aO h.size k.size⟩
def Mem.aS{cs:Array Value}(h:Mem w mb c cap bad nk)(b:aB w g T cs):g≠mb:=λe=>by
 subst e;obtain⟨l,cl,j,_⟩:=h;unfold aB at b;rw[j]at b;cases b
def oE{C:Code}{cs:Array Value}(h:∀u,aj u X->Bx u X T cs->C.wp P Q a u):C.wp P Q a (X.alloc (.cells cs T)):=
 h _ (ab _ _) ao
def zr(F:Hx c.Ok)(vd:0<=cap)(Af:cap<=4096)(BU:w0.heap.size<=mb)(ih:Hx (∀l' r',l'<r'->r'-l'<r-l->r'<=c.n->pQ w0 sb A n p B m q c cap mb l' r'))(hl:l<r)(hr:r<=c.n)
  [a:Sl w0 A n c.W] [b:Sl w0 B m c.K] [aj w w0] [Bx w sb 292 (e5 A n p B m q cap mb)] (hm:Hx (Mem w mb c cap bad nk)) (Q:Hx (∀g,bad g->g<w.heap.size)) (hnk:Hx (∀a b,nk a b->r-l<b-a))
  (hno:Hx (∀w':World,w'.heap[mb]?=w.heap[mb]?->(Instr.lookup 290 (.map (some mb)) (dz (l:Int) (r:Int)) true).run prog w'=.ok (.tuple #[.agg #[.slice none 0 0],.bool false]) w'))
  (tE:Hx (Mem w mb c cap bad (λa b=>nk a b\/a=l/\b=r))):
  () 199 #[.pointer sb,.agg #[l,r]] w (ta w0 w mb c cap bad nk l r):=by
 obtain⟨CB,CP,FB⟩:=ha;have ce:=hm.o.lt;have JT:=F.o.n2;have TO:m=c.n:=b.len;have JU:n=c.n+1:=a.len.trans F.o.len;have S0:∀{v:World} [aF w v],(Instr.lookup 290 (.map (some mb)) (dz (l:Int) (r:Int)) true).run prog v=.ok (.tuple #[.agg #[.slice none 0 0],.bool false]) v:=λ{v} [x:aF w v]=>hno.o v (x.st.block _ ce);obtain⟨N,hN⟩:=lh (c.rl cap l);have WB:=F.o.oB l;have VG:=F.o.LB l;have hN':N=(cap-c.kept l+1).toNat:=hN.symm;have hN4:N<=4097:=om;obtain⟨K,hK⟩:=lh (c.kept l);have w1:IntKind.i64.wrap (cap-K)=cap-K:=by rw[aV];omega
 have w2:IntKind.i64.wrap (cap-K+1)=cap-K+1:=by rw[aV];omega
 have w3:max (0:Int) (cap-K+1)=(N:Int):=by omega
 have UP:=JR N om;have HKK:=ae hK;have hln:l<n:=om;have hrn:r<n:=om;have WC:r<=m:=om;have Xt:m<=64:=om;have Y:=ae hN;clear hK hN' WB VG TO JU JT hN;go_enter func199,ntmps199
 go_upto_region 1 with fail
 refine rE (λu1 _ _ _=>?_);refine aH u1 aq (λR _=>?_);refine ap 0 ?_;refine ap 1 ?_;refine ap 2 ?_;refine ap 3 ?_;refine ap 4 ?_;refine ap 5 ?_;refine ap 6 ?_;refine ap 7 ?_;refine ap 8 ?_;refine aM 9 λK hK=>?_;obtain⟨ua,rfl⟩:=lg R;go_simp;refine aL hK ?_;clear hK K;refine bh (λR _ _=>?_);refine aM 10 λK hK=>?_;go_simp;obtain⟨u7,hu7⟩:=lg (R.setCell ⟨ua,0,none⟩ (.slice none 0 0));rw[<-hu7];have Bu7:Below (World.heap u1).size u1 u7:=by rw[hu7];exact(a7 u1 R).setCell (p:=⟨ua,0,none⟩) (ai) _
 have Pu7:aj u7 u1:=⟨Bu7⟩;refine aL hK ?_ ⟨Bu7⟩;clear hK K hu7;refine ap 11 ?_;refine aZ ?_
 go_upto_region 4 with fail
 refine am aq (λub _=>?_);refine ap 0 ?_;refine ap 1 ?_;refine ap 2 ?_;refine ap 3 ?_;refine ap 4 ?_;refine ap 5 ?_;refine ap 6 ?_;refine ap 7 ?_;refine ap 8 ?_;refine ap 9 ?_;refine aM 10 λK hK=>?_;go_simp
 (with_reducible refine(G8 om).mono ?_)
 rintro e ub ⟨rfl,_⟩;dsimp only;refine aL hK ?_;clear hK K;rw[HKK.o];refine ap 11 ?_;refine ap 12 ?_;refine ap 13 ?_;refine aM 14 λK hK=>?_;obtain⟨D,rfl⟩:=lg ub;go_simp;refine aL hK ?_;clear hK K;refine bh (λub _ _=>?_);refine ap 15 ?_;refine aZ ?_
 go_wp2_with fail
 have kF:Bx ub D.heap.size 3 (ints (iO N 0 1152921504606846976 0)):=by rw[He];exact ao
 go_loopw [42] (λi wr=>∃M:Nat,M<=N/\i=.int .i64 M/\Bx wr D.heap.size 3 (ints (iO N M 1152921504606846976 0))/\aj wr D) (λi _=>N-(intOf i).toNat)
 case atStart=>exact⟨0,aT _,rfl,kF,ab _ _⟩
 case round=>
  obtain⟨M,hM,rfl,Z,pr⟩:=hrel;by_cases O:M<N
  .have e1:(ints (iO N M 1152921504606846976 0))[M]?=some (.int .i64 0):=by rw[eu,qi O,ag om];rfl
   have U:=ae (JS (v:=1152921504606846976) (u:=0) O);have oG:Own wr D.heap.size 3 (iO N M 1152921504606846976 0):=Z.al
   go_wp2_with fail
   go_roundw
   case rel=>exact⟨M+1,om,by go_num,⟨by rw[<-U.o];exact oG.ax M _⟩,⟨(a7 D wr).setCell (p:=⟨D,M,none⟩) (an _) _⟩⟩
   case measure=>exact e6
  .have abZ:=ae (show N<=M by omega);have Wz:Bx wr D.heap.size 3 (ints (List.replicate N 1152921504606846976)):=by rw[<-Hf abZ.o (v:=1152921504606846976) (u:=0)];exact Z
   clear Z;by_cases e:r=l+1
   .have t1:((r:Int)==(l:Int)+1)=true:=by simp;omega
    have pf:0<=c.single l r:=by have:=F.o.G9 r;have:=F.o.oB l;unfold Ch.single;omega
    have LZ:c.single l r<=131072:=by have:=F.o.OM r;have:=F.o.LB l;unfold Ch.single;omega
    obtain⟨S,hS⟩:∃S:Nat,c.single l r=(S:Int):=⟨(c.single l r).toNat,om⟩;have U:=ae hS;have HR:=ae e;have h0r:0<r:=om;have ab0:=ae (show c.own r=c.own (l+1) by rw[e]);clear hS pf LZ e
    go_wp2_with fail
    refine am aq (λR _=>?_);refine ap 0 ?_;refine ap 1 ?_;refine ap 2 ?_;refine ap 3 ?_;refine ap 4 ?_;refine aM 5 λK hK=>?_;go_simp
    (with_reducible refine(JN F hln hrn).mono ?_)
    rintro e R ⟨rfl,_⟩;dsimp only;refine aL hK ?_;clear hK K;rw[U.o];refine ap 6 ?_;refine aZ ?_
    go_wp2_with fail
    have k0:Bx R D.heap.size 3 (ints (c.ki cap l S)):=by
     rw[Ch.Hd (M:=S) (by rw[<-HR.o,U.o];exact dM _),Y.o];exact ao
    go_loopw [9] (λi wr=>∃M:Nat,S<=M/\i=.int .i64 M/\Bx wr D.heap.size 3 (ints (c.ki cap l M))/\aj wr D) (λi _=>N-(intOf i).toNat)
    case atStart=>exact⟨S,an _,rfl,k0,ab _ _⟩
    case round=>
     obtain⟨M,hM,rfl,Z,pr⟩:=hrel;by_cases O:M<N
     .have e1:(ints (c.ki cap l M))[M]?=some (.int .i64 1152921504606846976):=by rw[eu,Ch.OT (by rw[Y.o];exact O)];rfl
      have Dt:=ae (Ch.OR (c:=c) (cap:=cap) (l:=l) (M:=M) (by rw[Y.o];exact O) (by rw[<-HR.o,U.o];omega));have oG:Own wr D.heap.size 3 (c.ki cap l M):=Z.al
      go_wp2_with (first|(go_at_call 238;(with_reducible refine(WA om om).mono ?_);rintro e u ⟨rfl,_⟩))
      go_roundw
      case rel=>exact⟨M+1,om,by go_num,⟨by rw[<-Dt.o,<-ab0.o];exact(oG.at (w':=u)).ax M _⟩,⟨(a7 D u).setCell (p:=⟨D,M,none⟩) (an _) _⟩⟩
      case measure=>exact e6
     .have kg1:Bx wr D.heap.size 3 (ints (c.row cap l r)):=by rw[HR.o,<-Ch.OQ (M:=M) (by rw[Y.o];omega)];exact Z
      have zU:Hx (Mem wr mb c cap (λg=>(bad g\/g=w.heap.size+1)\/g=D.heap.size) (λa b=>nk a b\/a=l/\b=r)):=ae ((tE.o.fresh (g0:=w.heap.size+1) (b9 _)).fresh (g0:=D.heap.size) ai).at;have oT:Hx (∀b,b<w.heap.size->b≠mb->wr.heap[b]?=w.heap[b]?):=ae λb J _=>(a7 w wr).block b J;have GR:Hx ((World.heap w).size<=wr.heap.size):=ae ai;clear Z
      go_upto_region 24 with fail
      refine oE (λv3 _ _=>?_);have hb9:(World.heap w).size+1<D.heap.size:=(Bx.al (w:=D) (g:=w.heap.size+1)).lt;refine aR w0 (λw9=>Bx w9 sb 292 (e5 A n p B m q cap mb)/\Bx w9 w.heap.size 294 #[l,r]/\Bx w9 (World.heap wr).size 296 #[.slice D N N]) aq ⟨ao,ao,ao⟩ (λG _=>?_);refine bl 0 ?_;refine bl 1 ?_;refine bl 2 ?_;refine bl 3 ?_;refine bl 4 ?_;refine bl 5 ?_;refine aM 6 λK hK=>?_;obtain⟨E,HP,zX,I,TP,TQ,xl⟩:=Mem.put (zU.o.at (w':=G)) (l:=l) (r:=r) (g0:=D.heap.size) hl hr (.inr ⟨rfl,rfl⟩) (Bx.al (w:=G) (g:=D.heap.size)) (bad':=λg=>bad g\/g=w.heap.size+1) (λg h=>.inl h) (λh=>h.elim (λh=>absurd (Q.o _ h) om) (λh=>by omega)) (nk':=nk) (λa b h=>.inl h) (λh=>absurd (hnk.o _ _ h) (kt _));have V:∀{g:Nat} {T:TypeId} {cs:Array Value},aB G g T cs->g≠mb:=λb=>(zU.o.at (w':=G)).aS b;have kS5:Bx E sb 292 (e5 A n p B m q cap mb):=⟨(I _ (V (Bx.al (w:=G)))).trans (Bx.al (w:=G))⟩;have kP5:Bx E w.heap.size 294 #[l,r]:=⟨(I _ (V (Bx.al (w:=G)))).trans (Bx.al (w:=G))⟩;have k45:Bx E (w.heap.size+1) 296 #[.slice none 0 0]:=⟨(I _ (V (Bx.al (w:=G)))).trans (Bx.al (w:=G))⟩;have kT5:Bx E (World.heap wr).size 296 #[.slice D N N]:=⟨(I _ (V (Bx.al (w:=G)))).trans (Bx.al (w:=G))⟩;have Vm:Bx E D.heap.size 3 (ints (c.row cap l r)):=⟨(I _ (V (Bx.al (w:=G)))).trans (Bx.al (w:=G))⟩;have p5:aj E w0:=⟨(a7 w0 G).trans (xl _ BU)⟩;have oV:Hx (∀b,b<w.heap.size->b≠mb->E.heap[b]?=w.heap[b]?):=ae λb J X=>(I b X).trans (((a7 wr G).block b (bu J GR.o)).trans (oT.o b J X));have HZ5:Hx ((World.heap w).size<=E.heap.size):=ae (by rw[TP];exact aO GR.o ai);have ph:=ae zX;rw[Y.o]at HP;clear I TP TQ xl zX V;go_simp;refine aL hK ?_ ⟨p5,kS5,kP5,kT5⟩;clear hK K HP;refine aZ ?_
      go_wp2_with fail
      have k6:aB (E.setCell ⟨w.heap.size+1,0,none⟩ (.slice D N N)) (w.heap.size+1) _ _:=aB.ax (Bx.al (w:=E) (g:=w.heap.size+1)) 0 (.slice D N N);have r0:=k6.cell 0;refine a8 (v:=.agg #[.slice D N N]) (by simp[results,results199,go_sem,r0]) rfl ?_;have L:∀b,b≠w.heap.size+1->(E.setCell ⟨w.heap.size+1,0,none⟩ (.slice D N N)).heap[b]?=E.heap[b]?:=λb hb=>bm _ ⟨w.heap.size+1,0,none⟩ _ b hb;have p6:Below w0 w0 (E.setCell ⟨w.heap.size+1,0,none⟩ (.slice D N N)):=(a7 w0 E).setCell (p:=⟨w.heap.size+1,0,none⟩) (show w0.heap.size<=w.heap.size+1 from Nat.le_succ_of_le ai) _;have z6:(E.setCell ⟨w.heap.size+1,0,none⟩ (.slice D N N)).heap.size=E.heap.size:=aG;obtain⟨v6,H3⟩:=lg (E.setCell ⟨w.heap.size+1,0,none⟩ (.slice D N N));rw[<-H3]at p6 L z6⊢;have ab1:=hm.o.lt;have K6:∀b,b<w.heap.size->b≠mb->v6.heap[b]?=w.heap[b]?:=λb J X=>(L b om).trans (oV.o b J X);have B0:Below w0 w0 w:=a7 w0 w;exact⟨D.heap.size,by rw[Y.o],⟨(L _ om).trans (Bx.al (w:=E))⟩,λh=>absurd (Q.o _ h) om,ae ((ph.o.same (L mb om) (λb _ hb=>L b (λe=>hb (.inr e)))).less (λg h=>.inl h) (λ_ _ h=>h)),⟨⟨p6.os.trans B0.os.symm,p6.tape.trans B0.tape.symm,p6.output.trans B0.output.symm,by rw[z6];exact HZ5.o,λb hb=>K6 b om om⟩,K6,(by obtain⟨es,cl,J,_⟩:=hm.o;exact⟨es,cl,J⟩)⟩,⟨p6⟩⟩
   .have t1:((r:Int)==(l:Int)+1)=false:=by simp;omega
    have My:l+1<r:=om;clear e;obtain⟨W2,rfl⟩:=lg wr;have kJ:Bx W2 D.heap.size 3 (ints (c.iX cap l r 0)):=by rw[Ch.JQ,Y.o];exact Wz
    have HQ:Hx (Mem W2 mb c cap (λg=>(bad g\/g=w.heap.size+1)\/g=D.heap.size) (λa b=>nk a b\/a=l/\b=r)):=ae ((tE.o.fresh (g0:=w.heap.size+1) (b9 _)).fresh (g0:=D.heap.size) ai).at;have ab2:Hx (SI w0 W2 W2 mb D c cap (λg=>(bad g\/g=w.heap.size+1)\/g=D.heap.size) (λa b=>nk a b\/a=l/\b=r)):=ae ⟨HQ.o,λ_ _ _ _=>rfl,an _⟩;clear Wz
    go_wp2_with fail
    go_loopw [10,11,12] (λx y z wr=>∃(j k N2:Nat) (C:Int),k<=r/\x=.int .i64 N2/\y=.int .i64 C/\z=.int .i64 k/\Hx (k=l+j+1)/\Hx (c.nd l r j=(N2:Int))/\Hx (c.cs l j=C)/\Hx (SI w0 W2 wr mb D c cap (λg=>(bad g\/g=w.heap.size+1)\/g=D.heap.size) (λa b=>nk a b\/a=l/\b=r))/\Bx wr D.heap.size 3 (ints (c.iX cap l r j))/\Bx wr sb 292 (e5 A n p B m q cap mb)/\Bx wr w.heap.size 294 #[l,r]/\Bx wr (w.heap.size+1) 296 #[.slice none 0 0]/\aj wr w0) (λ_ _ z _=>r-(intOf z).toNat)
    case atStart=>exact⟨0,l+1,0,0,om,rfl,rfl,by go_num,ae rfl,ae rfl,ae rfl,ab2,kJ,ao,ao,ao,ab _ _⟩
    case round=>
     obtain⟨j,k,N2,C,hk,rfl,rfl,rfl,P,N4,H2,U,Z,kS,kP,k4,pr⟩:=hrel;by_cases O:k<r
     .have TR:l<k:=by have:=P.o;omega
      have hjr:j<=64:=by have:=P.o;have:=F.o.n2;omega
      obtain⟨jl,DC⟩:=lh (l+j);have hjm:jl<m:=by have:=P.o;omega
      obtain⟨N3,hN3⟩:∃N3:Nat,c.nd l r (j+1)=(N3:Int):=⟨(c.nd l r (j+1)).toNat,by have:=Ch.ab3 (c:=c) l r (j+1);omega⟩;have PV:max (N2:Int) (c.step l r k)=(N3:Int):=by rw[<-hN3,Ch.nd,N4.o,<-P.o]
      have TS:=F.o.Xq l j;have zV:=F.o.Xr l j;have HY:=F.o.k_0 jl;have Mv:=F.o.k_2 jl;rw[H2.o]at TS zV;obtain⟨C2,hC3⟩:=lh (C+c.k jl);have vk:Hx (c.cs l (j+1)=C2):=ae (by rw[Ch.cs,H2.o,DC,hC3]);have hw4:IntKind.i64.wrap (C+c.k jl)=C2:=by rw[hC3,aV];omega
      have PF:IntKind.i64.wrap ((k:Int)-1)=(jl:Int):=by rw[aV];have:=P.o;omega
      have WD:=ae hN3;have oG:Own wr D.heap.size 3 (c.iX cap l r j):=Z.al;have NS:∀{g:Nat} {T:TypeId} {cs:Array Value} {x u:World} [aF wr x] (_:SI w0 x u mb D c cap (λg=>(bad g\/g=w.heap.size+1)\/g=D.heap.size) (λa b=>nk a b\/a=l/\b=r)) (_:aB wr g T cs),T≠3->aB u g T cs:=
       λ{g T cs x u} _ s bk hT=>((s.keep g (bu bk.lt ai) (U.o.mem.aS bk) (λe=>oG.aS bk (λe=>hT e.symm) e.symm)).trans (bk.at (w':=x)))
      have CSP:N3<N->∀{x:World} [aF wr x],() 240 #[.pointer sb,.agg #[l,r],k,N3,C2,.slice D N N] x
        (λe u=>e=.returned (.tuple #[])/\Hx (SI w0 x u mb D c cap (λg=>(bad g\/g=w.heap.size+1)\/g=D.heap.size) (λa b=>nk a b\/a=l/\b=r))/\Bx u D.heap.size 3 (ints (c.iX cap l r (j+1)))/\aj u w0):=λhlen {x} lx=>by
       have px:aj x w0:=⟨(aF.trans (ao:aF w0 wr) lx).st⟩;have bx:Bx x sb 292 (e5 A n p B m q cap mb):=⟨kS.al.at⟩;have bg:Bx x D.heap.size 3 (ints (c.iX cap l r j)):=⟨Z.al.at⟩;have IN:(World.heap D).size<x.heap.size:=bg.al.lt;have J:=OS (bad:=λg=>(bad g\/g=w.heap.size+1)\/g=D.heap.size) (nk:=λa b=>nk a b\/a=l/\b=r) F ih P TR O hr (ae (U.o.mem.at (w':=x))) (ae λg hg=>by
        rcases hg with(hg|hg)|hg
        .exact Nat.lt_trans (Q.o g hg) (Nat.lt_of_le_of_lt ai IN)
        .have:=(Bx.al (w:=D) (g:=w.heap.size+1)).lt;omega
        .omega) (ae λa b hab=>by
        rcases hab with hab|⟨rfl,rfl⟩
        .exact gV (hnk.o a b hab)
        .exact an _) (ae (.inr rfl)) WD vk (by rw[Y.o];exact hlen) Af ai
       rw[Y.o]at J;exact J.mono λe u ⟨J,X,h3,h4⟩=>⟨J,ae X,h3,h4⟩
      clear TS zV HY Mv hC3 hN3 DC hjr;obtain⟨b1,o1,rfl,q6,v1⟩:=Sl.TD (c:=c) (w:=w0) (A:=B) (n:=m) (l:=jl) hjm;by_cases hlen:N3<N
      .go_wp2_with fail
       refine am aq (λR _=>?_);refine ap 0 ?_;refine ap 1 ?_;refine ap 2 ?_;refine ap 3 ?_;refine ap 4 ?_;refine ap 5 ?_;refine ap 6 ?_;refine aM 7 λK hK=>?_;go_simp
       (with_reducible refine(zn F TR O WC).mono ?_)
       rintro e R ⟨rfl,_⟩;dsimp only;refine aL hK ?_;clear hK K;refine ap 8 ?_;refine ap 9 ?_;refine aZ ?_
       go_wp2_with (go_at_call 240;refine(CSP hlen).mono ?_;rintro e u ⟨rfl,hs,kg3,p3⟩)
       exact⟨⟨j+1,k+1,N3,C2,om,rfl,rfl,by go_num,ae (by rw[P.o];omega),WD,vk,ae ((U.o.at (w':=R)).trans hs.o),kg3,⟨NS hs.o kS.al ak⟩,⟨NS hs.o kP.al ak⟩,⟨NS hs.o k4.al ak⟩,p3⟩,by simp[intOf];omega⟩
      .have hj9:c.iX cap l r j=c.iX cap l r (j+1):=by rw[<-Ch.uX (M:=N) (by rw[WD.o];omega),Ch.BS (by rw[Y.o];exact an _)]
       have HJ9:=ae hj9;clear hj9
       go_wp2_with fail
       refine am aq (λR _=>?_);refine ap 0 ?_;refine ap 1 ?_;refine ap 2 ?_;refine ap 3 ?_;refine ap 4 ?_;refine ap 5 ?_;refine ap 6 ?_;refine aM 7 λK hK=>?_;go_simp
       (with_reducible refine(zn F TR O WC).mono ?_)
       rintro e R ⟨rfl,_⟩;dsimp only;refine aL hK ?_;clear hK K;refine ap 8 ?_;refine ap 9 ?_;refine aZ ?_
       go_wp2_with fail
       exact⟨⟨j+1,k+1,N3,C2,om,rfl,rfl,by go_num,ae (by rw[P.o];omega),WD,vk,ae (U.o.at (w':=R)),(by rw[<-HJ9.o];exact ao),ao,ao,ao,ab _ _⟩,by simp[intOf];omega⟩
     .have hj:j=r-l-1:=by have:=P.o;omega
      have kg1:Bx wr D.heap.size 3 (ints (c.row cap l r)):=by rw[<-Ch.JP My,<-hj];exact Z
      have zU:=ae U.o.mem;have hwm:(World.heap w).size<=D.heap.size:=ai;have oT:Hx (∀b,b<w.heap.size->b≠mb->wr.heap[b]?=w.heap[b]?):=ae λb J X=>(U.o.keep b (bu J ai) X om).trans ((a7 w W2).block b J);have GR:Hx ((World.heap w).size<=wr.heap.size):=ae (aO ai U.o.size);clear Z hj
      go_upto_region 24 with fail
      refine oE (λv3 _ _=>?_);have hb9:(World.heap w).size+1<D.heap.size:=(Bx.al (w:=D) (g:=w.heap.size+1)).lt;refine aR w0 (λw9=>Bx w9 sb 292 (e5 A n p B m q cap mb)/\Bx w9 w.heap.size 294 #[l,r]/\Bx w9 (World.heap wr).size 296 #[.slice D N N]) aq ⟨ao,ao,ao⟩ (λG _=>?_);refine bl 0 ?_;refine bl 1 ?_;refine bl 2 ?_;refine bl 3 ?_;refine bl 4 ?_;refine bl 5 ?_;refine aM 6 λK hK=>?_;obtain⟨E,HP,zX,I,TP,TQ,xl⟩:=Mem.put (zU.o.at (w':=G)) (l:=l) (r:=r) (g0:=D.heap.size) hl hr (.inr ⟨rfl,rfl⟩) (Bx.al (w:=G) (g:=D.heap.size)) (bad':=λg=>bad g\/g=w.heap.size+1) (λg h=>.inl h) (λh=>h.elim (λh=>absurd (Q.o _ h) om) (λh=>by omega)) (nk':=nk) (λa b h=>.inl h) (λh=>absurd (hnk.o _ _ h) (kt _));have V:∀{g:Nat} {T:TypeId} {cs:Array Value},aB G g T cs->g≠mb:=λb=>(zU.o.at (w':=G)).aS b;have kS5:Bx E sb 292 (e5 A n p B m q cap mb):=⟨(I _ (V (Bx.al (w:=G)))).trans (Bx.al (w:=G))⟩;have kP5:Bx E w.heap.size 294 #[l,r]:=⟨(I _ (V (Bx.al (w:=G)))).trans (Bx.al (w:=G))⟩;have k45:Bx E (w.heap.size+1) 296 #[.slice none 0 0]:=⟨(I _ (V (Bx.al (w:=G)))).trans (Bx.al (w:=G))⟩;have kT5:Bx E (World.heap wr).size 296 #[.slice D N N]:=⟨(I _ (V (Bx.al (w:=G)))).trans (Bx.al (w:=G))⟩;have Vm:Bx E D.heap.size 3 (ints (c.row cap l r)):=⟨(I _ (V (Bx.al (w:=G)))).trans (Bx.al (w:=G))⟩;have p5:aj E w0:=⟨(a7 w0 G).trans (xl _ BU)⟩;have oV:Hx (∀b,b<w.heap.size->b≠mb->E.heap[b]?=w.heap[b]?):=ae λb J X=>(I b X).trans (((a7 wr G).block b (bu J GR.o)).trans (oT.o b J X));have HZ5:Hx ((World.heap w).size<=E.heap.size):=ae (by rw[TP];exact aO GR.o ai);have ph:=ae zX;rw[Y.o]at HP;clear I TP TQ xl zX V;go_simp;refine aL hK ?_ ⟨p5,kS5,kP5,kT5⟩;clear hK K HP;refine aZ ?_
      go_wp2_with fail
      have k6:aB (E.setCell ⟨w.heap.size+1,0,none⟩ (.slice D N N)) (w.heap.size+1) _ _:=aB.ax (Bx.al (w:=E) (g:=w.heap.size+1)) 0 (.slice D N N);have r0:=k6.cell 0;refine a8 (v:=.agg #[.slice D N N]) (by simp[results,results199,go_sem,r0]) rfl ?_;have L:∀b,b≠w.heap.size+1->(E.setCell ⟨w.heap.size+1,0,none⟩ (.slice D N N)).heap[b]?=E.heap[b]?:=λb hb=>bm _ ⟨w.heap.size+1,0,none⟩ _ b hb;have p6:Below w0 w0 (E.setCell ⟨w.heap.size+1,0,none⟩ (.slice D N N)):=(a7 w0 E).setCell (p:=⟨w.heap.size+1,0,none⟩) (show w0.heap.size<=w.heap.size+1 from Nat.le_succ_of_le ai) _;have z6:(E.setCell ⟨w.heap.size+1,0,none⟩ (.slice D N N)).heap.size=E.heap.size:=aG;obtain⟨v6,H3⟩:=lg (E.setCell ⟨w.heap.size+1,0,none⟩ (.slice D N N));rw[<-H3]at p6 L z6⊢;have ab1:=hm.o.lt;have K6:∀b,b<w.heap.size->b≠mb->v6.heap[b]?=w.heap[b]?:=λb J X=>(L b om).trans (oV.o b J X);have B0:Below w0 w0 w:=a7 w0 w;exact⟨D.heap.size,by rw[Y.o],⟨(L _ om).trans (Bx.al (w:=E))⟩,λh=>absurd (Q.o _ h) om,ae ((ph.o.same (L mb om) (λb _ hb=>L b (λe=>hb (.inr e)))).less (λg h=>.inl h) (λ_ _ h=>h)),⟨⟨p6.os.trans B0.os.symm,p6.tape.trans B0.tape.symm,p6.output.trans B0.output.symm,by rw[z6];exact HZ5.o,λb hb=>K6 b om om⟩,K6,(by obtain⟨es,cl,J,_⟩:=hm.o;exact⟨es,cl,J⟩)⟩,⟨p6⟩⟩
def oF(e:Hx c.Ok)(j:0<=cap)(u:cap<=4096)(b:w0.heap.size<=mb)[Sl w0 A n c.W][Sl w0 B m c.K]:
  ∀(s l r:Nat),r-l<=s->l<r->r<=c.n->pQ w0 sb A n p B m q c cap mb l r
 |0,l,r,hs,hl,_=>om
 |s+1,l,r,hs,hl,hr=>λw bad nk hp E hm y C=>by
  rcases hm.look l r with⟨g,z,F,hg⟩|⟨z,D⟩
  .have:Bx w g 3 (ints (c.row cap l r)):=⟨F⟩;exact zq hp (ae hm) (ae z) ao hg
  .exact zr e j u b (ae λG I z D J=>oF e j u b s G I om z J) hl hr (ae hm) (ae y) (ae C) (ae z) (ae D)
end
end
section
variable{w' w0:World}{A B:Option Addr}{j m mb q r sb:Nat}{cap z:Int}{bad:Nat->Prop}{nk:Nat->Nat->Prop}
def OU(w:World)(o:Obj):(w.alloc o).heap[w.heap.size]?=some o:=by
 show(w.heap.push o)[w.heap.size]?=some o
 exact Array.getElem?_push_size
section
variable{w:World}{n p:Nat}{c:Ch}
def WE(w:World)(A:Option Addr)(n p:Nat)(B:Option Addr)(m q:Nat)(c:Ch)(cap:Int)(e:Ending)(w':World):Prop:=
 ∃sb mb,e=.returned (.pointer (some ⟨sb,0,none⟩))/\w.heap.size<=sb/\w.heap.size<=mb/\Bx w' sb 292 (e5 A n p B m q cap mb)/\Hx (∀b,Mem w' mb c cap (λ_=>False) b)/\aj w' w
def Ch.TT:c.ws 0 (j+1)=c.ws 0 j+c.w (j+1):=by rw[Ch.ws,bX]
def Ch.Ok.Xu(h:c.Ok)(l:Nat):∀j:Nat,c.ws l j<=65536*(j:Int)
 |0=>by simp[Ch.ws]
 |j+1=>by have:=h.Xu l j;have:=h.OM (l+j+1);simp only[Ch.ws];omega
def zt(e:Hx c.Ok)(u:n<=p)[a:Sl w A n c.W][b:Sl w B m c.K](l:Hx (min cap (c.jG 0 c.n)=z)):
  () 198 #[.agg #[.slice A n p,.slice B m q],cap] w (WE w A n p B m q c z):=by
 obtain⟨Y,Z⟩:=h5;have y:=e.o.n2;have j:m=c.n:=b.len;obtain rfl:n=m+1:=by rw[j];exact a.len.trans e.o.len
 obtain⟨O,C,r⟩:=uv (P:=prog) 24 aq aq A (m+1) p 1 1 rfl om u;have D:Sl w O m (c.W.drop 1):=⟨r w c.W a.len.symm a.rd,by rw[dZ,<-a.len];rfl⟩;clear r;rw[Nat.add_sub_cancel]at C;have Q:Hx (min cap (2*c.ws 0 m)=z):=ae (by rw[<-l.o,Ch.jG,Ch.kept,ah rfl,j];simp);have G:m<=64:=om;clear j y;have R:=@run_makeMap prog;go_enter func198,ntmps198
 go_wp2_with fail
 go_loopw [5,12] (λs i wr=>∃(k:Nat) (S:Int),k<=m/\i=.int .i64 k/\s=.int .i64 S/\Hx (2*c.ws 0 k=S)/\Bx wr w.heap.size 244 #[.slice A (m+1) p,.slice B m q]/\aj wr w) (λ_ i _=>m-(intOf i).toNat)
 case atStart=>exact⟨0,0,aT _,rfl,rfl,ae rfl,ao,ab _ _⟩
 case round=>
  obtain⟨k,S,hk,rfl,rfl,I,hx,pr⟩:=hrel;by_cases E:k<m
  .obtain⟨b1,o1,aa,rfl,T,v1,J⟩:=D.get E;have F:c.w (k+1)=aa:=Ch.TC (by have:=J.o;rw[ff]at this;rw[r6];exact this);have z0:=e.o.G9 (k+1);have L:=e.o.OM (k+1);have U:=e.o.TT 0 k;have s2:=e.o.Xu 0 k;have hS:=I.o;have V:Hx (2*c.ws 0 (k+1)=S+2*aa):=ae (by rw[Ch.TT,F];omega);rw[F]at z0 L;have w1:IntKind.i64.wrap (2*aa)=2*aa:=by rw[aV];omega
   have w2:IntKind.i64.wrap (S+2*aa)=S+2*aa:=by rw[aV];omega
   clear F z0 L U s2 hS J
   go_wp2_with fail
   go_roundw
   case rel=>exact⟨k+1,S+2*aa,om,by go_num,rfl,V,ao,ab _ _⟩
   case measure=>exact e6
  .have M:min cap S=z:=by rw[<-Q.o,<-I.o,show k=m from om]
   go_wp2_with fail
   go_ret;have X:∀N,Mem ((wr.alloc (.map #[] 0)).alloc (.cells #[.slice A (m+1) p,.slice B m q,m,z,.map (some wr.heap.size)] 292)) wr.heap.size c z (λ_=>False) N:=λN=>⟨#[],0,((a7 (wr.alloc (.map #[] 0)) _).block _ aG).trans (OU _ _),aG⟩;exact⟨wr.heap.size+1,wr.heap.size,rfl,Nat.le_succ_of_le ai,ai,ao,ae X,ab _ _⟩
def pQ.WF(h:pQ w0 sb A n p B m q c cap mb 0 r)(p1:aj w w0)[e:Bx w sb 292 (e5 A n p B m q cap mb)](hm:Mem w mb c cap bad nk)(j:∀g,bad g->g<w.heap.size)(l:∀a b,nk a b->r-0<b-a):
  () 199 #[.pointer sb,.agg #[au,r]] w (ta w0 w mb c cap bad nk 0 r):=h w bad nk p1 e hm j l
def Ch.g2(c:Ch)(cap:Int):Int:=if c.eH cap=0 then(if c.V 0 c.n cap<1152921504606846976 then 0 else 26)else c.eH cap
def Ch.uj(h:c.eH cap=0):c.Ok/\0<=cap/\cap<=4096:=by
 unfold Ch.eH at h
 split at h
 .split at h
  .omega
  .exact⟨Ch.aar ‹_›,om,om⟩
 .omega
def Ch.Ok.BV(h:c.Ok)(l r:Nat):0<=c.jG l r:=by
 have:=h.oB l;have:=h.TT l (r-l);unfold Ch.jG;omega
end
end
variable{x y:Int}{j l r:Nat}
structure Ch.St where
 T:List Int
 S:List Int
 G:List Int
 em:Int
 sd:Int
 dn:Int
 pk:Int
 co:Int
def Ch.acN(c:Ch):List Int->Int
 |[]=>0
 |i::l=>c.w i.toNat+c.acN l
def Ch.acQ(l:List Int)(x:Int):List Int:=l.filter (λi=>i !=x)
def Ch.used(c:Ch)(s:St):Int:=c.acN s.T+c.acN s.G
def Ch.ready(s:St)(id:Int):Bool:=decide (id=1)||s.T.contains (id-1)
def Ch.Z1(c:Ch)(s:St):St:={s with pk:=max s.pk (c.used s)}
def Ch.doI(c:Ch)(cap:Int)(s:St)(b id:Int):Int×St:=
 if b<=2 then
  if(s.S.contains id !=decide (b=2))||s.T.contains id|| !ready s id then(24,s)
  else if cap<c.used s+c.w id.toNat then(25,s)
  else(0,c.Z1 {s with T:=s.T++[id],S:=acQ s.S id++[id],co:=s.co+c.k (id-1).toNat})
 else if b=3 then
  if s.T.contains id then(0,c.Z1 {s with T:=acQ s.T id})else(24,s)
 else if b=4 then
  if decide (s.em=1)|| !s.T.contains (c.n:Int)then(24,s)else(0,c.Z1 {s with em:=1})
 else if b=5 then
  if s.sd=1 then(24,s)
  else if cap<c.used s+c.w c.n then(25,s)
  else(0,c.Z1 {s with sd:=1,G:=s.G++[(c.n:Int)]})
 else if b=6 then
  if !s.G.contains id|| !ready s id||decide (id≠(c.n:Int)-s.dn)then(24,s)
  else if 1<id then
   if cap<c.used s+c.w (id-1).toNat then(25,s)
   else let t:=c.Z1 {s with G:=s.G++[id-1],dn:=s.dn+1};(0,{t with G:=acQ t.G id})
  else let t:=c.Z1 {s with dn:=s.dn+1};(0,{t with G:=acQ t.G id})
 else(0,c.Z1 s)
def Ch.run(c:Ch)(cap:Int):St->List (Int×Int)->Int×St
 |s,[]=>(0,s)
 |s,(k,i)::p=>if(c.doI cap s k i).1=0 then c.run cap (c.doI cap s k i).2 p else c.doI cap s k i
def Ch.St.new:St:=⟨[],[],[],0,0,0,0,0⟩
variable{c:Ch}
def Ch.acW{cap:Int}:∀(p q:List (Int×Int)) (s:St),(c.run cap s p).1=0->c.run cap s (p++q)=c.run cap (c.run cap s p).2 q
 |[],q,s,_=>rfl
 |(k,i)::p,q,s,h=>by
  rw[run]at h;rw[Ug,run,run]
  split
  .rename_i e;rw[ah e]at h;exact acW p q _ h
  .rename_i e;rw[ag e]at h;exact absurd h e
def Ch.acO:∀(a b:List Int),c.acN (a++b)=c.acN a+c.acN b
 |[],b=>by simp[acN]
 |i::a,b=>by rw[Ug,acN,acN,acO a b];omega
def Ch.adq:∀{l:List Int},x∉l->acQ l x=l
 |l,h=>by
  unfold acQ;rw[List.filter_eq_self];intro a b;simp;intro e;subst e;exact h b
def Ch.acS{l:List Int}(h:x∉l):acQ (l++[x]) x=l:=by
 have:=adq h;unfold acQ at*;rw[vW,this];simp
def Ch.adp{l:List Int}(h:x∉l)(b:y≠x):acQ (l++[x]++[y]) x=l++[y]:=by
 have:=acS h;unfold acQ at*;rw[vW,this];simp[b]
def Ch.fwd(c:Ch)(l r:Nat):Nat->List (Int×Int)
 |0=>[]
 |j+1=>fwd c l r j++[(if r=c.n then 1 else 2,(l:Int)+j+1)]++(if j=0 then[]else[(3,(l:Int)+j)])
def Ch.TU(c:Ch)(l r:Nat)(m:Int)(j:Nat):Prop:=
 c.nd l r (j+1)<=m/\c.cs l (j+1)+c.V (l+j+1) r (m-c.w (l+j+1))+c.V l (l+j+1) m=c.V l r m
inductive Ch.TZ(c:Ch):Nat->Nat->Int->List (Int×Int)->Prop
 |last {l:Nat} {m:Int} (h:l+1=c.n) (hm:c.single l (l+1)<=m):TZ c l (l+1) m [(1,(l:Int)+1),(4,0),(3,(l:Int)+1),(5,0),(6,(l:Int)+1)]
 |one {l:Nat} {m:Int} (h:l+1<c.n) (hm:c.single l (l+1)<=m):TZ c l (l+1) m [(6,(l:Int)+1)]
 |split {l r j:Nat} {m:Int} {p q:List (Int×Int)} (hj:l+j+1<r) (hr:r<=c.n) (hn:c.nd l r (j+1)<=m)
   (hv:c.cs l (j+1)+c.V (l+j+1) r (m-c.w (l+j+1))+c.V l (l+j+1) m=c.V l r m) (hm:∀i,i<j->¬c.TU l r m i)
   (hp:TZ c (l+j+1) r (m-c.w (l+j+1)) p) (hq:TZ c l (l+j+1) m q):
   TZ c l r m (c.fwd l r (j+1)++p++[(3,(l:Int)+j+1)]++q)
structure Ch.Start(c:Ch)(l r:Nat)(m cap:Int)(s:St):Prop where
 tin:∀i∈s.T,1<=i/\i<=(l:Int)
 tl:l=0\/(l:Int)∈s.T
 g:s.G=if r=c.n then[]else[(r:Int)]
 em:s.em=if r=c.n then 0 else 1
 sd:s.sd=if r=c.n then 0 else 1
 dn:s.dn=(c.n:Int)-r
 sin:∀i:Int,i∈s.S↔1<=i/\i<=(if r=c.n then(l:Int)else(c.n:Int))
 cap:c.acN s.T+m<=cap
structure Ch.Mid(c:Ch)(l r j:Nat)(m:Int)(s s':St):Prop where
 t:s'.T=if j=0 then s.T else s.T++[(l:Int)+j]
 g:s'.G=s.G
 em:s'.em=s.em
 sd:s'.sd=s.sd
 dn:s'.dn=s.dn
 sin:∀i:Int,i∈s'.S↔1<=i/\i<=(if r=c.n then(l:Int)+j else(c.n:Int))
 co:s'.co=s.co+c.cs l j
 pk:s'.pk<=max s.pk (c.acN s.T+m)
structure Ch.End(c:Ch)(l r:Nat)(m:Int)(s s':St):Prop where
 t:s'.T=s.T
 g:s'.G=if l=0 then[]else[(l:Int)]
 em:s'.em=1
 sd:s'.sd=1
 dn:s'.dn=(c.n:Int)-l
 sin:∀i:Int,i∈s'.S↔1<=i/\i<=(c.n:Int)
 co:s'.co=s.co+c.V l r m
 pk:s'.pk<=max s.pk (c.acN s.T+m)
def Ch.adi{l:List Int}{i:Int}:i∈acQ l x↔i∈l/\i≠x:=by
 unfold acQ;simp
def Ch.ac1{l:List Int}(h:x∉l):l.contains x=false:=by
 rw[<-Bool.not_eq_true,Cd];exact h
def Ch.acF{l:List Int}(h:x∈l):l.contains x=true:=by
 rw[Cd];exact h
def Ch.ads{s:St}(h:s.G=if r=c.n then[]else[(r:Int)]):c.acN s.G=if r=c.n then 0 else c.w r:=by
 rw[h];split<;>simp[acN]
def Ch.adl(h:c.Ok){l r:Nat}{m cap:Int}{s:St}(hs:Start c l r m cap s)(hr:r<=c.n):∀j,l+j<r->c.nd l r j<=m->
  ∃X,c.run cap s (c.fwd l r j)=(0,X)/\Mid c l r j m s X
 |0,hj,_=>⟨s,rfl,⟨aG,rfl,rfl,rfl,rfl,by simpa using hs.sin,by simp[cs],om⟩⟩
 |j+1,hj,hn=>by
  have Q:c.nd l r j<=m:=Ct (ab4 (b9 j)) hn;obtain⟨u,Y,M⟩:=adl h hs hr j om Q;have B:c.step l r (l+j+1)<=m:=Ct ac6 hn;unfold step at B;rw[Nat.add_sub_cancel]at B;have F:∀i∈u.T,1<=i/\i<=(l:Int)+j:=by
   intro i hi;rw[M.t]at hi
   split at hi
   .have:=hs.tin i hi;omega
   .rcases bJ.1 hi with hi|hi
    .have:=hs.tin i hi;omega
    .rw[cF.1 hi];omega
  have I:c.acN u.T=c.acN s.T+(if j=0 then 0 else c.w (l+j)):=by
   rw[M.t]
   split
   .omega
   .rw[acO];have:((l:Int)+j).toNat=l+j:=by omega
    simp[acN,this]
  have C:=ads (c:=c) (r:=r) (s:=u) (by rw[M.g];exact hs.g);have q1:(u.S.contains ((l:Int)+j+1) !=decide ((if r=c.n then(1:Int)else 2)=2))=false:=by
   by_cases e:r=c.n
   .rw[ah e,ac1]
    .rfl
    .intro hi;have:=(M.sin _).1 hi;rw[ah e]at this;omega
   .rw[ag e,acF]
    .rfl
    .refine(M.sin _).2 ?_;rw[ag e];omega
  have q2:u.T.contains ((l:Int)+j+1)=false:=ac1 λhi=>by have:=F _ hi;omega
  have q3:ready u ((l:Int)+j+1)=true:=by
   unfold ready;by_cases e:l+j=0
   .have:(l:Int)+j+1=1:=by omega
    simp[this]
   .have:(l:Int)+j+1-1∈u.T:=by
     rw[M.t]
     split
     .rename_i e2;subst e2;rcases hs.tl with e3|e3
      .omega
      .simpa using e3
     .refine bJ.2 (.inr ?_);simp
    rw[acF this,Bool.or_true]
  have D:((l:Int)+j+1).toNat=l+j+1:=by omega
  have J:((l:Int)+j+1-1).toNat=l+j:=by omega
  have kd:(if r=c.n then(1:Int)else 2)<=2:=by split<;>omega
  have hu:c.used u+c.w (l+j+1)<=c.acN s.T+m:=by
   unfold used;rw[I,C];have h3:(if l+j=l then(0:Int)else c.w (l+j))=if j=0 then 0 else c.w (l+j):=by
    by_cases e:j=0
    .simp[e]
    .rw[ag om,ag e]
   rw[h3]at B;omega
  have Z:=hs.cap;obtain⟨s2,b⟩:=lg (c.Z1 {u with T:=u.T++[(l:Int)+j+1],S:=acQ u.S ((l:Int)+j+1)++[(l:Int)+j+1],co:=u.co+c.k (l+j)});have d2:c.doI cap u (if r=c.n then 1 else 2) ((l:Int)+j+1)=(0,s2):=by
   unfold doI;rw[ah kd,q1,q2,q3,D,J,ag aG,ag om,b]
  have R:s2.pk<=max s.pk (c.acN s.T+m):=by
   have hp:=M.pk;have:s2.pk=max u.pk (c.used u+c.w (l+j+1)):=by
    rw[b];simp only[Z1,used,acO,acN,D];congr 1;omega
   rw[this];omega
  have z:∀i:Int,i∈s2.S↔1<=i/\i<=(if r=c.n then(l:Int)+((j+1:Nat):Int)else(c.n:Int)):=by
   intro i;rw[b];simp only[Z1,bJ,adi,cF,M.sin];by_cases e:r=c.n
   .simp only[e,wj];omega
   .simp only[e,if_false];omega
  have K:s2.co=s.co+c.cs l (j+1):=by
   rw[b];simp only[Z1,cs];rw[M.co];omega
  have U:s2.G=s.G:=by rw[b];exact M.g
  have L:s2.em=s.em:=by rw[b];exact M.em
  have N:s2.sd=s.sd:=by rw[b];exact M.sd
  have O:s2.dn=s.dn:=by rw[b];exact M.dn
  have t2:s2.T=u.T++[(l:Int)+j+1]:=by rw[b];rfl
  have r1:c.run cap s (c.fwd l r j++[(if r=c.n then 1 else 2,(l:Int)+j+1)])=(0,s2):=by
   rw[acW _ _ _ (by rw[Y]),Y];simp only[run];rw[d2];simp
  by_cases P:j=0
  .refine⟨s2,by rw[fwd,ah P,fG];exact r1,?_,U,L,N,O,z,K,R⟩;rw[t2,M.t,ah P,ag om];congr 2
  .have E:s2.T=s.T++[(l:Int)+j]++[(l:Int)+j+1]:=by rw[t2,M.t,ag P]
   have V:(l:Int)+j∉s.T:=λhi=>by have:=hs.tin _ hi;omega
   have w3:=adp (y:=(l:Int)+j+1) V om;have d3:c.doI cap s2 3 ((l:Int)+j)=(0,c.Z1 {s2 with T:=acQ s2.T ((l:Int)+j)}):=by
    unfold doI;rw[ag om,ah rfl,ah];rw[E];exact acF aG
   refine⟨c.Z1 {s2 with T:=acQ s2.T ((l:Int)+j)},?_,?_,U,L,N,O,z,K,?_⟩
   .rw[fwd,ag P,acW _ _ _ (by rw[r1]),r1];simp only[run];rw[d3];simp
   .simp only[Z1];rw[E,w3,ag om];congr 2
   .simp only[Z1,used];rw[E,w3,U,acO];have h1:c.acN [(l:Int)+j+1]=c.w (l+j+1):=by simp[acN,D]
    have h2:=C;rw[M.g]at h2;rw[h1,h2];have h4:=hu;unfold used at h4;rw[I,C,ag P]at h4;have:=h.G9 (l+j);omega
def Ch.ab6{m:Int}(h:c.Ok)(e:l+j+1<r)(hr:r<=c.n)(hv:c.cs l (j+1)+c.V (l+j+1) r (m-c.w (l+j+1))+c.V l (l+j+1) m=c.V l r m)(u:c.V l r m<1152921504606846976):
  c.V (l+j+1) r (m-c.w (l+j+1))<1152921504606846976/\c.V l (l+j+1) m<1152921504606846976:=by
 have a:=(h.mod (l:=l+j+1) (r:=r) (m:=m-c.w (l+j+1)) om hr).lo;have b:=(h.mod (l:=l) (r:=l+j+1) (m:=m) om om).lo;have d:=h.Xq l (j+1);omega
def Ch.TZ.run(h:c.Ok){l r:Nat}{m:Int}{p:List (Int×Int)}(hp:TZ c l r m p):l<r->r<=c.n->∀{cap:Int} {s:St},Start c l r m cap s->∃s',c.run cap s p=(0,s')/\End c l r m s s':=by
 induction hp with
 | @last l m Z hm=>
  intro _ _ cap s hs;have hn:(l:Int)+1=(c.n:Int):=by omega
  have hnt:((l:Int)+1).toNat=l+1:=by omega
  have D:((l:Int)+1-1).toNat=l:=by omega
  have I:=hs.cap;have nT:(l:Int)+1∉s.T:=λhi=>by have:=hs.tin _ hi;omega
  have P:s.G=[]:=by rw[hs.g,ah Z]
  have Q:s.em=0:=by rw[hs.em,ah Z]
  have R:s.sd=0:=by rw[hs.sd,ah Z]
  have J:s.dn=0:=by rw[hs.dn];omega
  have nS:(l:Int)+1∉s.S:=λhi=>by have:=(hs.sin _).1 hi;rw[ah Z]at this;omega
  have U:∀t:St,t.T=s.T->ready t ((l:Int)+1)=true:=λt ht=>by
   unfold ready;rw[ht];rcases hs.tl with e|e
   .simp[e]
   .have:(l:Int)+1-1∈s.T:=by simpa using e
    rw[acF this,Bool.or_true]
  have adn:∀t:St,t.T=s.T++[(l:Int)+1]->ready t ((l:Int)+1)=true:=λt ht=>by
   unfold ready;rw[ht];rcases hs.tl with e|e
   .simp[e]
   .have:(l:Int)+1-1∈s.T++[(l:Int)+1]:=bJ.2 (.inl (by simpa using e));rw[acF this,Bool.or_true]
  have xb:c.w (l+1)+c.kept l<=m:=hm;have HY:=h.oB l;have Ma:=h.G9 (l+1);obtain⟨E,F⟩:=lg (c.Z1 {s with T:=s.T++[(l:Int)+1],S:=acQ s.S ((l:Int)+1)++[(l:Int)+1],co:=s.co+c.k l});have d1:c.doI cap s 1 ((l:Int)+1)=(0,E):=by
   unfold doI;rw[ah om,ac1 nS,ac1 nT,U s rfl,hnt,D,ag aG,ag (by unfold used;rw[P];simp only[acN];omega),F]
  have t1:E.T=s.T++[(l:Int)+1]:=by rw[F];rfl
  have G1:E.G=[]:=by rw[F];exact P
  have p1:E.pk=max s.pk (c.acN s.T+c.w (l+1)):=by rw[F];simp[Z1,used,acO,acN,P,hnt]
  obtain⟨s2,K⟩:=lg (c.Z1 {E with em:=1});have d2:c.doI cap E 4 0=(0,s2):=by
   unfold doI;rw[ag om,ag om,ah rfl,ag,K];rw[show E.em=0 from by rw[F];exact Q,acF (by rw[t1,hn];simp)];simp
  have t2:s2.T=s.T++[(l:Int)+1]:=by rw[K];exact t1
  have G2:s2.G=[]:=by rw[K];exact G1
  have p2:s2.pk=max E.pk (c.acN s.T+c.w (l+1)):=by rw[K];simp[Z1,used,acO,acN,G1,t1,hnt]
  obtain⟨B,u⟩:=lg (c.Z1 {s2 with T:=acQ s2.T ((l:Int)+1)});have d3:c.doI cap s2 3 ((l:Int)+1)=(0,B):=by
   unfold doI;rw[ag om,ah rfl,ah (by rw[t2];exact acF aG),u]
  have t3:B.T=s.T:=by rw[u];simp only[Z1];rw[t2,acS nT]
  have G3:B.G=[]:=by rw[u];exact G2
  have p3:B.pk=max s2.pk (c.acN s.T):=by
   rw[u];simp only[Z1,used];rw[t2,acS nT,G2];simp[acN]
  obtain⟨b,L⟩:=lg (c.Z1 {B with sd:=1,G:=B.G++[(c.n:Int)]});have wn:c.w c.n=c.w (l+1):=by rw[Z]
  have d4:c.doI cap B 5 0=(0,b):=by
   unfold doI;rw[ag om,ag om,ag om,ah rfl,ag,ag,L]
   .unfold used;rw[t3,G3,wn];simp only[acN];omega
   .have:B.sd=0:=by rw[u,K,F];exact R
    rw[this];omega
  have t4:b.T=s.T:=by rw[L];exact t3
  have G4:b.G=[(c.n:Int)]:=by rw[L];simp only[Z1];rw[G3];rfl
  have p4:b.pk=max B.pk (c.acN s.T+c.w (l+1)):=by rw[L];simp[Z1,used,acN,t3,G3,wn]
  have dn4:b.dn=0:=by rw[L,u,K,F];exact J
  have em4:b.em=1:=by rw[L,u,K];rfl
  have sd4:b.sd=1:=by rw[L];rfl
  have co4:b.co=s.co+c.k l:=by rw[L,u,K,F];rfl
  have S4:b.S=acQ s.S ((l:Int)+1)++[(l:Int)+1]:=by rw[L,u,K,F];rfl
  have c6:(!b.G.contains ((l:Int)+1)|| !ready b ((l:Int)+1)||decide ((l:Int)+1≠(c.n:Int)-b.dn))=false:=by
   rw[U b t4,G4,dn4,hn];simp
  have y:∀i:Int,i∈b.S↔1<=i/\i<=(c.n:Int):=λi=>by
   rw[S4];simp only[bJ,adi,cF,hs.sin,ah Z];omega
  have hV:c.V l (l+1) m=c.k l:=by rw[TJ,ah hm,own,ah Z,Nat.add_sub_cancel]
  have z:∀s5,c.doI cap b 6 ((l:Int)+1)=(0,s5)->c.run cap s [(1,(l:Int)+1),(4,0),(3,(l:Int)+1),(5,0),(6,(l:Int)+1)]=(0,s5):=λs5 N=>by
   simp only[Ch.run];rw[d1];simp only[wj];rw[d2];simp only[wj];rw[d3];simp only[wj];rw[d4];simp only[wj];rw[N];simp only[wj]
  by_cases C:l=0
  .have N:c.doI cap b 6 ((l:Int)+1)=(0,{c.Z1 {b with dn:=b.dn+1}with G:=acQ b.G ((l:Int)+1)}):=by
    unfold doI;rw[ag om,ag om,ag om,ag om,ah rfl,c6,ag aG,ag om];rfl
   refine⟨_,z _ N,t4,?_,em4,sd4,?_,y,?_,?_⟩
   .simp only[G4,hn,ah C];simp[acQ]
   .simp only[Z1,dn4];omega
   .simp only[Z1,co4,hV]
   .simp only[Z1,used,t4,G4,p4,p3,p2,p1,acN];rw[show((c.n:Int)).toNat=l+1 from om];omega
  .have kl:c.kept l=c.w l:=by unfold kept;rw[ag C]
   have N:c.doI cap b 6 ((l:Int)+1)=(0,{c.Z1 {b with G:=b.G++[(l:Int)+1-1],dn:=b.dn+1}with G:=acQ (b.G++[(l:Int)+1-1]) ((l:Int)+1)}):=by
    unfold doI;rw[ag om,ag om,ag om,ag om,ah rfl,c6,ag aG,ah om,ag]
    .rfl
    .unfold used;rw[t4,G4,D];simp only[acN];rw[show((c.n:Int)).toNat=l+1 from om];omega
   refine⟨_,z _ N,t4,?_,em4,sd4,?_,y,?_,?_⟩
   .simp only[G4,hn,ag C];rw[show(c.n:Int)-1=(l:Int)from om];have:(l:Int)≠c.n:=by omega
    simp[acQ,this]
   .simp only[Z1,dn4];omega
   .simp only[Z1,co4,hV]
   .simp only[Z1,used,t4,G4,p4,p3,p2,p1,acO,acN,D];rw[show((c.n:Int)).toNat=l+1 from om];omega
 | @one l m Z hm=>
  intro _ _ cap s hs;have O:¬l+1=c.n:=om;have D:((l:Int)+1-1).toNat=l:=by omega
  have I:=hs.cap;have P:s.G=[((l+1:Nat):Int)]:=by rw[hs.g,ag O]
  have Q:s.em=1:=by rw[hs.em,ag O]
  have R:s.sd=1:=by rw[hs.sd,ag O]
  have J:=hs.dn;have U:ready s ((l:Int)+1)=true:=by
   unfold ready;rcases hs.tl with e|e
   .simp[e]
   .have:(l:Int)+1-1∈s.T:=by simpa using e
    rw[acF this,Bool.or_true]
  have c6:(!s.G.contains ((l:Int)+1)|| !ready s ((l:Int)+1)||decide ((l:Int)+1≠(c.n:Int)-s.dn))=false:=by
   rw[U,P,J];have:(l:Int)+1=(c.n:Int)-((c.n:Int)-((l+1:Nat):Int)):=by omega
   simp;omega
  have y:∀i:Int,i∈s.S↔1<=i/\i<=(c.n:Int):=λi=>by rw[hs.sin,ag O]
  have hV:c.V l (l+1) m=0:=by rw[TJ,ah hm,own,ag O]
  have xb:c.w (l+1)+c.kept l<=m:=hm;have HY:=h.oB l;have z:∀s5,c.doI cap s 6 ((l:Int)+1)=(0,s5)->c.run cap s [(6,(l:Int)+1)]=(0,s5):=λs5 N=>by
   simp only[Ch.run];rw[N];simp only[wj]
  by_cases C:l=0
  .have N:c.doI cap s 6 ((l:Int)+1)=(0,{c.Z1 {s with dn:=s.dn+1}with G:=acQ s.G ((l:Int)+1)}):=by
    unfold doI;rw[ag om,ag om,ag om,ag om,ah rfl,c6,ag aG,ag om];rfl
   refine⟨_,z _ N,rfl,?_,Q,R,?_,y,?_,?_⟩
   .simp only[P,ah C];simp[acQ]
   .simp only[Z1,J];omega
   .simp only[Z1,hV];omega
   .simp only[Z1,used,P,acN];rw[show((l+1:Nat):Int).toNat=l+1 from om];omega
  .have kl:c.kept l=c.w l:=by unfold kept;rw[ag C]
   have N:c.doI cap s 6 ((l:Int)+1)=(0,{c.Z1 {s with G:=s.G++[(l:Int)+1-1],dn:=s.dn+1}with G:=acQ (s.G++[(l:Int)+1-1]) ((l:Int)+1)}):=by
    unfold doI;rw[ag om,ag om,ag om,ag om,ah rfl,c6,ag aG,ah om,ag]
    .rfl
    .unfold used;rw[P,D];simp only[acN];rw[show((l+1:Nat):Int).toNat=l+1 from om];omega
   refine⟨_,z _ N,rfl,?_,Q,R,?_,y,?_,?_⟩
   .simp only[P,ag C];rw[show(l:Int)+1-1=(l:Int)from om];simp[acQ];omega
   .simp only[Z1,J];omega
   .simp only[Z1,hV];omega
   .simp only[Z1,used,P,acO,acN,D];rw[show((l+1:Nat):Int).toNat=l+1 from om];omega
 | @split l r j m p q hj hr hn hv hm hp hq ihp ihq=>
  intro _ _ cap s hs;have I:=hs.cap;obtain⟨E,F,M⟩:=adl h hs hr (j+1) om hn;have t1:E.T=s.T++[(l:Int)+j+1]:=by rw[M.t,ag (by omega)];congr 2
  have xQ:((l:Int)+j+1).toNat=l+j+1:=by omega
  have adh:((l+j+1:Nat):Int)=(l:Int)+j+1:=by omega
  have sT1:c.acN E.T=c.acN s.T+c.w (l+j+1):=by rw[t1,acO];simp[acN,xQ]
  have hw:=h.Xp hn;have Ma:=h.G9 (l+j+1);have st1:Start c (l+j+1) r (m-c.w (l+j+1)) cap E:=
   ⟨λi hi=>by
    rw[t1]at hi;rcases bJ.1 hi with hi|hi
    .have:=hs.tin i hi;omega
    .rw[cF.1 hi];omega,
    .inr (by rw[t1,adh];simp),by rw[M.g];exact hs.g,by rw[M.em];exact hs.em,by rw[M.sd];exact hs.sd,by rw[M.dn];exact hs.dn,
    λi=>by rw[M.sin];split<;>omega,by rw[sT1];omega⟩
  obtain⟨s2,K,X⟩:=ihp om hr st1;have nT:(l:Int)+j+1∉s.T:=λhi=>by have:=hs.tin _ hi;omega
  have t2:s2.T=s.T++[(l:Int)+j+1]:=by rw[X.t,t1]
  obtain⟨B,u⟩:=lg (c.Z1 {s2 with T:=acQ s2.T ((l:Int)+j+1)});have d3:c.doI cap s2 3 ((l:Int)+j+1)=(0,B):=by
   unfold doI;rw[ag om,ah rfl,ah (by rw[t2];exact acF aG),u]
  have t3:B.T=s.T:=by rw[u];simp only[Z1];rw[t2,acS nT]
  have Y:¬l+j+1=c.n:=om;have G3:B.G=[((l+j+1:Nat):Int)]:=by rw[u];simp only[Z1];rw[X.g,ag om]
  have st3:Start c l (l+j+1) m cap B:=
   ⟨by rw[t3];exact hs.tin,by rw[t3];exact hs.tl,by rw[ag Y];exact G3,by rw[ag Y,u];exact X.em,by rw[ag Y,u];exact X.sd,by rw[u];exact X.dn,
    λi=>by rw[ag Y,u];exact X.sin i,by rw[t3];exact I⟩
  obtain⟨b,L,E4⟩:=ihq om om st3;refine⟨b,?_,by rw[E4.t,t3],E4.g,E4.em,E4.sd,E4.dn,E4.sin,?_,?_⟩
  .have r1:c.run cap s (c.fwd l r (j+1)++p)=(0,s2):=by rw[acW _ _ _ (by rw[F]),F];exact K
   have r2:c.run cap s (c.fwd l r (j+1)++p++[(3,(l:Int)+j+1)])=(0,B):=by
    rw[acW _ _ _ (by rw[r1]),r1];simp only[Ch.run];rw[d3];simp
   rw[acW _ _ _ (by rw[r2]),r2];exact L
  .rw[E4.co,u];simp only[Z1];rw[X.co,M.co];omega
  .have p4:=E4.pk;have p2:=X.pk;have p1:=M.pk;have p3:B.pk=max s2.pk (c.acN s.T+c.w (l+j+1)):=by
    rw[u];simp only[Z1,used];rw[t2,acS nT,X.g,ag om];simp only[acN,bI,Kq]
   rw[t3]at p4;rw[sT1]at p2;omega
def Ch.TZ.only{m:Int}{p q:List (Int×Int)}(hp:TZ c l r m p):TZ c l r m q->p=q:=by
 induction hp generalizing q with
 |last h hm=>
  intro hq;cases hq with
  |last=>rfl
  |one G=>omega
  |split E=>omega
 |one h hm=>
  intro hq;cases hq with
  |last G=>omega
  |one=>rfl
  |split E=>omega
 |split E hr I hv hm hp hq b u=>
  intro J;cases J with
  |last=>omega
  |one=>omega
  | @split _ _ F _ M N K L y z B C D=>
   rename_i j _ _ _;have e:j=F:=by
    rcases Cc j F with h|h|h
    .exact absurd ⟨I,hv⟩ (B _ h)
    .exact h
    .exact absurd ⟨y,z⟩ (hm _ h)
   subst e;rw[b C,u D]
variable{w' w0:World}{A B:Option Addr}{M m mb q sb:Nat}{cap:Int}
section
variable{w:World}{n p:Nat}
def Ch.Ed{V:Nat->Nat->Int->Int}{l r:Nat}{m:Int}:∀j,c.pv V l r m j<1152921504606846976->
  ∃i,i<j/\c.nd l r (i+1)<=m/\c.cs l (i+1)+V (l+i+1) r (m-c.w (l+i+1))+V l (l+i+1) m=c.pv V l r m j
 |0,h=>by simp[Ch.pv]at h
 |j+1,h=>by
  simp only[Ch.pv]at h⊢;by_cases e:c.nd l r (j+1)<=m
  .rw[ah e]at h⊢;by_cases y:c.pv V l r m j<=c.cs l (j+1)+V (l+j+1) r (m-c.w (l+j+1))+V l (l+j+1) m
   .rw[Int.min_eq_left y]at h⊢;obtain⟨i,z,b,u⟩:=Ch.Ed j h;exact⟨i,om,b,u⟩
   .rw[Int.min_eq_right om];exact⟨j,p5 j,e,rfl⟩
  .rw[ag e]at h⊢;obtain⟨i,z,b,u⟩:=Ch.Ed j h;exact⟨i,om,b,u⟩
def Ch.OV{m:Int}(h:l+1<r)(hV:c.V l r m<1152921504606846976):∃i,i<r-l-1/\c.TU l r m i:=by
 rw[Ch.LC h]at hV;obtain⟨i,b,e,j⟩:=Ch.Ed _ hV;exact⟨i,b,e,by rw[Ch.LC h];exact j⟩
def TW(w0 w:World)(mb:Nat)(c:Ch)(cap:Int)(l r M:Nat)(e:Ending)(w':World):Prop:=
 ∃k j:Nat,Hx (k=l+j+1)/\e=.returned (.int .i64 k)/\k<r/\Hx (c.TU l r M j)/\Hx (∀i,i<j->¬c.TU l r M i)/\Hx (Mem w' mb c cap (λ_=>False) (λ_ _=>False))/\Nx mb w' w/\aj w' w0
def TX(E:Hx c.Ok)(vd:0<=cap)(Af:cap<=4096)(BU:w0.heap.size<=mb)(hl:l+1<r)(hr:r<=c.n)
  [a:Sl w0 A n c.W] [b:Sl w0 B m c.K] [hp:aj w w0] [Bx w sb 292 (e5 A n p B m q cap mb)] (hm:Hx (Mem w mb c cap (λ_=>False) (λ_ _=>False))) (hM:M<c.rl cap l) (hV:Hx (c.V l r M<1152921504606846976)):
  () 243 #[.pointer sb,.agg #[l,r],M] w (TW w0 w mb c cap l r M):=by
 obtain⟨CB,CP⟩:=h5;have FR:=@oD;have JT:=E.o.n2;have TO:m=c.n:=b.len;have JU:n=c.n+1:=a.len.trans E.o.len;have Q:∀l' r',l'<r'->r'<=c.n->pQ w0 sb A n p B m q c cap mb l' r':=λl' r' h1 h2=>oF E vd Af BU r' l' r' om h1 h2;have Gd:=Q l r om hr;have WC:r<=m:=om;have Xt:m<=64:=om;have qp:=ae JU;have O:=ae (Ch.OV hl hV.o);have hMc:(M:Int)<=cap-c.kept l:=by unfold Ch.rl at hM;omega
 have HML:=ae hM;obtain⟨N,hN⟩:=lh (c.rl cap l);rw[hN]at hM;obtain⟨x,hx⟩:=lh (c.V l r M);have e1:(ints (c.row cap l r))[M]?=some (.int .i64 x):=by rw[eu,Ch.oC (by rw[hN];exact hM),hx];rfl
 have HN:=ae hN;have HX:=ae hx;have hHV:=ae Q;clear TO JU JT hN hx Q;go_enter func243,ntmps243
 go_upto_region 3 with(go_at_call 199;(with_reducible refine dO (λu _ _=>?_));(with_reducible refine(Gd.at (ab w0 u) (hm.o.at (w':=u)) (λ_ h=>h.elim) (λ_ _ h=>h.elim)).mono ?_);rintro e v9 ⟨g,rfl,kR,nb,mR,nx,pR⟩;rw[HN.o])
 have XW:=mR;have nx9:Nx mb v9 w:=((Nx.of hm.o).trans nx);have kS9:Bx v9 sb 292 (e5 A n p B m q cap mb):=ao;have kP9:Bx v9 w.heap.size 294 #[l,r]:=ao;have R:=ae nx9;clear nx9 nx kR nb e1 HN hM hm Gd
 go_wp2_with fail
 go_loopw [8,9,10] (λx y z wr=>∃(j k N2:Nat) (C:Int),k<=r/\x=.int .i64 N2/\y=.int .i64 C/\z=.int .i64 k/\Hx (k=l+j+1)/\Hx (c.nd l r j=(N2:Int))/\Hx (c.cs l j=C)/\Hx (∀i,i<j->¬c.TU l r M i)/\Hx (Mem wr mb c cap (λ_=>False) (λ_ _=>False))/\Hx (Nx mb wr w)/\Bx wr sb 292 (e5 A n p B m q cap mb)/\Bx wr w.heap.size 294 #[l,r]/\aj wr w0) (λ_ _ z _=>r-(intOf z).toNat)
 case atStart=>exact⟨0,l+1,0,0,om,rfl,rfl,by go_num,ae rfl,ae rfl,ae rfl,ae (λi h=>absurd h (ju i)),XW,R,kS9,kP9,ab _ _⟩
 case round=>
  obtain⟨j,k,N2,C,hk,rfl,rfl,rfl,F,N4,H2,J,HM,R,kS,kP,pr⟩:=hrel;by_cases L:k<r;rotate_left
  .exfalso;obtain⟨i,h1,h2⟩:=O.o;have:=F.o;exact J.o i om h2
  obtain⟨N3,S⟩:∃N3:Nat,c.nd l r (j+1)=(N3:Int):=⟨(c.nd l r (j+1)).toNat,by have:=Ch.ab3 (c:=c) l r (j+1);omega⟩;by_cases hNM:M<N3
  .exfalso;obtain⟨i,h1,h2⟩:=O.o;by_cases X0:i<j
   .exact J.o i X0 h2
   .have:=Ch.ab4 (c:=c) (l:=l) (r:=r) (i:=j+1) (j:=i+1) om;have:=h2.1;omega
  have T:l<k:=by have:=F.o;omega
  have hjr:j<=64:=by have:=F.o;omega
  have vn:k<n:=by have:=qp.o;omega
  obtain⟨U,DC⟩:=lh (l+j);have hjm:U<m:=by have:=F.o;omega
  have PV:max (N2:Int) (c.step l r k)=(N3:Int):=by rw[<-S,Ch.nd,N4.o,<-F.o]
  have TS:=E.o.Xq l j;have zV:=E.o.Xr l j;have HY:=E.o.k_0 U;have Mv:=E.o.k_2 U;rw[H2.o]at TS zV;obtain⟨I,X⟩:=lh (C+c.k U);have vk:Hx (c.cs l (j+1)=I):=ae (by rw[Ch.cs,H2.o,DC,X]);have hw4:IntKind.i64.wrap (C+c.k U)=I:=by rw[X,aV];omega
  have PF:IntKind.i64.wrap ((k:Int)-1)=(U:Int):=by rw[aV];have:=F.o;omega
  have Y:=ae S;have TK:c.w k<=(M:Int):=by
   have:=E.o.Xp (l:=l) (r:=r) (j:=j) (m:=(M:Int)) (by rw[Y.o];omega);rwa[<-F.o]at this
  obtain⟨D,hD⟩:∃D:Nat,(M:Int)-c.w k=(D:Int):=⟨((M:Int)-c.w k).toNat,om⟩;have Ma:=E.o.G9 k;have zO:c.kept k=c.w k:=by unfold Ch.kept;rw[ag om]
  have Fc:=E.o.oB l;have Nw:D<c.rl cap k:=by unfold Ch.rl;rw[zO];omega
  have e2:(ints (c.row cap k r))[D]?=some (.int .i64 (c.V k r (D:Int))):=by rw[eu,Ch.oC Nw];rfl
  have e3:(ints (c.row cap l k))[M]?=some (.int .i64 (c.V l k (M:Int))):=by rw[eu,Ch.oC HML.o];rfl
  have hM4:M<=4096:=om;have hs:IntKind.i64.wrap (D:Int)=(D:Int):=by rw[aV];omega
  have m1:=E.o.mod (l:=k) (r:=r) (m:=(D:Int)) L hr;have m2:=E.o.mod (l:=l) (r:=k) (m:=(M:Int)) T om;have Qg:=m1.lo;have TL:=m1.hi om;have TM:=m2.lo;have TN:=m2.hi om;obtain⟨x1,Z⟩:=lh (c.V k r (D:Int));obtain⟨x2,Tz⟩:=lh (c.V l k (M:Int));rw[Z]at e2 Qg TL;rw[Tz]at e3 TM TN;have s1:IntKind.i64.wrap (I+x1)=I+x1:=by rw[aV];omega
  have s2:IntKind.i64.wrap (I+x1+x2)=I+x1+x2:=by rw[aV];omega
  have HEQ:Hx (c.TU l r M j↔I+x1+x2=x):=ae (by
   unfold Ch.TU;rw[vk.o,Y.o,HX.o,<-F.o,hD,Z,Tz];exact⟨λh=>h.2,λh=>⟨om,h⟩⟩)
  obtain⟨Nk,hNk⟩:=lh (c.rl cap k);obtain⟨Nl,hNl⟩:=lh (c.rl cap l);rw[hNk]at Nw;have hMl:M<Nl:=by rw[<-hNl];exact HML.o
  have HNK:=ae hNk;have HNL:=ae hNl;obtain⟨b1,o1,hB,q6,v1⟩:=Sl.TD (c:=c) (w:=w0) (A:=B) (n:=m) (l:=U) hjm;obtain⟨b2,o2,hA,jf,v2⟩:=Sl.zm (c:=c) (w:=w0) (A:=A) (n:=n) (l:=k) vn;subst hA hB;clear m1 m2 Qg TL TM TN Z Tz Fc zO Ma TK TS zV HY Mv X S DC hjr hNk hNl
  go_wp2_with fail
  refine am aq (λu1 _=>?_);refine ap 0 ?_;refine ap 1 ?_;refine ap 2 ?_;refine ap 3 ?_;refine ap 4 ?_;refine ap 5 ?_;refine ap 6 ?_;refine aM 7 λK hK=>?_;go_simp
  (with_reducible refine(zn E T L WC).mono ?_)
  rintro e u1 ⟨rfl,_⟩;dsimp only;refine aL hK ?_;clear hK K;refine ap 8 ?_;refine ap 9 ?_;refine aZ ?_
  go_upto_region 9 with fail
  refine aR w0 (λw9=>Bx w9 w.heap.size 294 #[l,r]) aq ao (λux _=>?_);refine bw 0 ?_;refine bw 1 ?_;refine bw 2 ?_;refine bw 3 ?_;refine bw 4 ?_;refine bw 7 ?_;refine bw 8 ?_;refine bw 9 ?_;refine bw 10 ?_;refine bw 11 ?_;refine aM 5 λK hK=>?_;go_simp
  (with_reducible refine((hHV.o k r L hr).at (ab w0 ux) (HM.o.at (w':=ux)) (λ_ h=>h.elim) (λ_ _ h=>h.elim)).mono ?_)
  rintro e ux ⟨gR,rfl,kR,nbR,mR,nxR,pR⟩;dsimp only;refine aL hK ?_ ⟨ab w0 _,ao⟩;clear hK K;rw[HNK.o];refine bw 6 ?_;refine aM 12 λK hK=>?_;go_simp
  (with_reducible refine((hHV.o l k T om).at pR mR.o (λ_ h=>h.elim) (λ_ _ h=>h.elim)).mono ?_)
  rintro e ux ⟨gL,rfl,kL,nbL,mL,nxL,pL⟩;dsimp only;refine aL hK ?_ ⟨ab w0 _,ao⟩;clear hK K;rw[HNL.o];refine bw 13 ?_;refine bw 14 ?_;refine bw 15 ?_;refine aZ ?_
  go_upto_region 10 with fail
  obtain⟨v,rfl⟩:=lg ux;have qo:Nx mb v w:=((R.o.trans (Nx.of HM.o)).trans nxR).trans nxL;have P:=ae qo;have kS2:Bx v sb 292 (e5 (some ⟨b2,o2,none⟩) n p (some ⟨b1,o1,none⟩) m q cap mb):=ao;have kP2:Bx v w.heap.size 294 #[l,r]:=ao;have kR2:Bx v gR 3 (ints (c.row cap k r)):=ao;clear qo nxR nxL kS kP pr pR mR kR;have hsD:IntKind.i64.wrap ((M:Int)-c.w k)=(D:Int):=by rw[hD];exact hs
  clear hD;by_cases G:I+x1+x2=x
  .have t1:(I+x1+x2==x)=true:=by simpa using G
   have HIT:=ae (HEQ.o.2 G);clear G;refine am aq (λuz _=>?_);refine ap 0 ?_;refine ap 1 ?_;refine ap 2 ?_;refine ap 3 ?_;refine ap 4 ?_;refine ap 5 ?_;refine ap 6 ?_;refine ap 7 ?_;refine ap 8 ?_;refine ap 9 ?_;refine ap 10 ?_;refine ap 11 ?_;refine ap 12 ?_;refine ap 13 ?_;refine ap 14 ?_;refine ap 15 ?_;refine ap 16 ?_;refine ap 17 ?_;refine ap 18 ?_;refine ap 19 ?_;refine ap 20 ?_;refine ap 21 ?_;refine aZ ?_
   go_wp2_with fail
   go_ret;exact⟨k,j,F,rfl,L,HIT,J,ae mL.o.at,P.o.trans (Nx.of mL.o),ab _ _⟩
  .have t1:(I+x1+x2==x)=false:=by simpa using G
   have HIT:=ae (λh=>G (HEQ.o.1 h));clear G;refine am aq (λuz _=>?_);refine ap 0 ?_;refine ap 1 ?_;refine ap 2 ?_;refine ap 3 ?_;refine ap 4 ?_;refine ap 5 ?_;refine ap 6 ?_;refine ap 7 ?_;refine ap 8 ?_;refine ap 9 ?_;refine ap 10 ?_;refine ap 11 ?_;refine ap 12 ?_;refine ap 13 ?_;refine ap 14 ?_;refine ap 15 ?_;refine ap 16 ?_;refine ap 17 ?_;refine ap 18 ?_;refine ap 19 ?_;refine ap 20 ?_;refine ap 21 ?_;refine aZ ?_
   go_wp2_with fail
   exact⟨⟨j+1,k+1,N3,I,om,rfl,rfl,by go_num,ae (by rw[F.o];omega),Y,vk,ae (λi hi=>by
    by_cases e:i=j
    .subst e;exact HIT.o
    .exact J.o i om),ae (mL.o.at (w':=uz)),ae (P.o.trans (Nx.of mL.o)),ao,ao,ab _ _⟩,by simp[intOf];omega⟩
end
variable{b g i wb:Nat}{u:World}{id z:Int}{ps:List (Int×Int)}{T T':TypeId}{i4:Array Value}
def mG(bs:List Bool):Array Value:=(bs.map Value.bool).toArray
def JV{bs:List Bool}{x:Bool}(h:bs[i]?=some x):(mG bs)[i]?=some (.bool x):=by simp[mG,h]
def JX{bs:List Bool}{x:Bool}:(mG bs).setIfInBounds i (.bool x)=mG (bs.set i x):=by simp[mG,kq]
section
variable{w x:World}{n p gs:Nat}{bs:List Bool}
structure WI(w0 w:World)(sb:Nat)(A:Option Addr)(n p:Nat)(B:Option Addr)(m q:Nat)(c:Ch)(cap:Int)(mb wb gs:Nat)(bs:List Bool)(ps:List (Int×Int)):Prop where
 pr:aj w w0
 Ee:Bx w sb 292 (e5 A n p B m q cap mb)
 mem:Mem w mb c cap (λ_=>False) (λ_ _=>False)
 wr:∃CA cc,Bx w wb 299 #[.pointer sb,.slice gs n n,.slice CA ps cc]/\bM w w0 CA cc ps
 sv:Bx w gs 4 (mG bs)
 vc:w0.heap.size<=wb
 Gg:w0.heap.size<=gs
 ce:w0.heap.size<=mb
structure Kp(mb wb gs:Nat)(w w':World):Prop where
 size:w.heap.size<=w'.heap.size
 keep:∀b,b<w.heap.size->b≠mb->b≠wb->b≠gs->(∀cs fz,w.heap[b]?≠some (.cells cs 98 fz))->w'.heap[b]?=w.heap[b]?
def Kp.trans(h:Kp mb wb gs w x)(k:Kp mb wb gs x u):Kp mb wb gs w u:=
 ⟨aO h.size k.size,λb hb j l r y=>by
  have e:=h.keep b hb j l r y;exact(k.keep b (bu hb h.size) j l r (λcs z=>by rw[e];exact y cs z)).trans e⟩
def Kp.of[l:aF w w']:Kp mb wb gs w w':=⟨l.st.size,λb hb _ _ _ _=>l.st.block b hb⟩
def Kp.nx(h:Nx mb w' w):Kp mb wb gs w w':=⟨h.st.size,λb hb e _ _ _=>h.keep b hb e⟩
def aB.qj{k:Nat}{cs:Array Value}(h:aB w g T cs)(b:aB w k T' i4)(j:T≠T'):g≠k:=λe=>by
 subst e;unfold aB at h b;rw[h]at b;injection b with b;injection b with _ l
 exact j l
theorem Kp.bx{cs:Array Value}(h:Kp mb wb gs w w')(i:WI w0 w sb A n p B m q c cap mb wb gs bs ps)(k:Bx w b T cs)(j:T≠98)(l:T≠299)(r:T≠4):Bx w' b T cs:=by
 obtain⟨_,_,y,_⟩:=i.wr;refine⟨(h.keep b k.al.lt (i.mem.aS k.al) (k.al.qj y.al l) (k.al.qj i.sv.al r) λz C e=>?_).trans k.al⟩;have:=k.al;unfold aB at this;rw[this]at e;injection e with e;injection e with _ e
 exact j e
def WI.at[l:aF w w'](h:WI w0 w sb A n p B m q c cap mb wb gs bs ps):WI w0 w' sb A n p B m q c cap mb wb gs bs ps:=by
 obtain⟨CA,cc,b,e⟩:=h.wr;have hp:=h.pr;have:aF w0 w:=ao;exact⟨⟨(aF.trans this l).st⟩,⟨h.Ee.al.at⟩,h.mem.at,⟨CA,cc,⟨b.al.at⟩,e.at⟩,⟨h.sv.al.at⟩,h.vc,h.Gg,h.ce⟩
def WI.nx(h:WI w0 w sb A n p B m q c cap mb wb gs bs ps)(k:Nx mb w' w)(hm:Mem w' mb c cap (λ_=>False) (λ_ _=>False))(hp:aj w' w0):WI w0 w' sb A n p B m q c cap mb wb gs bs ps:=by
 obtain⟨CA,cc,z,b⟩:=h.wr;have C:=h.Ee;have j:=h.sv;refine⟨hp,ao,hm,⟨CA,cc,ao,b.same λl e=>k.keep _ (b.lt l e) λj=>?_⟩,ao,h.vc,h.Gg,h.ce⟩;obtain⟨cs,D,r⟩:=b.HD l e;obtain⟨E,cl,y⟩:=k.map;rw[j,y]at r;cases r
def WI.keep(i:WI w0 w sb A n p B m q c cap mb wb gs bs ps)(hs:w.heap.size<=w'.heap.size)(h:∀b,b<w.heap.size->b≠wb->b≠gs->(∀cs z,w.heap[b]?≠some (.cells cs 98 z))->w'.heap[b]?=w.heap[b]?):
  Bx w' sb 292 (e5 A n p B m q cap mb)/\Mem w' mb c cap (λ_=>False) (λ_ _=>False)/\Kp mb wb gs w w':=by
 obtain⟨_,_,D,_⟩:=i.wr;have HD:∀{b:Nat} {T:TypeId} {cs:Array Value},aB w b T cs->T≠98->T≠299->T≠4->w'.heap[b]?=w.heap[b]?:=λ{b T cs} k j y C=>by
  refine h _ k.lt (k.qj D.al y) (k.qj i.sv.al C) λF z e=>?_;unfold aB at k;rw[k]at e;injection e with e;injection e with _ e
  exact j e
 refine⟨⟨(HD i.Ee.al ak ak ak).trans i.Ee.al⟩,?_,⟨hs,λb hb _ y C G=>h b hb y C G⟩⟩;obtain⟨I,cl,j,y⟩:=i.mem;have hm:w'.heap[mb]?=w.heap[mb]?:=h _ i.mem.lt (λe=>by have:=D.al;unfold aB at this;rw[<-e,j]at this;cases this) (λe=>by have:=i.sv.al;unfold aB at this;rw[<-e,j]at this;cases this) (λcs z e=>by rw[j]at e;cases e);refine⟨I,cl,hm.trans j,λe J=>?_⟩;obtain⟨l,r,g,K,L,M,N,E,O,P⟩:=y e J;exact⟨l,r,g,K,L,M,N,(HD (T:=3) (cs:=ints (c.row cap l r)) E ak ak ak).trans E,O,P⟩
def qk(hi:Hx (WI w0 w sb A n p B m q c cap mb wb gs bs ps))(T:ps.length<=1000000):
  () 242 #[.pointer wb,z,id] w (λe w'=>e=.returned (.tuple #[])/\Hx (WI w0 w' sb A n p B m q c cap mb wb gs bs (ps++[(z,id)]))/\Hx (Kp mb wb gs w w')):=by
 have U:=@aa;have V:=@aP;obtain⟨CA,cc,F,G⟩:=hi.o.wr;have N:=hi.o.pr;have I:w0.heap.size<=w.heap.size:=ai;go_enter func242,ntmps242
 go_wp2_with (at_builtin;refine qB rfl _ _ _ rfl underlying50 rfl G z id rfl om I ?_;intro J c3 w3 y C l;obtain⟨D,-⟩:Bx w3 wb 299 #[.pointer sb,.slice gs n n,.slice CA ps cc]/\True:=⟨⟨(l _ F.al.lt (G.aS F.al ak)).trans F.al⟩,bA⟩)
 obtain⟨E,r⟩:=lg (w3.setCell ⟨wb,2,none⟩ (.slice J (ps.length+1) c3));have hS:∀b,b≠wb->E.heap[b]?=w3.heap[b]?:=λb hb=>by rw[r];exact bm _ ⟨wb,2,none⟩ _ b hb
 have O:E.heap.size=w3.heap.size:=by rw[r];simp
 have hF:∀b,b<w.heap.size->b≠wb->b≠gs->(∀cs M,w.heap[b]?≠some (.cells cs 98 M))->E.heap[b]?=w.heap[b]?:=λb hb P _ Q=>
  (hS b P).trans (l b hb λK e R=>by obtain⟨cs,M,ht⟩:=G.HD K e;rw[R]at ht;exact Q _ _ ht)
 obtain⟨f1,f2,f3⟩:=hi.o.keep (by rw[O];exact C.size) hF;have L:aB E wb 299 #[.pointer sb,.slice gs n n,.slice J (ps.length+1) c3]:=by rw[r];exact aB.ax D.al 2 _
 have j:=hi.o.sv;have S:Below w0 w0 E:=by rw[r];exact((a7 w0 w).trans C).setCell (p:=⟨wb,2,none⟩) hi.o.vc _
 refine⟨rfl,.tuple #[],by simp[results,results242,go_sem],rfl,ae (r▸⟨⟨S⟩,f1,f2,⟨J,c3,by rw[a1];exact⟨L⟩,y.same λK e=>hS _ (y.aS D.al ak K e)⟩,⟨(hS gs (j.al.qj F.al ak)).trans ((l gs j.al.lt (G.aS j.al ak)).trans j.al)⟩,hi.o.vc,hi.o.Gg,hi.o.ce⟩),ae (r▸f3)⟩
def WI.mark(i:WI w0 w sb A n p B m q c cap mb wb gs bs ps)(k:Nat)(v:Bool):WI w0 (w.setCell ⟨gs,k,none⟩ (.bool v)) sb A n p B m q c cap mb wb gs (bs.set k v) ps/\Kp mb wb gs w (w.setCell ⟨gs,k,none⟩ (.bool v)):=by
 obtain⟨CA,cc,j,l⟩:=i.wr;have r:=i.pr;have hS:∀b,b≠gs->(w.setCell ⟨gs,k,none⟩ (.bool v)).heap[b]?=w.heap[b]?:=λb hb=>bm _ ⟨gs,k,none⟩ _ b hb;obtain⟨f1,f2,f3⟩:=i.keep (w':=w.setCell ⟨gs,k,none⟩ (.bool v)) aG (λb _ _ h _=>hS b h);exact⟨⟨⟨(a7 w0 w).setCell (p:=⟨gs,k,none⟩) i.Gg _⟩,f1,f2,⟨CA,cc,⟨(hS _ (j.al.qj i.sv.al ak)).trans j.al⟩,l.same λy e=>hS _ (l.aS i.sv.al ak y e)⟩,⟨by rw[<-JX];exact i.sv.al.ax k _⟩,i.vc,i.Gg,i.ce⟩,f3⟩
def zu{bs:List Bool}{k:Nat}{v:Bool}(h:bs[k]?=some v):bs.set k v=bs:=by
 apply ek;intro i;rw[eZ]
 split
 .rename_i e;subst e;rw[h]
  split
  .rfl
  .rename_i b;exact absurd (a5.1 h).1 b
 .rfl
def pR{k:Nat}{v:Bool}(hi:Hx (WI w0 w sb A n p B m q c cap mb wb gs bs ps))(l:ps.length<=1000000)(y:k<n)(hv:Hx (bs[k]?=some v)):
  () 241 #[.pointer wb,k] w (λe w'=>e=.returned (.tuple #[])/\Hx (WI w0 w' sb A n p B m q c cap mb wb gs (bs.set k true) (ps++[(if v then 2 else 1,(k:Int))]))/\Hx (Kp mb wb gs w w')):=by
 have z:=@aa;have C:=@aP;obtain⟨CA,cc,D,E⟩:=hi.o.wr;have F:=hi.o.sv;have G:(mG bs)[k]?=some (.bool v):=JV hv.o;rcases v with _|_
 .have r:=hi.o.mark k true;go_enter func241,ntmps241
  go_wp2_with (go_at_call 242;refine(qk (ae r.1) l).mono ?_;rintro e u ⟨rfl,b,j⟩)
  exact⟨rfl,.tuple #[],by simp[results,results241,go_sem],rfl,b,ae (r.2.trans j.o)⟩
 .have hs:=ae (zu hv.o);go_enter func241,ntmps241
  go_wp2_with (go_at_call 242;refine(qk hi l).mono ?_;rintro e u ⟨rfl,b,j⟩)
  exact⟨rfl,.tuple #[],by simp[results,results241,go_sem],rfl,by rw[hs.o];exact b,j⟩
end
variable{v:Value}
class C0(w:World)(g:Nat)(v:outParam Value):Prop where
 eq:w.cell? ⟨g,0,none⟩=some v
section
variable{w x:World}{n p gs:Nat}{bs:List Bool}
def TY[h:C0 w g v]:w.cell? ⟨g,0,none⟩=some v:=h.eq
def OW{w:World}{g:Nat}{v:Value}(h:w.cell? ⟨g,i,none⟩=some v):g<w.heap.size:=by
 rcases h1:w.heap[g]? with _|o
 .simp[World.cell?,h1]at h
 .exact(eX.1 h1).1
instance(priority:=low) C0.step[p:aj w' w][h:C0 w g v]:C0 w' g v:=⟨(p.st.cell (p:=⟨g,0,none⟩) (OW h.eq)).trans h.eq⟩
def Marks(n t:Nat)(bs:List Bool):Prop:=bs.length=n/\∀i,1<=i->i<n->bs[i]?=some (decide (i<=t))
def Marks.set{t:Nat}(h:Marks n t bs):Marks n (t+1) (bs.set (t+1) true):=by
 refine⟨by rw[ej];exact h.1,λi l b=>?_⟩;rw[eZ];by_cases e:t+1=i
 .subst e;rw[ah rfl,ah (by rw[h.1];exact b),ef (an _)]
 .rw[ag e,h.2 i l b];congr 1;by_cases j:i<=t
  .rw[ef j,ef om]
  .rw[dD j,dD om]
def Marks.same{t k:Nat}(h:Marks n t bs)(b:k<=t)(e:1<=k)(j:k<n):Marks n t (bs.set k true):=by
 rw[zu]
 .exact h
 .rw[h.2 k e j,ef b]
def zv(w0 w:World)(sb:Nat)(A:Option Addr)(n p:Nat)(B:Option Addr)(m q:Nat)(c:Ch)(cap:Int)(mb wb gs:Nat)(ps:List (Int×Int))(l r M:Nat)(e:Ending)(w':World):Prop:=
 e=.returned (.tuple #[])/\∃code b,Hx (c.TZ l r M code)/\Hx (WI w0 w' sb A n p B m q c cap mb wb gs b (ps++code))/\Hx (Kp mb wb gs w w')/\Hx (Marks n c.n b)/\code.length+130<=135*(r-l)
def ml(w0:World)(sb:Nat)(A:Option Addr)(n p:Nat)(B:Option Addr)(m q:Nat)(c:Ch)(cap:Int)(mb wb gs l r:Nat):Prop:=
 ∀(w:World) (bs:List Bool) (ps:List (Int×Int)) (M:Nat),Hx (WI w0 w sb A n p B m q c cap mb wb gs bs ps)->(M:Int)<=cap-c.kept l->Hx (c.V l r M<1152921504606846976)->ps.length+135*(r-l)<=100000->Hx (Marks n (if r=c.n then l else c.n) bs)->
  () 200 #[.pointer wb,.agg #[l,r],M] w (zv w0 w sb A n p B m q c cap mb wb gs ps l r M)
def ml.at(h:ml w0 sb A n p B m q c cap mb wb gs l r)(b:Hx (WI w0 w sb A n p B m q c cap mb wb gs bs ps))(e:(M:Int)<=cap-c.kept l)(j:Hx (c.V l r M<1152921504606846976))(y:ps.length+135*(r-l)<=100000)(z:Hx (Marks n (if r=c.n then l else c.n) bs)):
  () 200 #[.pointer wb,.agg #[l,r],M] w (zv w0 w sb A n p B m q c cap mb wb gs ps l r M):=h w bs ps M b e j y z
def Ch.JY{M:Int}(h:c.V l (l+1) M<1152921504606846976):c.single l (l+1)<=M:=by
 rw[Ch.TJ]at h
 split at h
 .assumption
 .omega
def Ef(y:Hx (r=l+1))(hr:r<=c.n)(L:Hx c.Ok)[a:Sl w0 A n c.W][b:Sl w0 B m c.K]:ml w0 sb A n p B m q c cap mb wb gs l r:=by
 intro w bs ps M z hM hV hl Q;have CB:=@aa;have N:m=c.n:=b.len;have R:n=c.n+1:=a.len.trans L.o.len;have O:r<n:=om;have U:l<=64:=by have:=y.o;have:=L.o.n2;omega
 have Y:ps.length<=99900:=by have:=y.o;omega
 obtain⟨CA,cc,kW,oI⟩:=z.o.wr;have Z:=z.o.Ee;have t1:((r:Int)==(l:Int)+1)=true:=by have:=y.o;simp;omega
 have hS:=ae (Ch.JY (c:=c) (l:=l) (M:=M) (by rw[<-y.o];exact hV.o));have G:=ae N;clear N R;by_cases e:r=m
 .have t2:((r:Int)==(m:Int))=true:=by simp;omega
  have S:Hx (bs[r]?=some false):=ae (by
   rw[Q.o.2 r (by have:=y.o;omega) O,ah (e.trans G.o),dD (by have:=y.o;omega)])
  have V:=ae (e.trans G.o);clear e;go_enter func200,ntmps200
  go_wp2_with fail
  refine am aq (λI _=>?_);refine ap 0 ?_;refine ap 1 ?_;refine ap 2 ?_;refine ap 3 ?_;refine ap 4 ?_;refine ap 5 ?_;refine ap 6 ?_;refine ap 7 ?_;refine ap 8 ?_;refine ap 9 ?_;refine aZ ?_;obtain⟨J,-⟩:Bx I w.heap.size 294 #[l,r]/\True:=⟨ao,bA⟩;obtain⟨z,j⟩:Hx (WI w0 I sb A n p B m q c cap mb wb gs bs ps)/\Hx (Kp mb wb gs w I):=⟨ae z.o.at,ae Kp.of⟩
  go_wp2_with (first|(go_at_call 241;refine(pR z om O S).mono ?_;rintro e u ⟨rfl,F,C⟩;obtain⟨J,j⟩:Bx u w.heap.size 294 #[l,r]/\Hx (Kp mb wb gs w u):=⟨C.o.bx z.o J ak ak ak,ae (j.o.trans C.o)⟩;obtain⟨z,-⟩:_/\True:=⟨F,bA⟩;clear F C)|(go_at_call 242;refine(qk z (by(try simp);omega)).mono ?_;rintro e u ⟨rfl,F,C⟩;obtain⟨J,j⟩:Bx u w.heap.size 294 #[l,r]/\Hx (Kp mb wb gs w u):=⟨C.o.bx z.o J ak ak ak,ae (j.o.trans C.o)⟩;obtain⟨z,-⟩:_/\True:=⟨F,bA⟩;clear F C))
  have D:=Q.o;rw[ah V.o]at D;have E:=y.o;have P:l+1=c.n:=by rw[<-E];exact V.o
  have T:(r:Int)=(l:Int)+1:=by omega
  refine⟨rfl,.tuple #[],by simp[results,results200,go_sem],rfl,[(1,(l:Int)+1),(4,0),(3,(l:Int)+1),(5,0),(6,(l:Int)+1)],bs.set r true,ae (by rw[E];exact .last P hS.o),?_,j,ae (by rw[E,<-P];exact D.set),by simp;omega⟩;have X:=z.o;rw[T]at X;refine ae ?_;simpa using X
 .have t2:((r:Int)==(m:Int))=false:=by simp;omega
  have lA:r<c.n:=by have:=G.o;omega
  clear e;go_enter func200,ntmps200
  go_wp2_with fail
  refine am aq (λI _=>?_);refine ap 0 ?_;refine ap 1 ?_;refine ap 2 ?_;refine ap 3 ?_;refine ap 4 ?_;refine ap 5 ?_;refine ap 6 ?_;refine ap 7 ?_;refine ap 8 ?_;refine ap 9 ?_;refine aZ ?_;obtain⟨J,-⟩:Bx I w.heap.size 294 #[l,r]/\True:=⟨ao,bA⟩;obtain⟨z,j⟩:Hx (WI w0 I sb A n p B m q c cap mb wb gs bs ps)/\Hx (Kp mb wb gs w I):=⟨ae z.o.at,ae Kp.of⟩
  go_wp2_with (go_at_call 242;refine(qk z (by(try simp);omega)).mono ?_;rintro e u ⟨rfl,F,C⟩;obtain⟨J,j⟩:Bx u w.heap.size 294 #[l,r]/\Hx (Kp mb wb gs w u):=⟨C.o.bx z.o J ak ak ak,ae (j.o.trans C.o)⟩;obtain⟨z,-⟩:_/\True:=⟨F,bA⟩;clear F C)
  have D:=Q.o;rw[ag om]at D;have E:=y.o;have T:(r:Int)=(l:Int)+1:=by omega
  refine⟨rfl,.tuple #[],by simp[results,results200,go_sem],rfl,[(6,(l:Int)+1)],bs,ae (by rw[E];exact .one om hS.o),by rw[<-T];exact z,j,ae D,by simp;omega⟩
theorem WI.c0(h:WI w0 w sb A n p B m q c cap mb wb gs bs ps):C0 w wb (.pointer sb):=by
 obtain⟨_,_,b,_⟩:=h.wr;exact⟨b.al.cell 0⟩
def Ch.zw{l r:Nat}:∀j,(c.fwd l r j).length<=2*j
 |0=>by simp[Ch.fwd]
 |j+1=>by
  have:=Ch.zw (l:=l) (r:=r) j;simp only[Ch.fwd,a1,lO]
  split<;>simp<;>omega
def Ch.Hg(h:j<=64):(c.fwd l r j).length<=128:=by have:=Ch.zw (c:=c) (l:=l) (r:=r) j;omega
def Aw(hlr:l+1<r)(hr:r<=c.n)(I:Hx c.Ok)(vd:0<=cap)(Af:cap<=4096)[a:Sl w0 A n c.W][b:Sl w0 B m c.K]
  (ih:Hx (∀l' r',l'<r'->r'-l'<r-l->r'<=c.n->ml w0 sb A n p B m q c cap mb wb gs l' r')):ml w0 sb A n p B m q c cap mb wb gs l r:=by
 intro w bs ps M y hM hV hl V;obtain⟨CB,CP⟩:=h5;have CC:=@TY;have TO:m=c.n:=b.len;have JU:n=c.n+1:=a.len.trans I.o.len;have hrn:r<n:=om;have JT:=I.o.n2;have acG:l<=64:=om;have acH:r<=64:=om;have hl9:ps.length<=99900:=om;obtain⟨CA,cc,kW,oI⟩:=y.o.wr;have X:=y.o.pr;have JM:=y.o.Ee;have BU:=y.o.ce;have t1:((r:Int)==(l:Int)+1)=false:=by simp;omega
 have qp:=ae JU;have hMl:M<c.rl cap l:=by unfold Ch.rl;omega
 have hM4:M<=4096:=by have:=I.o.oB l;omega
 clear TO JU JT;go_enter func200,ntmps200
 go_wp2_with fail
 refine aR w0 (λw9=>Bx w9 w.heap.size 294 #[l,r]/\Bx w9 wb 299 #[.pointer sb,.slice gs n n,.slice CA ps cc]) aq ⟨ao,ao⟩ (λu1 _=>?_);refine bp 0 ?_;refine bp 1 ?_;refine bp 2 ?_;refine bp 3 ?_;refine bp 4 ?_;refine bp 5 ?_;refine aM 6 λK hK=>?_;obtain⟨ua,rfl⟩:=lg u1;go_simp
 (with_reducible refine(TX (hp:=ab w0 ua) (l:=l) (r:=r) (M:=M) I vd Af BU hlr hr (ae (y.o.mem.at (w':=ua))) hMl hV).mono ?_)
 rintro e u1 ⟨k,j,F,rfl,hkr,OV,WL,tE,Y,p2⟩;dsimp only;refine aL hK ?_ ⟨ab w0 _,⟨ao,ao⟩⟩;clear hK K;refine bp 7 ?_;refine aZ ?_
 skip
 have RF:Hx (WI w0 u1 sb A n p B m q c cap mb wb gs bs ps):=ae ((y.o.at (w':=ua)).nx Y tE.o p2);have kP0:Bx u1 w.heap.size 294 #[l,r]:=ao;have WB:Hx (Kp mb wb gs w u1):=ae (Kp.trans (Kp.of (w':=ua)) (Kp.nx Y));have TR:l<k:=by have:=F.o;omega
 have acI:k<=64:=om;have Xs:j+1<=64:=by have:=F.o;omega
 clear Y tE kW JM
 go_wp2_with fail
 go_loopw [7] (λz wr=>∃(i id:Nat) (J:List Bool),id<=k+1/\z=.int .i64 id/\Hx (id=l+i+1)/\Hx (WI w0 wr sb A n p B m q c cap mb wb gs J (ps++c.fwd l r i))/\Hx (Kp mb wb gs w wr)/\Hx (Marks n (if r=c.n then l+i else c.n) J)/\Bx wr w.heap.size 294 #[l,r]) (λz _=>k+1-(intOf z).toNat)
 case atStart=>exact⟨0,l+1,bs,om,by go_num,ae rfl,by rw[Ch.fwd,fG];exact RF,WB,V,kP0⟩
 case round=>
  clear y X RF WB kP0 V p2;obtain⟨i,id,J,hid,rfl,E,y,C,V,S⟩:=hrel;by_cases bK:id<=k
  .have L:id<n:=om;have ab5:i<=64:=by have:=E.o;omega
   have Ol:(c.fwd l r i).length<=128:=Ch.Hg ab5;obtain⟨v,hv⟩:∃v:Bool,J[id]?=some v:=⟨_,V.o.2 id (by have:=E.o;omega) L⟩;have Z:Hx ((if v then(2:Int)else 1)=if r=c.n then 1 else 2):=ae (by
    rw[V.o.2 id (by have:=E.o;omega) L]at hv;injection hv with hv
    by_cases e:r=c.n
    .rw[ah e]at hv⊢;rw[<-hv,dD (by have:=E.o;omega)];rfl
    .rw[ag e]at hv⊢;rw[<-hv,ef (by have:=qp.o;omega)];rfl)
   have hb1:=ae hv;have pt:Hx (Marks n (if r=c.n then l+(i+1)else c.n) (J.set id true)):=ae (by
    have h1:=V.o;by_cases e:r=c.n
    .rw[ah e]at h1⊢;have:=E.o;rw[this];exact h1.set
    .rw[ag e]at h1⊢;exact h1.same (by have:=qp.o;omega) (by have:=E.o;omega) L)
   obtain⟨d,hd⟩:=lh (l+i);have PF:IntKind.i64.wrap ((id:Int)-1)=(d:Int):=by rw[aV];have:=E.o;omega
   have X:=y.o.pr;have HD:=ae hd;clear hv hd;obtain⟨CA,cc,kW,oI⟩:=y.o.wr;by_cases T:i=0
   focus
    have t2:((d:Int) !=(l:Int))=false:=by have:=HD.o;simp;omega
    have hF:Hx (c.fwd l r (i+1)=c.fwd l r i++[(if r=c.n then 1 else 2,(id:Int))]):=ae (by
     rw[Ch.fwd,ah T,fG,E.o];simp)
    clear T
    go_wp2_with (go_at_call 241;refine(pR y (by(try simp);omega) L hb1).mono ?_;rintro e u ⟨rfl,O,N⟩;obtain⟨S,C⟩:Bx u w.heap.size 294 #[l,r]/\Hx (Kp mb wb gs w u):=⟨N.o.bx y.o S ak ak ak,ae (C.o.trans N.o)⟩;obtain⟨y,-⟩:_/\True:=⟨O,bA⟩;clear O N)
   rotate_left
   focus
    have t2:((d:Int) !=(l:Int))=true:=by have:=HD.o;rw[hR];omega
    have hF:Hx (c.fwd l r (i+1)=c.fwd l r i++[(if r=c.n then 1 else 2,(id:Int))]++[(3,(d:Int))]):=ae (by
     rw[Ch.fwd,ag T,E.o,<-HD.o];simp)
    clear T
    go_wp2_with (first|(go_at_call 241;refine(pR y (by(try simp);omega) L hb1).mono ?_;rintro e u ⟨rfl,O,N⟩;obtain⟨S,C⟩:Bx u w.heap.size 294 #[l,r]/\Hx (Kp mb wb gs w u):=⟨N.o.bx y.o S ak ak ak,ae (C.o.trans N.o)⟩;obtain⟨y,-⟩:_/\True:=⟨O,bA⟩;clear O N)|(go_at_call 242;refine(qk y (by(try simp);omega)).mono ?_;rintro e u ⟨rfl,O,N⟩;obtain⟨S,C⟩:Bx u w.heap.size 294 #[l,r]/\Hx (Kp mb wb gs w u):=⟨N.o.bx y.o S ak ak ak,ae (C.o.trans N.o)⟩;obtain⟨y,-⟩:_/\True:=⟨O,bA⟩;clear O N))
   all_goals
    exact⟨⟨i+1,id+1,J.set id true,om,by go_num,ae (by rw[E.o];omega),ae (by have h:=y.o;rw[Z.o]at h;rw[hF.o];simpa using h),C,pt,S⟩,by simp[intOf];omega⟩
  .obtain rfl:i=j+1:=by have:=E.o;have:=F.o;omega
   have vn:k<n:=om;have X:=y.o.pr;have JM:=y.o.Ee;have acJ:=y.o.c0;obtain⟨b2,o2,hA,jf,v2⟩:=Sl.zm (c:=c) (w:=w0) (A:=A) (n:=n) (l:=k) vn;subst hA;have Ol:(c.fwd l r (j+1)).length<=2*(j+1):=Ch.zw _;have TK:c.w k<=(M:Int):=by
    have:=I.o.Xp OV.o.1;rwa[<-F.o]at this
   obtain⟨D,hD⟩:∃D:Nat,(M:Int)-c.w k=(D:Int):=⟨((M:Int)-c.w k).toNat,om⟩;have Ma:=I.o.G9 k;have Fc:=I.o.oB l;have zO:c.kept k=c.w k:=by unfold Ch.kept;rw[ag om]
   have hD1:(D:Int)<=cap-c.kept k:=by rw[zO];omega
   have U:=Ch.ab6 I.o (by rw[<-F.o];exact hkr) hr OV.o.2 hV.o;rw[<-F.o,hD]at U;have hV1:=ae U.1;have hV2:=ae U.2;have hB2:Hx (Marks n (if r=c.n then k else c.n) J):=ae (by have h:=V.o;rw[show l+(j+1)=k from by have:=F.o;omega]at h;exact h);have hsD:IntKind.i64.wrap ((M:Int)-c.w k)=(D:Int):=by rw[hD,aV];omega
   have HD:=ae hD;have P:(ps++c.fwd l r (j+1)).length+135*(r-k)<=100000:=by
    have:=F.o;rw[a1];omega
   clear U Ma Fc zO TK hD V
   go_upto_region 15 with fail
   refine aR w0 (λw9=>Bx w9 w.heap.size 294 #[l,r]/\C0 w9 wb (.pointer sb)/\Bx w9 sb 292 (e5 (some ⟨b2,o2,none⟩) n p B m q cap mb)) aq ⟨ao,ao,ao⟩ (λu3 _=>?_);refine bl 0 ?_;refine bl 1 ?_;refine bl 2 ?_;refine bl 3 ?_;refine bl 4 ?_;refine bl 5 ?_;refine bl 6 ?_;refine bl 7 ?_;refine bl 8 ?_;refine bl 9 ?_;refine bl 10 ?_;refine bl 11 ?_;refine bl 12 ?_;refine bl 13 ?_;refine bl 14 ?_;refine bl 15 ?_;refine bl 16 ?_;refine bl 17 ?_;refine aM 18 λK hK=>?_;go_simp
   (with_reducible refine((ih.o k r hkr om hr).at (bs:=J) (ps:=ps++c.fwd l r (j+1)) (M:=D) (ae (y.o.at (w':=u3))) hD1 hV1 P hB2).mono ?_)
   rintro e u4 ⟨rfl,G,WG,vC,Q,q1,EM,PK⟩;have p4:=Q.o.pr;have kP4:Bx u4 w.heap.size 294 #[l,r]:=q1.o.bx (y.o.at (w':=u3)) ao ak ak ak;have s4:=Q.o.Ee;have c4:=Q.o.c0;dsimp only;refine aL hK ?_ ⟨ab w0 _,kP4,c4,s4⟩;clear hK K;refine aZ ?_
   skip
   obtain⟨y,C,S⟩:Hx (WI w0 u4 sb (some ⟨b2,o2,none⟩) n p B m q c cap mb wb gs WG (ps++c.fwd l r (j+1)++G))/\Hx (Kp mb wb gs w u4)/\Bx u4 w.heap.size 294 #[l,r]:=⟨Q,ae ((C.o.trans (Kp.of (w':=u3))).trans q1.o),kP4⟩;have hB3:Hx (Marks n (if k=c.n then l else c.n) WG):=ae (by rw[ag om];exact EM.o);have R:(ps++c.fwd l r (j+1)++G++[(3,(k:Int))]).length+135*(k-l)<=100000:=by
    have:=F.o;simp only[a1,lO];omega
   have aas:(ps++c.fwd l r (j+1)++G).length<=1000000:=by simp only[a1,lO]at R⊢;omega
   clear P Q q1 kP4
   go_wp2_with (first|(go_at_call 242;refine(qk y aas).mono ?_;rintro e u ⟨rfl,O,N⟩;obtain⟨S,C⟩:Bx u w.heap.size 294 #[l,r]/\Hx (Kp mb wb gs w u):=⟨N.o.bx y.o S ak ak ak,ae (C.o.trans N.o)⟩;obtain⟨y,-⟩:_/\True:=⟨O,bA⟩;clear O N)|(go_at_call 200;refine((ih.o l k TR om om).at (bs:=WG) (M:=M) y hM hV2 R hB3).mono ?_;rintro e u5 ⟨rfl,aat,bs4,vq,hI5,hK5,hm4,hl4⟩))
   have hkj:=F.o;have hkI:(k:Int)=(l:Int)+j+1:=by omega
   refine⟨rfl,.tuple #[],by simp[results,results200,go_sem],rfl,c.fwd l r (j+1)++G++[(3,(l:Int)+j+1)]++aat,bs4,ae (.split om hr OV.o.1 OV.o.2 WL.o ?_ ?_),ae ?_,ae (C.o.trans hK5.o),hm4,?_⟩
   .have:=vC.o;rw[<-HD.o,hkj]at this;exact this
   .have:=vq.o;rw[hkj]at this;exact this
   .have h:=hI5.o;rw[hkI]at h;simpa using h
   .simp only[a1,lO];omega
def Hh(b:Hx c.Ok)(j:0<=cap)(y:cap<=4096)[Sl w0 A n c.W][Sl w0 B m c.K]:∀(s l r:Nat),r-l<=s->l<r->r<=c.n->ml w0 sb A n p B m q c cap mb wb gs l r
 |0,l,r,hs,hl,_=>om
 |s+1,l,r,hs,hl,hr=>by
  by_cases e:r=l+1
  .exact Ef (ae e) hr b
  .exact Aw om hr b j y (ae λz C D F E=>Hh b j y s z C om D E)
end
def Hi(n:Nat):madeCells #[Value.bool false] n=mG (List.replicate n false):=by
 apply lS;simp only[madeCells,Array.toList_map,Array.toList_range,mG];apply rZ
 .simp
 .intro i b e;simp;rw[Nat.mod_one];rfl
def Hj(n:Nat)(b:n<=1000000)(W:World):(Instr.makeSlice 106 (.int .i64 (n:Int)) (.int .i64 (n:Int))).run prog W=.ok (.slice W n n) (W.alloc (.cells (mG (List.replicate n false)) 4)):=by
 rw[<-Hi];exact run_make_row' (P:=prog) 106 4 (.bool false) 1 underlying106 aq rfl .i64 .i64 n om om W
section
variable{w:World}{n p:Nat}
def T3(w:World)(c:Ch)(cap:Int)(e:Ending)(w':World):Prop:=
 ∃CA cc code D,e=.returned (.tuple #[.slice CA code.length cc,au])/\Hx (c.TZ 0 c.n D code)/\Hx (min cap (c.jG 0 c.n)=D)/\Is w' CA code.length code/\bM w' w CA cc code/\aj w' w
def Hk(F:n<=p)[Sl w A n c.W][b:Sl w B m c.K](hE:Hx (c.g2 cap≠0)):() 147 #[.agg #[.slice A n p,.slice B m q],cap] w (aD w (.tuple #[.slice none 0 0,.int .i64 (c.g2 cap)])):=by
 have CB:=@aa;have FR:=@oD;by_cases h:c.eH cap=0;rotate_left
 .have G:Hx (c.g2 cap=c.eH cap):=ae (by rw[Ch.g2,ag h]);have h1:(c.eH cap !=0)=true:=by rw[hR];exact h
  clear h;go_enter func147,ntmps147
  go_wp2_with (first|(go_at_call 197;(with_reducible refine(ug).mono ?_);rintro e u ⟨rfl,_⟩))
  go_ret2;exact⟨by rw[G.o];rfl,ab _ _⟩
 .obtain⟨ok,I,J⟩:=Ch.uj h;have y:=ae ok;have j:m=c.n:=b.len;have L:=ok.BV 0 c.n;obtain⟨D,M⟩:∃D:Nat,min cap (c.jG 0 c.n)=(D:Int):=⟨(min cap (c.jG 0 c.n)).toNat,om⟩;have z:=ae M;have O:(D:Int)<=4096:=by omega
  have l:c.rl D 0=D+1:=by unfold Ch.rl Ch.kept;rw[ah rfl];omega
  have P:0<m:=by rw[j];exact ok.n1
  have Q:m<=c.n:=dE j;have hV:c.V 0 m (D:Int)=c.V 0 c.n cap:=by rw[j,<-M];exact ok.aau ok.n1
  obtain⟨x,E⟩:=lh (c.V 0 c.n cap);have r:¬x<1152921504606846976:=λr=>hE.o (by rw[Ch.g2,ah h,E,ah r]);have e1:(ints (c.row D 0 m))[D]?=some (.int .i64 x):=by rw[eu,Ch.oC (by rw[l];omega),hV,E];rfl
  have G:Hx (c.g2 cap=26):=ae (by rw[Ch.g2,ah h,E,ag r]);obtain⟨N,hN⟩:=lh (c.rl D 0);have X:D<N:=om;have R:=ae hN;clear j L M ok l hV E J I hN hE;go_enter func147,ntmps147
  go_upto_region 4 with(first|(go_at_call 197;(with_reducible refine(ug).mono ?_);rintro e u ⟨rfl,_⟩))
  obtain⟨C,rfl⟩:=lg u
  go_upto_region 6 with(first|(go_at_call 198;(with_reducible refine(zt y F z).mono ?_);rintro e u ⟨sb,mb,rfl,Y,ce,kS,Z,_⟩))
  have S:=oF (w0:=C) (sb:=sb) (mb:=mb) (cap:=(D:Int)) y (Int.natCast_nonneg D) O ce (A:=A) (B:=B) (n:=n) (m:=m) (p:=p) (q:=q) m 0 m om P Q;refine oE (λu2 _ _=>?_);refine aR C (λU=>Bx U sb 292 (e5 A n p B m q (D:Int) mb)/\Bx U (World.heap u).size 294 #[au,m]) aq ⟨ao,ao⟩ (λT _=>?_);refine bp 0 ?_;refine bp 1 ?_;refine bp 4 ?_;refine bp 5 ?_;refine bp 6 ?_;refine bp 7 ?_;refine aM 2 λK hK=>?_;go_simp
  (with_reducible refine(S.WF (ab C T) (bad:=λ_=>False) (nk:=λ_ _=>False) ((Z.o _).at (w':=T)) (λ_ h=>h.elim) (λ_ _ h=>h.elim)).mono ?_)
  rintro e T ⟨g,rfl,kR,nb,mR,nx,pR⟩;dsimp only;refine aL hK ?_ ⟨ab C _,⟨ao,ao⟩⟩;clear hK K;rw[R.o];refine bp 3 ?_;refine bp 8 ?_;refine aM 9 λK hK=>?_;go_simp;refine aL hK ?_ ⟨ab C _,⟨ao,ao⟩⟩;clear hK K;refine bp 10 ?_;refine aZ ?_
  go_wp2_with fail
  go_ret2;exact⟨by rw[G.o];rfl,ab _ _⟩
def ml.WF{gs:Nat}{bs:List Bool}(h:ml w0 j A n p B m q c cap mb wb gs 0 r)(b:Hx (WI w0 w j A n p B m q c cap mb wb gs bs ps))(e:(M:Int)<=cap-c.kept 0)(l:Hx (c.V 0 r M<1152921504606846976))(u:ps.length+135*(r-0)<=100000)(y:Hx (Marks n (if r=c.n then 0 else c.n) bs)):
  () 200 #[.pointer wb,.agg #[au,r],M] w (zv w0 w j A n p B m q c cap mb wb gs ps 0 r M):=h.at b e l u y
def Eg(S:n<=p)[a:Sl w A n c.W][b:Sl w B m c.K](hE:Hx (c.g2 cap=0)):() 147 #[.agg #[.slice A n p,.slice B m q],cap] w (T3 w c cap):=by
 have CB:=@aa;have FR:=@oD;have j:=hE.o;unfold Ch.g2 at j;by_cases h:c.eH cap=0;rotate_left
 .rw[ag h]at j;exact absurd j h
 rw[ah h]at j;obtain⟨ok,T,U⟩:=Ch.uj h;have E:=ae ok;have l:m=c.n:=b.len;have X:n=c.n+1:=a.len.trans ok.len;have Y:=ok.BV 0 c.n;obtain⟨D,Z⟩:∃D:Nat,min cap (c.jG 0 c.n)=(D:Int):=⟨(min cap (c.jG 0 c.n)).toNat,om⟩;have y:=ae Z;have I:(D:Int)<=4096:=by omega
 have z:c.rl D 0=D+1:=by unfold Ch.rl Ch.kept;rw[ah rfl];omega
 have J:0<m:=by rw[l];exact ok.n1
 have L:m<=c.n:=dE l;have JT:=ok.n2;have Xt:m<=64:=om;have hV:c.V 0 m (D:Int)=c.V 0 c.n cap:=by rw[l,<-Z];exact ok.aau ok.n1
 obtain⟨x,R⟩:=lh (c.V 0 c.n cap);have bK:x<1152921504606846976:=by
  rw[<-R]
  split at j
  .assumption
  .omega
 have e1:(ints (c.row D 0 m))[D]?=some (.int .i64 x):=by rw[eu,Ch.oC (by rw[z];omega),hV,R];rfl
 obtain⟨N,hN⟩:=lh (c.rl D 0);have hDN:D<N:=om;have HRL:=ae hN;have hV3:Hx (c.V 0 m (D:Int)<1152921504606846976):=ae (by rw[hV,R];exact bK);have O:(n:Int)=(m:Int)+1:=by omega
 have EO:=Hj n om;rw[O]at EO;have hMk:Hx (Marks n (if m=c.n then 0 else c.n) (List.replicate n false)):=ae (by
  rw[ah l];exact⟨aG,λi h1 h2=>by rw[ix,ah h2,dD om]⟩)
 have hMD:(D:Int)<=(D:Int)-c.kept 0:=by unfold Ch.kept;rw[ah rfl];omega
 have Ry:=ae l;clear l X O Y Z ok z hV R U T hN hE j JT;go_enter func147,ntmps147
 go_upto_region 4 with(first|(go_at_call 197;(with_reducible refine(ug).mono ?_);rintro e u ⟨rfl,_⟩))
 obtain⟨r,rfl⟩:=lg u
 go_upto_region 6 with(first|(go_at_call 198;(with_reducible refine(zt E S y).mono ?_);rintro e u ⟨sb,mb,rfl,JM,ce,kS,HM,_⟩))
 have P:=oF (w0:=r) (sb:=sb) (mb:=mb) (cap:=(D:Int)) E (Int.natCast_nonneg D) I ce (A:=A) (B:=B) (n:=n) (m:=m) (p:=p) (q:=q) m 0 m om J L;refine oE (λu2 _ _=>?_);refine aR r (λQ=>Bx Q sb 292 (e5 A n p B m q (D:Int) mb)/\Bx Q (World.heap u).size 294 #[au,m]) aq ⟨ao,ao⟩ (λC _=>?_);refine bp 0 ?_;refine bp 1 ?_;refine bp 4 ?_;refine bp 5 ?_;refine bp 6 ?_;refine bp 7 ?_;refine aM 2 λK hK=>?_;go_simp
 (with_reducible refine(P.WF (ab r C) (bad:=λ_=>False) (nk:=λ_ _=>False) ((HM.o _).at (w':=C)) (λ_ h=>h.elim) (λ_ _ h=>h.elim)).mono ?_)
 rintro e C ⟨g,rfl,kR,nb,mR,nx,pR⟩;dsimp only;refine aL hK ?_ ⟨ab r _,⟨ao,ao⟩⟩;clear hK K;rw[HRL.o];refine bp 3 ?_;refine bp 8 ?_;refine aM 9 λK hK=>?_;go_simp;refine aL hK ?_ ⟨ab r _,⟨ao,ao⟩⟩;clear hK K;refine bp 10 ?_;refine aZ ?_
 go_upto_region 9 with fail
 refine rE (λu3 _ kB kW=>?_);have hz:r.heap.size<=C.heap.size:=ai;have HI:Hx (WI r u3 sb A n p B m q c (D:Int) mb (C.heap.size+1) C.heap.size (List.replicate n false) []):=ae ⟨ab _ _,ao,mR.o.at,⟨none,0,ao,bM.nil _ _⟩,ao,Nat.le_succ_of_le hz,hz,ce⟩;have k8:Bx u3 u.heap.size 294 #[au,m]:=ao;have s8:Bx u3 sb 292 (e5 A n p B m q (D:Int) mb):=ao;have HPT:=Hh (w0:=r) (sb:=sb) (mb:=mb) (wb:=C.heap.size+1) (gs:=C.heap.size) (cap:=(D:Int)) E (Int.natCast_nonneg D) I (A:=A) (B:=B) (n:=n) (m:=m) (p:=p) (q:=q) m 0 m om J L;clear mR nx kR nb P e1;refine aR r (λQ=>Bx Q sb 292 (e5 A n p B m q (D:Int) mb)/\Bx Q u.heap.size 294 #[au,m]) aq ⟨ao,ao⟩ (λuy _=>?_);refine bp 0 ?_;refine bp 1 ?_;refine bp 2 ?_;refine bp 3 ?_;refine bp 4 ?_;refine aM 5 λK hK=>?_;go_simp
 (with_reducible refine(HPT.WF (bs:=List.replicate n false) (ps:=[]) (M:=D) (ae (HI.o.at (w':=uy))) hMD hV3 bY hMk).mono ?_)
 rintro e u4 ⟨rfl,code,WG,vC,F,q1,EM,PK⟩;have p4:=F.o.pr;have s4:=F.o.Ee;have k4:Bx u4 u.heap.size 294 #[au,m]:=q1.o.bx (HI.o.at (w':=uy)) ao ak ak ak;obtain⟨CA,cc,kW4,G⟩:=F.o.wr;dsimp only;refine aL hK ?_ ⟨ab r _,s4,k4⟩;clear hK K;refine aZ ?_
 skip
 rw[kj]at kW4 G
 go_wp2_with fail
 go_ret2;exact⟨CA,cc,code,D,rfl,ae (by rw[<-Ry.o];exact vC.o),y,⟨G.rd,rfl⟩,aI.less (show aI _ _ 98 2 _ _ _ _ from G) ai,ab _ _⟩
end
