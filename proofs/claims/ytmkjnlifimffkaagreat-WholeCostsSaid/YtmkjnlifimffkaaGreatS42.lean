/- Lemmas. No condition. -/
import Derived.Test.YtmkjnlifimffkaaGreatS41
namespace Go.Proofs.YtmkjnlifimffkaaGreat
open Go.RowKit
set_option linter.all false
set_option maxRecDepth 100000
set_option maxHeartbeats 16000000
def Vv(cap:Nat)(P:List TV):qP:=⟨QL cap,fun _=>[],fun _ _=>none,List.replicate P.length T0,T0,0⟩
section
variable{N:aI}{O:List Int}{L:List (List Int)}{l cp:Nat}{P:List TV}{x:TV}{cap:Int}{s:di}{e:qP}
theorem adt(n i:Nat):(List.replicate n false).getD i false=false:=by
 rw[aQ];by_cases h:i<n
 ·simp[h]
 ·simp[h]
theorem aqg(h:1<=l):(wK N L l P).1.getD 0 T0=T0:=by
 unfold wK;dsimp only;rw[aQ,Bp om];rfl
theorem aqh(c:gM N O L l P x)(h:cp<=16777216):gz N O L l P x (cp:Int) (fG N.nodes.length) (Vv cp P):=by
 have hb:fZ N O L l P x (fG N.nodes.length).done.toNat=wK N L l P:=rfl;have hp:∀id:Nat,1<=id->(fG N.nodes.length).present.getD id false=false:=fun id j=>by
  show((List.replicate (N.nodes.length+1) false).set 0 true).getD id false=false
  rw[je au,if_neg om];exact adt _ _
 have hg:∀id:Nat,(fG N.nodes.length).aT.getD id false=false:=fun id=>adt _ _;refine⟨⟨agM h,fun _=>List.Pairwise.nil,fun _ e r=>(by cases r),fun _ _ _ b=>(by cases b),fun _ _ e f r=>(by cases r)⟩,rfl,rfl,jg _,rfl,fun id=>?_,fun id=>?_,fun id j u=>?_,fun _=>rfl,jg _,Int.natCast_nonneg _,rfl,?_,fun b=>(by cases b),fun id j b=>?_,by simp[fG],by simp[fG],by simp[fG]⟩
 ·rw[if_neg]
  ·rfl
  ·rintro⟨j,u,m⟩;rw[hp _ om]at m;cases m
 ·rw[if_neg]
  ·rfl
  ·rintro⟨j,u,m⟩;rw[hg]at m;cases m
 ·rw[hg];exact⟨fun b=>(by cases b),fun b=>(by cases b.1)⟩
 ·rw[hb,aqg c.hN.xV];rfl
 ·rw[hp _ j]at b;cases b
theorem gz.whole(c:gM N O L l P x)(h:gz N O L l P x cap s e)(b:wL (aC N cap) s=true):e.lo=Ct N P x/\e.G=(AP N P x).2/\e.X=(AP N P x).1.getD 0 T0:=by
 unfold wL at b;rw[dm,dU]at b;have j:(aC N cap).order=O:=c.hN.ord;rw[j]at b;have hr:AP N P x=fZ N O L l P x s.done.toNat:=by
  unfold AP fZ;rw[c.hN.ord,c.hL,b.2];dsimp only;rw[dD,dD,dB au]
 exact⟨h.em b.1,by rw[hr];exact h.G,by rw[hr];exact h.X⟩
end
def wX:Tn:=⟨none,0,[],none,0,[]⟩
def aqi(w:World)(F:Option Addr->Nat->Nat->qm)(N:aI)(L:List (List Int))(P:List TV)(x:TV)(cap:Nat)(e:Ending)(w':World):Prop:=
 ∃p SA ns sc g r GB m gs X,e=.returned (.tuple #[.pointer (some ⟨g,0,none⟩),(0:Int)])/\ak p w/\Hid (wQ p (F SA ns sc) N L P x)/\Hid (gN p w' (F SA ns sc) g r GB m (Vv cap P) gs X)/\ak w' p
section
variable{p w w' u w1:World}{A B PA XA XB K:Option Addr}{n m c d k np cp nx cx mx dx kc cap l g:Nat}{N:aI}{ps:List Tn}{O:List Int}{L:List (List Int)}{P:List TV}{x:TV}
theorem adu:∀n,tc (List.replicate n wX)=List.replicate (n*2) (.slice none 0 0)
 |0=>rfl
 |n+1=>by
  rw[uo,show(n+1)*2=n*2+1+1 from om,uo,uo,<-adu n];rfl
theorem row_zero(w:World){n B:Nat}(e:n<=1000000)(b:B<=w.heap.size):aP (w.alloc (.cells (ze [] n) 28)) B 28 2 (some ⟨w.heap.size,0,none⟩) n n (tc (List.replicate n wX)):=
 .mk' (cur:=ze [] n) b (xe w _) (az _) (by unfold maxLen;omega) (Z8 [] (aS _)) (by
  rw[adu];simp[ze,tc])
theorem aqj{x y z v:Value}{g:Nat}[l:Later w u](hg:w.heap.size<=g):Below w.heap.size w ((((u.setCell ⟨g,11,none⟩ x).setCell ⟨g,12,none⟩ y).setCell ⟨g,15,none⟩ z).setCell ⟨g,16,none⟩ v):=
 (((l.st.setCell (p:=⟨g,11,none⟩) hg _).setCell (p:=⟨g,12,none⟩) hg _).setCell (p:=⟨g,15,none⟩) hg _).setCell (p:=⟨g,16,none⟩) hg _
theorem aqk[aX w A n B m N][tp:Ts w PA np ps][Sl w XA nx x.1][Sl w XB mx x.2](hf:Hid N.fits)(hs:Hid N.small)(hc:Hid (gM N O L l P x))(hP:Hid (ps.map Tn.tv=P))(hO:Hid (jw ps))(R:np<=1000000)(lx:nx<=cx)(JX:mx<=dx)(lp:np<=cp)(lB:m<=d)(S:cap<=16777216):
  Calls Tryz.prog 53 #[.agg #[.slice A n c,.slice B m d,.slice PA np cp,.slice XA nx cx,.slice XB mx dx,.slice K k kc,cap]] w (aqi w (fun SA ns sc=>⟨A,n,c,B,m,d,PA,np,cp,XA,nx,cx,XB,mx,dx,K,k,kc,cap,l,SA,ns,sc⟩) N L P x cap):=by
 have CB:=@bf;have FB:=@dV;have HE:Hid (bU N=0):=ae hc.out.hE;have HV:Hid (gZ N=(O,L,(l:Int))):=ae hc.out.hL;have hmk:=alf np R;have J9:Hid (np=P.length):=ae (by rw[<-hP.out,dF,<-tp.len]);go_enter Tryz.func53,Tryz.ntmps53
 go_upto_region 1 with fail
 refine bI (fun u0 Ah k0=>?_);obtain⟨jb,T⟩:=lg w.heap.size;rw[<-T]at k0⊢;clear T
 go_upto_region 4 with(go_at_call 61;refine(Tz hf hs HE HV).mono ?_;rintro e u1 ⟨rfl,_⟩)
 go_upto_region 7 with(go_at_call 28;refine(aaY hf hs HE HV).mono ?_;rintro e u2 ⟨SA,sc,ss,rfl,sh,lsh,Jq,ru,fsh⟩)
 obtain⟨p,hp⟩:=lg u2;subst hp
 go_upto_region 10 with(go_at_call 96;refine(agN (w:=p) S).mono ?_;rintro e M ⟨r,ra,rfl,D,OG⟩)
 have U:=ae D;clear D
 go_upto_region 11 with fail
 refine bI (fun u4 GJ k4=>?_);obtain⟨g,hg⟩:=lg M.heap.size;rw[<-hg]at k4⊢;have HG:=ae hg;clear hg
 go_upto_region 13 with fail
 obtain⟨y,E⟩:=lg ((((u4.setCell ⟨g,11,none⟩ (.pointer r)).setCell ⟨g,12,none⟩ (.slice SA L.length sc)).setCell ⟨g,15,none⟩ (.pointer r)).setCell ⟨g,16,none⟩ (.slice SA L.length sc));rw[<-E];have p5:ak y M:=by rw[E];exact⟨aqj (w:=M) (u:=u4) (lH HG.out.symm)⟩
 have k5:Bx y g 141 #[.slice A n c,.slice B m d,.slice PA np cp,.slice XA nx cx,.slice XB mx dx,.slice K k kc,cap,l,.pointer r,.slice none 0 0,(0:Int),.pointer r,.slice SA L.length sc,.slice none 0 0,(0:Int),.pointer r,.slice SA L.length sc,(0:Int),.slice none 0 0,.slice none 0 0,.slice none 0 0]:=⟨by rw[E];exact(((k4.blk.aF 11 _).aF 12 _).aF 15 _).aF 16 _⟩;have V:=ae k5.blk;clear E k4 GJ
 go_upto_region 14 with fail
 obtain⟨X,C⟩:=lg ((y.alloc (.cells (ze [] np) 28)).setCell ⟨g,18,none⟩ (.slice y.heap.size np np));rw[<-C];have hg5:=V.out.lt;have p7:ak X M:=by rw[C];exact⟨((aL M y).alloc p5.st.size _).setCell (p:=⟨g,18,none⟩) (lH HG.out.symm) _⟩
 have Y:aD X g 141 #[.slice A n c,.slice B m d,.slice PA np cp,.slice XA nx cx,.slice XB mx dx,.slice K k kc,cap,l,.pointer r,.slice none 0 0,(0:Int),.pointer r,.slice SA L.length sc,.slice none 0 0,(0:Int),.pointer r,.slice SA L.length sc,(0:Int),.slice y.heap.size np np,.slice none 0 0,.slice none 0 0]:=by rw[C];exact(V.out.at (w':=y.alloc (.cells (ze [] np) 28))).aF 18 _
 have I:aP X p.heap.size 28 2 (some ⟨y.heap.size,0,none⟩) np np (tc (List.replicate np wX)):=by
  have J:=row_zero y (B:=p.heap.size) R aH;refine J.same fun ad G=>?_;rw[<-eP G,C];exact dM _ ⟨g,18,none⟩ _ _ (by show y.heap.size≠g;omega)
 have yU:=ae Y;have Z:=ae I;clear C Y I hmk
 go_wp2_with fail
 go_ret2;have D:=U.out.at (w':=X);have hgn:g=M.heap.size:=HG.out;have hU:∀b,ra.F r b->b<M.heap.size:=fun b hb=>(U.out.lt b hb).2;refine⟨p,SA,L.length,sc,g,r,y.heap.size,⟨_,ra,fun _ _=>False⟩,List.replicate np wX,wX,rfl,ai w p,ae ⟨iin,⟨ps,iin,hP.out,hO.out⟩,iin,iin,lx,JX,lp,lB,⟨ss,sh,Jq.out⟩,hf.out,hs.out,hc.out.hF.Cq⟩,ae ⟨⟨D,fun s=>⟨yU.out,⟨none,0,0,0,by cases s<;>rfl,by cases s<;>rfl,.inl ⟨rfl,rfl,fun _ h=>h⟩⟩,List.Pairwise.nil,by show 0<=1000;omega⟩,fun s=>by cases s<;>rfl,by rw[hgn];exact aH,fun hx=>by have:=hU _ hx;omega,fun _ _ h=>h.elim,fun _ _ h=>h.elim⟩,⟨rfl,rfl,rfl,rfl,rfl,rfl,rfl,fun s=>by cases s<;>rfl⟩,rfl,rfl,Z.out,lF ..,?_,rfl,rfl,rfl,?_,?_,?_⟩,ai p X⟩
 ·show(List.replicate np wX).map Tn.tv=List.replicate P.length T0
  rw[List.map_replicate,J9.out];rfl
 ·exact⟨⟨fun j z Q=>by simp[wX]at Q,fun j z Q=>by simp[wX]at Q,az _,fun z hz=>by simp[wX]at hz⟩,fun b ⟨ad,G,_⟩=>(by cases G),fun b ⟨ad,G,_⟩=>(by cases G)⟩
 ·intro t ht;rw[su ht];exact⟨⟨fun j z Q=>by simp[wX]at Q,fun j z Q=>by simp[wX]at Q,az _,fun z hz=>by simp[wX]at hz⟩,fun b ⟨ad,G,_⟩=>(by cases G),fun b ⟨ad,G,_⟩=>(by cases G)⟩
 ·rintro(J|J|J|J)
  ·omega
  ·have:=hU _ J;omega
  ·exact J
  ·exact J
end
end Go.Proofs.YtmkjnlifimffkaaGreat
