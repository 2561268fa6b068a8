/- Lemmas. No condition. -/
import Derived.Test.YtmkjnlifimffkaaGreatS39
namespace Go.Proofs.YtmkjnlifimffkaaGreat
open Go.RowKit
set_option linter.all false
set_option maxRecDepth 100000
set_option maxHeartbeats 16000000
section
open Go.RowKit Go.ChangeShapes Go.WideShapes Go.Deep
section
variable{H:Type}{enc:TypeId×Value->H}{W:World}{base:Nat}{held:Bool}
theorem wf_u8{z:Int}(h:(Lit.int .u8 z).wf=true):0<=z/\z<256:=by
 have:=bounds_u8 h;omega
theorem adb{y:Nat}{v:Value}{x:DataW H×List MemPlace}(h:DataW.trod enc Tryz.prog W base (fun _=>true) held y 22 [v]=some x):∃A c zs,v=.slice A (List.length zs) c/\Bs W A (List.length zs) zs/\zs.length<=c:=by
 rcases open_ints Tryz.underlying22 Tryz.underlying5 aj h with⟨e,_⟩|⟨a,l,c,zs,e,_,G,hm,E,_,m,B⟩
 ·injection e with e;subst e
  exact⟨none,0,[],rfl,⟨fun j z u=>by simp at u,rfl⟩,az _⟩
 ·injection e with e;subst e
  simp only[LM]at E;refine⟨some a,c,zs.take l,by simp[E,iY G],⟨fun j z u=>?_,rfl⟩,by simp;omega⟩;have C:j<zs.length:=by
   have:=(aY.1 u).1;simp at this;omega
  have F:zs[j]?=some z:=by
   rw[l7]at u
   split at u
   ·exact u
   ·cases u
  have D:zs.getD j 0=z:=by simp[List.getD,F]
  have r:=m j C;rw[D]at r;obtain⟨b,off,rfl⟩:=Xu (show W.cell? (a.add 0)=some _ from m 0 om);rw[add_plain]at r;exact⟨b,off,rfl,Px W _ r,r,wf_u8 (B z (aK F))⟩
theorem apV{j:Nat}{v:Value}{d:DataW H}{p:List MemPlace}(b:Value.okWide Tryz.prog W .any j 22 v)(h:DataW.Trod enc Tryz.prog W base (fun _=>true) held 22 v d p):∃A c zs,v=.slice A (List.length zs) c/\Bs W A (List.length zs) zs/\zs.length<=c:=by
 obtain⟨a,l,c,rfl⟩:=okWide_slice Tryz.underlying22 b;obtain⟨e,m⟩:=h;exact adb m
theorem apW{G:Nat}{v:Value}{d:DataW H}{p:List MemPlace}(b:Value.okWide Tryz.prog W .any G 30 v)(h:DataW.Trod enc Tryz.prog W base (fun _=>true) held 30 v d p)(j:Wt 30 d):
  ∃r cb zs PA cp ps XA cx l XB dx xs pl cap,v=.agg #[.slice r (List.length zs) cb,.slice PA (List.length ps) cp,.slice XA (List.length l) cx,.slice XB (List.length xs) dx,.int .i64 pl,.int .i64 cap]/\
   Bs W r zs.length zs/\zs.length<=cb/\Xy W PA cp ps/\IntsIn W XA cx l/\IntsIn W XB dx xs/\l.length<=vV/\xs.length<=vV:=by
 obtain⟨cs,rfl,u⟩:=okWide_struct Tryz.underlying30 b;obtain⟨q0,I,J,K,L,q5,rfl⟩:=aeJ (u.trans aj);obtain⟨F,m⟩:=h;obtain⟨_,_,y,-⟩:=Ih Tryz.underlying30 m j 0 _ rfl;obtain⟨_,_,z,M⟩:=Ih Tryz.underlying30 m j 1 _ rfl;obtain⟨_,_,B,N⟩:=Ih Tryz.underlying30 m j 2 _ rfl;obtain⟨_,_,C,-⟩:=Ih Tryz.underlying30 m j 3 _ rfl;obtain⟨_,_,D,-⟩:=Ih Tryz.underlying30 m j 4 _ rfl;replace y:DataW.trod enc Tryz.prog W base (fun _=>true) held _ 22 [q0]=some _:=y;replace z:DataW.trod enc Tryz.prog W base (fun _=>true) held _ 23 [I]=some _:=z;replace B:DataW.trod enc Tryz.prog W base (fun _=>true) held _ 28 [J,K]=some _:=B;replace C:DataW.trod enc Tryz.prog W base (fun _=>true) held _ 3 [L]=some _:=C;replace D:DataW.trod enc Tryz.prog W base (fun _=>true) held _ 3 [q5]=some _:=D;obtain⟨r,cb,zs,rfl,bs,hb⟩:=adb y;obtain⟨PA,cp,ps,rfl,O⟩:=afA z M;obtain⟨XA,cx,l,XB,dx,xs,e,P,i1,Q,l1⟩:=Xw B rfl N;injection e with R E
 injection E with E _
 subst R E;obtain⟨pl,rfl,-⟩:=WT Tryz.underlying3 C;obtain⟨cap,rfl,-⟩:=WT Tryz.underlying3 D;exact⟨r,cb,zs,PA,cp,ps,XA,cx,l,XB,dx,xs,pl,cap,rfl,bs,hb,O,P,i1,Q,l1⟩
end
end
end Go.Proofs.YtmkjnlifimffkaaGreat
