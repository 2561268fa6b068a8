/- Lemmas. No condition. -/
import Derived.Test.YtmkjnlifimffkaaGreatS37
import Derived.Test.YtmkjnlifimffkaaGreatS28
namespace Go.Proofs.YtmkjnlifimffkaaGreat
open Go.RowKit
set_option linter.all false
set_option maxRecDepth 100000
set_option maxHeartbeats 16000000
def jP:List Int->List (Int×Int)
 |a::b::c::t=>(a,b*256+c)::jP t
 |_=>[]
def Bj(bs:List Int):Int:=if bs.length%3=0 then mY (jP bs)else 16
def KX(bs:List Int):List (Int×Int):=if Bj bs=0 then jP bs else[]
section
variable{w w':World}{A:Option Addr}{n c k:Nat}{bs:List Int}{E:Int}{V:List (Int×Int)}
theorem ass(k:Nat)(j:k<=100000)(W:World):(Instr.makeSlice 50 (.int .i64 0) (.int .i64 (k:Int))).run Tryz.prog W=.ok (.slice W.heap.size 0 k) (W.alloc (.cells (madeCells #[(0:Int),(0:Int)] (k*2)) 98)):=by
 obtain⟨i,hi,b⟩:=bN.1 (show(Tryz.prog.info? 98).map (fun i=>(i.zero,i.size,i.bytes))=some (some (.agg #[(0:Int),(0:Int)]),2,16)from by kernel_rfl);simp only[jZ]at b;obtain⟨e,hs,hb⟩:=b;have:=zT (P:=Tryz.prog) W 50 98 i _ Tryz.underlying50 hi e .i64 .i64 0 k (jg _) om (by rw[hs];simp;omega) (by rw[hb];simp;omega);rw[hs]at this;simpa[Value.cells]using this om
theorem ast{Q:World->Prop}{X:World}{T:TypeId}{cs:Array Value}(h:∀u,ak u X->Bx u X.heap.size T cs->Q u):Q (X.alloc (.cells cs T)):=h _ (ai _ _) iin
theorem asu{w:World}(I:TypeId)(B:Nat)(A:Option Addr)(c:Nat)(ps:List (Int×Int))(b:bX w B A c ps)(g:Nat)(y z:Int)(J:aD w g 98 #[y,z])(K:ps.length<=1000000000)(L:B<=w.heap.size):
  ∃A' c' w',(Builtin.append_ #[50,50] I #[.slice A ps.length c,.slice g 1 1]).run Tryz.prog w=.ok (.slice A' (ps.length+1) c') w'/\
   bX w' B A' c' (ps++[(y,z)])/\Below B w w'/\w.heap.size<=w'.heap.size:=by
 have e:(Tryz.prog.info? 98).map (fun i=>(i.zero,i.size,i.bytes))=some (some (.agg #[(0:Int),(0:Int)]),2,16):=by kernel_rfl
 obtain⟨i,hi,m⟩:=bN.1 e;simp only[jZ]at m;obtain⟨r,C,D⟩:=m;have R:=Li (P:=Tryz.prog) w B 50 I 98 i _ 2 16 Tryz.underlying50 hi r C D rfl ah _ _ _ b ⟨g,0,none⟩ 1 1 [.int .i64 y,.int .i64 z] rfl
  (fun j u hu=>by
   have N:j=0\/j=1:=by
    have:=(aY.1 hu).1;simp at this;omega
   rcases N with rfl|rfl
   ·simp at hu;subst hu;simpa[Addr.add]using J.cell 0
   ·simp at hu;subst hu;simpa[Addr.add]using J.cell 1) (by simp[Value.oneCell']) (by unfold maxLen;omega) om L
 obtain⟨v',w',hr,l,hg,-,-⟩:=R;have O:(ps++[(y,z)]).length=ps.length+1:=au;rcases l.2 with⟨hv,Z⟩|⟨g,cap,cur,hv,Q,S,T,U,X,Y⟩
 ·omega
 ·have F:v'=.slice g (ps.length+1) cap:=hv;rw[F]at l hr;refine⟨_,_,w',hr,?_,?_,hg.size⟩
  ·unfold bX;rw[O,Dv];exact l
  ·refine(bq B w).grown hg L ?_;intro k M;have:Value.ownBlock (.slice A ps.length c)=A.map (·.block):=by cases A<;>rfl
   rw[this]at M;obtain⟨ad,G,rfl⟩:=bN.1 M;exact b.fresh ad G
theorem asv{w:World}{b:Array Oper}{o:Oper}{a:Act}{K:Act->World->Prop}{Q:Exit->Act->World->Prop}(l:Region.wanted o (yielded b a.tmps)=true)(s x:Operand)
  (m:o.op=.call {callee:=.builtin .append,args:= #[s,x],argTypes:= #[50,50]})
  (B:Nat) (A:Option Addr) (c:Nat) (ps:List (Int×Int)) (hs:a.eval s=.slice A ps.length c) (e:bX w B A c ps) (g:Nat) (y z:Int)
  (r:a.eval x=.slice g 1 1) (hp:aD w g 98 #[y,z]) (j:ps.length<=1000000000) (u:B<=w.heap.size)
  (h:∀A' c' w',bX w' B A' c' (ps++[(y,z)])->Below B w w'->K (a.put o.dst (.slice A' (ps.length+1) c')) w'):
  if Region.wanted o (yielded b a.tmps)=true then Oper.wp Tryz.prog o a w K Q else K (a.put o.dst undef) w:=by
 rw[if_pos l];obtain⟨A',c',w',hr,C,D,F⟩:=asu o.type B A c ps e g y z hp j u;unfold Oper.wp execOp;simp only[m,resolve,invoke,builtin,Lr,Lp,Ld,K9,fe,lG,hs,r,hr];exact h A' c' w' C D
theorem ad3:∀(k:Nat) (bs:List Int),bs.length=3*k->(jP bs).length=k
 |0,bs,h=>by
  have:bs=[]:=rZ om;subst this;rfl
 |k+1,bs,h=>by
  match bs,h with
  |a::b::c::t,h=>
   rw[jP,iJ,ad3 k t (by simp at h;omega)]
theorem asw(k:Nat)(bs:List Int)(h:3*k+3<=bs.length):∃a b c,bs[3*k]?=some a/\bs[3*k+1]?=some b/\bs[3*k+2]?=some c/\jP (bs.drop (3*k))=(a,b*256+c)::jP (bs.drop (3*(k+1))):=by
 refine⟨_,_,_,aW om,aW om,aW om,?_⟩;rw[jE om,jE om,jE om,jP];rfl
theorem asx[b:Bs w A n bs](hn:n<=900)(D:Hid (Bj bs=E))(S:Hid (KX bs=V)):
  Calls Tryz.prog 13 #[.slice A n c] w fun e w'=>∃A c,e=.returned (.tuple #[.slice A V.length c,E])/\bX w' w.heap.size A c V/\ak w' w:=by
 have CP:=@kQ;have J:Hid (n=bs.length):=ae b.len;go_enter Tryz.func13,Tryz.ntmps13;by_cases h3:n%3=0
 ·obtain⟨k,rfl⟩:∃k,n=3*k:=⟨n/3,om⟩;have hq:((3*k:Nat):Int)/3=(k:Int):=by omega
  have hr:((3*k:Nat):Int)%3=0:=om;have hk2:decide ((65536:Int)<(k:Int))=false:=by simp;omega
  have hE:mY (jP bs)=E:=by rw[<-D.out,Bj,if_pos (by rw[<-J.out];exact h3)]
  have L:(jP bs).length=k:=ad3 k bs J.out.symm;have hV:(if E=0 then jP bs else[])=V:=by rw[<-S.out,KX,D.out]
  have T:∀W:World,(Instr.makeSlice 50 (.int .i64 0) (.int .i64 (k:Int))).run Tryz.prog W=.ok (.slice (some ⟨W.heap.size,0,none⟩) 0 k) (W.alloc (.cells (madeCells #[(0:Int),(0:Int)] (k*2)) 98)):=fun W=>ass k om W;have r:=ae hE;have y:=ae hV;have l:=ae L;have D:=D;clear hE hV L
  go_wp2_with fail
  refine ast (fun v _ kv=>?_);have z:bX v w.heap.size (some ⟨w.heap.size,0,none⟩) k []:=aP.mk' (k:=2) (az _) kv.blk (aS _) (by unfold maxLen;omega) (size_madeCells _ _) (by simp[ic]);clear T kv;have fin:∀wz u (A':Option Addr) (c':Nat),bX wz w.heap.size A' c' (jP bs)->ak wz w->ak u wz->Later w u->True:=fun _ _ _ _ _ _ _ _=>bO;clear fin;by_cases k0:k=0
  ·subst k0;have M:jP bs=[]:=rZ l.out;have I:Hid (bX v w.heap.size (some ⟨w.heap.size,0,none⟩) 0 (jP bs)):=ae (by rw[M];exact z);clear z M;go_loopw [4,5] (fun t i wr=>t=.slice w.heap.size 0 0/\i=.int .i64 0/\wr=v) (fun _ _ _=>0)
   case atStart=>exact⟨rfl,rfl,rfl⟩
   case round=>
    obtain⟨rfl,rfl,rfl⟩:=hrel;have iS:Is wr (some ⟨w.heap.size,0,none⟩) (0) (jP bs):=⟨I.out.rd,l.out.symm⟩;by_cases B:E=0
    ·subst B;have hv:jP bs=V:=by have:=y.out;rwa[if_pos rfl]at this
     have m:=ae hv;clear hv
     go_wp2_with (go_at_call 33;refine(Cx om r).mono ?_;rintro e U ⟨rfl,_⟩)
     go_ret2;exact⟨_,_,by rw[<-m.out,l.out];rfl,by rw[<-m.out];exact I.out.at,ai _ _⟩
    ·have hv:[]=V:=by have:=y.out;rwa[if_neg B]at this
     subst hv;have X:(E !=0)=true:=by simp[B]
     clear B
     go_wp2_with (go_at_call 33;refine(Cx om r).mono ?_;rintro e U ⟨rfl,_⟩)
     go_ret2;exact⟨none,0,rfl,bX.nil _ _,ai _ _⟩
  ·obtain⟨X,q0,z0,Y,-⟩:=b.get (show 0<3*k by omega);subst Y;go_loopw [4,5] (fun t i wr=>∃(j x:Nat) (A':Option Addr) (c':Nat) (ps:List (Int×Int)),j<=k/\Hid (x=3*j)/\t=.slice A' j c'/\i=.int .i64 (x:Nat)/\Hid (ps.length=j)/\Hid (bX wr w.heap.size A' c' ps)/\Hid (ps++jP (bs.drop (3*j))=jP bs)/\ak wr w) (fun _ i _=>3*k-(intOf i).toNat)
   case atStart=>exact⟨0,0,_,_,[],aS _,ae rfl,rfl,rfl,ae rfl,ae z,ae rfl,ai _ _⟩
   case round=>
    clear z;obtain⟨j,x,A',c',ps,hj,F,rfl,rfl,HJ,I,Z,hp⟩:=hrel;by_cases hlt:j<k
    ·obtain⟨y1,G,N,g1,g2,g3,gp⟩:=asw j bs (by rw[<-J.out];omega);have O:(ps++[(y1,G*256+N)])++jP (bs.drop (3*(j+1)))=jP bs:=by rw[<-Z.out,gp];simp
     rw[<-F.out]at g1 g2 g3;obtain⟨b1,q1,e1,P,v1,r1⟩:=b.rd _ _ g1;obtain⟨b2,q2,e2,hb2,v2,r2⟩:=b.rd _ _ g2;obtain⟨b3,q3,e3,C,v3,r3⟩:=b.rd _ _ g3;injection e1 with e1;injection e1 with Q R;subst Q R
     injection e2 with e2;injection e2 with Q R;subst Q R
     injection e3 with e3;injection e3 with Q R;subst Q R
     have ob:Old X w:=⟨P⟩;have i1:(x:Int)<3*(k:Int):=by have:=F.out;omega
     have i2:(x:Int)+1<3*(k:Int):=by have:=F.out;omega
     have i3:(x:Int)+2<3*(k:Int):=by have:=F.out;omega
     have cc:bits .or .i64 (G*256) N=G*256+N:=aoQ r2.1 r2.2 r3.1 r3.2;have Bi:=ae O;have V4:x<=900:=by have:=F.out;omega
     have k1:IntKind.i64.wrap y1=y1:=by rw[bF];omega
     have k2:IntKind.i64.wrap G=G:=by rw[bF];omega
     have k3:IntKind.i64.wrap N=N:=by rw[bF];omega
     have k4:IntKind.i64.wrap ((x:Int)+1)=(x:Int)+1:=by rw[bF];omega
     have k5:IntKind.i64.wrap ((x:Int)+2)=(x:Int)+2:=by rw[bF];omega
     have k6:IntKind.i64.wrap (G*256)=G*256:=by rw[bF];omega
     have j2:(0:Int)<=(x:Int)+1:=by omega
     have j3:(0:Int)<=(x:Int)+2:=by omega
     have t2:((x:Int)+1).toNat=x+1:=by omega
     have t3:((x:Int)+2).toNat=x+2:=by omega
     obtain⟨rr2,avA⟩:=r2;obtain⟨rr3,avC⟩:=r3;clear g1 g2 g3 gp O Z P hb2 C r1
     go_wp2_with fail
     have hjl:ps.length=j:=HJ.out;subst hjl;refine eU w aj (fun ux _=>?_);refine ag 0 25 ?_;refine ag 1 26 ?_;refine ag 2 27 ?_;refine ag 3 28 ?_;refine ag 4 29 ?_;refine ag 5 30 ?_;refine ag 6 31 ?_;refine ag 7 32 ?_;refine ag 8 33 ?_;refine ag 9 34 ?_;refine ag 10 35 ?_;refine ag 11 36 ?_;refine ag 12 37 ?_;refine ag 13 38 ?_;refine ag 14 39 ?_;refine ag 15 40 ?_;refine ag 16 41 ?_;refine ag 17 42 ?_;refine ag 18 43 ?_;refine ag 19 44 ?_;refine ag 20 45 ?_;refine ay 21 fun K hK=>?_;go_simp;refine av hK ?_;clear hK K;refine bY (fun ux _ _=>?_);refine ay 22 fun K hK=>?_;refine asv aj _ _ rfl (World.heap w).size _ _ _ rfl I.out.at _ _ _ rfl Bx.blk om aH ?_;intro A3 c3 w3 ho3 C;have:ak w3 w:=⟨(aL w _).trans C⟩;clear C;refine av hK ?_;clear hK K;refine ag 23 4 ?_;refine aO ?_
     go_wp2_with fail
     go_roundw
     case rel=>exact⟨ps.length+1,x+3,A3,c3,_,om,ae (by have:=F.out;omega),rfl,by go_num,ae au,ae ho3,Bi,ai _ _⟩
     case measure=>simp[intOf];omega
    ·obtain rfl:j=k:=om;have hps:ps=jP bs:=by have:=Z.out;rwa[kL (by rw[<-J.out];exact az _),show jP []=[]from rfl,oV]at this
     subst hps;have hx:x=3*j:=F.out;subst hx;have iS:Is wr (A') (j) (jP bs):=⟨I.out.rd,l.out.symm⟩;by_cases B:E=0
     ·subst B;have hv:jP bs=V:=by have:=y.out;rwa[if_pos rfl]at this
      have m:=ae hv;clear hv
      go_wp2_with (go_at_call 33;refine(Cx om r).mono ?_;rintro e U ⟨rfl,_⟩)
      go_ret2;exact⟨_,_,by rw[<-m.out,l.out];rfl,by rw[<-m.out];exact I.out.at,ai _ _⟩
     ·have hv:[]=V:=by have:=y.out;rwa[if_neg B]at this
      subst hv;have X:(E !=0)=true:=by simp[B]
      clear B
      go_wp2_with (go_at_call 33;refine(Cx om r).mono ?_;rintro e U ⟨rfl,_⟩)
      go_ret2;exact⟨none,0,rfl,bX.nil _ _,ai _ _⟩
 ·have hE:(16:Int)=E:=by rw[<-D.out,Bj,if_neg (by rw[<-J.out];exact h3)]
  have hV:([]:List (Int×Int))=V:=by rw[<-S.out,KX,D.out,<-hE,if_neg ah]
  subst hE hV;have hr:((n:Int)%3 !=0)=true:=by simp;omega
  clear D S
  go_wp2_with fail
  go_ret2;exact⟨none,0,rfl,bX.nil _ _,ai _ _⟩
end
section
variable{bs:List Int}
theorem asy:Bj bs=0\/Bj bs=10\/Bj bs=16:=by
 unfold Bj mY
 split
 ·split
  ·exact .inl rfl
  ·exact .inr (.inl rfl)
 ·exact .inr (.inr rfl)
theorem ad4:∀bs:List Int,(jP bs).length<=bs.length
 |a::b::c::t=>by have:=ad4 t;simp only[jP,iJ];omega
 |[]=>az _
 |[_]=>aS _
 |[_,_]=>aS _
end
end Go.Proofs.YtmkjnlifimffkaaGreat
