/- Lemmas. No condition. -/
import Derived.Test.YtmkjnlifimffkaaGreatS43
import Derived.Laws.BitsLemmas
namespace Go.Proofs.YtmkjnlifimffkaaGreat
open Go.RowKit
set_option linter.all false
set_option maxRecDepth 100000
set_option maxHeartbeats 16000000
def OV(N:aI)(ps:List (Int×Int)):Int:=if fQ N=0 then(ib (aC N 1073741824) (fG N.nodes.length) ps).1 else fQ N
def OW(N:aI)(ps:List (Int×Int)):Int:=if OV N ps=0 then(ib (aC N 1073741824) (fG N.nodes.length) ps).2.fE else 0
section
variable{p w w' u:World}{A B K:Option Addr}{n m c d k g j:Nat}{ps qs:List (Int×Int)}{N:aI}{E V:Int}
theorem adB[a:aX w A n B m N](hf:Hid N.fits)(hs:Hid N.small)[i:Is w K k ps](hk:k<=65536)(HE:Hid (OV N ps=E))(HV:Hid (OW N ps=V)):
  Calls Tryz.prog 195 #[.agg #[.slice A n c,.slice B m d],.slice K k g] w (aM w (.tuple #[V,E])):=by
 obtain⟨CB,CP,FB⟩:=iK;have HM:Hid (m=N.nodes.length):=ae a.len;have hE:=HE.out;have hV:=HV.out;rw[OW,hE]at hV;rw[OV]at hE;by_cases c1:fQ N=0;rotate_left
 ·rw[if_neg c1]at hE;have D:=ae hE;have h0:E≠0:=by rw[<-hE];exact c1
  have b0:(E !=0)=true:=by simp[h0]
  rw[if_neg h0]at hV;subst hV;clear hE c1;go_enter Tryz.func195,Tryz.ntmps195
  go_upto_region 1 with fail
  refine bI (fun u0 _ kn=>?_)
  go_wp2_with (go_at_call 34;refine(ab9 hf hs D h0 1073741824).mono ?_;rintro e u1 ⟨rfl,_⟩)
  go_ret2;exact⟨rfl,ai _ _⟩
 rw[if_pos c1]at hE;have D:=ae c1;obtain⟨O,L,l,P,Q,R,-⟩:=look_ok (Ex c1);obtain⟨o1,o2,o3,o4⟩:=JP c1 P Q;obtain⟨C,S⟩:=lh (aC N 1073741824);have y:C.cap=1073741824:=by rw[<-S];rfl
 have T:C.words.length=m+1:=by rw[<-S,HM.out];exact o2
 rw[S,<-HM.out]at hE hV;obtain⟨s0,r⟩:=lh (fG m);have z:Ey s0 0:=by rw[<-r];exact acb
 rw[r]at hE hV;have HC:=ae S;have vE:=ae r;have U:=ae y;have HWL:Hid (C.words.length=m+1):=ae T;have Az:Hid (k=ps.length):=ae i.len;have F:=ae hE;have G:=ae hV;have X:=ae z;clear P Q R o1 o2 o3 o4 c1 r y T S HE HV hE hV z;go_enter Tryz.func195,Tryz.ntmps195
 go_upto_region 1 with fail
 refine bI (fun u0 _ kn=>?_)
 go_upto_region 2 with(go_at_call 34;refine(aca hf hs D 1073741824).mono ?_;rintro e u1 ⟨p,a,ss,rfl,pp,Z,b,Ob⟩)
 rw[HC.out]at Z b;rw[vE.out]at b;have pu:ak u1 p:=b.out.prev
 go_wp2_with fail
 go_loopw [21] (fun t wr=>∃(j:Nat) (s:di),j<=k/\t=.int .i64 j/\Hid (dH p wr a m C s)/\Hid (Ey s j)/\Hid (ib C s (ps.drop j)=ib C s0 ps)) (fun t _=>k-(intOf t).toNat)
 case atStart=>exact⟨0,s0,aS _,rfl,b,X,ae rfl⟩
 case round=>
  clear b X pu;obtain⟨j,s,hj,rfl,b,HB,HG⟩:=hrel;have pw:ak wr p:=b.out.prev;by_cases hlt:j<k
  ·obtain⟨b1,o1,kd,id,rfl,vX,v1,v2,e1⟩:=i.get hlt;have Y:ps.drop j=(kd,id)::ps.drop (j+1):=by
    obtain⟨h1,h2⟩:=aY.1 e1.out;rw[jE h1,h2]
   obtain⟨de,I⟩:=lh (iV C s kd id);have hg:=HG.out;rw[Y,ib,I]at hg;have J:=ae I;have M:Hid (-144115188075855872<=s.now/\s.now<=144115188075855872/\0<=s.done/\s.done<=1000000):=ae (by obtain⟨x1,x2,x3,x4⟩:=HB.out;omega);clear I Y;by_cases d0:de=0
   ·subst d0;rw[if_pos rfl]at hg;have HG2:=ae hg;have HB2:=ae (acd Z.out HB.out J.out (by rw[U.out];decide));obtain⟨q1,q2,q3,q4⟩:=CE J.out;have Uz:=ae q1;have JG:Hid (id<=(m:Int)):=ae (by rw[HWL.out]at q2;omega);have JH:=ae q3;have UA:=ae q4;clear hg q1 q2 q3 q4
    go_wp2_with (go_at_call 35;refine(abK Z.out b.out.at Uz.out JG.out JH M.out.2.2.1 M.out.2.2.2 M.out.1 M.out.2.1 UA.out (by rw[U.out];decide)).mono ?_;rintro e u5 ⟨rfl,rO⟩)
    go_roundw
    case rel=>exact⟨j+1,_,om,by go_num,ae rO,HB2,HG2⟩
    case measure=>simp[intOf];omega
   ·rw[if_neg d0]at hg;have hE:=F.out;have hV:=G.out;rw[<-hg]at hE;subst hE;rw[if_neg d0]at hV;subst hV;have b0:(de !=0)=true:=by simp[d0]
    have HD0:=ae d0;clear hg d0
    go_wp2_with (go_at_call 35;refine(abP Z.out b.out.at J.out HD0.out M.out.2.2.1 M.out.1 M.out.2.1).mono ?_;rintro e u5 ⟨rfl,_⟩)
    go_ret2;exact⟨rfl,ai _ _⟩
  ·obtain rfl:j=k:=om;have hg:=HG.out;rw[Az.out,Ff,ib]at hg;have hE:=F.out;have hV:=G.out;rw[<-hg]at hE hV;dsimp only at hE hV;subst hE;rw[if_pos rfl]at hV;subst hV;clear hg F G
   go_wp2_with (go_at_call 234;refine(am7 b.out).mono ?_;rintro e u5 ⟨rfl,_⟩)
   go_ret2;exact⟨rfl,ai _ _⟩
end
structure GY where
 A:Option Addr
 n:Nat
 c:Nat
 B:Option Addr
 d:Nat
 AW:Option Addr
 cW:Nat
structure qR(p w:World)(g:Nat)(a:GY)(m:Nat)(W:List Int)(AK:Option Addr)(cK:Nat)(ks:List Int):Prop where
 prev:ak w p
 bx:aD w g 240 #[.slice a.A a.n a.c,.slice a.B m a.d,.slice a.AW (m+1) a.cW,.slice AK ks.length cK]
 wd:aG w p.heap.size 3 a.AW a.cW W
 kp:aG w p.heap.size 3 AK cK ks
 wl:W.length=m+1
 hg:p.heap.size<=g
 ne:∀x y,a.AW=some x->AK=some y->x.block≠y.block
section
variable{p w w' u:World}{A B AK:Option Addr}{n m c d k g cK:Nat}{N:aI}{E:Int}{W C ks:List Int}{T:Int}{a:GY}
theorem qR.at(h:qR p w g a m W AK cK ks)[l:Later w w']:qR p w' g a m W AK cK ks:=⟨⟨dS h.prev.st l.st⟩,h.bx.at,h.wd.at,h.kp.at,h.wl,h.hg,h.ne⟩
theorem qR.facts(h:qR p w g a m W AK cK ks):ak w p/\Bx w g 240 #[.slice a.A a.n a.c,.slice a.B m a.d,.slice a.AW (m+1) a.cW,.slice AK ks.length cK]/\Sl w a.AW (m+1) W/\Sl w AK ks.length ks:=
 ⟨h.prev,⟨h.bx⟩,⟨h.wd.rd,h.wl.symm⟩,⟨h.kp.rd,rfl⟩⟩
def aqA(w:World)(A B:Option Addr)(n m c d:Nat)(W ks:List Int)(e:Ending)(w':World):Prop:=
 ∃g AW cW AK cK,e=.returned (.tuple #[.pointer (some ⟨g,0,none⟩),(0:Int)])/\Hid (qR w w' g ⟨A,n,c,B,d,AW,cW⟩ m W AK cK ks)
theorem aqB[aX w A n B m N](F:Hid N.fits)(hs:Hid N.small)(l:Hid (bU N=0))(b:Hid (fQ N=E))(r:E≠0):Calls Tryz.prog 143 #[.agg #[.slice A n c,.slice B m d]] w (aM w (.tuple #[.pointer none,E])):=by
 have G:=@bf;have I:=@dV;have y:=l;have z:Hid (fU N=([],[],0)):=ae (by rw[fU,b.out,if_neg r]);have j:Hid (([]:List Int).length=0):=ae rfl;have D:=j;have J:(E !=0)=true:=by simp[r]
 clear r;go_enter Tryz.func143,Tryz.ntmps143
 go_upto_region 1 with fail
 refine bI (fun K _ L=>?_)
 go_upto_region 5 with(first|(go_at_call 9;(with_reducible refine(xY F hs b z j D).mono ?_);rintro e u ⟨AW,cW,AC,cC,rfl,M,O,P,Q,R⟩)|(go_at_call 40;(with_reducible refine(zy F hs y).mono ?_);rintro e u ⟨rfl,_⟩))
 refine bI (fun S _ kp=>?_)
 go_wp2_with fail
 go_ret2;exact⟨rfl,ai _ _⟩
theorem aqC[a:aX w A n B m N](V:Hid N.fits)(hs:Hid N.small)(b:Hid (fQ N=0))(z:Hid (fU N=(W,C,T))):Calls Tryz.prog 143 #[.agg #[.slice A n c,.slice B m d]] w (aqA w A B n m c d W N.ids):=by
 have CB:=@bf;have FB:=@dV;have X:Hid (m=N.nodes.length):=ae a.len;have P:=ae (Ex b.out);obtain⟨O,L,l,D,F,G,-⟩:=look_ok (Ex b.out);obtain⟨o1,Q,R,o4⟩:=JP b.out D F;rw[z.out]at o1 Q R;have I:Hid (W.length=m+1):=ae (by rw[X.out];exact Q);have S:Hid (C.length=m+1):=ae (by rw[X.out];exact R);clear o1 Q R o4 D F G;go_enter Tryz.func143,Tryz.ntmps143
 go_upto_region 1 with fail
 refine bI (fun u0 _ kn=>?_)
 go_upto_region 5 with(first|(go_at_call 9;(with_reducible refine(xY V hs b z I S).mono ?_);rintro e u ⟨AW,cW,AC,cC,rfl,sW,sC,Y,oC,pP⟩)|(go_at_call 40;(with_reducible refine(zy V hs P).mono ?_);rintro e u ⟨rfl,_⟩))
 refine bI (fun J _ kp=>?_)
 go_upto_region 7 with fail
 refine eU J aj (fun r _=>?_);refine ag 0 20 ?_;refine ag 1 21 ?_;refine ag 2 22 ?_;refine ag 3 23 ?_;refine ay 4 fun K hK=>?_;obtain⟨uk,rfl⟩:=lg r;go_simp
 (with_reducible refine(abQ hs).mono ?_)
 rintro e r ⟨AK,cK,rfl,Z,pK⟩;dsimp only;refine av hK ?_;clear hK K;refine ag 5 25 ?_;refine ay 6 fun K hK=>?_;go_simp;obtain⟨gS,j⟩:=lh ((World.heap r).size);have U:(World.heap J).size<=gS:=by rw[<-j];exact aH
 refine av hK ?_;clear hK K;refine bY (fun r _ M=>?_);rw[j]at M⊢;clear j;refine ag 7 2 ?_;refine ag 8 3 ?_;refine aO ?_
 go_wp2_with fail
 go_ret2;exact⟨gS,AW,cW,AK,cK,rfl,ae ⟨ai _ _,M.blk,(Y.at (w':=r)).more aH,(Z.at (w':=r)).more (aH (w:=w)),I.out,aZ (aH (w:=w) (w':=J)) U,fun x y hx hy=>by have h1:=Y.row.lt x hx;have h2:=Z.fresh y hy;have h3:=aZ (aH (w:=u) (w':=J)) (aH (w:=J) (w':=uk));omega⟩⟩
def Bd(N:aI)(ks:List Int):Int:=if ny N ks=0 then OV N (nP N ks)else ny N ks
def KI(N:aI)(ks:List Int):List (Int×Int):=if Bd N ks=0 then nP N ks else[]
def KJ(N:aI)(ks:List Int):Int:=if Bd N ks=0 then OW N (nP N ks)else 0
def aqD(w:World)(V:List (Int×Int))(T E:Int)(e:Ending)(w':World):Prop:=
 ∃A c,e=.returned (.tuple #[.slice A V.length c,T,E])/\bX w' w.heap.size A c V/\ak w' w
theorem OX[aX p a.A a.n a.B m N](P:Hid N.fits)(hs:Hid N.small)(h:qR p w g a m W AK cK ks)(U:ks.length<=1000000){V:List (Int×Int)}(X:Hid (Bd N ks=E))(Y:Hid (KI N ks=V))(Z:Hid (KJ N ks=T)):
  Calls Tryz.prog 144 #[.pointer g] w (aqD w V T E):=by
 have CB:=@bf;obtain⟨p9,kb,sw,sk⟩:=h.facts;have hE:=X.out;have j:=Y.out;have b:=Z.out;rw[KI,hE]at j;rw[KJ,hE]at b;rw[Bd]at hE;obtain⟨le,l⟩:=lh (ny N ks);obtain⟨L,z⟩:=lh (nP N ks);obtain⟨y,Q⟩:=lh L.length;have D:y<=65536:=by rw[<-Q,<-z];exact adz
 obtain⟨kn,F⟩:=lh ks.length;rw[F]at kb sk U;have R:=ae l;have S:=ae z;have G:=ae Q;rw[l,z]at hE;rw[z]at j b;clear l z Q F X Y Z h;go_enter Tryz.func144,Tryz.ntmps144
 go_upto_region 1 with fail
 refine eU w aj (fun ux _=>?_);refine ag 0 9 ?_;refine ag 1 10 ?_;refine ag 2 11 ?_;refine ag 3 12 ?_;refine ag 4 13 ?_;refine ag 5 14 ?_;refine ag 6 15 ?_;refine ag 7 16 ?_;refine ay 8 fun K hK=>?_;go_simp
 (with_reducible refine(KH P hs U R S G).mono ?_)
 rintro e ux ⟨AC,cC,rfl,iC,oC,pC⟩;dsimp only;refine av hK ?_;clear hK K;refine ag 9 8 ?_;refine ag 10 18 ?_;refine ag 11 19 ?_;refine ag 12 5 ?_;refine ag 13 6 ?_;refine aO ?_;by_cases I:le=0
 ·subst I;rw[if_pos rfl]at hE;have J:=ae hE;obtain⟨pv,r⟩:=lh (OW N L);rw[r]at b;have M:=ae r;clear hE r;by_cases O:E=0
  ·subst O;rw[if_pos rfl]at j b;subst j b
   go_wp2_with (go_at_call 195;refine(adB P hs D J M).mono ?_;rintro e u5 ⟨rfl,_⟩)
   go_ret3
   exact⟨AC,cC,by rw[G.out];rfl,(show aP _ _ 98 2 _ _ _ _ from oC).at.less (aH (w:=w)),ai _ _⟩
  ·rw[if_neg O]at j b;subst j b;have b0:(E !=0)=true:=by simp[O]
   clear O
   go_wp2_with (go_at_call 195;refine(adB P hs D J M).mono ?_;rintro e u5 ⟨rfl,_⟩)
   go_ret3
   exact⟨none,0,rfl,bX.nil _ _,ai _ _⟩
 ·rw[if_neg I]at hE;subst hE;rw[if_neg I]at j b;subst j b;have b0:(le !=0)=true:=by simp[I]
  clear I
  go_wp2_with fail
  go_ret3
  exact⟨none,0,rfl,bX.nil _ _,ai _ _⟩
end
section
variable{w w':World}{B g c k l i:Nat}{ks:List Int}
theorem aqE(b:k<=l)(e:l<=c):∃off,(∀w,(Instr.slice 24 (.slice g l c) (some (.int .i64 (k:Int))) none none).run Tryz.prog w=.ok (.slice (some ⟨g,off,none⟩) (l-k) (c-k)) w)/\(k<l->off=k):=by
 by_cases h:c=k
 ·refine⟨0,fun w=>?_,fun j=>om⟩;rw[j4 w 24 (some ⟨g,0,none⟩) l c aj .i64 k om om,DL aj];simp[Result.andThen,sliced,h]
 ·refine⟨k,fun w=>?_,fun _=>rfl⟩;rw[j4 w 24 (some ⟨g,0,none⟩) l c aj .i64 k om om,DL aj];simp[Result.andThen,sliced,h,Addr.add];exact fun h=>h.symm
theorem aqF(b:k<=l)(e:l<=c)(w:World):(Instr.slice 24 (.slice g l c) none (some (.int .i64 (k:Int))) none).run Tryz.prog w=.ok (.slice g k c) w:=by
 rw[zU w 24 (some ⟨g,0,none⟩) l c aj .i64 k om om,DL aj];simp[Result.andThen,sliced,Addr.add]
theorem aqG(h:aG w B 3 (some ⟨g,0,none⟩) c ks)(hi:i<ks.length)(G:TypeId){off:Nat}(K:i+1<ks.length->off=i+1):
  ∃w',(Builtin.append_ #[24,24] G #[.slice g i c,.slice (some ⟨g,off,none⟩) (ks.length-(i+1)) (c-(i+1))]).run Tryz.prog w=.ok (.slice g (ks.length-1) c) w'/\
   aG w' B 3 (some ⟨g,0,none⟩) c (ks.take i++ks.drop (i+1))/\Below B w w'/\w'.heap.size=w.heap.size/\∀b,b≠g->w'.heap[b]?=w.heap[b]?:=by
 rcases h.form with⟨D,_,_⟩|⟨Q,cur,e,L,hg,S,hm,M,ht⟩
 ·cases D
 injection e with e;injection e with N T;subst N
 obtain⟨I,E,m⟩:=bN.1 (show(Tryz.prog.info? 3).map (fun i=>(i.zero,i.size,i.bytes))=some (some (.int .i64 0),1,8)from by kernel_rfl);simp only[jZ]at m;obtain⟨C,hs,hb⟩:=m;have r:((ks.drop (i+1)).map (Value.int .i64)).length=(ks.length-(i+1))*I.size:=by rw[hs];simp
 have R:=run_append_room (P:=Tryz.prog) w 24 G 3 I Tryz.underlying24 E g i c cur hg ⟨g,off,none⟩ (ks.length-(i+1)) (c-(i+1)) ((ks.drop (i+1)).map (Value.int .i64)) r (fun j u J=>by
  rw[dE]at J;obtain⟨z,C,rfl⟩:=bN.1 J;rw[lD]at C;have O:=(aY.1 C).1;rw[K om];rw[show(Addr.add ⟨g,i+1,none⟩ j)=⟨g,i+1+j,none⟩from by by_cases D:j=0<;>simp[Addr.add,D]];exact h.cell C) (fun u hu=>by obtain⟨z,_,rfl⟩:=dG.1 hu;rfl) om (by rw[r,hs,M];omega)
 have y:(ks.take i++ks.drop (i+1)).length=ks.length-1:=by simp;omega
 rw[show i+(ks.length-(i+1))=ks.length-1 by omega]at R;rw[hs,nR]at R;refine⟨_,R,⟨au,.inr ⟨g,c,(cur.toList.take i++(ks.drop (i+1)).map (Value.int .i64)++cur.toList.drop (i+((ks.drop (i+1)).map (Value.int .i64)).length)).toArray,rfl,L,?_,?_,hm,?_,?_⟩⟩,⟨rfl,rfl,rfl,?_,fun b hb=>?_⟩,?_,fun b hb=>?_⟩
 ·rw[World.setRow,CW,if_pos rfl,hg];rfl
 ·rw[y];omega
 ·simp;omega
 ·have F:cur.toList.take i=(ks.take i).map (Value.int .i64):=by
   rw[yJ,<-ht,kM,iY om]
  rw[F,<-gV];rw[qz au]
 ·simp[World.setRow]
 ·rw[World.setRow,CW,if_neg om]
 ·simp[World.setRow]
 ·rw[World.setRow,CW,if_neg (lI hb)]
theorem aqH{e:Array Oper}{o:Oper}{a:Act}{K:Act->World->Prop}{Q:Exit->Act->World->Prop}(r:Region.wanted o (yielded e a.tmps)=true)(s x:Operand)
  (u:o.op=.call {callee:=.builtin .append,args:= #[s,x],argTypes:= #[24,24]}) {off:Nat}
  (hs:a.eval s=.slice g i c) (y:a.eval x=.slice (some ⟨g,off,none⟩) (ks.length-(i+1)) (c-(i+1)))
  (j:aG w B 3 (some ⟨g,0,none⟩) c ks) (hi:i<ks.length) (m:i+1<ks.length->off=i+1)
  (h:∀w',aG w' B 3 (some ⟨g,0,none⟩) c (ks.take i++ks.drop (i+1))->Below B w w'->(∀b,b≠g->w'.heap[b]?=w.heap[b]?)->K (a.put o.dst (.slice g (ks.length-1) c)) w'):
  if Region.wanted o (yielded e a.tmps)=true then Oper.wp Tryz.prog o a w K Q else K (a.put o.dst undef) w:=by
 rw[if_pos r];obtain⟨w',hr,z,C,E,D⟩:=aqG j hi o.type m;unfold Oper.wp execOp;simp only[u,resolve,invoke,builtin,Lr,Lp,Ld,K9,fe,lG,hs,y,hr];exact h w' z C D
theorem qR.cut{p:World}{a:GY}{m gk:Nat}{W j:List Int}{cK:Nat}(h:qR p w g a m W (some ⟨gk,0,none⟩) cK ks)(C:aG w' p.heap.size 3 (some ⟨gk,0,none⟩) cK j)(hb:Below p.heap.size w w')(u:∀b,b≠gk->w'.heap[b]?=w.heap[b]?):
  qR p (w'.setCell ⟨g,3,none⟩ (.slice gk j.length cK)) g a m W (some ⟨gk,0,none⟩) cK j:=by
 have r:gk≠g:=h.kp.bP h.bx ah ⟨gk,0,none⟩ rfl;have y:aD w' g 240 #[.slice a.A a.n a.c,.slice a.B m a.d,.slice a.AW (m+1) a.cW,.slice gk ks.length cK]:=(u g (lI r)).trans h.bx;have D:aG w' p.heap.size 3 a.AW a.cW W:=by
  refine h.wd.row.same (fun ad e=>u _ ?_);exact h.ne ad ⟨gk,0,none⟩ e rfl
 have f:∀{A:Option Addr} {c:Nat} {zs:List Int},aG w' p.heap.size 3 A c zs->aG (w'.setCell ⟨g,3,none⟩ (.slice gk j.length cK)) p.heap.size 3 A c zs:=fun z=>z.mV (p:=⟨g,3,none⟩) (z.bP y ah) _;exact⟨⟨(h.prev.st.trans hb).setCell (p:=⟨g,3,none⟩) h.hg _⟩,y.aF 3 _,f D,f C,h.wl,h.hg,h.ne⟩
def lsA(W ks:List Int):Nat->Nat
 |0=>0
 |i+1=>if W.getD (ks.getD (lsA W ks i) 0).toNat 0<W.getD (ks.getD i 0).toNat 0 then i else lsA W ks i
def wY(W ks:List Int):List Int:=ks.take (lsA W ks ks.length)++ks.drop (lsA W ks ks.length+1)
theorem VB(W ks:List Int):∀i,lsA W ks i<=i-1
 |0=>az _
 |i+1=>by
  have:=VB W ks i;unfold lsA
  split<;>omega
theorem aqI(W ks:List Int)(h:0<ks.length):(wY W ks).length=ks.length-1:=by
 have:=VB W ks ks.length;simp[wY];omega
theorem aqJ{P:Int->Prop}{W ks:List Int}(h:∀z∈ks,P z):∀z∈wY W ks,P z:=fun z b=>by
 rcases dP.1 b with b|b
 ·exact h z (gU b)
 ·exact h z (jo b)
theorem aqK{p:World}{a:GY}{m cK:Nat}{W:List Int}{AK:Option Addr}(h:qR p w g a m W AK cK []):Calls Tryz.prog 145 #[.pointer g] w (aM w (.bool false)):=by
 have e:=@bf;obtain⟨j,b,r,u⟩:=h.facts;dsimp only[List.length_nil]at b;go_enter Tryz.func145,Tryz.ntmps145
 go_wp2_with fail
 go_ret;exact⟨rfl,ai _ _⟩
theorem aqL{p:World}{a:GY}{m cK n:Nat}{W:List Int}{AK:Option Addr}(h:qR p w g a m W AK cK ks)(hR:Hid (∀z∈ks,1<=z/\z<=m))(R:ks.length=n)(h0:0<n)(hm:n<=1000):
  Calls Tryz.prog 145 #[.pointer g] w fun e w'=>e=.returned (.bool true)/\Hid (qR p w' g a m W AK cK (wY W ks)):=by
 obtain⟨CB,CP,FB⟩:=iK;obtain⟨gk,rfl,hgB,-⟩:=h.kp.addr om;obtain⟨bW,qW,zW,E,-⟩:=(h.facts.2.2.1).get (show 0<m+1 by omega);obtain⟨aA,an,ac,aB,ad,aAW,aCW⟩:=a;dsimp only at E;subst E;obtain⟨p9,kb,sw,sk⟩:=h.facts;dsimp only at kb sw;rw[R]at kb sk;have j:=ae R;have F:=ae h;have b0:((n:Int)==0)=false:=by simp;omega
 clear h R;go_enter Tryz.func145,Tryz.ntmps145
 go_wp2_with fail
 go_loopw [3,17] (fun t x wr=>∃(i q:Nat),i<=n/\t=.int .i64 q/\x=.int .i64 i/\Hid (lsA W ks i=q)/\ak wr w) (fun _ x _=>n-(intOf x).toNat)
 case atStart=>exact⟨0,0,aS _,rfl,rfl,ae rfl,ai _ _⟩
 case round=>
  obtain⟨i,q,hi,rfl,rfl,S,hp⟩:=hrel;have hq:=VB W ks i;rw[S.out]at hq;by_cases T:i<n
  ·obtain⟨x,M⟩:∃x,ks[i]?=some x:=⟨_,aW (by rw[j.out];exact T)⟩;obtain⟨z,N⟩:∃x,ks[q]?=some x:=⟨_,aW (by rw[j.out];omega)⟩;obtain⟨x1,x2⟩:=hR.out x (aK M);obtain⟨z1,z2⟩:=hR.out z (aK N);obtain⟨y,rfl⟩:=eF (show 0<=x by omega);obtain⟨v,rfl⟩:=eF (show 0<=z by omega);have cx:=(F.out.kp.at (w':=wr)).cell M;have cz:=(F.out.kp.at (w':=wr)).cell N;obtain⟨b5,o5,O,r,ob5,cy,ey⟩:=(show Sl wr (some ⟨bW,qW,none⟩) (m+1) W from iin).get (show y<m+1 by omega);injection r with r;injection r with U V;subst U V
   obtain⟨b5,o5,P,r,-,cv,ev⟩:=(show Sl wr (some ⟨bW,qW,none⟩) (m+1) W from iin).get (show v<m+1 by omega);injection r with r;injection r with U V;subst U V
   have og:Old gk wr:=⟨(F.out.kp.at (w':=wr)).row.lt _ rfl⟩;have i1:(q:Int)<(n:Int):=by omega
   have i2:(y:Int)<(m:Int)+1:=by omega
   have i3:(v:Int)<(m:Int)+1:=by omega
   have b:Hid (lsA W ks (i+1)=if P<O then i else q):=ae (by
    rw[lsA,S.out,aQ,aQ,aQ,aQ,M,N];simp only[E9,dD,ey.out,ev.out])
   clear M N hq;by_cases Q:P<O
   ·have d1:decide (P<O)=true:=by simpa using Q
    have u:Hid (lsA W ks (i+1)=i):=ae (by rw[b.out,if_pos Q]);clear b
    go_upto_region 7 with fail
    refine bZ aj (fun X _=>?_);refine ag 0 22 ?_;refine ag 1 23 ?_;refine ag 2 24 ?_;refine ag 3 25 ?_;refine ag 4 26 ?_;refine ag 5 27 ?_;refine ag 6 28 ?_;refine ag 7 29 ?_;refine ag 8 30 ?_;refine ag 9 31 ?_;refine ag 10 32 ?_;refine ag 11 33 ?_;refine ag 12 34 ?_;refine ag 13 35 ?_;refine ag 14 36 ?_;refine ag 15 37 ?_;refine ag 16 38 ?_;refine ag 17 39 ?_;refine ag 18 40 ?_;refine ag 19 41 ?_;refine ag 20 42 ?_;refine aO ?_
    go_wp2_with fail
    go_roundw
    case rel=>exact⟨i+1,i,om,rfl,by go_num,u,ai _ _⟩
    case measure=>simp[intOf];omega
   ·have d1:decide (P<O)=false:=by simpa using Q
    have u:Hid (lsA W ks (i+1)=q):=ae (by rw[b.out,if_neg Q]);clear b
    go_upto_region 7 with fail
    refine bZ aj (fun X _=>?_);refine ag 0 22 ?_;refine ag 1 23 ?_;refine ag 2 24 ?_;refine ag 3 25 ?_;refine ag 4 26 ?_;refine ag 5 27 ?_;refine ag 6 28 ?_;refine ag 7 29 ?_;refine ag 8 30 ?_;refine ag 9 31 ?_;refine ag 10 32 ?_;refine ag 11 33 ?_;refine ag 12 34 ?_;refine ag 13 35 ?_;refine ag 14 36 ?_;refine ag 15 37 ?_;refine ag 16 38 ?_;refine ag 17 39 ?_;refine ag 18 40 ?_;refine ag 19 41 ?_;refine ag 20 42 ?_;refine aO ?_
    go_wp2_with fail
    go_roundw
    case rel=>exact⟨i+1,q,om,rfl,by go_num,u,ai _ _⟩
    case measure=>simp[intOf];omega
  ·obtain rfl:i=n:=om;have hqn:q<i:=om;have G:i<=cK:=by have:=F.out.kp.uB;rw[j.out]at this;exact this
   have hs1:=fun W=>aqF (g:=gk) (c:=cK) (show q<=i by omega) G W;obtain⟨off,I,Y⟩:=aqE (g:=gk) (c:=cK) (show q+1<=i by omega) G;have I:∀W:World,(Instr.slice 24 (.slice gk i cK) (some (.int .i64 ((q:Int)+1))) none none).run Tryz.prog W=.ok (.slice (some ⟨gk,off,none⟩) (i-(q+1)) (cK-(q+1))) W:=fun W=>by have:=I W;rwa[mF]at this
   have kw:IntKind.i64.wrap ((q:Int)+1)=(q:Int)+1:=by rw[bF];omega
   have Z:Hid ((ks.take q++ks.drop (q+1)).length=ks.length-1):=ae (by have:=j.out;simp;omega);have Ko:Hid (wY W ks=ks.take q++ks.drop (q+1)):=ae (by rw[wY,j.out,S.out])
   go_upto_region 10 with fail
   refine eU p aj (fun X _=>?_);refine ag 0 45 ?_;refine ag 1 46 ?_;refine ag 2 47 ?_;refine ag 3 48 ?_;refine ag 5 50 ?_;refine ag 7 52 ?_;refine ag 8 53 ?_;refine ag 9 54 ?_;refine ag 11 56 ?_;refine ag 12 57 ?_;refine il 4 10 (fun K hK=>?_) (fun K hK=>?_)
   focus
    go_simp;refine av hK ?_;clear hK K;refine ag 6 51 ?_;refine ay 10 fun K hK=>?_;go_simp;refine av hK ?_;clear hK K;refine ag 13 58 ?_
   rotate_left
   focus
    go_simp;refine av hK ?_;clear hK K;refine ag 13 58 ?_;refine ay 4 fun K hK=>?_;go_simp;refine av hK ?_;clear hK K;refine ag 6 51 ?_
   all_goals
    refine ay 14 fun K hK=>?_;have C:=F.out.at (w':=X);have hkq:q<ks.length:=by rw[j.out];omega
    refine aqH aj _ _ rfl rfl (by rw[j.out];rfl) C.kp hkq (by rw[j.out];exact Y) ?_;intro w3 ho3 J L;have D:=C.cut ho3 J L;rw[Z.out]at D;have p3:ak w3 p:=⟨C.prev.st.trans J⟩;have Gz:Bx w3 g 240 _:=⟨(L g (lI (C.kp.bP C.bx ah ⟨gk,0,none⟩ rfl))).trans C.bx⟩;refine av hK ?_ p3;clear hK K C;refine ag 15 60 ?_;refine ag 16 61 ?_;refine ay 17 fun K hK=>?_;go_simp;refine av hK ?_ D.prev;clear hK K;refine aO ?_
    go_wp2_with fail
    go_ret;exact⟨rfl,by rw[Ko.out];exact ae D⟩
end
def ES(N:aI)(W:List Int)(cap:Int):Nat->List Int->Int×List (Int×Int)
 |0,ks=>if Bd N ks=0 then(if KJ N ks<=cap then(0,KI N ks)else(26,[]))else(Bd N ks,[])
 |f+1,ks=>if Bd N ks=0 then(if KJ N ks<=cap then(0,KI N ks)else ES N W cap f (wY W ks))else(Bd N ks,[])
def KL(N:aI)(cap:Int):Int:=if fQ N=0 then(ES N (fU N).1 cap N.ids.length N.ids).1 else fQ N
def KM(N:aI)(cap:Int):List (Int×Int):=if fQ N=0 then(ES N (fU N).1 cap N.ids.length N.ids).2 else[]
def aqM(w:World)(V:List (Int×Int))(E:Int)(e:Ending)(w':World):Prop:=
 ∃K A c,e=.returned (.tuple #[K,.slice A V.length c,E])/\bX w' w.heap.size A c V/\ak w' w
def VC(g:Nat)(w:World):Nat:=match w.cell? ⟨g,3,none⟩with|some (.slice _ n _)=>n|_=>0
section
variable{p w w' u:World}{A B AK:Option Addr}{n m c d k g cK:Nat}{N:aI}{E cap:Int}{W ks:List Int}{V:List (Int×Int)}{a:GY}
theorem qR.adC(h:qR p w g a m W AK cK ks):VC g w=ks.length:=by
 rw[VC,h.bx.cell 3];rfl
theorem aqN[a:aX w A n B m N](Q:Hid N.fits)(hs:Hid N.small)(Gi:Hid (bU N=0))(HE:Hid (KL N cap=E))(HV:Hid (KM N cap=V)):
  Calls Tryz.prog 94 #[.agg #[.slice A n c,.slice B m d],cap] w (aqM w V E):=by
 have CB:=@bf;have HM:Hid (m=N.nodes.length):=ae a.len;have QF:m<=1000:=by rw[HM.out];exact hs.out.1
 have hE:=HE.out;have hV:=HV.out;rw[KL]at hE;rw[KM]at hV;by_cases c1:fQ N=0;rotate_left
 ·rw[if_neg c1]at hE hV;have I:=ae hE;have h0:E≠0:=by rw[<-hE];exact c1
  have b0:(E !=0)=true:=by simp[h0]
  subst hV;clear hE c1;go_enter Tryz.func94,Tryz.ntmps94
  go_upto_region 1 with fail
  refine bI (fun u0 _ kn=>?_)
  go_wp2_with (go_at_call 143;refine(aqB Q hs Gi I h0).mono ?_;rintro e u1 ⟨rfl,_⟩)
  go_ret3
  exact⟨_,none,0,rfl,bX.nil _ _,ai _ _⟩
 rw[if_pos c1]at hE hV;have I:=ae c1;obtain⟨⟨W,C,T⟩,J⟩:=lh (fU N);rw[J]at hE hV;have JQ:=ae J;have R:Hid (ES N W cap N.ids.length N.ids=(E,V)):=ae (by rw[<-hE,<-hV]);have S:Hid (∀z∈N.ids,1<=z/\z<=m):=ae fun z hz=>by have:=dR.1 hz;rw[<-HM.out]at this;exact this
 have b:Hid (N.ids.length<=m):=ae (by rw[HM.out];simp[aI.ids]);clear J hE hV c1 HE HV;go_enter Tryz.func94,Tryz.ntmps94
 go_upto_region 1 with fail
 refine bI (fun u0 _ kn=>?_)
 go_wp2_with (go_at_call 143;refine(aqC Q hs I JQ).mono ?_;rintro e u1 ⟨g,AW,cW,AK,cK,rfl,j⟩;obtain⟨p1,Oj,-,-⟩:=j.out.facts)
 go_loopw [] (fun wr=>∃(ks:List Int) (AK:Option Addr) (cK:Nat),Hid (qR u0 wr g ⟨A,n,c,B,d,AW,cW⟩ m W AK cK ks)/\Hid (∀z∈ks,1<=z/\z<=m)/\Hid (ES N W cap ks.length ks=(E,V))/\Hid (ks.length<=m)) (fun wr=>VC g wr)
 case atStart=>exact⟨N.ids,AK,cK,j,S,R,b⟩
 case round=>
  clear j S R b Oj p1;obtain⟨ks,AK,cK,j,S,R,b⟩:=hrel;obtain⟨p2,uJ,-,sk2⟩:=j.out.facts;have l:ks.length<=1000000:=by have:=b.out;omega
  obtain⟨y,hy⟩:=lh ks.length;rw[hy]at uJ;obtain⟨ge,K⟩:=lh (Bd N ks);obtain⟨gc,L⟩:=lh (KI N ks);obtain⟨gv,M⟩:=lh (KJ N ks);obtain⟨cl,hcl⟩:=lh gc.length;have r:=ae K;have D:=ae L;have F:=ae M;have U:=ae hy;have hF:=R.out;have X:(if ge=0 then(if gv<=cap then((0:Int),gc)else(match ks.length with|0=>(26,[])|f+1=>ES N W cap f (wY W ks)))else(ge,[]))=(E,V):=by
   rw[<-hF,<-K,<-M,<-L];cases ks.length<;>rfl
  have O:=ae X;clear K L M hcl hF X hy;by_cases e0:ge=0
  ·subst e0;have hF:=O.out;rw[if_pos rfl]at hF;by_cases Y:gv<=cap
   ·have t1:decide (gv<=cap)=true:=by simpa using Y
    rw[if_pos Y]at hF;injection hF with f1 f2
    subst f1 f2
    go_wp2_with (go_at_call 144;refine(OX (N:=N) Q hs j.out l r D F).mono ?_;rintro e u5 ⟨A5,c5,rfl,o5,p5⟩)
    go_ret3
    exact⟨_,A5,c5,rfl,(show aP _ _ 98 2 _ _ _ _ from o5).at.less (aH (w:=w)),ai _ _⟩
   ·have t1:decide (gv<=cap)=false:=by simpa using Y
    rw[if_neg Y]at hF;have G:=ae hF;clear hF O R Y;by_cases y0:y=0
    ·have hk0:ks=[]:=rZ (by rw[U.out];exact y0);subst hk0;have hF:=G.out;injection hF with f1 f2
     subst f1 f2;clear G
     go_wp2_with (first|(go_at_call 144;refine(OX (N:=N) Q hs j.out l r D F).mono ?_;rintro e u5 ⟨A5,c5,rfl,o5,p5⟩)|(go_at_call 145;refine(aqK j.out.at).mono ?_;rintro e u6 ⟨rfl,_⟩))
     go_ret3
     exact⟨_,none,0,rfl,bX.nil _ _,ai _ _⟩
    ·have P:(wY W ks).length+1=ks.length:=by have:=aqI W ks (by rw[U.out];omega);have:=U.out;omega
     have JO:Hid (ES N W cap (wY W ks).length (wY W ks)=(E,V)):=ae (by have:=G.out;rw[<-P]at this;exact this);have Z:=ae P;have HI3:Hid (∀z∈wY W ks,1<=z/\z<=m):=ae (aqJ S.out);have VD:y<=1000:=by have:=b.out;have:=U.out;omega
     clear P G
     go_wp2_with (first|(go_at_call 144;refine(OX (N:=N) Q hs j.out l r D F).mono ?_;rintro e u5 ⟨A5,c5,rfl,o5,p5⟩)|(go_at_call 145;refine(aqL j.out.at S U.out om VD).mono ?_;rintro e u6 ⟨rfl,Kn⟩))
     go_roundw
     case rel=>exact⟨_,AK,cK,Kn,HI3,JO,ae (by have:=Z.out;have:=b.out;omega)⟩
     case measure=>rw[Kn.out.adC,j.out.adC];have:=Z.out;omega
  ·have hF:=O.out;rw[if_neg e0]at hF;injection hF with f1 f2
   subst f1 f2;have b0:(ge !=0)=true:=by simp[e0]
   clear e0
   go_wp2_with (go_at_call 144;refine(OX (N:=N) Q hs j.out l r D F).mono ?_;rintro e u5 ⟨A5,c5,rfl,o5,p5⟩)
   go_ret3
   exact⟨_,none,0,rfl,bX.nil _ _,ai _ _⟩
end
section
variable{p w w' u:World}{A B AK:Option Addr}{n m c d k g cK y:Nat}{N:aI}{E cap pl:Int}{W ks R:List Int}{V:List (Int×Int)}
theorem aqO[aX w A n B m N](j:Hid N.fits)(hs:Hid N.small)(b:Hid (bU N=0))(hm:m<=12)(hr:Hid (yo N=R))(l:Hid (R.length=y)):
  Calls Tryz.prog 93 #[.agg #[.slice A n c,.slice B m d]] w fun e w'=>∃A c,e=.returned (.tuple #[.slice A y c,(0:Int)])/\Sl w' A y R/\ak w' w:=by
 obtain rfl:=hr.out;obtain rfl:=l.out;exact(aqy j hs b hm).mono fun e w' ⟨A,c,r,z,C⟩=>⟨A,c,r,⟨z.rd,rfl⟩,C⟩
theorem VE[aX w A n B m N](hs:Hid N.small)(b:Hid (N.ids.length=m)):Calls Tryz.prog 12 #[.agg #[.slice A n c,.slice B m d]] w fun e w'=>∃A c,e=.returned (.slice A m c)/\Sl w' A m N.ids/\ak w' w:=
 (abQ hs).mono fun e w' ⟨A,c,j,l,r⟩=>⟨A,c,by rw[j,b.out],⟨l.rd,b.out.symm⟩,r⟩
theorem aqP[a:aX w A n B m N](r:Hid N.fits)(hs:Hid N.small)(hm:m<=12)(hE:Hid (ny N N.ids=E))(hV:Hid (nP N N.ids=V)):
  Calls Tryz.prog 50 #[.agg #[.slice A n c,.slice B m d],(1:Int),cap] w (EN w E V):=by
 have F:=@bf;have z:Hid (m=N.nodes.length):=ae a.len;have b:Hid (N.ids.length=m):=ae (by rw[z.out];simp[aI.ids]);obtain⟨y,j⟩:=jS V.length;go_enter Tryz.func50,Tryz.ntmps50
 go_upto_region 1 with fail
 refine bI (fun C _ G=>?_)
 go_upto_region 3 with fail
 refine eU C aj (fun l _=>?_);refine ag 0 16 ?_;refine ag 1 17 ?_;refine ay 2 fun K hK=>?_;go_simp
 (with_reducible refine(VE hs b).mono ?_)
 rintro e l ⟨AK,cK,rfl,I,_⟩;dsimp only;refine av hK ?_;clear hK K;refine ay 3 fun K hK=>?_;go_simp
 (with_reducible refine(KH r hs om hE hV j).mono ?_)
 rintro e l ⟨AC,cC,rfl,J,D,_⟩;dsimp only;refine av hK ?_;clear hK K;refine ag 4 20 ?_;refine ag 5 21 ?_;refine ag 6 6 ?_;refine ag 7 7 ?_;refine aO ?_
 go_wp2_with fail
 go_ret2;exact⟨AC,cC,by rw[j.out];rfl,(show aP _ _ 98 2 _ _ _ _ from D).at.less (aH (w:=w)),ai _ _⟩
theorem aqQ[a:aX w A n B m N](F:Hid N.fits)(hs:Hid N.small)(b:Hid (bU N=0))(hm:m<=12)(hE:Hid (ny N (yo N)=E))(hV:Hid (nP N (yo N)=V)):
  Calls Tryz.prog 50 #[.agg #[.slice A n c,.slice B m d],(2:Int),cap] w (EN w E V):=by
 have T:=@bf;have K:Hid (m=N.nodes.length):=ae a.len;obtain⟨y,G⟩:=lh V.length;have I:=ae G;obtain⟨R,r⟩:=lh (yo N);obtain⟨z,C⟩:=lh R.length;have D:z<=1000000:=by
  obtain⟨O,L,l,M,j,J,-⟩:=look_ok b.out;have:(yo N).length<=12:=by rw[yo,j.ord];exact aqx (by rw[j.zz,<-K.out];exact hm)
  rw[r,C]at this;omega
 have P:=ae r;have Q:=ae C;rw[r]at hE hV;clear G r C;go_enter Tryz.func50,Tryz.ntmps50
 go_upto_region 1 with fail
 refine bI (fun U _ X=>?_)
 go_wp2_with (first|(go_at_call 93;refine(aqO F hs b hm P Q).mono ?_;rintro e Y ⟨AK,cK,rfl,Z,_⟩)|(go_at_call 32;refine(KH F hs D hE hV I).mono ?_;rintro e u2 ⟨AC,cC,rfl,iC,S,_⟩))
 go_ret2;exact⟨AC,cC,by rw[I.out];rfl,(show aP _ _ 98 2 _ _ _ _ from S).at.less (aH (w:=w)),ai _ _⟩
theorem aqR[aX w A n B m N](j:Hid N.fits)(hs:Hid N.small)(b:Hid (bU N=0))(l:Hid (KL N cap=E))(r:Hid (KM N cap=V))(z:Hid (V.length=y)):
  Calls Tryz.prog 94 #[.agg #[.slice A n c,.slice B m d],cap] w fun e w'=>∃K A c,e=.returned (.tuple #[K,.slice A y c,E])/\bX w' w.heap.size A c V/\ak w' w:=by
 obtain rfl:=z.out;exact aqN j hs b l r
theorem aqS[aX w A n B m N](l:Hid N.fits)(hs:Hid N.small)(b:Hid (bU N=0))(r:Hid (KL N cap=E))(z:Hid (KM N cap=V)):
  Calls Tryz.prog 50 #[.agg #[.slice A n c,.slice B m d],(3:Int),cap] w (EN w E V):=by
 have D:=@bf;obtain⟨y,j⟩:=jS V.length;go_enter Tryz.func50,Tryz.ntmps50
 go_upto_region 1 with fail
 refine bI (fun F _ G=>?_)
 go_wp2_with (go_at_call 94;refine(aqR l hs b r z j).mono ?_;rintro e I ⟨K,AC,cC,rfl,C,_⟩)
 go_ret2;exact⟨AC,cC,by rw[j.out];rfl,(show aP _ _ 98 2 _ _ _ _ from C).at.less (aH (w:=w)),ai _ _⟩
end
def Be(w:World)(pl:Int)(V:List (Int×Int))(b j l m E:Int)(e:Ending)(w':World):Prop:=
 ∃A c,e=.returned (.tuple #[.agg #[pl,.slice A V.length c,b,j,l,m],E])/\bX w' w.heap.size A c V/\ak w' w
section
variable{p w w' u:World}{A B AK:Option Addr}{n m c d k g cK y:Nat}{N:aI}{E LE cap pl P1 P2 P3 P4:Int}{LV V:List (Int×Int)}
theorem KN{x y z v s t:Value}{g:Nat}[l:Later w u](hg:w.heap.size<=g):ak ((((((u.setCell ⟨g,0,none⟩ x).setCell ⟨g,1,none⟩ y).setCell ⟨g,2,none⟩ z).setCell ⟨g,3,none⟩ v).setCell ⟨g,4,none⟩ s).setCell ⟨g,5,none⟩ t) w:=
 ⟨(((((l.st.setCell (p:=⟨g,0,none⟩) hg _).setCell (p:=⟨g,1,none⟩) hg _).setCell (p:=⟨g,2,none⟩) hg _).setCell (p:=⟨g,3,none⟩) hg _).setCell (p:=⟨g,4,none⟩) hg _).setCell (p:=⟨g,5,none⟩) hg _⟩
theorem VF{x y z v s t:Value}{g b:Nat}(h:bX u b A c V)(hp:∀ad,A=some ad->ad.block≠g):bX ((((((u.setCell ⟨g,0,none⟩ x).setCell ⟨g,1,none⟩ y).setCell ⟨g,2,none⟩ z).setCell ⟨g,3,none⟩ v).setCell ⟨g,4,none⟩ s).setCell ⟨g,5,none⟩ t) b A c V:=
 (((((h.mV (q:=⟨g,0,none⟩) hp _).mV (q:=⟨g,1,none⟩) hp _).mV (q:=⟨g,2,none⟩) hp _).mV (q:=⟨g,3,none⟩) hp _).mV (q:=⟨g,4,none⟩) hp _).mV (q:=⟨g,5,none⟩) hp _
theorem VG[aX w A n B m N](K:Hid N.fits)(hs:Hid N.small)(O:cap<=144115188075855872)
  (b:Hid (∀(u:World) [aX u A n B m N],Calls Tryz.prog 50 #[.agg #[.slice A n c,.slice B m d],pl,cap] u (EN u LE LV))) (L:LV.length<=65536)
  (r:Hid (bU N=0)) (j:Hid (LE=0)) (z:Hid (nk N cap LV=0)) (C:Hid (rR N cap LV=(P1,P2,P3,P4))):
  Calls Tryz.prog 17 #[.agg #[.slice A n c,.slice B m d],pl,cap] w (Be w pl LV P1 P2 P3 P4 0):=by
 have Q:=@bf;have R:=@dV;obtain rfl:=j.out;obtain⟨y,D⟩:=lh LV.length;have F:=ae D;rw[D]at L;have G:=r;clear D j;go_enter Tryz.func17,Tryz.ntmps17
 go_upto_region 1 with fail
 refine qd (fun I _ S P=>?_)
 go_upto_region 8 with(first|(first|(go_at_call 40;(with_reducible refine(zy K hs G).mono ?_);rintro e u ⟨rfl,_⟩))|(go_at_call 50;refine(b.out _).mono ?_;rintro e M ⟨AC,cC,rfl,l,_⟩;rw[F.out];obtain⟨l,-⟩:bX M I.heap.size AC cC LV/\True:=⟨(show aP _ _ 98 2 _ _ _ _ from l).less (aH (w:=I)),bO⟩;obtain⟨T,-⟩:Is M AC y LV/\True:=⟨⟨l.rd,F.out.symm⟩,bO⟩)|(go_at_call 14;refine(adA K hs L O z C).mono ?_;rintro e U ⟨rfl,_⟩))
 refine bI (fun X _ ks=>?_)
 go_wp2_with fail
 have J:∀ad,AC=some ad->ad.block≠w.heap.size+1:=fun ad e=>by have Y:=l.fresh ad e;have Z:=P.blk.lt;omega
 refine bM (v:=.tuple #[.agg #[pl,.slice AC y cC,P1,P2,P3,P4],(0:Int)]) ?_ rfl ⟨AC,cC,by rw[F.out],VF ((show aP _ _ 98 2 _ _ _ _ from l).at.less (aH (w:=w) (w':=I))) J,KN (fu _)⟩;rw[eG rfl];go_simp
def KO(E:Int):Value:=.tuple #[.agg #[(0:Int),.slice none 0 0,(0:Int),(0:Int),(0:Int),(0:Int)],E]
theorem au4[aX w A n B m N](l:Hid N.fits)(hs:Hid N.small)(b:Hid (bU N=E))(j:E≠0):
  Calls Tryz.prog 17 #[.agg #[.slice A n c,.slice B m d],pl,cap] w (aM w (KO E)):=by
 have r:=@bf;have z:=@dV;have C:(E !=0)=true:=by simp[j]
 clear j;go_enter Tryz.func17,Tryz.ntmps17
 go_upto_region 1 with fail
 refine qd (fun D _ F G=>?_)
 go_wp2_with (first|(go_at_call 40;(with_reducible refine(zy l hs b).mono ?_);rintro e u ⟨rfl,_⟩))
 refine bM (v:=.tuple #[.agg #[(0:Int),.slice none 0 0,(0:Int),(0:Int),(0:Int),(0:Int)],E]) ?_ rfl ⟨rfl,KN (fu _)⟩;rw[eG rfl];go_simp
theorem aqT[aX w A n B m N](r:Hid N.fits)(hs:Hid N.small)
  (b:Hid (∀(u:World) [aX u A n B m N],Calls Tryz.prog 50 #[.agg #[.slice A n c,.slice B m d],pl,cap] u (EN u LE LV)))
  (j:Hid (bU N=0)) (l:LE≠0):
  Calls Tryz.prog 17 #[.agg #[.slice A n c,.slice B m d],pl,cap] w (aM w (KO LE)):=by
 have z:=@bf;have C:=@dV;have D:(LE !=0)=true:=by simp[l]
 clear l;go_enter Tryz.func17,Tryz.ntmps17
 go_upto_region 1 with fail
 refine qd (fun F _ G I=>?_)
 go_wp2_with (first|(first|(go_at_call 40;(with_reducible refine(zy r hs j).mono ?_);rintro e u ⟨rfl,_⟩))|(go_at_call 50;refine(b.out _).mono ?_;rintro e J ⟨AC,cC,rfl,K,_⟩))
 refine bM (v:=.tuple #[.agg #[(0:Int),.slice none 0 0,(0:Int),(0:Int),(0:Int),(0:Int)],LE]) ?_ rfl ⟨rfl,KN (fu _)⟩;rw[eG rfl];go_simp
end
end Go.Proofs.YtmkjnlifimffkaaGreat
